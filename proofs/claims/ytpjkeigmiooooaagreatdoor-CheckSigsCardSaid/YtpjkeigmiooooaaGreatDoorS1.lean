/- The law CheckSigs returns true for every input: no conditions beyond the given row. -/
import Derived.Test.YtpjkeigmiooooaaGreatDoorC3
set_option linter.unusedSimpArgs false
set_option linter.unusedVariables false
set_option maxRecDepth 100000
open Go AM
namespace Go.Proofs.Tryz
theorem UO {l l':List Sg} (bad:Nd→Bool) (h1:∀ x own,bad x=false→(dG l x own).2=0→dG l' x own=dG l x own) (h2:∀ x own,bad x=true→(dG l' x own).2=12):∀ (r:List Nd) (k:Nat) (st:List Nat) (ts us:List Ty),dT l r k st ts= .inl us→dT l' r k st ts=if r.any bad then .inr 12 else .inl us:=by
 intro r
 induction r with
 |nil=>intro k st ts us h;exact h
 | cons x r ih=>
  intro k st ts us h
  simp only [dT] at h ⊢
  split at h
  ·rename_i h0
   cases hb:bad x with
   |true=>rw [List.any_cons,hb,h2 x _ hb];rfl
   |false=>
    rw [List.any_cons,hb,h1 x _ hb h0,if_pos h0,ih _ _ _ _ h,Bool.false_or]
  ·cases h
theorem UM {s:Sg} {op:Int} {nm:List UInt8} (h:¬(s.op=op∧s.name=nm)):gj s op nm=false:=by
 unfold gj
 cases h1:s.op==op with
 |false=>rfl
 |true=>
  cases h2:s.name==nm with
  |false=>rfl
  |true=>exact absurd ⟨by simpa using h1,by simpa using h2⟩ h
theorem UR {s:Sg} {op:Int} {nm:List UInt8} (h:gj s op nm=true):s.op=op∧s.name=nm∧br op=true:=by
 unfold gj at h
 simp only [Bool.and_eq_true,beq_iff_eq] at h
 exact ⟨h.1,h.2.1,h.2.2.1⟩
theorem US {l:List Sg} {op:Int} {nm:List UInt8} {t:Ty} (h:dL l op nm=some t):br op=true∧∃ s ∈ l,s.op=op∧s.name=nm:=by
 unfold dL at h
 rw [Option.map_eq_some_iff] at h
 obtain ⟨s,h1,_⟩:=h
 have h2:=UR (List.find?_some (p:=fun s=>gj s op nm) h1)
 exact ⟨h2.2.2,s,List.mem_of_find?_eq_some h1,h2.1,h2.2.1⟩
theorem UL {l:List Sg} {op:Int} {nm:List UInt8} (h:br op=false):dL l op nm=none:=by
 cases hf:dL l op nm with
 |none=>rfl
 |some t=>rw [(US hf).1] at h;cases h
theorem UT {l l':List Sg} {x:Nd} {own:List Ty} (h0:(dG l x own).2=0) (h:∀ t,dL l x.op x.name=some t→dL l' x.op x.name=some t):dG l' x own=dG l x own:=by
 cases hn:br x.op with
 |false=>unfold dG;rw [UL hn,UL hn]
 | true=>
  cases hf:dL l x.op x.name with
  |some t=>unfold dG;rw [h t hf,hf]
  |none=>
   unfold dG at h0
   rw [hf,hn] at h0
   exact absurd h0 (by show ¬((12:Int)=0);decide)
def UJ (s:Sg) (t:Ty):List Sg:= [⟨5,[111,116,104,101,114],t⟩,⟨s.op,s.name,⟨true,0,1⟩⟩,⟨s.op,s.name,⟨false,4,0⟩⟩,⟨9,s.name,s.ty⟩,⟨24,s.name,⟨true,0,0⟩⟩]++aR++ [⟨s.op,s.name,t⟩]
theorem UX (s:Sg) (t:Ty) {op:Int} {nm:List UInt8} {u:Ty} (h:dL aR op nm=some u):dL (UJ s t) op nm=some u:=by
 obtain ⟨hn,s0,hs0,e1,e2⟩:=US h
 have q0:gj ⟨5,[111,116,104,101,114],t⟩ op nm=false:=UM fun ⟨_,g2⟩=>by
  rw [← e2] at g2
  have:∀ z ∈ aR,z.name ≠ [111,116,104,101,114]:=by decide
  exact this s0 hs0 g2.symm
 have q1:gj ⟨s.op,s.name,⟨true,0,1⟩⟩ op nm=false:=by
  unfold gj;rw [show aI ⟨true,0,1⟩=false from rfl];simp
 have q2:gj ⟨s.op,s.name,⟨false,4,0⟩⟩ op nm=false:=by
  unfold gj;rw [show aI ⟨false,4,0⟩=false from rfl];simp
 have q3:gj ⟨9,s.name,s.ty⟩ op nm=false:=by
  cases hh:gj ⟨9,s.name,s.ty⟩ op nm with
  |false=>rfl
  |true=>rw [← (UR hh).1] at hn;cases hn
 have q4:gj ⟨24,s.name,⟨true,0,0⟩⟩ op nm=false:=by
  cases hh:gj ⟨24,s.name,⟨true,0,0⟩⟩ op nm with
  |false=>rfl
  |true=>
   have h1:=(UR hh).1
   unfold gj at hh
   rw [← h1] at hh
   simp at hh
 unfold dL UJ at*
 rw [Option.map_eq_some_iff] at h ⊢
 obtain ⟨z,h1,h2⟩:=h
 refine ⟨z, ?_,h2⟩
 rw [List.append_assoc,List.find?_append,List.find?_append,h1]
 simp only [List.find?_cons,q0,q1,q2,q3,q4,List.find?_nil]
 rfl
def UI (j:Nat):List Sg:=aR.take j++aR.drop (j+1)
def UK (s:Sg) (x:Nd):Bool:=x.op==s.op && x.name==s.name
theorem UU {j:Nat} (hj:j<aR.length) {op:Int} {nm:List UInt8} {u:Ty} (hb:¬(aR[j].op=op∧aR[j].name=nm)) (h:dL aR op nm=some u):dL (UI j) op nm=some u:=by
 have hd:aR=aR.take j++aR[j]::aR.drop (j+1):=by rw [← List.drop_eq_getElem_cons hj,List.take_append_drop]
 have hh:=UM hb
 generalize aR[j]=s at hd hh
 unfold dL UI at*
 rw [hd,List.find?_append,List.find?_cons,hh] at h
 rw [List.find?_append]
 exact h
theorem UV {j:Nat} (hj:j<12):dL (UI j) (aR.getD j ⟨0,[],zT⟩).op (aR.getD j ⟨0,[],zT⟩).name=none∧br (aR.getD j ⟨0,[],zT⟩).op=true:=by
 rcases (show j=0∨j=1∨j=2∨j=3∨j=4∨j=5∨j=6∨j=7∨j=8∨j=9∨j=10∨j=11 by omega) with rfl|rfl|rfl|rfl|rfl|rfl|rfl|rfl|rfl|rfl|rfl|rfl<;>exact ⟨by kernel_rfl,by kernel_rfl⟩
theorem U3 {e:List Nd} {t:Ty} (s:Sg) (v:Ty) (h:Tm aR e t) (he:e.length≤60):lV (UJ s v) e=(t,0):=by
 obtain ⟨u,hu,h1⟩:=h.types he
 have h2:eL (UJ s v) e= .inl (u++ [t]):=by
  unfold eL at h1 ⊢
  rw [if_pos (h.check he)] at h1 ⊢
  have:=UO (l:=aR) (l':=UJ s v) (fun _=>false) (fun x own _ h0=>UT h0 fun T hT=>UX s v hT) (fun x own hb=>by cases hb) e 0 [] [] _ h1
  rw [this]
  simp
 unfold lV
 rw [h2]
 simp
theorem UW {e:List Nd} {t:Ty} {j:Nat} (hj:j<12) (h:Tm aR e t) (he:e.length≤60):∃ u,eL (UI j) e=if e.any (UK (aR.getD j ⟨0,[],zT⟩)) then .inr 12 else .inl (u++ [t]):=by
 obtain ⟨u,hu,h1⟩:=h.types he
 refine ⟨u, ?_⟩
 obtain ⟨n1,n2⟩:=UV hj
 have hj2:j<aR.length:=hj
 have hg:aR.getD j ⟨0,[],zT⟩=aR[j]:=by rw [List.getD_eq_getElem?_getD,List.getElem?_eq_getElem hj2];rfl
 rw [hg] at n1 n2 ⊢
 unfold eL at h1 ⊢
 rw [if_pos (h.check he)] at h1 ⊢
 refine UO (l:=aR) (l':=UI j) (UK aR[j]) (fun x own hb h0=>UT h0 fun T hT=>UU hj2 (fun ⟨g1,g2⟩=> ?_) hT) (fun x own hb=> ?_) e 0 [] [] _ h1
 ·unfold UK at hb
  rw [← g1,← g2] at hb
  simp at hb
 ·unfold UK at hb
  simp only [Bool.and_eq_true,beq_iff_eq] at hb
  unfold dG
  rw [hb.1,hb.2,n1,n2]
  rfl
def Ve (s:Sg) (t:Ty):List Sg:= [⟨5,[111,116,104,101,114],t⟩,⟨s.op,s.name,⟨true,0,1⟩⟩,⟨s.op,s.name,⟨false,4,0⟩⟩,⟨9,s.name,s.ty⟩,⟨24,s.name,⟨true,0,0⟩⟩]
theorem U4 {e:List Sg} {j:Nat} (h:j≤e.length):List.take (j*5) (aW e)=aW (e.take j):=by
 have h1:aW e=aW (e.take j)++aW (e.drop j):=by rw [← H8,List.take_append_drop]
 rw [h1,List.take_left' (by rw [H9,List.length_take,Nat.min_eq_left h])]
theorem UN {e:List Sg} {j:Nat} (h:j≤e.length):List.drop (j*5) (aW e)=aW (e.drop j):=by
 have h1:aW e=aW (e.take j)++aW (e.drop j):=by rw [← H8,List.take_append_drop]
 rw [h1,List.drop_left' (by rw [H9,List.length_take,Nat.min_eq_left h])]
theorem UH:aR.length=12:=rfl
theorem Vg (s:Sg) (v:Ty):([.int .i64 5,.str [111,116,104,101,114],.bool v.tr,.int .i64 v.m,.int .i64 v.d,.int .i64 s.op,.str s.name,.bool true,.int .i64 0,.int .i64 1,.int .i64 s.op,.str s.name,.bool false,.int .i64 4,.int .i64 0,.int .i64 9,.str s.name,.bool s.ty.tr,.int .i64 s.ty.m,.int .i64 s.ty.d,.int .i64 24,.str s.name,.bool true,.int .i64 0,.int .i64 0]++(List.take 60 (aW aR)))=aW (Ve s v++aR):=rfl
theorem Vh (s:Sg) (v:Ty):((List.take 85 (aW (Ve s v++aR)))++ [.int .i64 s.op,.str s.name,.bool v.tr,.int .i64 v.m,.int .i64 v.d])=aW (UJ s v):=rfl
theorem Va {j:Nat} (h:j<12):([]++(List.take (((Int.toNat (j:Int)) - 0)*5) (aW aR)))=aW (List.take j aR):=by
 rw [List.nil_append,aD,Nat.sub_zero,U4 (by rw [UH];omega)]
theorem Vb {j:Nat} (h:j<12):((List.take ((0+((Int.toNat (j:Int)) - 0))*5) (aW (List.take j aR)))++(List.take ((12 - (Int.toNat (((j+1):Nat):Int)))*5) (List.drop ((0+(Int.toNat (((j+1):Nat):Int)))*5) (aW aR))))=aW (UI j):=by
 have h1:List.take (j*5) (aW (List.take j aR))=aW (List.take j aR):=List.take_of_length_le (by rw [H9,List.length_take];have:=Nat.min_le_left j aR.length;omega)
 have h2:List.take ((12 - (j+1))*5) (aW (List.drop (j+1) aR))=aW (List.drop (j+1) aR):=List.take_of_length_le (by rw [H9,List.length_drop,UH];omega)
 rw [aD,aD,Nat.sub_zero,Nat.zero_add,Nat.zero_add,UN (by rw [UH];omega),h1,h2,← H8];rfl
def U6 (q0 q1:Int) (v t:Ty) (e:List Nd) (j:Nat) (s:Sg) (p:Nat × Bool):St:=⟨[(4,.ptr 0 0 0),(5,.ptr 1 0 0),(7,.bool true),(8,.ptr 2 0 0),(9,.ref 3 0 0 e.length),(10,.ref 4 0 0 12),(11,.int .i64 (j:Int)),(12,.ptr 5 0 0),(13,.ref 6 0 0 18),(14,.bool p.2),(15,.int .i64 (p.1:Int))],[(0,⟨[.int .i64 q0,.int .i64 q1],0,false,0,0,true⟩),(1,⟨[.bool v.tr,.int .i64 v.m,.int .i64 v.d],0,false,0,0,true⟩),(2,⟨[.bool t.tr,.int .i64 t.m,.int .i64 t.d],0,false,0,0,true⟩),(3,⟨(aw e),0,false,0,5,true⟩),(4,⟨(aW aR),0,false,0,5,true⟩),(5,⟨[.int .i64 s.op,.str s.name,.bool s.ty.tr,.int .i64 s.ty.m,.int .i64 s.ty.d],0,false,0,0,true⟩),(6,⟨(aW (UJ s v)),0,false,0,5,true⟩)],.dead,[]⟩
def U8 (q0 q1:Int) (v t:Ty) (e:List Nd) (j:Nat) (s:Sg) (u:Bool):St:=⟨[(4,.ptr 0 0 0),(5,.ptr 1 0 0),(7,.bool true),(8,.ptr 2 0 0),(9,.ref 3 0 0 e.length),(10,.ref 4 0 0 12),(11,.int .i64 (j:Int)),(12,.ptr 5 0 0),(13,.ref 6 0 0 18),(14,.bool u)],[(0,⟨[.int .i64 q0,.int .i64 q1],0,false,0,0,true⟩),(1,⟨[.bool v.tr,.int .i64 v.m,.int .i64 v.d],0,false,0,0,true⟩),(2,⟨[.bool t.tr,.int .i64 t.m,.int .i64 t.d],0,false,0,0,true⟩),(3,⟨(aw e),0,false,0,5,true⟩),(4,⟨(aW aR),0,false,0,5,true⟩),(5,⟨[.int .i64 s.op,.str s.name,.bool s.ty.tr,.int .i64 s.ty.m,.int .i64 s.ty.d],0,false,0,0,true⟩),(6,⟨(aW (UJ s v)),0,false,0,5,true⟩)],.dead,[]⟩
theorem U9 (h:Nd→Bool) (l:List Nd):∀ u,goL (fun (u:Bool) y=>(.inl (u||h y):Bool ⊕ Bool)) id l u=(u||l.any h):=by
 induction l with
 |nil=>intro u;simp [goL]
 |cons y r ih=>intro u;simp only [goL];rw [ih,List.any_cons,Bool.or_assoc]
theorem U7 {nt:Nat} (hn:139≤nt) (q0 q1:Int) (v t:Ty) (e:List Nd) (j:Nat) (s:Sg) (hl:e.length<2^40):aA prog ap [] nt (ac 0 (ae f9)) (fun _=> .exit 0) (U6 q0 q1 v t e j s) (U8 q0 q1 v t e j s) (0,false) (e.any (UK s)):=by
 have hg:=U9 (UK s) e false
 rw [Bool.false_or] at hg
 rw [← hg]
 refine aA.goL (fun (u:Bool) y=>(.inl (u||UK s y):Bool ⊕ Bool)) id e (fun _ _=>True) ?_ ?_ e [] false rfl trivial
 ·intro p y r u hll _
  have hy:(List.drop ((0+(Int.toNat (p.length:Int)))*5) (aw e))=fk y++aw r:=by rw [hll,Nat.zero_add];exact jP rfl
  have hlen:p.length+(r.length+1)=e.length:=by rw [hll];simp
  refine ⟨?_,trivial⟩
  obtain ⟨r0,hy0⟩:∃ r0,(List.drop (((0+(Int.toNat (p.length:Int)))*5)+0) (aw e))= [AV.int .i64 y.op]++r0:=⟨_,by rw [← List.drop_drop,hy];rfl⟩
  obtain ⟨r4,hy4⟩:∃ r4,(List.drop (((0+(Int.toNat (p.length:Int)))*5)+4) (aw e))= [AV.str y.name]++r4:=⟨_,by rw [← List.drop_drop,hy];rfl⟩
  clear hy
  generalize p.length=k at*
  have hw:k<2^62:=by omega
  have h0:decide (((0:Nat):Int)≤(k:Int))=true:=decide_eq_true (by omega)
  have h1:decide ((k:Int)<(e.length:Int))=true:=decide_eq_true (by omega)
  show ah prog ap [] nt (ac 0 (ae f9)) (U6 q0 q1 v t e j s (k,u)) .normal (U6 q0 q1 v t e j s (k+1,u||UK s y))
  rcases tf u with b0|b0
  ·rw [show (u||UK s y)=true by simp [UK,b0]]
   exact pN 9 [] 2 3 (.c (aQ b0) (.c (aQ h1) .nil)) (.v 81 (.eq (zQ hw)) .nil) hn
  ·rcases tf (y.op==s.op) with b1|b1
   ·rw [show (u||UK s y)=(y.name==s.name) by simp [UK,b0,b1]]
    exact pN 9 [] 3 5 (.n 1 (.a (DA [.str] hy4 rfl) (.c h0 (.c h1 (.c (aQ b1) (.n 1 (.a (DA [.int .i64] hy0 rfl) (.c h0 (.c h1 (.c (aU b0) (.c (aQ h1) .nil))))))))))) (.v 81 (.eq (zQ hw)) (.v 97 (.rd1 .str hy4 rfl) (.v 88 (.rd1 (.int .i64) hy0 rfl) .nil))) hn
   ·rw [show (u||UK s y)=false by simp [UK,b0,b1]]
    exact pN 9 [] 3 1 (.c (aU b1) (.n 1 (.a (DA [.int .i64] hy0 rfl) (.c h0 (.c h1 (.c (aU b0) (.c (aQ h1) .nil))))))) (.v 81 (.eq (zQ hw)) (.v 88 (.rd1 (.int .i64) hy0 rfl) .nil)) hn
 ·intro u _
  have b0:decide ((e.length:Int)<(e.length:Int))=false:=decide_eq_false (by omega)
  exact pN 9 [] 1 0 (.c (aU b0) .nil) (.nil) hn
theorem UQ (l:List Sg) (ns:List Nd) (nl nn:Bool) (hlg:l.length<2^40) (hsm:∀ x ∈ ns,x.sm) (h:eL l ns= .inr 12):CO 28 [.sl (aW l) l.length nl,.sl (aw ns) ns.length nn,.int .i64 12] (.ret (.bool true)):=by
 have c0:=fO l ns nl nn hlg hsm
 rw [h] at c0
 exact pK [] 1 1 (.n 1 .nil) (.c c0 .nil)
theorem U5 (x:List Int) (nn:Bool) (q0 q1:Int) (v:Ty):CO 9 [.sl (iL x) x.length nn,.agg [.int .i64 q0,.int .i64 q1],.agg (bC v)] (.ret (.bool true)):=by
 obtain ⟨t,ht,ck⟩:=RL q0
 have h80:(x.take 80).length<2^62:=by rw [List.length_take];omega
 obtain ⟨e,h1,h2,h3,cm⟩:=QW ht (x.take 80) nn h80
 obtain ⟨j,hj,cj⟩:=Ej q1 12 (by omega) (by omega)
 have hj2:j<2^62:=by omega
 obtain ⟨u,hl⟩:=UW hj h1 (by omega)
 have hs:(List.drop ((0+(Int.toNat (j:Int)))*5) (aW aR))=LR (aR.getD j ⟨0,[],zT⟩)++aW (aR.drop (j+1)):=by
  have hj3:j<aR.length:=hj
  rw [aD,Nat.zero_add,UN (by omega),List.getD_eq_getElem?_getD,List.getElem?_eq_getElem hj3,Option.getD_some,List.drop_eq_getElem_cons hj3];rfl
 generalize aW (aR.drop (j+1))=rs at hs
 generalize aR.getD j ⟨0,[],zT⟩=s at hs hl
 have hmore:=U3 s v h1 (by omega)
 have hll:(UI j).length=11:=by unfold UI;rw [List.length_append,List.length_take,List.length_drop,UH];omega
 have hc:((0+((Int.toNat (j:Int)) - 0))+(12 - (Int.toNat (((j+1):Nat):Int))))=11:=by rw [aD,aD];omega
 have htk:List.take (11*5) (aW (UI j))=aW (UI j):=List.take_of_length_le (by rw [H9,hll];exact Nat.le_refl _)
 have h17:CO 17 [.sl (List.take 90 (aW (UJ s v))) 18 true,.sl (List.take (e.length*5) (aw e)) e.length true,.agg [.bool t.tr,.int .i64 t.m,.int .i64 t.d]] (.ret (.bool true)):=by
  rw [xo]
  exact Q0 (UJ s v) e true true t (by show (18:Nat)<2^40;omega) h2 hmore
 have hloop:=fun nt (hn:139≤nt)=>U7 hn q0 q1 v t e j s (by omega)
 have l0:=aA.blk (id:=0) (e':= .normal) (s:=U6 q0 q1 v t e j s (0,false)) (s':=U8 q0 q1 v t e j s (e.any (UK s))) hloop (by simp) rfl (aF.refl _) (aF.refl _)
 have l1:aC prog ap [] 139 (.block 0 (.loop (ac 0 (ae f9)))) ⟨[(0,.sl (iL x) x.length nn),(1,.agg [.int .i64 q0,.int .i64 q1]),(2,.agg [.bool v.tr,.int .i64 v.m,.int .i64 v.d]),(4,.ptr 0 0 0),(5,.ptr 1 0 0),(6,.bool false),(7,.bool true),(8,.ptr 2 0 0),(9,.ref 3 0 0 e.length),(10,.ref 4 0 0 12),(11,.int .i64 (j:Int)),(12,.ptr 5 0 0),(13,.ref 6 0 0 18),(14,.bool false),(15,.int .i64 0),(16,.dead),(79,.dead),(113,.dead)],[(0,⟨[.int .i64 q0,.int .i64 q1],0,false,0,0,true⟩),(1,⟨[.bool v.tr,.int .i64 v.m,.int .i64 v.d],0,false,0,0,true⟩),(2,⟨[.bool t.tr,.int .i64 t.m,.int .i64 t.d],0,false,0,0,true⟩),(3,⟨(aw e),0,false,0,5,true⟩),(4,⟨(aW aR),0,false,0,5,true⟩),(5,⟨[.int .i64 s.op,.str s.name,.bool s.ty.tr,.int .i64 s.ty.m,.int .i64 s.ty.d],0,false,0,0,true⟩),(6,⟨(aW (UJ s v)),0,false,0,5,true⟩)],.dead,[]⟩ (.normal) ⟨[(4,.ptr 0 0 0),(5,.ptr 1 0 0),(7,.bool true),(8,.ptr 2 0 0),(9,.ref 3 0 0 e.length),(10,.ref 4 0 0 12),(11,.int .i64 (j:Int)),(12,.ptr 5 0 0),(13,.ref 6 0 0 18),(14,.bool (e.any (UK s)))],[(0,⟨[.int .i64 q0,.int .i64 q1],0,false,0,0,true⟩),(1,⟨[.bool v.tr,.int .i64 v.m,.int .i64 v.d],0,false,0,0,true⟩),(2,⟨[.bool t.tr,.int .i64 t.m,.int .i64 t.d],0,false,0,0,true⟩),(3,⟨(aw e),0,false,0,5,true⟩),(4,⟨(aW aR),0,false,0,5,true⟩),(5,⟨[.int .i64 s.op,.str s.name,.bool s.ty.tr,.int .i64 s.ty.m,.int .i64 s.ty.d],0,false,0,0,true⟩),(6,⟨(aW (UJ s v)),0,false,0,5,true⟩)],.dead,[]⟩:=fun nt hnt=>(l0 nt hnt).weak (aF.of ⟨rfl,rfl,rfl,rfl,rfl,rfl,rfl,rfl,rfl,rfl,rfl,trivial⟩) (aF.refl _)
 have k0:decide (((0:Nat):Int)≤(j:Int))=true:=decide_eq_true (by omega)
 have k1:decide ((j:Int)<((12:Nat):Int))=true:=decide_eq_true (by omega)
 have k2:decide ((j:Int)≤((12:Nat):Int))=true:=decide_eq_true (by omega)
 have k3:decide (((0:Nat):Int)≤((j+1:Nat):Int))=true:=decide_eq_true (by omega)
 have k4:decide (((j+1:Nat):Int)≤((12:Nat):Int))=true:=decide_eq_true (by omega)
 rcases tf (e.any (UK s)) with b0|b0
 ·rw [b0,if_pos rfl] at hl
  have h28:CO 28 [.sl (List.take (((0+((Int.toNat (j:Int)) - 0))+(12 - (Int.toNat (((j+1):Nat):Int))))*5) (aW (UI j))) ((0+((Int.toNat (j:Int)) - 0))+(12 - (Int.toNat (((j+1):Nat):Int)))) true,.sl (List.take (e.length*5) (aw e)) e.length true,.int .i64 12] (.ret (.bool true)):=by
   rw [xo,hc,htk,← hll]
   exact UQ (UI j) e true true (by omega) h2 hl
  exact pK [0] 3 7 (.k 5 (aQ b0) (.c (show (Nat.beq (List.length (List.take ((12 - (Int.toNat (((j+1):Nat):Int)))*5) (List.drop ((0+(Int.toNat (((j+1):Nat):Int)))*5) (aW aR)))) ((12 - (Int.toNat (((j+1):Nat):Int)))*5))=true by first|rfl|(simp [H9,UH];done)|(simp [H9,UH];omega)|kernel_rfl) (.c (show (Nat.ble ((0+((Int.toNat (j:Int)) - 0))+(12 - (Int.toNat (((j+1):Nat):Int)))) 1099511627776)=true by first|rfl|(simp [H9,UH];done)|(simp [H9,UH];omega)|kernel_rfl) (.c (show (Nat.ble ((0+((Int.toNat (j:Int)) - 0))*5) (List.length (aW (List.take j aR))))=true by first|rfl|(simp [H9,UH];done)|(simp [H9,UH];omega)|kernel_rfl) (.k 1 k3 (.c k4 (.k 1 (show (Nat.beq (List.length (List.take (((Int.toNat (j:Int)) - 0)*5) (aW aR))) (((Int.toNat (j:Int)) - 0)*5))=true by first|rfl|(simp [H9,UH];done)|(simp [H9,UH];omega)|kernel_rfl) (.c (show (Nat.ble (0+((Int.toNat (j:Int)) - 0)) 1099511627776)=true by first|rfl|(simp [H9,UH];done)|(simp [H9,UH];omega)|kernel_rfl) (.k 3 k0 (.c k2 (.k 2 (show (Nat.ble 85 (List.length (aW (Ve s v++aR))))=true by first|rfl|(simp [H9,UH];done)|(simp [H9,UH];omega)|kernel_rfl) (.k 6 (show (Nat.beq (List.length (List.take 60 (aW aR))) 60)=true by first|rfl|(simp [H9,UH];done)|(simp [H9,UH];omega)|kernel_rfl) (.n 16 (.a (DA [.int .i64,.str,.bool,.int .i64,.int .i64] hs rfl) (.c k0 (.c k1 (.k 4 (Tk 80 x.length) (.c (Tl 80 x.length) (.n 7 .nil))))))))))))))))))) (.c h28 (.c h17 (.b 112 (Vb hj) (.v 110 (.eq (zQ hj2)) (.b 107 (Va hj) (.l l1 (.b 75 (Vh s v) (.b 67 (Vg s v) (.c iT (.v 38 (.rd [.int .i64,.str,.bool,.int .i64,.int .i64] hs rfl) (.c cj (.c Q9 (.c cm (.v 27 (.eq (Q_ 80 x nn)) (.v 26 (.eq (R0 80 x.length)) (.c Q9 (.c ck (.c LQ .nil))))))))))))))))))
 ·rw [b0,if_neg Bool.false_ne_true] at hl
  have h17b:CO 17 [.sl (List.take (((0+((Int.toNat (j:Int)) - 0))+(12 - (Int.toNat (((j+1):Nat):Int))))*5) (aW (UI j))) ((0+((Int.toNat (j:Int)) - 0))+(12 - (Int.toNat (((j+1):Nat):Int)))) true,.sl (List.take (e.length*5) (aw e)) e.length true,.agg [.bool t.tr,.int .i64 t.m,.int .i64 t.d]] (.ret (.bool true)):=by
   rw [xo,hc,htk,← hll]
   refine Q0 (UI j) e true true t (by omega) h2 ?_
   unfold lV
   rw [hl]
   simp
  exact pK [0] 3 6 (.k 8 (aU b0) (.c (show (Nat.beq (List.length (List.take ((12 - (Int.toNat (((j+1):Nat):Int)))*5) (List.drop ((0+(Int.toNat (((j+1):Nat):Int)))*5) (aW aR)))) ((12 - (Int.toNat (((j+1):Nat):Int)))*5))=true by first|rfl|(simp [H9,UH];done)|(simp [H9,UH];omega)|kernel_rfl) (.c (show (Nat.ble ((0+((Int.toNat (j:Int)) - 0))+(12 - (Int.toNat (((j+1):Nat):Int)))) 1099511627776)=true by first|rfl|(simp [H9,UH];done)|(simp [H9,UH];omega)|kernel_rfl) (.c (show (Nat.ble ((0+((Int.toNat (j:Int)) - 0))*5) (List.length (aW (List.take j aR))))=true by first|rfl|(simp [H9,UH];done)|(simp [H9,UH];omega)|kernel_rfl) (.k 1 k3 (.c k4 (.k 1 (show (Nat.beq (List.length (List.take (((Int.toNat (j:Int)) - 0)*5) (aW aR))) (((Int.toNat (j:Int)) - 0)*5))=true by first|rfl|(simp [H9,UH];done)|(simp [H9,UH];omega)|kernel_rfl) (.c (show (Nat.ble (0+((Int.toNat (j:Int)) - 0)) 1099511627776)=true by first|rfl|(simp [H9,UH];done)|(simp [H9,UH];omega)|kernel_rfl) (.k 3 k0 (.c k2 (.k 2 (show (Nat.ble 85 (List.length (aW (Ve s v++aR))))=true by first|rfl|(simp [H9,UH];done)|(simp [H9,UH];omega)|kernel_rfl) (.k 6 (show (Nat.beq (List.length (List.take 60 (aW aR))) 60)=true by first|rfl|(simp [H9,UH];done)|(simp [H9,UH];omega)|kernel_rfl) (.n 16 (.a (DA [.int .i64,.str,.bool,.int .i64,.int .i64] hs rfl) (.c k0 (.c k1 (.k 4 (Tk 80 x.length) (.c (Tl 80 x.length) (.n 7 .nil))))))))))))))))))) (.c h17b (.c h17 (.b 112 (Vb hj) (.v 110 (.eq (zQ hj2)) (.b 107 (Va hj) (.l l1 (.b 75 (Vh s v) (.b 67 (Vg s v) (.c iT (.v 38 (.rd [.int .i64,.str,.bool,.int .i64,.int .i64] hs rfl) (.c cj (.c Q9 (.c cm (.v 27 (.eq (Q_ 80 x nn)) (.v 26 (.eq (R0 80 x.length)) (.c Q9 (.c ck (.c LQ .nil))))))))))))))))))
end Go.Proofs.Tryz
set_option maxRecDepth 100000
open Go AM Go.ChangeShapes Go.WideShapes Go.ChangeAt Go.RowKit
namespace Go.Proofs.YtpjkeigmiooooaaGreatDoor.sigs
open Go.Proofs.Tryz
theorem UZ (os:Os):laidMet Tryz.prog Rows.checkSigsRow.laid ((LM os).forCall (fun _ _=>0) ⟨#[],#[.slice none 0 0,.agg #[.int .i64 0,.int .i64 0],.agg #[.bool false,.int .i64 0,.int .i64 0]],[]⟩).memory:=
 laidMet_of_run' 8 (by kernel_rfl) (by kernel_rfl)
theorem Vd (os:Os) {H:Type} (enc:TypeId × Value→H):∃ places,DataW.whole enc Tryz.prog ((LM os).forCall (fun _ _=>0) ⟨#[],#[.slice none 0 0,.agg #[.int .i64 0,.int .i64 0],.agg #[.bool false,.int .i64 0,.int .i64 0]],[]⟩).memory Tryz.f9.params.toList Rows.checkSigsSpec.vars false [.slice none 0 0,.agg #[.int .i64 0,.int .i64 0],.agg #[.bool false,.int .i64 0,.int .i64 0]] 8=some ([.nil,.agg [.lit (.int .i64 0),.lit (.int .i64 0)],.agg [.lit (.bool false),.agg [.lit (.int .i64 0),.lit (.int .i64 0)]]],[],places):=
 ⟨[],by kernel_rfl⟩
theorem UY (H:Type) (enc:TypeId × Value→H) (W:World) (base:Nat) (args:Array Value) (ds gs:List (DataW H)) (before:List MemPlace)
  (hval:∀ (j:Nat) t v,Tryz.f9.params[j]? =some t→args[j]? =some v→Value.okWide Tryz.prog W .any base t v)
  (hW:DataW.Whole enc Tryz.prog Tryz.f9.params.toList Rows.checkSigsSpec.vars false W args.toList ds gs before) (hL:laidMetH Tryz.prog Rows.checkSigsRow.laid W):
  Calls Tryz.prog 9 args W fun e W'=> ∃ v,e= .returned v∧Rows.checkSigsSpec.post enc Tryz.prog Tryz.f9 false true false false W args v W':=by
 have hW':=hW
 obtain ⟨pp,qq,hA0,hV,rfl,hfz,hnd⟩:=hW
 have hA:DataW.TrodAll enc Tryz.prog W 0 (fun _=>true) true Tryz.f9.params.toList args.toList ds pp:=hA0
 obtain ⟨al⟩:=args
 simp only at hA hW' hval ⊢
 rw [Tryz.params9] at hA hval
 obtain ⟨v0,vs0,d0,ds0,p0,q0,rfl,rfl,rfl,h0,hA0⟩:=trodAll_cons hA
 obtain ⟨v1,vs1,d1,ds1,p1,q1,rfl,rfl,rfl,h1,hA1⟩:=trodAll_cons hA0
 obtain ⟨v2,vs2,d2,ds2,p2,q2,rfl,rfl,rfl,h2,hA2⟩:=trodAll_cons hA1
 obtain ⟨rfl,rfl,rfl⟩:=trodAll_nil hA2
 obtain ⟨rfl,rfl⟩:=trodVars_none hV
 obtain ⟨L0,f0,pr0⟩:=OW (t:=34) (e:=3) (n:=4) (ks:= [.int .i64]) (by kernel_rfl) (by kernel_rfl) (by kernel_rfl) (hval 0 34 v0 rfl rfl) h0
 obtain ⟨x,e0,n0⟩:=LL (fun a:Int=> [AV.int .i64 a]) (L:=L0) (fun x hx=>SZ (f0 x hx))
 rw [e0,n0,QZ] at pr0
 have g1:=LN (n:=4) (ks:= [.int .i64,.int .i64]) (by kernel_rfl) h1
 generalize hc1:v1.cells.toList=c1 at g1
 rcases g1 with _|@⟨_,q0,_,_,g1⟩|_|_
 rcases g1 with _|@⟨_,q1,_,_,g1⟩|_|_
 cases g1
 have g2:=LN (n:=4) (ks:= [.bool,.int .i64,.int .i64]) (by kernel_rfl) h2
 generalize hc2:v2.cells.toList=c2 at g2
 rcases g2 with _|_|@⟨tr,_,_,g2⟩|_
 rcases g2 with _|@⟨_,m,_,_,g2⟩|_|_
 rcases g2 with _|@⟨_,d,_,_,g2⟩|_|_
 cases g2
 rw [FV hc1 (by simp),FV hc2 (by simp)] at hW' ⊢
 have hv:cZ (mL W) [.sl (iL x) x.length false,.agg [.int .i64 q0,.int .i64 q1],.agg (bC ⟨tr,m,d⟩)] [v0,.agg #[.int .i64 q0,.int .i64 q1],.agg #[.bool tr,.int .i64 m,.int .i64 d]]:=by
  simp only [cZ,and_true]
  refine ⟨pr0, ?_, ?_⟩
  ·simp only [PR]
   exact ⟨[.int .i64 q0,.int .i64 q1],rfl,by simp [cZ,PR]⟩
  ·simp only [PR,bC]
   exact ⟨[.bool tr,.int .i64 m,.int .i64 d],rfl,by simp [cZ,PR]⟩
 refine (JD (U5 x false q0 q1 ⟨tr,m,d⟩) (NP hL) hv).mono fun e W' ⟨he,hb⟩=> ?_
 subst he
 exact ⟨_,rfl,NZ Q4 (by kernel_rfl) hW' rfl (tb:=4) rfl (by kernel_rfl) rfl hb⟩
theorem U_ (os:Os) (started:os.Started) (H:Type) (enc:TypeId × Value→H) (F:Stop.Interp):
  ReturnsInHanded {} Tryz.checked os 9 .any ((OpenSpec.ofChange Rows.checkSigsSpec).preRow enc Tryz.prog Tryz.f9 Rows.checkSigsRow.domain false Rows.checkSigsRow.laid) (((OpenSpec.ofChange Rows.checkSigsSpec).at F).post enc Tryz.prog Tryz.f9 false true false false):=by
 obtain ⟨places,hx⟩:=Vd os enc
 refine returnsInHanded_of_row (C:=Tryz.checked) (s:=OpenSpec.ofChange Rows.checkSigsSpec) own started (by kernel_rfl) Tryz.func9
  (witness_row_at (enc:=enc) (C:=Tryz.checked) false (LM os) #[.slice none 0 0,.agg #[.int .i64 0,.int .i64 0],.agg #[.bool false,.int .i64 0,.int .i64 0]] rfl (by kernel_rfl) (by kernel_rfl) (by kernel_rfl)
   (OpenSpec.preRow_of_cond 8 hx (by kernel_rfl) (fun k hk=>by cases hk) (by kernel_rfl) (UZ os))) ?_
 intro W base args ds gs before hval hW _ _ _ hL _ _
 exact UY H enc W base args ds gs before hval hW hL
theorem Vf:Rows.CheckSigsSaid:=
 OpenClaim.holds_of_cond 9 Tryz.f9 rfl rfl rfl rfl rfl rfl rfl ⟨rfl,rfl,rfl,rfl,rfl⟩ rfl rfl rfl rfl rfl (by kernel_rfl) Tryz.func9 (by kernel_rfl)
  (of_decide_eq_true (by kernel_rfl)) (by unfold Func.isWrapper;first|(rw [if_pos (by decide+kernel)];kernel_rfl)|(rw [if_neg (by decide+kernel)];exact ⟨rfl,rfl⟩))
  (fun os started H enc _ F=>by rw [OpenClaim.pre_eq_preRow];exact U_ os started H enc F)
theorem Vc (f:FuncId) (fn:Func) (hf:Tryz.pinned.checked.prog.funcNamed Rows.checkSigsRow.func=some f) (hfn:Tryz.pinned.checked.prog.funcs[f]? =some fn):
  true=Tryz.pinned.checked.prog.looks []∧∀ (j:Nat) t,fn.params[j]? =some t→Tryz.pinned.checked.prog.wantsStandIn t=false:=by
 obtain rfl:f=9:=Option.some.inj ((show Tryz.prog.funcNamed Rows.checkSigsRow.func=some 9 by kernel_rfl).symm.trans hf)|>.symm
 obtain rfl:fn=Tryz.f9:=(Option.some.inj (Tryz.func9.symm.trans hfn)).symm
 refine ⟨by kernel_rfl,fun j t ht=> ?_⟩
 have hall:Tryz.f9.params.toList.all (fun t=> !Tryz.prog.wantsStandIn t)=true:=by kernel_rfl
 have:=List.all_eq_true.1 hall t (by simpa using Array.mem_of_getElem? ht)
 show Tryz.prog.wantsStandIn t=false
 simpa using this
theorem card:Rows.CheckSigsCardSaid:=
 Claim7.holds_tied_plain_at .later [] _ _ _ _ Vf (fun _ h=>by cases h) (by kernel_rfl) (fun _ h=>by cases h) checkSigs_row_tie rfl ⟨rfl,rfl⟩ (by kernel_rfl) rfl Vc (by kernel_rfl)
end Go.Proofs.YtpjkeigmiooooaaGreatDoor.sigs
