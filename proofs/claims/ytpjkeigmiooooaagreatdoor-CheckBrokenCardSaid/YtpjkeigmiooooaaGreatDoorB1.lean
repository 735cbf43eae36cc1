/- The law CheckBroken returns true for every input: no conditions beyond the given row. -/
import Derived.Test.YtpjkeigmiooooaaGreatDoorC3
set_option linter.unusedSimpArgs false
set_option linter.unusedVariables false
set_option maxRecDepth 100000
open Go AM
namespace Go.Proofs.Tryz
theorem UI {e:List Nd} {j:Nat} (h:j≤e.length):List.take (j*5) (aw e)=aw (e.take j):=by
 have h1:aw e=aw (e.take j)++aw (e.drop j):=by rw [← qy,List.take_append_drop]
 rw [h1,List.take_left' (by rw [aJ,List.length_take,Nat.min_eq_left h])]
theorem UL {e:List Nd} {j:Nat} (h:j≤e.length):List.drop (j*5) (aw e)=aw (e.drop j):=by
 have h1:aw e=aw (e.take j)++aw (e.drop j):=by rw [← qy,List.take_append_drop]
 rw [h1,List.drop_left' (by rw [aJ,List.length_take,Nat.min_eq_left h])]
theorem UR {e:List Nd} {j:Nat} (h:j<e.length):List.drop ((0+Int.toNat (j:Int))*5) (aw e)=fk e[j]++aw (e.drop (j+1)):=by
 rw [aD,Nat.zero_add,UL (by omega),List.drop_eq_getElem_cons h];rfl
theorem UK {e:List Nd} {j i:Nat} (h:j<e.length):List.drop (j*5+i) (aw e)=List.drop i (fk e[j]++aw (e.drop (j+1))):=by
 have:=UR h
 rw [aD,Nat.zero_add] at this
 rw [← List.drop_drop,this]
theorem UT {e:List Nd} {j i:Nat} (h:j<e.length):List.take (j*5+i) (aw e)=aw (e.take j)++List.take i (fk e[j]++aw (e.drop (j+1))):=by
 have h1:aw e=aw (e.take j)++(fk e[j]++aw (e.drop (j+1))):=by
  have:=List.drop_eq_getElem_cons h
  rw [← xn,← this,← qy,List.take_append_drop]
 have hl:(aw (e.take j)).length=j*5:=by rw [aJ,List.length_take,Nat.min_eq_left (by omega)]
 rw [h1,List.take_append,List.take_of_length_le (by omega),hl,Nat.add_sub_cancel_left]
theorem UM {e:List Nd} {j:Nat} (x:Nd) (h:j<e.length):List.take ((0+Int.toNat (j:Int))*5) (aw e)++fk x++List.drop (((0+Int.toNat (j:Int))*5)+5) (aw e)=aw (e.set j x):=by
 rw [aD,Nat.zero_add,UI (by omega),UK h,List.set_eq_take_append_cons_drop,if_pos h,qy,xn,List.append_assoc];rfl
theorem UX {e:List Nd} {j:Nat} (v:Int) (h:j<e.length):List.take (((0+Int.toNat (j:Int))*5)+0) (aw e)++ [AV.int .i64 v]++List.drop ((((0+Int.toNat (j:Int))*5)+0)+1) (aw e)=aw (e.set j {e[j] with op:=v}):=by
 rw [aD,Nat.zero_add,Nat.add_zero,UI (by omega),UK h,List.set_eq_take_append_cons_drop,if_pos h,qy,xn,List.append_assoc];rfl
theorem UW {e:List Nd} {j:Nat} (s:List UInt8) (h:j<e.length):List.take (((0+Int.toNat (j:Int))*5)+4) (aw e)++ [AV.str s]++List.drop ((((0+Int.toNat (j:Int))*5)+4)+1) (aw e)=aw (e.set j {e[j] with name:=s}):=by
 rw [aD,Nat.zero_add,UT h,Nat.add_assoc,UK h,List.set_eq_take_append_cons_drop,if_pos h,qy,xn,List.append_assoc,List.append_assoc];rfl
theorem UJ {e:List Nd} {j:Nat} {x:Nd} (he:∀ y ∈ e,y.sm) (hx:x.sm):∀ y ∈ e.set j x,y.sm:=by
 intro y hy
 rcases List.mem_or_eq_of_mem_set hy with h|rfl
 ·exact he y h
 ·exact hx
theorem UU {e:List Nd} {j:Nat} (h:j<e.length):[]++List.take (((Int.toNat (j:Int)) - 0)*5) (aw e)=aw (e.take j):=by
 rw [List.nil_append,aD,Nat.sub_zero,UI (by omega)]
theorem UV {e:List Nd} {j:Nat} (h:j<e.length):List.take ((0+((Int.toNat (j:Int)) - 0))*5) (aw (e.take j))++List.take (((Int.toNat (e.length:Int)) - (Int.toNat ((j+1:Nat):Int)))*5) (List.drop ((0+(Int.toNat ((j+1:Nat):Int)))*5) (aw e))=aw (e.take j++e.drop (j+1)):=by
 have h1:List.take (j*5) (aw (e.take j))=aw (e.take j):=List.take_of_length_le (by rw [aJ,List.length_take];have:=Nat.min_le_left j e.length;omega)
 have h2:List.take ((e.length - (j+1))*5) (aw (e.drop (j+1)))=aw (e.drop (j+1)):=List.take_of_length_le (by rw [aJ,List.length_drop];omega)
 rw [aD,aD,aD,Nat.sub_zero,Nat.zero_add,Nat.zero_add,UL (by omega),h1,h2,qy]
theorem UH (a:Int) (n:Nat) (h:0<n) (h2:n<1000):∃ k:Nat,k<n∧CO 18 [.int .i64 a,.int .i64 (n:Int)] (.ret (.int .i64 (k:Int))):=Ej a n h h2
theorem UN (x:List Int) (nn:Bool) (q0 q1 q2 q3:Int) (n:Nd):CO 5 [.sl (iL x) x.length nn,.agg [.int .i64 q0,.int .i64 q1,.int .i64 q2,.int .i64 q3],.agg (fk n)] (.ret (.bool true)):=by
 obtain ⟨t,ht,ck⟩:=RL q0
 have h80:(x.take 80).length<2^62:=by rw [List.length_take];omega
 obtain ⟨e,h1,h2,h3,cm⟩:=QW ht (x.take 80) nn h80
 have hne:0<e.length:=List.length_pos_iff.2 h1.ne
 obtain ⟨j,hj,cj⟩:=UH q1 e.length hne (by omega)
 obtain ⟨s,hs,cs⟩:=UH q2 5 (by omega) (by omega)
 have hj2:j<2^62:=by omega
 have hsm:∀ E:List Nd,(∀ y ∈ E,y.sm)→CO 12 [.sl (aW aR) 12 true,.sl (aw E) E.length true] (.ret (.bool true)):=fun E hE=>Q8 aR E true true (by decide) hE
 have hy:=UR hj
 have k0:decide (((0:Nat):Int)≤(j:Int))=true:=decide_eq_true (by omega)
 have k1:decide ((j:Int)<(e.length:Int))=true:=decide_eq_true (by omega)
 have k2:decide ((j:Int)≤(e.length:Int))=true:=decide_eq_true (by omega)
 have k3:decide ((e.length:Int)≤(e.length:Int))=true:=decide_eq_true (by omega)
 have k4:decide (((j+1:Nat):Int)≤(e.length:Int))=true:=decide_eq_true (by omega)
 have k5:decide (((0:Nat):Int)≤((j+1:Nat):Int))=true:=decide_eq_true (by omega)
 rcases (show s=0∨s=1∨s=2∨s=3∨s=4 by omega) with rfl|rfl|rfl|rfl|rfl
 ·have cn:=Ru [n] true
  have h12:CO 12 [.sl (aW aR) 12 true,.sl (List.take (e.length*5) (List.take ((0+(Int.toNat (j:Int)))*5) (aw e)++ [.int .i64 n.op,.bool n.neg,.str (List.take 60 n.num),.str (List.take 60 n.den),.str (List.take 25 n.name)]++List.drop (((0+(Int.toNat (j:Int)))*5)+5) (aw e))) e.length true] (.ret (.bool true)):=by
   have hs:=hsm (e.set j (tG n)) (UJ h2 (Rv [n] (tG n) (by simp [uX])))
   rw [← xo,← UM (tG n) hj,List.length_set] at hs
   exact hs
  exact pK [] 2 3 (.k 1 (show (Nat.ble (((0+(Int.toNat (j:Int)))*5)+5) (List.length (aw e)))=true by first|(simp [aJ];done)|(simp [aJ];omega)) (.c k0 (.c k1 (.k 20 (Tk 80 x.length) (.c (Tl 80 x.length) (.n 3 .nil)))))) (.c h12 (.c Q9 (.c cn (.c cs (.c cj (.c cm (.v 21 (.eq (Q_ 80 x nn)) (.v 20 (.eq (R0 80 x.length)) (.c ck (.c Q9 (.c LQ .nil)))))))))))
 ·obtain ⟨b,hb,cb⟩:=UH q3 26 (by omega) (by omega)
  have h12:CO 12 [.sl (aW aR) 12 true,.sl (List.take (e.length*5) (List.take (((0+(Int.toNat (j:Int)))*5)+0) (aw e)++ [.int .i64 (b:Int)]++List.drop ((((0+(Int.toNat (j:Int)))*5)+0)+1) (aw e))) e.length true] (.ret (.bool true)):=by
   have hs:=hsm (e.set j {e[j] with op:=(b:Int)}) (UJ h2 (h2 e[j] (List.getElem_mem hj)))
   rw [← xo,← UX (b:Int) hj,List.length_set] at hs
   exact hs
  exact pK [] 3 6 (.k 1 (show (Nat.ble ((((0+(Int.toNat (j:Int)))*5)+0)+1) (List.length (aw e)))=true by first|(simp [aJ];done)|(simp [aJ];omega)) (.c k0 (.c k1 (.k 12 (Tk 80 x.length) (.c (Tl 80 x.length) (.n 3 .nil)))))) (.c h12 (.c Q9 (.c cb (.c cs (.c cj (.c cm (.v 21 (.eq (Q_ 80 x nn)) (.v 20 (.eq (R0 80 x.length)) (.c ck (.c Q9 (.c LQ .nil)))))))))))
 ·obtain ⟨b,hb,cb⟩:=UH q3 6 (by omega) (by omega)
  obtain ⟨w,hw⟩:∃ w:List UInt8,b=0∧w= [105,110,99,111,109,101]∨b=1∧w= [112,111,111,114]∨b=2∧w= [116,97,120]∨b=3∧w= [115,116,97,121]∨b=4∧w= [110,111,110,101]∨b=5∧w= []:=by
   rcases (show b=0∨b=1∨b=2∨b=3∨b=4∨b=5 by omega) with rfl|rfl|rfl|rfl|rfl|rfl<;>simp
  have h12:CO 12 [.sl (aW aR) 12 true,.sl (List.take (e.length*5) (List.take (((0+(Int.toNat (j:Int)))*5)+4) (aw e)++ [.str w]++List.drop ((((0+(Int.toNat (j:Int)))*5)+4)+1) (aw e))) e.length true] (.ret (.bool true)):=by
   have hs:=hsm (e.set j {e[j] with name:=w}) (UJ h2 (h2 e[j] (List.getElem_mem hj)))
   rw [← xo,← UW w hj,List.length_set] at hs
   exact hs
  rcases hw with ⟨rfl,rfl⟩|⟨rfl,rfl⟩|⟨rfl,rfl⟩|⟨rfl,rfl⟩|⟨rfl,rfl⟩|⟨rfl,rfl⟩<;>
   exact pK [] 4 12 (.k 1 (show (Nat.ble ((((0+(Int.toNat (j:Int)))*5)+4)+1) (List.length (aw e)))=true by first|(simp [aJ];done)|(simp [aJ];omega)) (.c k0 (.c k1 (.k 16 (Tk 80 x.length) (.c (Tl 80 x.length) (.n 3 .nil)))))) (.c h12 (.c Q9 (.c cb (.c cs (.c cj (.c cm (.v 21 (.eq (Q_ 80 x nn)) (.v 20 (.eq (R0 80 x.length)) (.c ck (.c Q9 (.c LQ .nil)))))))))))
 ·have hc:((0+((Int.toNat (j:Int)) - 0))+((Int.toNat (e.length:Int)) - (Int.toNat (((j+1):Nat):Int))))=(e.take j++e.drop (j+1)).length:=by
   rw [aD,aD,aD,List.length_append,List.length_take,List.length_drop];omega
  have h12:CO 12 [.sl (aW aR) 12 true,.sl (List.take (((0+((Int.toNat (j:Int)) - 0))+((Int.toNat (e.length:Int)) - (Int.toNat (((j+1):Nat):Int))))*5) (aw (e.take j++e.drop (j+1)))) ((0+((Int.toNat (j:Int)) - 0))+((Int.toNat (e.length:Int)) - (Int.toNat (((j+1):Nat):Int)))) true] (.ret (.bool true)):=by
   rw [hc,xo]
   exact hsm _ fun z hz=>by
    rcases List.mem_append.1 hz with h|h
    ·exact h2 z (List.mem_of_mem_take h)
    ·exact h2 z (List.mem_of_mem_drop h)
  exact pK [] 5 24 (.k 1 (show (Nat.beq (List.length (List.take (((Int.toNat (e.length:Int)) - (Int.toNat (((j+1):Nat):Int)))*5) (List.drop ((0+(Int.toNat (((j+1):Nat):Int)))*5) (aw e)))) (((Int.toNat (e.length:Int)) - (Int.toNat (((j+1):Nat):Int)))*5))=true by first|(simp [aJ];done)|(simp [aJ];omega)) (.c (show (Nat.ble ((0+((Int.toNat (j:Int)) - 0))+((Int.toNat (e.length:Int)) - (Int.toNat (((j+1):Nat):Int)))) 1099511627776)=true by first|(simp [aJ];done)|(simp [aJ];omega)) (.c (show (Nat.ble ((0+((Int.toNat (j:Int)) - 0))*5) (List.length (aw (e.take j))))=true by first|(simp [aJ];done)|(simp [aJ];omega)) (.k 1 k5 (.c k4 (.c k3 (.c (show (Nat.beq (List.length (List.take (((Int.toNat (j:Int)) - 0)*5) (aw e))) (((Int.toNat (j:Int)) - 0)*5))=true by first|(simp [aJ];done)|(simp [aJ];omega)) (.c (show (Nat.ble (0+((Int.toNat (j:Int)) - 0)) 1099511627776)=true by first|(simp [aJ];done)|(simp [aJ];omega)) (.k 3 k0 (.c k2 (.k 11 (Tk 80 x.length) (.c (Tl 80 x.length) (.n 3 .nil))))))))))))) (.c h12 (.c Q9 (.b 92 (UV hj) (.v 90 (.eq (zQ hj2)) (.b 87 (UU hj) (.c cs (.c cj (.c cm (.v 21 (.eq (Q_ 80 x nn)) (.v 20 (.eq (R0 80 x.length)) (.c ck (.c Q9 (.c LQ .nil)))))))))))))
 ·obtain ⟨b,hb,cb⟩:=UH q3 e.length hne (by omega)
  have hz:=UR hb
  have b0:decide (((0:Nat):Int)≤(b:Int))=true:=decide_eq_true (by omega)
  have b1:decide ((b:Int)<(e.length:Int))=true:=decide_eq_true (by omega)
  have hl:(e.set j e[b]).length=e.length:=List.length_set ..
  have hb2:b<(e.set j e[b]).length:=by omega
  have hq:∀ w ∈ (e.set j e[b]).set b e[j],w.sm:=UJ (UJ h2 (h2 e[b] (List.getElem_mem hb))) (h2 e[j] (List.getElem_mem hj))
  have e1:=UM e[b] hj
  have e2:=UM e[j] hb2
  rw [← e1] at e2
  obtain ⟨y,hyd⟩:∃ y,y=e[j]:=⟨_,rfl⟩
  obtain ⟨z,hzd⟩:∃ z,z=e[b]:=⟨_,rfl⟩
  rw [← hyd] at hy
  rw [← hzd] at hz
  have h12:CO 12 [.sl (aW aR) 12 true,.sl (List.take (e.length*5) (List.take ((0+(Int.toNat (b:Int)))*5) (List.take ((0+(Int.toNat (j:Int)))*5) (aw e)++ [.int .i64 z.op,.bool z.neg,.str z.num,.str z.den,.str z.name]++List.drop (((0+(Int.toNat (j:Int)))*5)+5) (aw e))++ [.int .i64 y.op,.bool y.neg,.str y.num,.str y.den,.str y.name]++List.drop (((0+(Int.toNat (b:Int)))*5)+5) (List.take ((0+(Int.toNat (j:Int)))*5) (aw e)++ [.int .i64 z.op,.bool z.neg,.str z.num,.str z.den,.str z.name]++List.drop (((0+(Int.toNat (j:Int)))*5)+5) (aw e)))) e.length true] (.ret (.bool true)):=by
   have hs:=hsm _ hq
   rw [← xo,← e2,← hyd,← hzd,List.length_set,List.length_set] at hs
   exact hs
  exact pK [] 5 16 (.k 1 (show (Nat.ble (((0+(Int.toNat (b:Int)))*5)+5) (List.length (List.take ((0+(Int.toNat (j:Int)))*5) (aw e)++ [.int .i64 z.op,.bool z.neg,.str z.num,.str z.den,.str z.name]++List.drop (((0+(Int.toNat (j:Int)))*5)+5) (aw e))))=true by first|(simp [aJ];done)|(simp [aJ];omega)) (.c b0 (.c b1 (.k 5 (show (Nat.ble (((0+(Int.toNat (j:Int)))*5)+5) (List.length (aw e)))=true by first|(simp [aJ];done)|(simp [aJ];omega)) (.c k0 (.c k1 (.a (DA [.int .i64,.bool,.str,.str,.str] hz rfl) (.c b0 (.c b1 (.n 1 (.a (DA [.int .i64,.bool,.str,.str,.str] hy rfl) (.c k0 (.c k1 (.k 14 (Tk 80 x.length) (.c (Tl 80 x.length) (.n 3 .nil)))))))))))))))) (.c h12 (.c Q9 (.v 45 (.rd [.int .i64,.bool,.str,.str,.str] hz rfl) (.v 39 (.rd [.int .i64,.bool,.str,.str,.str] hy rfl) (.c cb (.c cs (.c cj (.c cm (.v 21 (.eq (Q_ 80 x nn)) (.v 20 (.eq (R0 80 x.length)) (.c ck (.c Q9 (.c LQ .nil)))))))))))))
end Go.Proofs.Tryz
set_option maxRecDepth 100000
open Go AM Go.ChangeShapes Go.WideShapes Go.ChangeAt Go.RowKit
namespace Go.Proofs.YtpjkeigmiooooaaGreatDoor.broken
open Go.Proofs.Tryz
theorem UQ (os:Os):laidMet Tryz.prog Rows.checkBrokenRow.laid ((LM os).forCall (fun _ _=>0) ⟨#[],#[.slice none 0 0,.agg #[.int .i64 0,.int .i64 0,.int .i64 0,.int .i64 0],.agg #[.int .i64 0,.bool false,.string ⟨#[]⟩,.string ⟨#[]⟩,.string ⟨#[]⟩]],[]⟩).memory:=
 laidMet_of_run' 8 (by kernel_rfl) (by kernel_rfl)
theorem UZ (os:Os) {H:Type} (enc:TypeId × Value→H):∃ places,DataW.whole enc Tryz.prog ((LM os).forCall (fun _ _=>0) ⟨#[],#[.slice none 0 0,.agg #[.int .i64 0,.int .i64 0,.int .i64 0,.int .i64 0],.agg #[.int .i64 0,.bool false,.string ⟨#[]⟩,.string ⟨#[]⟩,.string ⟨#[]⟩]],[]⟩).memory Tryz.f5.params.toList Rows.checkBrokenSpec.vars false [.slice none 0 0,.agg #[.int .i64 0,.int .i64 0,.int .i64 0,.int .i64 0],.agg #[.int .i64 0,.bool false,.string ⟨#[]⟩,.string ⟨#[]⟩,.string ⟨#[]⟩]] 8=some ([.nil,.agg [.lit (.int .i64 0),.lit (.int .i64 0),.lit (.int .i64 0),.lit (.int .i64 0)],.agg [.lit (.int .i64 0),.agg [.lit (.bool false),.lit (.string []),.lit (.string [])],.lit (.string [])]],[],places):=
 ⟨[],by kernel_rfl⟩
theorem UO (H:Type) (enc:TypeId × Value→H) (W:World) (base:Nat) (args:Array Value) (ds gs:List (DataW H)) (before:List MemPlace)
  (hval:∀ (j:Nat) t v,Tryz.f5.params[j]? =some t→args[j]? =some v→Value.okWide Tryz.prog W .any base t v)
  (hW:DataW.Whole enc Tryz.prog Tryz.f5.params.toList Rows.checkBrokenSpec.vars false W args.toList ds gs before) (hL:laidMetH Tryz.prog Rows.checkBrokenRow.laid W):
  Calls Tryz.prog 5 args W fun e W'=> ∃ v,e= .returned v∧Rows.checkBrokenSpec.post enc Tryz.prog Tryz.f5 false true false false W args v W':=by
 have hW':=hW
 obtain ⟨pp,qq,hA0,hV,rfl,hfz,hnd⟩:=hW
 have hA:DataW.TrodAll enc Tryz.prog W 0 (fun _=>true) true Tryz.f5.params.toList args.toList ds pp:=hA0
 obtain ⟨al⟩:=args
 simp only at hA hW' hval ⊢
 rw [Tryz.params5] at hA hval
 obtain ⟨v0,vs0,d0,ds0,p0,q0,rfl,rfl,rfl,h0,hA0⟩:=trodAll_cons hA
 obtain ⟨v1,vs1,d1,ds1,p1,q1,rfl,rfl,rfl,h1,hA1⟩:=trodAll_cons hA0
 obtain ⟨v2,vs2,d2,ds2,p2,q2,rfl,rfl,rfl,h2,hA2⟩:=trodAll_cons hA1
 obtain ⟨rfl,rfl,rfl⟩:=trodAll_nil hA2
 obtain ⟨rfl,rfl⟩:=trodVars_none hV
 obtain ⟨L0,f0,pr0⟩:=OW (t:=34) (e:=3) (n:=4) (ks:= [.int .i64]) (by kernel_rfl) (by kernel_rfl) (by kernel_rfl) (hval 0 34 v0 rfl rfl) h0
 obtain ⟨x,e0,n0⟩:=LL (fun a:Int=> [AV.int .i64 a]) (L:=L0) (fun x hx=>SZ (f0 x hx))
 rw [e0,n0,QZ] at pr0
 have f1:=LN (n:=4) (ks:= [.int .i64,.int .i64,.int .i64,.int .i64]) (by kernel_rfl) h1
 have f2:=LN (n:=4) (ks:= [.int .i64,.bool,.str,.str,.str]) (by kernel_rfl) h2
 generalize hc1:v1.cells.toList=c1 at f1
 generalize hc2:v2.cells.toList=c2 at f2
 rcases f1 with _|@⟨_,q0,_,_,f1⟩|_|_
 rcases f1 with _|@⟨_,q1,_,_,f1⟩|_|_
 rcases f1 with _|@⟨_,q2,_,_,f1⟩|_|_
 rcases f1 with _|@⟨_,q3,_,_,f1⟩|_|_
 cases f1
 rcases f2 with _|@⟨_,op,_,_,f2⟩|_|_
 rcases f2 with _|_|@⟨neg,_,_,f2⟩|_
 rcases f2 with _|_|_|@⟨s1,_,_,f2⟩
 rcases f2 with _|_|_|@⟨s2,_,_,f2⟩
 rcases f2 with _|_|_|@⟨s3,_,_,f2⟩
 cases f2
 rw [FV hc1 (by simp),FV hc2 (by simp)] at hW' ⊢
 have hv:cZ (mL W) [.sl (iL x) x.length false,.agg [.int .i64 q0,.int .i64 q1,.int .i64 q2,.int .i64 q3],.agg (fk ⟨op,neg,s1.data.toList,s2.data.toList,s3.data.toList⟩)] [v0,.agg #[.int .i64 q0,.int .i64 q1,.int .i64 q2,.int .i64 q3],.agg #[.int .i64 op,.bool neg,.string s1,.string s2,.string s3]]:=by
  simp only [cZ,and_true]
  refine ⟨pr0, ?_, ?_⟩
  ·simp only [PR]
   exact ⟨[.int .i64 q0,.int .i64 q1,.int .i64 q2,.int .i64 q3],rfl,by simp [cZ,PR]⟩
  ·simp only [PR,fk]
   exact ⟨[.int .i64 op,.bool neg,.string s1,.string s2,.string s3],rfl,by simp [cZ,PR]⟩
 refine (JD (UN x false q0 q1 q2 q3 ⟨op,neg,s1.data.toList,s2.data.toList,s3.data.toList⟩) (NP hL) hv).mono fun e W' ⟨he,hb⟩=> ?_
 subst he
 exact ⟨_,rfl,NZ Q4 (by kernel_rfl) hW' rfl (tb:=4) rfl (by kernel_rfl) rfl hb⟩
theorem US (os:Os) (started:os.Started) (H:Type) (enc:TypeId × Value→H) (F:Stop.Interp):
  ReturnsInHanded {} Tryz.checked os 5 .any ((OpenSpec.ofChange Rows.checkBrokenSpec).preRow enc Tryz.prog Tryz.f5 Rows.checkBrokenRow.domain false Rows.checkBrokenRow.laid) (((OpenSpec.ofChange Rows.checkBrokenSpec).at F).post enc Tryz.prog Tryz.f5 false true false false):=by
 obtain ⟨places,hx⟩:=UZ os enc
 refine returnsInHanded_of_row (C:=Tryz.checked) (s:=OpenSpec.ofChange Rows.checkBrokenSpec) own started (by kernel_rfl) Tryz.func5
  (witness_row_at (enc:=enc) (C:=Tryz.checked) false (LM os) #[.slice none 0 0,.agg #[.int .i64 0,.int .i64 0,.int .i64 0,.int .i64 0],.agg #[.int .i64 0,.bool false,.string ⟨#[]⟩,.string ⟨#[]⟩,.string ⟨#[]⟩]] rfl (by kernel_rfl) (by kernel_rfl) (by kernel_rfl)
   (OpenSpec.preRow_of_cond 8 hx (by kernel_rfl) (fun k hk=>by cases hk) (by kernel_rfl) (UQ os))) ?_
 intro W base args ds gs before hval hW _ _ _ hL _ _
 exact UO H enc W base args ds gs before hval hW hL
theorem U3:Rows.CheckBrokenSaid:=
 OpenClaim.holds_of_cond 5 Tryz.f5 rfl rfl rfl rfl rfl rfl rfl ⟨rfl,rfl,rfl,rfl,rfl⟩ rfl rfl rfl rfl rfl (by kernel_rfl) Tryz.func5 (by kernel_rfl)
  (of_decide_eq_true (by kernel_rfl)) (by unfold Func.isWrapper;first|(rw [if_pos (by decide+kernel)];kernel_rfl)|(rw [if_neg (by decide+kernel)];exact ⟨rfl,rfl⟩))
  (fun os started H enc _ F=>by rw [OpenClaim.pre_eq_preRow];exact US os started H enc F)
theorem UY (f:FuncId) (fn:Func) (hf:Tryz.pinned.checked.prog.funcNamed Rows.checkBrokenRow.func=some f) (hfn:Tryz.pinned.checked.prog.funcs[f]? =some fn):
  true=Tryz.pinned.checked.prog.looks []∧∀ (j:Nat) t,fn.params[j]? =some t→Tryz.pinned.checked.prog.wantsStandIn t=false:=by
 obtain rfl:f=5:=Option.some.inj ((show Tryz.prog.funcNamed Rows.checkBrokenRow.func=some 5 by kernel_rfl).symm.trans hf)|>.symm
 obtain rfl:fn=Tryz.f5:=(Option.some.inj (Tryz.func5.symm.trans hfn)).symm
 refine ⟨by kernel_rfl,fun j t ht=> ?_⟩
 have hall:Tryz.f5.params.toList.all (fun t=> !Tryz.prog.wantsStandIn t)=true:=by kernel_rfl
 have:=List.all_eq_true.1 hall t (by simpa using Array.mem_of_getElem? ht)
 show Tryz.prog.wantsStandIn t=false
 simpa using this
theorem card:Rows.CheckBrokenCardSaid:=
 Claim7.holds_tied_plain_at .later [] _ _ _ _ U3 (fun _ h=>by cases h) (by kernel_rfl) (fun _ h=>by cases h) checkBroken_row_tie rfl ⟨rfl,rfl⟩ (by kernel_rfl) rfl UY (by kernel_rfl)
end Go.Proofs.YtpjkeigmiooooaaGreatDoor.broken
