/- Contracts of functions that the law reaches, each by its own hypotheses; joined by a program of mine. -/
import Derived.Test.YtokiomlellclkaaGreatDoorC1
import Derived.Test.YtokiomlellclkaaGreatDoorM5
import Derived.Test.YtokiomlellclkaaGreatDoorM4
import Derived.Test.YtokiomlellclkaaGreatDoorCards
import Derived.Test.YtokiomlellclkaaGreatDoorTie
import Derived.Deep.DeepHandedRow
import Derived.RangeFuncBox
import Derived.RangeFuncCalls
import Derived.RangeFuncLeaves
import Derived.Shelf.Abstract
import Derived.WalkKit
import Derived.OwnWalkIn
import Derived.TacticsInMore
import Derived.LoopNIn
import Derived.LoopIn
set_option linter.unusedSimpArgs false
set_option linter.unusedVariables false
set_option maxRecDepth 100000
set_option linter.unusedVariables false
open Go AM
namespace Go.Proofs.Tryz
abbrev zcc2_0 : List AV := [.int .i64 0,.int .i64 0,.int .i64 0,.int .i64 1,.int .i64 0,.int .i64 2,.int .i64 0,.int .i64 3,.int .i64 1,.int .i64 0,.int .i64 1,.int .i64 1,.int .i64 1,.int .i64 2,.int .i64 1,.int .i64 3]
abbrev zcc2_1 : List AV := [.int .i64 6,.bool false,.str [],.str [],.str [97],.int .i64 8,.bool false,.str [],.str [],.str [99],.int .i64 9,.bool false,.str [],.str [],.str []]
abbrev zcc2_2 : List AV := [.bool false,.str [],.str [1],.bool false,.str [1],.str [5],.bool false,.str [5],.str [1],.bool false,.str [2],.str [5]]
abbrev zcc2_3 : List AV := [.bool false,.str [],.str [1],.bool false,.str [1],.str [5],.bool false,.str [5],.str [1],.bool true,.str [1],.str [5]]
abbrev zcc2_4 : List AV := [.int .i64 0,.int .i64 0,.int .i64 0,.int .i64 1,.int .i64 0,.int .i64 2,.int .i64 0,.int .i64 3]
abbrev zcc2_5 : List AV := [.int .i64 0,.int .i64 1,.int .i64 0,.int .i64 2,.int .i64 1,.int .i64 1,.int .i64 1,.int .i64 2]
abbrev zcc2_6 : List AV := [.int .i64 5,.bool false,.str [],.str [],.str [120]]
abbrev zcc2_7 : List AV := [.int .i64 6,.bool false,.str [],.str [],.str [100]]
abbrev zcc2_8 : List AV := [.int .i64 5,.bool false,.str [],.str [],.str [98]]
abbrev zcc2_9 : List AV := [.int .i64 1,.bool false,.str [1],.str [1],.str []]
abbrev zcc2_10 : List AV := [.int .i64 6,.bool false,.str [],.str [],.str [98]]
def iM (l:List (List Int)):List AV:=l.map fun x=> .sl (iL x) x.length false
def OL (x:Pv):List AV:= [.str x.nm,.bool x.tr,.int .i64 x.tm,.int .i64 x.td,.sl (cO x.body) x.body.length true,.bool x.ch,.bool x.sn,.str x.sa,.str x.sd,.bool x.cn,.str x.ca,.str x.cd]
def qF (l:List Pv):List AV:=l.flatMap OL
theorem bu {bd:List Nd} {a:Nat} (h:bd.length=a) (x:List Nd):List.take (a*5) (cO bd)++cO x=cO (bd++x):=by
 have e:(cO bd).length=a*5:=by rw [← h];exact qU nd5 bd
 rw [List.take_of_length_le (by omega)]
 unfold cO
 rw [List.flatMap_append]
theorem aj {bd:List Nd} {a:Nat} (h:bd.length=a):(cO bd).length=a*5:=by rw [← h];exact qU nd5 bd
theorem Uk {k:Nat} (h:k<2^62):AV.int .i64 (IntKind.wrap .i64 (((1:Nat):Int)+(k:Int)))= .int .i64 ((k+1:Nat):Int):=by
 have e:IntKind.wrap .i64 (((1:Nat):Int)+(k:Int))=((k+1:Nat):Int):=by rw [nD]<;>omega
 rw [e]
def fo (r:Nat):Int:=match r with|0=>9|1=>13|_=>14
theorem nM {r:Nat} (h:r<3):∃ rest,List.drop ((0+(Int.toNat (r:Int)))*1) [AV.int .i64 9,.int .i64 13,.int .i64 14]= [AV.int .i64 (fo r)]++rest:=by
 rw [fD]
 match r,h with
 |0,_=>exact ⟨_,rfl⟩
 |1,_=>exact ⟨_,rfl⟩
 |2,_=>exact ⟨_,rfl⟩
def min (l:List (List Int)) (nl:Bool) (mn k tm:Nat) (SX:List AV) (nm0:List UInt8) (s1:Bool) (s2 s3:List UInt8) (c1:Bool) (c2 c3:List UInt8) (xs:List Int) (nx:Bool) (p:Nat × Nat × List Nd × Nat):St:=⟨[(0,.sl (iM l) l.length nl),(2,.ptr 0 0 0),(3,.ptr 1 0 0),(4,.ptr 2 0 0),(6,.int .i64 (mn:Int)),(7,.int .i64 (k:Int)),(8,.ptr 3 0 0),(9,.ptr 4 0 0),(11,.int .i64 (tm:Int)),(12,.int .i64 (p.2.2.2:Int))],[(0,⟨[.nilS,.nilS,.nilS],0,false,0,0,true⟩),(1,⟨[.bool false,.int .i64 1,.int .i64 0],0,false,0,0,true⟩),(2,⟨[.ref 5 0 0 1,.ref 6 0 0 1,.nilS],0,false,0,0,false⟩),(3,⟨[.sl (iL xs) xs.length nx,.int .i64 (p.1:Int)],0,false,0,0,true⟩),(4,⟨[.str nm0,.bool false,.int .i64 1,.int .i64 0,.ref 7 0 0 p.2.1,.bool false,.bool s1,.str s2,.str s3,.bool c1,.str c2,.str c3],0,false,0,0,false⟩),(5,⟨[.str [120],.bool false,.int .i64 1,.int .i64 0],0,false,0,4,true⟩),(6,⟨SX,0,false,0,4,true⟩),(7,⟨(cO p.2.2.1),0,false,0,5,true⟩)],.dead,[]⟩
theorem Lr {nt:Nat} (w:140≤nt) (l:List (List Int)) (F:Bool) (mn k tm:Nat) (SX:List AV) (i:List UInt8) (A:Bool) (D x:List UInt8) (I:Bool) (J y:List UInt8) (a:List Int) (f:Bool) (B b j:Nat) (bd:List Nd) (K C G k1 k2 k3:Nat) (g:List UInt8) (n:bd.length=b) (M:b<2^30) (t:j<tm) (Q:tm<2^30) (N:((K:Int)==((0:Nat):Int))=true) (O:((G:Int)==((0:Nat):Int))=true)
  (cn1:ae prog ap 63 [.ptr 0 0 0,.int .i64 3] [⟨[.sl (iL a) a.length f,.int .i64 (B:Int)],0,false,0,0,true⟩] (.ret (.int .i64 (K:Int))) [⟨[.sl (iL a) a.length f,.int .i64 (k1:Int)],0,false,0,0,true⟩]) (cn2:ae prog ap 63 [.ptr 0 0 0,.int .i64 (mn:Int)] [⟨[.sl (iL a) a.length f,.int .i64 (k1:Int)],0,false,0,0,true⟩] (.ret (.int .i64 (C:Int))) [⟨[.sl (iL a) a.length f,.int .i64 (k2:Int)],0,false,0,0,true⟩]) (ca1:CO 62 [.int .i64 (C:Int)] (.ret (.str g))) (cn3:ae prog ap 63 [.ptr 0 0 0,.int .i64 12] [⟨[.sl (iL a) a.length f,.int .i64 (k2:Int)],0,false,0,0,true⟩] (.ret (.int .i64 (G:Int))) [⟨[.sl (iL a) a.length f,.int .i64 (k3:Int)],0,false,0,0,true⟩]):
  ah prog ap [] nt (af 2 (ag f24)) (min l F mn k tm SX i A D x I J y a f (B,b,bd,j)) .normal (min l F mn k tm SX i A D x I J y a f (k3,((b+1)+1),bd++ [⟨8,false,[],[],g⟩,⟨10,false,[],[],[]⟩],j+1)):=by
 have P:j<2^62:=by omega
 have L:(decide ((j:Int)<(tm:Int)))=true:=kl t
 obtain ⟨o,c⟩:∃ z,z=bd++ [⟨8,false,[],[],g⟩]:=⟨_,rfl⟩
 have r:=bu n [⟨8,false,[],[],g⟩]
 rw [← c] at r
 have e:o.length=(b+1):=by rw [c,List.length_append,n];rfl
 obtain ⟨E,d⟩:∃ z,z=o++ [⟨10,false,[],[],[]⟩]:=⟨_,rfl⟩
 have q:=bu e [⟨10,false,[],[],[]⟩]
 rw [← d] at q
 have m:E.length=((b+1)+1):=by rw [d,List.length_append,e];rfl
 have h:bd++ [⟨8,false,[],[],g⟩,⟨10,false,[],[],[]⟩]=E:=by rw [d,c];simp
 rw [h]
 change List.take (b*5) (cO bd)++ [AV.int .i64 8,.bool false,.str [],.str [],.str g]=_ at r
 change List.take ((b+1)*5) (cO o)++ [AV.int .i64 10,.bool false,.str [],.str [],.str []]=_ at q
 have p:(Nat.ble ((b+1)+1) 1099511627776)=true:=(Nat.ble_eq_true_of_le (by omega))
 have v:(Nat.ble ((b+1)*5) (List.length (cO o)))=true:=(Nat.ble_eq_true_of_le (by simp only [aj n,aj e,aj m];omega))
 have s:(Nat.ble (b+1) 1099511627776)=true:=(Nat.ble_eq_true_of_le (by omega))
 have u:(Nat.ble (b*5) (List.length (cO bd)))=true:=(Nat.ble_eq_true_of_le (by simp only [aj n,aj e,aj m];omega))
 unfold min
 clear c d
 exact pN 24 [] 3 7 (.k 2 p (.c v (.k 2 (aN O) (.k 2 s (.c u (.k 2 (aN N) (.c (aN L) .nil))))))) (.v 71 (.eq (wpS P)) (.b 94 q (.c cn3 (.b 84 r (.c ca1 (.c cn2 (.c cn1 .nil))))))) w
theorem Je {nt:Nat} (M:140≤nt) (l:List (List Int)) (V:Bool) (mn k tm:Nat) (SX:List AV) (s:List UInt8) (P:Bool) (U N:List UInt8) (X:Bool) (Y O:List UInt8) (a:List Int) (e:Bool) (Q b j:Nat) (bd:List Nd) (Z R o f k1 k2 k3 k4:Nat) (p:List UInt8) (hs:Bool) (n q T:List UInt8) (t:bd.length=b) (hnb:b<2^30) (J:j<tm) (htm:tm<2^30) (D:o<2^62) (h4:f<3) (d1:((Z:Int)==((0:Nat):Int))=true) (d2:((o:Int)==((0:Nat):Int))=false) (d3:(decide ((o:Int)<((4:Nat):Int)))=true) (d4:((o:Int)==((4:Nat):Int))=false)
  (cn1:ae prog ap 63 [.ptr 0 0 0,.int .i64 3] [⟨[.sl (iL a) a.length e,.int .i64 (Q:Int)],0,false,0,0,true⟩] (.ret (.int .i64 (Z:Int))) [⟨[.sl (iL a) a.length e,.int .i64 (k1:Int)],0,false,0,0,true⟩]) (cn2:ae prog ap 63 [.ptr 0 0 0,.int .i64 (mn:Int)] [⟨[.sl (iL a) a.length e,.int .i64 (k1:Int)],0,false,0,0,true⟩] (.ret (.int .i64 (R:Int))) [⟨[.sl (iL a) a.length e,.int .i64 (k2:Int)],0,false,0,0,true⟩]) (ca1:CO 62 [.int .i64 (R:Int)] (.ret (.str p))) (cn3:ae prog ap 63 [.ptr 0 0 0,.int .i64 12] [⟨[.sl (iL a) a.length e,.int .i64 (k2:Int)],0,false,0,0,true⟩] (.ret (.int .i64 (o:Int))) [⟨[.sl (iL a) a.length e,.int .i64 (k3:Int)],0,false,0,0,true⟩]) (cf1:CO 25 [.int .i64 1] (.ret (.agg [.bool false,.str [1],.str [1]]))) (cf2:CO 25 [.int .i64 (((o+1):Nat):Int)] (.ret (.agg [.bool false,.str T,.str [1]]))) (cq1:CO 64 [.agg [.bool false,.str [1],.str [1]],.agg [.bool false,.str T,.str [1]]] (.ret (.tup [.agg [.bool hs,.str n,.str q],.bool true]))) (cn4:ae prog ap 63 [.ptr 0 0 0,.int .i64 3] [⟨[.sl (iL a) a.length e,.int .i64 (k3:Int)],0,false,0,0,true⟩] (.ret (.int .i64 (f:Int))) [⟨[.sl (iL a) a.length e,.int .i64 (k4:Int)],0,false,0,0,true⟩]):
  ah prog ap [] nt (af 2 (ag f24)) (min l V mn k tm SX s P U N X Y O a e (Q,b,bd,j)) .normal (min l V mn k tm SX s P U N X Y O a e (k4,(((b+1)+2)+1),bd++ [⟨8,false,[],[],p⟩,⟨3,hs,n,q,[]⟩,⟨11,false,[],[],[]⟩,⟨fo f,false,[],[],[]⟩],j+1)):=by
 have hj:j<2^62:=by omega
 have hg:(decide ((j:Int)<(tm:Int)))=true:=kl J
 obtain ⟨rf,hf⟩:=nM h4
 obtain ⟨u,g⟩:∃ z,z=bd++ [⟨8,false,[],[],p⟩]:=⟨_,rfl⟩
 have C:=bu t [⟨8,false,[],[],p⟩]
 rw [← g] at C
 have d:u.length=(b+1):=by rw [g,List.length_append,t];rfl
 obtain ⟨v,i⟩:∃ z,z=u++ [⟨3,hs,n,q,[]⟩,⟨11,false,[],[],[]⟩]:=⟨_,rfl⟩
 have A:=bu d [⟨3,hs,n,q,[]⟩,⟨11,false,[],[],[]⟩]
 rw [← i] at A
 have c:v.length=((b+1)+2):=by rw [i,List.length_append,d];rfl
 obtain ⟨S,h⟩:∃ z,z=v++ [⟨fo f,false,[],[],[]⟩]:=⟨_,rfl⟩
 have B:=bu c [⟨fo f,false,[],[],[]⟩]
 rw [← h] at B
 have m:S.length=(((b+1)+2)+1):=by rw [h,List.length_append,c];rfl
 have r:bd++ [⟨8,false,[],[],p⟩,⟨3,hs,n,q,[]⟩,⟨11,false,[],[],[]⟩,⟨fo f,false,[],[],[]⟩]=S:=by rw [h,i,g];simp
 rw [r]
 change List.take (b*5) (cO bd)++ [AV.int .i64 8,.bool false,.str [],.str [],.str p]=_ at C
 change List.take ((b+1)*5) (cO u)++ [AV.int .i64 3,.bool hs,.str n,.str q,.str [],.int .i64 11,.bool false,.str [],.str [],.str []]=_ at A
 change List.take (((b+1)+2)*5) (cO v)++ [AV.int .i64 (fo f),.bool false,.str [],.str [],.str []]=_ at B
 have y:(Nat.ble (((b+1)+2)+1) 1099511627776)=true:=(Nat.ble_eq_true_of_le (by omega))
 have L:(Nat.ble (((b+1)+2)*5) (List.length (cO v)))=true:=(Nat.ble_eq_true_of_le (by simp only [aj t,aj d,aj c,aj m];omega))
 have I:(chk (.int .i64) (List.headD (List.drop ((0+(Int.toNat (f:Int)))*1) [.int .i64 9,.int .i64 13,.int .i64 14]) .dead))=true:=(by rw [hf];rfl)
 have K:(decide (((0:Nat):Int)≤(f:Int)))=true:=(k0 _)
 have w:(decide ((f:Int)<((3:Nat):Int)))=true:=(kl (by omega))
 have F:(Nat.ble ((b+1)+2) 1099511627776)=true:=(Nat.ble_eq_true_of_le (by omega))
 have G:(Nat.ble ((b+1)*5) (List.length (cO u)))=true:=(Nat.ble_eq_true_of_le (by simp only [aj t,aj d,aj c,aj m];omega))
 have x:(Nat.ble (b+1) 1099511627776)=true:=(Nat.ble_eq_true_of_le (by omega))
 have E:(Nat.ble (b*5) (List.length (cO bd)))=true:=(Nat.ble_eq_true_of_le (by simp only [aj t,aj d,aj c,aj m];omega))
 unfold min
 clear g i h
 exact pN 24 [] 5 11 (.k 2 y (.c L (.k 1 I (.c K (.c w (.k 1 (aT d4) (.k 2 F (.c G (.k 6 (aN d3) (.c (aT d2) (.k 2 x (.c E (.k 2 (aN d1) (.c (aN hg) .nil)))))))))))))) (.v 71 (.eq (wpS hj)) (.b 131 B (.v 128 (.rd1 (.int .i64) hf rfl) (.c cn4 (.b 112 A (.c cq1 (.c cf2 (.v 101 (.eq (Uk D)) (.c cf1 (.c cn3 (.b 84 C (.c ca1 (.c cn2 (.c cn1 .nil)))))))))))))) M
theorem Ls {nt:Nat} (J:140≤nt) (l:List (List Int)) (R:Bool) (mn k tm:Nat) (SX:List AV) (p:List UInt8) (M:Bool) (Q K:List UInt8) (S:Bool) (T L:List UInt8) (a:List Int) (e:Bool) (N b j:Nat) (bd:List Nd) (U O t f k1 k2 k3 k4:Nat) (n:List UInt8) (q:bd.length=b) (hnb:b<2^30) (F:j<tm) (htm:tm<2^30) (Y:f<3) (d1:((U:Int)==((0:Nat):Int))=true) (d2:((t:Int)==((0:Nat):Int))=false) (d3:(decide ((t:Int)<((4:Nat):Int)))=false) (X:((t:Int)==((4:Nat):Int))=true)
  (cn1:ae prog ap 63 [.ptr 0 0 0,.int .i64 3] [⟨[.sl (iL a) a.length e,.int .i64 (N:Int)],0,false,0,0,true⟩] (.ret (.int .i64 (U:Int))) [⟨[.sl (iL a) a.length e,.int .i64 (k1:Int)],0,false,0,0,true⟩]) (cn2:ae prog ap 63 [.ptr 0 0 0,.int .i64 (mn:Int)] [⟨[.sl (iL a) a.length e,.int .i64 (k1:Int)],0,false,0,0,true⟩] (.ret (.int .i64 (O:Int))) [⟨[.sl (iL a) a.length e,.int .i64 (k2:Int)],0,false,0,0,true⟩]) (ca1:CO 62 [.int .i64 (O:Int)] (.ret (.str n))) (cn3:ae prog ap 63 [.ptr 0 0 0,.int .i64 12] [⟨[.sl (iL a) a.length e,.int .i64 (k2:Int)],0,false,0,0,true⟩] (.ret (.int .i64 (t:Int))) [⟨[.sl (iL a) a.length e,.int .i64 (k3:Int)],0,false,0,0,true⟩]) (cn4:ae prog ap 63 [.ptr 0 0 0,.int .i64 3] [⟨[.sl (iL a) a.length e,.int .i64 (k3:Int)],0,false,0,0,true⟩] (.ret (.int .i64 (f:Int))) [⟨[.sl (iL a) a.length e,.int .i64 (k4:Int)],0,false,0,0,true⟩]):
  ah prog ap [] nt (af 2 (ag f24)) (min l R mn k tm SX p M Q K S T L a e (N,b,bd,j)) .normal (min l R mn k tm SX p M Q K S T L a e (k4,(((b+1)+1)+1),bd++ [⟨8,false,[],[],n⟩,⟨24,false,[],[],[115]⟩,⟨fo f,false,[],[],[]⟩],j+1)):=by
 have hj:j<2^62:=by omega
 have Z:(decide ((j:Int)<(tm:Int)))=true:=kl F
 obtain ⟨rf,V⟩:=nM Y
 obtain ⟨r,g⟩:∃ z,z=bd++ [⟨8,false,[],[],n⟩]:=⟨_,rfl⟩
 have A:=bu q [⟨8,false,[],[],n⟩]
 rw [← g] at A
 have d:r.length=(b+1):=by rw [g,List.length_append,q];rfl
 obtain ⟨s,i⟩:∃ z,z=r++ [⟨24,false,[],[],[115]⟩]:=⟨_,rfl⟩
 have x:=bu d [⟨24,false,[],[],[115]⟩]
 rw [← i] at x
 have c:s.length=((b+1)+1):=by rw [i,List.length_append,d];rfl
 obtain ⟨P,h⟩:∃ z,z=s++ [⟨fo f,false,[],[],[]⟩]:=⟨_,rfl⟩
 have y:=bu c [⟨fo f,false,[],[],[]⟩]
 rw [← h] at y
 have m:P.length=(((b+1)+1)+1):=by rw [h,List.length_append,c];rfl
 have o:bd++ [⟨8,false,[],[],n⟩,⟨24,false,[],[],[115]⟩,⟨fo f,false,[],[],[]⟩]=P:=by rw [h,i,g];simp
 rw [o]
 change List.take (b*5) (cO bd)++ [AV.int .i64 8,.bool false,.str [],.str [],.str n]=_ at A
 change List.take ((b+1)*5) (cO r)++ [AV.int .i64 24,.bool false,.str [],.str [],.str [115]]=_ at x
 change List.take (((b+1)+1)*5) (cO s)++ [AV.int .i64 (fo f),.bool false,.str [],.str [],.str []]=_ at y
 have w:(Nat.ble (((b+1)+1)+1) 1099511627776)=true:=(Nat.ble_eq_true_of_le (by omega))
 have I:(Nat.ble (((b+1)+1)*5) (List.length (cO s)))=true:=(Nat.ble_eq_true_of_le (by simp only [aj q,aj d,aj c,aj m];omega))
 have E:(chk (.int .i64) (List.headD (List.drop ((0+(Int.toNat (f:Int)))*1) [.int .i64 9,.int .i64 13,.int .i64 14]) .dead))=true:=(by rw [V];rfl)
 have G:(decide (((0:Nat):Int)≤(f:Int)))=true:=(k0 _)
 have u:(decide ((f:Int)<((3:Nat):Int)))=true:=(kl (by omega))
 have C:(Nat.ble ((b+1)+1) 1099511627776)=true:=(Nat.ble_eq_true_of_le (by omega))
 have D:(Nat.ble ((b+1)*5) (List.length (cO r)))=true:=(Nat.ble_eq_true_of_le (by simp only [aj q,aj d,aj c,aj m];omega))
 have v:(Nat.ble (b+1) 1099511627776)=true:=(Nat.ble_eq_true_of_le (by omega))
 have B:(Nat.ble (b*5) (List.length (cO bd)))=true:=(Nat.ble_eq_true_of_le (by simp only [aj q,aj d,aj c,aj m];omega))
 unfold min
 clear g i h
 exact pN 24 [] 5 19 (.k 2 w (.c I (.k 1 E (.c G (.c u (.k 3 C (.c D (.k 2 (aN X) (.c (aT d3) (.c (aT d2) (.k 2 v (.c B (.k 2 (aN d1) (.c (aN Z) .nil)))))))))))))) (.v 71 (.eq (wpS hj)) (.b 131 y (.v 128 (.rd1 (.int .i64) V rfl) (.c cn4 (.b 120 x (.c cn3 (.b 84 A (.c ca1 (.c cn2 (.c cn1 .nil)))))))))) J
theorem Jd {nt:Nat} (C:140≤nt) (l:List (List Int)) (L:Bool) (mn k tm:Nat) (SX:List AV) (m:List UInt8) (F:Bool) (J D:List UInt8) (M:Bool) (N E:List UInt8) (a:List Int) (c:Bool) (G b j:Nat) (bd:List Nd) (O I q d k1 k2 k3 k4:Nat) (h:List UInt8) (o:bd.length=b) (T:b<2^30) (y:j<tm) (Z:tm<2^30) (R:d<3) (U:((O:Int)==((0:Nat):Int))=true) (V:((q:Int)==((0:Nat):Int))=false) (X:(decide ((q:Int)<((4:Nat):Int)))=false) (Q:((q:Int)==((4:Nat):Int))=false)
  (cn1:ae prog ap 63 [.ptr 0 0 0,.int .i64 3] [⟨[.sl (iL a) a.length c,.int .i64 (G:Int)],0,false,0,0,true⟩] (.ret (.int .i64 (O:Int))) [⟨[.sl (iL a) a.length c,.int .i64 (k1:Int)],0,false,0,0,true⟩]) (cn2:ae prog ap 63 [.ptr 0 0 0,.int .i64 (mn:Int)] [⟨[.sl (iL a) a.length c,.int .i64 (k1:Int)],0,false,0,0,true⟩] (.ret (.int .i64 (I:Int))) [⟨[.sl (iL a) a.length c,.int .i64 (k2:Int)],0,false,0,0,true⟩]) (ca1:CO 62 [.int .i64 (I:Int)] (.ret (.str h))) (cn3:ae prog ap 63 [.ptr 0 0 0,.int .i64 12] [⟨[.sl (iL a) a.length c,.int .i64 (k2:Int)],0,false,0,0,true⟩] (.ret (.int .i64 (q:Int))) [⟨[.sl (iL a) a.length c,.int .i64 (k3:Int)],0,false,0,0,true⟩]) (cn4:ae prog ap 63 [.ptr 0 0 0,.int .i64 3] [⟨[.sl (iL a) a.length c,.int .i64 (k3:Int)],0,false,0,0,true⟩] (.ret (.int .i64 (d:Int))) [⟨[.sl (iL a) a.length c,.int .i64 (k4:Int)],0,false,0,0,true⟩]):
  ah prog ap [] nt (af 2 (ag f24)) (min l L mn k tm SX m F J D M N E a c (G,b,bd,j)) .normal (min l L mn k tm SX m F J D M N E a c (k4,((b+1)+1),bd++ [⟨8,false,[],[],h⟩,⟨fo d,false,[],[],[]⟩],j+1)):=by
 have Y:j<2^62:=by omega
 have S:(decide ((j:Int)<(tm:Int)))=true:=kl y
 obtain ⟨rf,P⟩:=nM R
 obtain ⟨p,e⟩:∃ z,z=bd++ [⟨8,false,[],[],h⟩]:=⟨_,rfl⟩
 have u:=bu o [⟨8,false,[],[],h⟩]
 rw [← e] at u
 have g:p.length=(b+1):=by rw [e,List.length_append,o];rfl
 obtain ⟨K,f⟩:∃ z,z=p++ [⟨fo d,false,[],[],[]⟩]:=⟨_,rfl⟩
 have t:=bu g [⟨fo d,false,[],[],[]⟩]
 rw [← f] at t
 have n:K.length=((b+1)+1):=by rw [f,List.length_append,g];rfl
 have i:bd++ [⟨8,false,[],[],h⟩,⟨fo d,false,[],[],[]⟩]=K:=by rw [f,e];simp
 rw [i]
 change List.take (b*5) (cO bd)++ [AV.int .i64 8,.bool false,.str [],.str [],.str h]=_ at u
 change List.take ((b+1)*5) (cO p)++ [AV.int .i64 (fo d),.bool false,.str [],.str [],.str []]=_ at t
 have s:(Nat.ble ((b+1)+1) 1099511627776)=true:=(Nat.ble_eq_true_of_le (by omega))
 have B:(Nat.ble ((b+1)*5) (List.length (cO p)))=true:=(Nat.ble_eq_true_of_le (by simp only [aj o,aj g,aj n];omega))
 have x:(chk (.int .i64) (List.headD (List.drop ((0+(Int.toNat (d:Int)))*1) [.int .i64 9,.int .i64 13,.int .i64 14]) .dead))=true:=(by rw [P];rfl)
 have A:(decide (((0:Nat):Int)≤(d:Int)))=true:=(k0 _)
 have r:(decide ((d:Int)<((3:Nat):Int)))=true:=(kl (by omega))
 have v:(Nat.ble (b+1) 1099511627776)=true:=(Nat.ble_eq_true_of_le (by omega))
 have w:(Nat.ble (b*5) (List.length (cO bd)))=true:=(Nat.ble_eq_true_of_le (by simp only [aj o,aj g,aj n];omega))
 unfold min
 clear e f
 exact pN 24 [] 5 3 (.k 2 s (.c B (.k 1 x (.c A (.c r (.k 1 (aT Q) (.c (aT X) (.c (aT V) (.k 2 v (.c w (.k 2 (aN U) (.c (aN S) .nil)))))))))))) (.v 71 (.eq (wpS Y)) (.b 131 t (.v 128 (.rd1 (.int .i64) P rfl) (.c cn4 (.c cn3 (.b 84 u (.c ca1 (.c cn2 (.c cn1 .nil))))))))) C
theorem Lm {nt:Nat} (w:140≤nt) (l:List (List Int)) (F:Bool) (mn k tm:Nat) (SX:List AV) (i:List UInt8) (A:Bool) (D x:List UInt8) (I:Bool) (J y:List UInt8) (a:List Int) (f:Bool) (B b j:Nat) (bd:List Nd) (K C G k1 k2 k3:Nat) (g:List UInt8) (n:bd.length=b) (M:b<2^30) (t:j<tm) (Q:tm<2^30) (N:((K:Int)==((0:Nat):Int))=false) (O:((G:Int)==((0:Nat):Int))=true)
  (cn1:ae prog ap 63 [.ptr 0 0 0,.int .i64 3] [⟨[.sl (iL a) a.length f,.int .i64 (B:Int)],0,false,0,0,true⟩] (.ret (.int .i64 (K:Int))) [⟨[.sl (iL a) a.length f,.int .i64 (k1:Int)],0,false,0,0,true⟩]) (cn2:ae prog ap 63 [.ptr 0 0 0,.int .i64 (mn:Int)] [⟨[.sl (iL a) a.length f,.int .i64 (k1:Int)],0,false,0,0,true⟩] (.ret (.int .i64 (C:Int))) [⟨[.sl (iL a) a.length f,.int .i64 (k2:Int)],0,false,0,0,true⟩]) (ca1:CO 62 [.int .i64 (C:Int)] (.ret (.str g))) (cn3:ae prog ap 63 [.ptr 0 0 0,.int .i64 12] [⟨[.sl (iL a) a.length f,.int .i64 (k2:Int)],0,false,0,0,true⟩] (.ret (.int .i64 (G:Int))) [⟨[.sl (iL a) a.length f,.int .i64 (k3:Int)],0,false,0,0,true⟩]):
  ah prog ap [] nt (af 2 (ag f24)) (min l F mn k tm SX i A D x I J y a f (B,b,bd,j)) .normal (min l F mn k tm SX i A D x I J y a f (k3,((b+1)+1),bd++ [⟨6,false,[],[],g⟩,⟨10,false,[],[],[]⟩],j+1)):=by
 have P:j<2^62:=by omega
 have L:(decide ((j:Int)<(tm:Int)))=true:=kl t
 obtain ⟨o,c⟩:∃ z,z=bd++ [⟨6,false,[],[],g⟩]:=⟨_,rfl⟩
 have r:=bu n [⟨6,false,[],[],g⟩]
 rw [← c] at r
 have e:o.length=(b+1):=by rw [c,List.length_append,n];rfl
 obtain ⟨E,d⟩:∃ z,z=o++ [⟨10,false,[],[],[]⟩]:=⟨_,rfl⟩
 have q:=bu e [⟨10,false,[],[],[]⟩]
 rw [← d] at q
 have m:E.length=((b+1)+1):=by rw [d,List.length_append,e];rfl
 have h:bd++ [⟨6,false,[],[],g⟩,⟨10,false,[],[],[]⟩]=E:=by rw [d,c];simp
 rw [h]
 change List.take (b*5) (cO bd)++ [AV.int .i64 6,.bool false,.str [],.str [],.str g]=_ at r
 change List.take ((b+1)*5) (cO o)++ [AV.int .i64 10,.bool false,.str [],.str [],.str []]=_ at q
 have p:(Nat.ble ((b+1)+1) 1099511627776)=true:=(Nat.ble_eq_true_of_le (by omega))
 have v:(Nat.ble ((b+1)*5) (List.length (cO o)))=true:=(Nat.ble_eq_true_of_le (by simp only [aj n,aj e,aj m];omega))
 have s:(Nat.ble (b+1) 1099511627776)=true:=(Nat.ble_eq_true_of_le (by omega))
 have u:(Nat.ble (b*5) (List.length (cO bd)))=true:=(Nat.ble_eq_true_of_le (by simp only [aj n,aj e,aj m];omega))
 unfold min
 clear c d
 exact pN 24 [] 3 5 (.k 2 p (.c v (.k 2 (aN O) (.k 2 s (.c u (.k 2 (aT N) (.c (aN L) .nil))))))) (.v 71 (.eq (wpS P)) (.b 94 q (.c cn3 (.b 84 r (.c ca1 (.c cn2 (.c cn1 .nil))))))) w
theorem Jc {nt:Nat} (M:140≤nt) (l:List (List Int)) (V:Bool) (mn k tm:Nat) (SX:List AV) (s:List UInt8) (P:Bool) (U N:List UInt8) (X:Bool) (Y O:List UInt8) (a:List Int) (e:Bool) (Q b j:Nat) (bd:List Nd) (Z R o f k1 k2 k3 k4:Nat) (p:List UInt8) (hs:Bool) (n q T:List UInt8) (t:bd.length=b) (hnb:b<2^30) (J:j<tm) (htm:tm<2^30) (D:o<2^62) (h4:f<3) (d1:((Z:Int)==((0:Nat):Int))=false) (d2:((o:Int)==((0:Nat):Int))=false) (d3:(decide ((o:Int)<((4:Nat):Int)))=true) (d4:((o:Int)==((4:Nat):Int))=false)
  (cn1:ae prog ap 63 [.ptr 0 0 0,.int .i64 3] [⟨[.sl (iL a) a.length e,.int .i64 (Q:Int)],0,false,0,0,true⟩] (.ret (.int .i64 (Z:Int))) [⟨[.sl (iL a) a.length e,.int .i64 (k1:Int)],0,false,0,0,true⟩]) (cn2:ae prog ap 63 [.ptr 0 0 0,.int .i64 (mn:Int)] [⟨[.sl (iL a) a.length e,.int .i64 (k1:Int)],0,false,0,0,true⟩] (.ret (.int .i64 (R:Int))) [⟨[.sl (iL a) a.length e,.int .i64 (k2:Int)],0,false,0,0,true⟩]) (ca1:CO 62 [.int .i64 (R:Int)] (.ret (.str p))) (cn3:ae prog ap 63 [.ptr 0 0 0,.int .i64 12] [⟨[.sl (iL a) a.length e,.int .i64 (k2:Int)],0,false,0,0,true⟩] (.ret (.int .i64 (o:Int))) [⟨[.sl (iL a) a.length e,.int .i64 (k3:Int)],0,false,0,0,true⟩]) (cf1:CO 25 [.int .i64 1] (.ret (.agg [.bool false,.str [1],.str [1]]))) (cf2:CO 25 [.int .i64 (((o+1):Nat):Int)] (.ret (.agg [.bool false,.str T,.str [1]]))) (cq1:CO 64 [.agg [.bool false,.str [1],.str [1]],.agg [.bool false,.str T,.str [1]]] (.ret (.tup [.agg [.bool hs,.str n,.str q],.bool true]))) (cn4:ae prog ap 63 [.ptr 0 0 0,.int .i64 3] [⟨[.sl (iL a) a.length e,.int .i64 (k3:Int)],0,false,0,0,true⟩] (.ret (.int .i64 (f:Int))) [⟨[.sl (iL a) a.length e,.int .i64 (k4:Int)],0,false,0,0,true⟩]):
  ah prog ap [] nt (af 2 (ag f24)) (min l V mn k tm SX s P U N X Y O a e (Q,b,bd,j)) .normal (min l V mn k tm SX s P U N X Y O a e (k4,(((b+1)+2)+1),bd++ [⟨6,false,[],[],p⟩,⟨3,hs,n,q,[]⟩,⟨11,false,[],[],[]⟩,⟨fo f,false,[],[],[]⟩],j+1)):=by
 have hj:j<2^62:=by omega
 have hg:(decide ((j:Int)<(tm:Int)))=true:=kl J
 obtain ⟨rf,hf⟩:=nM h4
 obtain ⟨u,g⟩:∃ z,z=bd++ [⟨6,false,[],[],p⟩]:=⟨_,rfl⟩
 have C:=bu t [⟨6,false,[],[],p⟩]
 rw [← g] at C
 have d:u.length=(b+1):=by rw [g,List.length_append,t];rfl
 obtain ⟨v,i⟩:∃ z,z=u++ [⟨3,hs,n,q,[]⟩,⟨11,false,[],[],[]⟩]:=⟨_,rfl⟩
 have A:=bu d [⟨3,hs,n,q,[]⟩,⟨11,false,[],[],[]⟩]
 rw [← i] at A
 have c:v.length=((b+1)+2):=by rw [i,List.length_append,d];rfl
 obtain ⟨S,h⟩:∃ z,z=v++ [⟨fo f,false,[],[],[]⟩]:=⟨_,rfl⟩
 have B:=bu c [⟨fo f,false,[],[],[]⟩]
 rw [← h] at B
 have m:S.length=(((b+1)+2)+1):=by rw [h,List.length_append,c];rfl
 have r:bd++ [⟨6,false,[],[],p⟩,⟨3,hs,n,q,[]⟩,⟨11,false,[],[],[]⟩,⟨fo f,false,[],[],[]⟩]=S:=by rw [h,i,g];simp
 rw [r]
 change List.take (b*5) (cO bd)++ [AV.int .i64 6,.bool false,.str [],.str [],.str p]=_ at C
 change List.take ((b+1)*5) (cO u)++ [AV.int .i64 3,.bool hs,.str n,.str q,.str [],.int .i64 11,.bool false,.str [],.str [],.str []]=_ at A
 change List.take (((b+1)+2)*5) (cO v)++ [AV.int .i64 (fo f),.bool false,.str [],.str [],.str []]=_ at B
 have y:(Nat.ble (((b+1)+2)+1) 1099511627776)=true:=(Nat.ble_eq_true_of_le (by omega))
 have L:(Nat.ble (((b+1)+2)*5) (List.length (cO v)))=true:=(Nat.ble_eq_true_of_le (by simp only [aj t,aj d,aj c,aj m];omega))
 have I:(chk (.int .i64) (List.headD (List.drop ((0+(Int.toNat (f:Int)))*1) [.int .i64 9,.int .i64 13,.int .i64 14]) .dead))=true:=(by rw [hf];rfl)
 have K:(decide (((0:Nat):Int)≤(f:Int)))=true:=(k0 _)
 have w:(decide ((f:Int)<((3:Nat):Int)))=true:=(kl (by omega))
 have F:(Nat.ble ((b+1)+2) 1099511627776)=true:=(Nat.ble_eq_true_of_le (by omega))
 have G:(Nat.ble ((b+1)*5) (List.length (cO u)))=true:=(Nat.ble_eq_true_of_le (by simp only [aj t,aj d,aj c,aj m];omega))
 have x:(Nat.ble (b+1) 1099511627776)=true:=(Nat.ble_eq_true_of_le (by omega))
 have E:(Nat.ble (b*5) (List.length (cO bd)))=true:=(Nat.ble_eq_true_of_le (by simp only [aj t,aj d,aj c,aj m];omega))
 unfold min
 clear g i h
 exact pN 24 [] 5 9 (.k 2 y (.c L (.k 1 I (.c K (.c w (.k 1 (aT d4) (.k 2 F (.c G (.k 6 (aN d3) (.c (aT d2) (.k 2 x (.c E (.k 2 (aT d1) (.c (aN hg) .nil)))))))))))))) (.v 71 (.eq (wpS hj)) (.b 131 B (.v 128 (.rd1 (.int .i64) hf rfl) (.c cn4 (.b 112 A (.c cq1 (.c cf2 (.v 101 (.eq (Uk D)) (.c cf1 (.c cn3 (.b 84 C (.c ca1 (.c cn2 (.c cn1 .nil)))))))))))))) M
theorem Lp {nt:Nat} (J:140≤nt) (l:List (List Int)) (R:Bool) (mn k tm:Nat) (SX:List AV) (p:List UInt8) (M:Bool) (Q K:List UInt8) (S:Bool) (T L:List UInt8) (a:List Int) (e:Bool) (N b j:Nat) (bd:List Nd) (U O t f k1 k2 k3 k4:Nat) (n:List UInt8) (q:bd.length=b) (hnb:b<2^30) (F:j<tm) (htm:tm<2^30) (Y:f<3) (d1:((U:Int)==((0:Nat):Int))=false) (d2:((t:Int)==((0:Nat):Int))=false) (d3:(decide ((t:Int)<((4:Nat):Int)))=false) (X:((t:Int)==((4:Nat):Int))=true)
  (cn1:ae prog ap 63 [.ptr 0 0 0,.int .i64 3] [⟨[.sl (iL a) a.length e,.int .i64 (N:Int)],0,false,0,0,true⟩] (.ret (.int .i64 (U:Int))) [⟨[.sl (iL a) a.length e,.int .i64 (k1:Int)],0,false,0,0,true⟩]) (cn2:ae prog ap 63 [.ptr 0 0 0,.int .i64 (mn:Int)] [⟨[.sl (iL a) a.length e,.int .i64 (k1:Int)],0,false,0,0,true⟩] (.ret (.int .i64 (O:Int))) [⟨[.sl (iL a) a.length e,.int .i64 (k2:Int)],0,false,0,0,true⟩]) (ca1:CO 62 [.int .i64 (O:Int)] (.ret (.str n))) (cn3:ae prog ap 63 [.ptr 0 0 0,.int .i64 12] [⟨[.sl (iL a) a.length e,.int .i64 (k2:Int)],0,false,0,0,true⟩] (.ret (.int .i64 (t:Int))) [⟨[.sl (iL a) a.length e,.int .i64 (k3:Int)],0,false,0,0,true⟩]) (cn4:ae prog ap 63 [.ptr 0 0 0,.int .i64 3] [⟨[.sl (iL a) a.length e,.int .i64 (k3:Int)],0,false,0,0,true⟩] (.ret (.int .i64 (f:Int))) [⟨[.sl (iL a) a.length e,.int .i64 (k4:Int)],0,false,0,0,true⟩]):
  ah prog ap [] nt (af 2 (ag f24)) (min l R mn k tm SX p M Q K S T L a e (N,b,bd,j)) .normal (min l R mn k tm SX p M Q K S T L a e (k4,(((b+1)+1)+1),bd++ [⟨6,false,[],[],n⟩,⟨24,false,[],[],[115]⟩,⟨fo f,false,[],[],[]⟩],j+1)):=by
 have hj:j<2^62:=by omega
 have Z:(decide ((j:Int)<(tm:Int)))=true:=kl F
 obtain ⟨rf,V⟩:=nM Y
 obtain ⟨r,g⟩:∃ z,z=bd++ [⟨6,false,[],[],n⟩]:=⟨_,rfl⟩
 have A:=bu q [⟨6,false,[],[],n⟩]
 rw [← g] at A
 have d:r.length=(b+1):=by rw [g,List.length_append,q];rfl
 obtain ⟨s,i⟩:∃ z,z=r++ [⟨24,false,[],[],[115]⟩]:=⟨_,rfl⟩
 have x:=bu d [⟨24,false,[],[],[115]⟩]
 rw [← i] at x
 have c:s.length=((b+1)+1):=by rw [i,List.length_append,d];rfl
 obtain ⟨P,h⟩:∃ z,z=s++ [⟨fo f,false,[],[],[]⟩]:=⟨_,rfl⟩
 have y:=bu c [⟨fo f,false,[],[],[]⟩]
 rw [← h] at y
 have m:P.length=(((b+1)+1)+1):=by rw [h,List.length_append,c];rfl
 have o:bd++ [⟨6,false,[],[],n⟩,⟨24,false,[],[],[115]⟩,⟨fo f,false,[],[],[]⟩]=P:=by rw [h,i,g];simp
 rw [o]
 change List.take (b*5) (cO bd)++ [AV.int .i64 6,.bool false,.str [],.str [],.str n]=_ at A
 change List.take ((b+1)*5) (cO r)++ [AV.int .i64 24,.bool false,.str [],.str [],.str [115]]=_ at x
 change List.take (((b+1)+1)*5) (cO s)++ [AV.int .i64 (fo f),.bool false,.str [],.str [],.str []]=_ at y
 have w:(Nat.ble (((b+1)+1)+1) 1099511627776)=true:=(Nat.ble_eq_true_of_le (by omega))
 have I:(Nat.ble (((b+1)+1)*5) (List.length (cO s)))=true:=(Nat.ble_eq_true_of_le (by simp only [aj q,aj d,aj c,aj m];omega))
 have E:(chk (.int .i64) (List.headD (List.drop ((0+(Int.toNat (f:Int)))*1) [.int .i64 9,.int .i64 13,.int .i64 14]) .dead))=true:=(by rw [V];rfl)
 have G:(decide (((0:Nat):Int)≤(f:Int)))=true:=(k0 _)
 have u:(decide ((f:Int)<((3:Nat):Int)))=true:=(kl (by omega))
 have C:(Nat.ble ((b+1)+1) 1099511627776)=true:=(Nat.ble_eq_true_of_le (by omega))
 have D:(Nat.ble ((b+1)*5) (List.length (cO r)))=true:=(Nat.ble_eq_true_of_le (by simp only [aj q,aj d,aj c,aj m];omega))
 have v:(Nat.ble (b+1) 1099511627776)=true:=(Nat.ble_eq_true_of_le (by omega))
 have B:(Nat.ble (b*5) (List.length (cO bd)))=true:=(Nat.ble_eq_true_of_le (by simp only [aj q,aj d,aj c,aj m];omega))
 unfold min
 clear g i h
 exact pN 24 [] 5 17 (.k 2 w (.c I (.k 1 E (.c G (.c u (.k 3 C (.c D (.k 2 (aN X) (.c (aT d3) (.c (aT d2) (.k 2 v (.c B (.k 2 (aT d1) (.c (aN Z) .nil)))))))))))))) (.v 71 (.eq (wpS hj)) (.b 131 y (.v 128 (.rd1 (.int .i64) V rfl) (.c cn4 (.b 120 x (.c cn3 (.b 84 A (.c ca1 (.c cn2 (.c cn1 .nil)))))))))) J
theorem Jb {nt:Nat} (C:140≤nt) (l:List (List Int)) (L:Bool) (mn k tm:Nat) (SX:List AV) (m:List UInt8) (F:Bool) (J D:List UInt8) (M:Bool) (N E:List UInt8) (a:List Int) (c:Bool) (G b j:Nat) (bd:List Nd) (O I q d k1 k2 k3 k4:Nat) (h:List UInt8) (o:bd.length=b) (T:b<2^30) (y:j<tm) (Z:tm<2^30) (R:d<3) (U:((O:Int)==((0:Nat):Int))=false) (V:((q:Int)==((0:Nat):Int))=false) (X:(decide ((q:Int)<((4:Nat):Int)))=false) (Q:((q:Int)==((4:Nat):Int))=false)
  (cn1:ae prog ap 63 [.ptr 0 0 0,.int .i64 3] [⟨[.sl (iL a) a.length c,.int .i64 (G:Int)],0,false,0,0,true⟩] (.ret (.int .i64 (O:Int))) [⟨[.sl (iL a) a.length c,.int .i64 (k1:Int)],0,false,0,0,true⟩]) (cn2:ae prog ap 63 [.ptr 0 0 0,.int .i64 (mn:Int)] [⟨[.sl (iL a) a.length c,.int .i64 (k1:Int)],0,false,0,0,true⟩] (.ret (.int .i64 (I:Int))) [⟨[.sl (iL a) a.length c,.int .i64 (k2:Int)],0,false,0,0,true⟩]) (ca1:CO 62 [.int .i64 (I:Int)] (.ret (.str h))) (cn3:ae prog ap 63 [.ptr 0 0 0,.int .i64 12] [⟨[.sl (iL a) a.length c,.int .i64 (k2:Int)],0,false,0,0,true⟩] (.ret (.int .i64 (q:Int))) [⟨[.sl (iL a) a.length c,.int .i64 (k3:Int)],0,false,0,0,true⟩]) (cn4:ae prog ap 63 [.ptr 0 0 0,.int .i64 3] [⟨[.sl (iL a) a.length c,.int .i64 (k3:Int)],0,false,0,0,true⟩] (.ret (.int .i64 (d:Int))) [⟨[.sl (iL a) a.length c,.int .i64 (k4:Int)],0,false,0,0,true⟩]):
  ah prog ap [] nt (af 2 (ag f24)) (min l L mn k tm SX m F J D M N E a c (G,b,bd,j)) .normal (min l L mn k tm SX m F J D M N E a c (k4,((b+1)+1),bd++ [⟨6,false,[],[],h⟩,⟨fo d,false,[],[],[]⟩],j+1)):=by
 have Y:j<2^62:=by omega
 have S:(decide ((j:Int)<(tm:Int)))=true:=kl y
 obtain ⟨rf,P⟩:=nM R
 obtain ⟨p,e⟩:∃ z,z=bd++ [⟨6,false,[],[],h⟩]:=⟨_,rfl⟩
 have u:=bu o [⟨6,false,[],[],h⟩]
 rw [← e] at u
 have g:p.length=(b+1):=by rw [e,List.length_append,o];rfl
 obtain ⟨K,f⟩:∃ z,z=p++ [⟨fo d,false,[],[],[]⟩]:=⟨_,rfl⟩
 have t:=bu g [⟨fo d,false,[],[],[]⟩]
 rw [← f] at t
 have n:K.length=((b+1)+1):=by rw [f,List.length_append,g];rfl
 have i:bd++ [⟨6,false,[],[],h⟩,⟨fo d,false,[],[],[]⟩]=K:=by rw [f,e];simp
 rw [i]
 change List.take (b*5) (cO bd)++ [AV.int .i64 6,.bool false,.str [],.str [],.str h]=_ at u
 change List.take ((b+1)*5) (cO p)++ [AV.int .i64 (fo d),.bool false,.str [],.str [],.str []]=_ at t
 have s:(Nat.ble ((b+1)+1) 1099511627776)=true:=(Nat.ble_eq_true_of_le (by omega))
 have B:(Nat.ble ((b+1)*5) (List.length (cO p)))=true:=(Nat.ble_eq_true_of_le (by simp only [aj o,aj g,aj n];omega))
 have x:(chk (.int .i64) (List.headD (List.drop ((0+(Int.toNat (d:Int)))*1) [.int .i64 9,.int .i64 13,.int .i64 14]) .dead))=true:=(by rw [P];rfl)
 have A:(decide (((0:Nat):Int)≤(d:Int)))=true:=(k0 _)
 have r:(decide ((d:Int)<((3:Nat):Int)))=true:=(kl (by omega))
 have v:(Nat.ble (b+1) 1099511627776)=true:=(Nat.ble_eq_true_of_le (by omega))
 have w:(Nat.ble (b*5) (List.length (cO bd)))=true:=(Nat.ble_eq_true_of_le (by simp only [aj o,aj g,aj n];omega))
 unfold min
 clear e f
 exact pN 24 [] 5 1 (.k 2 s (.c B (.k 1 x (.c A (.c r (.k 1 (aT Q) (.c (aT X) (.c (aT V) (.k 2 v (.c w (.k 2 (aT U) (.c (aN S) .nil)))))))))))) (.v 71 (.eq (wpS Y)) (.b 131 t (.v 128 (.rd1 (.int .i64) P rfl) (.c cn4 (.c cn3 (.b 84 u (.c ca1 (.c cn2 (.c cn1 .nil))))))))) C
def V8 (l:List (List Int)) (nl:Bool) (mn k tm:Nat) (SX:List AV) (nm0:List UInt8) (s1:Bool) (s2 s3:List UInt8) (c1:Bool) (c2 c3:List UInt8) (xs:List Int) (nx:Bool) (p:Nat × Nat × List Nd):St:=⟨[(0,.sl (iM l) l.length nl),(2,.ptr 0 0 0),(3,.ptr 1 0 0),(4,.ptr 2 0 0),(6,.int .i64 (mn:Int)),(7,.int .i64 (k:Int)),(8,.ptr 3 0 0),(9,.ptr 4 0 0)],[(0,⟨[.nilS,.nilS,.nilS],0,false,0,0,true⟩),(1,⟨[.bool false,.int .i64 1,.int .i64 0],0,false,0,0,true⟩),(2,⟨[.ref 5 0 0 1,.ref 6 0 0 1,.nilS],0,false,0,0,false⟩),(3,⟨[.sl (iL xs) xs.length nx,.int .i64 (p.1:Int)],0,false,0,0,true⟩),(4,⟨[.str nm0,.bool false,.int .i64 1,.int .i64 0,.ref 7 0 0 p.2.1,.bool false,.bool s1,.str s2,.str s3,.bool c1,.str c2,.str c3],0,false,0,0,false⟩),(5,⟨[.str [120],.bool false,.int .i64 1,.int .i64 0],0,false,0,4,true⟩),(6,⟨SX,0,false,0,4,true⟩),(7,⟨(cO p.2.2),0,false,0,5,true⟩)],.dead,[]⟩
theorem OA {nt:Nat} (b:140≤nt) (l:List (List Int)) (m:Bool) (mn k tm:Nat) (SX:List AV) (a:List UInt8) (e:Bool) (j c:List UInt8) (n:Bool) (o d:List UInt8) (f:List Int) (i:Bool) (g h:Nat) (bd:List Nd):ah prog ap [] nt (af 2 (ag f24)) (min l m mn k tm SX a e j c n o d f i (g,h,bd,tm)) (.exit 2) (V8 l m mn k tm SX a e j c n o d f i (g,h,bd)):=by
 have p:(decide ((tm:Int)<(tm:Int)))=false:=kn (Nat.le_refl _)
 unfold min V8
 exact pN 24 [] 1 0 (.c (aT p) .nil) .nil b
def sV (l:List (List Int)) (nl:Bool) (mn k tm:Nat) (SX:List AV) (kp:Nat) (ps:List Pv) (nm0:List UInt8) (s1:Bool) (s2 s3:List UInt8) (c1:Bool) (c2 c3:List UInt8) (xs:List Int) (nx:Bool) (p:Nat × Nat × List Nd × Nat):St:=⟨[(0,.sl (iM l) l.length nl),(2,.ptr 0 0 0),(3,.ptr 1 0 0),(4,.ptr 2 0 0),(6,.int .i64 (mn:Int)),(7,.int .i64 (k:Int)),(8,.ptr 3 0 0),(9,.ptr 4 0 0),(11,.int .i64 (tm:Int)),(12,.int .i64 (p.2.2.2:Int))],[(0,⟨[.nilS,.nilS,.nilS],0,false,0,0,true⟩),(1,⟨[.bool false,.int .i64 1,.int .i64 0],0,false,0,0,true⟩),(2,⟨[.ref 5 0 0 1,.ref 6 0 0 1,.ref 7 0 0 kp],0,false,0,0,false⟩),(3,⟨[.sl (iL xs) xs.length nx,.int .i64 (p.1:Int)],0,false,0,0,true⟩),(4,⟨[.str nm0,.bool false,.int .i64 1,.int .i64 0,.ref 8 0 0 p.2.1,.bool false,.bool s1,.str s2,.str s3,.bool c1,.str c2,.str c3],0,false,0,0,false⟩),(5,⟨[.str [120],.bool false,.int .i64 1,.int .i64 0],0,false,0,4,true⟩),(6,⟨SX,0,false,0,4,true⟩),(7,⟨(qF ps),0,false,0,12,true⟩),(8,⟨(cO p.2.2.1),0,false,0,5,true⟩)],.dead,[]⟩
theorem Lj {nt:Nat} (w:140≤nt) (l:List (List Int)) (G:Bool) (mn k tm:Nat) (SX:List AV) (D:Nat) (ps:List Pv) (i:List UInt8) (A:Bool) (E x:List UInt8) (J:Bool) (K y:List UInt8) (a:List Int) (f:Bool) (B b j:Nat) (bd:List Nd) (L C I k1 k2 k3:Nat) (g:List UInt8) (n:bd.length=b) (N:b<2^30) (s:j<tm) (R:tm<2^30) (O:((L:Int)==((0:Nat):Int))=true) (P:((I:Int)==((0:Nat):Int))=true)
  (cn1:ae prog ap 63 [.ptr 0 0 0,.int .i64 3] [⟨[.sl (iL a) a.length f,.int .i64 (B:Int)],0,false,0,0,true⟩] (.ret (.int .i64 (L:Int))) [⟨[.sl (iL a) a.length f,.int .i64 (k1:Int)],0,false,0,0,true⟩]) (cn2:ae prog ap 63 [.ptr 0 0 0,.int .i64 (mn:Int)] [⟨[.sl (iL a) a.length f,.int .i64 (k1:Int)],0,false,0,0,true⟩] (.ret (.int .i64 (C:Int))) [⟨[.sl (iL a) a.length f,.int .i64 (k2:Int)],0,false,0,0,true⟩]) (ca1:CO 62 [.int .i64 (C:Int)] (.ret (.str g))) (cn3:ae prog ap 63 [.ptr 0 0 0,.int .i64 12] [⟨[.sl (iL a) a.length f,.int .i64 (k2:Int)],0,false,0,0,true⟩] (.ret (.int .i64 (I:Int))) [⟨[.sl (iL a) a.length f,.int .i64 (k3:Int)],0,false,0,0,true⟩]):
  ah prog ap [] nt (af 2 (ag f24)) (sV l G mn k tm SX D ps i A E x J K y a f (B,b,bd,j)) .normal (sV l G mn k tm SX D ps i A E x J K y a f (k3,((b+1)+1),bd++ [⟨8,false,[],[],g⟩,⟨10,false,[],[],[]⟩],j+1)):=by
 have Q:j<2^62:=by omega
 have M:(decide ((j:Int)<(tm:Int)))=true:=kl s
 obtain ⟨o,c⟩:∃ z,z=bd++ [⟨8,false,[],[],g⟩]:=⟨_,rfl⟩
 have r:=bu n [⟨8,false,[],[],g⟩]
 rw [← c] at r
 have e:o.length=(b+1):=by rw [c,List.length_append,n];rfl
 obtain ⟨F,d⟩:∃ z,z=o++ [⟨10,false,[],[],[]⟩]:=⟨_,rfl⟩
 have q:=bu e [⟨10,false,[],[],[]⟩]
 rw [← d] at q
 have m:F.length=((b+1)+1):=by rw [d,List.length_append,e];rfl
 have h:bd++ [⟨8,false,[],[],g⟩,⟨10,false,[],[],[]⟩]=F:=by rw [d,c];simp
 rw [h]
 change List.take (b*5) (cO bd)++ [AV.int .i64 8,.bool false,.str [],.str [],.str g]=_ at r
 change List.take ((b+1)*5) (cO o)++ [AV.int .i64 10,.bool false,.str [],.str [],.str []]=_ at q
 have p:(Nat.ble ((b+1)+1) 1099511627776)=true:=(Nat.ble_eq_true_of_le (by omega))
 have v:(Nat.ble ((b+1)*5) (List.length (cO o)))=true:=(Nat.ble_eq_true_of_le (by simp only [aj n,aj e,aj m];omega))
 have t:(Nat.ble (b+1) 1099511627776)=true:=(Nat.ble_eq_true_of_le (by omega))
 have u:(Nat.ble (b*5) (List.length (cO bd)))=true:=(Nat.ble_eq_true_of_le (by simp only [aj n,aj e,aj m];omega))
 unfold sV
 clear c d
 exact pN 24 [] 3 7 (.k 2 p (.c v (.k 2 (aN P) (.k 2 t (.c u (.k 2 (aN O) (.c (aN M) .nil))))))) (.v 71 (.eq (wpS Q)) (.b 94 q (.c cn3 (.b 84 r (.c ca1 (.c cn2 (.c cn1 .nil))))))) w
theorem Ja {nt:Nat} (M:140≤nt) (l:List (List Int)) (X:Bool) (mn k tm:Nat) (SX:List AV) (S:Nat) (ps:List Pv) (s:List UInt8) (P:Bool) (V N:List UInt8) (Y:Bool) (Z O:List UInt8) (a:List Int) (e:Bool) (Q b j:Nat) (bd:List Nd) (r1 R o f k1 k2 k3 k4:Nat) (p:List UInt8) (hs:Bool) (n q U:List UInt8) (t:bd.length=b) (hnb:b<2^30) (I:j<tm) (htm:tm<2^30) (D:o<2^62) (h4:f<3) (d1:((r1:Int)==((0:Nat):Int))=true) (d2:((o:Int)==((0:Nat):Int))=false) (d3:(decide ((o:Int)<((4:Nat):Int)))=true) (d4:((o:Int)==((4:Nat):Int))=false)
  (cn1:ae prog ap 63 [.ptr 0 0 0,.int .i64 3] [⟨[.sl (iL a) a.length e,.int .i64 (Q:Int)],0,false,0,0,true⟩] (.ret (.int .i64 (r1:Int))) [⟨[.sl (iL a) a.length e,.int .i64 (k1:Int)],0,false,0,0,true⟩]) (cn2:ae prog ap 63 [.ptr 0 0 0,.int .i64 (mn:Int)] [⟨[.sl (iL a) a.length e,.int .i64 (k1:Int)],0,false,0,0,true⟩] (.ret (.int .i64 (R:Int))) [⟨[.sl (iL a) a.length e,.int .i64 (k2:Int)],0,false,0,0,true⟩]) (ca1:CO 62 [.int .i64 (R:Int)] (.ret (.str p))) (cn3:ae prog ap 63 [.ptr 0 0 0,.int .i64 12] [⟨[.sl (iL a) a.length e,.int .i64 (k2:Int)],0,false,0,0,true⟩] (.ret (.int .i64 (o:Int))) [⟨[.sl (iL a) a.length e,.int .i64 (k3:Int)],0,false,0,0,true⟩]) (cf1:CO 25 [.int .i64 1] (.ret (.agg [.bool false,.str [1],.str [1]]))) (cf2:CO 25 [.int .i64 (((o+1):Nat):Int)] (.ret (.agg [.bool false,.str U,.str [1]]))) (cq1:CO 64 [.agg [.bool false,.str [1],.str [1]],.agg [.bool false,.str U,.str [1]]] (.ret (.tup [.agg [.bool hs,.str n,.str q],.bool true]))) (cn4:ae prog ap 63 [.ptr 0 0 0,.int .i64 3] [⟨[.sl (iL a) a.length e,.int .i64 (k3:Int)],0,false,0,0,true⟩] (.ret (.int .i64 (f:Int))) [⟨[.sl (iL a) a.length e,.int .i64 (k4:Int)],0,false,0,0,true⟩]):
  ah prog ap [] nt (af 2 (ag f24)) (sV l X mn k tm SX S ps s P V N Y Z O a e (Q,b,bd,j)) .normal (sV l X mn k tm SX S ps s P V N Y Z O a e (k4,(((b+1)+2)+1),bd++ [⟨8,false,[],[],p⟩,⟨3,hs,n,q,[]⟩,⟨11,false,[],[],[]⟩,⟨fo f,false,[],[],[]⟩],j+1)):=by
 have hj:j<2^62:=by omega
 have hg:(decide ((j:Int)<(tm:Int)))=true:=kl I
 obtain ⟨rf,hf⟩:=nM h4
 obtain ⟨u,g⟩:∃ z,z=bd++ [⟨8,false,[],[],p⟩]:=⟨_,rfl⟩
 have C:=bu t [⟨8,false,[],[],p⟩]
 rw [← g] at C
 have d:u.length=(b+1):=by rw [g,List.length_append,t];rfl
 obtain ⟨v,i⟩:∃ z,z=u++ [⟨3,hs,n,q,[]⟩,⟨11,false,[],[],[]⟩]:=⟨_,rfl⟩
 have A:=bu d [⟨3,hs,n,q,[]⟩,⟨11,false,[],[],[]⟩]
 rw [← i] at A
 have c:v.length=((b+1)+2):=by rw [i,List.length_append,d];rfl
 obtain ⟨T,h⟩:∃ z,z=v++ [⟨fo f,false,[],[],[]⟩]:=⟨_,rfl⟩
 have B:=bu c [⟨fo f,false,[],[],[]⟩]
 rw [← h] at B
 have m:T.length=(((b+1)+2)+1):=by rw [h,List.length_append,c];rfl
 have r:bd++ [⟨8,false,[],[],p⟩,⟨3,hs,n,q,[]⟩,⟨11,false,[],[],[]⟩,⟨fo f,false,[],[],[]⟩]=T:=by rw [h,i,g];simp
 rw [r]
 change List.take (b*5) (cO bd)++ [AV.int .i64 8,.bool false,.str [],.str [],.str p]=_ at C
 change List.take ((b+1)*5) (cO u)++ [AV.int .i64 3,.bool hs,.str n,.str q,.str [],.int .i64 11,.bool false,.str [],.str [],.str []]=_ at A
 change List.take (((b+1)+2)*5) (cO v)++ [AV.int .i64 (fo f),.bool false,.str [],.str [],.str []]=_ at B
 have y:(Nat.ble (((b+1)+2)+1) 1099511627776)=true:=(Nat.ble_eq_true_of_le (by omega))
 have L:(Nat.ble (((b+1)+2)*5) (List.length (cO v)))=true:=(Nat.ble_eq_true_of_le (by simp only [aj t,aj d,aj c,aj m];omega))
 have J:(chk (.int .i64) (List.headD (List.drop ((0+(Int.toNat (f:Int)))*1) [.int .i64 9,.int .i64 13,.int .i64 14]) .dead))=true:=(by rw [hf];rfl)
 have K:(decide (((0:Nat):Int)≤(f:Int)))=true:=(k0 _)
 have w:(decide ((f:Int)<((3:Nat):Int)))=true:=(kl (by omega))
 have F:(Nat.ble ((b+1)+2) 1099511627776)=true:=(Nat.ble_eq_true_of_le (by omega))
 have G:(Nat.ble ((b+1)*5) (List.length (cO u)))=true:=(Nat.ble_eq_true_of_le (by simp only [aj t,aj d,aj c,aj m];omega))
 have x:(Nat.ble (b+1) 1099511627776)=true:=(Nat.ble_eq_true_of_le (by omega))
 have E:(Nat.ble (b*5) (List.length (cO bd)))=true:=(Nat.ble_eq_true_of_le (by simp only [aj t,aj d,aj c,aj m];omega))
 unfold sV
 clear g i h
 exact pN 24 [] 5 11 (.k 2 y (.c L (.k 1 J (.c K (.c w (.k 1 (aT d4) (.k 2 F (.c G (.k 6 (aN d3) (.c (aT d2) (.k 2 x (.c E (.k 2 (aN d1) (.c (aN hg) .nil)))))))))))))) (.v 71 (.eq (wpS hj)) (.b 131 B (.v 128 (.rd1 (.int .i64) hf rfl) (.c cn4 (.b 112 A (.c cq1 (.c cf2 (.v 101 (.eq (Uk D)) (.c cf1 (.c cn3 (.b 84 C (.c ca1 (.c cn2 (.c cn1 .nil)))))))))))))) M
theorem Ll {nt:Nat} (J:140≤nt) (l:List (List Int)) (S:Bool) (mn k tm:Nat) (SX:List AV) (P:Nat) (ps:List Pv) (p:List UInt8) (M:Bool) (R K:List UInt8) (T:Bool) (U L:List UInt8) (a:List Int) (e:Bool) (N b j:Nat) (bd:List Nd) (V O t f k1 k2 k3 k4:Nat) (n:List UInt8) (q:bd.length=b) (hnb:b<2^30) (E:j<tm) (htm:tm<2^30) (Z:f<3) (d1:((V:Int)==((0:Nat):Int))=true) (d2:((t:Int)==((0:Nat):Int))=false) (d3:(decide ((t:Int)<((4:Nat):Int)))=false) (Y:((t:Int)==((4:Nat):Int))=true)
  (cn1:ae prog ap 63 [.ptr 0 0 0,.int .i64 3] [⟨[.sl (iL a) a.length e,.int .i64 (N:Int)],0,false,0,0,true⟩] (.ret (.int .i64 (V:Int))) [⟨[.sl (iL a) a.length e,.int .i64 (k1:Int)],0,false,0,0,true⟩]) (cn2:ae prog ap 63 [.ptr 0 0 0,.int .i64 (mn:Int)] [⟨[.sl (iL a) a.length e,.int .i64 (k1:Int)],0,false,0,0,true⟩] (.ret (.int .i64 (O:Int))) [⟨[.sl (iL a) a.length e,.int .i64 (k2:Int)],0,false,0,0,true⟩]) (ca1:CO 62 [.int .i64 (O:Int)] (.ret (.str n))) (cn3:ae prog ap 63 [.ptr 0 0 0,.int .i64 12] [⟨[.sl (iL a) a.length e,.int .i64 (k2:Int)],0,false,0,0,true⟩] (.ret (.int .i64 (t:Int))) [⟨[.sl (iL a) a.length e,.int .i64 (k3:Int)],0,false,0,0,true⟩]) (cn4:ae prog ap 63 [.ptr 0 0 0,.int .i64 3] [⟨[.sl (iL a) a.length e,.int .i64 (k3:Int)],0,false,0,0,true⟩] (.ret (.int .i64 (f:Int))) [⟨[.sl (iL a) a.length e,.int .i64 (k4:Int)],0,false,0,0,true⟩]):
  ah prog ap [] nt (af 2 (ag f24)) (sV l S mn k tm SX P ps p M R K T U L a e (N,b,bd,j)) .normal (sV l S mn k tm SX P ps p M R K T U L a e (k4,(((b+1)+1)+1),bd++ [⟨8,false,[],[],n⟩,⟨24,false,[],[],[115]⟩,⟨fo f,false,[],[],[]⟩],j+1)):=by
 have hj:j<2^62:=by omega
 have hg:(decide ((j:Int)<(tm:Int)))=true:=kl E
 obtain ⟨rf,X⟩:=nM Z
 obtain ⟨r,g⟩:∃ z,z=bd++ [⟨8,false,[],[],n⟩]:=⟨_,rfl⟩
 have A:=bu q [⟨8,false,[],[],n⟩]
 rw [← g] at A
 have d:r.length=(b+1):=by rw [g,List.length_append,q];rfl
 obtain ⟨s,i⟩:∃ z,z=r++ [⟨24,false,[],[],[115]⟩]:=⟨_,rfl⟩
 have x:=bu d [⟨24,false,[],[],[115]⟩]
 rw [← i] at x
 have c:s.length=((b+1)+1):=by rw [i,List.length_append,d];rfl
 obtain ⟨Q,h⟩:∃ z,z=s++ [⟨fo f,false,[],[],[]⟩]:=⟨_,rfl⟩
 have y:=bu c [⟨fo f,false,[],[],[]⟩]
 rw [← h] at y
 have m:Q.length=(((b+1)+1)+1):=by rw [h,List.length_append,c];rfl
 have o:bd++ [⟨8,false,[],[],n⟩,⟨24,false,[],[],[115]⟩,⟨fo f,false,[],[],[]⟩]=Q:=by rw [h,i,g];simp
 rw [o]
 change List.take (b*5) (cO bd)++ [AV.int .i64 8,.bool false,.str [],.str [],.str n]=_ at A
 change List.take ((b+1)*5) (cO r)++ [AV.int .i64 24,.bool false,.str [],.str [],.str [115]]=_ at x
 change List.take (((b+1)+1)*5) (cO s)++ [AV.int .i64 (fo f),.bool false,.str [],.str [],.str []]=_ at y
 have w:(Nat.ble (((b+1)+1)+1) 1099511627776)=true:=(Nat.ble_eq_true_of_le (by omega))
 have I:(Nat.ble (((b+1)+1)*5) (List.length (cO s)))=true:=(Nat.ble_eq_true_of_le (by simp only [aj q,aj d,aj c,aj m];omega))
 have F:(chk (.int .i64) (List.headD (List.drop ((0+(Int.toNat (f:Int)))*1) [.int .i64 9,.int .i64 13,.int .i64 14]) .dead))=true:=(by rw [X];rfl)
 have G:(decide (((0:Nat):Int)≤(f:Int)))=true:=(k0 _)
 have u:(decide ((f:Int)<((3:Nat):Int)))=true:=(kl (by omega))
 have C:(Nat.ble ((b+1)+1) 1099511627776)=true:=(Nat.ble_eq_true_of_le (by omega))
 have D:(Nat.ble ((b+1)*5) (List.length (cO r)))=true:=(Nat.ble_eq_true_of_le (by simp only [aj q,aj d,aj c,aj m];omega))
 have v:(Nat.ble (b+1) 1099511627776)=true:=(Nat.ble_eq_true_of_le (by omega))
 have B:(Nat.ble (b*5) (List.length (cO bd)))=true:=(Nat.ble_eq_true_of_le (by simp only [aj q,aj d,aj c,aj m];omega))
 unfold sV
 clear g i h
 exact pN 24 [] 5 19 (.k 2 w (.c I (.k 1 F (.c G (.c u (.k 3 C (.c D (.k 2 (aN Y) (.c (aT d3) (.c (aT d2) (.k 2 v (.c B (.k 2 (aN d1) (.c (aN hg) .nil)))))))))))))) (.v 71 (.eq (wpS hj)) (.b 131 y (.v 128 (.rd1 (.int .i64) X rfl) (.c cn4 (.b 120 x (.c cn3 (.b 84 A (.c ca1 (.c cn2 (.c cn1 .nil)))))))))) J
theorem I_ {nt:Nat} (C:140≤nt) (l:List (List Int)) (M:Bool) (mn k tm:Nat) (SX:List AV) (J:Nat) (ps:List Pv) (m:List UInt8) (F:Bool) (K D:List UInt8) (N:Bool) (O E:List UInt8) (a:List Int) (c:Bool) (G b j:Nat) (bd:List Nd) (P I q d k1 k2 k3 k4:Nat) (h:List UInt8) (o:bd.length=b) (U:b<2^30) (x:j<tm) (htm:tm<2^30) (S:d<3) (V:((P:Int)==((0:Nat):Int))=true) (X:((q:Int)==((0:Nat):Int))=false) (Y:(decide ((q:Int)<((4:Nat):Int)))=false) (R:((q:Int)==((4:Nat):Int))=false)
  (cn1:ae prog ap 63 [.ptr 0 0 0,.int .i64 3] [⟨[.sl (iL a) a.length c,.int .i64 (G:Int)],0,false,0,0,true⟩] (.ret (.int .i64 (P:Int))) [⟨[.sl (iL a) a.length c,.int .i64 (k1:Int)],0,false,0,0,true⟩]) (cn2:ae prog ap 63 [.ptr 0 0 0,.int .i64 (mn:Int)] [⟨[.sl (iL a) a.length c,.int .i64 (k1:Int)],0,false,0,0,true⟩] (.ret (.int .i64 (I:Int))) [⟨[.sl (iL a) a.length c,.int .i64 (k2:Int)],0,false,0,0,true⟩]) (ca1:CO 62 [.int .i64 (I:Int)] (.ret (.str h))) (cn3:ae prog ap 63 [.ptr 0 0 0,.int .i64 12] [⟨[.sl (iL a) a.length c,.int .i64 (k2:Int)],0,false,0,0,true⟩] (.ret (.int .i64 (q:Int))) [⟨[.sl (iL a) a.length c,.int .i64 (k3:Int)],0,false,0,0,true⟩]) (cn4:ae prog ap 63 [.ptr 0 0 0,.int .i64 3] [⟨[.sl (iL a) a.length c,.int .i64 (k3:Int)],0,false,0,0,true⟩] (.ret (.int .i64 (d:Int))) [⟨[.sl (iL a) a.length c,.int .i64 (k4:Int)],0,false,0,0,true⟩]):
  ah prog ap [] nt (af 2 (ag f24)) (sV l M mn k tm SX J ps m F K D N O E a c (G,b,bd,j)) .normal (sV l M mn k tm SX J ps m F K D N O E a c (k4,((b+1)+1),bd++ [⟨8,false,[],[],h⟩,⟨fo d,false,[],[],[]⟩],j+1)):=by
 have Z:j<2^62:=by omega
 have T:(decide ((j:Int)<(tm:Int)))=true:=kl x
 obtain ⟨rf,Q⟩:=nM S
 obtain ⟨p,e⟩:∃ z,z=bd++ [⟨8,false,[],[],h⟩]:=⟨_,rfl⟩
 have u:=bu o [⟨8,false,[],[],h⟩]
 rw [← e] at u
 have g:p.length=(b+1):=by rw [e,List.length_append,o];rfl
 obtain ⟨L,f⟩:∃ z,z=p++ [⟨fo d,false,[],[],[]⟩]:=⟨_,rfl⟩
 have t:=bu g [⟨fo d,false,[],[],[]⟩]
 rw [← f] at t
 have n:L.length=((b+1)+1):=by rw [f,List.length_append,g];rfl
 have i:bd++ [⟨8,false,[],[],h⟩,⟨fo d,false,[],[],[]⟩]=L:=by rw [f,e];simp
 rw [i]
 change List.take (b*5) (cO bd)++ [AV.int .i64 8,.bool false,.str [],.str [],.str h]=_ at u
 change List.take ((b+1)*5) (cO p)++ [AV.int .i64 (fo d),.bool false,.str [],.str [],.str []]=_ at t
 have s:(Nat.ble ((b+1)+1) 1099511627776)=true:=(Nat.ble_eq_true_of_le (by omega))
 have B:(Nat.ble ((b+1)*5) (List.length (cO p)))=true:=(Nat.ble_eq_true_of_le (by simp only [aj o,aj g,aj n];omega))
 have y:(chk (.int .i64) (List.headD (List.drop ((0+(Int.toNat (d:Int)))*1) [.int .i64 9,.int .i64 13,.int .i64 14]) .dead))=true:=(by rw [Q];rfl)
 have A:(decide (((0:Nat):Int)≤(d:Int)))=true:=(k0 _)
 have r:(decide ((d:Int)<((3:Nat):Int)))=true:=(kl (by omega))
 have v:(Nat.ble (b+1) 1099511627776)=true:=(Nat.ble_eq_true_of_le (by omega))
 have w:(Nat.ble (b*5) (List.length (cO bd)))=true:=(Nat.ble_eq_true_of_le (by simp only [aj o,aj g,aj n];omega))
 unfold sV
 clear e f
 exact pN 24 [] 5 3 (.k 2 s (.c B (.k 1 y (.c A (.c r (.k 1 (aT R) (.c (aT Y) (.c (aT X) (.k 2 v (.c w (.k 2 (aN V) (.c (aN T) .nil)))))))))))) (.v 71 (.eq (wpS Z)) (.b 131 t (.v 128 (.rd1 (.int .i64) Q rfl) (.c cn4 (.c cn3 (.b 84 u (.c ca1 (.c cn2 (.c cn1 .nil))))))))) C
theorem Le {nt:Nat} (w:140≤nt) (l:List (List Int)) (G:Bool) (mn k tm:Nat) (SX:List AV) (D:Nat) (ps:List Pv) (i:List UInt8) (A:Bool) (E x:List UInt8) (J:Bool) (K y:List UInt8) (a:List Int) (f:Bool) (B b j:Nat) (bd:List Nd) (L C I k1 k2 k3:Nat) (g:List UInt8) (n:bd.length=b) (N:b<2^30) (s:j<tm) (R:tm<2^30) (O:((L:Int)==((0:Nat):Int))=false) (P:((I:Int)==((0:Nat):Int))=true)
  (cn1:ae prog ap 63 [.ptr 0 0 0,.int .i64 3] [⟨[.sl (iL a) a.length f,.int .i64 (B:Int)],0,false,0,0,true⟩] (.ret (.int .i64 (L:Int))) [⟨[.sl (iL a) a.length f,.int .i64 (k1:Int)],0,false,0,0,true⟩]) (cn2:ae prog ap 63 [.ptr 0 0 0,.int .i64 (mn:Int)] [⟨[.sl (iL a) a.length f,.int .i64 (k1:Int)],0,false,0,0,true⟩] (.ret (.int .i64 (C:Int))) [⟨[.sl (iL a) a.length f,.int .i64 (k2:Int)],0,false,0,0,true⟩]) (ca1:CO 62 [.int .i64 (C:Int)] (.ret (.str g))) (cn3:ae prog ap 63 [.ptr 0 0 0,.int .i64 12] [⟨[.sl (iL a) a.length f,.int .i64 (k2:Int)],0,false,0,0,true⟩] (.ret (.int .i64 (I:Int))) [⟨[.sl (iL a) a.length f,.int .i64 (k3:Int)],0,false,0,0,true⟩]):
  ah prog ap [] nt (af 2 (ag f24)) (sV l G mn k tm SX D ps i A E x J K y a f (B,b,bd,j)) .normal (sV l G mn k tm SX D ps i A E x J K y a f (k3,((b+1)+1),bd++ [⟨6,false,[],[],g⟩,⟨10,false,[],[],[]⟩],j+1)):=by
 have Q:j<2^62:=by omega
 have M:(decide ((j:Int)<(tm:Int)))=true:=kl s
 obtain ⟨o,c⟩:∃ z,z=bd++ [⟨6,false,[],[],g⟩]:=⟨_,rfl⟩
 have r:=bu n [⟨6,false,[],[],g⟩]
 rw [← c] at r
 have e:o.length=(b+1):=by rw [c,List.length_append,n];rfl
 obtain ⟨F,d⟩:∃ z,z=o++ [⟨10,false,[],[],[]⟩]:=⟨_,rfl⟩
 have q:=bu e [⟨10,false,[],[],[]⟩]
 rw [← d] at q
 have m:F.length=((b+1)+1):=by rw [d,List.length_append,e];rfl
 have h:bd++ [⟨6,false,[],[],g⟩,⟨10,false,[],[],[]⟩]=F:=by rw [d,c];simp
 rw [h]
 change List.take (b*5) (cO bd)++ [AV.int .i64 6,.bool false,.str [],.str [],.str g]=_ at r
 change List.take ((b+1)*5) (cO o)++ [AV.int .i64 10,.bool false,.str [],.str [],.str []]=_ at q
 have p:(Nat.ble ((b+1)+1) 1099511627776)=true:=(Nat.ble_eq_true_of_le (by omega))
 have v:(Nat.ble ((b+1)*5) (List.length (cO o)))=true:=(Nat.ble_eq_true_of_le (by simp only [aj n,aj e,aj m];omega))
 have t:(Nat.ble (b+1) 1099511627776)=true:=(Nat.ble_eq_true_of_le (by omega))
 have u:(Nat.ble (b*5) (List.length (cO bd)))=true:=(Nat.ble_eq_true_of_le (by simp only [aj n,aj e,aj m];omega))
 unfold sV
 clear c d
 exact pN 24 [] 3 5 (.k 2 p (.c v (.k 2 (aN P) (.k 2 t (.c u (.k 2 (aT O) (.c (aN M) .nil))))))) (.v 71 (.eq (wpS Q)) (.b 94 q (.c cn3 (.b 84 r (.c ca1 (.c cn2 (.c cn1 .nil))))))) w
theorem I9 {nt:Nat} (M:140≤nt) (l:List (List Int)) (X:Bool) (mn k tm:Nat) (SX:List AV) (S:Nat) (ps:List Pv) (s:List UInt8) (P:Bool) (V N:List UInt8) (Y:Bool) (Z O:List UInt8) (a:List Int) (e:Bool) (Q b j:Nat) (bd:List Nd) (r1 R o f k1 k2 k3 k4:Nat) (p:List UInt8) (hs:Bool) (n q U:List UInt8) (t:bd.length=b) (hnb:b<2^30) (I:j<tm) (htm:tm<2^30) (D:o<2^62) (h4:f<3) (d1:((r1:Int)==((0:Nat):Int))=false) (d2:((o:Int)==((0:Nat):Int))=false) (d3:(decide ((o:Int)<((4:Nat):Int)))=true) (d4:((o:Int)==((4:Nat):Int))=false)
  (cn1:ae prog ap 63 [.ptr 0 0 0,.int .i64 3] [⟨[.sl (iL a) a.length e,.int .i64 (Q:Int)],0,false,0,0,true⟩] (.ret (.int .i64 (r1:Int))) [⟨[.sl (iL a) a.length e,.int .i64 (k1:Int)],0,false,0,0,true⟩]) (cn2:ae prog ap 63 [.ptr 0 0 0,.int .i64 (mn:Int)] [⟨[.sl (iL a) a.length e,.int .i64 (k1:Int)],0,false,0,0,true⟩] (.ret (.int .i64 (R:Int))) [⟨[.sl (iL a) a.length e,.int .i64 (k2:Int)],0,false,0,0,true⟩]) (ca1:CO 62 [.int .i64 (R:Int)] (.ret (.str p))) (cn3:ae prog ap 63 [.ptr 0 0 0,.int .i64 12] [⟨[.sl (iL a) a.length e,.int .i64 (k2:Int)],0,false,0,0,true⟩] (.ret (.int .i64 (o:Int))) [⟨[.sl (iL a) a.length e,.int .i64 (k3:Int)],0,false,0,0,true⟩]) (cf1:CO 25 [.int .i64 1] (.ret (.agg [.bool false,.str [1],.str [1]]))) (cf2:CO 25 [.int .i64 (((o+1):Nat):Int)] (.ret (.agg [.bool false,.str U,.str [1]]))) (cq1:CO 64 [.agg [.bool false,.str [1],.str [1]],.agg [.bool false,.str U,.str [1]]] (.ret (.tup [.agg [.bool hs,.str n,.str q],.bool true]))) (cn4:ae prog ap 63 [.ptr 0 0 0,.int .i64 3] [⟨[.sl (iL a) a.length e,.int .i64 (k3:Int)],0,false,0,0,true⟩] (.ret (.int .i64 (f:Int))) [⟨[.sl (iL a) a.length e,.int .i64 (k4:Int)],0,false,0,0,true⟩]):
  ah prog ap [] nt (af 2 (ag f24)) (sV l X mn k tm SX S ps s P V N Y Z O a e (Q,b,bd,j)) .normal (sV l X mn k tm SX S ps s P V N Y Z O a e (k4,(((b+1)+2)+1),bd++ [⟨6,false,[],[],p⟩,⟨3,hs,n,q,[]⟩,⟨11,false,[],[],[]⟩,⟨fo f,false,[],[],[]⟩],j+1)):=by
 have hj:j<2^62:=by omega
 have hg:(decide ((j:Int)<(tm:Int)))=true:=kl I
 obtain ⟨rf,hf⟩:=nM h4
 obtain ⟨u,g⟩:∃ z,z=bd++ [⟨6,false,[],[],p⟩]:=⟨_,rfl⟩
 have C:=bu t [⟨6,false,[],[],p⟩]
 rw [← g] at C
 have d:u.length=(b+1):=by rw [g,List.length_append,t];rfl
 obtain ⟨v,i⟩:∃ z,z=u++ [⟨3,hs,n,q,[]⟩,⟨11,false,[],[],[]⟩]:=⟨_,rfl⟩
 have A:=bu d [⟨3,hs,n,q,[]⟩,⟨11,false,[],[],[]⟩]
 rw [← i] at A
 have c:v.length=((b+1)+2):=by rw [i,List.length_append,d];rfl
 obtain ⟨T,h⟩:∃ z,z=v++ [⟨fo f,false,[],[],[]⟩]:=⟨_,rfl⟩
 have B:=bu c [⟨fo f,false,[],[],[]⟩]
 rw [← h] at B
 have m:T.length=(((b+1)+2)+1):=by rw [h,List.length_append,c];rfl
 have r:bd++ [⟨6,false,[],[],p⟩,⟨3,hs,n,q,[]⟩,⟨11,false,[],[],[]⟩,⟨fo f,false,[],[],[]⟩]=T:=by rw [h,i,g];simp
 rw [r]
 change List.take (b*5) (cO bd)++ [AV.int .i64 6,.bool false,.str [],.str [],.str p]=_ at C
 change List.take ((b+1)*5) (cO u)++ [AV.int .i64 3,.bool hs,.str n,.str q,.str [],.int .i64 11,.bool false,.str [],.str [],.str []]=_ at A
 change List.take (((b+1)+2)*5) (cO v)++ [AV.int .i64 (fo f),.bool false,.str [],.str [],.str []]=_ at B
 have y:(Nat.ble (((b+1)+2)+1) 1099511627776)=true:=(Nat.ble_eq_true_of_le (by omega))
 have L:(Nat.ble (((b+1)+2)*5) (List.length (cO v)))=true:=(Nat.ble_eq_true_of_le (by simp only [aj t,aj d,aj c,aj m];omega))
 have J:(chk (.int .i64) (List.headD (List.drop ((0+(Int.toNat (f:Int)))*1) [.int .i64 9,.int .i64 13,.int .i64 14]) .dead))=true:=(by rw [hf];rfl)
 have K:(decide (((0:Nat):Int)≤(f:Int)))=true:=(k0 _)
 have w:(decide ((f:Int)<((3:Nat):Int)))=true:=(kl (by omega))
 have F:(Nat.ble ((b+1)+2) 1099511627776)=true:=(Nat.ble_eq_true_of_le (by omega))
 have G:(Nat.ble ((b+1)*5) (List.length (cO u)))=true:=(Nat.ble_eq_true_of_le (by simp only [aj t,aj d,aj c,aj m];omega))
 have x:(Nat.ble (b+1) 1099511627776)=true:=(Nat.ble_eq_true_of_le (by omega))
 have E:(Nat.ble (b*5) (List.length (cO bd)))=true:=(Nat.ble_eq_true_of_le (by simp only [aj t,aj d,aj c,aj m];omega))
 unfold sV
 clear g i h
 exact pN 24 [] 5 9 (.k 2 y (.c L (.k 1 J (.c K (.c w (.k 1 (aT d4) (.k 2 F (.c G (.k 6 (aN d3) (.c (aT d2) (.k 2 x (.c E (.k 2 (aT d1) (.c (aN hg) .nil)))))))))))))) (.v 71 (.eq (wpS hj)) (.b 131 B (.v 128 (.rd1 (.int .i64) hf rfl) (.c cn4 (.b 112 A (.c cq1 (.c cf2 (.v 101 (.eq (Uk D)) (.c cf1 (.c cn3 (.b 84 C (.c ca1 (.c cn2 (.c cn1 .nil)))))))))))))) M
theorem Lh {nt:Nat} (J:140≤nt) (l:List (List Int)) (S:Bool) (mn k tm:Nat) (SX:List AV) (P:Nat) (ps:List Pv) (p:List UInt8) (M:Bool) (R K:List UInt8) (T:Bool) (U L:List UInt8) (a:List Int) (e:Bool) (N b j:Nat) (bd:List Nd) (V O t f k1 k2 k3 k4:Nat) (n:List UInt8) (q:bd.length=b) (hnb:b<2^30) (E:j<tm) (htm:tm<2^30) (Z:f<3) (d1:((V:Int)==((0:Nat):Int))=false) (d2:((t:Int)==((0:Nat):Int))=false) (d3:(decide ((t:Int)<((4:Nat):Int)))=false) (Y:((t:Int)==((4:Nat):Int))=true)
  (cn1:ae prog ap 63 [.ptr 0 0 0,.int .i64 3] [⟨[.sl (iL a) a.length e,.int .i64 (N:Int)],0,false,0,0,true⟩] (.ret (.int .i64 (V:Int))) [⟨[.sl (iL a) a.length e,.int .i64 (k1:Int)],0,false,0,0,true⟩]) (cn2:ae prog ap 63 [.ptr 0 0 0,.int .i64 (mn:Int)] [⟨[.sl (iL a) a.length e,.int .i64 (k1:Int)],0,false,0,0,true⟩] (.ret (.int .i64 (O:Int))) [⟨[.sl (iL a) a.length e,.int .i64 (k2:Int)],0,false,0,0,true⟩]) (ca1:CO 62 [.int .i64 (O:Int)] (.ret (.str n))) (cn3:ae prog ap 63 [.ptr 0 0 0,.int .i64 12] [⟨[.sl (iL a) a.length e,.int .i64 (k2:Int)],0,false,0,0,true⟩] (.ret (.int .i64 (t:Int))) [⟨[.sl (iL a) a.length e,.int .i64 (k3:Int)],0,false,0,0,true⟩]) (cn4:ae prog ap 63 [.ptr 0 0 0,.int .i64 3] [⟨[.sl (iL a) a.length e,.int .i64 (k3:Int)],0,false,0,0,true⟩] (.ret (.int .i64 (f:Int))) [⟨[.sl (iL a) a.length e,.int .i64 (k4:Int)],0,false,0,0,true⟩]):
  ah prog ap [] nt (af 2 (ag f24)) (sV l S mn k tm SX P ps p M R K T U L a e (N,b,bd,j)) .normal (sV l S mn k tm SX P ps p M R K T U L a e (k4,(((b+1)+1)+1),bd++ [⟨6,false,[],[],n⟩,⟨24,false,[],[],[115]⟩,⟨fo f,false,[],[],[]⟩],j+1)):=by
 have hj:j<2^62:=by omega
 have hg:(decide ((j:Int)<(tm:Int)))=true:=kl E
 obtain ⟨rf,X⟩:=nM Z
 obtain ⟨r,g⟩:∃ z,z=bd++ [⟨6,false,[],[],n⟩]:=⟨_,rfl⟩
 have A:=bu q [⟨6,false,[],[],n⟩]
 rw [← g] at A
 have d:r.length=(b+1):=by rw [g,List.length_append,q];rfl
 obtain ⟨s,i⟩:∃ z,z=r++ [⟨24,false,[],[],[115]⟩]:=⟨_,rfl⟩
 have x:=bu d [⟨24,false,[],[],[115]⟩]
 rw [← i] at x
 have c:s.length=((b+1)+1):=by rw [i,List.length_append,d];rfl
 obtain ⟨Q,h⟩:∃ z,z=s++ [⟨fo f,false,[],[],[]⟩]:=⟨_,rfl⟩
 have y:=bu c [⟨fo f,false,[],[],[]⟩]
 rw [← h] at y
 have m:Q.length=(((b+1)+1)+1):=by rw [h,List.length_append,c];rfl
 have o:bd++ [⟨6,false,[],[],n⟩,⟨24,false,[],[],[115]⟩,⟨fo f,false,[],[],[]⟩]=Q:=by rw [h,i,g];simp
 rw [o]
 change List.take (b*5) (cO bd)++ [AV.int .i64 6,.bool false,.str [],.str [],.str n]=_ at A
 change List.take ((b+1)*5) (cO r)++ [AV.int .i64 24,.bool false,.str [],.str [],.str [115]]=_ at x
 change List.take (((b+1)+1)*5) (cO s)++ [AV.int .i64 (fo f),.bool false,.str [],.str [],.str []]=_ at y
 have w:(Nat.ble (((b+1)+1)+1) 1099511627776)=true:=(Nat.ble_eq_true_of_le (by omega))
 have I:(Nat.ble (((b+1)+1)*5) (List.length (cO s)))=true:=(Nat.ble_eq_true_of_le (by simp only [aj q,aj d,aj c,aj m];omega))
 have F:(chk (.int .i64) (List.headD (List.drop ((0+(Int.toNat (f:Int)))*1) [.int .i64 9,.int .i64 13,.int .i64 14]) .dead))=true:=(by rw [X];rfl)
 have G:(decide (((0:Nat):Int)≤(f:Int)))=true:=(k0 _)
 have u:(decide ((f:Int)<((3:Nat):Int)))=true:=(kl (by omega))
 have C:(Nat.ble ((b+1)+1) 1099511627776)=true:=(Nat.ble_eq_true_of_le (by omega))
 have D:(Nat.ble ((b+1)*5) (List.length (cO r)))=true:=(Nat.ble_eq_true_of_le (by simp only [aj q,aj d,aj c,aj m];omega))
 have v:(Nat.ble (b+1) 1099511627776)=true:=(Nat.ble_eq_true_of_le (by omega))
 have B:(Nat.ble (b*5) (List.length (cO bd)))=true:=(Nat.ble_eq_true_of_le (by simp only [aj q,aj d,aj c,aj m];omega))
 unfold sV
 clear g i h
 exact pN 24 [] 5 17 (.k 2 w (.c I (.k 1 F (.c G (.c u (.k 3 C (.c D (.k 2 (aN Y) (.c (aT d3) (.c (aT d2) (.k 2 v (.c B (.k 2 (aT d1) (.c (aN hg) .nil)))))))))))))) (.v 71 (.eq (wpS hj)) (.b 131 y (.v 128 (.rd1 (.int .i64) X rfl) (.c cn4 (.b 120 x (.c cn3 (.b 84 A (.c ca1 (.c cn2 (.c cn1 .nil)))))))))) J
theorem I8 {nt:Nat} (C:140≤nt) (l:List (List Int)) (M:Bool) (mn k tm:Nat) (SX:List AV) (J:Nat) (ps:List Pv) (m:List UInt8) (F:Bool) (K D:List UInt8) (N:Bool) (O E:List UInt8) (a:List Int) (c:Bool) (G b j:Nat) (bd:List Nd) (P I q d k1 k2 k3 k4:Nat) (h:List UInt8) (o:bd.length=b) (U:b<2^30) (x:j<tm) (htm:tm<2^30) (S:d<3) (V:((P:Int)==((0:Nat):Int))=false) (X:((q:Int)==((0:Nat):Int))=false) (Y:(decide ((q:Int)<((4:Nat):Int)))=false) (R:((q:Int)==((4:Nat):Int))=false)
  (cn1:ae prog ap 63 [.ptr 0 0 0,.int .i64 3] [⟨[.sl (iL a) a.length c,.int .i64 (G:Int)],0,false,0,0,true⟩] (.ret (.int .i64 (P:Int))) [⟨[.sl (iL a) a.length c,.int .i64 (k1:Int)],0,false,0,0,true⟩]) (cn2:ae prog ap 63 [.ptr 0 0 0,.int .i64 (mn:Int)] [⟨[.sl (iL a) a.length c,.int .i64 (k1:Int)],0,false,0,0,true⟩] (.ret (.int .i64 (I:Int))) [⟨[.sl (iL a) a.length c,.int .i64 (k2:Int)],0,false,0,0,true⟩]) (ca1:CO 62 [.int .i64 (I:Int)] (.ret (.str h))) (cn3:ae prog ap 63 [.ptr 0 0 0,.int .i64 12] [⟨[.sl (iL a) a.length c,.int .i64 (k2:Int)],0,false,0,0,true⟩] (.ret (.int .i64 (q:Int))) [⟨[.sl (iL a) a.length c,.int .i64 (k3:Int)],0,false,0,0,true⟩]) (cn4:ae prog ap 63 [.ptr 0 0 0,.int .i64 3] [⟨[.sl (iL a) a.length c,.int .i64 (k3:Int)],0,false,0,0,true⟩] (.ret (.int .i64 (d:Int))) [⟨[.sl (iL a) a.length c,.int .i64 (k4:Int)],0,false,0,0,true⟩]):
  ah prog ap [] nt (af 2 (ag f24)) (sV l M mn k tm SX J ps m F K D N O E a c (G,b,bd,j)) .normal (sV l M mn k tm SX J ps m F K D N O E a c (k4,((b+1)+1),bd++ [⟨6,false,[],[],h⟩,⟨fo d,false,[],[],[]⟩],j+1)):=by
 have Z:j<2^62:=by omega
 have T:(decide ((j:Int)<(tm:Int)))=true:=kl x
 obtain ⟨rf,Q⟩:=nM S
 obtain ⟨p,e⟩:∃ z,z=bd++ [⟨6,false,[],[],h⟩]:=⟨_,rfl⟩
 have u:=bu o [⟨6,false,[],[],h⟩]
 rw [← e] at u
 have g:p.length=(b+1):=by rw [e,List.length_append,o];rfl
 obtain ⟨L,f⟩:∃ z,z=p++ [⟨fo d,false,[],[],[]⟩]:=⟨_,rfl⟩
 have t:=bu g [⟨fo d,false,[],[],[]⟩]
 rw [← f] at t
 have n:L.length=((b+1)+1):=by rw [f,List.length_append,g];rfl
 have i:bd++ [⟨6,false,[],[],h⟩,⟨fo d,false,[],[],[]⟩]=L:=by rw [f,e];simp
 rw [i]
 change List.take (b*5) (cO bd)++ [AV.int .i64 6,.bool false,.str [],.str [],.str h]=_ at u
 change List.take ((b+1)*5) (cO p)++ [AV.int .i64 (fo d),.bool false,.str [],.str [],.str []]=_ at t
 have s:(Nat.ble ((b+1)+1) 1099511627776)=true:=(Nat.ble_eq_true_of_le (by omega))
 have B:(Nat.ble ((b+1)*5) (List.length (cO p)))=true:=(Nat.ble_eq_true_of_le (by simp only [aj o,aj g,aj n];omega))
 have y:(chk (.int .i64) (List.headD (List.drop ((0+(Int.toNat (d:Int)))*1) [.int .i64 9,.int .i64 13,.int .i64 14]) .dead))=true:=(by rw [Q];rfl)
 have A:(decide (((0:Nat):Int)≤(d:Int)))=true:=(k0 _)
 have r:(decide ((d:Int)<((3:Nat):Int)))=true:=(kl (by omega))
 have v:(Nat.ble (b+1) 1099511627776)=true:=(Nat.ble_eq_true_of_le (by omega))
 have w:(Nat.ble (b*5) (List.length (cO bd)))=true:=(Nat.ble_eq_true_of_le (by simp only [aj o,aj g,aj n];omega))
 unfold sV
 clear e f
 exact pN 24 [] 5 1 (.k 2 s (.c B (.k 1 y (.c A (.c r (.k 1 (aT R) (.c (aT Y) (.c (aT X) (.k 2 v (.c w (.k 2 (aT V) (.c (aN T) .nil)))))))))))) (.v 71 (.eq (wpS Z)) (.b 131 t (.v 128 (.rd1 (.int .i64) Q rfl) (.c cn4 (.c cn3 (.b 84 u (.c ca1 (.c cn2 (.c cn1 .nil))))))))) C
def V7 (l:List (List Int)) (nl:Bool) (mn k tm:Nat) (SX:List AV) (kp:Nat) (ps:List Pv) (nm0:List UInt8) (s1:Bool) (s2 s3:List UInt8) (c1:Bool) (c2 c3:List UInt8) (xs:List Int) (nx:Bool) (p:Nat × Nat × List Nd):St:=⟨[(0,.sl (iM l) l.length nl),(2,.ptr 0 0 0),(3,.ptr 1 0 0),(4,.ptr 2 0 0),(6,.int .i64 (mn:Int)),(7,.int .i64 (k:Int)),(8,.ptr 3 0 0),(9,.ptr 4 0 0)],[(0,⟨[.nilS,.nilS,.nilS],0,false,0,0,true⟩),(1,⟨[.bool false,.int .i64 1,.int .i64 0],0,false,0,0,true⟩),(2,⟨[.ref 5 0 0 1,.ref 6 0 0 1,.ref 7 0 0 kp],0,false,0,0,false⟩),(3,⟨[.sl (iL xs) xs.length nx,.int .i64 (p.1:Int)],0,false,0,0,true⟩),(4,⟨[.str nm0,.bool false,.int .i64 1,.int .i64 0,.ref 8 0 0 p.2.1,.bool false,.bool s1,.str s2,.str s3,.bool c1,.str c2,.str c3],0,false,0,0,false⟩),(5,⟨[.str [120],.bool false,.int .i64 1,.int .i64 0],0,false,0,4,true⟩),(6,⟨SX,0,false,0,4,true⟩),(7,⟨(qF ps),0,false,0,12,true⟩),(8,⟨(cO p.2.2),0,false,0,5,true⟩)],.dead,[]⟩
theorem Oz {nt:Nat} (b:140≤nt) (l:List (List Int)) (n:Bool) (mn k tm:Nat) (SX:List AV) (h:Nat) (ps:List Pv) (a:List UInt8) (e:Bool) (m c:List UInt8) (o:Bool) (p d:List UInt8) (f:List Int) (j:Bool) (g i:Nat) (bd:List Nd):ah prog ap [] nt (af 2 (ag f24)) (sV l n mn k tm SX h ps a e m c o p d f j (g,i,bd,tm)) (.exit 2) (V7 l n mn k tm SX h ps a e m c o p d f j (g,i,bd)):=by
 have q:(decide ((tm:Int)<(tm:Int)))=false:=kn (Nat.le_refl _)
 unfold sV V7
 exact pN 24 [] 1 0 (.c (aT q) .nil) .nil b
theorem kM (r:Nat):(fo r==6)=false:=by unfold fo;split<;>rfl
theorem kN (r:Nat):(fo r==8)=false:=by unfold fo;split<;>rfl
def jl (x:Nd):Bool:=x.op==6||x.op==8
structure jv (mn n:Nat) (e:List Nd):Prop where
 cnt:e.countP jl≤n
 len:e.length≤5*n
 nms:∀ x ∈ e,jl x=true→∃ r,r<mn∧x.name= [UInt8.ofNat (97+r)]
theorem jv.app {mn n k:Nat} {e f:List Nd} (h:jv mn n e) (b:jv mn k f):jv mn (n+k) (e++f):=
 ⟨by rw [List.countP_append];have:=h.cnt;have:=b.cnt;omega,by rw [List.length_append];have:=h.len;have:=b.len;omega,fun x a c=>by
  rcases List.mem_append.1 a with a|a
  ·exact h.nms x a c
  ·exact b.nms x a c⟩
theorem uN:CO 25 [.int .i64 1] (.ret (.agg [.bool false,.str [1],.str [1]])):=yV 0 (by decide)
theorem wY (r:Nat) (h0:0<r) (a:r<4):∃ (hs:Bool) (hn hd:List UInt8),CO 64 [.agg [.bool false,.str [1],.str [1]],.agg [.bool false,.str [UInt8.ofNat (r+1)],.str [1]]] (.ret (.tup [.agg [.bool hs,.str hn,.str hd],.bool true])):=by
 match r,h0,a with
 |1,_,_=>exact ⟨_,_,_,SK⟩
 |2,_,_=>exact ⟨_,_,_,SL⟩
 |3,_,_=>exact ⟨_,_,_,SN⟩
theorem F7 (l:List (List Int)) (E:Bool) (mn k tm:Nat) (SX:List AV) (g:List UInt8) (C:Bool) (D A:List UInt8) (F:Bool) (G B:List UInt8) (s:List Int) (t:Bool) (P:0<mn) (Q:mn≤8) (v w j:Nat) (bd:List Nd) (R:v<2^50) (J:bd.length=w) (n:w<2^30) (p:j<tm) (r:tm<2^30):
  ∃ (e:List Nd) (k2:Nat),jv mn 1 e∧k2≤v+4∧∀ nt,140≤nt→ah prog ap [] nt (af 2 (ag f24)) (min l E mn k tm SX g C D A F G B s t (v,w,bd,j)) .normal (min l E mn k tm SX g C D A F G B s t (k2,w+e.length,bd++e,j+1)):=by
 obtain ⟨I,k1,Y,T,o⟩:=gp s t v 3 (by omega) (by omega) (by omega)
 obtain ⟨c,k2,m,U,i⟩:=gp s t k1 mn (by omega) P (by omega)
 have h:=CQ c (by omega)
 obtain ⟨d,k3,X,V,q⟩:=gp s t k2 12 (by omega) (by omega) (by omega)
 obtain ⟨y,k4,L,S,u⟩:=gp s t k3 3 (by omega) (by omega) (by omega)
 rcases tf ((I:Int)==((0:Nat):Int)) with d1|d1
 ·rcases tf ((d:Int)==((0:Nat):Int)) with d2|d2
  ·refine ⟨[⟨8,false,[],[],[UInt8.ofNat (97+c)]⟩,⟨10,false,[],[],[]⟩],k3,⟨by simp only [List.countP_cons,List.countP_nil,jl,kM,kN];exact Nat.le_refl 1,by simp only [List.length_cons,List.length_nil];omega,fun x f a=> ?_⟩,(by omega),fun nt b=> ?_⟩
   ·simp only [List.mem_cons,List.not_mem_nil,or_false] at f
    rcases f with rfl|rfl
    ·exact ⟨c,m,rfl⟩
    ·simp [jl,kM,kN] at a
   ·exact Lr b l E mn k tm SX g C D A F G B s t v w j bd I c d k1 k2 k3 _ J n p r d1 d2 o i h q
  ·have h0:0<d:=by simp at d2;omega
   rcases tf (decide ((d:Int)<((4:Nat):Int))) with d3|d3
   ·have K:d<4:=by simp at d3;omega
    have z:((d:Int)==((4:Nat):Int))=false:=by simp;omega
    obtain ⟨hs,M,N,O⟩:=wY d h0 K
    refine ⟨[⟨8,false,[],[],[UInt8.ofNat (97+c)]⟩,⟨3,hs,M,N,[]⟩,⟨11,false,[],[],[]⟩,⟨fo y,false,[],[],[]⟩],k4,⟨by simp only [List.countP_cons,List.countP_nil,jl,kM,kN];exact Nat.le_refl 1,by simp only [List.length_cons,List.length_nil];omega,fun x f a=> ?_⟩,(by omega),fun nt b=> ?_⟩
    ·simp only [List.mem_cons,List.not_mem_nil,or_false] at f
     rcases f with rfl|rfl|rfl|rfl
     ·exact ⟨c,m,rfl⟩
     ·simp [jl,kM,kN] at a
     ·simp [jl,kM,kN] at a
     ·simp only [jl,kM,kN] at a;cases a
    ·exact Je b l E mn k tm SX g C D A F G B s t v w j bd I c d y k1 k2 k3 k4 _ hs M N _ J n p r (by omega) L d1 d2 d3 z o i h q uN (yV d (by omega)) O u
   ·rcases tf ((d:Int)==((4:Nat):Int)) with z|z
    ·refine ⟨[⟨8,false,[],[],[UInt8.ofNat (97+c)]⟩,⟨24,false,[],[],[115]⟩,⟨fo y,false,[],[],[]⟩],k4,⟨by simp only [List.countP_cons,List.countP_nil,jl,kM,kN];exact Nat.le_refl 1,by simp only [List.length_cons,List.length_nil];omega,fun x f a=> ?_⟩,(by omega),fun nt b=> ?_⟩
     ·simp only [List.mem_cons,List.not_mem_nil,or_false] at f
      rcases f with rfl|rfl|rfl
      ·exact ⟨c,m,rfl⟩
      ·simp [jl,kM,kN] at a
      ·simp only [jl,kM,kN] at a;cases a
     ·exact Ls b l E mn k tm SX g C D A F G B s t v w j bd I c d y k1 k2 k3 k4 _ J n p r L d1 d2 d3 z o i h q u
    ·refine ⟨[⟨8,false,[],[],[UInt8.ofNat (97+c)]⟩,⟨fo y,false,[],[],[]⟩],k4,⟨by simp only [List.countP_cons,List.countP_nil,jl,kM,kN];exact Nat.le_refl 1,by simp only [List.length_cons,List.length_nil];omega,fun x f a=> ?_⟩,(by omega),fun nt b=> ?_⟩
     ·simp only [List.mem_cons,List.not_mem_nil,or_false] at f
      rcases f with rfl|rfl
      ·exact ⟨c,m,rfl⟩
      ·simp only [jl,kM,kN] at a;cases a
     ·exact Jd b l E mn k tm SX g C D A F G B s t v w j bd I c d y k1 k2 k3 k4 _ J n p r L d1 d2 d3 z o i h q u
 ·rcases tf ((d:Int)==((0:Nat):Int)) with d2|d2
  ·refine ⟨[⟨6,false,[],[],[UInt8.ofNat (97+c)]⟩,⟨10,false,[],[],[]⟩],k3,⟨by simp only [List.countP_cons,List.countP_nil,jl,kM,kN];exact Nat.le_refl 1,by simp only [List.length_cons,List.length_nil];omega,fun x f a=> ?_⟩,(by omega),fun nt b=> ?_⟩
   ·simp only [List.mem_cons,List.not_mem_nil,or_false] at f
    rcases f with rfl|rfl
    ·exact ⟨c,m,rfl⟩
    ·simp [jl,kM,kN] at a
   ·exact Lm b l E mn k tm SX g C D A F G B s t v w j bd I c d k1 k2 k3 _ J n p r d1 d2 o i h q
  ·have h0:0<d:=by simp at d2;omega
   rcases tf (decide ((d:Int)<((4:Nat):Int))) with d3|d3
   ·have K:d<4:=by simp at d3;omega
    have z:((d:Int)==((4:Nat):Int))=false:=by simp;omega
    obtain ⟨hs,M,N,O⟩:=wY d h0 K
    refine ⟨[⟨6,false,[],[],[UInt8.ofNat (97+c)]⟩,⟨3,hs,M,N,[]⟩,⟨11,false,[],[],[]⟩,⟨fo y,false,[],[],[]⟩],k4,⟨by simp only [List.countP_cons,List.countP_nil,jl,kM,kN];exact Nat.le_refl 1,by simp only [List.length_cons,List.length_nil];omega,fun x f a=> ?_⟩,(by omega),fun nt b=> ?_⟩
    ·simp only [List.mem_cons,List.not_mem_nil,or_false] at f
     rcases f with rfl|rfl|rfl|rfl
     ·exact ⟨c,m,rfl⟩
     ·simp [jl,kM,kN] at a
     ·simp [jl,kM,kN] at a
     ·simp only [jl,kM,kN] at a;cases a
    ·exact Jc b l E mn k tm SX g C D A F G B s t v w j bd I c d y k1 k2 k3 k4 _ hs M N _ J n p r (by omega) L d1 d2 d3 z o i h q uN (yV d (by omega)) O u
   ·rcases tf ((d:Int)==((4:Nat):Int)) with z|z
    ·refine ⟨[⟨6,false,[],[],[UInt8.ofNat (97+c)]⟩,⟨24,false,[],[],[115]⟩,⟨fo y,false,[],[],[]⟩],k4,⟨by simp only [List.countP_cons,List.countP_nil,jl,kM,kN];exact Nat.le_refl 1,by simp only [List.length_cons,List.length_nil];omega,fun x f a=> ?_⟩,(by omega),fun nt b=> ?_⟩
     ·simp only [List.mem_cons,List.not_mem_nil,or_false] at f
      rcases f with rfl|rfl|rfl
      ·exact ⟨c,m,rfl⟩
      ·simp [jl,kM,kN] at a
      ·simp only [jl,kM,kN] at a;cases a
     ·exact Lp b l E mn k tm SX g C D A F G B s t v w j bd I c d y k1 k2 k3 k4 _ J n p r L d1 d2 d3 z o i h q u
    ·refine ⟨[⟨6,false,[],[],[UInt8.ofNat (97+c)]⟩,⟨fo y,false,[],[],[]⟩],k4,⟨by simp only [List.countP_cons,List.countP_nil,jl,kM,kN];exact Nat.le_refl 1,by simp only [List.length_cons,List.length_nil];omega,fun x f a=> ?_⟩,(by omega),fun nt b=> ?_⟩
     ·simp only [List.mem_cons,List.not_mem_nil,or_false] at f
      rcases f with rfl|rfl
      ·exact ⟨c,m,rfl⟩
      ·simp only [jl,kM,kN] at a;cases a
     ·exact Jb b l E mn k tm SX g C D A F G B s t v w j bd I c d y k1 k2 k3 k4 _ J n p r L d1 d2 d3 z o i h q u
theorem uJ (l:List (List Int)) (o:Bool) (mn k tm:Nat) (SX:List AV) (a:List UInt8) (i:Bool) (n f:List UInt8) (p:Bool) (q g:List UInt8) (m:List Int) (d:Bool) (r:0<mn) (c:mn≤8) (t:tm<2^20):∀ (rem kk nb j:Nat) (bd:List Nd),j+rem=tm→kk+4*rem<2^50→bd.length=nb→nb+5*rem<2^30→
  ∃ (e:List Nd) (k2:Nat),jv mn rem e∧k2≤kk+4*rem∧∀ nt,140≤nt→aQ prog ap [] nt (af 2 (ag f24)) (fun _=> .exit 2) (min l o mn k tm SX a i n f p q g m d) (V8 l o mn k tm SX a i n f p q g m d) (kk,nb,bd,j) (k2,nb+e.length,bd++e)
 |0,kk,nb,j,bd,s,hkk,hb,hnb=>by
  refine ⟨[],kk,⟨by simp,by simp,(fun x z=>by cases z)⟩,(by omega),fun nt b=> ?_⟩
  have s:j=tm:=by omega
  subst s
  have h:=OA b l o mn k j SX a i n f p q g m d kk nb bd
  rw [List.append_nil]
  exact .done h
 |rem+1,kk,nb,j,bd,s,hkk,hb,hnb=>by
  obtain ⟨e,k2,u,B,w⟩:=F7 l o mn k tm SX a i n f p q g m d r c kk nb j bd (by omega) hb (by omega) (by omega) (by omega)
  have C:=u.len
  obtain ⟨v,k3,y,D,A⟩:=uJ l o mn k tm SX a i n f p q g m d r c t rem k2 (nb+e.length) (j+1) (bd++e) (by omega) (by omega) (by rw [List.length_append,hb]) (by omega)
  refine ⟨e++v,k3,by rw [Nat.add_comm];exact u.app y,(by omega),fun nt b=> ?_⟩
  have:=A nt b
  rw [List.append_assoc,Nat.add_assoc,← List.length_append] at this
  exact .next (a':=(k2,nb+e.length,bd++e,j+1)) (w nt b) this
theorem F6 (l:List (List Int)) (F:Bool) (mn k tm:Nat) (SX:List AV) (D:Nat) (ps:List Pv) (g:List UInt8) (C:Bool) (E A:List UInt8) (G:Bool) (I B:List UInt8) (s:List Int) (t:Bool) (Q:0<mn) (R:mn≤8) (v w j:Nat) (bd:List Nd) (S:v<2^50) (K:bd.length=w) (n:w<2^30) (p:j<tm) (r:tm<2^30):
  ∃ (e:List Nd) (k2:Nat),jv mn 1 e∧k2≤v+4∧∀ nt,140≤nt→ah prog ap [] nt (af 2 (ag f24)) (sV l F mn k tm SX D ps g C E A G I B s t (v,w,bd,j)) .normal (sV l F mn k tm SX D ps g C E A G I B s t (k2,w+e.length,bd++e,j+1)):=by
 obtain ⟨J,k1,Z,U,o⟩:=gp s t v 3 (by omega) (by omega) (by omega)
 obtain ⟨c,k2,m,V,i⟩:=gp s t k1 mn (by omega) Q (by omega)
 have h:=CQ c (by omega)
 obtain ⟨d,k3,Y,X,q⟩:=gp s t k2 12 (by omega) (by omega) (by omega)
 obtain ⟨y,k4,M,T,u⟩:=gp s t k3 3 (by omega) (by omega) (by omega)
 rcases tf ((J:Int)==((0:Nat):Int)) with d1|d1
 ·rcases tf ((d:Int)==((0:Nat):Int)) with d2|d2
  ·refine ⟨[⟨8,false,[],[],[UInt8.ofNat (97+c)]⟩,⟨10,false,[],[],[]⟩],k3,⟨by simp only [List.countP_cons,List.countP_nil,jl,kM,kN];exact Nat.le_refl 1,by simp only [List.length_cons,List.length_nil];omega,fun x f a=> ?_⟩,(by omega),fun nt b=> ?_⟩
   ·simp only [List.mem_cons,List.not_mem_nil,or_false] at f
    rcases f with rfl|rfl
    ·exact ⟨c,m,rfl⟩
    ·simp [jl,kM,kN] at a
   ·exact Lj b l F mn k tm SX D ps g C E A G I B s t v w j bd J c d k1 k2 k3 _ K n p r d1 d2 o i h q
  ·have h0:0<d:=by simp at d2;omega
   rcases tf (decide ((d:Int)<((4:Nat):Int))) with d3|d3
   ·have L:d<4:=by simp at d3;omega
    have z:((d:Int)==((4:Nat):Int))=false:=by simp;omega
    obtain ⟨hs,N,O,P⟩:=wY d h0 L
    refine ⟨[⟨8,false,[],[],[UInt8.ofNat (97+c)]⟩,⟨3,hs,N,O,[]⟩,⟨11,false,[],[],[]⟩,⟨fo y,false,[],[],[]⟩],k4,⟨by simp only [List.countP_cons,List.countP_nil,jl,kM,kN];exact Nat.le_refl 1,by simp only [List.length_cons,List.length_nil];omega,fun x f a=> ?_⟩,(by omega),fun nt b=> ?_⟩
    ·simp only [List.mem_cons,List.not_mem_nil,or_false] at f
     rcases f with rfl|rfl|rfl|rfl
     ·exact ⟨c,m,rfl⟩
     ·simp [jl,kM,kN] at a
     ·simp [jl,kM,kN] at a
     ·simp only [jl,kM,kN] at a;cases a
    ·exact Ja b l F mn k tm SX D ps g C E A G I B s t v w j bd J c d y k1 k2 k3 k4 _ hs N O _ K n p r (by omega) M d1 d2 d3 z o i h q uN (yV d (by omega)) P u
   ·rcases tf ((d:Int)==((4:Nat):Int)) with z|z
    ·refine ⟨[⟨8,false,[],[],[UInt8.ofNat (97+c)]⟩,⟨24,false,[],[],[115]⟩,⟨fo y,false,[],[],[]⟩],k4,⟨by simp only [List.countP_cons,List.countP_nil,jl,kM,kN];exact Nat.le_refl 1,by simp only [List.length_cons,List.length_nil];omega,fun x f a=> ?_⟩,(by omega),fun nt b=> ?_⟩
     ·simp only [List.mem_cons,List.not_mem_nil,or_false] at f
      rcases f with rfl|rfl|rfl
      ·exact ⟨c,m,rfl⟩
      ·simp [jl,kM,kN] at a
      ·simp only [jl,kM,kN] at a;cases a
     ·exact Ll b l F mn k tm SX D ps g C E A G I B s t v w j bd J c d y k1 k2 k3 k4 _ K n p r M d1 d2 d3 z o i h q u
    ·refine ⟨[⟨8,false,[],[],[UInt8.ofNat (97+c)]⟩,⟨fo y,false,[],[],[]⟩],k4,⟨by simp only [List.countP_cons,List.countP_nil,jl,kM,kN];exact Nat.le_refl 1,by simp only [List.length_cons,List.length_nil];omega,fun x f a=> ?_⟩,(by omega),fun nt b=> ?_⟩
     ·simp only [List.mem_cons,List.not_mem_nil,or_false] at f
      rcases f with rfl|rfl
      ·exact ⟨c,m,rfl⟩
      ·simp only [jl,kM,kN] at a;cases a
     ·exact I_ b l F mn k tm SX D ps g C E A G I B s t v w j bd J c d y k1 k2 k3 k4 _ K n p r M d1 d2 d3 z o i h q u
 ·rcases tf ((d:Int)==((0:Nat):Int)) with d2|d2
  ·refine ⟨[⟨6,false,[],[],[UInt8.ofNat (97+c)]⟩,⟨10,false,[],[],[]⟩],k3,⟨by simp only [List.countP_cons,List.countP_nil,jl,kM,kN];exact Nat.le_refl 1,by simp only [List.length_cons,List.length_nil];omega,fun x f a=> ?_⟩,(by omega),fun nt b=> ?_⟩
   ·simp only [List.mem_cons,List.not_mem_nil,or_false] at f
    rcases f with rfl|rfl
    ·exact ⟨c,m,rfl⟩
    ·simp [jl,kM,kN] at a
   ·exact Le b l F mn k tm SX D ps g C E A G I B s t v w j bd J c d k1 k2 k3 _ K n p r d1 d2 o i h q
  ·have h0:0<d:=by simp at d2;omega
   rcases tf (decide ((d:Int)<((4:Nat):Int))) with d3|d3
   ·have L:d<4:=by simp at d3;omega
    have z:((d:Int)==((4:Nat):Int))=false:=by simp;omega
    obtain ⟨hs,N,O,P⟩:=wY d h0 L
    refine ⟨[⟨6,false,[],[],[UInt8.ofNat (97+c)]⟩,⟨3,hs,N,O,[]⟩,⟨11,false,[],[],[]⟩,⟨fo y,false,[],[],[]⟩],k4,⟨by simp only [List.countP_cons,List.countP_nil,jl,kM,kN];exact Nat.le_refl 1,by simp only [List.length_cons,List.length_nil];omega,fun x f a=> ?_⟩,(by omega),fun nt b=> ?_⟩
    ·simp only [List.mem_cons,List.not_mem_nil,or_false] at f
     rcases f with rfl|rfl|rfl|rfl
     ·exact ⟨c,m,rfl⟩
     ·simp [jl,kM,kN] at a
     ·simp [jl,kM,kN] at a
     ·simp only [jl,kM,kN] at a;cases a
    ·exact I9 b l F mn k tm SX D ps g C E A G I B s t v w j bd J c d y k1 k2 k3 k4 _ hs N O _ K n p r (by omega) M d1 d2 d3 z o i h q uN (yV d (by omega)) P u
   ·rcases tf ((d:Int)==((4:Nat):Int)) with z|z
    ·refine ⟨[⟨6,false,[],[],[UInt8.ofNat (97+c)]⟩,⟨24,false,[],[],[115]⟩,⟨fo y,false,[],[],[]⟩],k4,⟨by simp only [List.countP_cons,List.countP_nil,jl,kM,kN];exact Nat.le_refl 1,by simp only [List.length_cons,List.length_nil];omega,fun x f a=> ?_⟩,(by omega),fun nt b=> ?_⟩
     ·simp only [List.mem_cons,List.not_mem_nil,or_false] at f
      rcases f with rfl|rfl|rfl
      ·exact ⟨c,m,rfl⟩
      ·simp [jl,kM,kN] at a
      ·simp only [jl,kM,kN] at a;cases a
     ·exact Lh b l F mn k tm SX D ps g C E A G I B s t v w j bd J c d y k1 k2 k3 k4 _ K n p r M d1 d2 d3 z o i h q u
    ·refine ⟨[⟨6,false,[],[],[UInt8.ofNat (97+c)]⟩,⟨fo y,false,[],[],[]⟩],k4,⟨by simp only [List.countP_cons,List.countP_nil,jl,kM,kN];exact Nat.le_refl 1,by simp only [List.length_cons,List.length_nil];omega,fun x f a=> ?_⟩,(by omega),fun nt b=> ?_⟩
     ·simp only [List.mem_cons,List.not_mem_nil,or_false] at f
      rcases f with rfl|rfl
      ·exact ⟨c,m,rfl⟩
      ·simp only [jl,kM,kN] at a;cases a
     ·exact I8 b l F mn k tm SX D ps g C E A G I B s t v w j bd J c d y k1 k2 k3 k4 _ K n p r M d1 d2 d3 z o i h q u
theorem uI (l:List (List Int)) (p:Bool) (mn k tm:Nat) (SX:List AV) (m:Nat) (ps:List Pv) (a:List UInt8) (g:Bool) (o d:List UInt8) (q:Bool) (r f:List UInt8) (i:List Int) (n:Bool) (s:0<mn) (c:mn≤8) (u:tm<2^20):∀ (rem kk nb j:Nat) (bd:List Nd),j+rem=tm→kk+4*rem<2^50→bd.length=nb→nb+5*rem<2^30→
  ∃ (e:List Nd) (k2:Nat),jv mn rem e∧k2≤kk+4*rem∧∀ nt,140≤nt→aQ prog ap [] nt (af 2 (ag f24)) (fun _=> .exit 2) (sV l p mn k tm SX m ps a g o d q r f i n) (V7 l p mn k tm SX m ps a g o d q r f i n) (kk,nb,bd,j) (k2,nb+e.length,bd++e)
 |0,kk,nb,j,bd,t,hkk,hb,hnb=>by
  refine ⟨[],kk,⟨by simp,by simp,(fun x B=>by cases B)⟩,(by omega),fun nt b=> ?_⟩
  have t:j=tm:=by omega
  subst t
  have h:=Oz b l p mn k j SX m ps a g o d q r f i n kk nb bd
  rw [List.append_nil]
  exact .done h
 |rem+1,kk,nb,j,bd,t,hkk,hb,hnb=>by
  obtain ⟨e,k2,v,D,A⟩:=F6 l p mn k tm SX m ps a g o d q r f i n s c kk nb j bd (by omega) hb (by omega) (by omega) (by omega)
  have C:=v.len
  obtain ⟨w,k3,y,E,z⟩:=uI l p mn k tm SX m ps a g o d q r f i n s c u rem k2 (nb+e.length) (j+1) (bd++e) (by omega) (by omega) (by rw [List.length_append,hb]) (by omega)
  refine ⟨e++w,k3,by rw [Nat.add_comm];exact v.app y,(by omega),fun nt b=> ?_⟩
  have:=z nt b
  rw [List.append_assoc,Nat.add_assoc,← List.length_append] at this
  exact .next (a':=(k2,nb+e.length,bd++e,j+1)) (A nt b) this
theorem LM {ps:List Pv} {a:Nat} (h:ps.length=a) (x:Pv):List.take (a*12) (qF ps)++OL x=qF (ps++ [x]):=by
 have e:(qF ps).length=a*12:=by rw [← h];exact qU (f:=OL) (n:=12) (fun _=>rfl) ps
 rw [List.take_of_length_le (by omega)]
 unfold qF
 rw [List.flatMap_append]
 simp
theorem CZ {ps:List Pv} {a:Nat} (h:ps.length=a):(qF ps).length=a*12:=by rw [← h];exact qU (f:=OL) (n:=12) (fun _=>rfl) ps
theorem KX {l:List (List Int)} {i:Nat} (h:i<l.length):∃ rx,List.drop ((Int.toNat (i:Int))*1) (iM l)= [AV.sl (iL (l.getD i [])) (l.getD i []).length false]++rx:=by
 unfold iM
 rw [fD,Nat.mul_one,← List.map_drop,List.drop_eq_getElem_cons h,List.getD_eq_getElem?_getD,List.getElem?_eq_getElem h]
 exact ⟨_,rfl⟩
def Qa (l:List (List Int)) (nl:Bool) (mn:Nat) (SX:List AV) (p:Nat × List Pv):St:=match p.2 with
 | []=> ⟨[(0,.sl (iM l) l.length nl),(2,.ptr 0 0 0),(3,.ptr 1 0 0),(4,.ptr 2 0 0),(6,.int .i64 (mn:Int)),(7,.int .i64 (p.1:Int))],[(0,⟨[.nilS,.nilS,.nilS],0,false,0,0,true⟩),(1,⟨[.bool false,.int .i64 1,.int .i64 0],0,false,0,0,true⟩),(2,⟨[.ref 3 0 0 1,.ref 4 0 0 1,.nilS],0,false,0,0,false⟩),(3,⟨[.str [120],.bool false,.int .i64 1,.int .i64 0],0,false,0,4,true⟩),(4,⟨SX,0,false,0,4,true⟩)],.dead,[]⟩
 |q::r=> ⟨[(0,.sl (iM l) l.length nl),(2,.ptr 0 0 0),(3,.ptr 1 0 0),(4,.ptr 2 0 0),(6,.int .i64 (mn:Int)),(7,.int .i64 (p.1:Int))],[(0,⟨[.nilS,.nilS,.nilS],0,false,0,0,true⟩),(1,⟨[.bool false,.int .i64 1,.int .i64 0],0,false,0,0,true⟩),(2,⟨[.ref 3 0 0 1,.ref 4 0 0 1,.ref 5 0 0 (q::r).length],0,false,0,0,false⟩),(3,⟨[.str [120],.bool false,.int .i64 1,.int .i64 0],0,false,0,4,true⟩),(4,⟨SX,0,false,0,4,true⟩),(5,⟨(qF (q::r)),0,false,0,12,true⟩)],.dead,[]⟩
def moX (SX:List AV) (ps:List Pv):St:=match ps with
 | []=> ⟨[(2,.ptr 0 0 0),(4,.ptr 1 0 0)],[(0,⟨[.nilS,.nilS,.nilS],0,false,0,0,true⟩),(1,⟨[.ref 2 0 0 1,.ref 3 0 0 1,.nilS],0,false,0,0,false⟩),(2,⟨[.str [120],.bool false,.int .i64 1,.int .i64 0],0,false,0,4,true⟩),(3,⟨SX,0,false,0,4,true⟩)],.dead,[]⟩
 |q::r=> ⟨[(2,.ptr 0 0 0),(4,.ptr 1 0 0)],[(0,⟨[.nilS,.nilS,.nilS],0,false,0,0,true⟩),(1,⟨[.ref 2 0 0 1,.ref 3 0 0 1,.ref 4 0 0 (q::r).length],0,false,0,0,false⟩),(2,⟨[.str [120],.bool false,.int .i64 1,.int .i64 0],0,false,0,4,true⟩),(3,⟨SX,0,false,0,4,true⟩),(4,⟨qF (q::r),0,false,0,12,true⟩)],.dead,[]⟩
theorem Tq {nt:Nat} (p:140≤nt) (l:List (List Int)) (c:Bool) (mn:Nat) (SX:List AV) (k:Nat) (b:List UInt8) (e:List UInt8) (a:List Int) (s:List AV) (h:List Nd) (d i q k1 k2 k3 y o:Nat) (j:k<mn) (m:k<l.length) (r:mn≤8) (x:(List.drop ((Int.toNat (k:Int))*1) (iM l))= [AV.sl (iL a) a.length false]++s) (w:h.length=o) (u:(decide (((0:Nat):Int)<(d:Int)))=true) (g:i<2^62)
  (ca1:CO 62 [.int .i64 (k:Int)] (.ret (.str b))) (cn1:ae prog ap 63 [.ptr 0 0 0,.int .i64 4] [⟨[.sl (iL a) a.length false,.int .i64 0],0,false,0,0,true⟩] (.ret (.int .i64 (d:Int))) [⟨[.sl (iL a) a.length false,.int .i64 (k1:Int)],0,false,0,0,true⟩]) (cf1:CO 25 [.int .i64 1] (.ret (.agg [.bool false,.str [1],.str [1]]))) (cn2:ae prog ap 63 [.ptr 0 0 0,.int .i64 40] [⟨[.sl (iL a) a.length false,.int .i64 (k1:Int)],0,false,0,0,true⟩] (.ret (.int .i64 (i:Int))) [⟨[.sl (iL a) a.length false,.int .i64 (k2:Int)],0,false,0,0,true⟩]) (cf2:CO 25 [.int .i64 (((i+1):Nat):Int)] (.ret (.agg [.bool false,.str e,.str [1]]))) (cn3:ae prog ap 63 [.ptr 0 0 0,.int .i64 4] [⟨[.sl (iL a) a.length false,.int .i64 (k2:Int)],0,false,0,0,true⟩] (.ret (.int .i64 (q:Int))) [⟨[.sl (iL a) a.length false,.int .i64 (k3:Int)],0,false,0,0,true⟩])
  (l1:aK prog ap [] 140 (.block 2 (.loop (af 2 (ag f24)))) ⟨[(0,.sl (iM l) l.length c),(2,.ptr 0 0 0),(3,.ptr 1 0 0),(4,.ptr 2 0 0),(5,.dead),(6,.int .i64 (mn:Int)),(7,.int .i64 (k:Int)),(8,.ptr 3 0 0),(9,.ptr 4 0 0),(10,.bool (decide (((0:Nat):Int)<(d:Int)))),(11,.int .i64 (q:Int)),(12,.int .i64 0),(13,.dead),(14,.dead),(15,.dead),(39,.bool (decide ((k:Int)<(mn:Int)))),(57,.bool (decide (((0:Nat):Int)<(d:Int)))),(69,.dead),(74,.dead),(89,.dead),(97,.dead),(115,.dead)],[(0,⟨[.nilS,.nilS,.nilS],0,false,0,0,true⟩),(1,⟨[.bool false,.int .i64 1,.int .i64 0],0,false,0,0,true⟩),(2,⟨[.ref 5 0 0 1,.ref 6 0 0 1,.nilS],0,false,0,0,false⟩),(3,⟨[.sl (iL a) a.length false,.int .i64 (k3:Int)],0,false,0,0,true⟩),(4,⟨[.str b,.bool false,.int .i64 1,.int .i64 0,.ref 7 0 0 1,.bool false,.bool false,.str [1],.str [1],.bool false,.str e,.str [1]],0,false,0,0,false⟩),(5,⟨[.str [120],.bool false,.int .i64 1,.int .i64 0],0,false,0,4,true⟩),(6,⟨SX,0,false,0,4,true⟩),(7,⟨zcc2_6,0,false,0,5,true⟩)],.dead,[]⟩ (.normal) ⟨[(0,.sl (iM l) l.length c),(2,.ptr 0 0 0),(3,.ptr 1 0 0),(4,.ptr 2 0 0),(6,.int .i64 (mn:Int)),(7,.int .i64 (k:Int)),(8,.ptr 3 0 0),(9,.ptr 4 0 0)],[(0,⟨[.nilS,.nilS,.nilS],0,false,0,0,true⟩),(1,⟨[.bool false,.int .i64 1,.int .i64 0],0,false,0,0,true⟩),(2,⟨[.ref 5 0 0 1,.ref 6 0 0 1,.nilS],0,false,0,0,false⟩),(3,⟨[.sl (iL a) a.length false,.int .i64 (y:Int)],0,false,0,0,true⟩),(4,⟨[.str b,.bool false,.int .i64 1,.int .i64 0,.sl (cO h) o true,.bool false,.bool false,.str [1],.str [1],.bool false,.str e,.str [1]],0,false,0,0,true⟩),(5,⟨[.str [120],.bool false,.int .i64 1,.int .i64 0],0,false,0,4,true⟩),(6,⟨SX,0,false,0,4,true⟩)],.dead,[]⟩):
  ah prog ap [] nt (af 0 (ag f24)) ⟨[(0,.sl (iM l) l.length c),(2,.ptr 0 0 0),(3,.ptr 1 0 0),(4,.ptr 2 0 0),(6,.int .i64 (mn:Int)),(7,.int .i64 (k:Int))],[(0,⟨[.nilS,.nilS,.nilS],0,false,0,0,true⟩),(1,⟨[.bool false,.int .i64 1,.int .i64 0],0,false,0,0,true⟩),(2,⟨[.ref 3 0 0 1,.ref 4 0 0 1,.nilS],0,false,0,0,false⟩),(3,⟨[.str [120],.bool false,.int .i64 1,.int .i64 0],0,false,0,4,true⟩),(4,⟨SX,0,false,0,4,true⟩)],.dead,[]⟩ .normal ⟨[(0,.sl (iM l) l.length c),(2,.ptr 0 0 0),(3,.ptr 1 0 0),(4,.ptr 2 0 0),(6,.int .i64 (mn:Int)),(7,.int .i64 (((k+1):Nat):Int))],[(0,⟨[.nilS,.nilS,.nilS],0,false,0,0,true⟩),(1,⟨[.bool false,.int .i64 1,.int .i64 0],0,false,0,0,true⟩),(2,⟨[.ref 3 0 0 1,.ref 4 0 0 1,.ref 5 0 0 1],0,false,0,0,false⟩),(3,⟨[.str [120],.bool false,.int .i64 1,.int .i64 0],0,false,0,4,true⟩),(4,⟨SX,0,false,0,4,true⟩),(5,⟨[.str b,.bool false,.int .i64 1,.int .i64 0,.sl (cO h) o true,.bool false,.bool false,.str [1],.str [1],.bool false,.str e,.str [1]],0,false,0,12,true⟩)],.dead,[]⟩:=by
 have v:k<2^62:=by omega
 have t:(decide ((k:Int)<(mn:Int)))=true:=kl j
 have f:(decide (((0:Nat):Int)≤(k:Int)))=true:=(k0 _)
 have n:(decide ((k:Int)<(l.length:Int)))=true:=(kl m)
 exact pN 24 [2] 3 3 (.k 19 (aN u) (.k 5 f (.c n (.c (aN t) .nil)))) (.v 41 (.eq (wpS v)) (.l l1 (.c cn3 (.c cf2 (.v 62 (.eq (Uk g)) (.c cn2 (.c cf1 (.c cn1 (.c ca1 (.v 44 (.ppt x) .nil)))))))))) p
theorem Tn {nt:Nat} (m:140≤nt) (l:List (List Int)) (c:Bool) (mn:Nat) (SX:List AV) (k:Nat) (b:List UInt8) (a:List Int) (p:List AV) (f:List Nd) (d n k1 k2 v j:Nat) (g:k<mn) (h:k<l.length) (o:mn≤8) (u:(List.drop ((Int.toNat (k:Int))*1) (iM l))= [AV.sl (iL a) a.length false]++p) (t:f.length=j) (r:(decide (((0:Nat):Int)<(d:Int)))=false)
  (ca1:CO 62 [.int .i64 (k:Int)] (.ret (.str b))) (cn1:ae prog ap 63 [.ptr 0 0 0,.int .i64 4] [⟨[.sl (iL a) a.length false,.int .i64 0],0,false,0,0,true⟩] (.ret (.int .i64 (d:Int))) [⟨[.sl (iL a) a.length false,.int .i64 (k1:Int)],0,false,0,0,true⟩]) (cn2:ae prog ap 63 [.ptr 0 0 0,.int .i64 4] [⟨[.sl (iL a) a.length false,.int .i64 (k1:Int)],0,false,0,0,true⟩] (.ret (.int .i64 (n:Int))) [⟨[.sl (iL a) a.length false,.int .i64 (k2:Int)],0,false,0,0,true⟩])
  (l1:aK prog ap [] 140 (.block 2 (.loop (af 2 (ag f24)))) ⟨[(0,.sl (iM l) l.length c),(2,.ptr 0 0 0),(3,.ptr 1 0 0),(4,.ptr 2 0 0),(5,.dead),(6,.int .i64 (mn:Int)),(7,.int .i64 (k:Int)),(8,.ptr 3 0 0),(9,.ptr 4 0 0),(10,.bool (decide (((0:Nat):Int)<(d:Int)))),(11,.int .i64 (n:Int)),(12,.int .i64 0),(13,.dead),(14,.dead),(15,.dead),(39,.bool (decide ((k:Int)<(mn:Int)))),(57,.bool (decide (((0:Nat):Int)<(d:Int)))),(69,.dead),(74,.dead),(89,.dead),(97,.dead),(115,.dead)],[(0,⟨[.nilS,.nilS,.nilS],0,false,0,0,true⟩),(1,⟨[.bool false,.int .i64 1,.int .i64 0],0,false,0,0,true⟩),(2,⟨[.ref 5 0 0 1,.ref 6 0 0 1,.nilS],0,false,0,0,false⟩),(3,⟨[.sl (iL a) a.length false,.int .i64 (k2:Int)],0,false,0,0,true⟩),(4,⟨[.str b,.bool false,.int .i64 1,.int .i64 0,.ref 7 0 0 1,.bool false,.bool false,.str [],.str [],.bool false,.str [],.str []],0,false,0,0,false⟩),(5,⟨[.str [120],.bool false,.int .i64 1,.int .i64 0],0,false,0,4,true⟩),(6,⟨SX,0,false,0,4,true⟩),(7,⟨zcc2_6,0,false,0,5,true⟩)],.dead,[]⟩ (.normal) ⟨[(0,.sl (iM l) l.length c),(2,.ptr 0 0 0),(3,.ptr 1 0 0),(4,.ptr 2 0 0),(6,.int .i64 (mn:Int)),(7,.int .i64 (k:Int)),(8,.ptr 3 0 0),(9,.ptr 4 0 0)],[(0,⟨[.nilS,.nilS,.nilS],0,false,0,0,true⟩),(1,⟨[.bool false,.int .i64 1,.int .i64 0],0,false,0,0,true⟩),(2,⟨[.ref 5 0 0 1,.ref 6 0 0 1,.nilS],0,false,0,0,false⟩),(3,⟨[.sl (iL a) a.length false,.int .i64 (v:Int)],0,false,0,0,true⟩),(4,⟨[.str b,.bool false,.int .i64 1,.int .i64 0,.sl (cO f) j true,.bool false,.bool false,.str [],.str [],.bool false,.str [],.str []],0,false,0,0,true⟩),(5,⟨[.str [120],.bool false,.int .i64 1,.int .i64 0],0,false,0,4,true⟩),(6,⟨SX,0,false,0,4,true⟩)],.dead,[]⟩):
  ah prog ap [] nt (af 0 (ag f24)) ⟨[(0,.sl (iM l) l.length c),(2,.ptr 0 0 0),(3,.ptr 1 0 0),(4,.ptr 2 0 0),(6,.int .i64 (mn:Int)),(7,.int .i64 (k:Int))],[(0,⟨[.nilS,.nilS,.nilS],0,false,0,0,true⟩),(1,⟨[.bool false,.int .i64 1,.int .i64 0],0,false,0,0,true⟩),(2,⟨[.ref 3 0 0 1,.ref 4 0 0 1,.nilS],0,false,0,0,false⟩),(3,⟨[.str [120],.bool false,.int .i64 1,.int .i64 0],0,false,0,4,true⟩),(4,⟨SX,0,false,0,4,true⟩)],.dead,[]⟩ .normal ⟨[(0,.sl (iM l) l.length c),(2,.ptr 0 0 0),(3,.ptr 1 0 0),(4,.ptr 2 0 0),(6,.int .i64 (mn:Int)),(7,.int .i64 (((k+1):Nat):Int))],[(0,⟨[.nilS,.nilS,.nilS],0,false,0,0,true⟩),(1,⟨[.bool false,.int .i64 1,.int .i64 0],0,false,0,0,true⟩),(2,⟨[.ref 3 0 0 1,.ref 4 0 0 1,.ref 5 0 0 1],0,false,0,0,false⟩),(3,⟨[.str [120],.bool false,.int .i64 1,.int .i64 0],0,false,0,4,true⟩),(4,⟨SX,0,false,0,4,true⟩),(5,⟨[.str b,.bool false,.int .i64 1,.int .i64 0,.sl (cO f) j true,.bool false,.bool false,.str [],.str [],.bool false,.str [],.str []],0,false,0,12,true⟩)],.dead,[]⟩:=by
 have s:k<2^62:=by omega
 have q:(decide ((k:Int)<(mn:Int)))=true:=kl g
 have e:(decide (((0:Nat):Int)≤(k:Int)))=true:=(k0 _)
 have i:(decide ((k:Int)<(l.length:Int)))=true:=(kl h)
 exact pN 24 [2] 3 1 (.k 17 (aT r) (.k 5 e (.c i (.c (aN q) .nil)))) (.v 41 (.eq (wpS s)) (.l l1 (.c cn2 (.c cn1 (.c ca1 (.v 44 (.ppt u) .nil)))))) m
theorem OC {nt:Nat} (a:140≤nt) (l:List (List Int)) (c:Bool) (mn:Nat) (SX:List AV):ah prog ap [] nt (af 0 (ag f24)) ⟨[(0,.sl (iM l) l.length c),(2,.ptr 0 0 0),(3,.ptr 1 0 0),(4,.ptr 2 0 0),(6,.int .i64 (mn:Int)),(7,.int .i64 (mn:Int))],[(0,⟨[.nilS,.nilS,.nilS],0,false,0,0,true⟩),(1,⟨[.bool false,.int .i64 1,.int .i64 0],0,false,0,0,true⟩),(2,⟨[.ref 3 0 0 1,.ref 4 0 0 1,.nilS],0,false,0,0,false⟩),(3,⟨[.str [120],.bool false,.int .i64 1,.int .i64 0],0,false,0,4,true⟩),(4,⟨SX,0,false,0,4,true⟩)],.dead,[]⟩ (.exit 0) ⟨[(2,.ptr 0 0 0),(4,.ptr 1 0 0)],[(0,⟨[.nilS,.nilS,.nilS],0,false,0,0,true⟩),(1,⟨[.ref 2 0 0 1,.ref 3 0 0 1,.nilS],0,false,0,0,false⟩),(2,⟨[.str [120],.bool false,.int .i64 1,.int .i64 0],0,false,0,4,true⟩),(3,⟨SX,0,false,0,4,true⟩)],.dead,[]⟩:=by
 have b:(decide ((mn:Int)<(mn:Int)))=false:=kn (Nat.le_refl _)
 exact pN 24 [2] 1 0 (.c (aT b) .nil) .nil a
theorem Tm {nt:Nat} (w:140≤nt) (l:List (List Int)) (i:Bool) (mn:Nat) (SX:List AV) (k:Nat) (c:Nat) (ps:List Pv) (b:List UInt8) (e:List UInt8) (a:List Int) (B:List AV) (g:List Nd) (j o y k1 k2 k3 I v:Nat) (q:k<mn) (r:k<l.length) (A:mn≤8) (G:(List.drop ((Int.toNat (k:Int))*1) (iM l))= [AV.sl (iL a) a.length false]++B) (f:ps.length=c) (C:c<2^20) (h:g.length=v) (E:(decide (((0:Nat):Int)<(j:Int)))=true) (n:o<2^62)
  (ca1:CO 62 [.int .i64 (k:Int)] (.ret (.str b))) (cn1:ae prog ap 63 [.ptr 0 0 0,.int .i64 4] [⟨[.sl (iL a) a.length false,.int .i64 0],0,false,0,0,true⟩] (.ret (.int .i64 (j:Int))) [⟨[.sl (iL a) a.length false,.int .i64 (k1:Int)],0,false,0,0,true⟩]) (cf1:CO 25 [.int .i64 1] (.ret (.agg [.bool false,.str [1],.str [1]]))) (cn2:ae prog ap 63 [.ptr 0 0 0,.int .i64 40] [⟨[.sl (iL a) a.length false,.int .i64 (k1:Int)],0,false,0,0,true⟩] (.ret (.int .i64 (o:Int))) [⟨[.sl (iL a) a.length false,.int .i64 (k2:Int)],0,false,0,0,true⟩]) (cf2:CO 25 [.int .i64 (((o+1):Nat):Int)] (.ret (.agg [.bool false,.str e,.str [1]]))) (cn3:ae prog ap 63 [.ptr 0 0 0,.int .i64 4] [⟨[.sl (iL a) a.length false,.int .i64 (k2:Int)],0,false,0,0,true⟩] (.ret (.int .i64 (y:Int))) [⟨[.sl (iL a) a.length false,.int .i64 (k3:Int)],0,false,0,0,true⟩])
  (l1:aK prog ap [] 140 (.block 2 (.loop (af 2 (ag f24)))) ⟨[(0,.sl (iM l) l.length i),(2,.ptr 0 0 0),(3,.ptr 1 0 0),(4,.ptr 2 0 0),(5,.dead),(6,.int .i64 (mn:Int)),(7,.int .i64 (k:Int)),(8,.ptr 3 0 0),(9,.ptr 4 0 0),(10,.bool (decide (((0:Nat):Int)<(j:Int)))),(11,.int .i64 (y:Int)),(12,.int .i64 0),(13,.dead),(14,.dead),(15,.dead),(39,.bool (decide ((k:Int)<(mn:Int)))),(57,.bool (decide (((0:Nat):Int)<(j:Int)))),(69,.dead),(74,.dead),(89,.dead),(97,.dead),(115,.dead)],[(0,⟨[.nilS,.nilS,.nilS],0,false,0,0,true⟩),(1,⟨[.bool false,.int .i64 1,.int .i64 0],0,false,0,0,true⟩),(2,⟨[.ref 5 0 0 1,.ref 6 0 0 1,.ref 7 0 0 c],0,false,0,0,false⟩),(3,⟨[.sl (iL a) a.length false,.int .i64 (k3:Int)],0,false,0,0,true⟩),(4,⟨[.str b,.bool false,.int .i64 1,.int .i64 0,.ref 8 0 0 1,.bool false,.bool false,.str [1],.str [1],.bool false,.str e,.str [1]],0,false,0,0,false⟩),(5,⟨[.str [120],.bool false,.int .i64 1,.int .i64 0],0,false,0,4,true⟩),(6,⟨SX,0,false,0,4,true⟩),(7,⟨(qF ps),0,false,0,12,true⟩),(8,⟨zcc2_6,0,false,0,5,true⟩)],.dead,[]⟩ (.normal) ⟨[(0,.sl (iM l) l.length i),(2,.ptr 0 0 0),(3,.ptr 1 0 0),(4,.ptr 2 0 0),(6,.int .i64 (mn:Int)),(7,.int .i64 (k:Int)),(8,.ptr 3 0 0),(9,.ptr 4 0 0)],[(0,⟨[.nilS,.nilS,.nilS],0,false,0,0,true⟩),(1,⟨[.bool false,.int .i64 1,.int .i64 0],0,false,0,0,true⟩),(2,⟨[.ref 5 0 0 1,.ref 6 0 0 1,.ref 7 0 0 c],0,false,0,0,false⟩),(3,⟨[.sl (iL a) a.length false,.int .i64 (I:Int)],0,false,0,0,true⟩),(4,⟨[.str b,.bool false,.int .i64 1,.int .i64 0,.sl (cO g) v true,.bool false,.bool false,.str [1],.str [1],.bool false,.str e,.str [1]],0,false,0,0,true⟩),(5,⟨[.str [120],.bool false,.int .i64 1,.int .i64 0],0,false,0,4,true⟩),(6,⟨SX,0,false,0,4,true⟩),(7,⟨(qF ps),0,false,0,12,true⟩)],.dead,[]⟩):
  ah prog ap [] nt (af 0 (ag f24)) ⟨[(0,.sl (iM l) l.length i),(2,.ptr 0 0 0),(3,.ptr 1 0 0),(4,.ptr 2 0 0),(6,.int .i64 (mn:Int)),(7,.int .i64 (k:Int))],[(0,⟨[.nilS,.nilS,.nilS],0,false,0,0,true⟩),(1,⟨[.bool false,.int .i64 1,.int .i64 0],0,false,0,0,true⟩),(2,⟨[.ref 3 0 0 1,.ref 4 0 0 1,.ref 5 0 0 c],0,false,0,0,false⟩),(3,⟨[.str [120],.bool false,.int .i64 1,.int .i64 0],0,false,0,4,true⟩),(4,⟨SX,0,false,0,4,true⟩),(5,⟨(qF ps),0,false,0,12,true⟩)],.dead,[]⟩ .normal ⟨[(0,.sl (iM l) l.length i),(2,.ptr 0 0 0),(3,.ptr 1 0 0),(4,.ptr 2 0 0),(6,.int .i64 (mn:Int)),(7,.int .i64 (((k+1):Nat):Int))],[(0,⟨[.nilS,.nilS,.nilS],0,false,0,0,true⟩),(1,⟨[.bool false,.int .i64 1,.int .i64 0],0,false,0,0,true⟩),(2,⟨[.ref 3 0 0 1,.ref 4 0 0 1,.ref 5 0 0 (c+1)],0,false,0,0,false⟩),(3,⟨[.str [120],.bool false,.int .i64 1,.int .i64 0],0,false,0,4,true⟩),(4,⟨SX,0,false,0,4,true⟩),(5,⟨(qF (ps++ [⟨b,false,1,0,g,false,false,[1],[1],false,e,[1]⟩])),0,false,0,12,true⟩)],.dead,[]⟩:=by
 have F:k<2^62:=by omega
 have D:(decide ((k:Int)<(mn:Int)))=true:=kl q
 obtain ⟨x,d⟩:∃ z:Pv,z=⟨b,false,1,0,g,false,false,[1],[1],false,e,[1]⟩:=⟨_,rfl⟩
 rw [← d]
 have p:=LM f x
 have p:List.take (c*12) (qF ps)++ [AV.str b,.bool false,.int .i64 1,.int .i64 0,.sl (cO g) v true,.bool false,.bool false,.str [1],.str [1],.bool false,.str e,.str [1]]=qF (ps++ [x]):=by rw [← p,d,← h];rfl
 subst h
 clear d
 have m:(Nat.ble (c+1) 549755813888)=true:=(Nat.ble_eq_true_of_le (by omega))
 have u:(Nat.ble (c*12) (List.length (qF ps)))=true:=(Nat.ble_eq_true_of_le (by rw [CZ f];exact Nat.le_refl _))
 have s:(decide (((0:Nat):Int)≤(k:Int)))=true:=(k0 _)
 have t:(decide ((k:Int)<(l.length:Int)))=true:=(kl r)
 exact pN 24 [2] 2 3 (.k 2 m (.c u (.k 16 (aN E) (.k 5 s (.c t (.c (aN D) .nil)))))) (.v 41 (.eq (wpS F)) (.b 137 p (.l l1 (.c cn3 (.c cf2 (.v 62 (.eq (Uk n)) (.c cn2 (.c cf1 (.c cn1 (.c ca1 (.v 44 (.ppt G) .nil))))))))))) w
theorem Tj {nt:Nat} (t:140≤nt) (l:List (List Int)) (h:Bool) (mn:Nat) (SX:List AV) (k:Nat) (c:Nat) (ps:List Pv) (b:List UInt8) (a:List Int) (x:List AV) (f:List Nd) (i u k1 k2 E s:Nat) (n:k<mn) (o:k<l.length) (w:mn≤8) (D:(List.drop ((Int.toNat (k:Int))*1) (iM l))= [AV.sl (iL a) a.length false]++x) (e:ps.length=c) (y:c<2^20) (g:f.length=s) (B:(decide (((0:Nat):Int)<(i:Int)))=false)
  (ca1:CO 62 [.int .i64 (k:Int)] (.ret (.str b))) (cn1:ae prog ap 63 [.ptr 0 0 0,.int .i64 4] [⟨[.sl (iL a) a.length false,.int .i64 0],0,false,0,0,true⟩] (.ret (.int .i64 (i:Int))) [⟨[.sl (iL a) a.length false,.int .i64 (k1:Int)],0,false,0,0,true⟩]) (cn2:ae prog ap 63 [.ptr 0 0 0,.int .i64 4] [⟨[.sl (iL a) a.length false,.int .i64 (k1:Int)],0,false,0,0,true⟩] (.ret (.int .i64 (u:Int))) [⟨[.sl (iL a) a.length false,.int .i64 (k2:Int)],0,false,0,0,true⟩])
  (l1:aK prog ap [] 140 (.block 2 (.loop (af 2 (ag f24)))) ⟨[(0,.sl (iM l) l.length h),(2,.ptr 0 0 0),(3,.ptr 1 0 0),(4,.ptr 2 0 0),(5,.dead),(6,.int .i64 (mn:Int)),(7,.int .i64 (k:Int)),(8,.ptr 3 0 0),(9,.ptr 4 0 0),(10,.bool (decide (((0:Nat):Int)<(i:Int)))),(11,.int .i64 (u:Int)),(12,.int .i64 0),(13,.dead),(14,.dead),(15,.dead),(39,.bool (decide ((k:Int)<(mn:Int)))),(57,.bool (decide (((0:Nat):Int)<(i:Int)))),(69,.dead),(74,.dead),(89,.dead),(97,.dead),(115,.dead)],[(0,⟨[.nilS,.nilS,.nilS],0,false,0,0,true⟩),(1,⟨[.bool false,.int .i64 1,.int .i64 0],0,false,0,0,true⟩),(2,⟨[.ref 5 0 0 1,.ref 6 0 0 1,.ref 7 0 0 c],0,false,0,0,false⟩),(3,⟨[.sl (iL a) a.length false,.int .i64 (k2:Int)],0,false,0,0,true⟩),(4,⟨[.str b,.bool false,.int .i64 1,.int .i64 0,.ref 8 0 0 1,.bool false,.bool false,.str [],.str [],.bool false,.str [],.str []],0,false,0,0,false⟩),(5,⟨[.str [120],.bool false,.int .i64 1,.int .i64 0],0,false,0,4,true⟩),(6,⟨SX,0,false,0,4,true⟩),(7,⟨(qF ps),0,false,0,12,true⟩),(8,⟨zcc2_6,0,false,0,5,true⟩)],.dead,[]⟩ (.normal) ⟨[(0,.sl (iM l) l.length h),(2,.ptr 0 0 0),(3,.ptr 1 0 0),(4,.ptr 2 0 0),(6,.int .i64 (mn:Int)),(7,.int .i64 (k:Int)),(8,.ptr 3 0 0),(9,.ptr 4 0 0)],[(0,⟨[.nilS,.nilS,.nilS],0,false,0,0,true⟩),(1,⟨[.bool false,.int .i64 1,.int .i64 0],0,false,0,0,true⟩),(2,⟨[.ref 5 0 0 1,.ref 6 0 0 1,.ref 7 0 0 c],0,false,0,0,false⟩),(3,⟨[.sl (iL a) a.length false,.int .i64 (E:Int)],0,false,0,0,true⟩),(4,⟨[.str b,.bool false,.int .i64 1,.int .i64 0,.sl (cO f) s true,.bool false,.bool false,.str [],.str [],.bool false,.str [],.str []],0,false,0,0,true⟩),(5,⟨[.str [120],.bool false,.int .i64 1,.int .i64 0],0,false,0,4,true⟩),(6,⟨SX,0,false,0,4,true⟩),(7,⟨(qF ps),0,false,0,12,true⟩)],.dead,[]⟩):
  ah prog ap [] nt (af 0 (ag f24)) ⟨[(0,.sl (iM l) l.length h),(2,.ptr 0 0 0),(3,.ptr 1 0 0),(4,.ptr 2 0 0),(6,.int .i64 (mn:Int)),(7,.int .i64 (k:Int))],[(0,⟨[.nilS,.nilS,.nilS],0,false,0,0,true⟩),(1,⟨[.bool false,.int .i64 1,.int .i64 0],0,false,0,0,true⟩),(2,⟨[.ref 3 0 0 1,.ref 4 0 0 1,.ref 5 0 0 c],0,false,0,0,false⟩),(3,⟨[.str [120],.bool false,.int .i64 1,.int .i64 0],0,false,0,4,true⟩),(4,⟨SX,0,false,0,4,true⟩),(5,⟨(qF ps),0,false,0,12,true⟩)],.dead,[]⟩ .normal ⟨[(0,.sl (iM l) l.length h),(2,.ptr 0 0 0),(3,.ptr 1 0 0),(4,.ptr 2 0 0),(6,.int .i64 (mn:Int)),(7,.int .i64 (((k+1):Nat):Int))],[(0,⟨[.nilS,.nilS,.nilS],0,false,0,0,true⟩),(1,⟨[.bool false,.int .i64 1,.int .i64 0],0,false,0,0,true⟩),(2,⟨[.ref 3 0 0 1,.ref 4 0 0 1,.ref 5 0 0 (c+1)],0,false,0,0,false⟩),(3,⟨[.str [120],.bool false,.int .i64 1,.int .i64 0],0,false,0,4,true⟩),(4,⟨SX,0,false,0,4,true⟩),(5,⟨(qF (ps++ [⟨b,false,1,0,f,false,false,[],[],false,[],[]⟩])),0,false,0,12,true⟩)],.dead,[]⟩:=by
 have C:k<2^62:=by omega
 have A:(decide ((k:Int)<(mn:Int)))=true:=kl n
 obtain ⟨v,d⟩:∃ z:Pv,z=⟨b,false,1,0,f,false,false,[],[],false,[],[]⟩:=⟨_,rfl⟩
 rw [← d]
 have m:=LM e v
 have m:List.take (c*12) (qF ps)++ [AV.str b,.bool false,.int .i64 1,.int .i64 0,.sl (cO f) s true,.bool false,.bool false,.str [],.str [],.bool false,.str [],.str []]=qF (ps++ [v]):=by rw [← m,d,← g];rfl
 subst g
 clear d
 have j:(Nat.ble (c+1) 549755813888)=true:=(Nat.ble_eq_true_of_le (by omega))
 have r:(Nat.ble (c*12) (List.length (qF ps)))=true:=(Nat.ble_eq_true_of_le (by rw [CZ e];exact Nat.le_refl _))
 have p:(decide (((0:Nat):Int)≤(k:Int)))=true:=(k0 _)
 have q:(decide ((k:Int)<(l.length:Int)))=true:=(kl o)
 exact pN 24 [2] 2 1 (.k 2 j (.c r (.k 14 (aT B) (.k 5 p (.c q (.c (aN A) .nil)))))) (.v 41 (.eq (wpS C)) (.b 137 m (.l l1 (.c cn2 (.c cn1 (.c ca1 (.v 44 (.ppt D) .nil))))))) t
theorem OB {nt:Nat} (a:140≤nt) (l:List (List Int)) (d:Bool) (mn:Nat) (SX:List AV) (b:Nat) (ps:List Pv):ah prog ap [] nt (af 0 (ag f24)) ⟨[(0,.sl (iM l) l.length d),(2,.ptr 0 0 0),(3,.ptr 1 0 0),(4,.ptr 2 0 0),(6,.int .i64 (mn:Int)),(7,.int .i64 (mn:Int))],[(0,⟨[.nilS,.nilS,.nilS],0,false,0,0,true⟩),(1,⟨[.bool false,.int .i64 1,.int .i64 0],0,false,0,0,true⟩),(2,⟨[.ref 3 0 0 1,.ref 4 0 0 1,.ref 5 0 0 b],0,false,0,0,false⟩),(3,⟨[.str [120],.bool false,.int .i64 1,.int .i64 0],0,false,0,4,true⟩),(4,⟨SX,0,false,0,4,true⟩),(5,⟨(qF ps),0,false,0,12,true⟩)],.dead,[]⟩ (.exit 0) ⟨[(2,.ptr 0 0 0),(4,.ptr 1 0 0)],[(0,⟨[.nilS,.nilS,.nilS],0,false,0,0,true⟩),(1,⟨[.ref 2 0 0 1,.ref 3 0 0 1,.ref 4 0 0 b],0,false,0,0,false⟩),(2,⟨[.str [120],.bool false,.int .i64 1,.int .i64 0],0,false,0,4,true⟩),(3,⟨SX,0,false,0,4,true⟩),(4,⟨(qF ps),0,false,0,12,true⟩)],.dead,[]⟩:=by
 have c:(decide ((mn:Int)<(mn:Int)))=false:=kn (Nat.le_refl _)
 exact pN 24 [2] 1 0 (.c (aT c) .nil) .nil a
theorem G5 {a:List Nd} {b:Nat} (h:a.length=b):((cO a).drop (0*5)).take (b*5)=cO a:=by
 rw [Nat.zero_mul,List.drop_zero,List.take_of_length_le (by rw [aj h];exact Nat.le_refl _)]
structure Ry (mn k:Nat) (p:Pv):Prop where
 nm:p.nm= [UInt8.ofNat (97+k)]
 body:∃ e,p.body=⟨5,false,[],[],[120]⟩::e∧jv mn 3 e
theorem H5 (l:List (List Int)) (q:Bool) (mn k tm:Nat) (SX:List AV) (b:List UInt8) (m:Bool) (p g:List UInt8) (r:Bool) (t i:List UInt8) (d:List Int) (o:Bool) {a:Code} {s:St} {n:Nat} (u f:Nat) (c:List Nd) (w:c.length=f) (h:aK prog ap [] n a s .normal (V8 l q mn k tm SX b m p g r t i d o (u,f,c))):aK prog ap [] n a s .normal ⟨[(0,.sl (iM l) l.length q),(2,.ptr 0 0 0),(3,.ptr 1 0 0),(4,.ptr 2 0 0),(6,.int .i64 (mn:Int)),(7,.int .i64 (k:Int)),(8,.ptr 3 0 0),(9,.ptr 4 0 0)],[(0,⟨[.nilS,.nilS,.nilS],0,false,0,0,true⟩),(1,⟨[.bool false,.int .i64 1,.int .i64 0],0,false,0,0,true⟩),(2,⟨[.ref 5 0 0 1,.ref 6 0 0 1,.nilS],0,false,0,0,false⟩),(3,⟨[.sl (iL d) d.length o,.int .i64 (u:Int)],0,false,0,0,true⟩),(4,⟨[.str b,.bool false,.int .i64 1,.int .i64 0,.sl (cO c) f true,.bool false,.bool m,.str p,.str g,.bool r,.str t,.str i],0,false,0,0,true⟩),(5,⟨[.str [120],.bool false,.int .i64 1,.int .i64 0],0,false,0,4,true⟩),(6,⟨SX,0,false,0,4,true⟩)],.dead,[]⟩:=fun nt e=>by
 have j:=h nt e
 unfold V8 at j
 exact ah.forget 7 ⟨cO c,0,false,0,5,true⟩ j (by intro v h;cases h) (Nat.zero_le _) rfl ⟨Fz.same rfl,Fz.same rfl,Fz.same rfl,Fz.same rfl,Fz.same rfl,Fz.same rfl,Fz.same rfl,Fz.same rfl,trivial⟩ ⟨rfl,zT.same rfl,by decide,rfl,zT.same rfl,by decide,rfl,⟨rfl,rfl,rfl,rfl,.inr ⟨.cons (.same rfl) (.cons (.same rfl) (.cons (.same rfl) .nil)),fun h=>by cases h⟩⟩,by decide,rfl,zT.same rfl,by decide,rfl,⟨rfl,rfl,rfl,rfl,.inr ⟨.cons (.same rfl) (.cons (.same rfl) (.cons (.same rfl) (.cons (.same rfl) (.cons (.fit .ref (bC.eq (by rw [G5 w]))) (.cons (.same rfl) (.cons (.same rfl) (.cons (.same rfl) (.cons (.same rfl) (.cons (.same rfl) (.cons (.same rfl) (.cons (.same rfl) .nil))))))))))),fun _=>rfl⟩⟩,by decide,rfl,zT.same rfl,by decide,rfl,zT.same rfl,by decide,rfl⟩
theorem HY (l:List (List Int)) (r:Bool) (mn k tm:Nat) (SX:List AV) (o:Nat) (ps:List Pv) (b:List UInt8) (m:Bool) (q g:List UInt8) (t:Bool) (u i:List UInt8) (d:List Int) (p:Bool) {a:Code} {s:St} {n:Nat} (w f:Nat) (c:List Nd) (x:c.length=f) (h:aK prog ap [] n a s .normal (V7 l r mn k tm SX o ps b m q g t u i d p (w,f,c))):aK prog ap [] n a s .normal ⟨[(0,.sl (iM l) l.length r),(2,.ptr 0 0 0),(3,.ptr 1 0 0),(4,.ptr 2 0 0),(6,.int .i64 (mn:Int)),(7,.int .i64 (k:Int)),(8,.ptr 3 0 0),(9,.ptr 4 0 0)],[(0,⟨[.nilS,.nilS,.nilS],0,false,0,0,true⟩),(1,⟨[.bool false,.int .i64 1,.int .i64 0],0,false,0,0,true⟩),(2,⟨[.ref 5 0 0 1,.ref 6 0 0 1,.ref 7 0 0 o],0,false,0,0,false⟩),(3,⟨[.sl (iL d) d.length p,.int .i64 (w:Int)],0,false,0,0,true⟩),(4,⟨[.str b,.bool false,.int .i64 1,.int .i64 0,.sl (cO c) f true,.bool false,.bool m,.str q,.str g,.bool t,.str u,.str i],0,false,0,0,true⟩),(5,⟨[.str [120],.bool false,.int .i64 1,.int .i64 0],0,false,0,4,true⟩),(6,⟨SX,0,false,0,4,true⟩),(7,⟨(qF ps),0,false,0,12,true⟩)],.dead,[]⟩:=fun nt e=>by
 have j:=h nt e
 unfold V7 at j
 exact ah.forget 8 ⟨cO c,0,false,0,5,true⟩ j (by intro v h;cases h) (Nat.zero_le _) rfl ⟨Fz.same rfl,Fz.same rfl,Fz.same rfl,Fz.same rfl,Fz.same rfl,Fz.same rfl,Fz.same rfl,Fz.same rfl,trivial⟩ ⟨rfl,zT.same rfl,by decide,rfl,zT.same rfl,by decide,rfl,⟨rfl,rfl,rfl,rfl,.inr ⟨.cons (.same rfl) (.cons (.same rfl) (.cons (.same rfl) .nil)),fun h=>by cases h⟩⟩,by decide,rfl,zT.same rfl,by decide,rfl,⟨rfl,rfl,rfl,rfl,.inr ⟨.cons (.same rfl) (.cons (.same rfl) (.cons (.same rfl) (.cons (.same rfl) (.cons (.fit .ref (bC.eq (by rw [G5 x]))) (.cons (.same rfl) (.cons (.same rfl) (.cons (.same rfl) (.cons (.same rfl) (.cons (.same rfl) (.cons (.same rfl) (.cons (.same rfl) .nil))))))))))),fun _=>rfl⟩⟩,by decide,rfl,zT.same rfl,by decide,rfl,zT.same rfl,by decide,rfl,zT.same rfl,by decide,rfl⟩
theorem sW (l:List (List Int)) (a:Bool) (mn:Nat) (SX:List AV) (k:Nat) {ps:List Pv} (h:ps ≠ []):Qa l a mn SX (k,ps)=⟨[(0,.sl (iM l) l.length a),(2,.ptr 0 0 0),(3,.ptr 1 0 0),(4,.ptr 2 0 0),(6,.int .i64 (mn:Int)),(7,.int .i64 (k:Int))],[(0,⟨[.nilS,.nilS,.nilS],0,false,0,0,true⟩),(1,⟨[.bool false,.int .i64 1,.int .i64 0],0,false,0,0,true⟩),(2,⟨[.ref 3 0 0 1,.ref 4 0 0 1,.ref 5 0 0 ps.length],0,false,0,0,false⟩),(3,⟨[.str [120],.bool false,.int .i64 1,.int .i64 0],0,false,0,4,true⟩),(4,⟨SX,0,false,0,4,true⟩),(5,⟨(qF ps),0,false,0,12,true⟩)],.dead,[]⟩:=by
 cases ps with
 |nil=>exact absurd rfl h
 |cons q r=>rfl
theorem Lu (l:List (List Int)) (c:Bool) (mn:Nat) (SX:List AV) (r:0<mn) (a:mn≤8) (J:mn≤l.length) (k:Nat) (ps:List Pv) (A:k<mn) (n:ps.length=k):
  ∃ p:Pv,Ry mn k p∧∀ nt,140≤nt→ah prog ap [] nt (af 0 (ag f24)) (Qa l c mn SX (k,ps)) .normal (Qa l c mn SX (k+1,ps++ [p])):=by
 have j:k<l.length:=by omega
 obtain ⟨z,B⟩:=KX j
 generalize l.getD k []=xs at*
 have o:=CQ k (by omega)
 obtain ⟨y,k1,I,E,q⟩:=gp xs false 0 4 (by omega) (by omega) (by omega)
 rcases tf (decide (((0:Nat):Int)<(y:Int))) with hc|hc
 ·obtain ⟨b,k2,C,D,i⟩:=gp xs false k1 40 (by omega) (by omega) (by omega)
  obtain ⟨s,k3,G,F,x⟩:=gp xs false k2 4 (by omega) (by omega) (by omega)
  by_cases hne:ps= []
  ·subst hne
   obtain ⟨e,m,g,u,f⟩:=uJ l c mn k s SX [UInt8.ofNat (97+k)] false [1] [1] false [UInt8.ofNat (b+1)] [1] xs false r a (by omega) s k3 1 0 [⟨5,false,[],[],[120]⟩] (by omega) (by omega) rfl (by omega)
   have t:=aQ.blk (id:=2) (e':= .normal) (fun nt (hn:140≤nt)=>f nt hn) (by simp) rfl (aG.refl _) (aG.refl _)
   have v:=H5 l c mn k s SX [UInt8.ofNat (97+k)] false [1] [1] false [UInt8.ofNat (b+1)] [1] xs false m _ _ (by simp [Nat.add_comm]) t
   refine ⟨⟨[UInt8.ofNat (97+k)],false,1,0,⟨5,false,[],[],[120]⟩::e,false,false,[1],[1],false,[UInt8.ofNat (b+1)],[1]⟩,⟨rfl,e,rfl,⟨Nat.le_trans g.cnt (by omega),Nat.le_trans g.len (by omega),g.nms⟩⟩,fun nt h=> ?_⟩
   have w:=Tq h l c mn SX k [UInt8.ofNat (97+k)] [UInt8.ofNat (b+1)] xs z (⟨5,false,[],[],[120]⟩::e) y b s k1 k2 k3 m (1+e.length) A j a B (by simp [Nat.add_comm]) hc (by omega) o q uN i (yV b (by omega)) x (fun nt d=>(v nt d).weak (aG.of ⟨rfl,rfl,rfl,rfl,rfl,rfl,rfl,rfl,rfl,rfl,trivial⟩) (aG.refl _))
   rw [show 1+e.length=((⟨5,false,[],[],[120]⟩:Nd)::e).length by simp [Nat.add_comm]] at w
   exact w
  ·obtain ⟨e,m,g,u,f⟩:=uI l c mn k s SX k ps [UInt8.ofNat (97+k)] false [1] [1] false [UInt8.ofNat (b+1)] [1] xs false r a (by omega) s k3 1 0 [⟨5,false,[],[],[120]⟩] (by omega) (by omega) rfl (by omega)
   have t:=aQ.blk (id:=2) (e':= .normal) (fun nt (hn:140≤nt)=>f nt hn) (by simp) rfl (aG.refl _) (aG.refl _)
   have v:=HY l c mn k s SX k ps [UInt8.ofNat (97+k)] false [1] [1] false [UInt8.ofNat (b+1)] [1] xs false m _ _ (by simp [Nat.add_comm]) t
   refine ⟨⟨[UInt8.ofNat (97+k)],false,1,0,⟨5,false,[],[],[120]⟩::e,false,false,[1],[1],false,[UInt8.ofNat (b+1)],[1]⟩,⟨rfl,e,rfl,⟨Nat.le_trans g.cnt (by omega),Nat.le_trans g.len (by omega),g.nms⟩⟩,fun nt h=> ?_⟩
   rw [sW l c mn SX k hne,sW l c mn SX (k+1) (by simp),List.length_append,n]
   exact Tm h l c mn SX k k ps [UInt8.ofNat (97+k)] [UInt8.ofNat (b+1)] xs z (⟨5,false,[],[],[120]⟩::e) y b s k1 k2 k3 m (1+e.length) A j a B n (by omega) (by simp [Nat.add_comm]) hc (by omega) o q uN i (yV b (by omega)) x (fun nt d=>(v nt d).weak (aG.of ⟨rfl,rfl,rfl,rfl,rfl,rfl,rfl,rfl,rfl,rfl,trivial⟩) (aG.refl _))
 ·obtain ⟨b,k2,C,D,i⟩:=gp xs false k1 4 (by omega) (by omega) (by omega)
  by_cases hne:ps= []
  ·subst hne
   obtain ⟨e,m,g,u,f⟩:=uJ l c mn k b SX [UInt8.ofNat (97+k)] false [] [] false [] [] xs false r a (by omega) b k2 1 0 [⟨5,false,[],[],[120]⟩] (by omega) (by omega) rfl (by omega)
   have t:=aQ.blk (id:=2) (e':= .normal) (fun nt (hn:140≤nt)=>f nt hn) (by simp) rfl (aG.refl _) (aG.refl _)
   have v:=H5 l c mn k b SX [UInt8.ofNat (97+k)] false [] [] false [] [] xs false m _ _ (by simp [Nat.add_comm]) t
   refine ⟨⟨[UInt8.ofNat (97+k)],false,1,0,⟨5,false,[],[],[120]⟩::e,false,false,[],[],false,[],[]⟩,⟨rfl,e,rfl,⟨Nat.le_trans g.cnt (by omega),Nat.le_trans g.len (by omega),g.nms⟩⟩,fun nt h=> ?_⟩
   have w:=Tn h l c mn SX k [UInt8.ofNat (97+k)] xs z (⟨5,false,[],[],[120]⟩::e) y b k1 k2 m (1+e.length) A j a B (by simp [Nat.add_comm]) hc o q i (fun nt d=>(v nt d).weak (aG.of ⟨rfl,rfl,rfl,rfl,rfl,rfl,rfl,rfl,rfl,rfl,trivial⟩) (aG.refl _))
   rw [show 1+e.length=((⟨5,false,[],[],[120]⟩:Nd)::e).length by simp [Nat.add_comm]] at w
   exact w
  ·obtain ⟨e,m,g,u,f⟩:=uI l c mn k b SX k ps [UInt8.ofNat (97+k)] false [] [] false [] [] xs false r a (by omega) b k2 1 0 [⟨5,false,[],[],[120]⟩] (by omega) (by omega) rfl (by omega)
   have t:=aQ.blk (id:=2) (e':= .normal) (fun nt (hn:140≤nt)=>f nt hn) (by simp) rfl (aG.refl _) (aG.refl _)
   have v:=HY l c mn k b SX k ps [UInt8.ofNat (97+k)] false [] [] false [] [] xs false m _ _ (by simp [Nat.add_comm]) t
   refine ⟨⟨[UInt8.ofNat (97+k)],false,1,0,⟨5,false,[],[],[120]⟩::e,false,false,[],[],false,[],[]⟩,⟨rfl,e,rfl,⟨Nat.le_trans g.cnt (by omega),Nat.le_trans g.len (by omega),g.nms⟩⟩,fun nt h=> ?_⟩
   rw [sW l c mn SX k hne,sW l c mn SX (k+1) (by simp),List.length_append,n]
   exact Tj h l c mn SX k k ps [UInt8.ofNat (97+k)] xs z (⟨5,false,[],[],[120]⟩::e) y b k1 k2 m (1+e.length) A j a B n (by omega) (by simp [Nat.add_comm]) hc o q i (fun nt d=>(v nt d).weak (aG.of ⟨rfl,rfl,rfl,rfl,rfl,rfl,rfl,rfl,rfl,rfl,trivial⟩) (aG.refl _))
def vz (mn:Nat) (ps:List Pv):Prop:=∀ (k:Nat) (p:Pv),ps[k]? =some p→Ry mn k p
theorem vz.snoc {mn k:Nat} {ps:List Pv} {p:Pv} (h:vz mn ps) (hp:Ry mn k p) (b:ps.length=k):vz mn (ps++ [p]):=fun i q a=>by
 by_cases hl:i<ps.length
 ·rw [List.getElem?_append_left hl] at a
  exact h i q a
 ·have e:i=ps.length:=by
   have:=(List.getElem?_eq_some_iff.1 a).1
   simp at this
   omega
  subst e
  simp at a
  subst a
  rw [b]
  exact hp
theorem Lt {nt:Nat} (a:140≤nt) (l:List (List Int)) (b:Bool) (mn:Nat) (SX:List AV) (ps:List Pv):ah prog ap [] nt (af 0 (ag f24)) (Qa l b mn SX (mn,ps)) (.exit 0) (moX SX ps):=by
 cases ps with
 |nil=>exact OC a l b mn SX
 |cons q r=>exact OB a l b mn SX (q::r).length (q::r)
theorem Hw (l:List (List Int)) (e:Bool) (mn:Nat) (SX:List AV) (d:0<mn) (b:mn≤8) (c:mn≤l.length):∀ (rem k:Nat) (ps:List Pv),k+rem=mn→ps.length=k→vz mn ps→
  ∃ a:List Pv,a.length=mn∧vz mn a∧∀ nt,140≤nt→aQ prog ap [] nt (af 0 (ag f24)) (fun _=> .exit 0) (Qa l e mn SX) (moX SX) (k,ps) a
 |0,k,ps,g,hps,hok=>by
  have g:k=mn:=by omega
  subst g
  exact ⟨ps,hps,hok,fun nt f=> .done (Lt f l e k SX ps)⟩
 |rem+1,k,ps,g,hps,hok=>by
  obtain ⟨p,j,h⟩:=Lu l e mn SX d b c k ps (by omega) hps
  obtain ⟨a,i,m,n⟩:=Hw l e mn SX d b c rem (k+1) (ps++ [p]) (by omega) (by simp [hps]) (hok.snoc j hps)
  exact ⟨a,i,m,fun nt f=> .next (a':=(k+1,ps++ [p])) (h nt f) (n nt f)⟩
theorem Gg:∀ ps:List Pv,JF (qF ps) (dm ps)
 | []=> .nil
 |_::ps=> .same (.same (.same (.same (.sl (.same (.same (.same (.same (.same (.same (.same (Gg ps))))))))))))
theorem K_ (l:List (List Int)) (b:Bool) (mn:Nat) (a:AV.int .i64 (if ((8:Nat):Int)<(l.length:Int) then ((8:Nat):Int) else (l.length:Int))= .int .i64 (mn:Int)) (c:CO 61 [.int .i64 (l.length:Int),.int .i64 2] (.ret (.int .i64 0)))
  (l1:aK prog ap [] 140 (.block 0 (.loop (af 0 (ag f24)))) ⟨[(0,.sl (iM l) l.length b),(2,.ptr 0 0 0),(3,.ptr 1 0 0),(4,.ptr 2 0 0),(5,.ptr 3 0 0),(6,.int .i64 (mn:Int)),(7,.int .i64 0),(8,.dead),(9,.dead),(10,.dead),(11,.dead),(12,.dead),(13,.dead),(14,.dead),(15,.dead),(39,.dead),(57,.dead),(69,.dead),(74,.dead),(89,.dead),(97,.dead),(115,.dead)],[(0,⟨[.nilS,.nilS,.nilS],0,false,0,0,true⟩),(1,⟨[.bool false,.int .i64 1,.int .i64 0],0,false,0,0,true⟩),(2,⟨[.ref 4 0 0 1,.ref 5 0 0 1,.nilS],0,false,0,0,false⟩),(3,⟨[.str [115],.int .i64 1,.int .i64 0,.sl zcc2_3 2 true],0,false,0,0,true⟩),(4,⟨[.str [120],.bool false,.int .i64 1,.int .i64 0],0,false,0,4,true⟩),(5,⟨[.str [115],.int .i64 1,.int .i64 0,.sl zcc2_3 2 true],0,false,0,4,true⟩)],.dead,[]⟩ (.normal) ⟨[(2,.ptr 0 0 0),(4,.ptr 1 0 0)],[(0,⟨[.nilS,.nilS,.nilS],0,false,0,0,true⟩),(1,⟨[.ref 2 0 0 1,.ref 3 0 0 1,.nilS],0,false,0,0,false⟩),(2,⟨[.str [120],.bool false,.int .i64 1,.int .i64 0],0,false,0,4,true⟩),(3,⟨[.str [115],.int .i64 1,.int .i64 0,.sl zcc2_3 2 true],0,false,0,4,true⟩)],.dead,[]⟩):CO 24 [.sl (iM l) l.length b] (.ret (.agg [.sl [.str [120],.bool false,.int .i64 1,.int .i64 0] 1 true,.sl [.str [115],.int .i64 1,.int .i64 0,.sl zcc2_3 2 true] 1 true,.nilS])):=by
 exact pK [0] 0 0 (.n 19 .nil) (.l l1 (.v 36 (.eq a) (.c Rq (.c c (.c xf .nil)))))
theorem KZ (l:List (List Int)) (c:Bool) (mn:Nat) (a:Nat) (ps:List Pv) (d:ps.length=a) (b:AV.int .i64 (if ((8:Nat):Int)<(l.length:Int) then ((8:Nat):Int) else (l.length:Int))= .int .i64 (mn:Int)) (e:CO 61 [.int .i64 (l.length:Int),.int .i64 2] (.ret (.int .i64 0)))
  (l1:aK prog ap [] 140 (.block 0 (.loop (af 0 (ag f24)))) ⟨[(0,.sl (iM l) l.length c),(2,.ptr 0 0 0),(3,.ptr 1 0 0),(4,.ptr 2 0 0),(5,.ptr 3 0 0),(6,.int .i64 (mn:Int)),(7,.int .i64 0),(8,.dead),(9,.dead),(10,.dead),(11,.dead),(12,.dead),(13,.dead),(14,.dead),(15,.dead),(39,.dead),(57,.dead),(69,.dead),(74,.dead),(89,.dead),(97,.dead),(115,.dead)],[(0,⟨[.nilS,.nilS,.nilS],0,false,0,0,true⟩),(1,⟨[.bool false,.int .i64 1,.int .i64 0],0,false,0,0,true⟩),(2,⟨[.ref 4 0 0 1,.ref 5 0 0 1,.nilS],0,false,0,0,false⟩),(3,⟨[.str [115],.int .i64 1,.int .i64 0,.sl zcc2_3 2 true],0,false,0,0,true⟩),(4,⟨[.str [120],.bool false,.int .i64 1,.int .i64 0],0,false,0,4,true⟩),(5,⟨[.str [115],.int .i64 1,.int .i64 0,.sl zcc2_3 2 true],0,false,0,4,true⟩)],.dead,[]⟩ (.normal) ⟨[(2,.ptr 0 0 0),(4,.ptr 1 0 0)],[(0,⟨[.nilS,.nilS,.nilS],0,false,0,0,true⟩),(1,⟨[.ref 2 0 0 1,.ref 3 0 0 1,.ref 4 0 0 a],0,false,0,0,false⟩),(2,⟨[.str [120],.bool false,.int .i64 1,.int .i64 0],0,false,0,4,true⟩),(3,⟨[.str [115],.int .i64 1,.int .i64 0,.sl zcc2_3 2 true],0,false,0,4,true⟩),(4,⟨(qF ps),0,false,0,12,true⟩)],.dead,[]⟩):CO 24 [.sl (iM l) l.length c] (.ret (.agg [.sl [.str [120],.bool false,.int .i64 1,.int .i64 0] 1 true,.sl [.str [115],.int .i64 1,.int .i64 0,.sl zcc2_3 2 true] 1 true,.sl (List.take (a*12) (qF ps)) a true])):=by
 exact pK [0] 0 0 (.n 19 .nil) (.l l1 (.v 36 (.eq b) (.c Rq (.c e (.c xf .nil)))))
theorem Hy (l:List (List Int)) (a:Bool) (mn:Nat):AM.norm 0 [0,2,3,4,6,7] ⟨[(0,.sl (iM l) l.length a),(2,.ptr 0 0 0),(3,.ptr 1 0 0),(4,.ptr 2 0 0),(5,.ptr 3 0 0),(6,.int .i64 (mn:Int)),(7,.int .i64 0),(8,.dead),(9,.dead),(10,.dead),(11,.dead),(12,.dead),(13,.dead),(14,.dead),(15,.dead),(39,.dead),(57,.dead),(69,.dead),(74,.dead),(89,.dead),(97,.dead),(115,.dead)],[(0,⟨[.nilS,.nilS,.nilS],0,false,0,0,true⟩),(1,⟨[.bool false,.int .i64 1,.int .i64 0],0,false,0,0,true⟩),(2,⟨[.ref 4 0 0 1,.ref 5 0 0 1,.nilS],0,false,0,0,false⟩),(3,⟨[.str [115],.int .i64 1,.int .i64 0,.sl zcc2_3 2 true],0,false,0,0,true⟩),(4,⟨[.str [120],.bool false,.int .i64 1,.int .i64 0],0,false,0,4,true⟩),(5,⟨[.str [115],.int .i64 1,.int .i64 0,.sl zcc2_3 2 true],0,false,0,4,true⟩)],.dead,[]⟩=Qa l a mn [.str [115],.int .i64 1,.int .i64 0,.sl zcc2_3 2 true] (0,[]):=by kernel_rfl
theorem Lc (l:List (List Int)) (b:Bool) (mn:Nat) (a:AV.int .i64 (if ((8:Nat):Int)<(l.length:Int) then ((8:Nat):Int) else (l.length:Int))= .int .i64 (mn:Int)) (c:CO 61 [.int .i64 (l.length:Int),.int .i64 2] (.ret (.int .i64 1)))
  (l1:aK prog ap [] 140 (.block 0 (.loop (af 0 (ag f24)))) ⟨[(0,.sl (iM l) l.length b),(2,.ptr 0 0 0),(3,.ptr 1 0 0),(4,.ptr 2 0 0),(5,.ptr 3 0 0),(6,.int .i64 (mn:Int)),(7,.int .i64 0),(8,.dead),(9,.dead),(10,.dead),(11,.dead),(12,.dead),(13,.dead),(14,.dead),(15,.dead),(39,.dead),(57,.dead),(69,.dead),(74,.dead),(89,.dead),(97,.dead),(115,.dead)],[(0,⟨[.nilS,.nilS,.nilS],0,false,0,0,true⟩),(1,⟨[.bool false,.int .i64 1,.int .i64 0],0,false,0,0,true⟩),(2,⟨[.ref 4 0 0 1,.ref 5 0 0 1,.nilS],0,false,0,0,false⟩),(3,⟨[.str [115],.int .i64 1,.int .i64 0,.sl zcc2_2 2 true],0,false,0,0,true⟩),(4,⟨[.str [120],.bool false,.int .i64 1,.int .i64 0],0,false,0,4,true⟩),(5,⟨[.str [115],.int .i64 1,.int .i64 0,.sl zcc2_2 2 true],0,false,0,4,true⟩)],.dead,[]⟩ (.normal) ⟨[(2,.ptr 0 0 0),(4,.ptr 1 0 0)],[(0,⟨[.nilS,.nilS,.nilS],0,false,0,0,true⟩),(1,⟨[.ref 2 0 0 1,.ref 3 0 0 1,.nilS],0,false,0,0,false⟩),(2,⟨[.str [120],.bool false,.int .i64 1,.int .i64 0],0,false,0,4,true⟩),(3,⟨[.str [115],.int .i64 1,.int .i64 0,.sl zcc2_2 2 true],0,false,0,4,true⟩)],.dead,[]⟩):CO 24 [.sl (iM l) l.length b] (.ret (.agg [.sl [.str [120],.bool false,.int .i64 1,.int .i64 0] 1 true,.sl [.str [115],.int .i64 1,.int .i64 0,.sl zcc2_2 2 true] 1 true,.nilS])):=by
 exact pK [0] 0 0 (.n 19 .nil) (.l l1 (.v 36 (.eq a) (.c Rt (.c c (.c xf .nil)))))
theorem La (l:List (List Int)) (c:Bool) (mn:Nat) (a:Nat) (ps:List Pv) (d:ps.length=a) (b:AV.int .i64 (if ((8:Nat):Int)<(l.length:Int) then ((8:Nat):Int) else (l.length:Int))= .int .i64 (mn:Int)) (e:CO 61 [.int .i64 (l.length:Int),.int .i64 2] (.ret (.int .i64 1)))
  (l1:aK prog ap [] 140 (.block 0 (.loop (af 0 (ag f24)))) ⟨[(0,.sl (iM l) l.length c),(2,.ptr 0 0 0),(3,.ptr 1 0 0),(4,.ptr 2 0 0),(5,.ptr 3 0 0),(6,.int .i64 (mn:Int)),(7,.int .i64 0),(8,.dead),(9,.dead),(10,.dead),(11,.dead),(12,.dead),(13,.dead),(14,.dead),(15,.dead),(39,.dead),(57,.dead),(69,.dead),(74,.dead),(89,.dead),(97,.dead),(115,.dead)],[(0,⟨[.nilS,.nilS,.nilS],0,false,0,0,true⟩),(1,⟨[.bool false,.int .i64 1,.int .i64 0],0,false,0,0,true⟩),(2,⟨[.ref 4 0 0 1,.ref 5 0 0 1,.nilS],0,false,0,0,false⟩),(3,⟨[.str [115],.int .i64 1,.int .i64 0,.sl zcc2_2 2 true],0,false,0,0,true⟩),(4,⟨[.str [120],.bool false,.int .i64 1,.int .i64 0],0,false,0,4,true⟩),(5,⟨[.str [115],.int .i64 1,.int .i64 0,.sl zcc2_2 2 true],0,false,0,4,true⟩)],.dead,[]⟩ (.normal) ⟨[(2,.ptr 0 0 0),(4,.ptr 1 0 0)],[(0,⟨[.nilS,.nilS,.nilS],0,false,0,0,true⟩),(1,⟨[.ref 2 0 0 1,.ref 3 0 0 1,.ref 4 0 0 a],0,false,0,0,false⟩),(2,⟨[.str [120],.bool false,.int .i64 1,.int .i64 0],0,false,0,4,true⟩),(3,⟨[.str [115],.int .i64 1,.int .i64 0,.sl zcc2_2 2 true],0,false,0,4,true⟩),(4,⟨(qF ps),0,false,0,12,true⟩)],.dead,[]⟩):CO 24 [.sl (iM l) l.length c] (.ret (.agg [.sl [.str [120],.bool false,.int .i64 1,.int .i64 0] 1 true,.sl [.str [115],.int .i64 1,.int .i64 0,.sl zcc2_2 2 true] 1 true,.sl (List.take (a*12) (qF ps)) a true])):=by
 exact pK [0] 0 0 (.n 19 .nil) (.l l1 (.v 36 (.eq b) (.c Rt (.c e (.c xf .nil)))))
theorem Hz (l:List (List Int)) (a:Bool) (mn:Nat):AM.norm 0 [0,2,3,4,6,7] ⟨[(0,.sl (iM l) l.length a),(2,.ptr 0 0 0),(3,.ptr 1 0 0),(4,.ptr 2 0 0),(5,.ptr 3 0 0),(6,.int .i64 (mn:Int)),(7,.int .i64 0),(8,.dead),(9,.dead),(10,.dead),(11,.dead),(12,.dead),(13,.dead),(14,.dead),(15,.dead),(39,.dead),(57,.dead),(69,.dead),(74,.dead),(89,.dead),(97,.dead),(115,.dead)],[(0,⟨[.nilS,.nilS,.nilS],0,false,0,0,true⟩),(1,⟨[.bool false,.int .i64 1,.int .i64 0],0,false,0,0,true⟩),(2,⟨[.ref 4 0 0 1,.ref 5 0 0 1,.nilS],0,false,0,0,false⟩),(3,⟨[.str [115],.int .i64 1,.int .i64 0,.sl zcc2_2 2 true],0,false,0,0,true⟩),(4,⟨[.str [120],.bool false,.int .i64 1,.int .i64 0],0,false,0,4,true⟩),(5,⟨[.str [115],.int .i64 1,.int .i64 0,.sl zcc2_2 2 true],0,false,0,4,true⟩)],.dead,[]⟩=Qa l a mn [.str [115],.int .i64 1,.int .i64 0,.sl zcc2_2 2 true] (0,[]):=by kernel_rfl
def ZL:List AV:= [.str [120],.bool false,.int .i64 1,.int .i64 0]
theorem Ox (l:List (List Int)) (b:Bool):∃ (L:Lw) (cc:Bool),L.ps.length=Min.min 8 l.length∧vz (Min.min 8 l.length) L.ps∧CO 24 [.sl (iM l) l.length b] (.ret (.agg (L.c true true cc))):=by
 obtain ⟨mn,i⟩:∃ mn,mn=Min.min 8 l.length:=⟨_,rfl⟩
 have c:AV.int .i64 (if ((8:Nat):Int)<(l.length:Int) then ((8:Nat):Int) else (l.length:Int))= .int .i64 ((mn:Nat):Int):=by
  congr 1
  split<;>omega
 obtain ⟨q,n,m⟩:=OD (l.length:Int) 2 (by omega) (by omega)
 rw [← i]
 have d:∀ SX,∃ ps2:List Pv,ps2.length=mn∧vz mn ps2∧∀ nt,140≤nt→aQ prog ap [] nt (af 0 (ag f24)) (fun _=> .exit 0) (Qa l b mn SX) (moX SX) (0,[]) ps2:=fun SX=>by
  rcases Nat.eq_zero_or_pos mn with h0|h0
  ·subst h0
   exact ⟨[],rfl,(fun k p h=>by simp at h),fun nt g=> .done (Lt g l b 0 SX [])⟩
  ·exact Hw l b mn SX h0 (by omega) (by omega) mn 0 [] (by omega) rfl (fun k p h=>by simp at h)
 match q,n with
 | 0,_=>
  obtain ⟨ps,f,e,o⟩:=d [.str [115],.int .i64 1,.int .i64 0,.sl zcc2_3 2 true]
  have j:=aQ.blk (id:=0) (e':= .normal) (fun nt (g:140≤nt)=>o nt g) (by simp) rfl (aG.refl _) (aG.refl _)
  cases ps with
  |nil=>
   refine ⟨⟨ZL,1,[.str [115],.int .i64 1,.int .i64 0,.sl zcc2_3 2 true],1,[]⟩,false,f,e, ?_⟩
   have h:=K_ l b mn c m (fun nt a=>(j nt a).tidy [0,2,3,4,6,7] (Hy l b mn) rfl)
   exact h.out (jE.ret rfl rfl (bC.agg (.cons (bC.eq rfl) (.cons (bC.eq rfl) (.cons (bC.nilS false rfl) .nil)))))
  |cons p ps=>
   refine ⟨⟨ZL,1,[.str [115],.int .i64 1,.int .i64 0,.sl zcc2_3 2 true],1,p::ps⟩,true,f,e, ?_⟩
   have h:=KZ l b mn (p::ps).length (p::ps) rfl c m (fun nt a=>(j nt a).tidy [0,2,3,4,6,7] (Hy l b mn) rfl)
   rw [List.take_of_length_le (by rw [CZ rfl];exact Nat.le_refl _)] at h
   exact h.out (jE.ret rfl rfl (bC.agg (.cons (bC.eq rfl) (.cons (bC.eq rfl) (.cons (bC.slP (Gg (p::ps))) .nil)))))
 | 1,_=>
  obtain ⟨ps,f,e,o⟩:=d [.str [115],.int .i64 1,.int .i64 0,.sl zcc2_2 2 true]
  have j:=aQ.blk (id:=0) (e':= .normal) (fun nt (g:140≤nt)=>o nt g) (by simp) rfl (aG.refl _) (aG.refl _)
  cases ps with
  |nil=>
   refine ⟨⟨ZL,1,[.str [115],.int .i64 1,.int .i64 0,.sl zcc2_2 2 true],1,[]⟩,false,f,e, ?_⟩
   have h:=Lc l b mn c m (fun nt a=>(j nt a).tidy [0,2,3,4,6,7] (Hz l b mn) rfl)
   exact h.out (jE.ret rfl rfl (bC.agg (.cons (bC.eq rfl) (.cons (bC.eq rfl) (.cons (bC.nilS false rfl) .nil)))))
  |cons p ps=>
   refine ⟨⟨ZL,1,[.str [115],.int .i64 1,.int .i64 0,.sl zcc2_2 2 true],1,p::ps⟩,true,f,e, ?_⟩
   have h:=La l b mn (p::ps).length (p::ps) rfl c m (fun nt a=>(j nt a).tidy [0,2,3,4,6,7] (Hz l b mn) rfl)
   rw [List.take_of_length_le (by rw [CZ rfl];exact Nat.le_refl _)] at h
   exact h.out (jE.ret rfl rfl (bC.agg (.cons (bC.eq rfl) (.cons (bC.eq rfl) (.cons (bC.slP (Gg (p::ps))) .nil)))))
def bL (l:List Int):List AV:=l.map fun a=> .int .u8 a
def Jz (x c:Cl):Bool:=((x.1==c.1) && ((x.2==c.2) && true))
theorem wW {x c:Cl}:Jz x c=decide (x=c):=by
 unfold Jz
 rw [Bool.eq_iff_iff]
 simp only [Bool.and_true,Bool.and_eq_true,beq_iff_eq,decide_eq_true_eq]
 exact ⟨fun h=>Prod.ext h.1 h.2,fun h=>h ▸ ⟨rfl,rfl⟩⟩
def Om (l:List Cl) (nn:Bool) (c:Cl) (k:Nat):St:=⟨[(0,.sl (cL l) l.length nn),(3,.ptr 0 0 0),(5,.int .i64 (k:Int))],[(0,⟨[.int .i64 c.1,.int .i64 c.2],0,false,0,0,true⟩)],.dead,[]⟩
theorem abd {nt:Nat} (o:18≤nt) (l p r:List Cl) (j:Bool) (c x:Cl) (d:l=p++x::r) (i:l.length<2^40) (g:Jz x c=true):ah prog ap [] nt (af 0 (ag f29)) (Om l j c p.length) .ret ⟨[(4,.bool true)],[],.dead,[]⟩:=by
 have h:=ed (f:=cC) (n:=2) (fun _=>rfl) d
 change List.drop _ (cL l)=cC x++cL r at h
 have e:p.length<l.length:=sS d
 have q:p.length<2^62:=by omega
 have m:(decide ((p.length:Int)<(l.length:Int)))=true:=kl e
 clear d
 generalize p.length=k at*
 have b:(decide (((0:Nat):Int)≤(k:Int)))=true:=(k0 _)
 have a:(decide ((k:Int)<(l.length:Int)))=true:=(kl (by omega))
 unfold Om
 unfold Jz at g
 exact pN 29 [] 2 3 (.c (aN g) (.k 4 b (.c a (.c (aN m) .nil)))) (.v 14 (.ppt h) .nil) o
theorem abb {nt:Nat} (q:18≤nt) (l p r:List Cl) (g:Bool) (c x:Cl) (d:l=p++x::r) (m:l.length<2^40) (h:Jz x c=false):ah prog ap [] nt (af 0 (ag f29)) (Om l g c p.length) .normal (Om l g c (p.length+1)):=by
 have i:=ed (f:=cC) (n:=2) (fun _=>rfl) d
 change List.drop _ (cL l)=cC x++cL r at i
 have e:p.length<l.length:=sS d
 have j:p.length<2^62:=by omega
 have o:(decide ((p.length:Int)<(l.length:Int)))=true:=kl e
 clear d
 generalize p.length=k at*
 have b:(decide (((0:Nat):Int)≤(k:Int)))=true:=(k0 _)
 have a:(decide ((k:Int)<(l.length:Int)))=true:=(kl (by omega))
 unfold Om
 unfold Jz at h
 exact pN 29 [] 2 1 (.c (aT h) (.k 4 b (.c a (.c (aN o) .nil)))) (.v 11 (.eq (wpS j)) (.v 14 (.ppt i) .nil)) q
theorem aba {nt:Nat} (d:18≤nt) (l:List Cl) (a:Bool) (c:Cl):ah prog ap [] nt (af 0 (ag f29)) (Om l a c l.length) (.exit 0) ⟨[],[],.dead,[]⟩:=by
 have b:(decide ((l.length:Int)<(l.length:Int)))=false:=kn (Nat.le_refl _)
 exact pN 29 [] 1 0 (.c (aT b) .nil) .nil d
theorem Hm {nt:Nat} (g:18≤nt) (l:List Cl) (f:Bool) (c:Cl) (d:l.length<2^40):∀ (r p:List Cl),l=p++r→aQ prog ap [] nt (af 0 (ag f29)) (fun b:Bool=>if b then .ret else .exit 0) (Om l f c) (fun b:Bool=>if b then ⟨[(4,.bool true)],[],.dead,[]⟩ else ⟨[],[],.dead,[]⟩) p.length (decide (c ∈ r))
 | [],p,h=>by
  rw [List.append_nil] at h
  subst h
  exact .done (aba g l f c)
 | x::r,p,h=>by
  cases a:Jz x c with
  |true=>
   have e:decide (c ∈ x::r)=true:=by rw [wW] at a;simp at a;simp [a]
   rw [e]
   exact .done (abd g l p r f c x h d a)
  | false=>
   have e:decide (c ∈ x::r)=decide (c ∈ r):=by
    rw [wW] at a
    simp only [decide_eq_false_iff_not] at a
    rw [decide_eq_decide,List.mem_cons]
    exact ⟨fun h=>h.resolve_left fun h=>a h.symm,.inr⟩
   rw [e]
   have i:=Hm g l f c d r (p++ [x]) (by rw [h];simp)
   rw [show (p++ [x]).length=p.length+1 by simp] at i
   exact .next (a':=p.length+1) (abb g l p r f c x h d a) i
theorem yu (l:List Cl) (e:Bool) (c:Cl) (f:l.length<2^40):CO 29 [.sl (cL l) l.length e,cA c] (.ret (.bool (decide (c ∈ l)))):=by
 have d:=fun nt (hn:18≤nt)=>Hm hn l e c f l [] rfl
 cases h:decide (c ∈ l) with
 |true=>
  rw [h] at d
  have b:=aQ.blk (id:=0) (e':= .ret) d (by simp) rfl (aG.refl _) (aG.refl _)
  unfold Om at b
  have g:aK prog ap [] 18 (.block 0 (.loop (af 0 (ag f29)))) ⟨[(0,.sl (cL l) l.length e),(1,.agg [.int .i64 c.1,.int .i64 c.2]),(3,.ptr 0 0 0),(4,.bool false),(5,.int .i64 0),(9,.dead),(17,.dead)],[(0,⟨[.int .i64 c.1,.int .i64 c.2],0,false,0,0,true⟩)],.dead,[]⟩ (.ret) ⟨[(4,.bool true)],[],.dead,[]⟩:=(fun nt a=>(b nt a).weak (aG.of ⟨rfl,rfl,rfl,trivial⟩) (aG.refl _))
  exact pK [0] 0 0 .nil (.l g .nil)
 |false=>
  rw [h] at d
  have b:=aQ.blk (id:=0) (e':= .normal) d (by simp) rfl (aG.refl _) (aG.refl _)
  unfold Om at b
  have g:aK prog ap [] 18 (.block 0 (.loop (af 0 (ag f29)))) ⟨[(0,.sl (cL l) l.length e),(1,.agg [.int .i64 c.1,.int .i64 c.2]),(3,.ptr 0 0 0),(4,.bool false),(5,.int .i64 0),(9,.dead),(17,.dead)],[(0,⟨[.int .i64 c.1,.int .i64 c.2],0,false,0,0,true⟩)],.dead,[]⟩ (.normal) ⟨[],[],.dead,[]⟩:=(fun nt a=>(b nt a).weak (aG.of ⟨rfl,rfl,rfl,trivial⟩) (aG.refl _))
  exact pK [0] 0 0 .nil (.l g .nil)
def Oa (a b:List Cl) (na nb:Bool) (k:Nat):St:=⟨[(0,.sl (cL a) a.length na),(1,.sl (cL b) b.length nb),(5,.int .i64 (k:Int))],[],.dead,[]⟩
theorem Z7 {nt:Nat} (v:26≤nt) (a b p r s q:List Cl) (z A:Bool) (x y:Cl) (j:a=p++x::r) (l:b=s++y::q) (c:s.length=p.length) (t:a.length<2^40) (m:Jz x y=false):ah prog ap [] nt (af 0 (ag f15)) (Oa a b z A p.length) .ret ⟨[(4,.bool false)],[],.dead,[]⟩:=by
 have o:=ed (f:=cC) (n:=2) (fun _=>rfl) j
 change List.drop _ (cL a)=cC x++cL r at o
 have e:=ed (f:=cC) (n:=2) (fun _=>rfl) l
 change List.drop _ (cL b)=cC y++cL q at e
 rw [c] at e
 have g:p.length<a.length:=sS j
 have u:p.length<b.length:=c ▸ sS l
 have B:p.length<2^62:=by omega
 have w:(decide ((p.length:Int)<(a.length:Int)))=true:=kl g
 clear j l c
 generalize p.length=k at*
 have d:(decide (((0:Nat):Int)≤(k:Int)))=true:=(k0 _)
 have i:(decide ((k:Int)<(b.length:Int)))=true:=(kl (by omega))
 have h:(decide ((k:Int)<(a.length:Int)))=true:=(kl (by omega))
 unfold Oa
 unfold Jz at m
 exact pN 15 [] 2 3 (.c (oz m) (.k 2 d (.c i (.k 2 d (.c h (.c (aN w) .nil)))))) (.v 23 (.ppt e) (.v 19 (.ppt o) .nil)) v
theorem Z8 {nt:Nat} (z:26≤nt) (a b p r t q:List Cl) (s u:Bool) (x y:Cl) (j:a=p++x::r) (l:b=t++y::q) (c:t.length=p.length) (v:a.length<2^40) (m:Jz x y=true):ah prog ap [] nt (af 0 (ag f15)) (Oa a b s u p.length) .normal (Oa a b s u (p.length+1)):=by
 have o:=ed (f:=cC) (n:=2) (fun _=>rfl) j
 change List.drop _ (cL a)=cC x++cL r at o
 have e:=ed (f:=cC) (n:=2) (fun _=>rfl) l
 change List.drop _ (cL b)=cC y++cL q at e
 rw [c] at e
 have g:p.length<a.length:=sS j
 have w:p.length<b.length:=c ▸ sS l
 have A:p.length<2^62:=by omega
 have B:(decide ((p.length:Int)<(a.length:Int)))=true:=kl g
 clear j l c
 generalize p.length=k at*
 have d:(decide (((0:Nat):Int)≤(k:Int)))=true:=(k0 _)
 have i:(decide ((k:Int)<(b.length:Int)))=true:=(kl (by omega))
 have h:(decide ((k:Int)<(a.length:Int)))=true:=(kl (by omega))
 unfold Oa
 unfold Jz at m
 exact pN 15 [] 2 1 (.c (gY m) (.k 2 d (.c i (.k 2 d (.c h (.c (aN B) .nil)))))) (.v 16 (.eq (wpS A)) (.v 23 (.ppt e) (.v 19 (.ppt o) .nil))) z
theorem Z5 {nt:Nat} (e:26≤nt) (a b:List Cl) (d f:Bool):ah prog ap [] nt (af 0 (ag f15)) (Oa a b d f a.length) (.exit 0) ⟨[],[],.dead,[]⟩:=by
 have c:(decide ((a.length:Int)<(a.length:Int)))=false:=kn (Nat.le_refl _)
 exact pN 15 [] 1 0 (.c (aT c) .nil) .nil e
theorem GY {nt:Nat} (i:26≤nt) (a b:List Cl) (f g:Bool) (c:a.length<2^40):∀ (r p p2 q:List Cl),a=p++r→b=p2++q→p2.length=p.length→q.length=r.length→aQ prog ap [] nt (af 0 (ag f15)) (fun b:Bool=>if b then .exit 0 else .ret) (Oa a b f g) (fun b:Bool=>if b then ⟨[],[],.dead,[]⟩ else ⟨[(4,.bool false)],[],.dead,[]⟩) p.length (decide (r=q))
 | [],p,p2,[],ha,hb,hp,_=>by
  rw [List.append_nil] at ha
  subst ha
  exact .done (Z5 i a b f g)
 | x::r,p,p2,y::q,ha,hb,hp,hq=>by
  cases d:Jz x y with
  |false=>
   have e:decide (x::r=y::q)=false:=by rw [wW] at d;simp at d;simp only [List.cons.injEq,decide_eq_false_iff_not];exact fun h=>d h.1
   rw [e]
   exact .done (Z7 i a b p r p2 q f g x y ha hb hp c d)
  |true=>
   have j:x=y:=by rw [wW] at d;simpa using d
   have e:decide (x::r=y::q)=decide (r=q):=by subst j;simp
   rw [e]
   have k:=GY i a b f g c r (p++ [x]) (p2++ [y]) q (by rw [ha];simp) (by rw [hb];simp) (by simp [hp]) (by simpa using hq)
   rw [show (p++ [x]).length=p.length+1 by simp] at k
   exact .next (a':=p.length+1) (Z8 i a b p r p2 q f g x y ha hb hp c d) k
 | [],_,_,_::_,_,_,_,hq=>by simp at hq
 |_::_,_,_,[],_,_,_,hq=>by simp at hq
theorem J3 (a b:List Cl) (i j:Bool) (l:a.length<2^40):CO 15 [.sl (cL a) a.length i,.sl (cL b) b.length j] (.ret (.bool (decide (a=b)))):=by
 by_cases hlen:a.length=b.length
 ·have g:=fun nt (hn:26≤nt)=>GY hn a b i j l a [] [] b rfl rfl rfl hlen.symm
  have k:((a.length:Int)==(b.length:Int))=true:=by simp [hlen]
  cases d:decide (a=b) with
  |false=>
   rw [d] at g
   have f:=aQ.blk (id:=0) (e':= .ret) g (by simp) rfl (aG.refl _) (aG.refl _)
   unfold Oa at f
   have m:aK prog ap [] 26 (.block 0 (.loop (af 0 (ag f15)))) ⟨[(0,.sl (cL a) a.length i),(1,.sl (cL b) b.length j),(4,.bool false),(5,.int .i64 0),(10,.bool (!((a.length:Int)==(b.length:Int)))),(14,.dead),(25,.dead)],[],.dead,[]⟩ (.ret) ⟨[(4,.bool false)],[],.dead,[]⟩:=(fun nt c=>(f nt c).weak (aG.of ⟨rfl,rfl,rfl,trivial⟩) (aG.refl _))
   exact pK [0] 1 0 (.c (gY k) .nil) (.l m .nil)
  |true=>
   rw [d] at g
   have f:=aQ.blk (id:=0) (e':= .normal) g (by simp) rfl (aG.refl _) (aG.refl _)
   unfold Oa at f
   have m:aK prog ap [] 26 (.block 0 (.loop (af 0 (ag f15)))) ⟨[(0,.sl (cL a) a.length i),(1,.sl (cL b) b.length j),(4,.bool false),(5,.int .i64 0),(10,.bool (!((a.length:Int)==(b.length:Int)))),(14,.dead),(25,.dead)],[],.dead,[]⟩ (.normal) ⟨[],[],.dead,[]⟩:=(fun nt c=>(f nt c).weak (aG.of ⟨rfl,rfl,rfl,trivial⟩) (aG.refl _))
   exact pK [0] 1 0 (.c (gY k) .nil) (.l m .nil)
 ·have k:((a.length:Int)==(b.length:Int))=false:=by simp;omega
  have e:decide (a=b)=false:=by simp;exact fun h=>hlen (by rw [h])
  rw [e]
  exact pK [0] 1 1 (.c (oz k) .nil) (.nil)
def Y7 (q:List Int) (nq:Bool) (p:Nat × List Cl):St:=match p.2 with
 | []=> ⟨[(0,.sl (bL q) q.length nq),(3,.nilS),(4,.int .i64 (p.1:Int))],[],.dead,[]⟩
 |x::r=> ⟨[(0,.sl (bL q) q.length nq),(3,.ref 0 0 0 (x::r).length),(4,.int .i64 (p.1:Int))],[(0,⟨(cL (x::r)),0,false,0,2,true⟩)],.dead,[]⟩
def smX (os:List Cl):St:=match os with
 | []=> ⟨[(3,.nilS)],[],.dead,[]⟩
 |x::r=> ⟨[(3,.ref 0 0 0 (x::r).length)],[(0,cB (x::r))],.dead,[]⟩
theorem NS {q:List Int} {i:Nat} (h:i<q.length):∃ rx,List.drop (Int.toNat (i:Int)*1) (bL q)= [AV.int .u8 (q.getD i 0)]++rx:=by
 unfold bL
 rw [fD,Nat.mul_one,← List.map_drop,List.drop_eq_getElem_cons h,List.getD_eq_getElem?_getD,List.getElem?_eq_getElem h]
 exact ⟨_,rfl⟩
theorem abv {nt:Nat} (l:48≤nt) (q:List Int) (h:Bool) (k:Nat) (c:Int) (i:List AV) (d:k<q.length) (f:k<12) (e:List.drop (Int.toNat (k:Int)*1) (bL q)= [AV.int .u8 c]++i):ah prog ap [] nt (af 0 (ag f21)) ⟨[(0,.sl (bL q) q.length h),(3,.nilS),(4,.int .i64 (k:Int))],[],.dead,[]⟩ .normal ⟨[(0,.sl (bL q) q.length h),(3,.ref 0 0 0 1),(4,.int .i64 (((k+1):Nat):Int))],[(0,⟨[.int .i64 (IntKind.wrap .i64 ((IntKind.wrap .i64 (Int.tdiv (Int.tmod (IntKind.wrap .i64 c) ((7:Nat):Int)) ((3:Nat):Int))) - (IntKind.wrap .i64 (Int.tdiv (IntKind.wrap .i64 c) ((250:Nat):Int))))),.int .i64 (IntKind.wrap .i64 ((Int.tmod (IntKind.wrap .i64 (Int.tdiv (IntKind.wrap .i64 c) ((7:Nat):Int))) ((9:Nat):Int)) - (IntKind.wrap .i64 (Int.tdiv (IntKind.wrap .i64 c) ((240:Nat):Int)))))],0,false,0,2,true⟩)],.dead,[]⟩:=by
 have m:k<2^62:=by omega
 have j:(decide ((k:Int)<(q.length:Int)))=true:=kl d
 have g:(decide ((k:Int)<((12:Nat):Int)))=true:=kl f
 have b:(decide (((0:Nat):Int)≤(k:Int)))=true:=(k0 _)
 have a:(decide ((k:Int)<(q.length:Int)))=true:=(kl d)
 exact pN 21 [] 3 3 (.k 5 b (.c a (.k 3 b (.c a (.k 2 b (.c a (.k 3 b (.c a (.c (aN g) (.c (aN j) .nil)))))))))) (.v 14 (.eq (wpS m)) (.v 39 (.ppt e) (.v 32 (.ppt e) (.v 25 (.ppt e) (.v 18 (.ppt e) .nil))))) l
theorem OY {nt:Nat} (f:48≤nt) (q:List Int) (e:Bool) (k:Nat) (a:k<q.length) (b:12≤k):ah prog ap [] nt (af 0 (ag f21)) ⟨[(0,.sl (bL q) q.length e),(3,.nilS),(4,.int .i64 (k:Int))],[],.dead,[]⟩ (.exit 0) ⟨[(3,.nilS)],[],.dead,[]⟩:=by
 have d:(decide ((k:Int)<(q.length:Int)))=true:=kl a
 have c:(decide ((k:Int)<((12:Nat):Int)))=false:=kn b
 exact pN 21 [] 2 1 (.c (aT c) (.c (aN d) .nil)) .nil f
theorem Nb {nt:Nat} (d:48≤nt) (q:List Int) (c:Bool) (k:Nat) (a:q.length≤k):ah prog ap [] nt (af 0 (ag f21)) ⟨[(0,.sl (bL q) q.length c),(3,.nilS),(4,.int .i64 (k:Int))],[],.dead,[]⟩ (.exit 0) ⟨[(3,.nilS)],[],.dead,[]⟩:=by
 have b:(decide ((k:Int)<(q.length:Int)))=false:=kn a
 exact pN 21 [] 2 0 (.k 1 (aT b) .nil) .nil d
theorem abu {nt:Nat} (n:48≤nt) (q:List Int) (j:Bool) (k m:Nat) (os:List Cl) (d:Int) (l:List AV) (c:k<q.length) (g:k<12) (hm:os.length=m) (r:m<2^20) (e:List.drop (Int.toNat (k:Int)*1) (bL q)= [AV.int .u8 d]++l):ah prog ap [] nt (af 0 (ag f21)) ⟨[(0,.sl (bL q) q.length j),(3,.ref 0 0 0 m),(4,.int .i64 (k:Int))],[(0,⟨(cL os),0,false,0,2,true⟩)],.dead,[]⟩ .normal ⟨[(0,.sl (bL q) q.length j),(3,.ref 0 0 0 (m+1)),(4,.int .i64 (((k+1):Nat):Int))],[(0,⟨((List.take (m*2) (cL os))++ [.int .i64 (IntKind.wrap .i64 ((IntKind.wrap .i64 (Int.tdiv (Int.tmod (IntKind.wrap .i64 d) ((7:Nat):Int)) ((3:Nat):Int))) - (IntKind.wrap .i64 (Int.tdiv (IntKind.wrap .i64 d) ((250:Nat):Int))))),.int .i64 (IntKind.wrap .i64 ((Int.tmod (IntKind.wrap .i64 (Int.tdiv (IntKind.wrap .i64 d) ((7:Nat):Int))) ((9:Nat):Int)) - (IntKind.wrap .i64 (Int.tdiv (IntKind.wrap .i64 d) ((240:Nat):Int)))))]),0,false,0,2,true⟩)],.dead,[]⟩:=by
 have o:k<2^62:=by omega
 have p:(decide ((k:Int)<(q.length:Int)))=true:=kl c
 have h:(decide ((k:Int)<((12:Nat):Int)))=true:=kl g
 have f:(Nat.ble (m+1) 1099511627776)=true:=(Nat.ble_eq_true_of_le (by omega))
 have i:(Nat.ble (m*2) (List.length (cL os)))=true:=(ug (kY (bH _) (by omega)))
 have a:(decide (((0:Nat):Int)≤(k:Int)))=true:=(k0 _)
 have b:(decide ((k:Int)<(q.length:Int)))=true:=(kl c)
 exact pN 21 [] 2 3 (.k 1 f (.c i (.k 3 a (.c b (.k 3 a (.c b (.k 2 a (.c b (.k 3 a (.c b (.c (aN h) (.c (aN p) .nil)))))))))))) (.v 14 (.eq (wpS o)) (.v 39 (.ppt e) (.v 32 (.ppt e) (.v 25 (.ppt e) (.v 18 (.ppt e) .nil))))) n
theorem OX {nt:Nat} (f:48≤nt) (q:List Int) (e:Bool) (k m:Nat) (os:List Cl) (a:k<q.length) (b:12≤k):ah prog ap [] nt (af 0 (ag f21)) ⟨[(0,.sl (bL q) q.length e),(3,.ref 0 0 0 m),(4,.int .i64 (k:Int))],[(0,⟨(cL os),0,false,0,2,true⟩)],.dead,[]⟩ (.exit 0) ⟨[(3,.ref 0 0 0 m)],[(0,⟨(cL os),0,false,0,2,true⟩)],.dead,[]⟩:=by
 have d:(decide ((k:Int)<(q.length:Int)))=true:=kl a
 have c:(decide ((k:Int)<((12:Nat):Int)))=false:=kn b
 exact pN 21 [] 2 1 (.c (aT c) (.c (aN d) .nil)) .nil f
theorem Na {nt:Nat} (d:48≤nt) (q:List Int) (c:Bool) (k m:Nat) (os:List Cl) (a:q.length≤k):ah prog ap [] nt (af 0 (ag f21)) ⟨[(0,.sl (bL q) q.length c),(3,.ref 0 0 0 m),(4,.int .i64 (k:Int))],[(0,⟨(cL os),0,false,0,2,true⟩)],.dead,[]⟩ (.exit 0) ⟨[(3,.ref 0 0 0 m)],[(0,⟨(cL os),0,false,0,2,true⟩)],.dead,[]⟩:=by
 have b:(decide ((k:Int)<(q.length:Int)))=false:=kn a
 exact pN 21 [] 2 0 (.k 1 (aT b) .nil) .nil d
theorem RI {os:List Cl} {m:Nat} (h:os.length=m) (x:Cl):List.take (m*2) (cL os)++cC x=cL (os++ [x]):=by
 rw [List.take_of_length_le (by rw [bH,h];exact Nat.le_refl _)]
 simp [cL]
theorem Nc (q:List Int) (c:Bool) (k:Nat) (os:List Cl) (a:k<q.length) (b:k<12) (j:os.length=k):∃ x:Cl,∀ nt,48≤nt→ah prog ap [] nt (af 0 (ag f21)) (Y7 q c (k,os)) .normal (Y7 q c (k+1,os++ [x])):=by
 obtain ⟨d,f⟩:=NS a
 refine ⟨(((IntKind.wrap .i64 ((IntKind.wrap .i64 (Int.tdiv (Int.tmod (IntKind.wrap .i64 (q.getD k 0)) ((7:Nat):Int)) ((3:Nat):Int))) - (IntKind.wrap .i64 (Int.tdiv (IntKind.wrap .i64 (q.getD k 0)) ((250:Nat):Int))))):Int),((IntKind.wrap .i64 ((Int.tmod (IntKind.wrap .i64 (Int.tdiv (IntKind.wrap .i64 (q.getD k 0)) ((7:Nat):Int))) ((9:Nat):Int)) - (IntKind.wrap .i64 (Int.tdiv (IntKind.wrap .i64 (q.getD k 0)) ((240:Nat):Int))))):Int)),fun nt g=> ?_⟩
 cases os with
 |nil=>exact abv g q c k _ d a b f
 |cons y os=>
  have h:=abu g q c k (y::os).length (y::os) _ d a b rfl (by omega) f
  have e:=RI (os:=y::os) rfl (((IntKind.wrap .i64 ((IntKind.wrap .i64 (Int.tdiv (Int.tmod (IntKind.wrap .i64 (q.getD k 0)) ((7:Nat):Int)) ((3:Nat):Int))) - (IntKind.wrap .i64 (Int.tdiv (IntKind.wrap .i64 (q.getD k 0)) ((250:Nat):Int))))):Int),((IntKind.wrap .i64 ((Int.tmod (IntKind.wrap .i64 (Int.tdiv (IntKind.wrap .i64 (q.getD k 0)) ((7:Nat):Int))) ((9:Nat):Int)) - (IntKind.wrap .i64 (Int.tdiv (IntKind.wrap .i64 (q.getD k 0)) ((240:Nat):Int))))):Int))
  have i:(y::os).length+1=(y::(os++ [(((IntKind.wrap .i64 ((IntKind.wrap .i64 (Int.tdiv (Int.tmod (IntKind.wrap .i64 (q.getD k 0)) ((7:Nat):Int)) ((3:Nat):Int))) - (IntKind.wrap .i64 (Int.tdiv (IntKind.wrap .i64 (q.getD k 0)) ((250:Nat):Int))))):Int),((IntKind.wrap .i64 ((Int.tmod (IntKind.wrap .i64 (Int.tdiv (IntKind.wrap .i64 (q.getD k 0)) ((7:Nat):Int))) ((9:Nat):Int)) - (IntKind.wrap .i64 (Int.tdiv (IntKind.wrap .i64 (q.getD k 0)) ((240:Nat):Int))))):Int))])).length:=by simp
  rw [i] at h
  change ah _ _ _ _ _ _ _ ⟨_,[(0,⟨List.take ((y::os).length*2) (cL (y::os))++cC (((IntKind.wrap .i64 ((IntKind.wrap .i64 (Int.tdiv (Int.tmod (IntKind.wrap .i64 (q.getD k 0)) ((7:Nat):Int)) ((3:Nat):Int))) - (IntKind.wrap .i64 (Int.tdiv (IntKind.wrap .i64 (q.getD k 0)) ((250:Nat):Int))))):Int),((IntKind.wrap .i64 ((Int.tmod (IntKind.wrap .i64 (Int.tdiv (IntKind.wrap .i64 (q.getD k 0)) ((7:Nat):Int))) ((9:Nat):Int)) - (IntKind.wrap .i64 (Int.tdiv (IntKind.wrap .i64 (q.getD k 0)) ((240:Nat):Int))))):Int)),0,false,0,2,true⟩)],_,_⟩ at h
  rw [e] at h
  exact h
theorem Il (q:List Int) (b:Bool):∀ (rem k:Nat) (os:List Cl),k+rem=12→os.length=k→∃ c:List Cl,c.length≤12∧∀ nt,48≤nt→aQ prog ap [] nt (af 0 (ag f21)) (fun _=> .exit 0) (Y7 q b) smX (k,os) c
 | 0,k,os,hk,ho=>by
  refine ⟨os,by omega,fun nt a=> .done ?_⟩
  by_cases hkl:k<q.length
  ·cases os with
   |nil=>exact OY a q b k hkl (by omega)
   |cons y os=>exact OX a q b k (y::os).length (y::os) hkl (by omega)
  ·cases os with
   |nil=>exact Nb a q b k (by omega)
   |cons y os=>exact Na a q b k (y::os).length (y::os) (by omega)
 | rem+1,k,os,hk,ho=>by
  by_cases hkl:k<q.length
  ·obtain ⟨x,f⟩:=Nc q b k os hkl (by omega) ho
   obtain ⟨c,e,d⟩:=Il q b rem (k+1) (os++ [x]) (by omega) (by simp [ho])
   exact ⟨c,e,fun nt a=> .next (a':=(k+1,os++ [x])) (f nt a) (d nt a)⟩
  ·refine ⟨os,by omega,fun nt a=> .done ?_⟩
   cases os with
   |nil=>exact Nb a q b k (by omega)
   |cons y os=>exact Na a q b k (y::os).length (y::os) (by omega)
theorem Io (q:List Int) (d:Bool):∃ c:List Cl,c.length≤12∧CO 21 [.sl (bL q) q.length d] (.ret (OQ c)):=by
 obtain ⟨c,g,h⟩:=Il q d 12 0 [] rfl rfl
 refine ⟨c,g, ?_⟩
 have e:=aQ.blk (id:=0) (e':= .normal) (fun nt (hn:48≤nt)=>h nt hn) (by simp) rfl (aG.refl _) (aG.refl _)
 cases c with
 |nil=>
  unfold Y7 smX at e
  have f:aK prog ap [] 48 (.block 0 (.loop (af 0 (ag f21)))) ⟨[(0,.sl (bL q) q.length d),(2,.nilS),(3,.nilS),(4,.int .i64 0),(12,.dead)],[],.dead,[]⟩ (.normal) ⟨[(3,.nilS)],[],.dead,[]⟩:=(fun nt b=>(e nt b).weak (aG.of ⟨rfl,rfl,rfl,trivial⟩) (aG.refl _))
  exact pK [0] 0 0 .nil (.l f .nil)
 | cons y c=>
  unfold Y7 smX at e
  simp only at e
  have a:CO 21 [.sl (bL q) q.length d] (.ret (.own (List.take ((y::c).length*2) (cL (y::c))) (y::c).length 2)):=by
   generalize y::c=os at*
   generalize os.length=m at*
   have f:aK prog ap [] 48 (.block 0 (.loop (af 0 (ag f21)))) ⟨[(0,.sl (bL q) q.length d),(2,.nilS),(3,.nilS),(4,.int .i64 0),(12,.dead)],[],.dead,[]⟩ (.normal) ⟨[(3,.ref 0 0 0 m)],[(0,⟨(cL os),0,false,0,2,true⟩)],.dead,[]⟩:=(fun nt b=>(e nt b).weak (aG.of ⟨rfl,rfl,rfl,trivial⟩) (aG.refl _))
   exact pK [0] 0 0 .nil (.l f .nil)
  rw [List.take_of_length_le (by rw [bH];exact Nat.le_refl _)] at a
  exact a
theorem Ib {f:Nat} {args:List AV} {c:List Cl} (h:CO f args (.ret (OQ c))):CO f args (.ret (.sl (cL c) c.length false)):=by
 cases c with
 |nil=>exact h.out (jE.ret rfl rfl (bC.nilS false rfl))
 |cons o os=>exact Ce _ _ (by rw [← bH,List.take_length]) h
def J_ (L:Lw) (cc:Bool) (ca R1 R2 R3:List Cl) (s k:Nat) (us:List Cl) (p:Nat × Bool):St:=⟨[(7,.bool true),(8,.ptr 0 0 0),(9,.sl (cL ca) ca.length false),(10,.sl (cL R1) R1.length false),(11,.sl (cL R2) R2.length false),(12,.sl (cL R3) R3.length false),(13,.int .i64 (s:Int)),(14,.int .i64 (k:Int)),(15,.ptr 1 0 0),(16,.bool p.2),(53,.sl (cL us) us.length false),(54,.int .i64 (us.length:Int)),(55,.int .i64 (p.1:Int))],[(0,⟨[.sl L.fx L.fn true,.sl L.sx L.sn true,.sl (dm L.ps) L.ps.length cc],0,false,0,0,true⟩),(1,⟨[.int .i64 (s:Int),.int .i64 (k:Int)],0,false,0,0,true⟩)],.dead,[]⟩
def UQ (L:Lw) (cc:Bool) (ca R1 R2 R3:List Cl) (s k:Nat) (u:Bool):St:=⟨[(7,.bool true),(8,.ptr 0 0 0),(9,.sl (cL ca) ca.length false),(10,.sl (cL R1) R1.length false),(11,.sl (cL R2) R2.length false),(12,.sl (cL R3) R3.length false),(13,.int .i64 (s:Int)),(14,.int .i64 (k:Int)),(15,.ptr 1 0 0),(16,.bool u)],[(0,⟨[.sl L.fx L.fn true,.sl L.sx L.sn true,.sl (dm L.ps) L.ps.length cc],0,false,0,0,true⟩),(1,⟨[.int .i64 (s:Int),.int .i64 (k:Int)],0,false,0,0,true⟩)],.dead,[]⟩
theorem aaf {nt:Nat} (l:98≤nt) (L:Lw) (e:Bool) (g R1 R2 R3:List Cl) (s k:Nat) (us p r:List Cl) (x:Cl) (c:us=p++x::r) (i:us.length<2^40):ah prog ap [] nt (af 4 (ag f9)) (J_ L e g R1 R2 R3 s k us (p.length,true)) .normal (J_ L e g R1 R2 R3 s k us (p.length+1,true)):=by
 have h:=ed (f:=cC) (n:=2) (fun _=>rfl) c
 change List.drop _ (cL us)=cC x++cL r at h
 have a:p.length<us.length:=sS c
 have m:p.length<2^62:=by omega
 have o:(decide ((p.length:Int)<(us.length:Int)))=true:=kl a
 clear c
 generalize p.length=j at*
 have b:(decide (((0:Nat):Int)≤(j:Int)))=true:=(k0 _)
 have d:(decide ((j:Int)<(us.length:Int)))=true:=(kl a)
 unfold J_
 exact pN 9 [] 2 3 (.k 4 b (.c d (.c (aN o) .nil))) (.v 65 (.eq (wpS m)) (.v 57 (.ppt h) .nil)) l
theorem UT {nt:Nat} (d:98≤nt) (L:Lw) (b:Bool) (a R1 R2 R3:List Cl) (s k:Nat) (us:List Cl):ah prog ap [] nt (af 4 (ag f9)) (J_ L b a R1 R2 R3 s k us (us.length,true)) (.exit 4) (UQ L b a R1 R2 R3 s k true):=by
 have c:(decide ((us.length:Int)<(us.length:Int)))=false:=kn (Nat.le_refl _)
 unfold J_ UQ
 exact pN 9 [] 1 0 (.c (aT c) .nil) .nil d
theorem aae {nt:Nat} (o:98≤nt) (L:Lw) (g:Bool) (h R1 R2 R3:List Cl) (s k:Nat) (us p r:List Cl) (x:Cl) (b:Bool) (d:us=p++x::r) (m:us.length<2^40) (l:CO 29 [.sl (cL R1) R1.length false,cA x] (.ret (.bool b))):ah prog ap [] nt (af 4 (ag f9)) (J_ L g h R1 R2 R3 s k us (p.length,false)) .normal (J_ L g h R1 R2 R3 s k us (p.length+1,b)):=by
 have i:=ed (f:=cC) (n:=2) (fun _=>rfl) d
 change List.drop _ (cL us)=cC x++cL r at i
 have a:p.length<us.length:=sS d
 have q:p.length<2^62:=by omega
 have t:(decide ((p.length:Int)<(us.length:Int)))=true:=kl a
 clear d
 generalize p.length=j at*
 have c:(decide (((0:Nat):Int)≤(j:Int)))=true:=(k0 _)
 have e:(decide ((j:Int)<(us.length:Int)))=true:=(kl a)
 unfold J_
 exact pN 9 [] 2 1 (.k 6 c (.c e (.c (aN t) .nil))) (.v 65 (.eq (wpS q)) (.c l (.v 57 (.ppt i) .nil))) o
theorem UR {nt:Nat} (d:98≤nt) (L:Lw) (b:Bool) (a R1 R2 R3:List Cl) (s k:Nat) (us:List Cl):ah prog ap [] nt (af 4 (ag f9)) (J_ L b a R1 R2 R3 s k us (us.length,false)) (.exit 4) (UQ L b a R1 R2 R3 s k false):=by
 have c:(decide ((us.length:Int)<(us.length:Int)))=false:=kn (Nat.le_refl _)
 unfold J_ UQ
 exact pN 9 [] 1 0 (.c (aT c) .nil) .nil d
theorem G6 {nt:Nat} (e:98≤nt) (L:Lw) (c:Bool) (b R1 R2 R3:List Cl) (s k:Nat) (us:List Cl) (a:us.length<2^40) (i:R1.length<2^40):∀ (r p:List Cl) (u:Bool),us=p++r→aQ prog ap [] nt (af 4 (ag f9)) (fun _=> .exit 4) (J_ L c b R1 R2 R3 s k us) (UQ L c b R1 R2 R3 s k) (p.length,u) (u||r.any fun d=>decide (d ∈ R1))
 | [],p,u,h=>by
  rw [List.append_nil] at h
  subst h
  rw [List.any_nil,Bool.or_false]
  cases u with
  |true=>exact .done (UT e L c b R1 R2 R3 s k us)
  |false=>exact .done (UR e L c b R1 R2 R3 s k us)
 |x::r,p,u,h=>by
  have g:=G6 e L c b R1 R2 R3 s k us a i r (p++ [x]) (u||decide (x ∈ R1)) (by rw [h];simp)
  rw [show (p++ [x]).length=p.length+1 by simp,Bool.or_assoc,← List.any_cons (f:=fun d=>decide (d ∈ R1))] at g
  refine .next (a':=(p.length+1,u||decide (x ∈ R1))) ?_ g
  cases u with
  |true=>exact aaf e L c b R1 R2 R3 s k us p r x h a
  |false=>exact aae e L c b R1 R2 R3 s k us p r x (decide (x ∈ R1)) h a (yu R1 false x i)
def rF (L:Lw) (cc:Bool) (ca R1 R2 R3:List Cl) (s:Nat) (k:Nat):St:=⟨[(7,.bool true),(8,.ptr 0 0 0),(9,.sl (cL ca) ca.length false),(10,.sl (cL R1) R1.length false),(11,.sl (cL R2) R2.length false),(12,.sl (cL R3) R3.length false),(13,.int .i64 (s:Int)),(14,.int .i64 (k:Int))],[(0,⟨[.sl L.fx L.fn true,.sl L.sx L.sn true,.sl (dm L.ps) L.ps.length cc],0,false,0,0,true⟩)],.dead,[]⟩
theorem SH {nt:Nat} (i:98≤nt) (L:Lw) (c:Bool) (a R1 R2 R3:List Cl) (s k:Nat) (us:List Cl) (e:k<L.ps.length) (j:k<2^62) (g:CO 16 [.agg [.sl L.fx L.fn true,.sl L.sx L.sn true,.sl (dm L.ps) L.ps.length c],.int .i64 2,.agg [.int .i64 (s:Int),.int .i64 (k:Int)]] (.ret (.sl (cL us) us.length false))) (b:CO 29 [.sl (cL R1) R1.length false,.agg [.int .i64 (s:Int),.int .i64 (k:Int)]] (.ret (.bool true))) (d:CO 29 [.sl (cL R3) R3.length false,.agg [.int .i64 (s:Int),.int .i64 (k:Int)]] (.ret (.bool true))) (f:aK prog ap [] 98 (.block 4 (.loop (af 4 (ag f9)))) ⟨[(0,.dead),(1,.dead),(2,.dead),(6,.dead),(7,.bool true),(8,.ptr 0 0 0),(9,.sl (cL a) a.length false),(10,.sl (cL R1) R1.length false),(11,.sl (cL R2) R2.length false),(12,.sl (cL R3) R3.length false),(13,.int .i64 (s:Int)),(14,.int .i64 (k:Int)),(15,.ptr 1 0 0),(16,.bool false),(18,.dead),(38,.dead),(45,.bool (decide ((k:Int)<(L.ps.length:Int)))),(53,.sl (cL us) us.length false),(54,.int .i64 (us.length:Int)),(55,.int .i64 0),(56,.dead),(89,.dead)],[(0,⟨[.sl L.fx L.fn true,.sl L.sx L.sn true,.sl (dm L.ps) L.ps.length c],0,false,0,0,true⟩),(1,⟨[.int .i64 (s:Int),.int .i64 (k:Int)],0,false,0,0,true⟩)],.dead,[]⟩ (.normal) ⟨[(7,.bool true),(8,.ptr 0 0 0),(9,.sl (cL a) a.length false),(10,.sl (cL R1) R1.length false),(11,.sl (cL R2) R2.length false),(12,.sl (cL R3) R3.length false),(13,.int .i64 (s:Int)),(14,.int .i64 (k:Int)),(15,.ptr 1 0 0),(16,.bool true)],[(0,⟨[.sl L.fx L.fn true,.sl L.sx L.sn true,.sl (dm L.ps) L.ps.length c],0,false,0,0,true⟩),(1,⟨[.int .i64 (s:Int),.int .i64 (k:Int)],0,false,0,0,true⟩)],.dead,[]⟩):ah prog ap [] nt (af 2 (ag f9)) (rF L c a R1 R2 R3 s k) .normal (rF L c a R1 R2 R3 s (k+1)):=by
 have h:(decide ((k:Int)<(L.ps.length:Int)))=true:=kl e
 unfold rF
 exact pN 9 [4] 5 11 (.k 16 (aN h) (.n 1 .nil)) (.v 47 (.eq (wpS j)) (.c b (.c d (.c b (.l f (.c g .nil)))))) i
theorem SG {nt:Nat} (i:98≤nt) (L:Lw) (c:Bool) (a R1 R2 R3:List Cl) (s k:Nat) (us:List Cl) (e:k<L.ps.length) (j:k<2^62) (g:CO 16 [.agg [.sl L.fx L.fn true,.sl L.sx L.sn true,.sl (dm L.ps) L.ps.length c],.int .i64 2,.agg [.int .i64 (s:Int),.int .i64 (k:Int)]] (.ret (.sl (cL us) us.length false))) (b:CO 29 [.sl (cL R1) R1.length false,.agg [.int .i64 (s:Int),.int .i64 (k:Int)]] (.ret (.bool true))) (d:CO 29 [.sl (cL R3) R3.length false,.agg [.int .i64 (s:Int),.int .i64 (k:Int)]] (.ret (.bool true))) (f:aK prog ap [] 98 (.block 4 (.loop (af 4 (ag f9)))) ⟨[(0,.dead),(1,.dead),(2,.dead),(6,.dead),(7,.bool true),(8,.ptr 0 0 0),(9,.sl (cL a) a.length false),(10,.sl (cL R1) R1.length false),(11,.sl (cL R2) R2.length false),(12,.sl (cL R3) R3.length false),(13,.int .i64 (s:Int)),(14,.int .i64 (k:Int)),(15,.ptr 1 0 0),(16,.bool false),(18,.dead),(38,.dead),(45,.bool (decide ((k:Int)<(L.ps.length:Int)))),(53,.sl (cL us) us.length false),(54,.int .i64 (us.length:Int)),(55,.int .i64 0),(56,.dead),(89,.dead)],[(0,⟨[.sl L.fx L.fn true,.sl L.sx L.sn true,.sl (dm L.ps) L.ps.length c],0,false,0,0,true⟩),(1,⟨[.int .i64 (s:Int),.int .i64 (k:Int)],0,false,0,0,true⟩)],.dead,[]⟩ (.normal) ⟨[(7,.bool true),(8,.ptr 0 0 0),(9,.sl (cL a) a.length false),(10,.sl (cL R1) R1.length false),(11,.sl (cL R2) R2.length false),(12,.sl (cL R3) R3.length false),(13,.int .i64 (s:Int)),(14,.int .i64 (k:Int)),(15,.ptr 1 0 0),(16,.bool true)],[(0,⟨[.sl L.fx L.fn true,.sl L.sx L.sn true,.sl (dm L.ps) L.ps.length c],0,false,0,0,true⟩),(1,⟨[.int .i64 (s:Int),.int .i64 (k:Int)],0,false,0,0,true⟩)],.dead,[]⟩):ah prog ap [] nt (af 2 (ag f9)) (rF L c a R1 R2 R3 s k) .normal (rF L c a R1 R2 R3 s (k+1)):=by
 have h:(decide ((k:Int)<(L.ps.length:Int)))=true:=kl e
 unfold rF
 exact pN 9 [4] 5 11 (.k 16 (aN h) (.n 1 .nil)) (.v 47 (.eq (wpS j)) (.c b (.c d (.c b (.l f (.c g .nil)))))) i
theorem SE {nt:Nat} (i:98≤nt) (L:Lw) (c:Bool) (a R1 R2 R3:List Cl) (s k:Nat) (us:List Cl) (e:k<L.ps.length) (j:k<2^62) (g:CO 16 [.agg [.sl L.fx L.fn true,.sl L.sx L.sn true,.sl (dm L.ps) L.ps.length c],.int .i64 2,.agg [.int .i64 (s:Int),.int .i64 (k:Int)]] (.ret (.sl (cL us) us.length false))) (b:CO 29 [.sl (cL R1) R1.length false,.agg [.int .i64 (s:Int),.int .i64 (k:Int)]] (.ret (.bool true))) (d:CO 29 [.sl (cL R3) R3.length false,.agg [.int .i64 (s:Int),.int .i64 (k:Int)]] (.ret (.bool true))) (f:aK prog ap [] 98 (.block 4 (.loop (af 4 (ag f9)))) ⟨[(0,.dead),(1,.dead),(2,.dead),(6,.dead),(7,.bool true),(8,.ptr 0 0 0),(9,.sl (cL a) a.length false),(10,.sl (cL R1) R1.length false),(11,.sl (cL R2) R2.length false),(12,.sl (cL R3) R3.length false),(13,.int .i64 (s:Int)),(14,.int .i64 (k:Int)),(15,.ptr 1 0 0),(16,.bool false),(18,.dead),(38,.dead),(45,.bool (decide ((k:Int)<(L.ps.length:Int)))),(53,.sl (cL us) us.length false),(54,.int .i64 (us.length:Int)),(55,.int .i64 0),(56,.dead),(89,.dead)],[(0,⟨[.sl L.fx L.fn true,.sl L.sx L.sn true,.sl (dm L.ps) L.ps.length c],0,false,0,0,true⟩),(1,⟨[.int .i64 (s:Int),.int .i64 (k:Int)],0,false,0,0,true⟩)],.dead,[]⟩ (.normal) ⟨[(7,.bool true),(8,.ptr 0 0 0),(9,.sl (cL a) a.length false),(10,.sl (cL R1) R1.length false),(11,.sl (cL R2) R2.length false),(12,.sl (cL R3) R3.length false),(13,.int .i64 (s:Int)),(14,.int .i64 (k:Int)),(15,.ptr 1 0 0),(16,.bool true)],[(0,⟨[.sl L.fx L.fn true,.sl L.sx L.sn true,.sl (dm L.ps) L.ps.length c],0,false,0,0,true⟩),(1,⟨[.int .i64 (s:Int),.int .i64 (k:Int)],0,false,0,0,true⟩)],.dead,[]⟩):ah prog ap [] nt (af 2 (ag f9)) (rF L c a R1 R2 R3 s k) .normal (rF L c a R1 R2 R3 s (k+1)):=by
 have h:(decide ((k:Int)<(L.ps.length:Int)))=true:=kl e
 unfold rF
 exact pN 9 [4] 5 11 (.k 16 (aN h) (.n 1 .nil)) (.v 47 (.eq (wpS j)) (.c b (.c d (.c b (.l f (.c g .nil)))))) i
theorem SB {nt:Nat} (i:98≤nt) (L:Lw) (c:Bool) (a R1 R2 R3:List Cl) (s k:Nat) (us:List Cl) (e:k<L.ps.length) (j:k<2^62) (g:CO 16 [.agg [.sl L.fx L.fn true,.sl L.sx L.sn true,.sl (dm L.ps) L.ps.length c],.int .i64 2,.agg [.int .i64 (s:Int),.int .i64 (k:Int)]] (.ret (.sl (cL us) us.length false))) (b:CO 29 [.sl (cL R1) R1.length false,.agg [.int .i64 (s:Int),.int .i64 (k:Int)]] (.ret (.bool true))) (d:CO 29 [.sl (cL R3) R3.length false,.agg [.int .i64 (s:Int),.int .i64 (k:Int)]] (.ret (.bool true))) (f:aK prog ap [] 98 (.block 4 (.loop (af 4 (ag f9)))) ⟨[(0,.dead),(1,.dead),(2,.dead),(6,.dead),(7,.bool true),(8,.ptr 0 0 0),(9,.sl (cL a) a.length false),(10,.sl (cL R1) R1.length false),(11,.sl (cL R2) R2.length false),(12,.sl (cL R3) R3.length false),(13,.int .i64 (s:Int)),(14,.int .i64 (k:Int)),(15,.ptr 1 0 0),(16,.bool false),(18,.dead),(38,.dead),(45,.bool (decide ((k:Int)<(L.ps.length:Int)))),(53,.sl (cL us) us.length false),(54,.int .i64 (us.length:Int)),(55,.int .i64 0),(56,.dead),(89,.dead)],[(0,⟨[.sl L.fx L.fn true,.sl L.sx L.sn true,.sl (dm L.ps) L.ps.length c],0,false,0,0,true⟩),(1,⟨[.int .i64 (s:Int),.int .i64 (k:Int)],0,false,0,0,true⟩)],.dead,[]⟩ (.normal) ⟨[(7,.bool true),(8,.ptr 0 0 0),(9,.sl (cL a) a.length false),(10,.sl (cL R1) R1.length false),(11,.sl (cL R2) R2.length false),(12,.sl (cL R3) R3.length false),(13,.int .i64 (s:Int)),(14,.int .i64 (k:Int)),(15,.ptr 1 0 0),(16,.bool true)],[(0,⟨[.sl L.fx L.fn true,.sl L.sx L.sn true,.sl (dm L.ps) L.ps.length c],0,false,0,0,true⟩),(1,⟨[.int .i64 (s:Int),.int .i64 (k:Int)],0,false,0,0,true⟩)],.dead,[]⟩):ah prog ap [] nt (af 2 (ag f9)) (rF L c a R1 R2 R3 s k) .normal (rF L c a R1 R2 R3 s (k+1)):=by
 have h:(decide ((k:Int)<(L.ps.length:Int)))=true:=kl e
 unfold rF
 exact pN 9 [4] 5 11 (.k 16 (aN h) (.n 1 .nil)) (.v 47 (.eq (wpS j)) (.c b (.c d (.c b (.l f (.c g .nil)))))) i
theorem SA {nt:Nat} (g:98≤nt) (L:Lw) (b:Bool) (a R1 R2 R3:List Cl) (s k:Nat) (us:List Cl) (d:k<L.ps.length) (h:k<2^62) (j:CO 16 [.agg [.sl L.fx L.fn true,.sl L.sx L.sn true,.sl (dm L.ps) L.ps.length b],.int .i64 2,.agg [.int .i64 (s:Int),.int .i64 (k:Int)]] (.ret (.sl (cL us) us.length false))) (c:CO 29 [.sl (cL R1) R1.length false,.agg [.int .i64 (s:Int),.int .i64 (k:Int)]] (.ret (.bool true))) (f:CO 29 [.sl (cL R3) R3.length false,.agg [.int .i64 (s:Int),.int .i64 (k:Int)]] (.ret (.bool true))) (e:CO 29 [.sl (cL a) a.length false,.agg [.int .i64 (s:Int),.int .i64 (k:Int)]] (.ret (.bool true))) (i:aK prog ap [] 98 (.block 4 (.loop (af 4 (ag f9)))) ⟨[(0,.dead),(1,.dead),(2,.dead),(6,.dead),(7,.bool true),(8,.ptr 0 0 0),(9,.sl (cL a) a.length false),(10,.sl (cL R1) R1.length false),(11,.sl (cL R2) R2.length false),(12,.sl (cL R3) R3.length false),(13,.int .i64 (s:Int)),(14,.int .i64 (k:Int)),(15,.ptr 1 0 0),(16,.bool false),(18,.dead),(38,.dead),(45,.bool (decide ((k:Int)<(L.ps.length:Int)))),(53,.sl (cL us) us.length false),(54,.int .i64 (us.length:Int)),(55,.int .i64 0),(56,.dead),(89,.dead)],[(0,⟨[.sl L.fx L.fn true,.sl L.sx L.sn true,.sl (dm L.ps) L.ps.length b],0,false,0,0,true⟩),(1,⟨[.int .i64 (s:Int),.int .i64 (k:Int)],0,false,0,0,true⟩)],.dead,[]⟩ (.normal) ⟨[(7,.bool true),(8,.ptr 0 0 0),(9,.sl (cL a) a.length false),(10,.sl (cL R1) R1.length false),(11,.sl (cL R2) R2.length false),(12,.sl (cL R3) R3.length false),(13,.int .i64 (s:Int)),(14,.int .i64 (k:Int)),(15,.ptr 1 0 0),(16,.bool false)],[(0,⟨[.sl L.fx L.fn true,.sl L.sx L.sn true,.sl (dm L.ps) L.ps.length b],0,false,0,0,true⟩),(1,⟨[.int .i64 (s:Int),.int .i64 (k:Int)],0,false,0,0,true⟩)],.dead,[]⟩):ah prog ap [] nt (af 2 (ag f9)) (rF L b a R1 R2 R3 s k) .normal (rF L b a R1 R2 R3 s (k+1)):=by
 have l:(decide ((k:Int)<(L.ps.length:Int)))=true:=kl d
 unfold rF
 exact pN 9 [4] 5 9 (.k 18 (aN l) (.n 1 .nil)) (.v 47 (.eq (wpS h)) (.c c (.c f (.c e (.c c (.l i (.c j .nil))))))) g
theorem Sz {nt:Nat} (g:98≤nt) (L:Lw) (b:Bool) (a R1 R2 R3:List Cl) (s k:Nat) (us:List Cl) (d:k<L.ps.length) (h:k<2^62) (j:CO 16 [.agg [.sl L.fx L.fn true,.sl L.sx L.sn true,.sl (dm L.ps) L.ps.length b],.int .i64 2,.agg [.int .i64 (s:Int),.int .i64 (k:Int)]] (.ret (.sl (cL us) us.length false))) (c:CO 29 [.sl (cL R1) R1.length false,.agg [.int .i64 (s:Int),.int .i64 (k:Int)]] (.ret (.bool true))) (f:CO 29 [.sl (cL R3) R3.length false,.agg [.int .i64 (s:Int),.int .i64 (k:Int)]] (.ret (.bool true))) (e:CO 29 [.sl (cL a) a.length false,.agg [.int .i64 (s:Int),.int .i64 (k:Int)]] (.ret (.bool true))) (i:aK prog ap [] 98 (.block 4 (.loop (af 4 (ag f9)))) ⟨[(0,.dead),(1,.dead),(2,.dead),(6,.dead),(7,.bool true),(8,.ptr 0 0 0),(9,.sl (cL a) a.length false),(10,.sl (cL R1) R1.length false),(11,.sl (cL R2) R2.length false),(12,.sl (cL R3) R3.length false),(13,.int .i64 (s:Int)),(14,.int .i64 (k:Int)),(15,.ptr 1 0 0),(16,.bool false),(18,.dead),(38,.dead),(45,.bool (decide ((k:Int)<(L.ps.length:Int)))),(53,.sl (cL us) us.length false),(54,.int .i64 (us.length:Int)),(55,.int .i64 0),(56,.dead),(89,.dead)],[(0,⟨[.sl L.fx L.fn true,.sl L.sx L.sn true,.sl (dm L.ps) L.ps.length b],0,false,0,0,true⟩),(1,⟨[.int .i64 (s:Int),.int .i64 (k:Int)],0,false,0,0,true⟩)],.dead,[]⟩ (.normal) ⟨[(7,.bool true),(8,.ptr 0 0 0),(9,.sl (cL a) a.length false),(10,.sl (cL R1) R1.length false),(11,.sl (cL R2) R2.length false),(12,.sl (cL R3) R3.length false),(13,.int .i64 (s:Int)),(14,.int .i64 (k:Int)),(15,.ptr 1 0 0),(16,.bool false)],[(0,⟨[.sl L.fx L.fn true,.sl L.sx L.sn true,.sl (dm L.ps) L.ps.length b],0,false,0,0,true⟩),(1,⟨[.int .i64 (s:Int),.int .i64 (k:Int)],0,false,0,0,true⟩)],.dead,[]⟩):ah prog ap [] nt (af 2 (ag f9)) (rF L b a R1 R2 R3 s k) .normal (rF L b a R1 R2 R3 s (k+1)):=by
 have l:(decide ((k:Int)<(L.ps.length:Int)))=true:=kl d
 unfold rF
 exact pN 9 [4] 5 9 (.k 18 (aN l) (.n 1 .nil)) (.v 47 (.eq (wpS h)) (.c c (.c f (.c e (.c c (.l i (.c j .nil))))))) g
theorem Sv {nt:Nat} (j:98≤nt) (L:Lw) (b:Bool) (a R1 R2 R3:List Cl) (s k:Nat) (us:List Cl) (f:k<L.ps.length) (l:k<2^62) (h:CO 16 [.agg [.sl L.fx L.fn true,.sl L.sx L.sn true,.sl (dm L.ps) L.ps.length b],.int .i64 2,.agg [.int .i64 (s:Int),.int .i64 (k:Int)]] (.ret (.sl (cL us) us.length false))) (g:CO 29 [.sl (cL R2) R2.length false,.agg [.int .i64 (s:Int),.int .i64 (k:Int)]] (.ret (.bool true))) (c:CO 29 [.sl (cL R1) R1.length false,.agg [.int .i64 (s:Int),.int .i64 (k:Int)]] (.ret (.bool false))) (e:CO 29 [.sl (cL R3) R3.length false,.agg [.int .i64 (s:Int),.int .i64 (k:Int)]] (.ret (.bool true))) (d:CO 29 [.sl (cL a) a.length false,.agg [.int .i64 (s:Int),.int .i64 (k:Int)]] (.ret (.bool false))) (m:aK prog ap [] 98 (.block 4 (.loop (af 4 (ag f9)))) ⟨[(0,.dead),(1,.dead),(2,.dead),(6,.dead),(7,.bool true),(8,.ptr 0 0 0),(9,.sl (cL a) a.length false),(10,.sl (cL R1) R1.length false),(11,.sl (cL R2) R2.length false),(12,.sl (cL R3) R3.length false),(13,.int .i64 (s:Int)),(14,.int .i64 (k:Int)),(15,.ptr 1 0 0),(16,.bool false),(18,.dead),(38,.dead),(45,.bool (decide ((k:Int)<(L.ps.length:Int)))),(53,.sl (cL us) us.length false),(54,.int .i64 (us.length:Int)),(55,.int .i64 0),(56,.dead),(89,.dead)],[(0,⟨[.sl L.fx L.fn true,.sl L.sx L.sn true,.sl (dm L.ps) L.ps.length b],0,false,0,0,true⟩),(1,⟨[.int .i64 (s:Int),.int .i64 (k:Int)],0,false,0,0,true⟩)],.dead,[]⟩ (.normal) ⟨[(7,.bool true),(8,.ptr 0 0 0),(9,.sl (cL a) a.length false),(10,.sl (cL R1) R1.length false),(11,.sl (cL R2) R2.length false),(12,.sl (cL R3) R3.length false),(13,.int .i64 (s:Int)),(14,.int .i64 (k:Int)),(15,.ptr 1 0 0),(16,.bool false)],[(0,⟨[.sl L.fx L.fn true,.sl L.sx L.sn true,.sl (dm L.ps) L.ps.length b],0,false,0,0,true⟩),(1,⟨[.int .i64 (s:Int),.int .i64 (k:Int)],0,false,0,0,true⟩)],.dead,[]⟩):ah prog ap [] nt (af 2 (ag f9)) (rF L b a R1 R2 R3 s k) .normal (rF L b a R1 R2 R3 s (k+1)):=by
 have i:(decide ((k:Int)<(L.ps.length:Int)))=true:=kl f
 unfold rF
 exact pN 9 [4] 5 1 (.k 20 (aN i) (.n 1 .nil)) (.v 47 (.eq (wpS l)) (.c g (.c c (.c e (.c d (.c c (.l m (.c h .nil)))))))) j
theorem Su {nt:Nat} (j:98≤nt) (L:Lw) (b:Bool) (a R1 R2 R3:List Cl) (s k:Nat) (us:List Cl) (f:k<L.ps.length) (l:k<2^62) (h:CO 16 [.agg [.sl L.fx L.fn true,.sl L.sx L.sn true,.sl (dm L.ps) L.ps.length b],.int .i64 2,.agg [.int .i64 (s:Int),.int .i64 (k:Int)]] (.ret (.sl (cL us) us.length false))) (g:CO 29 [.sl (cL R2) R2.length false,.agg [.int .i64 (s:Int),.int .i64 (k:Int)]] (.ret (.bool false))) (c:CO 29 [.sl (cL R1) R1.length false,.agg [.int .i64 (s:Int),.int .i64 (k:Int)]] (.ret (.bool false))) (e:CO 29 [.sl (cL R3) R3.length false,.agg [.int .i64 (s:Int),.int .i64 (k:Int)]] (.ret (.bool false))) (d:CO 29 [.sl (cL a) a.length false,.agg [.int .i64 (s:Int),.int .i64 (k:Int)]] (.ret (.bool false))) (m:aK prog ap [] 98 (.block 4 (.loop (af 4 (ag f9)))) ⟨[(0,.dead),(1,.dead),(2,.dead),(6,.dead),(7,.bool true),(8,.ptr 0 0 0),(9,.sl (cL a) a.length false),(10,.sl (cL R1) R1.length false),(11,.sl (cL R2) R2.length false),(12,.sl (cL R3) R3.length false),(13,.int .i64 (s:Int)),(14,.int .i64 (k:Int)),(15,.ptr 1 0 0),(16,.bool false),(18,.dead),(38,.dead),(45,.bool (decide ((k:Int)<(L.ps.length:Int)))),(53,.sl (cL us) us.length false),(54,.int .i64 (us.length:Int)),(55,.int .i64 0),(56,.dead),(89,.dead)],[(0,⟨[.sl L.fx L.fn true,.sl L.sx L.sn true,.sl (dm L.ps) L.ps.length b],0,false,0,0,true⟩),(1,⟨[.int .i64 (s:Int),.int .i64 (k:Int)],0,false,0,0,true⟩)],.dead,[]⟩ (.normal) ⟨[(7,.bool true),(8,.ptr 0 0 0),(9,.sl (cL a) a.length false),(10,.sl (cL R1) R1.length false),(11,.sl (cL R2) R2.length false),(12,.sl (cL R3) R3.length false),(13,.int .i64 (s:Int)),(14,.int .i64 (k:Int)),(15,.ptr 1 0 0),(16,.bool false)],[(0,⟨[.sl L.fx L.fn true,.sl L.sx L.sn true,.sl (dm L.ps) L.ps.length b],0,false,0,0,true⟩),(1,⟨[.int .i64 (s:Int),.int .i64 (k:Int)],0,false,0,0,true⟩)],.dead,[]⟩):ah prog ap [] nt (af 2 (ag f9)) (rF L b a R1 R2 R3 s k) .normal (rF L b a R1 R2 R3 s (k+1)):=by
 have i:(decide ((k:Int)<(L.ps.length:Int)))=true:=kl f
 unfold rF
 exact pN 9 [4] 5 1 (.k 20 (aN i) (.n 1 .nil)) (.v 47 (.eq (wpS l)) (.c g (.c c (.c e (.c d (.c c (.l m (.c h .nil)))))))) j
def IX (L:Lw) (cc:Bool) (ca R1 R2 R3:List Cl) (s:Nat):St:=⟨[(7,.bool true),(8,.ptr 0 0 0),(9,.sl (cL ca) ca.length false),(10,.sl (cL R1) R1.length false),(11,.sl (cL R2) R2.length false),(12,.sl (cL R3) R3.length false),(13,.int .i64 (s:Int))],[(0,⟨[.sl L.fx L.fn true,.sl L.sx L.sn true,.sl (dm L.ps) L.ps.length cc],0,false,0,0,true⟩)],.dead,[]⟩
theorem aag {nt:Nat} (d:98≤nt) (L:Lw) (b:Bool) (a R1 R2 R3:List Cl) (s:Nat):ah prog ap [] nt (af 2 (ag f9)) (rF L b a R1 R2 R3 s L.ps.length) (.exit 2) (IX L b a R1 R2 R3 s):=by
 have c:(decide ((L.ps.length:Int)<(L.ps.length:Int)))=false:=kn (Nat.le_refl _)
 unfold rF IX
 exact pN 9 [4] 1 0 (.c (aT c) (.n 1 .nil)) .nil d
theorem oK {L:Lw} {s:Int} {fr:List Cl} {c:Cl}:c ∈ ak L s fr↔aI s L.ps.length c=true∧zO (jd L s) (aI s L.ps.length) fr c:=by
 classical
 unfold ak
 rw [List.mem_filter,jI,decide_eq_true_eq]
theorem ND {L:Lw} {s:Int} {c d:Cl}:c ∈ jd L s d↔aI s L.ps.length c=true∧d ∈ iH L s c:=by
 unfold jd
 rw [List.mem_filter,jI,decide_eq_true_eq]
theorem Jn {L:Lw} {s:Int} {fr:List Cl} {c:Cl} (a:aI s L.ps.length c=true):decide (c ∈ ak L s fr)=(((iH L s c).any fun d=>decide (d ∈ ak L s fr))||decide (c ∈ fr)):=by
 rw [Bool.eq_iff_iff]
 simp only [decide_eq_true_eq,Bool.or_eq_true,List.any_eq_true]
 constructor
 ·intro h
  obtain ⟨_,h⟩:=oK.1 h
  cases h with
  |base h1 h2=>exact .inr h1
  |step h1 h2 h3=>exact .inl ⟨_,(ND.1 h2).2,oK.2 ⟨h1.ok,h1⟩⟩
 ·rintro (⟨d,hd,hr⟩|h)
  ·obtain ⟨_,h⟩:=oK.1 hr
   exact oK.2 ⟨a,.step h (ND.2 ⟨a,hd⟩) a⟩
  ·exact oK.2 ⟨a,.base h a⟩
theorem TB {us:Cl→List Cl} {ok:Cl→Bool} {a b:List Cl} {c:Cl}:zO us ok (b++a) c↔zO us ok a c∨zO us ok b c:=by
 constructor
 ·intro h
  induction h with
  |base h1 h2=>
   rcases List.mem_append.1 h1 with h|h
   ·exact .inr (.base h h2)
   ·exact .inl (.base h h2)
  |step h1 h2 h3 ih=>
   rcases ih with h|h
   ·exact .inl (.step h h2 h3)
   ·exact .inr (.step h h2 h3)
 ·rintro (h|h)
  ·exact h.trans fun y d e=> .base (List.mem_append.2 (.inr d)) e
  ·exact h.trans fun y d e=> .base (List.mem_append.2 (.inl d)) e
theorem OU {L:Lw} {s:Int} {a b:List Cl} {c:Cl}:decide (c ∈ ak L s (b++a))=(decide (c ∈ ak L s a)||decide (c ∈ ak L s b)):=by
 rw [Bool.eq_iff_iff]
 simp only [decide_eq_true_eq,Bool.or_eq_true,oK,TB]
 constructor
 ·rintro ⟨h,h1|h1⟩
  ·exact .inl ⟨h,h1⟩
  ·exact .inr ⟨h,h1⟩
 ·rintro (⟨h,h1⟩|⟨h,h1⟩)
  ·exact ⟨h,.inl h1⟩
  ·exact ⟨h,.inr h1⟩
theorem LW (L:Lw) (s:Int) (fr:List Cl):ak L s (ak L s fr)=ak L s fr:=by
 classical
 have e:∀ c ∈ ax s L.ps.length,decide (zO (jd L s) (aI s L.ps.length) (ak L s fr) c)=decide (zO (jd L s) (aI s L.ps.length) fr c):=fun c b=>by
  rw [decide_eq_decide]
  constructor
  ·exact fun h=>h.trans fun y a _=>(oK.1 a).2
  ·exact fun h=> .base (oK.2 ⟨h.ok,h⟩) h.ok
 show (ax s L.ps.length).filter (fun c=>decide (zO (jd L s) (aI s L.ps.length) (ak L s fr) c))=_
 rw [List.filter_congr e]
 rfl
theorem Ey (L:Lw) (s:Int) (w:Cl):∀ bd:List Nd,(qf L s w bd).length≤bd.countP jl
 | []=>by simp [qf]
 | x ::bd=>by
  have c:=Ey L s w bd
  unfold qf at c ⊢
  rw [List.filterMap_cons,List.countP_cons]
  cases a:qc L s w x with
  |none=>simp only;omega
  | some y=>
   have b:jl x=true:=by
    unfold qc at a
    unfold jl
    by_cases h6:(x.op==((6:Nat):Int))=true
    ·have:(x.op==6)=true:=h6
     simp [this]
    ·by_cases h8:(x.op==((8:Nat):Int))=true
     ·have:(x.op==8)=true:=h8
      simp [this]
     ·rw [if_neg h6,if_neg h8] at a
      simp at a
   simp only [List.length_cons,b,if_true]
   omega
theorem Oy {L:Lw} {mn:Nat} (d:L.ps.length≤8) (h:vz mn L.ps):qi L:=by
 refine ⟨by omega,fun p hp=> ?_⟩
 obtain ⟨k,b⟩:=List.getElem?_of_mem hp
 obtain ⟨e,c,a⟩:=(h k p b).body
 rw [c]
 refine ⟨?_,fun s w=>Nat.le_trans (Ey L s w _) ?_⟩
 ·have:=a.len
  simp only [List.length_cons]
  omega
 ·have:=a.cnt
  rw [List.countP_cons]
  have:jl ⟨5,false,[],[],[120]⟩=false:=rfl
  rw [this]
  simp
  omega
theorem Df (L:Lw) (s:Int) (fr:List Cl):(ak L s fr).length≤L.ps.length+L.ps.length:=by
 unfold ak
 exact Nat.le_trans (List.length_filter_le _ _) (eQ _ _)
theorem Ko {nt:Nat} (q:98≤nt) (L:Lw) (o:Bool) (e g:List Cl) (A:qi L) (C:L.ps.length≤8) (t:e.length<2^40) (s k:Nat) (hs:s<2) (l:k<L.ps.length):
  ah prog ap [] nt (af 2 (ag f9)) (rF L o e (ak L 2 e) (ak L 2 g) (ak L 2 (g++e)) s k) .normal (rF L o e (ak L 2 e) (ak L 2 g) (ak L 2 (g++e)) s (k+1)):=by
 have B:aI 2 L.ps.length ((s:Int),(k:Int))=true:=by
  unfold aI
  simp
  omega
 have m:=Ir L true true o 2 ((s:Int),(k:Int)) A
 have z:=Jn (fr:=e) B
 have w:=OU (L:=L) (s:=2) (a:=e) (b:=g) (c:=((s:Int),(k:Int)))
 have r:(ak L 2 e).length<2^40:=by have:=Df L 2 e;omega
 have v:(ak L 2 g).length<2^40:=by have:=Df L 2 g;omega
 have y:(ak L 2 (g++e)).length<2^40:=by have:=Df L 2 (g++e);omega
 have h:=yu (ak L 2 e) false ((s:Int),(k:Int)) r
 have p:=yu (ak L 2 g) false ((s:Int),(k:Int)) v
 have j:=yu (ak L 2 (g++e)) false ((s:Int),(k:Int)) y
 have n:=yu e false ((s:Int),(k:Int)) t
 have x:(iH L 2 ((s:Int),(k:Int))).length<2^40:=by have:=lX A 2 ((s:Int),(k:Int));omega
 have i:=aQ.blk (id:=4) (e':= .normal) (fun nt (q:98≤nt)=>G6 q L o e (ak L 2 e) (ak L 2 g) (ak L 2 (g++e)) s k (iH L 2 ((s:Int),(k:Int))) x r (iH L 2 ((s:Int),(k:Int))) [] false rfl) (by simp) rfl (aG.refl _) (aG.refl _)
 rw [Bool.false_or] at i
 rw [z] at w h
 rw [w] at j
 clear z w
 generalize (iH L 2 ((s:Int),(k:Int))).any (fun d=>decide (d ∈ ak L 2 e))=u at*
 generalize decide (((s:Int),(k:Int)) ∈ e)=a at*
 generalize decide (((s:Int),(k:Int)) ∈ ak L 2 g)=b at*
 match u,a,b,m,h,p,j,n,i with
 |true,true,true,m,h,p,j,n,i=>exact SH q L o e (ak L 2 e) (ak L 2 g) (ak L 2 (g++e)) s k _ l (by omega) m h j (fun nt f=>(i nt f).weak (aG.of ⟨rfl,rfl,rfl,rfl,rfl,rfl,rfl,rfl,rfl,rfl,rfl,rfl,rfl,trivial⟩) (aG.refl _))
 |true,true,false,m,h,p,j,n,i=>exact SG q L o e (ak L 2 e) (ak L 2 g) (ak L 2 (g++e)) s k _ l (by omega) m h j (fun nt f=>(i nt f).weak (aG.of ⟨rfl,rfl,rfl,rfl,rfl,rfl,rfl,rfl,rfl,rfl,rfl,rfl,rfl,trivial⟩) (aG.refl _))
 |true,false,true,m,h,p,j,n,i=>exact SE q L o e (ak L 2 e) (ak L 2 g) (ak L 2 (g++e)) s k _ l (by omega) m h j (fun nt f=>(i nt f).weak (aG.of ⟨rfl,rfl,rfl,rfl,rfl,rfl,rfl,rfl,rfl,rfl,rfl,rfl,rfl,trivial⟩) (aG.refl _))
 |true,false,false,m,h,p,j,n,i=>exact SB q L o e (ak L 2 e) (ak L 2 g) (ak L 2 (g++e)) s k _ l (by omega) m h j (fun nt f=>(i nt f).weak (aG.of ⟨rfl,rfl,rfl,rfl,rfl,rfl,rfl,rfl,rfl,rfl,rfl,rfl,rfl,trivial⟩) (aG.refl _))
 |false,true,true,m,h,p,j,n,i=>exact SA q L o e (ak L 2 e) (ak L 2 g) (ak L 2 (g++e)) s k _ l (by omega) m h j n (fun nt f=>(i nt f).weak (aG.of ⟨rfl,rfl,rfl,rfl,rfl,rfl,rfl,rfl,rfl,rfl,rfl,rfl,rfl,trivial⟩) (aG.refl _))
 |false,true,false,m,h,p,j,n,i=>exact Sz q L o e (ak L 2 e) (ak L 2 g) (ak L 2 (g++e)) s k _ l (by omega) m h j n (fun nt f=>(i nt f).weak (aG.of ⟨rfl,rfl,rfl,rfl,rfl,rfl,rfl,rfl,rfl,rfl,rfl,rfl,rfl,trivial⟩) (aG.refl _))
 |false,false,true,m,h,p,j,n,i=>exact Sv q L o e (ak L 2 e) (ak L 2 g) (ak L 2 (g++e)) s k _ l (by omega) m p h j n (fun nt f=>(i nt f).weak (aG.of ⟨rfl,rfl,rfl,rfl,rfl,rfl,rfl,rfl,rfl,rfl,rfl,rfl,rfl,trivial⟩) (aG.refl _))
 |false,false,false,m,h,p,j,n,i=>exact Su q L o e (ak L 2 e) (ak L 2 g) (ak L 2 (g++e)) s k _ l (by omega) m p h j n (fun nt f=>(i nt f).weak (aG.of ⟨rfl,rfl,rfl,rfl,rfl,rfl,rfl,rfl,rfl,rfl,rfl,rfl,rfl,trivial⟩) (aG.refl _))
theorem G7 {nt:Nat} (e:98≤nt) (L:Lw) (c:Bool) (a b:List Cl) (g:qi L) (f:L.ps.length≤8) (d:a.length<2^40) (s:Nat) (hs:s<2):∀ (rem k:Nat),k+rem=L.ps.length→aQ prog ap [] nt (af 2 (ag f9)) (fun _=> .exit 2) (rF L c a (ak L 2 a) (ak L 2 b) (ak L 2 (b++a)) s) (fun _:Unit=>IX L c a (ak L 2 a) (ak L 2 b) (ak L 2 (b++a)) s) k ()
 |0,k,h=>by
  have h:k=L.ps.length:=by omega
  subst h
  exact .done (aag e L c a (ak L 2 a) (ak L 2 b) (ak L 2 (b++a)) s)
 |rem+1,k,h=> .next (a':=k+1) (Ko e L c a b g f d s k hs (by omega)) (G7 e L c a b g f d s hs rem (k+1) (by omega))
theorem aai {nt:Nat} (f:98≤nt) (L:Lw) (b:Bool) (a R1 R2 R3:List Cl) (s:Nat) (hs:s<2) (d:aK prog ap [] 98 (.block 2 (.loop (af 2 (ag f9)))) ⟨[(0,.dead),(1,.dead),(2,.dead),(6,.dead),(7,.bool true),(8,.ptr 0 0 0),(9,.sl (cL a) a.length false),(10,.sl (cL R1) R1.length false),(11,.sl (cL R2) R2.length false),(12,.sl (cL R3) R3.length false),(13,.int .i64 (s:Int)),(14,.int .i64 0),(15,.dead),(16,.dead),(18,.dead),(38,.bool (decide ((s:Int)<((2:Nat):Int)))),(45,.dead),(53,.dead),(54,.dead),(55,.dead),(56,.dead),(89,.dead)],[(0,⟨[.sl L.fx L.fn true,.sl L.sx L.sn true,.sl (dm L.ps) L.ps.length b],0,false,0,0,true⟩)],.dead,[]⟩ (.normal) ⟨[(7,.bool true),(8,.ptr 0 0 0),(9,.sl (cL a) a.length false),(10,.sl (cL R1) R1.length false),(11,.sl (cL R2) R2.length false),(12,.sl (cL R3) R3.length false),(13,.int .i64 (s:Int))],[(0,⟨[.sl L.fx L.fn true,.sl L.sx L.sn true,.sl (dm L.ps) L.ps.length b],0,false,0,0,true⟩)],.dead,[]⟩):ah prog ap [] nt (af 0 (ag f9)) (IX L b a R1 R2 R3 s) .normal (IX L b a R1 R2 R3 (s+1)):=by
 have c:s<2^62:=by omega
 have e:(decide ((s:Int)<((2:Nat):Int)))=true:=kl hs
 unfold IX
 exact pN 9 [2] 1 1 (.c (aN e) .nil) (.v 40 (.eq (wpS c)) (.l d .nil)) f
theorem aah {nt:Nat} (d:98≤nt) (L:Lw) (a:Bool) (b R1 R2 R3:List Cl):ah prog ap [] nt (af 0 (ag f9)) (IX L a b R1 R2 R3 2) (.exit 0) ⟨[(7,.bool true),(8,.ptr 0 0 0),(10,.sl (cL R1) R1.length false)],[(0,⟨[.sl L.fx L.fn true,.sl L.sx L.sn true,.sl (dm L.ps) L.ps.length a],0,false,0,0,true⟩)],.dead,[]⟩:=by
 have c:(decide (((2:Nat):Int)<((2:Nat):Int)))=false:=kn (Nat.le_refl _)
 unfold IX
 exact pN 9 [2] 1 0 (.c (aT c) .nil) .nil d
theorem D7 {nt:Nat} (e:98≤nt) (L:Lw) (c:Bool) (a b:List Cl) (i:qi L) (h:L.ps.length≤8) (f:a.length<2^40) (s:Nat) (hs:s<2):ah prog ap [] nt (af 0 (ag f9)) (IX L c a (ak L 2 a) (ak L 2 b) (ak L 2 (b++a)) s) .normal (IX L c a (ak L 2 a) (ak L 2 b) (ak L 2 (b++a)) (s+1)):=by
 have g:=aQ.blk (id:=2) (e':= .normal) (fun nt (e:98≤nt)=>G7 e L c a b i h f s hs L.ps.length 0 (by omega)) (by simp) rfl (aG.refl _) (aG.refl _)
 unfold rF IX at g
 exact aai e L c a (ak L 2 a) (ak L 2 b) (ak L 2 (b++a)) s hs (fun nt d=>(g nt d).weak (aG.of ⟨rfl,rfl,rfl,rfl,rfl,rfl,rfl,rfl,trivial⟩) (aG.refl _))
theorem Oj {nt:Nat} (e:98≤nt) (L:Lw) (c:Bool) (a b:List Cl) (g:qi L) (f:L.ps.length≤8) (d:a.length<2^40):aQ prog ap [] nt (af 0 (ag f9)) (fun _=> .exit 0) (IX L c a (ak L 2 a) (ak L 2 b) (ak L 2 (b++a))) (fun _:Unit=> ⟨[(7,.bool true),(8,.ptr 0 0 0),(10,.sl (cL (ak L 2 a)) (ak L 2 a).length false)],[(0,⟨[.sl L.fx L.fn true,.sl L.sx L.sn true,.sl (dm L.ps) L.ps.length c],0,false,0,0,true⟩)],.dead,[]⟩) 0 ():=
 .next (a':=1) (D7 e L c a b g f d 0 (by decide)) (.next (a':=2) (D7 e L c a b g f d 1 (by decide)) (.done (aah e L c a (ak L 2 a) (ak L 2 b) (ak L 2 (b++a)))))
theorem Jk (L:Lw) (a b c:Bool) (s:Int) (fr:List Cl) (g:Bool) (o:qi L) (u:L.ps.length<2^34) (p:fr.length<2^40) (w:ax s L.ps.length= []):CO 22 [.agg (L.c a b c),.int .i64 s,.sl (cL fr) fr.length g] (.ret .nilS):=by
 have z:∀ x ∈ bM L s (ax s L.ps.length),x.2.length≤12:=fun x q=>by
  unfold bM at q
  obtain ⟨y,_,rfl⟩:=List.mem_map.1 q
  exact lX o s y
 have n:(bM L s (ax s L.ps.length)).length≤L.ps.length+L.ps.length:=by
  unfold bM
  rw [List.length_map]
  exact eQ s _
 have v:=eQ s L.ps.length
 have j:∀ done:List Nat,done.Nodup→(∀ i,i ∈ done↔i<(bM L s (ax s L.ps.length)).length)→∀ d,fr.foldl (ja (bP (bQ (bM L s (ax s L.ps.length)) done)) (aI s L.ps.length) ((ax s L.ps.length).length+1)) []=d→aK prog ap [] 60 (.block 4 (.loop (af 4 (ag f22)))) (JC L a b c s fr g ((bQ (bM L s (ax s L.ps.length)) done).map fun x=>cA x.1) (tZ (bQ (bM L s (ax s L.ps.length)) done)) 0 [] []) .normal (OT L a b c s ((bQ (bM L s (ax s L.ps.length)) done).map fun x=>cA x.1) (tZ (bQ (bM L s (ax s L.ps.length)) done)) (d.map cA) (t_ d)):=fun done e l d f=>by
  have A:∀ x,(bP (bQ (bM L s (ax s L.ps.length)) done) x).length<2^40:=fun x=>by
   have t:=(lS _ 12 z x done).1
   rw [uM e l] at t
   omega
  have:=aQ.blk (id:=4) (e':= .normal) (fun nt (k:60≤nt)=>xg k L a b c s fr g (bQ (bM L s (ax s L.ps.length)) done) A ((ax s L.ps.length).length+1) p fr [] [] rfl (Nat.lt_succ_of_le (List.length_filter_le _ _))) (by simp) rfl (aG.refl _) (aG.refl _)
  rw [f] at this
  exact this
 have h:=rX L a b c s (by omega)
 rw [w] at h
 refine (Ez L a b c s fr g (Gi L a b c s fr g o u p rfl fun done e l nt k=> ?_))
 obtain ⟨d,f⟩:∃ d,fr.foldl (ja (bP (bQ (bM L s (ax s L.ps.length)) done)) (aI s L.ps.length) ((ax s L.ps.length).length+1)) []=d:=⟨_,rfl⟩
 have r:=j done e l d f
 unfold JC OT at r
 exact Ws k L a b c s fr g _ _ (d.map cA) (t_ d) h (GN _ _) (fun nt m=>(r nt m).weak (aG.of ⟨rfl,rfl,rfl,rfl,rfl,rfl,rfl,rfl,trivial⟩) (aG.refl _))
theorem GI:∀ l:List Cl,(cL l).all AM.bare=true
 | []=>rfl
 |x::l=>by
  have h:=GI l
  unfold cL at h ⊢
  rw [List.flatMap_cons,List.all_append,h]
  rfl
theorem zh (L:Lw) (a b c:Bool) (s:Int) (fr:List Cl) (i:qi L) (g:L.ps.length<2^34) (j:fr.length<2^40) (C:List AV) (n:Nat) (p:C=cL fr) (l:n=fr.length):ae prog ap 22 [.agg (L.c a b c),.int .i64 s,.ref 0 0 0 n] [⟨C,0,false,0,2,true⟩] (.ret (.sl (cL (ak L s fr)) (ak L s fr).length false)) [⟨C,0,false,0,2,true⟩]:=by
 subst p l
 have k:eH (frz (aC [⟨cL fr,0,false,0,2,true⟩]) 6) [.agg (L.c a b c),.int .i64 s,.ref 0 0 0 fr.length]=some [.agg (L.c a b c),.int .i64 s,.sl (cL fr) fr.length true]:=by
  have e:((cL fr).drop (0*2)).take (fr.length*2)=cL fr:=by rw [Nat.zero_mul,List.drop_zero,List.take_of_length_le (by rw [bH];exact Nat.le_refl _)]
  have h:eH (frz (aC [⟨cL fr,0,false,0,2,true⟩]) 6) [.agg (L.c a b c),.int .i64 s,.ref 0 0 0 fr.length]=some [.agg (L.c a b c),.int .i64 s,.sl (((cL fr).drop (0*2)).take (fr.length*2)) fr.length true]:=rfl
  rw [e] at h
  exact h
 cases d:ax s L.ps.length with
 |nil=>
  have m:ak L s fr= []:=by unfold ak;rw [d];rfl
  rw [m]
  have h:=ae.lend k rfl (Jk L a b c s fr true i g j d)
  exact h.out (jE.ret rfl rfl (bC.nilS false rfl))
 |cons o os=>
  have h:=ae.lend k (by show ((cL (ak L s fr)).all AM.bare && !(Nat.beq 2 dw))=true;rw [GI];rfl) (lQ L a b c s fr true i g j o os d)
  have f:=h.thaw (by simp)
  have e:(cL (ak L s fr)).take ((ak L s fr).length*2)=cL (ak L s fr):=by rw [← bH,List.take_length]
  simp only [wF,thaw,e] at f
  exact f.out (jE.ret rfl rfl (bC.sl _ _ _))
theorem aab (l:List (List Int)) (o:Bool) (d b:List Int) (r g:Bool) (L:Lw) (c:Bool) (a e R1 R2 R3 R4:List Cl) (t:a.length≤12) (u:e.length≤12) (w:(Nat.beq a.length 0)=true) (f:CO 13 [] (.ret (.bool true))) (hmade:CO 24 [.sl (iM l) l.length o] (.ret (.agg [.sl L.fx L.fn true,.sl L.sx L.sn true,.sl (dm L.ps) L.ps.length c]))) (q:CO 21 [.sl (bL d) d.length r] (.ret (.sl (cL a) a.length false))) (p:CO 22 [.agg [.sl L.fx L.fn true,.sl L.sx L.sn true,.sl (dm L.ps) L.ps.length c],.int .i64 2,.sl (cL a) a.length false] (.ret (.sl (cL R1) R1.length false))) (s:CO 21 [.sl (bL b) b.length g] (.ret (.sl (cL e) e.length false))) (i:CO 22 [.agg [.sl L.fx L.fn true,.sl L.sx L.sn true,.sl (dm L.ps) L.ps.length c],.int .i64 2,.sl (cL e) e.length false] (.ret (.sl (cL R2) R2.length false))) (n:CO 21 [.sl (bL b) b.length g] (.ret (.nilS))) (j:CO 22 [.agg [.sl L.fx L.fn true,.sl L.sx L.sn true,.sl (dm L.ps) L.ps.length c],.int .i64 2,.nilS] (.ret (.sl (cL R3) R3.length false))) (k:CO 22 [.agg [.sl L.fx L.fn true,.sl L.sx L.sn true,.sl (dm L.ps) L.ps.length c],.int .i64 2,.sl (cL R1) R1.length false] (.ret (.sl (cL R4) R4.length false))) (m:CO 15 [.sl (cL R4) R4.length false,.sl (cL R1) R1.length false] (.ret (.bool true))) (v:aK prog ap [] 98 (.block 0 (.loop (af 0 (ag f9)))) ⟨[(0,.sl (iM l) l.length o),(1,.sl (bL d) d.length r),(2,.sl (bL b) b.length g),(6,.bool false),(7,.bool true),(8,.ptr 0 0 0),(9,.sl (cL a) a.length false),(10,.sl (cL R1) R1.length false),(11,.sl (cL R2) R2.length false),(12,.sl (cL R3) R3.length false),(13,.int .i64 0),(14,.dead),(15,.dead),(16,.dead),(18,.dead),(38,.dead),(45,.dead),(53,.dead),(54,.dead),(55,.dead),(56,.dead),(89,.dead)],[(0,⟨[.sl L.fx L.fn true,.sl L.sx L.sn true,.sl (dm L.ps) L.ps.length c],0,false,0,0,true⟩)],.dead,[]⟩ (.normal) ⟨[(7,.bool true),(8,.ptr 0 0 0),(10,.sl (cL R1) R1.length false)],[(0,⟨[.sl L.fx L.fn true,.sl L.sx L.sn true,.sl (dm L.ps) L.ps.length c],0,false,0,0,true⟩)],.dead,[]⟩):CO 9 [.sl (iM l) l.length o,.sl (bL d) d.length r,.sl (bL b) b.length g] (.ret (.bool true)):=by
 have h:(Nat.beq (List.length (cL a)) (a.length*2))=true:=(by rw [bH];exact Nat.beq_refl _)
 exact pK [0] 2 3 (.k 4 h (.c (aN w) (.n 10 .nil))) (.c m (.c k (.l v (.c j (.c n (.c i (.c s (.c p (.c q (.c hmade (.c f .nil)))))))))))
theorem aac (l:List (List Int)) (o:Bool) (d b:List Int) (s g:Bool) (L:Lw) (c:Bool) (a e R1 R2 R3 R4:List Cl) (u:a.length≤12) (v:e.length≤12) (x:(Nat.beq a.length 0)=false) (f:CO 13 [] (.ret (.bool true))) (hmade:CO 24 [.sl (iM l) l.length o] (.ret (.agg [.sl L.fx L.fn true,.sl L.sx L.sn true,.sl (dm L.ps) L.ps.length c]))) (r:CO 21 [.sl (bL d) d.length s] (.ret (.sl (cL a) a.length false))) (p:CO 22 [.agg [.sl L.fx L.fn true,.sl L.sx L.sn true,.sl (dm L.ps) L.ps.length c],.int .i64 2,.sl (cL a) a.length false] (.ret (.sl (cL R1) R1.length false))) (t:CO 21 [.sl (bL b) b.length g] (.ret (.sl (cL e) e.length false))) (i:CO 22 [.agg [.sl L.fx L.fn true,.sl L.sx L.sn true,.sl (dm L.ps) L.ps.length c],.int .i64 2,.sl (cL e) e.length false] (.ret (.sl (cL R2) R2.length false))) (n:CO 21 [.sl (bL b) b.length g] (.ret (.nilS))) (j:ae prog ap 22 [.agg [.sl L.fx L.fn true,.sl L.sx L.sn true,.sl (dm L.ps) L.ps.length c],.int .i64 2,.ref 0 0 0 a.length] [⟨(cL a),0,false,0,2,true⟩] (.ret (.sl (cL R3) R3.length false)) [⟨(cL a),0,false,0,2,true⟩]) (k:CO 22 [.agg [.sl L.fx L.fn true,.sl L.sx L.sn true,.sl (dm L.ps) L.ps.length c],.int .i64 2,.sl (cL R1) R1.length false] (.ret (.sl (cL R4) R4.length false))) (m:CO 15 [.sl (cL R4) R4.length false,.sl (cL R1) R1.length false] (.ret (.bool true))) (w:aK prog ap [] 98 (.block 0 (.loop (af 0 (ag f9)))) ⟨[(0,.sl (iM l) l.length o),(1,.sl (bL d) d.length s),(2,.sl (bL b) b.length g),(6,.bool false),(7,.bool true),(8,.ptr 0 0 0),(9,.sl (cL a) a.length false),(10,.sl (cL R1) R1.length false),(11,.sl (cL R2) R2.length false),(12,.sl (cL R3) R3.length false),(13,.int .i64 0),(14,.dead),(15,.dead),(16,.dead),(18,.dead),(38,.dead),(45,.dead),(53,.dead),(54,.dead),(55,.dead),(56,.dead),(89,.dead)],[(0,⟨[.sl L.fx L.fn true,.sl L.sx L.sn true,.sl (dm L.ps) L.ps.length c],0,false,0,0,true⟩)],.dead,[]⟩ (.normal) ⟨[(7,.bool true),(8,.ptr 0 0 0),(10,.sl (cL R1) R1.length false)],[(0,⟨[.sl L.fx L.fn true,.sl L.sx L.sn true,.sl (dm L.ps) L.ps.length c],0,false,0,0,true⟩)],.dead,[]⟩):CO 9 [.sl (iM l) l.length o,.sl (bL d) d.length s,.sl (bL b) b.length g] (.ret (.bool true)):=by
 have h:(Nat.beq (List.length (cL a)) (a.length*2))=true:=(by rw [bH];exact Nat.beq_refl _)
 have q:(Nat.ble a.length 1099511627776)=true:=(Nat.ble_eq_true_of_le (by omega))
 exact pK [0] 2 2 (.k 4 h (.c q (.c (aT x) (.n 10 .nil)))) (.c m (.c k (.l w (.c j (.c n (.c i (.c t (.c p (.c r (.c hmade (.c f .nil)))))))))))
theorem aad (l:List (List Int)) (o:Bool) (e c:List Int) (t g:Bool) (L:Lw) (d:Bool) (b a R1 R2 R3 R4:List Cl) (v:b.length≤12) (w:a.length≤12) (f:CO 13 [] (.ret (.bool true))) (hmade:CO 24 [.sl (iM l) l.length o] (.ret (.agg [.sl L.fx L.fn true,.sl L.sx L.sn true,.sl (dm L.ps) L.ps.length d]))) (s:CO 21 [.sl (bL e) e.length t] (.ret (.sl (cL b) b.length false))) (q:CO 22 [.agg [.sl L.fx L.fn true,.sl L.sx L.sn true,.sl (dm L.ps) L.ps.length d],.int .i64 2,.sl (cL b) b.length false] (.ret (.sl (cL R1) R1.length false))) (u:CO 21 [.sl (bL c) c.length g] (.ret (.sl (cL a) a.length false))) (i:CO 22 [.agg [.sl L.fx L.fn true,.sl L.sx L.sn true,.sl (dm L.ps) L.ps.length d],.int .i64 2,.sl (cL a) a.length false] (.ret (.sl (cL R2) R2.length false))) (n:CO 21 [.sl (bL c) c.length g] (.ret (.own (cL a) a.length 2))) (j:ae prog ap 22 [.agg [.sl L.fx L.fn true,.sl L.sx L.sn true,.sl (dm L.ps) L.ps.length d],.int .i64 2,.ref 0 0 0 (a.length+b.length)] [⟨((List.take (a.length*2) (cL a))++(cL b)),0,false,0,2,true⟩] (.ret (.sl (cL R3) R3.length false)) [⟨((List.take (a.length*2) (cL a))++(cL b)),0,false,0,2,true⟩]) (k:CO 22 [.agg [.sl L.fx L.fn true,.sl L.sx L.sn true,.sl (dm L.ps) L.ps.length d],.int .i64 2,.sl (cL R1) R1.length false] (.ret (.sl (cL R4) R4.length false))) (m:CO 15 [.sl (cL R4) R4.length false,.sl (cL R1) R1.length false] (.ret (.bool true))) (x:aK prog ap [] 98 (.block 0 (.loop (af 0 (ag f9)))) ⟨[(0,.sl (iM l) l.length o),(1,.sl (bL e) e.length t),(2,.sl (bL c) c.length g),(6,.bool false),(7,.bool true),(8,.ptr 0 0 0),(9,.sl (cL b) b.length false),(10,.sl (cL R1) R1.length false),(11,.sl (cL R2) R2.length false),(12,.sl (cL R3) R3.length false),(13,.int .i64 0),(14,.dead),(15,.dead),(16,.dead),(18,.dead),(38,.dead),(45,.dead),(53,.dead),(54,.dead),(55,.dead),(56,.dead),(89,.dead)],[(0,⟨[.sl L.fx L.fn true,.sl L.sx L.sn true,.sl (dm L.ps) L.ps.length d],0,false,0,0,true⟩)],.dead,[]⟩ (.normal) ⟨[(7,.bool true),(8,.ptr 0 0 0),(10,.sl (cL R1) R1.length false)],[(0,⟨[.sl L.fx L.fn true,.sl L.sx L.sn true,.sl (dm L.ps) L.ps.length d],0,false,0,0,true⟩)],.dead,[]⟩):CO 9 [.sl (iM l) l.length o,.sl (bL e) e.length t,.sl (bL c) c.length g] (.ret (.bool true)):=by
 have h:(Nat.beq (List.length (cL b)) (b.length*2))=true:=(by rw [bH];exact Nat.beq_refl _)
 have r:(Nat.ble (a.length+b.length) 1099511627776)=true:=(Nat.ble_eq_true_of_le (by omega))
 have p:(Nat.ble (a.length*2) (List.length (cL a)))=true:=(Nat.ble_eq_true_of_le (by rw [bH];exact Nat.le_refl _))
 exact pK [0] 1 1 (.k 4 h (.c r (.c p (.n 11 .nil)))) (.c m (.c k (.l x (.c j (.c n (.c i (.c u (.c q (.c s (.c hmade (.c f .nil)))))))))))
theorem Az (f:CO 13 [] (.ret (.bool true))) (l:List (List Int)) (u:Bool) (t s:List Int) (v w:Bool):CO 9 [.sl (iM l) l.length u,.sl (bL t) t.length v,.sl (bL s) s.length w] (.ret (.bool true)):=by
 obtain ⟨L,c,E,C,hmade⟩:=Ox l u
 have B:L.ps.length≤8:=by omega
 have o:=Oy B C
 obtain ⟨a,p,A⟩:=Io t v
 obtain ⟨i,n,m⟩:=Io s w
 have b:=Ib A
 have d:=Ib m
 have q:=tu L true true c 2 a false o (by omega) (by omega)
 have r:=tu L true true c 2 i false o (by omega) (by omega)
 have D:=Df L 2 a
 have j:=tu L true true c 2 (ak L 2 a) false o (by omega) (by omega)
 rw [LW] at j
 have k:=J3 (ak L 2 a) (ak L 2 a) false false (by omega)
 rw [decide_eq_true (show ak L 2 a=ak L 2 a from rfl)] at k
 have y:=aQ.blk (id:=0) (e':= .normal) (fun nt (hn:98≤nt)=>Oj hn L c a i o B (by omega)) (by simp) rfl (aG.refl _) (aG.refl _)
 unfold IX at y
 cases i with
 | nil=>
  by_cases hc:a.length=0
  ·have z:a= []:=List.eq_nil_of_length_eq_zero hc
   have g:CO 22 [.agg (L.c true true c),.int .i64 2,.nilS] (.ret (.sl (cL (ak L 2 ([]++a))) (ak L 2 ([]++a)).length false)):=by
    have h:=tu L true true c 2 ([]++a) false o (by omega) (by simp;omega)
    subst z
    exact ae.args (.cons (bC.eq rfl) (.cons (bC.eq rfl) (.cons (bC.nilS false rfl) .nil))) h
   exact aab l u t s v w L c a [] _ _ _ _ p n (by rw [hc];rfl) f hmade b q d r m g j k (fun nt e=>(y nt e).weak (aG.of ⟨rfl,rfl,rfl,rfl,rfl,rfl,rfl,trivial⟩) (aG.refl _))
  ·have g:=zh L true true c 2 ([]++a) o (by omega) (by simp;omega) (cL a) a.length rfl rfl
   exact aac l u t s v w L c a [] _ _ _ _ p n (Bool.eq_false_iff.2 fun h=>hc (Nat.eq_of_beq_eq_true h)) f hmade b q d r m g j k (fun nt e=>(y nt e).weak (aG.of ⟨rfl,rfl,rfl,rfl,rfl,rfl,rfl,trivial⟩) (aG.refl _))
 |cons x i=>
  have g:=zh L true true c 2 ((x::i)++a) o (by omega) (by simp at n ⊢;omega) (List.take ((x::i).length*2) (cL (x::i))++cL a) ((x::i).length+a.length) (by rw [List.take_of_length_le (by rw [bH];exact Nat.le_refl _)];simp [cL]) (by simp;omega)
  exact aad l u t s v w L c a (x::i) _ _ _ _ p n f hmade b q d r m g j k (fun nt e=>(y nt e).weak (aG.of ⟨rfl,rfl,rfl,rfl,rfl,rfl,rfl,trivial⟩) (aG.refl _))
end Go.Proofs.Tryz
set_option maxRecDepth 100000
open Go AM Go.ChangeShapes Go.WideShapes Go.ChangeAt Go.RowKit
namespace Go.Proofs.Tryz
noncomputable def yL (t:TypeId) (d:DataW Unit):List Lit:=((je prog 6 t d 0).getD []).map (·.2)
open Go.Proofs.YtokiomlellclkaaGreatDoor
def KW:List (String × DataW Unit):= [("unicode/utf8.acceptRanges",Rows.laid_unicode_utf8_acceptRanges),("tithing/expr.table",Rows.laid_tithing_expr_table),("tithing/check.truth",Rows.laid_tithing_check_truth),("tithing/check.cash",Rows.laid_tithing_check_cash),("tithing/check.days",Rows.laid_tithing_check_days),("tithing/check.plain",Rows.laid_tithing_check_plain),("tithing/statute.cash",Rows.laid_tithing_statute_cash),("unicode/utf8.first",Rows.laid_unicode_utf8_first)]
theorem Jg:KW.filter (fun x=>x.2.handleName?.isSome)= []:=by kernel_rfl
theorem UU {W:World} (h:laidMetH prog KW W):JG ap W:=by
 have c (i:Nat) (n:String) (d:DataW Unit) (hm:KW[i]? =some (n,d)) (g:Nat) (t:TypeId) (hg:prog.globalNamed n=some g) (ht:(prog.globals[g]?).map (·.type)=some t)
   (hl:je prog 6 t d 0=some ((yL t d).zipIdx.map fun (l,i)=>(i,l))):=FW h Jg (List.mem_of_getElem? hm) hg ht hl
 have r:=c 0 _ _ rfl 7 355 (by kernel_rfl) (by kernel_rfl) (by kernel_rfl)
 have p:=c 1 _ _ rfl 0 232 (by kernel_rfl) (by kernel_rfl) (by kernel_rfl)
 have q:=c 2 _ _ rfl 5 53 (by kernel_rfl) (by kernel_rfl) (by kernel_rfl)
 have e:=c 3 _ _ rfl 2 53 (by kernel_rfl) (by kernel_rfl) (by kernel_rfl)
 have o:=c 4 _ _ rfl 3 53 (by kernel_rfl) (by kernel_rfl) (by kernel_rfl)
 have f:=c 5 _ _ rfl 4 53 (by kernel_rfl) (by kernel_rfl) (by kernel_rfl)
 have m:=c 6 _ _ rfl 1 53 (by kernel_rfl) (by kernel_rfl) (by kernel_rfl)
 have key (k:Nat) (t:TypeId) (d:DataW Unit) (hx:(ap.gl[k]?).join=some ((yL t d).map Ei)) (ho:(yL t d).all yK=true) (hc:∀ (j:Nat) (l:Lit),(yL t d)[j]? =some l→W.cell? ⟨k,j,none⟩=some (kZ l)):
   ∀ b,(ap.gl[k]?).join=some b→∃ ls:List Lit,b=ls.map Ei∧ls.all yK=true∧∀ (j:Nat) (l:Lit),ls[j]? =some l→W.cell? ⟨k,j,none⟩=some (kZ l):=by
  intro b a
  rw [hx] at a
  cases a
  exact ⟨_,rfl,ho,hc⟩
 intro k
 match k with
 |0=>exact key 0 _ _ (by kernel_rfl) (by kernel_rfl) p
 |1=>exact key 1 _ _ (by kernel_rfl) (by kernel_rfl) m
 |2=>exact key 2 _ _ (by kernel_rfl) (by kernel_rfl) e
 |3=>exact key 3 _ _ (by kernel_rfl) (by kernel_rfl) o
 |4=>exact key 4 _ _ (by kernel_rfl) (by kernel_rfl) f
 |5=>exact key 5 _ _ (by kernel_rfl) (by kernel_rfl) q
 |6=>intro b a;exact absurd (show (none:Option (List AV))=some b from a) (by simp)
 |7=>exact key 7 _ _ (by kernel_rfl) (by kernel_rfl) r
 |8=>intro b a;exact absurd (show (none:Option (List AV))=some b from a) (by simp)
 |k+9=>
  intro b a
  have:ap.gl.length=9:=by kernel_rfl
  rw [List.getElem?_eq_none (by omega)] at a
  cases a
theorem own:ownKnob prog.godebug=none:=by kernel_rfl
theorem ZM:laidOutB prog=true:=by kernel_rfl
noncomputable def EU (t:TypeId) (d:DataW Unit):Obj→Obj
 | .cells _ t' fr=> .cells ((yL t d).map kZ).toArray t' fr
 |o=>o
noncomputable def Ui (os:Os):World:=
 let w:=World.holding prog os ⟨#[],#[],[]⟩
 {w with heap:=((((((((w.heap.modify 0 (EU 232 Rows.laid_tithing_expr_table)).modify 1 (EU 53 Rows.laid_tithing_statute_cash)).modify 2 (EU 53 Rows.laid_tithing_check_cash)).modify 3 (EU 53 Rows.laid_tithing_check_days)).modify 4 (EU 53 Rows.laid_tithing_check_plain)).modify 5 (EU 53 Rows.laid_tithing_check_truth)).modify 6 (EU 352 Rows.laid_unicode_utf8_first)).modify 7 (EU 355 Rows.laid_unicode_utf8_acceptRanges))}
end Go.Proofs.Tryz
set_option maxRecDepth 100000
set_option linter.unusedVariables false
open Go AM Go.ChangeShapes Go.WideShapes Go.ChangeAt Go.RowKit
namespace Go.Proofs.Tryz
open Go.Proofs.YtokiomlellclkaaGreatDoor
section
variable {H:Type}
theorem Uu (d:DataW H):1≤Rows.uptoBulk d:=by
 cases d with
 |lit x=>cases x<;>simp [Rows.uptoBulk]
 |_=>simp [Rows.uptoBulk]
theorem xI:∀ {l:List (DataW H)} {d:DataW H},d ∈ l→Rows.uptoBulk d≤Rows.uptoBulkAll l
 |x::r,d,h=>by
  simp only [Rows.uptoBulkAll]
  rcases List.mem_cons.1 h with rfl|h
  ·omega
  ·have:=xI h;omega
theorem DF:∀ l:List (DataW H),l.length≤Rows.uptoBulkAll l
 | []=>Nat.zero_le _
 |x::r=>by
  simp only [Rows.uptoBulkAll,List.length_cons]
  have:=DF r
  have:=Uu x
  omega
theorem Uw:Ul (Rows.uptoBulk (H:=H)) where
 str s:=by simp only [Rows.uptoBulk];omega
 agg l d h:=by
  simp only [Rows.uptoBulk]
  have:=xI h
  omega
 slc l r:=by
  simp only [Rows.uptoBulk]
  exact ⟨fun d h=>by have:=xI h;omega,by have:=DF l;omega⟩
theorem w_ {α:Type} {b:Nat} {ks:List DK} (f:α→List AV) (Q:α→Prop) (d:∀ x,dW b ks x→∃ a,x=f a∧Q a):∀ L:List (List AV),(∀ x ∈ L,dW b ks x)→∃ l:List α,L.flatten=l.flatMap f∧L.length=l.length∧∀ a ∈ l,Q a
 | [],_=> ⟨[],rfl,rfl,fun a h=>by cases h⟩
 |x::L,h=>by
  obtain ⟨a,e,q⟩:=d x (h x (by simp))
  obtain ⟨l,j,g,i⟩:=w_ f Q d L fun y c=>h y (by simp [c])
  refine ⟨a::l,by rw [List.flatten_cons,List.flatMap_cons,e,j],by simp [g],fun y c=> ?_⟩
  rcases List.mem_cons.1 c with rfl|c
  ·exact q
  ·exact i y c
abbrev kI:List DK:= [.slc [.int .i64]]
theorem abe {b:Nat} {a:List AV} (h:dW b [.int .i64] a):∃ y:Int,a= [AV.int .i64 y]∧True:=by
 cases h with|int h=>cases h with|nil=>exact ⟨_,rfl,trivial⟩
theorem Oq (l:List Int):(l.flatMap fun a=> [AV.int .i64 a])=iL l:=by
 induction l with
 |nil=>rfl
 |cons a r ih=>rw [List.flatMap_cons,ih];rfl
theorem VV {b:Nat} {L:List (List AV)} (h:∀ x ∈ L,dW b [.int .i64] x):∃ l:List Int,AV.sl L.flatten L.length false= .sl (iL l) l.length false:=by
 obtain ⟨l,c,a,_⟩:=w_ (fun y:Int=> [AV.int .i64 y]) (fun _=>True) (fun x d=>abe d) L h
 exact ⟨l,by rw [c,a,Oq]⟩
theorem V6 {b:Nat} {a:List AV} (h:dW b kI a):∃ l:List Int,a= [.sl (iL l) l.length false]∧True:=by
 cases h with|slc hx hl h=>cases h with|nil=>
  obtain ⟨l,e⟩:=VV hx
  exact ⟨l,by rw [e],trivial⟩
variable {enc:TypeId × Value→H} {W:World} {base:Nat}
theorem H9 {t e:TypeId} {n:Nat} {ks:List DK} (f:prog.underlying t=some (.slice e)) (i:AA prog n t=some [.slc ks]) {v:Value} {d:DataW H} {p:List MemPlace} (g:Value.okWide prog W .any base t v) (h:DataW.Trod enc prog W 0 (fun _=>true) true t v d p):
  ∃ L:List (List AV),(∀ x ∈ L,dW (Rows.uptoBulk d) ks x)∧PR (fQ W) (.sl L.flatten L.length false) v:=by
 obtain ⟨a,h⟩:=h
 obtain ⟨j,c,b,_⟩:=IP Uw (fun _=>rfl) n t _ i a _ _ h
 rw [EX f g] at b
 cases c with|slc hx hl c=>cases c with|nil=>
  simp only [aZ,and_true] at b
  exact ⟨_,hx,b⟩
theorem KY (l:List (List Int)):(l.flatMap fun b=> [AV.sl (iL b) b.length false])=iM l:=by
 induction l with
 |nil=>rfl
 |cons a r ih=>rw [List.flatMap_cons,ih];rfl
theorem ZO {v:Value} {d:DataW H} {p:List MemPlace} (i:Value.okWide prog W .any base 22 v) (h:DataW.Trod enc prog W 0 (fun _=>true) true 22 v d p):
  ∃ l:List (List Int),PR (fQ W) (.sl (iM l) l.length false) v:=by
 obtain ⟨L,b,a⟩:=H9 (n:=5) (ks:=kI) (e:=38) (by kernel_rfl) (by kernel_rfl) i h
 obtain ⟨l,f,c,_⟩:=w_ (fun xs:List Int=> [AV.sl (iL xs) xs.length false]) (fun _=>True) (fun x g=>V6 g) _ b
 rw [f,c,KY] at a
 exact ⟨l,a⟩
theorem ZY {b:Nat} {a:List AV} (h:dW b [.int .u8] a):∃ y:Int,a= [AV.int .u8 y]∧True:=by
 cases h with|int h=>cases h with|nil=>exact ⟨_,rfl,trivial⟩
theorem NT (l:List Int):(l.flatMap fun a=> [AV.int .u8 a])=bL l:=by
 induction l with
 |nil=>rfl
 |cons a r ih=>rw [List.flatMap_cons,ih];rfl
theorem abn {v:Value} {d:DataW H} {p:List MemPlace} (i:Value.okWide prog W .any base 43 v) (h:DataW.Trod enc prog W 0 (fun _=>true) true 43 v d p):
  ∃ l:List Int,PR (fQ W) (.sl (bL l) l.length false) v:=by
 obtain ⟨L,b,a⟩:=H9 (n:=5) (ks:= [.int .u8]) (e:=5) (by kernel_rfl) (by kernel_rfl) i h
 obtain ⟨l,f,c,_⟩:=w_ (fun y:Int=> [AV.int .u8 y]) (fun _=>True) (fun x g=>ZY g) _ b
 rw [f,c,NT] at a
 exact ⟨l,a⟩
end
end Go.Proofs.Tryz
set_option maxRecDepth 100000
set_option linter.unusedVariables false
open Go AM
namespace Go.Proofs.Tryz
abbrev LD:AV:= .agg [.sl [.str [98],.bool false,.int .i64 0,.int .i64 0] 1 true,.nilS,.sl [.str [97],.bool false,.int .i64 0,.int .i64 0,.sl zcc2_8 1 true,.bool false,.bool false,.str [1],.str [1],.bool false,.str [9],.str [1]] 1 true]
theorem V9 {nt:Nat} (a:65≤nt):ah prog ap [] nt (cZ [0] (ag f150)) (dO .dead [LD] []) .normal ⟨[(1,.ptr 0 0 0)],[(0,⟨[.sl [.str [98],.bool false,.int .i64 0,.int .i64 0] 1 true,.nilS,.sl [.str [97],.bool false,.int .i64 0,.int .i64 0,.sl zcc2_8 1 true,.bool false,.bool false,.str [1],.str [1],.bool false,.str [9],.str [1]] 1 true],0,false,0,0,true⟩)],.dead,[]⟩:=by
 exact pN 150 [] 0 0 .nil (.nil) a
theorem nc0:CO 194 [LD] (.ret (.agg [.sl [.str [98]] 1 true,.nilS,.sl [.str [97]] 1 true])):=cD [] .nil
theorem V_ {nt:Nat} (a:65≤nt):ah prog ap [] nt (cZ [1,0] (ag f150)) ⟨[(1,.ptr 0 0 0)],[(0,⟨[.sl [.str [98],.bool false,.int .i64 0,.int .i64 0] 1 true,.nilS,.sl [.str [97],.bool false,.int .i64 0,.int .i64 0,.sl zcc2_8 1 true,.bool false,.bool false,.str [1],.str [1],.bool false,.str [9],.str [1]] 1 true],0,false,0,0,true⟩)],.dead,[]⟩ .normal ⟨[(3,.ptr 0 0 0),(4,.mr 1 0)],[(0,⟨[.sl [.str [98]] 1 true,.nilS,.sl [.str [97]] 1 true],0,false,0,0,true⟩),(1,⟨[.agg [],.agg []],0,false,0,4611686018427387904,true⟩)],.dead,[]⟩:=by
 exact pN 150 [] 0 0 (.n 4 .nil) (.c nc0 .nil) a
theorem nc1:CO 195 [.str [98]] (.ret (.bool true)):=cD [] .nil
theorem nc2:CO 195 [.str [97]] (.ret (.bool true)):=cD [] .nil
theorem We {nt:Nat} (a:65≤nt):ah prog ap [] nt (cZ [1,1,0] (ag f150)) ⟨[(3,.ptr 0 0 0),(4,.mr 1 0)],[(0,⟨[.sl [.str [98]] 1 true,.nilS,.sl [.str [97]] 1 true],0,false,0,0,true⟩),(1,⟨[.agg [],.agg []],0,false,0,4611686018427387904,true⟩)],.dead,[]⟩ .normal ⟨[(3,.ptr 0 0 0),(4,.mr 1 0)],[(0,⟨[.sl [.str [98]] 1 true,.nilS,.sl [.str [97]] 1 true],0,false,0,0,true⟩),(1,⟨[.agg [.str [98],.str [97]],.agg [.int .i64 1,.int .i64 1]],0,false,0,4611686018427387904,true⟩)],.dead,[]⟩:=by
 exact pN 150 [] 11 211 (.n 37 .nil) (.c nc2 (.c nc1 .nil)) a
theorem Wh {nt:Nat} (a:65≤nt):ah prog ap [] nt (cZ [1,1,1,0] (ag f150)) ⟨[(3,.ptr 0 0 0),(4,.mr 1 0)],[(0,⟨[.sl [.str [98]] 1 true,.nilS,.sl [.str [97]] 1 true],0,false,0,0,true⟩),(1,⟨[.agg [.str [98],.str [97]],.agg [.int .i64 1,.int .i64 1]],0,false,0,4611686018427387904,true⟩)],.dead,[]⟩ .normal ⟨[(4,.mr 0 0)],[(0,⟨[.agg [.str [98],.str [97]],.agg [.int .i64 1,.int .i64 1]],0,false,0,4611686018427387904,true⟩)],.dead,[]⟩:=by
 exact pN 150 [] 7 21 (.n 19 .nil) (.nil) a
theorem Tv:cZ [1,1,1,1,0] (ag f150)= .seq (.region 22 #[mk (some 57) (.move (.tmp 4)) ((sZ (cZ [1,1,1,1,0,0] (ag f150))).getD 0 default),mk (some 58) (.range 271 (.tmp 57)) ((sZ (cZ [1,1,1,1,0,0] (ag f150))).getD 1 default)] false)
 (.block 8 (.loop (.seq (.region 23 #[mk (some 59) (.next (.tmp 58) false) ((sZ (cZ [1,1,1,1,0,1,0,0,0] (ag f150))).getD 0 default),mk (some 60) (.extract (.tmp 59) 0) ((sZ (cZ [1,1,1,1,0,1,0,0,0] (ag f150))).getD 1 default)] false) (.seq (.cond (.tmp 60) .skip (.exit 8)) (cZ [1,1,1,1,0,1,0,0,1,1] (ag f150)))))):=by kernel_rfl
theorem OI:cZ [1,1,1,1,0,1,0,0,1,1] (ag f150)= .block 9 (.seq (.region 24 [mk (some 61) (.entry (.tmp 58)) ((sZ (cZ [1,1,1,1,0,1,0,0,1,1,0,0] (ag f150))).getD 0 default),mk (some 62) (.extract (.tmp 61) 1) ((sZ (cZ [1,1,1,1,0,1,0,0,1,1,0,0] (ag f150))).getD 1 default),mk (some 13) (.assign (.tmp 62)) ((sZ (cZ [1,1,1,1,0,1,0,0,1,1,0,0] (ag f150))).getD 2 default)].toArray false) (cZ [1,1,1,1,0,1,0,0,1,1,0,1] (ag f150))):=by kernel_rfl
theorem Zy:prog.underlying 271=some (.map 9 3):=by kernel_rfl
theorem OH {nt:Nat} (e:65≤nt) (d:Value) (k:AV):Fb prog ap nt [mk (some 61) (.entry (.tmp 58)) ((sZ (cZ [1,1,1,1,0,1,0,0,1,1,0,0] (ag f150))).getD 0 default),mk (some 62) (.extract (.tmp 61) 1) ((sZ (cZ [1,1,1,1,0,1,0,0,1,1,0,0] (ag f150))).getD 1 default),mk (some 13) (.assign (.tmp 62)) ((sZ (cZ [1,1,1,1,0,1,0,0,1,1,0,0] (ag f150))).getD 2 default)] 1 ⟨(61,.tup [k,.int .i64 1])::(eG 58 59 60 d []),[],.dead,[]⟩ ⟨(13,.int .i64 1)::(62,.int .i64 1)::(61,.tup [k,.int .i64 1])::(eG 58 59 60 d []),[],.dead,[]⟩:=by
 have a:[mk (some 61) (.entry (.tmp 58)) ((sZ (cZ [1,1,1,1,0,1,0,0,1,1,0,0] (ag f150))).getD 0 default),mk (some 62) (.extract (.tmp 61) 1) ((sZ (cZ [1,1,1,1,0,1,0,0,1,1,0,0] (ag f150))).getD 1 default),mk (some 13) (.assign (.tmp 62)) ((sZ (cZ [1,1,1,1,0,1,0,0,1,1,0,0] (ag f150))).getD 2 default)].all (qx nt)=true:=by
  simp only [List.all_cons,List.all_nil,qx,mk,Bool.and_true,Bool.and_eq_true,Nat.blt_eq]
  omega
 exact (IV (H:=uY prog ap 3000 4) jY.apok (gI jY.apok jY.mixed jY.fnok 3000 4).1 a (c:=⟨false,[],[],[],[],[]⟩) (c':=⟨false,[],[],[],[],[]⟩) (r:=⟨_,_,_,_,_,_⟩) rfl ⟨fun b h=>(by cases h),fun p h=>(by cases h)⟩).2
theorem OJ {nt:Nat} (b:65≤nt) (a:Value) (k:AV):ah prog ap [] nt (cZ [1,1,1,1,0,1,0,0,1,1,0,1] (ag f150)) ⟨(13,.int .i64 1)::(62,.int .i64 1)::(61,.tup [k,.int .i64 1])::(eG 58 59 60 a []),[],.dead,[]⟩ .normal ⟨(eG 58 59 60 a []),[],.dead,[]⟩:=by
 exact pN 150 [] 1 0 (.n 1 .nil) (.nil) b
theorem Tu {nt:Nat} (b:65≤nt) (a:Value):ah prog ap [] nt (cZ [1,1,1,1,1] (ag f150)) ⟨(eG 58 59 60 a []),[],.dead,[]⟩ .ret ⟨[(2,.int .i64 0)],[],.dead,[]⟩:=by
 exact pN 150 [] 0 0 .nil (.nil) b
theorem Tt {nt:Nat} (f:65≤nt):fM prog ap [] nt (cZ [1,1,1,1,0] (ag f150)) ⟨[(4,.mr 0 0)],[(0,⟨[.agg [.str [98],.str [97]],.agg [.int .i64 1,.int .i64 1]],0,false,0,4611686018427387904,true⟩)],.dead,[]⟩ fun e s'=>e= .normal∧∃ a,s'=⟨(eG 58 59 60 a []),[],.dead,[]⟩:=by
 rw [Tv]
 refine Jj (σ:=Unit) (b:=0) (ver:=0) (tm:=4) (n:=2) (ks:= [.str [98],.str [97]]) (vs:= [.int .i64 1,.int .i64 1]) (Inv:=fun _ _=>True) (st:=fun _=> ⟨[],[],.dead,[]⟩) (s0:=()) (PostX:=fun _ _=>False)
  rfl rfl rfl rfl rfl rfl rfl rfl rfl rfl rfl rfl (by omega) (by omega) (by omega) (by omega) (by decide) (by decide) Zy rfl rfl rfl rfl rfl rfl rfl rfl rfl trivial
  (fun x C h=>by simp [AM.ai] at h) (fun x C h=>by simp [AM.ai] at h) (fun t=> .inl rfl) (fun x B0 C h=>by simp [aC] at h) ?_ (fun a done s _ _=> ⟨rfl,a,rfl⟩) (fun e s' _ h=>h.elim) (fun e s' h=>by obtain ⟨_,a,rfl⟩:=h;rfl)
 intro a done s i k v _ g _ j c
 have d:v= .int .i64 1:=by
  match i,g,c with
  |0,_,c=>simp at c;exact c.symm
  |1,_,c=>simp at c;exact c.symm
 subst d
 rw [OI]
 refine l_.block (A:=fun e s'=>e= .normal∧s'=⟨(eG 58 59 60 a []),[],.dead,[]⟩) ?_ (fun s' h=>by cases h.1) (fun e s' h _=> .inl ⟨h.1,(),trivial,h.2⟩)
 exact l_.of (hs:= []) rfl rfl rfl (by omega) (by funext b;rfl) rfl (OH f a k) ((OJ f a k).any ⟨rfl,rfl⟩ (fun e s' h=>h.2 ▸ rfl))
theorem LC:CO 150 [LD] (.ret (.int .i64 0)):=by
 refine jB jY 0 (F:=⟨f150,[0,1,2,3,4,6,8,10,11,13,17,18,19,21,22,23,24,29,36,37,38,43,55,58,60,64],false⟩) rfl rfl (fun nt a=> ?_) rfl (Nat.zero_le _) (s:=⟨[(2,.int .i64 0)],[],.dead,[]⟩) rfl
 have d:ag f150= .seq (cZ [0] (ag f150)) (.seq (cZ [1,0] (ag f150)) (.seq (cZ [1,1,0] (ag f150)) (.seq (cZ [1,1,1,0] (ag f150)) (.seq (cZ [1,1,1,1,0] (ag f150)) (cZ [1,1,1,1,1] (ag f150)))))):=by kernel_rfl
 show ah _ _ _ _ (ag f150) _ _ _
 rw [d]
 refine (V9 a).seq ((V_ a).seq ((We a).seq ((Wh a).seq ?_)))
 refine (fM.seq (Post:=fun c b=>c= .ret∧b=⟨[(2,.int .i64 0)],[],.dead,[]⟩) (Tt a) (fun b ⟨_,pt,h⟩=> ?_) (fun e b ⟨h,_⟩ hne=>absurd h hne) (fun c b h=>h.2 ▸ rfl)).one
 subst h
 exact (Tu a pt).any ⟨rfl,rfl⟩ (fun c b h=>h.2 ▸ rfl)
end Go.Proofs.Tryz
open Go AM Go.RowKit Go.Shelf
namespace Go.Proofs.Tryz
attribute [local go_sem] Oper.semAt_some
theorem lH {W W':World} (h:Below W.heap.size W W'):gy (bK W) (bK W'):=by
 intro k o v a
 have b:=DI a
 rw [← a]
 unfold bK
 rw [h.block k b,World.cell?_of_block (h.block k b)]
theorem sJ {W W':World} (h:Below W.heap.size W W') (d:jD ap (bK W)):jD ap (bK W'):=by
 intro k e f
 obtain ⟨vs,c,a⟩:=d k e f
 exact ⟨vs,aP (lH h) _ c,fun j u b=> ⟨lH h _ _ _ (a j u b).1,(a j u b).2⟩⟩
theorem Y_ {W:World} (a:jD ap (bK W)) (m:aF):aV ap (aC []) m (bK W) W:=
 ⟨fun b c B B' h=>by simp [aC] at h,fun b B h=>by simp [aC] at h,fun k o v h=>h,fun b B h=>by simp [aC] at h,a⟩
theorem uA {f:Nat} {args:List AV} {g:IntKind} {x:Int} (i:CO f args (.ret (.int g x))) {W:World} (l:jD ap (bK W)) {cargs:List Value} (m:aZ (bK W) args cargs) {n:Nat}:
  CallsIn Fence.wide n prog f cargs.toArray W fun e W'=>e= .returned (.int g x)∧Below W.heap.size W W':=by
 refine callsIn_wide.2 ?_
 refine (i.calls (fun _=>(0,0)) (bK W) W cargs (Y_ l _) (aX _ m)).mono ?_
 rintro e W' ⟨m',S',hF⟩
 obtain ⟨_,a,c⟩:=hF
 obtain ⟨cv,rfl,d⟩:=c
 simp only [qL,VR,PR] at d
 subst d
 exact ⟨rfl,a.os,a.tape,a.output,a.size,fun k j=>a.rest k j fun b B h=>by simp [aC] at h⟩
theorem yl {W W':World} (h:Below W.heap.size W W') (row:Option Nat):W.grownBy W' row:=
 ⟨h.os,h.tape,h.output,h.size,fun k a _=>h.block k a⟩
def iG (f g:Nat→Int) (k:Nat):List Int:=(List.range k).flatMap fun j=> [f j,g j]
theorem nC (f g:Nat→Int) (k:Nat):iG f g (k+1)=iG f g k++ [f k]++ [g k]:=by simp [iG,List.range_succ]
theorem ny (f g:Nat→Int) (k:Nat):(iG f g k).length=2*k:=by
 induction k with
 |zero=>rfl
 |succ k ih=>rw [nC];simp [ih];omega
theorem Jw (f g:Nat→Int) {k n:Nat} (h:k≤n):iG f g k<+:iG f g n:=by
 induction n with
 |zero=>
  obtain rfl:k=0:=by omega
  exact List.prefix_refl _
 |succ n ih=>
  by_cases hk:k=n+1
  ·subst hk;exact List.prefix_refl _
  ·exact (ih (by omega)).trans (by rw [nC,List.append_assoc];exact List.prefix_append _ _)
set_option maxRecDepth 100000 in
set_option maxHeartbeats 4000000 in
theorem Gs (n:Nat) (hn:2≤n) (l kn ke ks n₀ b off len cap:Nat) (E SC:AV) (ue us:Value) (ns:Nat→List UInt8) (so sp:Nat→Int) (hreach:len*16≤140737488351232)
  (hso:∀ k,k<len→CO 157 [E,SC,.int .i64 6,.str (ns k)] (.ret (.int .i64 (so k)))) (hsp:∀ k,k<len→CO 157 [E,SC,.int .i64 8,.str (ns k)] (.ret (.int .i64 (sp k))))
  (J Jx:List Int→World→Prop) (W:World) (hAJ:AbidesFrom W.heap.size J)
  (hY:∀ pre x W1,J pre W1→pre.length<2*len→YieldAt Fence.wide (n - 1) prog l #[.int .i64 x] W1 fun e W'=>
   (e= .returned (.bool true)∧J (pre++ [x]) W'∧Below n₀ W1 W')∨(e= .returned (.bool false)∧Jx (pre++ [x]) W'))
  (hn0:n₀≤W.heap.size) (hbn:b<n₀) (hkn:kn<n₀) (hke:ke<n₀) (hks:ks<n₀)
  (w0:World) (hw0:w0.heap.size=n₀) (hW:Below n₀ w0 W) (hg:jD ap (bK w0)) (hpr:aZ (bK w0) [E,SC] [ue,us])
  (cn:w0.cell? ⟨kn,0,none⟩=some (.slice (some ⟨b,off,none⟩) len cap)) (ce:w0.cell? ⟨ke,0,none⟩=some ue) (cs:w0.cell? ⟨ks,0,none⟩=some us)
  (hc:∀ j,j<len→w0.cell? ⟨b,off+j,none⟩=some (.string ⟨(ns j).toArray⟩)) (h0:J [] W):
  CallsIn Fence.wide n prog 156 #[.func (.yield l) #[] #[],.pointer (some ⟨kn,0,none⟩),.pointer (some ⟨ke,0,none⟩),.pointer (some ⟨ks,0,none⟩)] W fun e W'=>(∃ v,e= .returned v)∧
   ((∃ ys,ys=iG so sp len∧J ys W')∨(∃ pre,pre<+:iG so sp len∧Jx pre W')):=by
 have kee:∀ (w:World),Below n₀ w0 w→∀ (k j:Nat) (v:Value),k<n₀→w0.cell? ⟨k,j,none⟩=some v→w.cell? ⟨k,j,none⟩=some v:=fun w h k j v hk hv=>(Below.cell h (p:=⟨k,j,none⟩) hk).trans hv
 have cn':=kee _ hW _ _ _ hkn cn
 refine callsIn_of_wp Tryz.func156 rfl trivial ?_ rfl
 simp only [Tryz.ntmps156,List.size_toArray,List.length_cons,List.length_nil,Nat.reduceAdd,Nat.reduceSub,Array.replicate_succ,Array.replicate_zero,List.push_toArray,List.append_toArray,List.nil_append,List.cons_append]
 gi_wp2
 gi_loopw [9] (fun i wr=> ∃ k:Nat,k≤len∧i= .int .i64 k∧J (iG so sp k) wr∧Below n₀ w0 wr∧W.heap.size≤wr.heap.size)
  (fun i _=>len - (intOf i).toNat)
 case atStart=>exact ⟨0,Nat.zero_le _,rfl,h0,hW,Nat.le_refl _⟩
 case round=>
  obtain ⟨k,hk,rfl,hJs,hnx,hsz⟩:=hrel
  have hcx:k<len→wr.cell? ⟨b,off+k,none⟩=some (.string ⟨(ns k).toArray⟩):=fun h=>kee _ hnx _ _ _ hbn (hc k h)
  have ce1:=kee _ hnx _ _ _ hke ce
  have cs1:=kee _ hnx _ _ _ hks cs
  by_cases hlt:k<len
  ·have hcx':=hcx hlt
   have bW1:∀ (w:World),Below n₀ w0 w→Below w0.heap.size w0 w:=fun w h=>by rw [hw0];exact h
   have PR4:∀ (w:World) (op:Int),Below n₀ w0 w→aZ (bK w) [E,SC,.int .i64 op,.str (ns k)] [ue,us,.int .i64 op,.string ⟨(ns k).toArray⟩]:=fun w op h=>by
    have h2:=aP (lH (bW1 w h)) _ hpr
    simp only [aZ,PR] at h2 ⊢
    exact ⟨h2.1,h2.2.1,trivial,trivial,trivial⟩
   have LE1:iG so sp len=iG so sp k++ [so k]++ [sp k]++(iG so sp len).drop (2*(k+1)):=by
    rw [← nC]
    obtain ⟨r,hr⟩:=Jw so sp (show k+1≤len by omega)
    conv=>rhs;rw [← hr]
    rw [List.drop_left' (ny ..)]
    exact hr.symm
   have hf14:Fence.wide.fn 157:=trivial
   have h1n:1≤n:=by omega
   gi_wp2_with (gi_at_call 157;refine (uA (hso k hlt) (sJ (bW1 _ hnx) hg) (PR4 _ 6 hnx)).mono ?_;rintro e W1 ⟨rfl,hb1⟩;have hJ1:=hAJ _ _ _ none hJs (yl hb1 none) (fun r e=>by cases e);have hnx1:Below n₀ w0 W1:=hnx.trans (hb1.mono (by omega));obtain ⟨fn,tmps,assign,body,hy,hR⟩:=hY _ (so k) W1 hJ1 (by rw [ny];omega))
   refine hR.mono ?_
   rintro e W3 (⟨rfl,hJ3,hk3⟩|⟨rfl,hJx3⟩)
   ·have hnx3:=hnx1.trans hk3
    have ce3:=kee _ hnx3 _ _ _ hke ce
    have cs3:=kee _ hnx3 _ _ _ hks cs
    gi_wp2_with (gi_at_call 157;refine (uA (hsp k hlt) (sJ (bW1 _ hnx3) hg) (PR4 _ 8 hnx3)).mono ?_;rintro e W4 ⟨rfl,hb4⟩;have hJ4:=hAJ _ _ _ none hJ3 (yl hb4 none) (fun r e=>by cases e);have hnx4:Below n₀ w0 W4:=hnx3.trans (hb4.mono (by rw [← hw0];exact hnx3.size));obtain ⟨fn4,tmps4,assign4,body4,hy4,hR4⟩:=hY _ (sp k) W4 hJ4 (by rw [List.length_append,ny,List.length_singleton];omega))
    refine hR4.mono ?_
    rintro e W5 (⟨rfl,hJ5,hk5⟩|⟨rfl,hJx5⟩)
    ·gi_wp2
     go_roundw
     case rel=>exact ⟨k+1,by omega,by simp,by rw [nC];exact hJ5,hnx4.trans hk5,by have:=hb1.size;have:=hk3.size;have:=hb4.size;have:=hk5.size;omega⟩
     case measure=>simp [intOf];omega
    ·gi_wp2
     refine bodyPost_ret (results_none rfl _ _ _) rfl ?_
     exact ⟨⟨_,rfl⟩,.inr ⟨_,by rw [LE1];exact List.prefix_append _ _,hJx5⟩⟩
   ·gi_wp2_with (refine ⟨fun _ _=>trivial, ?_⟩)
    refine bodyPost_ret (results_none rfl _ _ _) rfl ?_
    exact ⟨⟨_,rfl⟩,.inr ⟨_,by rw [LE1,List.append_assoc];exact List.prefix_append _ _,hJx3⟩⟩
  ·obtain rfl:k=len:=by omega
   gi_wp2
   go_end0
   exact ⟨⟨_,rfl⟩,.inl ⟨_,rfl,hJs⟩⟩
attribute [local go_sem] Oper.semAt_some
theorem Jq (a1 a2 a3:Option Addr) (l1 l2 l3 c1 c2 c3:Nat) (n:Nat) (w:World):
  CallsIn Fence.wide n prog 112 #[.slice a1 l1 c1,.slice a2 l2 c2,.slice a3 l3 c3] w fun e w'=>e= .returned (.func (.func 156) #[] #[.pointer (some ⟨w.heap.size+2,0,none⟩),.pointer (some ⟨w.heap.size,0,none⟩),.pointer (some ⟨w.heap.size+1,0,none⟩)])∧w'=((w.alloc (.cells #[.slice a1 l1 c1] 54)).alloc (.cells #[.slice a2 l2 c2] 30)).alloc (.cells #[.slice a3 l3 c3] 135):=by
 refine callsIn_of_wp Tryz.func112 rfl trivial ?_ rfl
 simp only [Tryz.ntmps112,List.size_toArray,List.length_cons,List.length_nil,Nat.reduceAdd,Nat.reduceSub,Array.replicate_succ,Array.replicate_zero,List.push_toArray,List.append_toArray,List.nil_append,List.cons_append]
 gi_wp2
 go_ret
 refine ⟨?_,rfl⟩
 simp
theorem Qb {w:World} {tmps:Array Value} {k:Nat} {b:Bool} (e:tmps.getD 6 undef= .pointer (some ⟨k,0,none⟩)) (d:w.cell? ⟨k,0,none⟩=some (.bool b)):(results f68 tmps).run prog w= .ok (.bool b) w:=by
 refine jf (vs:= [.bool b]) rfl ?_
 intro i r v c a
 match i with
 | 0=>
  simp only [List.getElem?_cons_zero,Option.some.injEq] at a
  subst a
  have:r= .cell 6 4:=by
   have h0:f68.results.toList[0]? =some (.cell 6 4):=rfl
   rw [h0] at c;exact (Option.some.inj c).symm
  subst this
  have f:prog.underlying 4=some .bool:=by kernel_rfl
  simp only [Bl,e]
  simp [asAddr,loadVar,f,d,go_sem]
 |n+1=>simp at a
attribute [local go_sem] Oper.semAt_some
set_option maxRecDepth 100000 in
set_option maxHeartbeats 1000000 in
theorem ET (n:Nat) (l kn ke ks cap:Nat) (an:Option Addr) (so sp:Nat→Int) (J Jx:List Int→World→Prop) (W:World) (cn:W.cell? ⟨kn,0,none⟩=some (.slice an 0 cap)) (h0:J [] W):
  CallsIn Fence.wide n prog 156 #[.func (.yield l) #[] #[],.pointer (some ⟨kn,0,none⟩),.pointer (some ⟨ke,0,none⟩),.pointer (some ⟨ks,0,none⟩)] W fun e W'=>(∃ v,e= .returned v)∧
   ((∃ ys,ys=iG so sp 0∧J ys W')∨(∃ pre,pre<+:iG so sp 0∧Jx pre W')):=by
 refine callsIn_of_wp Tryz.func156 rfl trivial ?_ rfl
 simp only [Tryz.ntmps156,List.size_toArray,List.length_cons,List.length_nil,Nat.reduceAdd,Nat.reduceSub,Array.replicate_succ,Array.replicate_zero,List.push_toArray,List.append_toArray,List.nil_append,List.cons_append]
 gi_wp2
 gi_loopw [9] (fun i wr=>i= .int .i64 0∧J [] wr) (fun _ _=>0)
 case atStart=>exact ⟨rfl,h0⟩
 case round=>
  obtain ⟨rfl,hJs⟩:=hrel
  gi_wp2
  go_end0
  exact ⟨⟨_,rfl⟩,.inl ⟨_,rfl,hJs⟩⟩
theorem Dj (n:Nat) (v:2≤n) (kn f ks b d c:Nat) (r:Option Addr) (E SC:AV) (m us:Value) (a:List (List UInt8)) (t i:List UInt8→Int) (hreach:a.length*16≤140737488351232)
  (hso:∀ s ∈ a,CO 157 [E,SC,.int .i64 6,.str s] (.ret (.int .i64 (t s)))) (hsp:∀ s ∈ a,CO 157 [E,SC,.int .i64 8,.str s] (.ret (.int .i64 (i s))))
  (w:World) (hg:jD ap (bK w)) (hpr:aZ (bK w) [E,SC] [m,us]) (hkn:kn<w.heap.size) (hke:f<w.heap.size) (hks:ks<w.heap.size)
  (cn:w.cell? ⟨kn,0,none⟩=some (.slice r a.length c)) (ce:w.cell? ⟨f,0,none⟩=some m) (cs:w.cell? ⟨ks,0,none⟩=some us)
  (hc:0<a.length→r=some ⟨b,d,none⟩∧b<w.heap.size∧∀ j,j<a.length→w.cell? ⟨b,d+j,none⟩=some (.string ⟨((a[j]?).getD []).toArray⟩)):
  SeqStopsK Fence.wide n prog 156 #[.pointer (some ⟨kn,0,none⟩),.pointer (some ⟨f,0,none⟩),.pointer (some ⟨ks,0,none⟩)] (fun x:Int=> #[Value.int .i64 x]) (Below w.heap.size)
   (fun z=>z=iG (fun k=>t ((a[k]?).getD [])) (fun k=>i ((a[k]?).getD [])) a.length) (fun g=>g<+:iG (fun k=>t ((a[k]?).getD [])) (fun k=>i ((a[k]?).getD [])) a.length) (2*a.length) w:=by
 intro l J Jx W o A _ y h0
 have hm:∀ k,k<a.length→(a[k]?).getD [] ∈ a:=fun k e=>by rw [List.getElem?_eq_getElem e];exact List.getElem_mem e
 by_cases h:0<a.length
 ·obtain ⟨rfl,B,q⟩:=hc h
  exact Gs n v l kn f ks w.heap.size b d a.length c E SC m us (fun k=>(a[k]?).getD []) _ _ hreach (fun k e=>hso _ (hm k e)) (fun k e=>hsp _ (hm k e)) J Jx W A y o.size B hkn hke hks w rfl o hg hpr cn ce cs q h0
 ·have u:a.length=0:=by omega
  rw [u] at cn ⊢
  exact ET n l kn f ks c r _ _ J Jx W ((o.cell (p:=⟨kn,0,none⟩) hkn).trans cn) h0
set_option maxRecDepth 100000 in
set_option maxHeartbeats 2000000 in
theorem Gm (E SC:AV) (hck:CO 111 [E] (.ret (.int .i64 0))) (ns:List (List UInt8)) (so sp:List UInt8→Int) (hreach:ns.length*16≤140737488351232)
  (hso:∀ s ∈ ns,CO 157 [E,SC,.int .i64 6,.str s] (.ret (.int .i64 (so s)))) (hsp:∀ s ∈ ns,CO 157 [E,SC,.int .i64 8,.str s] (.ret (.int .i64 (sp s)))) (n:Nat) (hn:4≤n)
  (a1 a2 an:Option Addr) (l1 l2 c1 c2 cap b off:Nat) (w:World) (hg:jD ap (bK w)) (hpr:aZ (bK w) [E,SC] [.slice a1 l1 c1,.slice a2 l2 c2])
  (hc:0<ns.length→an=some ⟨b,off,none⟩∧∀ j,j<ns.length→w.cell? ⟨b,off+j,none⟩=some (.string ⟨((ns[j]?).getD []).toArray⟩)):
  CallsIn Fence.wide n prog 68 #[.slice a1 l1 c1,.slice a2 l2 c2,.slice an ns.length cap] w fun e w'=>e= .returned (.bool ((iG (fun k=>so ((ns[k]?).getD [])) (fun k=>sp ((ns[k]?).getD [])) ns.length).all fun x=>decide (x≤1)))∧Below w.heap.size w w':=by
 have h21:Fence.wide.fn 111:=trivial
 have h47:Fence.wide.fn 112:=trivial
 have h1n:1≤n:=by omega
 have ha:Below w.heap.size w (w.alloc (.cells #[.bool false] 4)):=(Below.refl _ w).alloc (Nat.le_refl _) _
 have hpe:aZ (bK w) [E] [.slice a1 l1 c1]:=by simp only [aZ] at hpr ⊢;exact ⟨hpr.1,trivial⟩
 refine callsIn_of_wp_marks Tryz.func68 rfl trivial ?_ rfl
 simp only [Tryz.ntmps68,List.size_toArray,List.length_cons,List.length_nil,Nat.reduceAdd,Nat.reduceSub,Array.replicate_succ,Array.replicate_zero,List.push_toArray,List.append_toArray,List.nil_append,List.cons_append]
 gi_wp2_with (first
  |(gi_at_call 111;refine (uA hck (sJ ha hg) (aP (lH ha) _ hpe)).mono ?_;rintro e W1 ⟨rfl,hb1⟩)
  |(gi_at_call 112;refine (Jq a1 a2 an l1 l2 ns.length c1 c2 cap _ _).mono ?_;rintro e W2 ⟨rfl,rfl⟩)
  |gi_in)
 obtain ⟨W3,hW3⟩:∃ W3,((W1.alloc (.cells #[.slice a1 l1 c1] 54)).alloc (.cells #[.slice a2 l2 c2] 30)).alloc (.cells #[.slice an ns.length cap] 135)=W3:=⟨_,rfl⟩
 rw [hW3]
 have hs3:W3.heap.size=W1.heap.size+3:=by rw [← hW3];simp
 have hb3:Below W1.heap.size W1 W3:=by rw [← hW3];exact (((Below.refl _ W1).alloc (Nat.le_refl _) _).alloc (by simp) _).alloc (by simp;omega) _
 have hs1:w.heap.size+1≤W1.heap.size:=by have:=hb1.size;simpa using this
 have hwW1:Below w.heap.size w W1:=ha.trans (hb1.mono (by simp))
 have hw3:Below w.heap.size w W3:=hwW1.trans (hb3.mono (by omega))
 have k1:W3.cell? ⟨W1.heap.size,0,none⟩=some (.slice a1 l1 c1):=by rw [← hW3];exact (((Boxed.new W1 54 (.slice a1 l1 c1)).alloc _).alloc _).cell
 have k2:W3.cell? ⟨W1.heap.size+1,0,none⟩=some (.slice a2 l2 c2):=by
  have:=((Boxed.new (W1.alloc (.cells #[.slice a1 l1 c1] 54)) 30 (.slice a2 l2 c2)).alloc (.cells #[.slice an ns.length cap] 135)).cell
  rw [World.size_alloc] at this
  rw [← hW3];exact this
 have k3:W3.cell? ⟨W1.heap.size+2,0,none⟩=some (.slice an ns.length cap):=by
  have:=(Boxed.new ((W1.alloc (.cells #[.slice a1 l1 c1] 54)).alloc (.cells #[.slice a2 l2 c2] 30)) 135 (.slice an ns.length cap)).cell
  rw [World.size_alloc,World.size_alloc] at this
  rw [← hW3];exact this
 have kc:W3.cell? ⟨w.heap.size,0,none⟩=some (.bool false):=((hb3.cell (p:=⟨w.heap.size,0,none⟩) hs1).trans (hb1.cell (p:=⟨w.heap.size,0,none⟩) (by simp))).trans (Boxed.new w 4 (.bool false)).cell
 have kf:W3.frozen? ⟨w.heap.size,0,none⟩=false:=((hb3.frozen (p:=⟨w.heap.size,0,none⟩) hs1).trans (hb1.frozen (p:=⟨w.heap.size,0,none⟩) (by simp))).trans (Boxed.new w 4 (.bool false)).frozen
 have hc3:0<ns.length→an=some ⟨b,off,none⟩∧b<W3.heap.size∧∀ j,j<ns.length→W3.cell? ⟨b,off+j,none⟩=some (.string ⟨((ns[j]?).getD []).toArray⟩):=by
  intro h
  obtain ⟨h1,h2⟩:=hc h
  have hbl:b<w.heap.size:=World.block_lt_of_cell? w ⟨b,off+0,none⟩ (h2 0 h)
  exact ⟨h1,by omega,fun j hj=>(hw3.cell (p:=⟨b,off+j,none⟩) hbl).trans (h2 j hj)⟩
 have oB:∀ {A B:World} {row:Option Nat},Below w.heap.size w A→A.grownBy B row→(∀ r,row=some r→W3.heap.size≤r∧∃ o:Obj,A.heap[r]? =some o∧o.isCells=false)→Below w.heap.size w B:=
  fun h hg hr=>ownFrom_below (β:=Unit) (n₀:=w.heap.size) (B:=W3.heap.size) (w₀:=w) (Nat.le_refl _) hw3.size () _ _ _ h hg hr
 have oC:∀ {A:World} {D:Nat} {o:Obj} {v:Value},W3.heap.size≤D→A.cell? ⟨w.heap.size,0,none⟩=some v→(A.putObj D o).cell? ⟨w.heap.size,0,none⟩=some v:=
  fun {A D o v} hD hv=>(World.cell?_of_block (World.putObj_heap_other (show w.heap.size ≠ D by omega))).trans hv
 have pB:∀ {A:World} {D:Nat} {o:Obj},W3.heap.size≤D→Below w.heap.size w A→Below w.heap.size w (A.putObj D o):=
  fun {A D o} hD h=>h.trans ((Below.refl _ A).grown (grownBy_putObj' A D o) h.size (fun k e=>by cases e;omega))
 refine wpIn_rangeFunc_ownF rfl h1n (gf:=156) (lb:=#[.pointer (some ⟨W1.heap.size+2,0,none⟩),.pointer (some ⟨W1.heap.size,0,none⟩),.pointer (some ⟨W1.heap.size+1,0,none⟩)]) rfl trivial (enters_of Tryz.func156 (by kernel_rfl) rfl)
  (Dj (n - 1) (by omega) (W1.heap.size+2) W1.heap.size (W1.heap.size+1) b off cap an E SC _ _ ns so sp hreach hso hsp W3 (sJ hw3 hg) (aP (lH hw3) _ hpr) (by omega) (by omega) (by omega) k3 k1 k2 hc3)
  (fun h k=>h.trans k) (fun W l o o' hl h hc hw=>belowK_b (Nat.le_refl _) W l o o' hl h hc hw) (Below.refl _ _) (fun _=>rfl)
  (fun pre W=>(∀ x ∈ pre,x≤1)∧W.cell? ⟨w.heap.size,0,none⟩=some (.bool false)∧W.frozen? ⟨w.heap.size,0,none⟩=false∧Below w.heap.size w W)
  (fun c pre W=>c= .ret∧(∃ x ∈ pre,¬ x≤1)∧W.cell? ⟨w.heap.size,0,none⟩=some (.bool false)∧Below w.heap.size w W)
  (fun s A B row hs hg hr=> ⟨hs.1,cell_kept hs.2.1 hg (fun r e=>(hr r e).2),(frozen_kept hs.2.1 hg (fun r e=>(hr r e).2)).trans hs.2.2.1,oB hs.2.2.2 hg hr⟩)
  (fun c s A B row hs hg hr=> ⟨hs.1,hs.2.1,cell_kept hs.2.2.1 hg (fun r e=>(hr r e).2),oB hs.2.2.2 hg hr⟩)
  ⟨by simp,kc,kf,hw3⟩
  (fun x=> {tmps:=#[.slice a1 l1 c1,.slice a2 l2 c2,.slice an ns.length cap,undef,undef,undef,.pointer (some ⟨w.heap.size,0,none⟩),.int .i64 x,.slice a1 l1 c1,.int .i64 0,.bool false,.slice a1 l1 c1,.slice a2 l2 c2,.slice an ns.length cap,.func (.func 156) #[] #[.pointer (some ⟨W1.heap.size+2,0,none⟩),.pointer (some ⟨W1.heap.size,0,none⟩),.pointer (some ⟨W1.heap.size+1,0,none⟩)],.int .i64 x,undef,undef],defers:= []}) ?assign ?body ?done ?stop
 case assign=>
  intro l x W K hK
  gi_wp2
  exact hK
 case body=>
  rintro l pre x W ⟨hp,hcW,hfW,hbW⟩ _
  by_cases hx:x≤1
  ·have hx1:¬ (1<x):=by omega
   gi_wp2
   exact ⟨KeepsOthers.refl _,Below.refl _ _,(fun y hy=>by rcases List.mem_append.1 hy with h|h;exact hp y h;rw [List.mem_singleton.1 h];exact hx),hcW,hfW,hbW⟩
  ·have hx1:1<x:=by omega
   gi_wp2
   exact ⟨KeepsOthers.setCell _ _ _,rfl,⟨x,by simp,hx⟩,World.cell?_setCell_same' _ _ _ (by rw [hcW];rfl),hbW.setCell (p:=⟨w.heap.size,0,none⟩) (Nat.le_refl _) _⟩
 case done=>
  rintro D xs W hD rfl ⟨hp,hcW,hfW,hbW⟩ hK
  gi_wp2
  have hK':(W.setCell ⟨w.heap.size,0,none⟩ (.bool true)).heap[D]? =some (.deferred (some [])):=(Below.heap_setCell W ⟨w.heap.size,0,none⟩ (.bool true) D (by show D ≠ w.heap.size;omega)).trans hK
  refine ⟨by simp,.inl ⟨_,_,rfl,run_takeDeferred hK', ?_⟩⟩
  refine ⟨_,Qb rfl (oC hD (World.cell?_setCell_same' _ _ _ (by rw [hcW];rfl))), ?_,pB hD (hbW.setCell (p:=⟨w.heap.size,0,none⟩) (Nat.le_refl _) _)⟩
  congr 2
  exact (List.all_eq_true.2 fun x hx=>decide_eq_true (hp x hx)).symm
 case stop=>
  rintro D c pre W hD hSp ⟨rfl,⟨x,hx,hx1⟩,hcW,hbW⟩ hK
  gi_wp2
  refine ⟨by simp,.inl ⟨_,_,rfl,run_takeDeferred hK, ?_⟩⟩
  refine ⟨_,Qb rfl (oC hD hcW), ?_,pB hD hbW⟩
  congr 2
  obtain ⟨r,hr⟩:=hSp
  symm
  rw [Bool.eq_false_iff]
  intro h
  rw [← hr] at h
  have h2:=of_decide_eq_true (List.all_eq_true.1 h x (List.mem_append.2 (.inl hx)))
  omega
def IZ (x:AV):Prop:=x= .nilS∨∃ l n b,x= .sl l n b
theorem IZ.val {S:ay} {x:AV} {v:Value} (h:IZ x) (d:PR S x v):∃ a l c,v= .slice a l c:=by
 rcases h with rfl|⟨l,n,b,rfl⟩
 ·simp only [PR] at d;exact ⟨_,_,_,d⟩
 ·simp only [PR] at d;obtain ⟨a,e,rfl,_⟩:=d;exact ⟨_,_,_,rfl⟩
def Nj (ns:List (List UInt8)) (b:Bool):AV:= .sl (ns.map .str) ns.length b
theorem Nk {S:ay} {e:List (List UInt8)} {b:Bool} {v:Value} (f:PR S (Nj e b) v):∃ an c k d,v= .slice an e.length c∧(0<e.length→an=some ⟨k,d,none⟩∧∀ j,j<e.length→S k (d+j)=some (.string ⟨((e[j]?).getD []).toArray⟩)):=by
 simp only [Nj,PR] at f
 obtain ⟨a,c,rfl,_,h⟩:=f
 rcases h with ⟨_,_,h,_⟩|⟨k,d,vs,rfl,i,g⟩
 ·exact ⟨a,c,0,0,rfl,fun n=>absurd h (by omega)⟩
 ·refine ⟨_,c,k,d,rfl,fun _=> ⟨rfl,fun j l=> ?_⟩⟩
  obtain ⟨u,m,hp⟩:=Gw i j (x:= .str ((e[j]?).getD [])) (by rw [List.getElem?_map,List.getElem?_eq_getElem l];rfl)
  simp only [PR] at hp
  rw [← hp]
  exact (g j u m).1
theorem UM:nT prog 68:=enters_of Tryz.func68 (by kernel_rfl) rfl
theorem Gl {args:List AV} {b:Bool} (h:∀ w cargs,jD ap (bK w)→aZ (bK w) args cargs→CallsIn Fence.wide 9 prog 68 cargs.toArray w fun e w'=>e= .returned (.bool b)∧Below w.heap.size w w'):CO 68 args (.ret (.bool b)):=by
 refine ⟨Nat.le_refl _,UM, ?_⟩
 intro m S w cargs d p
 have a:gy S (bK w):=fun k o v c=>d.sealed k o v c
 have n:jD ap (bK w):=by
  intro k l c
  obtain ⟨vs,i,f⟩:=d.glob k l c
  exact ⟨vs,aP a _ i,fun j u g=> ⟨a _ _ _ (f j u g).1,(f j u g).2⟩⟩
 refine (callsIn_wide.1 (h w cargs n (aP a _ (gQ (m:=m) _ p)))).mono ?_
 rintro e w' ⟨rfl,hb⟩
 refine ⟨m,S, ?_, ?_,⟨_,rfl, ?_⟩⟩
 ·exact ⟨fun b q B B' h=>by simp [aC,f_,gG] at h,fun b B h=>by simp [aC,f_,gG] at h,fun k o v h=>lH hb k o v (a k o v h),fun b B h=>by simp [aC,f_,gG] at h,d.glob⟩
 ·exact ⟨Ge.refl _ _,gy.refl S,hb.os,hb.tape,hb.output,hb.size,fun k c _=>hb.block k c,fun _ B h=>by simp [aC,f_,gG] at h,fun _ _ _ h=> .inl h,fun _ B h=>by simp [aC,f_,gG] at h⟩
 ·simp only [qL,VR,PR]
theorem zt (E SC:AV) (b:Bool) (u:IZ E) (l:IZ SC) (m:CO 111 [E] (.ret (.int .i64 0))) (a:List (List UInt8)) (d c:List UInt8→Int) (hreach:a.length*16≤140737488351232)
  (hso:∀ s ∈ a,CO 157 [E,SC,.int .i64 6,.str s] (.ret (.int .i64 (d s)))) (hsp:∀ s ∈ a,CO 157 [E,SC,.int .i64 8,.str s] (.ret (.int .i64 (c s)))):
  CO 68 [E,SC,Nj a b] (.ret (.bool (a.all fun s=>decide (d s≤1) && decide (c s≤1)))):=by
 have e:(a.all fun s=>decide (d s≤1) && decide (c s≤1))=(iG (fun k=>d ((a[k]?).getD [])) (fun k=>c ((a[k]?).getD [])) a.length).all fun x=>decide (x≤1):=by
  have:a=(List.range a.length).map fun k=>(a[k]?).getD []:=by
   apply List.ext_getElem
   ·simp
   ·intro i f o;simp [List.getElem?_eq_getElem f]
  conv=>lhs;rw [this]
  simp [iG,List.all_flatMap,List.all_map,Function.comp_def]
 rw [e]
 refine Gl fun w cargs t g=> ?_
 match cargs,g with
 | [ue,us,un],g=>
  simp only [aZ] at g
  obtain ⟨f,o,C,_⟩:=g
  obtain ⟨F,y,z,rfl⟩:=u.val f
  obtain ⟨v,D,A,rfl⟩:=l.val o
  obtain ⟨r,n,k,p,rfl,q⟩:=Nk C
  exact Gm E SC m a d c hreach hso hsp 9 (by omega) F v r y D z A n k p w t (by simp only [aZ];exact ⟨f,o,trivial⟩) fun h=> ⟨(q h).1,fun j B=>o_ ((q h).2 j B) rfl⟩
end Go.Proofs.Tryz
set_option maxRecDepth 100000
set_option linter.unusedVariables false
open Go AM
namespace Go.Proofs.Tryz
def au:List Nat:= [13,16,18,22,26,32,34,35,48,49,50,65,68,72,73,74,75,76,77,99,110,111,116,117,118,120,150,157,161,164,167,168,170,173,193,204,225,227,228,229,239,240,250,263,269,315,349]
theorem TY (a:List AV) (n:Nat) (b:Bool):IZ (.sl a n b):= .inr ⟨_,_,_,rfl⟩
theorem TW:IZ .nilS:= .inl rfl
def tK:Lw:=⟨[],0,[],0,[⟨[97],false,1,0,[⟨1,false,[1],[1],[]⟩],false,false,[],[],false,[],[]⟩,⟨[98],false,1,0,[⟨6,false,[],[],[97]⟩,⟨8,false,[],[],[99]⟩,⟨9,false,[],[],[]⟩],false,false,[],[],false,[],[]⟩,⟨[99],false,1,0,[⟨6,false,[],[],[98]⟩],false,false,[],[],false,[],[]⟩,⟨[100],false,1,0,[⟨6,false,[],[],[100]⟩],false,false,[],[],false,[],[]⟩]⟩
theorem MV:bC (.agg [.nilS,.nilS,.sl [.str [97],.bool false,.int .i64 1,.int .i64 0,.sl zcc2_9 1 true,.bool false,.bool false,.str [],.str [],.bool false,.str [],.str [],.str [98],.bool false,.int .i64 1,.int .i64 0,.sl zcc2_1 3 true,.bool false,.bool false,.str [],.str [],.bool false,.str [],.str [],.str [99],.bool false,.int .i64 1,.int .i64 0,.sl zcc2_10 1 true,.bool false,.bool false,.str [],.str [],.bool false,.str [],.str [],.str [100],.bool false,.int .i64 1,.int .i64 0,.sl zcc2_7 1 true,.bool false,.bool false,.str [],.str [],.bool false,.str [],.str []] 4 true]) (.agg (tK.c false false true)):=bC.agg (.cons (bC.nilS false rfl) (.cons (bC.nilS false rfl) (.cons (bC.slP (.same (.same (.same (.same (.sl (.same (.same (.same (.same (.same (.same (.same (.same (.same (.same (.same (.sl (.same (.same (.same (.same (.same (.same (.same (.same (.same (.same (.same (.sl (.same (.same (.same (.same (.same (.same (.same (.same (.same (.same (.same (.sl (.same (.same (.same (.same (.same (.same (.same (.nil)))))))))))))))))))))))))))))))))))))))))))))))))) .nil)))
theorem MX:qi tK:=⟨by decide,fun p hp=>by
 simp only [tK,List.mem_cons,List.not_mem_nil,or_false] at hp
 rcases hp with rfl|rfl|rfl|rfl<;>exact ⟨by decide,fun s w=>Nat.le_trans (List.length_filterMap_le _ _) (by decide)⟩⟩
theorem b_:CO 65 [.int .i64 1] (.ret (.str [1])):=cD au (.nil)
theorem Qo:CO 16 [.agg [.nilS,.nilS,.sl [.str [97],.bool false,.int .i64 1,.int .i64 0,.sl zcc2_9 1 true,.bool false,.bool false,.str [],.str [],.bool false,.str [],.str [],.str [98],.bool false,.int .i64 1,.int .i64 0,.sl zcc2_1 3 true,.bool false,.bool false,.str [],.str [],.bool false,.str [],.str [],.str [99],.bool false,.int .i64 1,.int .i64 0,.sl zcc2_10 1 true,.bool false,.bool false,.str [],.str [],.bool false,.str [],.str [],.str [100],.bool false,.int .i64 1,.int .i64 0,.sl zcc2_7 1 true,.bool false,.bool false,.str [],.str [],.bool false,.str [],.str []] 4 true],.int .i64 1,.agg [.int .i64 0,.int .i64 1]] (.ret (.own [.int .i64 0,.int .i64 0] 1 2)):=cD au (.nil)
theorem Qq:CO 16 [.agg [.nilS,.nilS,.sl [.str [97],.bool false,.int .i64 1,.int .i64 0,.sl zcc2_9 1 true,.bool false,.bool false,.str [],.str [],.bool false,.str [],.str [],.str [98],.bool false,.int .i64 1,.int .i64 0,.sl zcc2_1 3 true,.bool false,.bool false,.str [],.str [],.bool false,.str [],.str [],.str [99],.bool false,.int .i64 1,.int .i64 0,.sl zcc2_10 1 true,.bool false,.bool false,.str [],.str [],.bool false,.str [],.str [],.str [100],.bool false,.int .i64 1,.int .i64 0,.sl zcc2_7 1 true,.bool false,.bool false,.str [],.str [],.bool false,.str [],.str []] 4 true],.int .i64 2,.agg [.int .i64 0,.int .i64 1]] (.ret (.own [.int .i64 0,.int .i64 0,.int .i64 1,.int .i64 2] 2 2)):=cD au (.nil)
theorem Qs:CO 16 [.agg [.nilS,.nilS,.sl [.str [97],.bool false,.int .i64 1,.int .i64 0,.sl zcc2_9 1 true,.bool false,.bool false,.str [],.str [],.bool false,.str [],.str [],.str [98],.bool false,.int .i64 1,.int .i64 0,.sl zcc2_1 3 true,.bool false,.bool false,.str [],.str [],.bool false,.str [],.str [],.str [99],.bool false,.int .i64 1,.int .i64 0,.sl zcc2_10 1 true,.bool false,.bool false,.str [],.str [],.bool false,.str [],.str [],.str [100],.bool false,.int .i64 1,.int .i64 0,.sl zcc2_7 1 true,.bool false,.bool false,.str [],.str [],.bool false,.str [],.str []] 4 true],.int .i64 2,.agg [.int .i64 1,.int .i64 1]] (.ret (.own [.int .i64 0,.int .i64 2,.int .i64 1,.int .i64 0] 2 2)):=cD au (.nil)
theorem MJ:CO 49 [.agg [.nilS,.nilS,.sl [.str [97],.bool false,.int .i64 1,.int .i64 0,.sl zcc2_9 1 true,.bool false,.bool false,.str [],.str [],.bool false,.str [],.str [],.str [98],.bool false,.int .i64 1,.int .i64 0,.sl zcc2_1 3 true,.bool false,.bool false,.str [],.str [],.bool false,.str [],.str [],.str [99],.bool false,.int .i64 1,.int .i64 0,.sl zcc2_10 1 true,.bool false,.bool false,.str [],.str [],.bool false,.str [],.str [],.str [100],.bool false,.int .i64 1,.int .i64 0,.sl zcc2_7 1 true,.bool false,.bool false,.str [],.str [],.bool false,.str [],.str []] 4 true],.int .i64 1] (.ret (.own zcc2_4 4 2)):=cD au (.nil)
theorem Qw:CO 16 [.agg [.nilS,.nilS,.sl [.str [97],.bool false,.int .i64 1,.int .i64 0,.sl zcc2_9 1 true,.bool false,.bool false,.str [],.str [],.bool false,.str [],.str [],.str [98],.bool false,.int .i64 1,.int .i64 0,.sl zcc2_1 3 true,.bool false,.bool false,.str [],.str [],.bool false,.str [],.str [],.str [99],.bool false,.int .i64 1,.int .i64 0,.sl zcc2_10 1 true,.bool false,.bool false,.str [],.str [],.bool false,.str [],.str [],.str [100],.bool false,.int .i64 1,.int .i64 0,.sl zcc2_7 1 true,.bool false,.bool false,.str [],.str [],.bool false,.str [],.str []] 4 true],.int .i64 1,.agg [.int .i64 0,.int .i64 0]] (.ret (.nilS)):=cD au (.nil)
theorem Qx:CO 16 [.agg [.nilS,.nilS,.sl [.str [97],.bool false,.int .i64 1,.int .i64 0,.sl zcc2_9 1 true,.bool false,.bool false,.str [],.str [],.bool false,.str [],.str [],.str [98],.bool false,.int .i64 1,.int .i64 0,.sl zcc2_1 3 true,.bool false,.bool false,.str [],.str [],.bool false,.str [],.str [],.str [99],.bool false,.int .i64 1,.int .i64 0,.sl zcc2_10 1 true,.bool false,.bool false,.str [],.str [],.bool false,.str [],.str [],.str [100],.bool false,.int .i64 1,.int .i64 0,.sl zcc2_7 1 true,.bool false,.bool false,.str [],.str [],.bool false,.str [],.str []] 4 true],.int .i64 1,.agg [.int .i64 0,.int .i64 2]] (.ret (.own [.int .i64 0,.int .i64 1] 1 2)):=cD au (.nil)
theorem Qy:CO 16 [.agg [.nilS,.nilS,.sl [.str [97],.bool false,.int .i64 1,.int .i64 0,.sl zcc2_9 1 true,.bool false,.bool false,.str [],.str [],.bool false,.str [],.str [],.str [98],.bool false,.int .i64 1,.int .i64 0,.sl zcc2_1 3 true,.bool false,.bool false,.str [],.str [],.bool false,.str [],.str [],.str [99],.bool false,.int .i64 1,.int .i64 0,.sl zcc2_10 1 true,.bool false,.bool false,.str [],.str [],.bool false,.str [],.str [],.str [100],.bool false,.int .i64 1,.int .i64 0,.sl zcc2_7 1 true,.bool false,.bool false,.str [],.str [],.bool false,.str [],.str []] 4 true],.int .i64 1,.agg [.int .i64 0,.int .i64 3]] (.ret (.own [.int .i64 0,.int .i64 3] 1 2)):=cD au (.nil)
theorem Qz:ae prog ap 48 [.mp [.agg [.int .i64 0,.int .i64 0],.agg [.int .i64 0,.int .i64 1],.agg [.int .i64 0,.int .i64 2],.agg [.int .i64 0,.int .i64 3]] [.nilS,.sl [.int .i64 0,.int .i64 0] 1 true,.sl [.int .i64 0,.int .i64 1] 1 true,.sl [.int .i64 0,.int .i64 3] 1 true],.ref 0 0 0 4] [⟨zcc2_4,0,false,0,2,true⟩] (.ret (.sl [.bool false,.sl [.int .i64 0,.int .i64 0] 1 true,.bool false,.sl [.int .i64 0,.int .i64 1] 1 true,.bool false,.sl [.int .i64 0,.int .i64 2] 1 true,.bool true,.sl [.int .i64 0,.int .i64 3] 1 true] 4 true)) [⟨zcc2_4,0,false,0,2,true⟩]:=cD au (.nil)
theorem wz:ae prog ap 50 [.ifc 99 (.ptr 0 0 0),.ifc 66 (.agg [.bool false,.sl [.int .i64 0,.int .i64 0] 1 false])] [⟨[.nilS,.ifc 101 (.agg [])],0,false,0,0,true⟩] (.ret (.tup [])) [⟨[.ref 1 0 0 1,.ifc 101 (.agg [])],0,false,0,0,false⟩,⟨[.bool false,.sl [.int .i64 0,.int .i64 0] 1 false],0,false,0,2,true⟩]:=cD au (.nil)
theorem QA:ae prog ap 50 [.ifc 99 (.ptr 0 0 0),.ifc 66 (.agg [.bool true,.sl [.int .i64 0,.int .i64 3] 1 false])] [⟨[.ref 1 0 0 1,.ifc 101 (.agg [])],0,false,0,0,false⟩,⟨[.bool false,.sl [.int .i64 0,.int .i64 0] 1 false],0,false,0,2,true⟩] (.ret (.tup [])) [⟨[.ref 1 1 0 2,.ifc 101 (.agg [])],0,false,0,0,false⟩,⟨[.bool false,.sl [.int .i64 0,.int .i64 0] 1 false,.bool true,.sl [.int .i64 0,.int .i64 3] 1 false],1,false,0,2,true⟩]:=cD au (.nil)
theorem QB:ae prog ap 99 [.ifc 99 (.ptr 0 0 0),.int .i64 0,.int .i64 1] [⟨[.ref 1 0 0 2,.ifc 101 (.agg [])],0,false,0,0,false⟩,⟨[.bool true,.sl [.int .i64 0,.int .i64 3] 1 false,.bool false,.sl [.int .i64 0,.int .i64 0] 1 false],0,false,0,2,true⟩] (.ret (.bool false)) [⟨[.ref 1 0 0 2,.ifc 101 (.agg [])],0,false,0,0,false⟩,⟨[.bool true,.sl [.int .i64 0,.int .i64 3] 1 false,.bool false,.sl [.int .i64 0,.int .i64 0] 1 false],0,false,0,2,true⟩]:=cD au (.nil)
theorem QC:ae prog ap 349 [.ptr 0 0 0] [⟨[.ref 1 0 0 2,.ifc 101 (.agg [])],0,false,0,0,false⟩,⟨[.bool true,.sl [.int .i64 0,.int .i64 3] 1 false,.bool false,.sl [.int .i64 0,.int .i64 0] 1 false],0,false,0,2,true⟩] (.ret (.ifc 66 (.agg [.bool false,.sl [.int .i64 0,.int .i64 0] 1 false]))) [⟨[.ref 1 0 0 1,.ifc 101 (.agg [])],0,false,0,0,false⟩,⟨[.bool true,.sl [.int .i64 0,.int .i64 3] 1 false,.bool false,.sl [.int .i64 0,.int .i64 0] 1 false],0,false,0,2,true⟩]:=cD au (.nil)
theorem QD:ae prog ap 50 [.ifc 99 (.ptr 0 0 0),.ifc 66 (.agg [.bool false,.sl [.int .i64 0,.int .i64 1] 1 false])] [⟨[.ref 1 0 0 1,.ifc 101 (.agg [])],0,false,0,0,false⟩,⟨[.bool true,.sl [.int .i64 0,.int .i64 3] 1 false,.bool false,.sl [.int .i64 0,.int .i64 0] 1 false],0,false,0,2,true⟩] (.ret (.tup [])) [⟨[.ref 1 1 0 2,.ifc 101 (.agg [])],0,false,0,0,false⟩,⟨[.bool false,.sl [.int .i64 0,.int .i64 1] 1 false,.bool true,.sl [.int .i64 0,.int .i64 3] 1 false],1,false,0,2,true⟩]:=cD au (.nil)
theorem QE:ae prog ap 99 [.ifc 99 (.ptr 0 0 0),.int .i64 0,.int .i64 1] [⟨[.ref 1 0 0 2,.ifc 101 (.agg [])],0,false,0,0,false⟩,⟨[.bool true,.sl [.int .i64 0,.int .i64 3] 1 false,.bool false,.sl [.int .i64 0,.int .i64 1] 1 false],0,false,0,2,true⟩] (.ret (.bool false)) [⟨[.ref 1 0 0 2,.ifc 101 (.agg [])],0,false,0,0,false⟩,⟨[.bool true,.sl [.int .i64 0,.int .i64 3] 1 false,.bool false,.sl [.int .i64 0,.int .i64 1] 1 false],0,false,0,2,true⟩]:=cD au (.nil)
theorem QF:ae prog ap 349 [.ptr 0 0 0] [⟨[.ref 1 0 0 2,.ifc 101 (.agg [])],0,false,0,0,false⟩,⟨[.bool true,.sl [.int .i64 0,.int .i64 3] 1 false,.bool false,.sl [.int .i64 0,.int .i64 1] 1 false],0,false,0,2,true⟩] (.ret (.ifc 66 (.agg [.bool false,.sl [.int .i64 0,.int .i64 1] 1 false]))) [⟨[.ref 1 0 0 1,.ifc 101 (.agg [])],0,false,0,0,false⟩,⟨[.bool true,.sl [.int .i64 0,.int .i64 3] 1 false,.bool false,.sl [.int .i64 0,.int .i64 1] 1 false],0,false,0,2,true⟩]:=cD au (.nil)
theorem QG:ae prog ap 50 [.ifc 99 (.ptr 0 0 0),.ifc 66 (.agg [.bool false,.sl [.int .i64 0,.int .i64 2] 1 false])] [⟨[.ref 1 0 0 1,.ifc 101 (.agg [])],0,false,0,0,false⟩,⟨[.bool true,.sl [.int .i64 0,.int .i64 3] 1 false,.bool false,.sl [.int .i64 0,.int .i64 1] 1 false],0,false,0,2,true⟩] (.ret (.tup [])) [⟨[.ref 1 1 0 2,.ifc 101 (.agg [])],0,false,0,0,false⟩,⟨[.bool false,.sl [.int .i64 0,.int .i64 2] 1 false,.bool true,.sl [.int .i64 0,.int .i64 3] 1 false],1,false,0,2,true⟩]:=cD au (.nil)
theorem QH:ae prog ap 99 [.ifc 99 (.ptr 0 0 0),.int .i64 0,.int .i64 1] [⟨[.ref 1 0 0 2,.ifc 101 (.agg [])],0,false,0,0,false⟩,⟨[.bool true,.sl [.int .i64 0,.int .i64 3] 1 false,.bool false,.sl [.int .i64 0,.int .i64 2] 1 false],0,false,0,2,true⟩] (.ret (.bool false)) [⟨[.ref 1 0 0 2,.ifc 101 (.agg [])],0,false,0,0,false⟩,⟨[.bool true,.sl [.int .i64 0,.int .i64 3] 1 false,.bool false,.sl [.int .i64 0,.int .i64 2] 1 false],0,false,0,2,true⟩]:=cD au (.nil)
theorem QI:ae prog ap 349 [.ptr 0 0 0] [⟨[.ref 1 0 0 2,.ifc 101 (.agg [])],0,false,0,0,false⟩,⟨[.bool true,.sl [.int .i64 0,.int .i64 3] 1 false,.bool false,.sl [.int .i64 0,.int .i64 2] 1 false],0,false,0,2,true⟩] (.ret (.ifc 66 (.agg [.bool false,.sl [.int .i64 0,.int .i64 2] 1 false]))) [⟨[.ref 1 0 0 1,.ifc 101 (.agg [])],0,false,0,0,false⟩,⟨[.bool true,.sl [.int .i64 0,.int .i64 3] 1 false,.bool false,.sl [.int .i64 0,.int .i64 2] 1 false],0,false,0,2,true⟩]:=cD au (.nil)
theorem QJ:ae prog ap 99 [.ifc 99 (.ptr 0 0 0),.int .i64 0,.int .i64 0] [⟨[.ref 1 0 0 1,.ifc 101 (.agg [])],0,false,0,0,false⟩,⟨[.bool true,.sl [.int .i64 0,.int .i64 3] 1 false,.bool false,.sl [.int .i64 0,.int .i64 2] 1 false],0,false,0,2,true⟩] (.ret (.bool false)) [⟨[.ref 1 0 0 1,.ifc 101 (.agg [])],0,false,0,0,false⟩,⟨[.bool true,.sl [.int .i64 0,.int .i64 3] 1 false,.bool false,.sl [.int .i64 0,.int .i64 2] 1 false],0,false,0,2,true⟩]:=cD au (.nil)
theorem QK:ae prog ap 349 [.ptr 0 0 0] [⟨[.ref 1 0 0 1,.ifc 101 (.agg [])],0,false,0,0,false⟩,⟨[.bool true,.sl [.int .i64 0,.int .i64 3] 1 false,.bool false,.sl [.int .i64 0,.int .i64 2] 1 false],0,false,0,2,true⟩] (.ret (.ifc 66 (.agg [.bool true,.sl [.int .i64 0,.int .i64 3] 1 false]))) [⟨[.ref 1 0 0 0,.ifc 101 (.agg [])],0,false,0,0,false⟩,⟨[.bool true,.sl [.int .i64 0,.int .i64 3] 1 false,.bool false,.sl [.int .i64 0,.int .i64 2] 1 false],0,false,0,2,true⟩]:=cD au (.nil)
theorem MK:CO 49 [.agg [.nilS,.nilS,.sl [.str [97],.bool false,.int .i64 1,.int .i64 0,.sl zcc2_9 1 true,.bool false,.bool false,.str [],.str [],.bool false,.str [],.str [],.str [98],.bool false,.int .i64 1,.int .i64 0,.sl zcc2_1 3 true,.bool false,.bool false,.str [],.str [],.bool false,.str [],.str [],.str [99],.bool false,.int .i64 1,.int .i64 0,.sl zcc2_10 1 true,.bool false,.bool false,.str [],.str [],.bool false,.str [],.str [],.str [100],.bool false,.int .i64 1,.int .i64 0,.sl zcc2_7 1 true,.bool false,.bool false,.str [],.str [],.bool false,.str [],.str []] 4 true],.int .i64 2] (.ret (.own zcc2_0 8 2)):=cD au (.nil)
theorem QM:CO 16 [.agg [.nilS,.nilS,.sl [.str [97],.bool false,.int .i64 1,.int .i64 0,.sl zcc2_9 1 true,.bool false,.bool false,.str [],.str [],.bool false,.str [],.str [],.str [98],.bool false,.int .i64 1,.int .i64 0,.sl zcc2_1 3 true,.bool false,.bool false,.str [],.str [],.bool false,.str [],.str [],.str [99],.bool false,.int .i64 1,.int .i64 0,.sl zcc2_10 1 true,.bool false,.bool false,.str [],.str [],.bool false,.str [],.str [],.str [100],.bool false,.int .i64 1,.int .i64 0,.sl zcc2_7 1 true,.bool false,.bool false,.str [],.str [],.bool false,.str [],.str []] 4 true],.int .i64 2,.agg [.int .i64 0,.int .i64 0]] (.ret (.nilS)):=cD au (.nil)
theorem QN:CO 16 [.agg [.nilS,.nilS,.sl [.str [97],.bool false,.int .i64 1,.int .i64 0,.sl zcc2_9 1 true,.bool false,.bool false,.str [],.str [],.bool false,.str [],.str [],.str [98],.bool false,.int .i64 1,.int .i64 0,.sl zcc2_1 3 true,.bool false,.bool false,.str [],.str [],.bool false,.str [],.str [],.str [99],.bool false,.int .i64 1,.int .i64 0,.sl zcc2_10 1 true,.bool false,.bool false,.str [],.str [],.bool false,.str [],.str [],.str [100],.bool false,.int .i64 1,.int .i64 0,.sl zcc2_7 1 true,.bool false,.bool false,.str [],.str [],.bool false,.str [],.str []] 4 true],.int .i64 2,.agg [.int .i64 0,.int .i64 2]] (.ret (.own [.int .i64 0,.int .i64 1] 1 2)):=cD au (.nil)
theorem QO:CO 16 [.agg [.nilS,.nilS,.sl [.str [97],.bool false,.int .i64 1,.int .i64 0,.sl zcc2_9 1 true,.bool false,.bool false,.str [],.str [],.bool false,.str [],.str [],.str [98],.bool false,.int .i64 1,.int .i64 0,.sl zcc2_1 3 true,.bool false,.bool false,.str [],.str [],.bool false,.str [],.str [],.str [99],.bool false,.int .i64 1,.int .i64 0,.sl zcc2_10 1 true,.bool false,.bool false,.str [],.str [],.bool false,.str [],.str [],.str [100],.bool false,.int .i64 1,.int .i64 0,.sl zcc2_7 1 true,.bool false,.bool false,.str [],.str [],.bool false,.str [],.str []] 4 true],.int .i64 2,.agg [.int .i64 0,.int .i64 3]] (.ret (.own [.int .i64 0,.int .i64 3] 1 2)):=cD au (.nil)
theorem QP:CO 16 [.agg [.nilS,.nilS,.sl [.str [97],.bool false,.int .i64 1,.int .i64 0,.sl zcc2_9 1 true,.bool false,.bool false,.str [],.str [],.bool false,.str [],.str [],.str [98],.bool false,.int .i64 1,.int .i64 0,.sl zcc2_1 3 true,.bool false,.bool false,.str [],.str [],.bool false,.str [],.str [],.str [99],.bool false,.int .i64 1,.int .i64 0,.sl zcc2_10 1 true,.bool false,.bool false,.str [],.str [],.bool false,.str [],.str [],.str [100],.bool false,.int .i64 1,.int .i64 0,.sl zcc2_7 1 true,.bool false,.bool false,.str [],.str [],.bool false,.str [],.str []] 4 true],.int .i64 2,.agg [.int .i64 1,.int .i64 0]] (.ret (.nilS)):=cD au (.nil)
theorem QQ:CO 16 [.agg [.nilS,.nilS,.sl [.str [97],.bool false,.int .i64 1,.int .i64 0,.sl zcc2_9 1 true,.bool false,.bool false,.str [],.str [],.bool false,.str [],.str [],.str [98],.bool false,.int .i64 1,.int .i64 0,.sl zcc2_1 3 true,.bool false,.bool false,.str [],.str [],.bool false,.str [],.str [],.str [99],.bool false,.int .i64 1,.int .i64 0,.sl zcc2_10 1 true,.bool false,.bool false,.str [],.str [],.bool false,.str [],.str [],.str [100],.bool false,.int .i64 1,.int .i64 0,.sl zcc2_7 1 true,.bool false,.bool false,.str [],.str [],.bool false,.str [],.str []] 4 true],.int .i64 2,.agg [.int .i64 1,.int .i64 2]] (.ret (.own [.int .i64 1,.int .i64 1] 1 2)):=cD au (.nil)
theorem QR:CO 16 [.agg [.nilS,.nilS,.sl [.str [97],.bool false,.int .i64 1,.int .i64 0,.sl zcc2_9 1 true,.bool false,.bool false,.str [],.str [],.bool false,.str [],.str [],.str [98],.bool false,.int .i64 1,.int .i64 0,.sl zcc2_1 3 true,.bool false,.bool false,.str [],.str [],.bool false,.str [],.str [],.str [99],.bool false,.int .i64 1,.int .i64 0,.sl zcc2_10 1 true,.bool false,.bool false,.str [],.str [],.bool false,.str [],.str [],.str [100],.bool false,.int .i64 1,.int .i64 0,.sl zcc2_7 1 true,.bool false,.bool false,.str [],.str [],.bool false,.str [],.str []] 4 true],.int .i64 2,.agg [.int .i64 1,.int .i64 3]] (.ret (.own [.int .i64 1,.int .i64 3] 1 2)):=cD au (.nil)
theorem QS:ae prog ap 48 [.mp [.agg [.int .i64 0,.int .i64 0],.agg [.int .i64 0,.int .i64 1],.agg [.int .i64 0,.int .i64 2],.agg [.int .i64 0,.int .i64 3],.agg [.int .i64 1,.int .i64 0],.agg [.int .i64 1,.int .i64 1],.agg [.int .i64 1,.int .i64 2],.agg [.int .i64 1,.int .i64 3]] [.nilS,.sl [.int .i64 0,.int .i64 0,.int .i64 1,.int .i64 2] 2 true,.sl [.int .i64 0,.int .i64 1] 1 true,.sl [.int .i64 0,.int .i64 3] 1 true,.nilS,.sl [.int .i64 0,.int .i64 2,.int .i64 1,.int .i64 0] 2 true,.sl [.int .i64 1,.int .i64 1] 1 true,.sl [.int .i64 1,.int .i64 3] 1 true],.ref 0 0 0 8] [⟨zcc2_0,0,false,0,2,true⟩] (.ret (.sl [.bool false,.sl [.int .i64 0,.int .i64 0] 1 true,.bool false,.sl [.int .i64 1,.int .i64 0] 1 true,.bool true,.sl zcc2_5 4 true,.bool true,.sl [.int .i64 0,.int .i64 3] 1 true,.bool true,.sl [.int .i64 1,.int .i64 3] 1 true] 5 true)) [⟨zcc2_0,0,false,0,2,true⟩]:=cD au (.nil)
theorem EO:ae prog ap 50 [.ifc 99 (.ptr 0 0 0),.ifc 66 (.agg [.bool false,.sl [.int .i64 1,.int .i64 0] 1 false])] [⟨[.ref 1 0 0 1,.ifc 101 (.agg [])],0,false,0,0,false⟩,⟨[.bool false,.sl [.int .i64 0,.int .i64 0] 1 false],0,false,0,2,true⟩] (.ret (.tup [])) [⟨[.ref 1 1 0 2,.ifc 101 (.agg [])],0,false,0,0,false⟩,⟨[.bool false,.sl [.int .i64 0,.int .i64 0] 1 false,.bool false,.sl [.int .i64 1,.int .i64 0] 1 false],1,false,0,2,true⟩]:=cD au (.nil)
theorem QT:ae prog ap 50 [.ifc 99 (.ptr 0 0 0),.ifc 66 (.agg [.bool true,.sl [.int .i64 0,.int .i64 3] 1 false])] [⟨[.ref 1 0 0 2,.ifc 101 (.agg [])],0,false,0,0,false⟩,⟨[.bool false,.sl [.int .i64 0,.int .i64 0] 1 false,.bool false,.sl [.int .i64 1,.int .i64 0] 1 false],0,false,0,2,true⟩] (.ret (.tup [])) [⟨[.ref 1 1 0 3,.ifc 101 (.agg [])],0,false,0,0,false⟩,⟨[.bool false,.sl [.int .i64 0,.int .i64 0] 1 false,.bool false,.sl [.int .i64 1,.int .i64 0] 1 false,.bool true,.sl [.int .i64 0,.int .i64 3] 1 false],1,false,0,2,true⟩]:=cD au (.nil)
theorem QU:ae prog ap 50 [.ifc 99 (.ptr 0 0 0),.ifc 66 (.agg [.bool true,.sl [.int .i64 1,.int .i64 3] 1 false])] [⟨[.ref 1 0 0 3,.ifc 101 (.agg [])],0,false,0,0,false⟩,⟨[.bool false,.sl [.int .i64 0,.int .i64 0] 1 false,.bool false,.sl [.int .i64 1,.int .i64 0] 1 false,.bool true,.sl [.int .i64 0,.int .i64 3] 1 false],0,false,0,2,true⟩] (.ret (.tup [])) [⟨[.ref 1 1 0 4,.ifc 101 (.agg [])],0,false,0,0,false⟩,⟨[.bool false,.sl [.int .i64 0,.int .i64 0] 1 false,.bool false,.sl [.int .i64 1,.int .i64 0] 1 false,.bool true,.sl [.int .i64 0,.int .i64 3] 1 false,.bool true,.sl [.int .i64 1,.int .i64 3] 1 false],1,false,0,2,true⟩]:=cD au (.nil)
theorem QV:ae prog ap 99 [.ifc 99 (.ptr 0 0 0),.int .i64 0,.int .i64 3] [⟨[.ref 1 0 0 4,.ifc 101 (.agg [])],0,false,0,0,false⟩,⟨[.bool true,.sl [.int .i64 1,.int .i64 3] 1 false,.bool false,.sl [.int .i64 1,.int .i64 0] 1 false,.bool true,.sl [.int .i64 0,.int .i64 3] 1 false,.bool false,.sl [.int .i64 0,.int .i64 0] 1 false],0,false,0,2,true⟩] (.ret (.bool true)) [⟨[.ref 1 0 0 4,.ifc 101 (.agg [])],0,false,0,0,false⟩,⟨[.bool true,.sl [.int .i64 0,.int .i64 3] 1 false,.bool false,.sl [.int .i64 1,.int .i64 0] 1 false,.bool true,.sl [.int .i64 1,.int .i64 3] 1 false,.bool false,.sl [.int .i64 0,.int .i64 0] 1 false],0,false,0,2,true⟩]:=cD au (.nil)
theorem QW:ae prog ap 349 [.ptr 0 0 0] [⟨[.ref 1 0 0 4,.ifc 101 (.agg [])],0,false,0,0,false⟩,⟨[.bool true,.sl [.int .i64 0,.int .i64 3] 1 false,.bool false,.sl [.int .i64 1,.int .i64 0] 1 false,.bool true,.sl [.int .i64 1,.int .i64 3] 1 false,.bool false,.sl [.int .i64 0,.int .i64 0] 1 false],0,false,0,2,true⟩] (.ret (.ifc 66 (.agg [.bool false,.sl [.int .i64 0,.int .i64 0] 1 false]))) [⟨[.ref 1 0 0 3,.ifc 101 (.agg [])],0,false,0,0,false⟩,⟨[.bool true,.sl [.int .i64 0,.int .i64 3] 1 false,.bool false,.sl [.int .i64 1,.int .i64 0] 1 false,.bool true,.sl [.int .i64 1,.int .i64 3] 1 false,.bool false,.sl [.int .i64 0,.int .i64 0] 1 false],0,false,0,2,true⟩]:=cD au (.nil)
theorem QX:ae prog ap 99 [.ifc 99 (.ptr 0 0 0),.int .i64 0,.int .i64 2] [⟨[.ref 1 0 0 3,.ifc 101 (.agg [])],0,false,0,0,false⟩,⟨[.bool true,.sl [.int .i64 1,.int .i64 3] 1 false,.bool false,.sl [.int .i64 1,.int .i64 0] 1 false,.bool true,.sl [.int .i64 0,.int .i64 3] 1 false,.bool false,.sl [.int .i64 0,.int .i64 0] 1 false],0,false,0,2,true⟩] (.ret (.bool true)) [⟨[.ref 1 0 0 3,.ifc 101 (.agg [])],0,false,0,0,false⟩,⟨[.bool false,.sl [.int .i64 1,.int .i64 0] 1 false,.bool true,.sl [.int .i64 1,.int .i64 3] 1 false,.bool true,.sl [.int .i64 0,.int .i64 3] 1 false,.bool false,.sl [.int .i64 0,.int .i64 0] 1 false],0,false,0,2,true⟩]:=cD au (.nil)
theorem QY:ae prog ap 349 [.ptr 0 0 0] [⟨[.ref 1 0 0 3,.ifc 101 (.agg [])],0,false,0,0,false⟩,⟨[.bool false,.sl [.int .i64 1,.int .i64 0] 1 false,.bool true,.sl [.int .i64 1,.int .i64 3] 1 false,.bool true,.sl [.int .i64 0,.int .i64 3] 1 false,.bool false,.sl [.int .i64 0,.int .i64 0] 1 false],0,false,0,2,true⟩] (.ret (.ifc 66 (.agg [.bool true,.sl [.int .i64 0,.int .i64 3] 1 false]))) [⟨[.ref 1 0 0 2,.ifc 101 (.agg [])],0,false,0,0,false⟩,⟨[.bool false,.sl [.int .i64 1,.int .i64 0] 1 false,.bool true,.sl [.int .i64 1,.int .i64 3] 1 false,.bool true,.sl [.int .i64 0,.int .i64 3] 1 false,.bool false,.sl [.int .i64 0,.int .i64 0] 1 false],0,false,0,2,true⟩]:=cD au (.nil)
theorem QZ:ae prog ap 99 [.ifc 99 (.ptr 0 0 0),.int .i64 0,.int .i64 1] [⟨[.ref 1 0 0 2,.ifc 101 (.agg [])],0,false,0,0,false⟩,⟨[.bool true,.sl [.int .i64 1,.int .i64 3] 1 false,.bool false,.sl [.int .i64 1,.int .i64 0] 1 false,.bool true,.sl [.int .i64 0,.int .i64 3] 1 false,.bool false,.sl [.int .i64 0,.int .i64 0] 1 false],0,false,0,2,true⟩] (.ret (.bool false)) [⟨[.ref 1 0 0 2,.ifc 101 (.agg [])],0,false,0,0,false⟩,⟨[.bool true,.sl [.int .i64 1,.int .i64 3] 1 false,.bool false,.sl [.int .i64 1,.int .i64 0] 1 false,.bool true,.sl [.int .i64 0,.int .i64 3] 1 false,.bool false,.sl [.int .i64 0,.int .i64 0] 1 false],0,false,0,2,true⟩]:=cD au (.nil)
theorem Q3:ae prog ap 349 [.ptr 0 0 0] [⟨[.ref 1 0 0 2,.ifc 101 (.agg [])],0,false,0,0,false⟩,⟨[.bool true,.sl [.int .i64 1,.int .i64 3] 1 false,.bool false,.sl [.int .i64 1,.int .i64 0] 1 false,.bool true,.sl [.int .i64 0,.int .i64 3] 1 false,.bool false,.sl [.int .i64 0,.int .i64 0] 1 false],0,false,0,2,true⟩] (.ret (.ifc 66 (.agg [.bool false,.sl [.int .i64 1,.int .i64 0] 1 false]))) [⟨[.ref 1 0 0 1,.ifc 101 (.agg [])],0,false,0,0,false⟩,⟨[.bool true,.sl [.int .i64 1,.int .i64 3] 1 false,.bool false,.sl [.int .i64 1,.int .i64 0] 1 false,.bool true,.sl [.int .i64 0,.int .i64 3] 1 false,.bool false,.sl [.int .i64 0,.int .i64 0] 1 false],0,false,0,2,true⟩]:=cD au (.nil)
theorem Q4:ae prog ap 50 [.ifc 99 (.ptr 0 0 0),.ifc 66 (.agg [.bool true,.sl zcc2_5 4 false])] [⟨[.ref 1 0 0 1,.ifc 101 (.agg [])],0,false,0,0,false⟩,⟨[.bool true,.sl [.int .i64 1,.int .i64 3] 1 false,.bool false,.sl [.int .i64 1,.int .i64 0] 1 false,.bool true,.sl [.int .i64 0,.int .i64 3] 1 false,.bool false,.sl [.int .i64 0,.int .i64 0] 1 false],0,false,0,2,true⟩] (.ret (.tup [])) [⟨[.ref 1 1 0 2,.ifc 101 (.agg [])],0,false,0,0,false⟩,⟨[.bool true,.sl zcc2_5 4 false,.bool true,.sl [.int .i64 1,.int .i64 3] 1 false],1,false,0,2,true⟩]:=cD au (.nil)
theorem Q5:ae prog ap 99 [.ifc 99 (.ptr 0 0 0),.int .i64 0,.int .i64 1] [⟨[.ref 1 0 0 2,.ifc 101 (.agg [])],0,false,0,0,false⟩,⟨[.bool true,.sl [.int .i64 1,.int .i64 3] 1 false,.bool true,.sl zcc2_5 4 false],0,false,0,2,true⟩] (.ret (.bool false)) [⟨[.ref 1 0 0 2,.ifc 101 (.agg [])],0,false,0,0,false⟩,⟨[.bool true,.sl [.int .i64 1,.int .i64 3] 1 false,.bool true,.sl zcc2_5 4 false],0,false,0,2,true⟩]:=cD au (.nil)
theorem Q7:ae prog ap 349 [.ptr 0 0 0] [⟨[.ref 1 0 0 2,.ifc 101 (.agg [])],0,false,0,0,false⟩,⟨[.bool true,.sl [.int .i64 1,.int .i64 3] 1 false,.bool true,.sl zcc2_5 4 false],0,false,0,2,true⟩] (.ret (.ifc 66 (.agg [.bool true,.sl zcc2_5 4 false]))) [⟨[.ref 1 0 0 1,.ifc 101 (.agg [])],0,false,0,0,false⟩,⟨[.bool true,.sl [.int .i64 1,.int .i64 3] 1 false,.bool true,.sl zcc2_5 4 false],0,false,0,2,true⟩]:=cD au (.nil)
theorem Q8:ae prog ap 99 [.ifc 99 (.ptr 0 0 0),.int .i64 0,.int .i64 0] [⟨[.ref 1 0 0 1,.ifc 101 (.agg [])],0,false,0,0,false⟩,⟨[.bool true,.sl [.int .i64 1,.int .i64 3] 1 false,.bool true,.sl zcc2_5 4 false],0,false,0,2,true⟩] (.ret (.bool false)) [⟨[.ref 1 0 0 1,.ifc 101 (.agg [])],0,false,0,0,false⟩,⟨[.bool true,.sl [.int .i64 1,.int .i64 3] 1 false,.bool true,.sl zcc2_5 4 false],0,false,0,2,true⟩]:=cD au (.nil)
theorem Q9:ae prog ap 349 [.ptr 0 0 0] [⟨[.ref 1 0 0 1,.ifc 101 (.agg [])],0,false,0,0,false⟩,⟨[.bool true,.sl [.int .i64 1,.int .i64 3] 1 false,.bool true,.sl zcc2_5 4 false],0,false,0,2,true⟩] (.ret (.ifc 66 (.agg [.bool true,.sl [.int .i64 1,.int .i64 3] 1 false]))) [⟨[.ref 1 0 0 0,.ifc 101 (.agg [])],0,false,0,0,false⟩,⟨[.bool true,.sl [.int .i64 1,.int .i64 3] 1 false,.bool true,.sl zcc2_5 4 false],0,false,0,2,true⟩]:=cD au (.nil)
theorem ML:ae prog ap 48 [.mp [.agg [.int .i64 0,.int .i64 0],.agg [.int .i64 0,.int .i64 1],.agg [.int .i64 0,.int .i64 2],.agg [.int .i64 1,.int .i64 0],.agg [.int .i64 1,.int .i64 1],.agg [.int .i64 1,.int .i64 2]] [.nilS,.sl [.int .i64 0,.int .i64 0,.int .i64 1,.int .i64 2] 2 true,.sl [.int .i64 0,.int .i64 1] 1 true,.nilS,.sl [.int .i64 0,.int .i64 2,.int .i64 1,.int .i64 0] 2 true,.sl [.int .i64 1,.int .i64 1] 1 true],.ref 0 0 0 6] [⟨[.int .i64 0,.int .i64 0,.int .i64 0,.int .i64 1,.int .i64 0,.int .i64 2,.int .i64 1,.int .i64 0,.int .i64 1,.int .i64 1,.int .i64 1,.int .i64 2],0,false,0,2,true⟩] (.ret (.sl [.bool false,.sl [.int .i64 0,.int .i64 0] 1 true,.bool false,.sl [.int .i64 1,.int .i64 0] 1 true,.bool true,.sl zcc2_5 4 true] 3 true)) [⟨[.int .i64 0,.int .i64 0,.int .i64 0,.int .i64 1,.int .i64 0,.int .i64 2,.int .i64 1,.int .i64 0,.int .i64 1,.int .i64 1,.int .i64 1,.int .i64 2],0,false,0,2,true⟩]:=cD au (.nil)
theorem MM:ae prog ap 99 [.ifc 99 (.ptr 0 0 0),.int .i64 0,.int .i64 1] [⟨[.ref 1 0 0 2,.ifc 101 (.agg [])],0,false,0,0,false⟩,⟨[.bool false,.sl [.int .i64 1,.int .i64 0] 1 false,.bool false,.sl [.int .i64 0,.int .i64 0] 1 false],0,false,0,2,true⟩] (.ret (.bool false)) [⟨[.ref 1 0 0 2,.ifc 101 (.agg [])],0,false,0,0,false⟩,⟨[.bool false,.sl [.int .i64 1,.int .i64 0] 1 false,.bool false,.sl [.int .i64 0,.int .i64 0] 1 false],0,false,0,2,true⟩]:=cD au (.nil)
theorem MN:ae prog ap 349 [.ptr 0 0 0] [⟨[.ref 1 0 0 2,.ifc 101 (.agg [])],0,false,0,0,false⟩,⟨[.bool false,.sl [.int .i64 1,.int .i64 0] 1 false,.bool false,.sl [.int .i64 0,.int .i64 0] 1 false],0,false,0,2,true⟩] (.ret (.ifc 66 (.agg [.bool false,.sl [.int .i64 0,.int .i64 0] 1 false]))) [⟨[.ref 1 0 0 1,.ifc 101 (.agg [])],0,false,0,0,false⟩,⟨[.bool false,.sl [.int .i64 1,.int .i64 0] 1 false,.bool false,.sl [.int .i64 0,.int .i64 0] 1 false],0,false,0,2,true⟩]:=cD au (.nil)
theorem MO:ae prog ap 99 [.ifc 99 (.ptr 0 0 0),.int .i64 0,.int .i64 0] [⟨[.ref 1 0 0 1,.ifc 101 (.agg [])],0,false,0,0,false⟩,⟨[.bool false,.sl [.int .i64 1,.int .i64 0] 1 false,.bool false,.sl [.int .i64 0,.int .i64 0] 1 false],0,false,0,2,true⟩] (.ret (.bool false)) [⟨[.ref 1 0 0 1,.ifc 101 (.agg [])],0,false,0,0,false⟩,⟨[.bool false,.sl [.int .i64 1,.int .i64 0] 1 false,.bool false,.sl [.int .i64 0,.int .i64 0] 1 false],0,false,0,2,true⟩]:=cD au (.nil)
theorem MP:ae prog ap 349 [.ptr 0 0 0] [⟨[.ref 1 0 0 1,.ifc 101 (.agg [])],0,false,0,0,false⟩,⟨[.bool false,.sl [.int .i64 1,.int .i64 0] 1 false,.bool false,.sl [.int .i64 0,.int .i64 0] 1 false],0,false,0,2,true⟩] (.ret (.ifc 66 (.agg [.bool false,.sl [.int .i64 1,.int .i64 0] 1 false]))) [⟨[.ref 1 0 0 0,.ifc 101 (.agg [])],0,false,0,0,false⟩,⟨[.bool false,.sl [.int .i64 1,.int .i64 0] 1 false,.bool false,.sl [.int .i64 0,.int .i64 0] 1 false],0,false,0,2,true⟩]:=cD au (.nil)
theorem MQ:ae prog ap 50 [.ifc 99 (.ptr 0 0 0),.ifc 66 (.agg [.bool true,.sl zcc2_5 4 false])] [⟨[.ref 1 0 0 0,.ifc 101 (.agg [])],0,false,0,0,false⟩,⟨[.bool false,.sl [.int .i64 1,.int .i64 0] 1 false,.bool false,.sl [.int .i64 0,.int .i64 0] 1 false],0,false,0,2,true⟩] (.ret (.tup [])) [⟨[.ref 1 1 0 1,.ifc 101 (.agg [])],0,false,0,0,false⟩,⟨[.bool true,.sl zcc2_5 4 false],1,false,0,2,true⟩]:=cD au (.nil)
theorem MR:ae prog ap 99 [.ifc 99 (.ptr 0 0 0),.int .i64 0,.int .i64 0] [⟨[.ref 1 0 0 1,.ifc 101 (.agg [])],0,false,0,0,false⟩,⟨[.bool true,.sl zcc2_5 4 false],0,false,0,2,true⟩] (.ret (.bool false)) [⟨[.ref 1 0 0 1,.ifc 101 (.agg [])],0,false,0,0,false⟩,⟨[.bool true,.sl zcc2_5 4 false],0,false,0,2,true⟩]:=cD au (.nil)
theorem MS:ae prog ap 349 [.ptr 0 0 0] [⟨[.ref 1 0 0 1,.ifc 101 (.agg [])],0,false,0,0,false⟩,⟨[.bool true,.sl zcc2_5 4 false],0,false,0,2,true⟩] (.ret (.ifc 66 (.agg [.bool true,.sl zcc2_5 4 false]))) [⟨[.ref 1 0 0 0,.ifc 101 (.agg [])],0,false,0,0,false⟩,⟨[.bool true,.sl zcc2_5 4 false],0,false,0,2,true⟩]:=cD au (.nil)
theorem wB:CO 239 [.str [1],.str [1]] (.ret (.str [1])):=cD au (.nil)
theorem eY:CO 240 [.str [1],.str [1]] (.ret (.tup [.str [1],.str [],.bool true])):=cD au (.nil)
theorem wC:CO 193 [.int .i64 0] (.ret (.str [])):=cD au (.nil)
theorem oN:CO 193 [.int .i64 1] (.ret (.str [1])):=cD au (.nil)
theorem YZ:CO 150 [.agg [.sl [.str [98],.bool false,.int .i64 0,.int .i64 0] 1 true,.nilS,.sl [.str [97],.bool false,.int .i64 0,.int .i64 0,.sl zcc2_8 1 true,.bool false,.bool false,.str [1],.str [1],.bool false,.str [9],.str [1]] 1 true]] (.ret (.int .i64 0)):=LC
theorem Rj:CO 111 [.sl zcc2_8 1 false] (.ret (.int .i64 0)):=cD au (.nil)
theorem EP:CO 239 [.str [9],.str [1]] (.ret (.str [1])):=cD au (.nil)
theorem EQ:CO 240 [.str [9],.str [1]] (.ret (.tup [.str [9],.str [],.bool true])):=cD au (.nil)
theorem Y0:CO 250 [.agg [.bool false,.str [9],.str [1]],.agg [.bool false,.str [1],.str [1]]] (.ret (.tup [.agg [.bool false,.str [9],.str [1]],.bool true])):=cD au (.c eY (.c EQ (.c EP (.c eY (.c eY (.c wB (.c eY (.c EQ (.c EP .nil)))))))))
theorem Y1:CO 193 [.int .i64 200] (.ret (.str [200])):=cD au (.nil)
theorem Rk:CO 239 [.str [200],.str [1]] (.ret (.str [1])):=cD au (.nil)
theorem Rl:CO 240 [.str [200],.str [1]] (.ret (.tup [.str [200],.str [],.bool true])):=cD au (.nil)
theorem Y2:CO 269 [.agg [.bool false,.str [200],.str [1]]] (.ret (.agg [.bool true,.str [200],.str [1]])):=cD au (.c eY (.c Rl (.c Rk .nil)))
theorem Y3:CO 315 [.sl [.int .u32 200] 1 true,.sl [.int .u32 9] 1 true] (.ret (.sl [.int .u32 191] 1 true)):=cD au (.nil)
theorem Rn:CO 239 [.str [191],.str [1]] (.ret (.str [1])):=cD au (.nil)
theorem Ro:CO 240 [.str [191],.str [1]] (.ret (.tup [.str [191],.str [],.bool true])):=cD au (.nil)
theorem Y4:CO 204 [.agg [.bool false,.str [9],.str [1]],.agg [.bool false,.str [200],.str [1]]] (.ret (.int .i64 (-1))):=cD au (.c oN (.c wC (.c eY (.c Ro (.c Rn (.c eY (.c Ro (.c Rn (.c Y3 (.c eY (.c Rl (.c Rk (.c eY (.c EQ (.c EP (.c Y2 .nil))))))))))))))))
theorem ER:CO 110 [.agg [.sl [.str [98],.bool false,.int .i64 0,.int .i64 0] 1 true,.nilS,.sl [.str [97],.bool false,.int .i64 0,.int .i64 0,.sl zcc2_8 1 true,.bool false,.bool false,.str [1],.str [1],.bool false,.str [9],.str [1]] 1 true]] (.ret (.int .i64 0)):=cD au (.c Y4 (.c oN (.c Y1 (.c oN (.c wC (.c eY (.c EQ (.c EP (.c oN (.c oN (.c Y0 (.c oN (.c wC (.c eY (.c eY (.c wB (.c eY (.c EQ (.c EP (.c eY (.c eY (.c wB (.c Rj (.c Rj (.c YZ .nil)))))))))))))))))))))))))
end Go.Proofs.Tryz
namespace Go.Proofs.Tryz
open Go AM
theorem cE (b:List Nat) {ans:List (fP × List aJ)} {ps:List Prop} {f:Nat} {args:List AV} {h a:List aJ} {out:fP} (hp:PS prog ap ps ans [] [])
  (he:jH ap (Dh prog ap 3000 b 24) 3000 .dead f args h ⟨true,[],[],[],ans,[]⟩= .ok (out,a,.dead) ⟨true,[],[],ps,[],[]⟩:=by kernel_rfl):ae prog ap f args h out a:=Gp jY.apok jY.mixed jY.fnok he ⟨fun _ c=>(by cases c),hp.all.mem⟩
theorem cU (b:List Nat) {ans:List (fP × List aJ)} {ps:List Prop} {hs:List qK} {f:Nat} {args:List AV} {h a:List aJ} {out:fP} (hp:PS prog ap ps ans [] hs)
  (he:jH ap (Dh prog ap 3000 b 24) 3000 .dead f args h ⟨true,[],[],[],ans,hs⟩= .ok (out,a,.dead) ⟨true,[],[],ps,[],[]⟩:=by kernel_rfl):ae prog ap f args h out a:=Gp jY.apok jY.mixed jY.fnok he ⟨fun _ c=>(by cases c),hp.all.mem⟩
end Go.Proofs.Tryz
