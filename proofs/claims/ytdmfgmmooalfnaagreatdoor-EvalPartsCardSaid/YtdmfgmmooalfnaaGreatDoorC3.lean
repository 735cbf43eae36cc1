/- Contracts of functions that the law reaches, each by its own hypotheses; joined by a program of mine. -/
import Derived.Test.YtdmfgmmooalfnaaGreatDoorC2
import Derived.Test.YtdmfgmmooalfnaaGreatDoorM5
import Derived.Test.YtdmfgmmooalfnaaGreatDoorC1
set_option linter.unusedSimpArgs false
set_option linter.unusedVariables false
set_option maxRecDepth 100000
set_option linter.unusedVariables false
open Go AM
namespace Go.Proofs.Tryz
abbrev zcc3_0 : List UInt8 := [115,105,110,103,108,101]
abbrev zcc3_1 : List UInt8 := [105,110,99,111,109,101]
abbrev zcc3_2 : List UInt8 := [115,99,97,108,101]
abbrev zcc3_3 : List UInt8 := [98,97,115,105,99]
inductive Oq where
 |err (e:Int)
 |val (q:RQ)
def Oq.n:Oq→Bool| .err _=>false| .val q=>q.neg
def Oq.a:Oq→List UInt8| .err _=> []| .val q=>ae q.n
def Oq.d:Oq→List UInt8| .err _=> []| .val q=>ae q.d
def Oq.e:Oq→Int| .err e=>e| .val _=>0
def Oq.q:Oq→RQ| .err _=>q0| .val q=>q
def Cc (o:Oq):List AV:= [.bool o.n,.str o.a,.str o.d,.int .i64 o.e]
abbrev fH (o:Oq):AV:= .agg [.bool o.n,.str o.a,.str o.d,.int .i64 o.e]
noncomputable def Qu (t:Nat):AV→Bool:=match ap.tyAt t with|some ti=>kD ti|none=>fun _=>false
theorem iJ (e:Int):CO 41 [.int .i64 e] (.ret (.agg [.bool false,.str [],.str [],.int .i64 e])):=pK [] 0 0 (.n 5 .nil) (.nil)
theorem ad6 (n:Bool) (a d:List UInt8) (e:Int) (f:lit true (!(e==((0:Nat):Int)))=true) (c:CO 41 [.int .i64 e] (.ret (.agg [.bool false,.str [],.str [],.int .i64 e]))):CO 43 [.agg [.bool n,.str a,.str d,.int .i64 e]] (.ret (.agg [.bool false,.str [],.str [],.int .i64 e])):=pK [] 1 1 (.k 6 f (.n 1 .nil)) (.c c .nil)
theorem ad7 (n:Bool) (a d:List UInt8) (e:Int) (h:lit true (!(fC n a d))=true) (f:lit false (!(e==((0:Nat):Int)))=true) (c:CO 70 [.agg [.bool n,.str a,.str d]] (.ret (.bool (fC n a d)))) (g:CO 41 [.int .i64 3] (.ret (.agg [.bool false,.str [],.str [],.int .i64 3]))):CO 43 [.agg [.bool n,.str a,.str d,.int .i64 e]] (.ret (.agg [.bool false,.str [],.str [],.int .i64 3])):=pK [] 2 2 (.k 5 h (.k 3 f (.n 1 .nil))) (.c g (.c c .nil))
theorem ad8 (n:Bool) (a d:List UInt8) (e:Int) (g:lit false (!(fC n a d))=true) (f:lit false (!(e==((0:Nat):Int)))=true) (c:CO 70 [.agg [.bool n,.str a,.str d]] (.ret (.bool (fC n a d)))):CO 43 [.agg [.bool n,.str a,.str d,.int .i64 e]] (.ret (.agg [.bool n,.str a,.str d,.int .i64 e])):=pK [] 2 0 (.k 9 g (.k 3 f (.n 1 .nil))) (.c c .nil)
theorem aeh (n:Bool) (a d:List UInt8) (o:Oq) (c:CO 43 [.agg [.bool n,.str a,.str d,.int .i64 0]] (.ret (fH o))):CO 124 [.agg [.bool n,.str a,.str d]] (.ret (fH o)):=pK [] 0 0 (.n 8 .nil) (.c c .nil)
theorem aee (b:Bool) (o:Oq) (e:lit true b=true) (c:CO 42 [.int .i64 1] (.ret (.agg [.bool false,.str (ae 1),.str (ae 1)]))) (d:CO 124 [.agg [.bool false,.str (ae 1),.str (ae 1)]] (.ret (fH o))):CO 126 [.bool b] (.ret (fH o)):=pK [] 1 1 (.k 5 e .nil) (.c d (.c c .nil))
theorem aef (b:Bool) (o:Oq) (e:lit false b=true) (c:CO 42 [.int .i64 0] (.ret (.agg [.bool false,.str (ae 0),.str (ae 1)]))) (d:CO 124 [.agg [.bool false,.str (ae 0),.str (ae 1)]] (.ret (fH o))):CO 126 [.bool b] (.ret (fH o)):=pK [] 1 0 (.k 5 e .nil) (.c d (.c c .nil))
theorem adM (n:Bool) (a d:List UInt8) (e:lit true ((n==false) && ((a==(ae 1)) && ((d==(ae 1)) && true)))=true) (c:CO 42 [.int .i64 1] (.ret (.agg [.bool false,.str (ae 1),.str (ae 1)]))):CO 128 [.agg [.bool n,.str a,.str d]] (.ret (.tup [.bool ((n==false) && ((a==(ae 1)) && ((d==(ae 1)) && true))),.bool true])):=pK [] 1 1 (.c e (.n 3 .nil)) (.c c .nil)
theorem adN (n:Bool) (a d:List UInt8) (f:lit false ((n==false) && ((a==(ae 1)) && ((d==(ae 1)) && true)))=true) (c:CO 42 [.int .i64 1] (.ret (.agg [.bool false,.str (ae 1),.str (ae 1)]))) (e:CO 42 [.int .i64 0] (.ret (.agg [.bool false,.str (ae 0),.str (ae 1)]))):CO 128 [.agg [.bool n,.str a,.str d]] (.ret (.tup [.bool ((n==false) && ((a==(ae 1)) && ((d==(ae 1)) && true))),.bool ((n==false) && ((a==(ae 0)) && ((d==(ae 1)) && true)))])):=pK [] 1 0 (.k 3 f (.n 3 .nil)) (.c e (.c c .nil))
theorem adO (f nn:Bool) (d e c:List UInt8) (op:Int) (o:Oq) (ks vs g h xs:List AV) (k:Nat) (i:CO 124 [.agg [.bool f,.str d,.str e]] (.ret (fH o))):CO 75 [.agg [.mp ks vs,.mp g h],.agg [.int .i64 op,.bool f,.str d,.str e,.str c],.sl xs k nn] (.ret (fH o)):=pK [] 0 0 (.n 8 .nil) (.c i .nil)
theorem adP (o nn d:Bool) (j m c:List UInt8) (op:Int) (i:Oq) (ks vs e f xs:List AV) (k:Nat) (g:AV.tup [(Option.getD (dM ks vs (.agg [.int .i64 op,.str c])) (.agg [.bool false,.str [],.str [],.int .i64 0])),.bool (Option.isSome (dM ks vs (.agg [.int .i64 op,.str c])))]= .tup [fH i,.bool d]) (p:lit true (!d)=true) (n:(List.all ks (Qu 134))=true) (h:CO 41 [.int .i64 12] (.ret (.agg [.bool false,.str [],.str [],.int .i64 12]))):CO 76 [.agg [.mp ks vs,.mp e f],.agg [.int .i64 op,.bool o,.str j,.str m,.str c],.sl xs k nn] (.ret (.agg [.bool false,.str [],.str [],.int .i64 12])):=pK [] 1 1 (.k 5 p (.k 2 n (.n 3 .nil))) (.c h (.v 17 (.eq g) .nil))
theorem adQ (n nn e:Bool) (i j c:List UInt8) (op:Int) (d:Oq) (ks vs f g xs:List AV) (k:Nat) (h:AV.tup [(Option.getD (dM ks vs (.agg [.int .i64 op,.str c])) (.agg [.bool false,.str [],.str [],.int .i64 0])),.bool (Option.isSome (dM ks vs (.agg [.int .i64 op,.str c])))]= .tup [fH d,.bool e]) (o:lit false (!e)=true) (m:(List.all ks (Qu 134))=true):CO 76 [.agg [.mp ks vs,.mp f g],.agg [.int .i64 op,.bool n,.str i,.str j,.str c],.sl xs k nn] (.ret (fH d)):=pK [] 1 0 (.k 9 o (.k 2 m (.n 3 .nil))) (.v 17 (.eq h) .nil)
theorem adH (m nn p o:Bool) (j k d:List UInt8) (op:Int) (c f e:Oq) (ks vs g h:List AV) (n:lit true (!(c.e==((0:Nat):Int)))=true) (i:CO 128 [.agg [.bool c.n,.str c.a,.str c.d]] (.ret (.tup [.bool p,.bool o]))):CO 77 [.agg [.mp ks vs,.mp g h],.agg [.int .i64 op,.bool m,.str j,.str k,.str d],.sl [.bool c.n,.str c.a,.str c.d,.int .i64 c.e,.bool f.n,.str f.a,.str f.d,.int .i64 f.e,.bool e.n,.str e.a,.str e.d,.int .i64 e.e] 3 nn] (.ret (fH c)):=pK [] 1 1 (.k 11 n (.n 8 .nil)) (.c i .nil)
theorem adI (i nn j g:Bool) (m n d:List UInt8) (op:Int) (c e f:Oq) (ks vs k q:List AV) (p:lit true (!g)=true) (h:lit false (!(c.e==((0:Nat):Int)))=true) (r:CO 128 [.agg [.bool c.n,.str c.a,.str c.d]] (.ret (.tup [.bool j,.bool g]))) (o:CO 41 [.int .i64 13] (.ret (.agg [.bool false,.str [],.str [],.int .i64 13]))):CO 77 [.agg [.mp ks vs,.mp k q],.agg [.int .i64 op,.bool i,.str m,.str n,.str d],.sl [.bool c.n,.str c.a,.str c.d,.int .i64 c.e,.bool e.n,.str e.a,.str e.d,.int .i64 e.e,.bool f.n,.str f.a,.str f.d,.int .i64 f.e] 3 nn] (.ret (.agg [.bool false,.str [],.str [],.int .i64 13])):=pK [] 2 2 (.k 5 p (.c h (.n 8 .nil))) (.c o (.c r .nil))
theorem adJ (j nn g h:Bool) (m n d:List UInt8) (op:Int) (c e f:Oq) (ks vs k q:List AV) (p:lit true g=true) (i:lit false (!h)=true) (o:lit false (!(c.e==((0:Nat):Int)))=true) (r:CO 128 [.agg [.bool c.n,.str c.a,.str c.d]] (.ret (.tup [.bool g,.bool h]))):CO 77 [.agg [.mp ks vs,.mp k q],.agg [.int .i64 op,.bool j,.str m,.str n,.str d],.sl [.bool c.n,.str c.a,.str c.d,.int .i64 c.e,.bool e.n,.str e.a,.str e.d,.int .i64 e.e,.bool f.n,.str f.a,.str f.d,.int .i64 f.e] 3 nn] (.ret (fH e)):=pK [] 3 4 (.k 11 p (.c i (.c o (.n 8 .nil)))) (.c r .nil)
theorem adK (j nn g h:Bool) (m n d:List UInt8) (op:Int) (c f e:Oq) (ks vs k q:List AV) (p:lit false g=true) (i:lit false (!h)=true) (o:lit false (!(c.e==((0:Nat):Int)))=true) (r:CO 128 [.agg [.bool c.n,.str c.a,.str c.d]] (.ret (.tup [.bool g,.bool h]))):CO 77 [.agg [.mp ks vs,.mp k q],.agg [.int .i64 op,.bool j,.str m,.str n,.str d],.sl [.bool c.n,.str c.a,.str c.d,.int .i64 c.e,.bool f.n,.str f.a,.str f.d,.int .i64 f.e,.bool e.n,.str e.a,.str e.d,.int .i64 e.e] 3 nn] (.ret (fH e)):=pK [] 3 0 (.k 11 p (.c i (.c o (.n 8 .nil)))) (.c r .nil)
theorem ZB (n nn:Bool) (i k e:List UInt8) (o c d:Oq) (r:RQ) (ks vs f g:List AV) (h:CO 123 [.int .i64 9] (.ret (.fn 167 [] []))) (m:CO 167 [.agg [.bool c.n,.str c.a,.str c.d],.agg [.bool d.n,.str d.a,.str d.d]] (.ret (.agg [.bool r.neg,.str (ae r.n),.str (ae r.d)]))) (j:CO 124 [.agg [.bool r.neg,.str (ae r.n),.str (ae r.d)]] (.ret (fH o))):CO 74 [.agg [.mp ks vs,.mp f g],.agg [.int .i64 9,.bool n,.str i,.str k,.str e],.sl [.bool c.n,.str c.a,.str c.d,.int .i64 c.e,.bool d.n,.str d.a,.str d.d,.int .i64 d.e] 2 nn] (.ret (fH o)):=pK [] 1 1 (.n 25 .nil) (.c j (.c m (.c h .nil)))
theorem Zr:CO 123 [.int .i64 9] (.ret (.fn 167 [] [])):=pK [] 1 1 (.n 1 .nil) (.nil)
theorem VM (n nn:Bool) (i k e:List UInt8) (o c d:Oq) (r:RQ) (ks vs f g:List AV) (h:CO 123 [.int .i64 10] (.ret (.fn 168 [] []))) (m:CO 168 [.agg [.bool c.n,.str c.a,.str c.d],.agg [.bool d.n,.str d.a,.str d.d]] (.ret (.agg [.bool r.neg,.str (ae r.n),.str (ae r.d)]))) (j:CO 124 [.agg [.bool r.neg,.str (ae r.n),.str (ae r.d)]] (.ret (fH o))):CO 74 [.agg [.mp ks vs,.mp f g],.agg [.int .i64 10,.bool n,.str i,.str k,.str e],.sl [.bool c.n,.str c.a,.str c.d,.int .i64 c.e,.bool d.n,.str d.a,.str d.d,.int .i64 d.e] 2 nn] (.ret (fH o)):=pK [] 1 1 (.n 25 .nil) (.c j (.c m (.c h .nil)))
theorem VB:CO 123 [.int .i64 10] (.ret (.fn 168 [] [])):=pK [] 2 2 (.n 2 .nil) (.nil)
theorem VN (n nn:Bool) (i k e:List UInt8) (o c d:Oq) (r:RQ) (ks vs f g:List AV) (h:CO 123 [.int .i64 11] (.ret (.fn 169 [] []))) (m:CO 169 [.agg [.bool c.n,.str c.a,.str c.d],.agg [.bool d.n,.str d.a,.str d.d]] (.ret (.agg [.bool r.neg,.str (ae r.n),.str (ae r.d)]))) (j:CO 124 [.agg [.bool r.neg,.str (ae r.n),.str (ae r.d)]] (.ret (fH o))):CO 74 [.agg [.mp ks vs,.mp f g],.agg [.int .i64 11,.bool n,.str i,.str k,.str e],.sl [.bool c.n,.str c.a,.str c.d,.int .i64 c.e,.bool d.n,.str d.a,.str d.d,.int .i64 d.e] 2 nn] (.ret (fH o)):=pK [] 1 1 (.n 25 .nil) (.c j (.c m (.c h .nil)))
theorem VC:CO 123 [.int .i64 11] (.ret (.fn 169 [] [])):=pK [] 3 4 (.n 3 .nil) (.nil)
theorem VO (n nn:Bool) (i k e:List UInt8) (o c d:Oq) (r:RQ) (ks vs f g:List AV) (h:CO 123 [.int .i64 12] (.ret (.nilF))) (m:CO 125 [.agg [.bool c.n,.str c.a,.str c.d],.agg [.bool d.n,.str d.a,.str d.d]] (.ret (.tup [.agg [.bool r.neg,.str (ae r.n),.str (ae r.d)],.bool true]))) (j:CO 124 [.agg [.bool r.neg,.str (ae r.n),.str (ae r.d)]] (.ret (fH o))):CO 74 [.agg [.mp ks vs,.mp f g],.agg [.int .i64 12,.bool n,.str i,.str k,.str e],.sl [.bool c.n,.str c.a,.str c.d,.int .i64 c.e,.bool d.n,.str d.a,.str d.d,.int .i64 d.e] 2 nn] (.ret (fH o)):=pK [] 3 2 (.n 32 .nil) (.c j (.c m (.c h .nil)))
theorem SX (n nn:Bool) (i k e:List UInt8) (c d:Oq) (ks vs f g:List AV) (h:CO 123 [.int .i64 12] (.ret (.nilF))) (m:CO 125 [.agg [.bool c.n,.str c.a,.str c.d],.agg [.bool d.n,.str d.a,.str d.d]] (.ret (.tup [.agg [.bool false,.str [],.str []],.bool false]))) (j:CO 41 [.int .i64 16] (.ret (.agg [.bool false,.str [],.str [],.int .i64 16]))):CO 74 [.agg [.mp ks vs,.mp f g],.agg [.int .i64 12,.bool n,.str i,.str k,.str e],.sl [.bool c.n,.str c.a,.str c.d,.int .i64 c.e,.bool d.n,.str d.a,.str d.d,.int .i64 d.e] 2 nn] (.ret (.agg [.bool false,.str [],.str [],.int .i64 16])):=pK [] 3 6 (.n 29 .nil) (.c j (.c m (.c h .nil)))
theorem KG:CO 123 [.int .i64 12] (.ret (.nilF)):=pK [] 5 0 (.n 5 .nil) (.nil)
theorem KO (n q nn:Bool) (a d j m f:List UInt8) (o c e:Oq) (ks vs g h:List AV) (i:CO 123 [.int .i64 13] (.ret (.fn 166 [] [.pp [.int .i64 1] 0]))) (p:CO 166 [.agg [.bool c.n,.str c.a,.str c.d],.agg [.bool e.n,.str e.a,.str e.d],.pp [.int .i64 1] 0] (.ret (.agg [.bool n,.str a,.str d]))) (k:CO 124 [.agg [.bool n,.str a,.str d]] (.ret (fH o))):CO 74 [.agg [.mp ks vs,.mp g h],.agg [.int .i64 13,.bool q,.str j,.str m,.str f],.sl [.bool c.n,.str c.a,.str c.d,.int .i64 c.e,.bool e.n,.str e.a,.str e.d,.int .i64 e.e] 2 nn] (.ret (fH o)):=pK [] 1 1 (.n 25 .nil) (.c k (.c p (.c i .nil)))
theorem KH (c:CO 165 [.int .i64 1] (.ret (.fn 166 [] [.pp [.int .i64 1] 0]))):CO 123 [.int .i64 13] (.ret (.fn 166 [] [.pp [.int .i64 1] 0])):=pK [] 4 8 (.n 4 .nil) (.c c .nil)
theorem KP (n q nn:Bool) (a d j m f:List UInt8) (o c e:Oq) (ks vs g h:List AV) (i:CO 123 [.int .i64 14] (.ret (.fn 166 [] [.pp [.int .i64 (-1)] 0]))) (p:CO 166 [.agg [.bool c.n,.str c.a,.str c.d],.agg [.bool e.n,.str e.a,.str e.d],.pp [.int .i64 (-1)] 0] (.ret (.agg [.bool n,.str a,.str d]))) (k:CO 124 [.agg [.bool n,.str a,.str d]] (.ret (fH o))):CO 74 [.agg [.mp ks vs,.mp g h],.agg [.int .i64 14,.bool q,.str j,.str m,.str f],.sl [.bool c.n,.str c.a,.str c.d,.int .i64 c.e,.bool e.n,.str e.a,.str e.d,.int .i64 e.e] 2 nn] (.ret (fH o)):=pK [] 1 1 (.n 25 .nil) (.c k (.c p (.c i .nil)))
theorem KI (c:CO 165 [.int .i64 (-1)] (.ret (.fn 166 [] [.pp [.int .i64 (-1)] 0]))):CO 123 [.int .i64 14] (.ret (.fn 166 [] [.pp [.int .i64 (-1)] 0])):=pK [] 5 16 (.n 5 .nil) (.c c .nil)
theorem VP (p nn:Bool) (j m e:List UInt8) (g:Int) (o c d:Oq) (ks vs f h:List AV) (i:CO 123 [.int .i64 16] (.ret (.nilF))) (n:CO 127 [.agg [.bool c.n,.str c.a,.str c.d],.agg [.bool d.n,.str d.a,.str d.d]] (.ret (.int .i64 g))) (k:CO 126 [.bool (decide (g<((0:Nat):Int)))] (.ret (fH o))):CO 74 [.agg [.mp ks vs,.mp f h],.agg [.int .i64 16,.bool p,.str j,.str m,.str e],.sl [.bool c.n,.str c.a,.str c.d,.int .i64 c.e,.bool d.n,.str d.a,.str d.d,.int .i64 d.e] 2 nn] (.ret (fH o)):=pK [] 3 4 (.n 28 .nil) (.c k (.c n (.c i .nil)))
theorem VD:CO 123 [.int .i64 16] (.ret (.nilF)):=pK [] 5 0 (.n 5 .nil) (.nil)
theorem VQ (m nn:Bool) (i j e:List UInt8) (o c d:Oq) (ks vs f g:List AV) (h:CO 123 [.int .i64 17] (.ret (.nilF))) (k:CO 126 [.bool ((c.n==d.n) && ((c.a==d.a) && ((c.d==d.d) && true)))] (.ret (fH o))):CO 74 [.agg [.mp ks vs,.mp f g],.agg [.int .i64 17,.bool m,.str i,.str j,.str e],.sl [.bool c.n,.str c.a,.str c.d,.int .i64 c.e,.bool d.n,.str d.a,.str d.d,.int .i64 d.e] 2 nn] (.ret (fH o)):=pK [] 4 8 (.n 29 .nil) (.c k (.c h .nil))
theorem VE:CO 123 [.int .i64 17] (.ret (.nilF)):=pK [] 5 0 (.n 5 .nil) (.nil)
theorem VS (i nn j f h t:Bool) (m n e:List UInt8) (d c:Oq) (ks vs k q:List AV) (p:lit true (!f)=true) (u:CO 123 [.int .i64 18] (.ret (.nilF))) (o:CO 128 [.agg [.bool d.n,.str d.a,.str d.d]] (.ret (.tup [.bool j,.bool f]))) (g:CO 128 [.agg [.bool c.n,.str c.a,.str c.d]] (.ret (.tup [.bool h,.bool t]))) (r:CO 41 [.int .i64 13] (.ret (.agg [.bool false,.str [],.str [],.int .i64 13]))):CO 74 [.agg [.mp ks vs,.mp k q],.agg [.int .i64 18,.bool i,.str m,.str n,.str e],.sl [.bool d.n,.str d.a,.str d.d,.int .i64 d.e,.bool c.n,.str c.a,.str c.d,.int .i64 c.e] 2 nn] (.ret (.agg [.bool false,.str [],.str [],.int .i64 13])):=pK [] 6 48 (.k 6 p (.n 24 .nil)) (.c r (.c g (.c o (.c u .nil))))
theorem VT (k nn m g j f:Bool) (o p e:List UInt8) (d c:Oq) (ks vs n t:List AV) (r:lit true (!f)=true) (i:lit false (!g)=true) (v:CO 123 [.int .i64 18] (.ret (.nilF))) (q:CO 128 [.agg [.bool d.n,.str d.a,.str d.d]] (.ret (.tup [.bool m,.bool g]))) (h:CO 128 [.agg [.bool c.n,.str c.a,.str c.d]] (.ret (.tup [.bool j,.bool f]))) (u:CO 41 [.int .i64 13] (.ret (.agg [.bool false,.str [],.str [],.int .i64 13]))):CO 74 [.agg [.mp ks vs,.mp n t],.agg [.int .i64 18,.bool k,.str o,.str p,.str e],.sl [.bool d.n,.str d.a,.str d.d,.int .i64 d.e,.bool c.n,.str c.a,.str c.d,.int .i64 c.e] 2 nn] (.ret (.agg [.bool false,.str [],.str [],.int .i64 13])):=pK [] 6 32 (.k 5 r (.c i (.n 24 .nil))) (.c u (.c h (.c q (.c v .nil))))
theorem VU (m nn g i f h:Bool) (p q e:List UInt8) (o d c:Oq) (ks vs n v:List AV) (u:lit true g=true) (k:lit false (!h)=true) (r:lit false (!i)=true) (y:CO 123 [.int .i64 18] (.ret (.nilF))) (t:CO 128 [.agg [.bool d.n,.str d.a,.str d.d]] (.ret (.tup [.bool g,.bool i]))) (j:CO 128 [.agg [.bool c.n,.str c.a,.str c.d]] (.ret (.tup [.bool f,.bool h]))) (w:CO 126 [.bool f] (.ret (fH o))):CO 74 [.agg [.mp ks vs,.mp n v],.agg [.int .i64 18,.bool m,.str p,.str q,.str e],.sl [.bool d.n,.str d.a,.str d.d,.int .i64 d.e,.bool c.n,.str c.a,.str c.d,.int .i64 c.e] 2 nn] (.ret (fH o)):=pK [] 8 192 (.k 5 u (.k 2 k (.c r (.n 24 .nil)))) (.c w (.c j (.c t (.c y .nil))))
theorem VV (m nn f h k g:Bool) (p q e:List UInt8) (o d c:Oq) (ks vs n v:List AV) (u:lit false f=true) (j:lit false (!g)=true) (r:lit false (!h)=true) (y:CO 123 [.int .i64 18] (.ret (.nilF))) (t:CO 128 [.agg [.bool d.n,.str d.a,.str d.d]] (.ret (.tup [.bool f,.bool h]))) (i:CO 128 [.agg [.bool c.n,.str c.a,.str c.d]] (.ret (.tup [.bool k,.bool g]))) (w:CO 126 [.bool false] (.ret (fH o))):CO 74 [.agg [.mp ks vs,.mp n v],.agg [.int .i64 18,.bool m,.str p,.str q,.str e],.sl [.bool d.n,.str d.a,.str d.d,.int .i64 d.e,.bool c.n,.str c.a,.str c.d,.int .i64 c.e] 2 nn] (.ret (fH o)):=pK [] 8 64 (.k 5 u (.k 2 j (.c r (.n 24 .nil)))) (.c w (.c i (.c t (.c y .nil))))
theorem yF:CO 123 [.int .i64 18] (.ret (.nilF)):=pK [] 5 0 (.n 5 .nil) (.nil)
theorem VW (i nn j f h t:Bool) (m n e:List UInt8) (d c:Oq) (ks vs k q:List AV) (p:lit true (!f)=true) (u:CO 123 [.int .i64 19] (.ret (.nilF))) (o:CO 128 [.agg [.bool d.n,.str d.a,.str d.d]] (.ret (.tup [.bool j,.bool f]))) (g:CO 128 [.agg [.bool c.n,.str c.a,.str c.d]] (.ret (.tup [.bool h,.bool t]))) (r:CO 41 [.int .i64 13] (.ret (.agg [.bool false,.str [],.str [],.int .i64 13]))):CO 74 [.agg [.mp ks vs,.mp k q],.agg [.int .i64 19,.bool i,.str m,.str n,.str e],.sl [.bool d.n,.str d.a,.str d.d,.int .i64 d.e,.bool c.n,.str c.a,.str c.d,.int .i64 c.e] 2 nn] (.ret (.agg [.bool false,.str [],.str [],.int .i64 13])):=pK [] 6 48 (.k 6 p (.n 24 .nil)) (.c r (.c g (.c o (.c u .nil))))
theorem VX (k nn m g j f:Bool) (o p e:List UInt8) (d c:Oq) (ks vs n t:List AV) (r:lit true (!f)=true) (i:lit false (!g)=true) (v:CO 123 [.int .i64 19] (.ret (.nilF))) (q:CO 128 [.agg [.bool d.n,.str d.a,.str d.d]] (.ret (.tup [.bool m,.bool g]))) (h:CO 128 [.agg [.bool c.n,.str c.a,.str c.d]] (.ret (.tup [.bool j,.bool f]))) (u:CO 41 [.int .i64 13] (.ret (.agg [.bool false,.str [],.str [],.int .i64 13]))):CO 74 [.agg [.mp ks vs,.mp n t],.agg [.int .i64 19,.bool k,.str o,.str p,.str e],.sl [.bool d.n,.str d.a,.str d.d,.int .i64 d.e,.bool c.n,.str c.a,.str c.d,.int .i64 c.e] 2 nn] (.ret (.agg [.bool false,.str [],.str [],.int .i64 13])):=pK [] 6 32 (.k 5 r (.c i (.n 24 .nil))) (.c u (.c h (.c q (.c v .nil))))
theorem VY (m nn f h k g:Bool) (p q e:List UInt8) (o d c:Oq) (ks vs n v:List AV) (u:lit true f=true) (j:lit false (!g)=true) (r:lit false (!h)=true) (y:CO 123 [.int .i64 19] (.ret (.nilF))) (t:CO 128 [.agg [.bool d.n,.str d.a,.str d.d]] (.ret (.tup [.bool f,.bool h]))) (i:CO 128 [.agg [.bool c.n,.str c.a,.str c.d]] (.ret (.tup [.bool k,.bool g]))) (w:CO 126 [.bool true] (.ret (fH o))):CO 74 [.agg [.mp ks vs,.mp n v],.agg [.int .i64 19,.bool m,.str p,.str q,.str e],.sl [.bool d.n,.str d.a,.str d.d,.int .i64 d.e,.bool c.n,.str c.a,.str c.d,.int .i64 c.e] 2 nn] (.ret (fH o)):=pK [] 8 128 (.k 5 u (.k 2 j (.c r (.n 24 .nil)))) (.c w (.c i (.c t (.c y .nil))))
theorem VZ (m nn g i f h:Bool) (p q e:List UInt8) (o d c:Oq) (ks vs n v:List AV) (u:lit false g=true) (k:lit false (!h)=true) (r:lit false (!i)=true) (y:CO 123 [.int .i64 19] (.ret (.nilF))) (t:CO 128 [.agg [.bool d.n,.str d.a,.str d.d]] (.ret (.tup [.bool g,.bool i]))) (j:CO 128 [.agg [.bool c.n,.str c.a,.str c.d]] (.ret (.tup [.bool f,.bool h]))) (w:CO 126 [.bool f] (.ret (fH o))):CO 74 [.agg [.mp ks vs,.mp n v],.agg [.int .i64 19,.bool m,.str p,.str q,.str e],.sl [.bool d.n,.str d.a,.str d.d,.int .i64 d.e,.bool c.n,.str c.a,.str c.d,.int .i64 c.e] 2 nn] (.ret (fH o)):=pK [] 8 0 (.k 5 u (.k 2 k (.c r (.n 24 .nil)))) (.c w (.c j (.c t (.c y .nil))))
theorem yG:CO 123 [.int .i64 19] (.ret (.nilF)):=pK [] 5 0 (.n 5 .nil) (.nil)
theorem Qe:CO 165 [.int .i64 1] (.ret (.fn 166 [] [.pp [.int .i64 1] 0])):=pK [] 0 0 .nil (.nil)
theorem ZF (h c:Bool) (i f d e:List UInt8) (g:Int) (k:lit true (decide (((0:Nat):Int)<(IntKind.wrap .i64 (g*((1:Nat):Int)))))=true) (j:CO 127 [.agg [.bool h,.str i,.str f],.agg [.bool c,.str d,.str e]] (.ret (.int .i64 g))):CO 166 [.agg [.bool h,.str i,.str f],.agg [.bool c,.str d,.str e],.pp [.int .i64 1] 0] (.ret (.agg [.bool c,.str d,.str e])):=pK [] 1 1 (.k 7 k (.n 7 .nil)) (.c j .nil)
theorem ZG (d f:Bool) (e c h i:List UInt8) (g:Int) (k:lit false (decide (((0:Nat):Int)<(IntKind.wrap .i64 (g*((1:Nat):Int)))))=true) (j:CO 127 [.agg [.bool d,.str e,.str c],.agg [.bool f,.str h,.str i]] (.ret (.int .i64 g))):CO 166 [.agg [.bool d,.str e,.str c],.agg [.bool f,.str h,.str i],.pp [.int .i64 1] 0] (.ret (.agg [.bool d,.str e,.str c])):=pK [] 1 0 (.k 7 k (.n 7 .nil)) (.c j .nil)
theorem Qd:CO 165 [.int .i64 (-1)] (.ret (.fn 166 [] [.pp [.int .i64 (-1)] 0])):=pK [] 0 0 .nil (.nil)
theorem ZC (h c:Bool) (i f d e:List UInt8) (g:Int) (k:lit true (decide (((0:Nat):Int)<(IntKind.wrap .i64 (g*(-1:Int)))))=true) (j:CO 127 [.agg [.bool h,.str i,.str f],.agg [.bool c,.str d,.str e]] (.ret (.int .i64 g))):CO 166 [.agg [.bool h,.str i,.str f],.agg [.bool c,.str d,.str e],.pp [.int .i64 (-1)] 0] (.ret (.agg [.bool c,.str d,.str e])):=pK [] 1 1 (.k 7 k (.n 7 .nil)) (.c j .nil)
theorem ZE (d f:Bool) (e c h i:List UInt8) (g:Int) (k:lit false (decide (((0:Nat):Int)<(IntKind.wrap .i64 (g*(-1:Int)))))=true) (j:CO 127 [.agg [.bool d,.str e,.str c],.agg [.bool f,.str h,.str i]] (.ret (.int .i64 g))):CO 166 [.agg [.bool d,.str e,.str c],.agg [.bool f,.str h,.str i],.pp [.int .i64 (-1)] 0] (.ret (.agg [.bool d,.str e,.str c])):=pK [] 1 0 (.k 7 k (.n 7 .nil)) (.c j .nil)
end Go.Proofs.Tryz
set_option maxRecDepth 100000
set_option linter.unusedVariables false
open Go AM
namespace Go.Proofs.Tryz
def jV (q:RQ):Bool:=decide (gz q.n≤400) && decide (gz q.d≤400)
def Oq.ok:Oq→Prop| .err e=>e ≠ 0| .val q=>q.ok∧jV q=true
def uf (n:Bool) (a d:List UInt8) (e:Int):Oq:=if e=0 then (if fC n a d=true then .val ⟨n,ag a,ag d⟩ else .err 3) else .err e
def mM (q:RQ):Oq:=if jV q=true then .val q else .err 3
def bR (b:Bool):RQ:=if b then ⟨false,1,1⟩ else ⟨false,0,1⟩
def AQ (b:Bool):Oq:= .val (bR b)
def Oq.one (o:Oq):Bool:=(o.n==false) && ((o.a==(ae 1)) && ((o.d==(ae 1)) && true))
def Oq.bit (o:Oq):Bool:=o.one||((o.n==false) && ((o.a==(ae 0)) && ((o.d==(ae 1)) && true)))
def eqO (a b:Oq):Bool:=(a.n==b.n) && ((a.a==b.a) && ((a.d==b.d) && true))
def Sr (a b c:Oq):Oq:=if a.e=0 then (if a.bit then (if a.one then b else c) else .err 13) else a
def E8 (op:Int) (a b:Oq):Oq:=
 if op=9 then mM (iP a.q b.q) else if op=10 then mM (jg a.q b.q) else if op=11 then mM (mZ a.q b.q)
 else if op=12 then (if b.q.n=0 then .err 16 else mM (xG a.q b.q))
 else if op=13 then (if 0<kZ a.q b.q then b else a) else if op=14 then (if kZ a.q b.q<0 then b else a)
 else if op=16 then AQ (decide (kZ a.q b.q<0)) else if op=17 then AQ (eqO a b)
 else if a.bit && b.bit then AQ (if op=18 then a.one && b.one else a.one||b.one) else .err 13
theorem uJ {n:Bool} {a d:List UInt8} (h:fC n a d=true):iO n a d=true∧jV ⟨n,ag a,ag d⟩=true:=by
 unfold fC at h
 simp only [Bool.and_eq_true] at h
 exact ⟨h.1.1,by unfold jV;simp only [Bool.and_eq_true];exact ⟨h.1.2,h.2⟩⟩
theorem lm {n:Bool} {a d:List UInt8} (h:iO n a d=true):ae (ag a)=a∧ae (ag d)=d:=by
 rw [kC] at h
 exact ⟨(oC a).1 h.1,(oC d).1 h.2.1⟩
theorem Di (n:Bool) (a d:List UInt8) (e:Int):(uf n a d e).ok:=by
 unfold uf
 split
 ·split
  ·rename_i h
   obtain ⟨f,c⟩:=uJ h
   have:=lZ n a d
   unfold vQ at this
   rw [if_pos f] at this
   exact ⟨this,c⟩
  ·exact (by decide:(3:Int) ≠ 0)
 ·assumption
theorem uD {q:RQ} (h:q.ok):fC q.neg (ae q.n) (ae q.d)=jV q:=by
 unfold fC jV
 rw [qi q h,aB,aB,Bool.true_and]
theorem u_ {q:RQ} (h:q.ok):uf q.neg (ae q.n) (ae q.d) 0=mM q:=by
 unfold uf mM
 rw [if_pos rfl,uD h,aB,aB]
theorem p_ {q:RQ} (h:q.ok):(mM q).ok:=by
 rw [← u_ h];exact Di _ _ _ _
theorem U8 (b:Bool):(bR b).ok:=by cases b<;>exact ⟨by decide,by decide,by decide⟩
theorem Le:gz 1≤400∧gz 0≤400:=⟨je (k:=400) (Nat.one_lt_two_pow (n:=400) (by decide)),je (k:=400) (Nat.two_pow_pos 400)⟩
theorem Qw {x:Nat} (h:gz x≤400):(ae x).length≤51:=by
 refine dR (k:=51) ?_
 rcases Nat.eq_zero_or_pos x with h0|h0
 ·rw [h0];apply Nat.two_pow_pos
 ·obtain ⟨m,d,_,c⟩:=vP h0
  refine Nat.lt_of_lt_of_le c ?_
  apply Nat.pow_le_pow_right (by decide)
  omega
theorem tu (b:Bool):(AQ b).ok:=by
 refine ⟨U8 b, ?_⟩
 unfold jV bR
 have:=Le
 cases b<;>simp [this.1,this.2]
theorem b_ {q:RQ} (h:jV q=true):(ae q.n).length≤51∧(ae q.d).length≤51:=by
 unfold jV at h
 simp only [Bool.and_eq_true,decide_eq_true_eq] at h
 exact ⟨Qw h.1,Qw h.2⟩
theorem aeY {o:Oq} (h:o.ok):o.a.length≤51∧o.d.length≤51:=by
 cases o with
 |err e=>exact ⟨Nat.zero_le _,Nat.zero_le _⟩
 |val q=>exact b_ h.2
theorem vZ (n:Bool) (a d:List UInt8) (e:Int) (j:a.length<2^36) (hd:d.length<2^36):CO 43 [.agg [.bool n,.str a,.str d,.int .i64 e]] (.ret (fH (uf n a d e))):=by
 have f:=fU n a d j hd
 unfold uf
 by_cases h:e=0
 ·rw [if_pos h]
  have g:lit false (!(e==((0:Nat):Int)))=true:=by rw [h];rfl
  cases c:fC n a d with
  |true=>
   rw [c] at f
   rw [if_pos rfl]
   have:=ad8 n a d e (by rw [c];rfl) g (by rw [c];exact f)
   obtain ⟨i,k⟩:=lm (uJ c).1
   show CO 43 _ (.ret (.agg [.bool n,.str (ae (ag a)),.str (ae (ag d)),.int .i64 0]))
   rw [i,k,← h];exact this
  |false=>
   rw [c] at f
   rw [if_neg (by simp)]
   exact ad7 n a d e (by rw [c];rfl) g (by rw [c];exact f) (iJ 3)
 ·rw [if_neg h]
  exact ad6 n a d e (by rw [show (e==((0:Nat):Int))=false from beq_eq_false_iff_ne.2 h];rfl) (iJ e)
theorem KR (n:Bool) (a d:List UInt8) (c:a.length<2^36) (hd:d.length<2^36):CO 124 [.agg [.bool n,.str a,.str d]] (.ret (fH (uf n a d 0))):=aeh n a d _ (vZ n a d 0 c hd)
theorem qP {q:RQ} (h:q.ok) (d:(ae q.n).length<2^36) (c:(ae q.d).length<2^36):CO 124 [qA q] (.ret (fH (mM q))):=by
 rw [← u_ h];exact KR _ _ _ d c
theorem qO {o:Oq} (h:o.ok) (d:o.e=0):CO 124 [.agg [.bool o.n,.str o.a,.str o.d]] (.ret (fH o)):=by
 cases o with
 |err e=>exact absurd d h
 |val q=>
  have c:=qP h.1 (Nat.lt_of_le_of_lt (b_ h.2).1 (by decide)) (Nat.lt_of_le_of_lt (b_ h.2).2 (by decide))
  unfold mM at c
  rw [if_pos h.2] at c
  exact c
theorem lg (b:Bool):CO 126 [.bool b] (.ret (fH (AQ b))):=by
 cases b with
 |true=>exact aee true _ rfl uV (qO (tu true) rfl)
 |false=>exact aef false _ rfl jl (qO (tu false) rfl)
theorem nH (o:Oq):CO 128 [.agg [.bool o.n,.str o.a,.str o.d]] (.ret (.tup [.bool o.one,.bool o.bit])):=by
 unfold Oq.bit
 cases h:o.one with
 |true=>
  have:=adM o.n o.a o.d h uV
  rw [show ((o.n==false) && ((o.a==(ae 1)) && ((o.d==(ae 1)) && true)))=true from h] at this
  exact this
 |false=>
  have:=adN o.n o.a o.d (by rw [show ((o.n==false) && ((o.a==(ae 1)) && ((o.d==(ae 1)) && true)))=false from h];rfl) uV jl
  rw [show ((o.n==false) && ((o.a==(ae 1)) && ((o.d==(ae 1)) && true)))=false from h] at this
  rw [Bool.false_or]
  exact this
section
variable (op:Int) (ng nn:Bool) (nu de name:List UInt8) (ks vs kt vt:List AV) (o0 o1 o2:Oq)
theorem NY:CO 77 [.agg [.mp ks vs,.mp kt vt],.agg [.int .i64 op,.bool ng,.str nu,.str de,.str name],.sl (Cc o0++(Cc o1++Cc o2)) 3 nn] (.ret (fH (Sr o0 o1 o2))):=by
 have c:=nH o0
 unfold Sr
 by_cases h:o0.e=0
 ·rw [if_pos h]
  have d:lit false (!(o0.e==((0:Nat):Int)))=true:=by rw [h];rfl
  cases e:o0.bit with
  |false=>
   rw [e] at c
   exact adI _ _ _ _ _ _ _ _ o0 o1 o2 ks vs kt vt rfl d c (iJ 13)
  |true=>
   rw [e] at c
   cases f:o0.one with
   |true=>rw [f] at c;exact adJ _ _ _ _ _ _ _ _ o0 o1 o2 ks vs kt vt rfl rfl d c
   |false=>rw [f] at c;exact adK _ _ _ _ _ _ _ _ o0 o1 o2 ks vs kt vt rfl rfl d c
 ·rw [if_neg h]
  exact adH _ _ _ _ _ _ _ _ o0 o1 o2 ks vs kt vt (by rw [show (o0.e==((0:Nat):Int))=false from beq_eq_false_iff_ne.2 h];rfl) c
theorem akh {g:Int} (h:g=0∨g=1∨g= -1):decide (((0:Nat):Int)<(IntKind.wrap .i64 (g*((1:Nat):Int))))=decide (0<g)∧decide (((0:Nat):Int)<(IntKind.wrap .i64 (g*(-1:Int))))=decide (g<0):=by
 rcases h with rfl|rfl|rfl<;>decide+kernel
theorem akQ (a b:RQ):kZ a b=0∨kZ a b=1∨kZ a b= -1:=by
 unfold kZ wH;split
 ·exact .inl rfl
 ·split
  ·exact .inr (.inr rfl)
  ·exact .inr (.inl rfl)
theorem Il {o:Oq} (h:o.ok) (c:o.e=0):∃ q:RQ,o= .val q∧q.ok∧jV q=true:=by
 cases o with
 |err e=>exact absurd c h
 |val q=>exact ⟨q,rfl,h.1,h.2⟩
theorem VL (D:(9≤op∧op≤14)∨(16≤op∧op≤19)) (k0:o0.ok) (y:o0.e=0) (k1:o1.ok) (z:o1.e=0):CO 74 [.agg [.mp ks vs,.mp kt vt],.agg [.int .i64 op,.bool ng,.str nu,.str de,.str name],.sl (Cc o0++Cc o1) 2 nn] (.ret (fH (E8 op o0 o1))):=by
 obtain ⟨a,rfl,t,E⟩:=Il k0 y
 obtain ⟨b,rfl,v,F⟩:=Il k1 z
 obtain ⟨i,g⟩:=b_ E
 obtain ⟨m,j⟩:=b_ F
 have u:=kM t
 have p:=kM v
 have d:∀ k:Nat,k≤51→k<2^28:=fun k h=>Nat.lt_of_le_of_lt h (by decide)
 have c:∀ k:Nat,k≤51→k<2^29:=fun k h=>Nat.lt_of_le_of_lt h (by decide)
 have r:CO 127 [qA a,qA b] (.ret (.int .i64 (kZ a b))):=by
  have:=FC a.neg b.neg (ae a.n) (ae a.d) (ae b.n) (ae b.d) (d _ i) (d _ g) (d _ m) (d _ j)
  rw [u,p] at this;exact this
 have C:=akQ a b
 obtain ⟨B,A⟩:=akh C
 have G:op=9∨op=10∨op=11∨op=12∨op=13∨op=14∨op=16∨op=17∨op=18∨op=19:=by omega
 have w:∀ {q:RQ},(ae q.n).length≤4*51+1∧(ae q.d).length≤2*51→(ae q.n).length<2^36∧(ae q.d).length<2^36:=fun h=> ⟨Nat.lt_of_le_of_lt h.1 (by decide),Nat.lt_of_le_of_lt h.2 (by decide)⟩
 rcases G with rfl|rfl|rfl|rfl|rfl|rfl|rfl|rfl|rfl|rfl
 ·have:=FB a.neg b.neg (ae a.n) (ae a.d) (ae b.n) (ae b.d) (c _ i) (c _ g) (c _ m) (c _ j)
  rw [u,p] at this
  obtain ⟨n,o⟩:=w (yT a b 51 i g m j)
  exact ZB _ _ _ _ _ _ (.val a) (.val b) _ ks vs kt vt Zr this (qP (jD t v) n o)
 ·have:=FD a.neg b.neg (ae a.n) (ae a.d) (ae b.n) (ae b.d) (c _ i) (c _ g) (d _ m) (d _ j)
  rw [u,p] at this
  obtain ⟨n,o⟩:=w (yT a (y_ b) 51 i g m j)
  exact VM _ _ _ _ _ _ (.val a) (.val b) _ ks vs kt vt VB this (qP (pX t v) n o)
 ·have:=QZ a.neg b.neg (ae a.n) (ae a.d) (ae b.n) (ae b.d) (c _ i) (c _ g) (c _ m) (c _ j)
  rw [u,p] at this
  have:=eH a.n b.n
  have:=eH a.d b.d
  have:=r_ (!(a.neg==b.neg)) (a.n*b.n) (a.d*b.d)
  obtain ⟨n,o⟩:=w (q:=mZ a b) ⟨by unfold mZ;omega,by unfold mZ;omega⟩
  exact VN _ _ _ _ _ _ (.val a) (.val b) _ ks vs kt vt VC (by assumption) (qP (sD t v) n o)
 ·rcases Nat.eq_zero_or_pos b.n with h0|h0
  ·have:=XM a.neg b.neg (ae a.n) (ae a.d) (ae b.n) (ae b.d) (c _ i) (c _ g) (c _ m) (c _ j) (by rw [p];exact h0)
   show CO 74 _ (.ret (fH (if b.n=0 then .err 16 else _)))
   rw [if_pos h0]
   exact SX _ _ _ _ _ (.val a) (.val b) ks vs kt vt KG this (iJ 16)
  ·have:=Me a.neg b.neg (ae a.n) (ae a.d) (ae b.n) (ae b.d) (c _ i) (c _ g) (c _ m) (c _ j) (by rw [p];exact h0)
   rw [u,p] at this
   have:=eH a.n b.d
   have:=eH a.d b.n
   have:=r_ (!(a.neg==b.neg)) (a.n*b.d) (a.d*b.n)
   obtain ⟨n,o⟩:=w (q:=xG a b) ⟨by unfold xG;omega,by unfold xG;omega⟩
   show CO 74 _ (.ret (fH (if b.n=0 then .err 16 else mM (xG a b))))
   rw [if_neg (by omega)]
   exact VO _ _ _ _ _ _ (.val a) (.val b) _ ks vs kt vt KG (by assumption) (qP (Jz t h0) n o)
 ·show CO 74 _ (.ret (fH (if 0<kZ a b then .val b else .val a)))
  by_cases h:0<kZ a b
  ·rw [if_pos h]
   exact KO _ _ _ _ _ _ _ _ _ (.val a) (.val b) ks vs kt vt (KH Qe) (ZF _ _ _ _ _ _ _ (by rw [B,decide_eq_true h];rfl) r) (qO k1 z)
  ·rw [if_neg h]
   exact KO _ _ _ _ _ _ _ _ _ (.val a) (.val b) ks vs kt vt (KH Qe) (ZG _ _ _ _ _ _ _ (by rw [B,decide_eq_false h];rfl) r) (qO k0 y)
 ·show CO 74 _ (.ret (fH (if kZ a b<0 then .val b else .val a)))
  by_cases h:kZ a b<0
  ·rw [if_pos h]
   exact KP _ _ _ _ _ _ _ _ _ (.val a) (.val b) ks vs kt vt (KI Qd) (ZC _ _ _ _ _ _ _ (by rw [A,decide_eq_true h];rfl) r) (qO k1 z)
  ·rw [if_neg h]
   exact KP _ _ _ _ _ _ _ _ _ (.val a) (.val b) ks vs kt vt (KI Qd) (ZE _ _ _ _ _ _ _ (by rw [A,decide_eq_false h];rfl) r) (qO k0 y)
 ·exact VP _ _ _ _ _ _ _ (.val a) (.val b) ks vs kt vt VD r (lg _)
 ·exact VQ _ _ _ _ _ _ (.val a) (.val b) ks vs kt vt VE (lg _)
 ·have f:=nH (.val a)
  have e:=nH (.val b)
  show CO 74 _ (.ret (fH (if Oq.bit (.val a) && Oq.bit (.val b) then AQ (Oq.one (.val a) && Oq.one (.val b)) else .err 13)))
  generalize Oq.bit (.val a)=x2 at*
  generalize Oq.bit (.val b)=x4 at*
  generalize Oq.one (.val a)=x1 at*
  generalize Oq.one (.val b)=x3 at*
  cases x2 with
  |false=>exact VS _ _ x1 false x3 x4 _ _ _ (.val a) (.val b) ks vs kt vt rfl yF f e (iJ 13)
  | true=>
   cases x4 with
   |false=>exact VT _ _ x1 true x3 false _ _ _ (.val a) (.val b) ks vs kt vt rfl rfl yF f e (iJ 13)
   |true=>
    cases x1 with
    |true=>exact VU _ _ true true x3 true _ _ _ _ (.val a) (.val b) ks vs kt vt rfl rfl rfl yF f e (lg _)
    |false=>exact VV _ _ false true x3 true _ _ _ _ (.val a) (.val b) ks vs kt vt rfl rfl rfl yF f e (lg _)
 ·have f:=nH (.val a)
  have e:=nH (.val b)
  show CO 74 _ (.ret (fH (if Oq.bit (.val a) && Oq.bit (.val b) then AQ (Oq.one (.val a)||Oq.one (.val b)) else .err 13)))
  generalize Oq.bit (.val a)=x2 at*
  generalize Oq.bit (.val b)=x4 at*
  generalize Oq.one (.val a)=x1 at*
  generalize Oq.one (.val b)=x3 at*
  cases x2 with
  |false=>exact VW _ _ x1 false x3 x4 _ _ _ (.val a) (.val b) ks vs kt vt rfl yG f e (iJ 13)
  | true=>
   cases x4 with
   |false=>exact VX _ _ x1 true x3 false _ _ _ (.val a) (.val b) ks vs kt vt rfl rfl yG f e (iJ 13)
   |true=>
    cases x1 with
    |true=>exact VY _ _ true true x3 true _ _ _ _ (.val a) (.val b) ks vs kt vt rfl rfl rfl yG f e (lg _)
    |false=>exact VZ _ _ false true x3 true _ _ _ _ (.val a) (.val b) ks vs kt vt rfl rfl rfl yG f e (lg _)
end
end Go.Proofs.Tryz
set_option maxRecDepth 100000
set_option linter.unusedVariables false
open Go AM
namespace Go.Proofs.Tryz
theorem ahk (r:RQ) (c:Bool) (n:Nat) (d:CO 158 [.agg [.str []],.str (ae 1)] (.ret (.bool true))) (f:CO 159 [.str (ae n)] (.ret (.bool true))) (e:CO 160 [.bool c,.str (ae n),.str (ae 1)] (.ret (qA r))):CO 205 [.bool c,.str (ae n),.str (ae 1)] (.ret (.tup [qA r,.bool true])):=pK [] 2 0 (.n 6 .nil) (.c e (.c f (.c d .nil)))
theorem aem (r:RQ) (n m y z:Nat) (c:CO 191 [.str (ae n),.str (ae m)] (.ret (.tup [.str (ae y),.str (ae z),.bool true]))) (e:CO 72 [.int .i64 1] (.ret (.str (ae 1)))) (d:CO 205 [.bool false,.str (ae y),.str (ae 1)] (.ret (.tup [qA r,.bool true]))):CO 177 [.agg [.bool false,.str (ae n),.str (ae m)]] (.ret (qA r)):=pK [] 2 0 (.n 14 .nil) (.c d (.c e (.c c .nil)))
theorem aek (r:RQ) (n m y z:Nat) (h:lit true (!((ae z)== []))=true) (d:CO 191 [.str (ae n),.str (ae m)] (.ret (.tup [.str (ae y),.str (ae z),.bool true]))) (g:CO 72 [.int .i64 1] (.ret (.str (ae 1)))) (f:CO 71 [.str (ae y),.str (ae 1)] (.ret (.str (ae (y+1))))) (c:CO 72 [.int .i64 1] (.ret (.str (ae 1)))) (e:CO 205 [.bool true,.str (ae (y+1)),.str (ae 1)] (.ret (.tup [qA r,.bool true]))):CO 177 [.agg [.bool true,.str (ae n),.str (ae m)]] (.ret (qA r)):=pK [] 2 3 (.k 9 h (.n 4 .nil)) (.c e (.c c (.c f (.c g (.c d .nil)))))
theorem ael (r:RQ) (n m y z:Nat) (f:lit false (!((ae z)== []))=true) (c:CO 191 [.str (ae n),.str (ae m)] (.ret (.tup [.str (ae y),.str (ae z),.bool true]))) (e:CO 72 [.int .i64 1] (.ret (.str (ae 1)))) (d:CO 205 [.bool true,.str (ae y),.str (ae 1)] (.ret (.tup [qA r,.bool true]))):CO 177 [.agg [.bool true,.str (ae n),.str (ae m)]] (.ret (qA r)):=pK [] 2 1 (.k 9 f (.n 4 .nil)) (.c d (.c e (.c c .nil)))
theorem ad9 (a s:RQ) (g:Int) (c:CO 115 [qA a] (.ret (.bool true))) (e:CO 115 [qA s] (.ret (.bool true))) (d:CO 121 [qA s] (.ret (.int .i64 g))):CO 176 [qA a,qA s] (.ret (.bool (decide (((0:Nat):Int)<g)))):=pK [] 2 3 (.n 11 .nil) (.c d (.c e (.c c .nil)))
theorem ahc (a s q r w:RQ) (d:CO 176 [qA a,qA s] (.ret (.bool true))) (f:CO 125 [qA a,qA s] (.ret (.tup [qA q,.bool true]))) (e:CO 177 [qA q] (.ret (qA w))) (c:CO 169 [qA w,qA s] (.ret (qA r))):CO 131 [qA a,qA s] (.ret (.tup [qA r,.bool true])):=pK [] 1 0 (.n 24 .nil) (.c c (.c e (.c f (.c d .nil))))
theorem ahL (a s r v:RQ) (e:lit true (!((r.neg==a.neg) && (((ae r.n)==(ae a.n)) && (((ae r.d)==(ae a.d)) && true))))=true) (c:CO 131 [qA a,qA s] (.ret (.tup [qA r,.bool true]))) (d:CO 167 [qA r,qA s] (.ret (qA v))):CO 132 [qA a,qA s] (.ret (.tup [qA v,.bool true])):=pK [] 2 3 (.k 14 e (.n 14 .nil)) (.c d (.c c .nil))
theorem ahM (a s r:RQ) (d:lit false (!((r.neg==a.neg) && (((ae r.n)==(ae a.n)) && (((ae r.d)==(ae a.d)) && true))))=true) (c:CO 131 [qA a,qA s] (.ret (.tup [qA r,.bool true]))):CO 132 [qA a,qA s] (.ret (.tup [qA r,.bool true])):=pK [] 2 1 (.k 7 d (.n 14 .nil)) (.c c .nil)
theorem ahl (a s q r v w:RQ) (g:Int) (i:lit true (decide (((0:Nat):Int)≤g))=true) (e:CO 131 [qA a,qA s] (.ret (.tup [qA r,.bool true]))) (h:CO 168 [qA a,qA r] (.ret (qA q))) (f:CO 167 [qA q,qA q] (.ret (qA w))) (c:CO 127 [qA w,qA s] (.ret (.int .i64 g))) (d:CO 167 [qA r,qA s] (.ret (qA v))):CO 129 [qA a,qA s] (.ret (.tup [qA v,.bool true])):=pK [] 2 2 (.k 14 i (.n 24 .nil)) (.c d (.c c (.c f (.c h (.c e .nil)))))
theorem ahm (a s q r w:RQ) (g:Int) (h:lit false (decide (((0:Nat):Int)≤g))=true) (d:CO 131 [qA a,qA s] (.ret (.tup [qA r,.bool true]))) (f:CO 168 [qA a,qA r] (.ret (qA q))) (e:CO 167 [qA q,qA q] (.ret (qA w))) (c:CO 127 [qA w,qA s] (.ret (.int .i64 g))):CO 129 [qA a,qA s] (.ret (.tup [qA r,.bool true])):=pK [] 2 0 (.k 7 h (.n 24 .nil)) (.c c (.c e (.c f (.c d .nil))))
theorem aip:nR (ae 1)=true:=yX 1
theorem alQ:Aq (ae 1)=true:=by unfold Aq;rw [aip,aB];rfl
theorem D8 (c:Bool) (n:Nat) (f:(ae n).length<2^33):CO 205 [.bool c,.str (ae n),.str (ae 1)] (.ret (.tup [qA (iq c n 1),.bool true])):=by
 have e:(ae 1).length<2^33:=Nat.lt_of_le_of_lt (dR (x:=1) (k:=1) (by decide)) (by decide)
 have hp:=Xv (ae 1) (Nat.lt_of_lt_of_le e (by decide))
 rw [alQ] at hp
 have d:=Aj (ae n)
 rw [yX] at d
 exact ahk _ c n hp d (Ib c n 1 f e (by decide))
theorem Jf (c:Bool) (x:Nat):iq c x 1=Tu (if c then -(x:Int) else (x:Int)):=by
 unfold iq Tu
 rw [Nat.gcd_one_right,Nat.div_one,Nat.div_one]
 cases c with
 |true=>
  simp only [Bool.true_and,if_true,Int.natAbs_neg,Int.natAbs_natCast,RQ.mk.injEq,and_true]
  rcases Nat.eq_zero_or_pos x with h|h
  ·subst h;rfl
  ·rw [decide_eq_true h,decide_eq_true (by omega)]
 |false=>
  simp only [Bool.false_and,Bool.false_eq_true,if_false,Int.natAbs_natCast,RQ.mk.injEq,and_true]
  rw [decide_eq_false (by omega)]
theorem Td {q:RQ} (h:q.ok) (i:(ae q.n).length<2^32) (g:(ae q.d).length<2^32):CO 177 [qA q] (.ret (qA (Tu (flI q)))):=by
 have d:=OY (ae q.n) (ae q.d) (Nat.lt_of_lt_of_le i (by decide)) (Nat.lt_of_lt_of_le g (by decide)) (by rw [aB];exact h.1)
 rw [aB,aB] at d
 have j:=oq (Nat.div_le_self q.n q.d)
 have p:(ae 1).length≤1:=dR (x:=1) (k:=1) (by decide)
 have o:=yS (q.n / q.d) 1
 have e:=ER 1 (by decide)
 obtain ⟨f,n,m⟩:=q
 unfold flI
 simp only at*
 cases f with
 |false=>
  rw [if_neg (by simp)]
  have c:=D8 false (n / m) (by omega)
  rw [Jf,if_neg (by simp)] at c
  exact aem _ n m _ _ d e c
 | true=>
  rw [if_pos rfl]
  by_cases hr:n % m=0
  ·have c:=D8 true (n / m) (by omega)
   rw [Jf,if_pos rfl] at c
   rw [if_pos hr,Nat.add_zero]
   exact ael _ n m _ _ (by rw [hr,dU];rfl) d e c
  ·have c:=D8 true (n / m+1) (by omega)
   rw [Jf,if_pos rfl] at c
   rw [if_neg hr]
   exact aek _ n m _ _ (by
    rw [show ((ae (n % m))== [])=false from by rw [beq_eq_false_iff_ne];intro h;rw [iT] at h;exact hr h];rfl) d e (acJ _ _ (by omega) (by omega)) e c
def mJ (L:Nat) (q:RQ):Prop:=(ae q.n).length≤L∧(ae q.d).length≤L
theorem mJ.mono {L M:Nat} {q:RQ} (h:mJ L q) (k:L≤M):mJ M q:=⟨Nat.le_trans h.1 k,Nat.le_trans h.2 k⟩
theorem FN {L:Nat} {a b:RQ} (d:mJ L a) (c:mJ L b):mJ (4*L+1) (iP a b):=by
 have:=yT a b L d.1 d.2 c.1 c.2
 exact ⟨this.1,by omega⟩
theorem afU {L:Nat} {a:RQ} (c:mJ L a):mJ L (y_ a):=c
theorem Pj {L:Nat} {a b:RQ} (d:mJ L a) (c:mJ L b):mJ (4*L+1) (jg a b):=FN d (afU c)
theorem Pi {L:Nat} {a b:RQ} (d:mJ L a) (c:mJ L b):mJ (2*L) (mZ a b):=by
 have k:=eH a.n b.n
 have h:=eH a.d b.d
 have f:=r_ (!(a.neg==b.neg)) (a.n*b.n) (a.d*b.d)
 obtain ⟨g,e⟩:=d
 obtain ⟨j,i⟩:=c
 exact ⟨by unfold mZ;omega,by unfold mZ;omega⟩
theorem Yb {L:Nat} {a b:RQ} (d:mJ L a) (c:mJ L b):mJ (2*L) (xG a b):=by
 have k:=eH a.n b.d
 have h:=eH a.d b.n
 have f:=r_ (!(a.neg==b.neg)) (a.n*b.d) (a.d*b.n)
 obtain ⟨g,e⟩:=d
 obtain ⟨j,i⟩:=c
 exact ⟨by unfold xG;omega,by unfold xG;omega⟩
theorem wR {L:Nat} {a:RQ} (c:mJ L a) (f:L<2^28):(ae a.n).length<2^28∧(ae a.d).length<2^28∧(ae a.n).length<2^29∧(ae a.d).length<2^29:=by
 obtain ⟨e,d⟩:=c
 omega
section
variable {a b:RQ} {L:Nat} (ha:a.ok) (hb:b.ok) (sa:mJ L a) (sb:mJ L b) (hL:L<2^28)
include ha hb sa sb hL
theorem Fv:CO 167 [qA a,qA b] (.ret (qA (iP a b))):=by
 obtain ⟨_,_,f,e⟩:=wR sa hL
 obtain ⟨_,_,d,c⟩:=wR sb hL
 have h:=FB a.neg b.neg (ae a.n) (ae a.d) (ae b.n) (ae b.d) f e d c
 rw [kM ha,kM hb] at h;exact h
theorem O4:CO 168 [qA a,qA b] (.ret (qA (jg a b))):=by
 obtain ⟨_,_,f,e⟩:=wR sa hL
 obtain ⟨d,c,_,_⟩:=wR sb hL
 have h:=FD a.neg b.neg (ae a.n) (ae a.d) (ae b.n) (ae b.d) f e d c
 rw [kM ha,kM hb] at h;exact h
theorem O3:CO 169 [qA a,qA b] (.ret (qA (mZ a b))):=by
 obtain ⟨_,_,f,e⟩:=wR sa hL
 obtain ⟨_,_,d,c⟩:=wR sb hL
 have h:=QZ a.neg b.neg (ae a.n) (ae a.d) (ae b.n) (ae b.d) f e d c
 rw [kM ha,kM hb] at h;exact h
theorem XK:CO 127 [qA a,qA b] (.ret (.int .i64 (kZ a b))):=by
 obtain ⟨f,e,_,_⟩:=wR sa hL
 obtain ⟨d,c,_,_⟩:=wR sb hL
 have h:=FC a.neg b.neg (ae a.n) (ae a.d) (ae b.n) (ae b.d) f e d c
 rw [kM ha,kM hb] at h;exact h
theorem afA (f:0<b.n):CO 125 [qA a,qA b] (.ret (.tup [qA (xG a b),.bool true])):=by
 obtain ⟨_,_,g,e⟩:=wR sa hL
 obtain ⟨_,_,d,c⟩:=wR sb hL
 have h:=Me a.neg b.neg (ae a.n) (ae a.d) (ae b.n) (ae b.d) g e d c (by rw [kM hb];exact f)
 rw [kM ha,kM hb] at h;exact h
end
section
variable {a s:RQ} (ha:a.ok) (fa:jV a=true) (hs:s.ok) (fs:jV s=true) (hp:0<wH s)
include ha fa hs fs hp
theorem S9:CO 176 [qA a,qA s] (.ret (.bool true)):=by
 obtain ⟨j,i⟩:=b_ fa
 obtain ⟨f,e⟩:=b_ fs
 have d:=lV a.neg (ae a.n) (ae a.d) (by omega) (by omega)
 have c:=lV s.neg (ae s.n) (ae s.d) (by omega) (by omega)
 rw [qi a ha] at d
 rw [qi s hs] at c
 have g:=XO s hs (by omega) (by omega)
 have h:=ad9 a s _ d c g
 rw [decide_eq_true (show ((0:Nat):Int)<wH s from hp)] at h
 exact h
omit ha hs hp in
theorem V9:mJ 104 (Tu (flI (xG a s))):=by
 obtain ⟨g,e⟩:=b_ fa
 obtain ⟨d,c⟩:=b_ fs
 have m:=(Yb (L:=51) ⟨g,e⟩ ⟨d,c⟩).1
 generalize xG a s=q at*
 have h:(ae 1).length≤1:=dR (x:=1) (k:=1) (by decide)
 have j:=oq (Nat.div_le_self q.n q.d)
 have i:=yS (q.n / q.d) 1
 have f:(flI q).natAbs≤q.n / q.d+1:=by
  unfold flI;split
  ·rw [Int.natAbs_neg,Int.natAbs_natCast];split<;>omega
  ·rw [Int.natAbs_natCast];omega
 have n:=oq f
 exact ⟨by show (ae (flI q).natAbs).length≤104;omega,by show (ae 1).length≤104;omega⟩
omit ha hs hp in
theorem NV:mJ 208 (CU a s):=Pi (L:=104) (V9 fa fs) ⟨by have:=(b_ fs).1;omega,by have:=(b_ fs).2;omega⟩
theorem D7:CO 131 [qA a,qA s] (.ret (.tup [qA (CU a s),.bool true])):=by
 have f:=(afu hs hp).2
 have d:mJ 51 a:=b_ fa
 have c:mJ 51 s:=b_ fs
 have e:=Yb d c
 refine ahc a s _ _ _ (S9 ha fa hs fs hp) (afA ha hs d c (by decide) f) (Td (Jz ha f) (Nat.lt_of_le_of_lt e.1 (by decide)) (Nat.lt_of_le_of_lt e.2 (by decide))) ?_
 exact O3 (Qq _) hs (V9 fa fs) (c.mono (by decide)) (by decide)
theorem aeg:CO 132 [qA a,qA s] (.ret (.tup [qA (upR a s),.bool true])):=by
 have hd:=D7 ha fa hs fs hp
 have c:=NV fa fs
 have d:mJ 51 s:=b_ fs
 have e:((CU a s).neg==a.neg && ((ae (CU a s).n==ae a.n) && ((ae (CU a s).d==ae a.d) && true)))=eqR (CU a s) a:=by unfold eqR;rw [Bool.and_true]
 unfold upR
 cases h:eqR (CU a s) a with
 |true=>
  rw [if_pos rfl]
  rw [h] at e
  have:=ahM a s (CU a s) (by rw [e];rfl) hd
  rw [ZH.1 h] at this;exact this
 |false=>
  rw [if_neg (by simp)]
  rw [h] at e
  exact ahL a s (CU a s) _ (by rw [e];rfl) hd (Fv (xh hs) hs c (d.mono (by decide)) (by decide))
theorem VI:CO 129 [qA a,qA s] (.ret (.tup [qA (nrR a s),.bool true])):=by
 have hd:=D7 ha fa hs fs hp
 have f:=NV fa fs
 have j:mJ 51 a:=b_ fa
 have m:mJ 51 s:=b_ fs
 have e:=xh (a:=a) hs
 have d:=pX ha e
 have c:=Pj (j.mono (show 51≤208 by decide)) f
 have k:=O4 ha e (j.mono (show 51≤208 by decide)) f (by decide)
 have i:=Fv d d c c (by decide)
 have g:=XK (jD d d) hs (FN c c) (m.mono (by decide)) (by decide)
 unfold nrR
 by_cases h:0≤kZ (iP (jg a (CU a s)) (jg a (CU a s))) s
 ·rw [if_pos h]
  exact ahl a s _ (CU a s) _ _ _ (decide_eq_true h) hd k i g (Fv e hs f (m.mono (by decide)) (by decide))
 ·rw [if_neg h]
  exact ahm a s _ (CU a s) _ _ (by
   rw [show decide (((0:Nat):Int)≤kZ (iP (jg a (CU a s)) (jg a (CU a s))) s)=false from decide_eq_false h];rfl) hd k i g
end
end Go.Proofs.Tryz
set_option maxRecDepth 100000
open Go AM
namespace Go.Proofs.Tryz
structure Sc where
 name:List UInt8
 u1:Int
 u2:Int
 bx:List AV
 bn:Nat
def Q5 (x:Sc):List AV:= [.str x.name,.int .i64 x.u1,.int .i64 x.u2,.sl x.bx x.bn false]
def kS (l:List Sc):List AV:=l.flatMap Q5
theorem XT {l:List Sc} {k:Nat} (h:k<l.length):List.drop (k*4) (kS l)=Q5 l[k]++kS (l.drop (k+1)):=by
 induction l generalizing k with
 |nil=>simp at h
 | cons x r ih=>
  cases k with
  |zero=>simp [kS]
  |succ k=>
   have c:k<r.length:=by simpa using h
   show List.drop ((k+1)*4) (Q5 x++kS r)=_
   rw [show (k+1)*4=(Q5 x).length+k*4 by simp [Q5];omega,List.drop_append,Nat.add_sub_cancel_left,ih c,List.drop_of_length_le (by omega)]
   rfl
theorem NG {A:List (List Nat)} {k:Nat} (h:k<A.length):List.drop (Int.toNat (k:Int)*1) (dA A)= [RZ (A.getD k [])]++dA (A.drop (k+1)):=by
 unfold dA
 rw [aJ,Nat.mul_one,← List.map_drop,List.drop_eq_getElem_cons h,List.getD_eq_getElem?_getD,List.getElem?_eq_getElem h]
 rfl
theorem UO (k:Nat):decide (((0:Nat):Int)≤(k:Int))=true:=decide_eq_true (by omega)
theorem dlt {k n:Nat} (h:k<n):decide ((k:Int)<(n:Int))=true:=decide_eq_true (by omega)
end Go.Proofs.Tryz
open Go AM
namespace Go.Proofs.Tryz
theorem GV:∀ (r:List Nd) (k:Nat) (st:List Nat),(∀ j ∈ st,j<k)→(∃ e,gZ r st.length= .inl e)→(rM r k st).length=r.length∧∀ i x,r[i]? =some x→((rM r k st).getD i []).length=dX x.op∧∀ j ∈ (rM r k st).getD i [],j<k+i
 | [],k,st,_,_=> ⟨rfl,fun i x h=>by simp at h⟩
 | x ::r,k,st,hst,⟨e,he⟩=>by
  simp only [gZ] at he
  split at he
  ·split at he
   ·cases he
   ·rename_i p o
    have m:(st.take (st.length - dX x.op)++ [k]).length=st.length - dX x.op+1:=by rw [List.length_append,List.length_take,List.length_singleton];omega
    have f:=GV r (k+1) (st.take (st.length - dX x.op)++ [k]) (by
     intro j c
     rcases List.mem_append.1 c with c|c
     ·have:=hst j (List.mem_of_mem_take c);omega
     ·rw [List.mem_singleton.1 c];omega) ⟨e,by rw [m];exact he⟩
    refine ⟨by simp only [rM,List.length_cons,f.1], ?_⟩
    intro i y d
    cases i with
    |zero=>
     simp only [List.getElem?_cons_zero,Option.some.injEq] at d
     subst d
     simp only [rM,List.getD_cons_zero]
     refine ⟨by rw [List.length_drop];omega,fun j c=> ?_⟩
     have:=hst j (List.mem_of_mem_drop c);omega
    |succ i=>
     simp only [List.getElem?_cons_succ] at d
     obtain ⟨g,n⟩:=f.2 i y d
     simp only [rM,List.getD_cons_succ]
     exact ⟨g,fun j c=>by have:=n j c;omega⟩
  ·cases he
theorem CP:∀ (r:List Nd) (d:Nat) (w:Int),gZ r d= .inr w→w ≠ 0
 | [],d,w,h=>by simp [gZ] at h
 | x::r,d,w,h=>by
  simp only [gZ] at h
  split at h
  ·split at h
   ·cases h;decide
   ·exact CP r _ w h
  ·rename_i c
   cases h;exact c
theorem wY {e:List Nd} (c:bW e=0):(eP e).length=e.length∧∀ i x,e[i]? =some x→((eP e).getD i []).length=dX x.op∧∀ j ∈ (eP e).getD i [],j<i:=by
 have h:∃ d,gZ e ([]:List Nat).length= .inl d:=by
  unfold bW at c
  split at c
  ·cases c
  ·split at c
   ·rename_i d hd;exact ⟨d,hd⟩
   ·rename_i w f
    exact absurd c (CP _ _ _ f)
 obtain ⟨m,k⟩:=GV e 0 [] (by simp) h
 exact ⟨m,fun i x g=>by have:=k i x g;rw [Nat.zero_add] at this;exact this⟩
end Go.Proofs.Tryz
set_option maxRecDepth 100000
open Go AM
namespace Go.Proofs.Tryz
theorem wkn {n c:Nat} (h:n=c+1) (d:n<2^40):AV.int .i64 (IntKind.wrap .i64 ((n:Int) - ((1:Nat):Int)))= .int .i64 (c:Int):=by rw [bF]<;>first|(congr 1;omega)|omega
theorem dle {n:Nat} (h:n<2^40):decide ((n:Int)≤((1099511627776:Nat):Int))=true:=decide_eq_true (by omega)
theorem U7 (l:List Nd) (nn:Bool) (c:∀ x ∈ l,x.sm) (d:bW l=0):CO 24 [.sl (bC l) l.length nn] (.ret (.tup [.sl (dA (eP l)) (eP l).length true,.bool true])):=by
 rw [(wY d).1];exact YT l nn c d
structure Br where
 fn:Bool
 fa:List UInt8
 fd:List UInt8
 rn:Bool
 ra:List UInt8
 rd:List UInt8
def Sl (x:Br):List AV:= [.bool x.fn,.str x.fa,.str x.fd,.bool x.rn,.str x.ra,.str x.rd]
def nG (l:List Br):List AV:=l.flatMap Sl
def Br.sm (x:Br):Prop:=(x.fa.length<2^33∧x.fd.length<2^33)∧(x.ra.length<2^33∧x.rd.length<2^33)
abbrev brF (x:Br):AV:= .agg [.bool x.fn,.str x.fa,.str x.fd]
abbrev brR (x:Br):AV:= .agg [.bool x.rn,.str x.ra,.str x.rd]
theorem DJ {l:List Br} {k:Nat} (h:k<l.length):List.drop (Int.toNat (k:Int)*6) (nG l)=Sl l[k]++nG (l.drop (k+1)):=by
 rw [aJ]
 induction l generalizing k with
 |nil=>simp at h
 | cons x r ih=>
  cases k with
  |zero=>simp [nG]
  |succ k=>
   have c:k<r.length:=by simpa using h
   show List.drop ((k+1)*6) (Sl x++nG r)=_
   rw [show (k+1)*6=(Sl x).length+k*6 by simp [Sl];omega,List.drop_append,Nat.add_sub_cancel_left,ih c,List.drop_of_length_le (by omega)]
   rfl
def GX (cmp:Br→Br→Int):Option Br→List Br→Bool
 |_,[]=>true
 |none,x::r=>cond (iO x.fn x.fa x.fd) (cond (iO x.rn x.ra x.rd) (cond (ry x.fn x.fa x.fd==((0:Nat):Int)) (GX cmp (some x) r) false) false) false
 |some y,x::r=>cond (iO x.fn x.fa x.fd) (cond (iO x.rn x.ra x.rd) (cond (decide (((0:Nat):Int)≤cmp y x)) false (GX cmp (some x) r)) false) false
def agC (nm:List UInt8) (u1 u2:Int) (l:List Br) (k:Nat):St:=⟨[(1,.ptr 0 0 0),(3,.sl (nG l) l.length false),(16,.sl (nG l) l.length false),(17,.int .i64 (l.length:Int)),(18,.int .i64 (k:Int))],[(0,⟨[.str nm,.int .i64 u1,.int .i64 u2,.sl (nG l) l.length false],0,false,0,0,true⟩)],.dead,[]⟩
def acr (l:List Br):Bool→St
 |true=> ⟨[(3,.sl (nG l) l.length false)],[],.dead,[]⟩
 |false=> ⟨[(2,.int .i64 11)],[],.dead,[]⟩
def bkE:Bool→bI
 |true=> .exit 1
 |false=> .ret
def GI (f:Nat) (cmp:Br→Br→Int) (l:List Br):Prop:=∀ i y x,l[i]? =some y→l[i+1]? =some x→iO x.fn x.fa x.fd=true→iO x.rn x.ra x.rd=true→CO f [brF y,brF x] (.ret (.int .i64 (cmp y x)))
theorem YY {nt:Nat} (j:60≤nt) (nm:List UInt8) (u1 u2:Int) (l:List Br) (cmp:Br→Br→Int) (F:l.length<2^40) (E:∀ x ∈ l,x.sm) (J:GI 127 cmp l):∀ (r p:List Br),p++r=l→
  aI prog ap [] nt (af 1 (ah f202)) bkE (agC nm u1 u2 l) (acr l) p.length (GX cmp p.getLast? r):=by
 intro r
 induction r with
 |nil=>
  intro p hp
  rw [List.append_nil] at hp
  subst hp
  have c:(decide ((p.length:Int)<(p.length:Int)))=false:=decide_eq_false (by omega)
  rw [show GX cmp p.getLast? []=true by cases p.getLast? <;>rfl]
  exact .done (pN 202 [] 1 0 (.c (aF c) .nil) (.nil) j)
 | cons x r ih=>
  intro p hp
  have G:p.length<l.length:=by rw [← hp];simp
  have t:l[p.length]=x:=by subst hp;simp
  have g:=DJ G
  rw [t] at g
  have i:=ih (p++ [x]) (by rw [← hp];simp)
  rw [List.getLast?_append,List.getLast?_singleton,List.length_append,List.length_singleton] at i
  simp only [Option.some_or] at i
  have hs:=E x (by rw [← hp];simp)
  have d:CO 115 [brF x] (.ret (.bool (iO x.fn x.fa x.fd))):=lV x.fn x.fa x.fd (Nat.lt_trans hs.1.1 (by decide)) (Nat.lt_trans hs.1.2 (by decide))
  have f:CO 115 [brR x] (.ret (.bool (iO x.rn x.ra x.rd))):=lV x.rn x.ra x.rd (Nat.lt_trans hs.2.1 (by decide)) (Nat.lt_trans hs.2.2 (by decide))
  have H:CO 121 [brF x] (.ret (.int .i64 (ry x.fn x.fa x.fd))):=oI x.fn x.fa x.fd (Nat.lt_trans hs.1.1 (by decide)) (Nat.lt_trans hs.1.2 (by decide))
  cases n:p.getLast? with
  | none=>
   have C:p= []:=List.getLast?_eq_none_iff.1 n
   subst C
   generalize K:([]:List Br).length=k at*
   have B:k=0:=by rw [← K];rfl
   generalize nG (l.drop (k+1))=rB at g
   have c:(decide ((k:Int)<(l.length:Int)))=true:=decide_eq_true (by omega)
   have u:((k:Int)==((0:Nat):Int))=true:=by rw [B];rfl
   have z:(decide (((0:Nat):Int)<(k:Int)))=false:=decide_eq_false (by omega)
   have D:k<2^62:=by omega
   rcases tf (iO x.fn x.fa x.fd) with d0|d0
   ·rcases tf (iO x.rn x.ra x.rd) with d1|d1
    ·rcases tf ((ry x.fn x.fa x.fd)==((0:Nat):Int)) with d2|d2
     ·simp only [GX,d0,d1,d2,cond_true,cond_false]
      exact .next (pN 202 [] 7 9 (.k 1 (aF z) (.c (aW d2) (.k 3 (aG u) (.c (aW d1) (.k 3 (aW d0) (.k 10 (UO k) (.c c (.c (aG c) .nil)))))))) (.v 57 (.eq (Ci D)) (.c H (.c f (.c d (.v 21 (.ppt g) .nil))))) j) i
     ·simp only [GX,d0,d1,d2,cond_true,cond_false]
      exact .done (pN 202 [] 6 57 (.k 1 (d_ d2) (.k 3 (aG u) (.c (aW d1) (.k 3 (aW d0) (.k 10 (UO k) (.c c (.c (aG c) .nil))))))) (.c H (.c f (.c d (.v 21 (.ppt g) .nil)))) j)
    ·simp only [GX,d0,d1,cond_true,cond_false]
     exact .done (pN 202 [] 3 5 (.c (d_ d1) (.k 3 (aW d0) (.k 10 (UO k) (.c c (.c (aG c) .nil))))) (.c f (.c d (.v 21 (.ppt g) .nil))) j)
   ·simp only [GX,d0,cond_true,cond_false]
    exact .done (pN 202 [] 3 7 (.k 1 (d_ d0) (.k 10 (UO k) (.c c (.c (aG c) .nil)))) (.c d (.v 21 (.ppt g) .nil)) j)
  | some y=>
   obtain ⟨q,A⟩:∃ q,p=q++ [y]:=by
    obtain ⟨q,h⟩:=List.getLast?_eq_some_iff.1 n
    exact ⟨q,h⟩
   have m:p.length=q.length+1:=by rw [A];simp
   have e:q.length<l.length:=by omega
   have w:=DJ e
   have v:l[q.length]=y:=by subst hp A;simp
   rw [v] at w
   have I:=J q.length y x (by rw [List.getElem?_eq_getElem e,v]) (by rw [← m,List.getElem?_eq_getElem G,t])
   clear A
   generalize p.length=k at*
   generalize q.length=k1 at*
   generalize nG (l.drop (k+1))=rB at g
   generalize nG (l.drop (k1+1))=rC at w
   have c:(decide ((k:Int)<(l.length:Int)))=true:=decide_eq_true (by omega)
   have u:((k:Int)==((0:Nat):Int))=false:=beq_eq_false_iff_ne.2 (by omega)
   have z:(decide (((0:Nat):Int)<(k:Int)))=true:=decide_eq_true (by omega)
   have D:k<2^62:=by omega
   have o:k<2^40:=by omega
   rcases tf (iO x.fn x.fa x.fd) with d0|d0
   ·rcases tf (iO x.rn x.ra x.rd) with d1|d1
    ·rcases tf (decide (((0:Nat):Int)≤(cmp y x))) with d2|d2
     ·simp only [GX,d0,d1,d2,cond_true,cond_false]
      exact .done (pN 202 [] 7 97 (.c (aG d2) (.k 6 (UO k1) (.c (dlt e) (.c (aG z) (.k 1 (aF u) (.c (aW d1) (.k 3 (aW d0) (.k 10 (UO k) (.c c (.c (aG c) .nil)))))))))) (.c (I d0 d1) (.v 48 (.ppt w) (.v 47 (.eq (wkn m o)) (.c f (.c d (.v 21 (.ppt g) .nil)))))) j)
     ·simp only [GX,d0,d1,d2,cond_true,cond_false]
      exact .next (pN 202 [] 7 33 (.c (aF d2) (.k 6 (UO k1) (.c (dlt e) (.c (aG z) (.k 1 (aF u) (.c (aW d1) (.k 3 (aW d0) (.k 10 (UO k) (.c c (.c (aG c) .nil)))))))))) (.v 57 (.eq (Ci D)) (.c (I d0 d1) (.v 48 (.ppt w) (.v 47 (.eq (wkn m o)) (.c f (.c d (.v 21 (.ppt g) .nil))))))) j) i
    ·simp only [GX,d0,d1,cond_true,cond_false]
     exact .done (pN 202 [] 3 5 (.c (d_ d1) (.k 3 (aW d0) (.k 10 (UO k) (.c c (.c (aG c) .nil))))) (.c f (.c d (.v 21 (.ppt g) .nil))) j)
   ·simp only [GX,d0,cond_true,cond_false]
    exact .done (pN 202 [] 3 7 (.k 1 (d_ d0) (.k 10 (UO k) (.c c (.c (aG c) .nil)))) (.c d (.v 21 (.ppt g) .nil)) j)
def I8 (P:Br→Bool):List Br→Nat→Option Nat
 | [],_=>none
 |x::r,i=>if P x then some i else I8 P r (i+1)
theorem La (P:Br→Bool):∀ (r:List Br) (i:Nat),(I8 P r i).isSome=r.any P
 | [],_=>rfl
 |x::r,i=>by
  unfold I8
  rw [List.any_cons]
  rcases tf (P x) with h|h
  ·rw [if_pos h,h];rfl
  ·rw [if_neg (by rw [h];decide),h,Bool.false_or];exact La P r (i+1)
def acE (l:List Br) (k:Nat):St:=⟨[(0,.sl (nG l) l.length false),(1,.fn 218 [] []),(7,.int .i64 (l.length:Int)),(8,.int .i64 (k:Int))],[],.dead,[]⟩
def Wv (l:List Br):Option Nat→St
 |none=> ⟨[(0,.sl (nG l) l.length false)],[],.dead,[]⟩
 |some i=> ⟨[(4,.int .i64 (i:Int))],[],.dead,[]⟩
theorem Wx {nt:Nat} (f:19≤nt) (l:List Br) (P:Br→Bool) (i:l.length<2^40) (n:∀ x ∈ l,CO 218 [.agg (Sl x)] (.ret (.bool (P x)))):∀ (r p:List Br),p++r=l→
  aI prog ap [] nt (af 0 (ah f230)) ixE (acE l) (Wv l) p.length (I8 P r p.length):=by
 intro r
 induction r with
 |nil=>
  intro p hp
  rw [List.append_nil] at hp
  subst hp
  have c:(decide ((p.length:Int)<(p.length:Int)))=false:=decide_eq_false (by omega)
  exact .done (pN 230 [] 1 0 (.c (aF c) .nil) (.nil) f)
 | cons x r ih=>
  intro p hp
  have j:p.length<l.length:=by rw [← hp];simp
  have g:l[p.length]=x:=by subst hp;simp
  have e:=DJ j
  rw [g] at e
  have d:=ih (p++ [x]) (by rw [← hp];simp)
  rw [List.length_append,List.length_singleton] at d
  have h:=n x (by rw [← hp];simp)
  unfold I8
  generalize p.length=k at*
  generalize nG (l.drop (k+1))=rB at e
  have c:(decide ((k:Int)<(l.length:Int)))=true:=decide_eq_true (by omega)
  have m:k<2^62:=by omega
  rcases tf (P x) with d0|d0
  ·rw [if_pos d0]
   exact .done (pN 230 [] 2 3 (.c (aG d0) (.k 6 (UO k) (.c c (.c (aG c) .nil)))) (.c h (.v 14 (.ppt e) .nil)) f)
  ·rw [if_neg (by rw [d0];decide)]
   exact .next (pN 230 [] 2 1 (.c (aF d0) (.k 6 (UO k) (.c c (.c (aG c) .nil)))) (.v 18 (.eq (Ci m)) (.c h (.v 14 (.ppt e) .nil))) f) d
theorem aex (l:List Br) (i:Nat) (c:aK prog ap [] 19 (.block 0 (.loop (af 0 (ah f230)))) ⟨[(0,.sl (nG l) l.length false),(1,.fn 218 [] []),(4,.int .i64 0),(5,.dead),(7,.int .i64 (l.length:Int)),(8,.int .i64 0),(9,.dead),(16,.dead)],[],.dead,[]⟩ (.ret) ⟨[(4,.int .i64 (i:Int))],[],.dead,[]⟩):CO 230 [.sl (nG l) l.length false,.fn 218 [] []] (.ret (.int .i64 (i:Int))):=pK [0] 0 0 .nil (.l c .nil)
theorem aew (l:List Br) (c:aK prog ap [] 19 (.block 0 (.loop (af 0 (ah f230)))) ⟨[(0,.sl (nG l) l.length false),(1,.fn 218 [] []),(4,.int .i64 0),(5,.dead),(7,.int .i64 (l.length:Int)),(8,.int .i64 0),(9,.dead),(16,.dead)],[],.dead,[]⟩ (.normal) ⟨[(0,.sl (nG l) l.length false)],[],.dead,[]⟩):CO 230 [.sl (nG l) l.length false,.fn 218 [] []] (.ret (.int .i64 (-1))):=pK [0] 0 0 .nil (.l c .nil)
theorem aev (l:List Br) (P:Br→Bool) (c:l.length<2^40) (f:∀ x ∈ l,CO 218 [.agg (Sl x)] (.ret (.bool (P x)))):CO 230 [.sl (nG l) l.length false,.fn 218 [] []] (.ret (.int .i64 (ixI (I8 P l 0)))):=by
 have h:∀ nt,19≤nt→aI prog ap [] nt (af 0 (ah f230)) ixE (acE l) (Wv l) 0 (I8 P l 0):=fun nt e=>Wx e l P c f l [] rfl
 cases d:I8 P l 0 with
 |none=>
  rw [d] at h
  exact aew l (aI.blk h (by simp [ixE]) rfl (aO.of ⟨rfl,rfl,rfl,rfl,trivial⟩) (aO.of ⟨rfl,trivial⟩))
 |some i=>
  rw [d] at h
  exact aex l i (aI.blk h (by simp [ixE]) rfl (aO.of ⟨rfl,rfl,rfl,rfl,trivial⟩) (aO.of ⟨rfl,trivial⟩))
theorem Za (l:List Br) (c:Int) (d:CO 230 [.sl (nG l) l.length false,.fn 218 [] []] (.ret (.int .i64 c))):CO 217 [.sl (nG l) l.length false,.fn 218 [] []] (.ret (.bool (decide (((0:Nat):Int)≤c)))):=pK [] 0 0 .nil (.c d .nil)
theorem Vp (l:List Br) (P:Br→Bool) (c:l.length<2^40) (e:∀ x ∈ l,CO 218 [.agg (Sl x)] (.ret (.bool (P x)))):CO 217 [.sl (nG l) l.length false,.fn 218 [] []] (.ret (.bool (l.any P))):=by
 have h:=Za l _ (aev l P c e)
 rw [← La P l 0]
 cases d:I8 P l 0 with
 |none=>rw [d] at h;exact h
 |some i=>
  rw [d] at h
  rw [show (some i).isSome=decide (((0:Nat):Int)≤ixI (some i)) from (decide_eq_true (show ((0:Nat):Int)≤(i:Int) by omega)).symm]
  exact h
def Gs (x:Br):Bool:= !(fC x.fn x.fa x.fd)|| !(fC x.rn x.ra x.rd)
theorem adm (x:Br) (hs:x.sm):CO 218 [.agg (Sl x)] (.ret (.bool (Gs x))):=by
 rcases tf (fC x.fn x.fa x.fd) with b0|b0
 ·rw [show Gs x= !(fC x.rn x.ra x.rd) by unfold Gs;rw [b0];rfl]
  exact pK [] 1 0 (.k 3 (aW b0) (.n 3 .nil)) (.c (fU x.rn x.ra x.rd (Nat.lt_trans hs.2.1 (by decide)) (Nat.lt_trans hs.2.2 (by decide))) (.c (fU x.fn x.fa x.fd (Nat.lt_trans hs.1.1 (by decide)) (Nat.lt_trans hs.1.2 (by decide))) .nil))
 ·rw [show Gs x=true by unfold Gs;rw [b0];rfl]
  exact pK [] 1 1 (.c (d_ b0) (.n 3 .nil)) (.c (fU x.fn x.fa x.fd (Nat.lt_trans hs.1.1 (by decide)) (Nat.lt_trans hs.1.2 (by decide))) .nil)
def JS (cmp:Br→Br→Int) (l:List Br):Int:=cond (decide (((8:Nat):Int)<(l.length:Int))) 2 (cond ((l.length:Int)==((0:Nat):Int)) 11 (cond (GX cmp none l) (cond (l.any Gs) 3 0) 11))
theorem akP (nm:List UInt8) (u1 u2:Int) (l:List Br) (c:Bool) (d:(decide (((8:Nat):Int)<(l.length:Int)))=false) (f:((l.length:Int)==((0:Nat):Int))=false) (e:CO 217 [.sl (nG l) l.length false,.fn 218 [] []] (.ret (.bool c)))
  (l0:aK prog ap [] 60 (.block 1 (.loop (af 1 (ah f202)))) ⟨[(0,.agg [.str nm,.int .i64 u1,.int .i64 u2,.sl (nG l) l.length false]),(1,.ptr 0 0 0),(2,.int .i64 0),(3,.sl (nG l) l.length false),(4,.dead),(5,.dead),(8,.bool (decide (((8:Nat):Int)<(l.length:Int)))),(12,.bool ((l.length:Int)==((0:Nat):Int))),(16,.sl (nG l) l.length false),(17,.int .i64 (l.length:Int)),(18,.int .i64 0),(19,.dead),(32,.dead),(56,.dead),(59,.dead)],[(0,⟨[.str nm,.int .i64 u1,.int .i64 u2,.sl (nG l) l.length false],0,false,0,0,true⟩)],.dead,[]⟩ (.normal) ⟨[(3,.sl (nG l) l.length false)],[],.dead,[]⟩):CO 202 [.agg [.str nm,.int .i64 u1,.int .i64 u2,.sl (nG l) l.length false]] (.ret (.int .i64 (cond c 3 0))):=by
 rcases tf c with b2|b2
 ·rw [show (cond c 3 0:Int)=3 by rw [b2];rfl]
  exact pK [1] 3 4 (.c (aG b2) (.c (aF f) (.c (aF d) (.n 1 .nil)))) (.c e (.l l0 .nil))
 ·rw [show (cond c 3 0:Int)=0 by rw [b2];rfl]
  exact pK [1] 3 0 (.c (aF b2) (.c (aF f) (.c (aF d) (.n 1 .nil)))) (.c e (.l l0 .nil))
theorem akO (nm:List UInt8) (u1 u2:Int) (l:List Br) (c:(decide (((8:Nat):Int)<(l.length:Int)))=false) (d:((l.length:Int)==((0:Nat):Int))=false)
  (l0:aK prog ap [] 60 (.block 1 (.loop (af 1 (ah f202)))) ⟨[(0,.agg [.str nm,.int .i64 u1,.int .i64 u2,.sl (nG l) l.length false]),(1,.ptr 0 0 0),(2,.int .i64 0),(3,.sl (nG l) l.length false),(4,.dead),(5,.dead),(8,.bool (decide (((8:Nat):Int)<(l.length:Int)))),(12,.bool ((l.length:Int)==((0:Nat):Int))),(16,.sl (nG l) l.length false),(17,.int .i64 (l.length:Int)),(18,.int .i64 0),(19,.dead),(32,.dead),(56,.dead),(59,.dead)],[(0,⟨[.str nm,.int .i64 u1,.int .i64 u2,.sl (nG l) l.length false],0,false,0,0,true⟩)],.dead,[]⟩ (.ret) ⟨[(2,.int .i64 11)],[],.dead,[]⟩):CO 202 [.agg [.str nm,.int .i64 u1,.int .i64 u2,.sl (nG l) l.length false]] (.ret (.int .i64 11)):=pK [1] 2 0 (.c (aF d) (.c (aF c) (.n 1 .nil))) (.l l0 .nil)
theorem O1 (nm:List UInt8) (u1 u2:Int) (l:List Br) (cmp:Br→Br→Int) (c:l.length<2^40) (d:∀ x ∈ l,x.sm) (i:GI 127 cmp l):CO 202 [.agg [.str nm,.int .i64 u1,.int .i64 u2,.sl (nG l) l.length false]] (.ret (.int .i64 (JS cmp l))):=by
 unfold JS
 rcases tf (decide (((8:Nat):Int)<(l.length:Int))) with d0|d0
 ·rw [d0]
  exact pK [] 1 1 (.c (aG d0) (.n 1 .nil)) (.nil)
 ·rw [d0]
  rcases tf ((l.length:Int)==((0:Nat):Int)) with d1|d1
  ·rw [d1]
   exact pK [] 2 2 (.c (aG d1) (.c (aF d0) (.n 1 .nil))) (.nil)
  ·rw [d1]
   have h:∀ nt,60≤nt→aI prog ap [] nt (af 1 (ah f202)) bkE (agC nm u1 u2 l) (acr l) 0 (GX cmp none l):=fun nt f=>YY f nm u1 u2 l cmp c d i l [] rfl
   cases e:GX cmp none l with
   |true=>
    rw [e] at h
    exact akP nm u1 u2 l _ d0 d1 (Vp l Gs c fun x g=>adm x (d x g)) (aI.blk h (by simp [bkE]) rfl (aO.of ⟨rfl,rfl,rfl,rfl,rfl,trivial⟩) (aO.of ⟨rfl,trivial⟩))
   |false=>
    rw [e] at h
    exact akO nm u1 u2 l d0 d1 (aI.blk h (by simp [bkE]) rfl (aO.of ⟨rfl,rfl,rfl,rfl,rfl,trivial⟩) (aO.of ⟨rfl,trivial⟩))
end Go.Proofs.Tryz
set_option maxRecDepth 100000
set_option linter.unusedVariables false
open Go AM
namespace Go.Proofs.Tryz
def PO (b:RQ × RQ):List AV:= [.bool b.1.neg,.str (ae b.1.n),.str (ae b.1.d),.bool b.2.neg,.str (ae b.2.n),.str (ae b.2.d)]
def xU (l:List (RQ × RQ)):List AV:=l.flatMap PO
def rvC (q:RQ):List AV:= [.bool q.neg,.str (ae q.n),.str (ae q.d)]
def GG (l:List RQ):List AV:=l.flatMap rvC
abbrev JV (nm:List UInt8) (u1 u2:Int) (l:List (RQ × RQ)):AV:= .agg [.str nm,.int .i64 u1,.int .i64 u2,.sl (xU l) l.length false]
abbrev Q8 (nm:List UInt8) (u1 u2:Int) (l:List (RQ × RQ)):AV:= .pp [.str nm,.int .i64 u1,.int .i64 u2,.sl (xU l) l.length false] 0
abbrev Q3 (x:RQ):AV:= .pp [.bool x.neg,.str (ae x.n),.str (ae x.d)] 0
theorem ag_ (x:RQ) (c:Int) (nm:List UInt8) (u1 u2:Int) (l:List (RQ × RQ)) (f:lit false (!(c==((0:Nat):Int)))=true) (d:CO 202 [JV nm u1 u2 l] (.ret (.int .i64 c))) (g:CO 115 [qA x] (.ret (.bool true))) (e:CO 70 [qA x] (.ret (.bool true))):CO 172 [JV nm u1 u2 l,qA x] (.ret (.int .i64 0)):=pK [] 3 0 (.k 8 f (.n 4 .nil)) (.c e (.c g (.c d .nil)))
theorem ahb (x:RQ) (c:Nat) (nm:List UInt8) (u1 u2:Int) (l:List (RQ × RQ)) (d:CO 203 [.int .i64 (l.length:Int),.fn 204 [] [Q8 nm u1 u2 l,Q3 x]] (.ret (.int .i64 (c:Int)))):CO 173 [JV nm u1 u2 l,qA x] (.ret (.int .i64 (c:Int))):=pK [] 0 0 (.n 1 .nil) (.c d .nil)
theorem aha (x:RQ) (k:Nat) (g:Int) (nm:List UInt8) (u1 u2:Int) (l:List (RQ × RQ)) (b:RQ × RQ) (rb:List AV) (c:(List.drop ((Int.toNat (k:Int))*6) (xU l))=PO b++rb) (e:(decide (((0:Nat):Int)≤(k:Int)))=true) (f:(decide ((k:Int)<(l.length:Int)))=true) (d:CO 127 [qA b.1,qA x] (.ret (.int .i64 g))):CO 204 [.int .i64 (k:Int),Q8 nm u1 u2 l,Q3 x] (.ret (.bool (decide (((0:Nat):Int)<g)))):=pK [] 0 0 (.k 6 e (.c f (.n 1 .nil))) (.c d (.v 8 (.ppt c) .nil))
theorem ahf (x:RQ) (c:lit true (!(jV x))=true) (d:CO 70 [qA x] (.ret (.bool (jV x)))):CO 174 [qA x] (.ret (.tup [.agg [.bool false,.str [],.str []],.int .i64 3])):=pK [] 1 1 (.k 4 c (.n 3 .nil)) (.c d .nil)
theorem ahg (x:RQ) (c:lit false (!(jV x))=true) (d:CO 70 [qA x] (.ret (.bool (jV x)))):CO 174 [qA x] (.ret (.tup [qA x,.int .i64 0])):=pK [] 1 0 (.k 7 c (.n 3 .nil)) (.c d .nil)
theorem ahE (x:RQ) (p:Bool) (i j c:Nat) (nm:List UInt8) (u1 u2:Int) (l:List (RQ × RQ)) {nt:Nat} (d:26≤nt) (k:AV.int .i64 (IntKind.wrap .i64 (Int.fdiv (IntKind.wrap .u64 (IntKind.wrap .i64 ((i:Int)+(j:Int)))) (2^(min 1 64))))=AV.int .i64 (c:Int)) (e:AV.int .i64 (IntKind.wrap .i64 ((c:Int)+((1:Nat):Int)))=AV.int .i64 ((c+1:Nat):Int)) (g:lit true (!p)=true) (h:lit true (decide ((i:Int)<(j:Int)))=true) (f:CO 204 [.int .i64 (c:Int),Q8 nm u1 u2 l,Q3 x] (.ret (.bool p))):au prog ap [] nt (af 0 (ah f203)) ⟨[(1,.fn 204 [] [Q8 nm u1 u2 l,Q3 x]),(5,.int .i64 (i:Int)),(6,.int .i64 (j:Int))],[],.dead,[]⟩ (.normal) ⟨[(1,.fn 204 [] [Q8 nm u1 u2 l,Q3 x]),(5,.int .i64 ((c+1:Nat):Int)),(6,.int .i64 (j:Int))],[],.dead,[]⟩:=pN 203 [] 2 3 (.c g (.k 1 h .nil)) (.v 23 (.eq e) (.c f (.v 17 (.eq k) .nil))) d
theorem ahF (x:RQ) (p:Bool) (i j c:Nat) (nm:List UInt8) (u1 u2:Int) (l:List (RQ × RQ)) {nt:Nat} (d:26≤nt) (h:AV.int .i64 (IntKind.wrap .i64 (Int.fdiv (IntKind.wrap .u64 (IntKind.wrap .i64 ((i:Int)+(j:Int)))) (2^(min 1 64))))=AV.int .i64 (c:Int)) (f:lit false (!p)=true) (g:lit true (decide ((i:Int)<(j:Int)))=true) (e:CO 204 [.int .i64 (c:Int),Q8 nm u1 u2 l,Q3 x] (.ret (.bool p))):au prog ap [] nt (af 0 (ah f203)) ⟨[(1,.fn 204 [] [Q8 nm u1 u2 l,Q3 x]),(5,.int .i64 (i:Int)),(6,.int .i64 (j:Int))],[],.dead,[]⟩ (.normal) ⟨[(1,.fn 204 [] [Q8 nm u1 u2 l,Q3 x]),(5,.int .i64 (i:Int)),(6,.int .i64 (c:Int))],[],.dead,[]⟩:=pN 203 [] 2 1 (.c f (.k 1 g .nil)) (.c e (.v 17 (.eq h) .nil)) d
theorem acz (x:RQ) (i j:Nat) (nm:List UInt8) (u1 u2:Int) (l:List (RQ × RQ)) {nt:Nat} (c:26≤nt) (d:lit false (decide ((i:Int)<(j:Int)))=true):au prog ap [] nt (af 0 (ah f203)) ⟨[(1,.fn 204 [] [Q8 nm u1 u2 l,Q3 x]),(5,.int .i64 (i:Int)),(6,.int .i64 (j:Int))],[],.dead,[]⟩ (.exit 0) ⟨[(5,.int .i64 (i:Int))],[],.dead,[]⟩:=pN 203 [] 1 0 (.c d .nil) (.nil) c
theorem ahB (x:RQ) (c n:Nat) (nm:List UInt8) (u1 u2:Int) (l:List (RQ × RQ)) (d:aK prog ap [] 26 (.block 0 (.loop (af 0 (ah f203)))) ⟨[(0,.int .i64 (n:Int)),(1,.fn 204 [] [Q8 nm u1 u2 l,Q3 x]),(4,.int .i64 0),(5,.int .i64 0),(6,.int .i64 (n:Int)),(7,.dead),(11,.dead),(21,.dead)],[],.dead,[]⟩ (.normal) ⟨[(5,.int .i64 (c:Int))],[],.dead,[]⟩):CO 203 [.int .i64 (n:Int),.fn 204 [] [Q8 nm u1 u2 l,Q3 x]] (.ret (.int .i64 (c:Int))):=pK [0] 0 0 .nil (.l d .nil)
theorem ahI (nm:List UInt8) (u1 u2:Int) (l:List (RQ × RQ)) (c:List RQ) (h:AV.sl (List.drop 6 (List.take ((Int.toNat (l.length:Int))*6) (xU l))) ((Int.toNat (l.length:Int)) - 1) false=AV.sl (xU l.tail) l.tail.length false) (g:(decide (((1:Nat):Int)≤(l.length:Int)))=true) (e:(decide ((l.length:Int)≤(l.length:Int)))=true) (d:CO 42 [.int .i64 0] (.ret (qA q0))) (f:aK prog ap [] 47 (.block 0 (.loop (af 0 (ah f175)))) ⟨[(0,JV nm u1 u2 l),(1,.ptr 0 0 0),(2,.nilS),(3,.ref 1 0 0 1),(4,.dead),(5,.dead),(11,.int .i64 (l.tail.length:Int)),(12,.int .i64 0),(13,.dead)],[(0,⟨[.str nm,.int .i64 u1,.int .i64 u2,.sl (xU l) l.length false],0,false,0,0,true⟩),(1,⟨[.bool q0.neg,.str (ae q0.n),.str (ae q0.d)],0,false,0,3,true⟩)],.dead,[]⟩ (.normal) ⟨[(3,.ref 0 0 0 c.length)],[(0,⟨(GG c),0,false,0,3,true⟩)],.dead,[]⟩):CO 175 [JV nm u1 u2 l] (.ret (.own (List.take (c.length*3) (GG c)) c.length 3)):=pK [0] 0 0 (.k 1 g (.c e (.n 1 .nil))) (.l f (.v 10 (.eq h) (.c d .nil)))
theorem ahC (o r v w:RQ) (k:Nat) (nm:List UInt8) (u1 u2:Int) (l:List (RQ × RQ)) (c:List RQ) (b h:RQ × RQ) (rb d t:List AV) {nt:Nat} (y:47≤nt) (n:(List.drop ((Int.toNat (k:Int))*6) (xU l))=PO b++rb) (g:(List.drop ((Int.toNat ((k+1:Nat):Int))*6) (xU l))=PO h++d) (m:(List.drop ((0+(Int.toNat (k:Int)))*3) (GG c))=rvC o++t) (j:AV.int .i64 (IntKind.wrap .i64 ((k:Int)+((1:Nat):Int)))=AV.int .i64 ((k+1:Nat):Int)) (f:((List.take (c.length*3) (GG c))++ [.bool r.neg,.str (ae r.n),.str (ae r.d)])=(GG (c++ [r]))) (B:(Nat.ble (c.length+1) 1099511627776)=true) (q:(Nat.ble (c.length*3) (List.length (GG c)))=true) (e:(decide (((0:Nat):Int)≤(k:Int)))=true) (i:(decide ((k:Int)<(l.length:Int)))=true) (A:(decide ((k:Int)<(c.length:Int)))=true) (E:(decide (((0:Nat):Int)≤((k+1:Nat):Int)))=true) (D:(decide (((k+1:Nat):Int)<(l.length:Int)))=true) (u:lit true (decide ((k:Int)<(l.tail.length:Int)))=true) (C:CO 168 [qA h.1,qA b.1] (.ret (qA v))) (z:CO 169 [qA v,qA b.2] (.ret (qA w))) (p:CO 167 [qA o,qA w] (.ret (qA r))):au prog ap [] nt (af 0 (ah f175)) ⟨[(1,.ptr 0 0 0),(3,.ref 1 0 0 c.length),(11,.int .i64 (l.tail.length:Int)),(12,.int .i64 (k:Int))],[(0,⟨[.str nm,.int .i64 u1,.int .i64 u2,.sl (xU l) l.length false],0,false,0,0,true⟩),(1,⟨(GG c),0,false,0,3,true⟩)],.dead,[]⟩ (.normal) ⟨[(1,.ptr 0 0 0),(3,.ref 1 0 0 (c.length+1)),(11,.int .i64 (l.tail.length:Int)),(12,.int .i64 ((k+1:Nat):Int))],[(0,⟨[.str nm,.int .i64 u1,.int .i64 u2,.sl (xU l) l.length false],0,false,0,0,true⟩),(1,⟨(GG (c++ [r])),0,false,0,3,true⟩)],.dead,[]⟩:=pN 175 [] 1 1 (.k 1 B (.c q (.k 4 e (.c i (.n 4 (.a (rU [.bool,.str,.str] m rfl) (.c e (.c A (.k 4 e (.c i (.k 4 E (.c D (.k 1 u .nil))))))))))))) (.v 45 (.eq j) (.b 44 f (.c p (.c z (.v 38 (.ppt n) (.v 33 (.rd [.bool,.str,.str] m rfl) (.c C (.v 25 (.ppt n) (.v 19 (.ppt g) (.v 18 (.eq j) .nil)))))))))) y
theorem ahD (k:Nat) (nm:List UInt8) (u1 u2:Int) (l:List (RQ × RQ)) (c:List RQ) {nt:Nat} (d:47≤nt) (e:lit false (decide ((k:Int)<(l.tail.length:Int)))=true):au prog ap [] nt (af 0 (ah f175)) ⟨[(1,.ptr 0 0 0),(3,.ref 1 0 0 c.length),(11,.int .i64 (l.tail.length:Int)),(12,.int .i64 (k:Int))],[(0,⟨[.str nm,.int .i64 u1,.int .i64 u2,.sl (xU l) l.length false],0,false,0,0,true⟩),(1,⟨(GG c),0,false,0,3,true⟩)],.dead,[]⟩ (.exit 0) ⟨[(3,.ref 0 0 0 c.length)],[(0,⟨(GG c),0,false,0,3,true⟩)],.dead,[]⟩:=pN 175 [] 1 0 (.c e .nil) (.nil) d
theorem adE (x:RQ) (d:Nat) (c:Int) (nm:List UInt8) (u1 u2:Int) (l:List (RQ × RQ)) (e:AV.int .i64 (IntKind.wrap .i64 ((d:Int) - ((1:Nat):Int)))=AV.int .i64 (-1)) (h:lit false (!(c==((0:Nat):Int)))=true) (f:CO 172 [JV nm u1 u2 l,qA x] (.ret (.int .i64 c))) (i:CO 173 [JV nm u1 u2 l,qA x] (.ret (.int .i64 (d:Int)))) (g:CO 42 [.int .i64 0] (.ret (qA q0))):CO 130 [JV nm u1 u2 l,qA x] (.ret (.tup [qA q0,.int .i64 0])):=pK [] 2 2 (.k 12 h (.n 7 .nil)) (.c g (.v 19 (.eq e) (.c i (.c f .nil))))
theorem adF (x o r v w:RQ) (y:Oq) (c h:Nat) (d:Int) (nm:List UInt8) (u1 u2:Int) (l:List (RQ × RQ)) (e:List RQ) (b:RQ × RQ) (rb k:List AV) (z:(List.drop ((Int.toNat (c:Int))*6) (xU l))=PO b++rb) (g:(List.drop ((0+(Int.toNat (c:Int)))*3) (GG e))=rvC o++k) (p:AV.int .i64 (IntKind.wrap .i64 ((h:Int) - ((1:Nat):Int)))=AV.int .i64 (c:Int)) (f:(decide (((0:Nat):Int)≤(c:Int)))=true) (j:(decide ((c:Int)<(e.length:Int)))=true) (q:(decide ((c:Int)<(l.length:Int)))=true) (n:lit false (decide ((c:Int)<((0:Nat):Int)))=true) (u:lit false (!(d==((0:Nat):Int)))=true) (C:CO 172 [JV nm u1 u2 l,qA x] (.ret (.int .i64 d))) (t:CO 173 [JV nm u1 u2 l,qA x] (.ret (.int .i64 (h:Int)))) (i:CO 175 [JV nm u1 u2 l] (.ret (.own (GG e) e.length 3))) (A:CO 168 [qA x,qA b.1] (.ret (qA v))) (B:CO 169 [qA b.2,qA v] (.ret (qA w))) (D:CO 167 [qA o,qA w] (.ret (qA r))) (m:CO 174 [qA r] (.ret (.tup [.agg [.bool y.n,.str y.a,.str y.d],.int .i64 y.e]))):CO 130 [JV nm u1 u2 l,qA x] (.ret (.tup [.agg [.bool y.n,.str y.a,.str y.d],.int .i64 y.e])):=pK [] 2 0 (.n 13 (.a (rU [.bool,.str,.str] g rfl) (.c f (.c j (.k 11 f (.c q (.k 1 n (.k 7 u (.n 7 .nil))))))))) (.c m (.c D (.c B (.c A (.v 32 (.rd [.bool,.str,.str] g rfl) (.c i (.v 26 (.ppt z) (.v 19 (.eq p) (.c t (.c C .nil))))))))))
theorem adC (x:RQ) (d:Nat) (c:Int) (nm:List UInt8) (u1 u2:Int) (e:List AV) (g:lit true (!(c==((0:Nat):Int)))=true) (f:CO 202 [.agg [.str nm,.int .i64 u1,.int .i64 u2,.sl e d false]] (.ret (.int .i64 c))):CO 172 [.agg [.str nm,.int .i64 u1,.int .i64 u2,.sl e d false],qA x] (.ret (.int .i64 c)):=pK [] 1 1 (.c g (.n 4 .nil)) (.c f .nil)
theorem adG (x:RQ) (d:Nat) (c:Int) (nm:List UInt8) (u1 u2:Int) (e:List AV) (g:lit true (!(c==((0:Nat):Int)))=true) (f:CO 172 [.agg [.str nm,.int .i64 u1,.int .i64 u2,.sl e d false],qA x] (.ret (.int .i64 c))):CO 130 [.agg [.str nm,.int .i64 u1,.int .i64 u2,.sl e d false],qA x] (.ret (.tup [.agg [.bool false,.str [],.str []],.int .i64 c])):=pK [] 1 1 (.k 4 g (.n 7 .nil)) (.c f .nil)
theorem vO {α:Type} (f:α→List AV) (m:Nat) (c:∀ a,(f a).length=m):∀ {l:List α} {k:Nat} (h:k<l.length),List.drop (k*m) (l.flatMap f)=f l[k]++(l.drop (k+1)).flatMap f
 | [],_,h=>by simp at h
 |x::r,0,_=>by simp
 |x::r,k+1,h=>by
  have d:k<r.length:=by simpa using h
  have:=vO f m c d
  rw [List.flatMap_cons,Nat.succ_mul,Nat.add_comm,← List.drop_drop]
  have e:List.drop m (f x++r.flatMap f)=r.flatMap f:=by rw [← c x];exact List.drop_left
  rw [e,this];simp
theorem nX {α:Type} (f:α→List AV) (m:Nat) (c:∀ a,(f a).length=m):∀ l:List α,(l.flatMap f).length=l.length*m
 | []=>by simp
 |x::r=>by rw [List.flatMap_cons,List.length_append,c,nX f m c r,List.length_cons,Nat.succ_mul,Nat.add_comm]
theorem yh {l:List (RQ × RQ)} {k:Nat} (h:k<l.length):List.drop (Int.toNat (k:Int)*6) (xU l)=PO l[k]++xU (l.drop (k+1)):=by
 rw [aJ];exact vO PO 6 (fun _=>rfl) h
theorem MF {l:List RQ} {k:Nat} (h:k<l.length):List.drop ((0+Int.toNat (k:Int))*3) (GG l)=rvC l[k]++GG (l.drop (k+1)):=by
 rw [aJ,Nat.zero_add];exact vO rvC 3 (fun _=>rfl) h
theorem JH (l:List RQ):(GG l).length=l.length*3:=nX rvC 3 (fun _=>rfl) l
theorem XQ (l:List RQ) (r:RQ):List.take (l.length*3) (GG l)++ [.bool r.neg,.str (ae r.n),.str (ae r.d)]=GG (l++ [r]):=by
 rw [List.take_of_length_le (by rw [JH];exact Nat.le_refl _)]
 unfold GG;rw [List.flatMap_append];rfl
abbrev srS (nm:List UInt8) (u1 u2:Int) (l:List (RQ × RQ)) (x:RQ) (p:Nat × Nat):St:=⟨[(1,.fn 204 [] [Q8 nm u1 u2 l,Q3 x]),(5,.int .i64 (p.1:Int)),(6,.int .i64 (p.2:Int))],[],.dead,[]⟩
abbrev srO (c:Nat):St:=⟨[(5,.int .i64 (c:Int))],[],.dead,[]⟩
theorem ail {i j:Nat} (h:i+j<2^62):AV.int .i64 (IntKind.wrap .i64 (Int.fdiv (IntKind.wrap .u64 (IntKind.wrap .i64 ((i:Int)+(j:Int)))) (2^(min 1 64))))=AV.int .i64 (((i+j) / 2:Nat):Int):=by
 congr 1
 rw [show (i:Int)+(j:Int)=((i+j:Nat):Int) from rfl,bf (by omega),oM,Nat.mod_eq_of_lt (show i+j<18446744073709551616 by omega),show (2:Int)^(min 1 64)=((2:Nat):Int) from rfl]
 rw [show Int.fdiv ((i+j:Nat):Int) ((2:Nat):Int)=(((i+j) / 2:Nat):Int) from by rw [Int.fdiv_eq_ediv_of_nonneg _ (by omega)];rfl,bf (by omega)]
theorem abU {nt:Nat} (p:26≤nt) (nm:List UInt8) (u1 u2:Int) (l:List (RQ × RQ)) (x:RQ) (P:Nat→Bool) (B:l.length<2^60)
  (hP:∀ k,k<l.length→CO 204 [.int .i64 (k:Int),Q8 nm u1 u2 l,Q3 x] (.ret (.bool (P k)))) (hM:∀ i j,i≤j→j<l.length→P i=true→P j=true):
  ∀ (d i j:Nat),j - i≤d→i≤j→j≤l.length→(∀ k,k<i→P k=false)→(∀ k,j≤k→k<l.length→P k=true)→∀ c,c≤l.length→(∀ k,k<c→P k=false)→(∀ k,c≤k→k<l.length→P k=true)→
   aI prog ap [] nt (af 0 (ah f203)) (fun _=> .exit 0) (srS nm u1 u2 l x) srO (i,j) c:=by
 intro d
 induction d with
 | zero=>
  intro i j hd t w n r c u g m
  have:i=j:=by omega
  subst this
  have:i=c:=by
   rcases Nat.lt_trichotomy i c with h|h|h
   ·have a:=g i h
    rw [r i (Nat.le_refl _) (by omega)] at a;cases a
   ·exact h
   ·have a:=n c h
    rw [m c (Nat.le_refl _) (by omega)] at a;cases a
  subst this
  exact .done (acz x i i nm u1 u2 l p (aF (decide_eq_false (by omega))))
 | succ d ih=>
  intro i j hd t w n r c u g m
  by_cases hlt:i<j
  ·have y:=ail (i:=i) (j:=j) (by omega)
   have A:(i+j) / 2<j:=by omega
   have v:i≤(i+j) / 2:=by omega
   generalize (i+j) / 2=q at*
   have o:=hP q (by omega)
   have f:lit true (decide ((i:Int)<(j:Int)))=true:=decide_eq_true (by omega)
   cases hp:P q with
   |false=>
    rw [hp] at o
    refine .next (ahE x false i j q nm u1 u2 l p y (Ci (by omega)) rfl f o) (ih (q+1) j (by omega) (by omega) w (fun k z=> ?_) r c u g m)
    cases e:P k with
    |false=>rfl
    |true=>rw [hM k q (by omega) (by omega) e] at hp;cases hp
   |true=>
    rw [hp] at o
    exact .next (ahF x true i j q nm u1 u2 l p y rfl f o) (ih i q (by omega) v (by omega) n (fun k z e=>hM q k z e hp) c u g m)
  ·have:i=j:=by omega
   subst this
   have:i=c:=by
    rcases Nat.lt_trichotomy i c with h|h|h
    ·have a:=g i h
     rw [r i (Nat.le_refl _) (by omega)] at a;cases a
    ·exact h
    ·have a:=n c h
     rw [m c (Nat.le_refl _) (by omega)] at a;cases a
   subst this
   exact .done (acz x i i nm u1 u2 l p (aF (decide_eq_false (by omega))))
structure YK (l:List (RQ × RQ)):Prop where
 len:l.length≤8
 pos:0<l.length
 ok:∀ b ∈ l,b.1.ok∧b.2.ok
 fit:∀ b ∈ l,jV b.1=true∧jV b.2=true
 srt:jO l
theorem Rj:∀ {l:List (RQ × RQ)},jO l→∀ i j (hi:i<j) (hj:j<l.length),(l[i]'(by omega)).1.rt<l[j].1.rt
 | [],_,_,_,_,hj=>by simp at hj
 |b::l,h,0,j+1,_,hj=>h.all _ (List.getElem_mem (by simpa using hj))
 |b::l,h,i+1,j+1,hi,hj=>Rj h.tail i j (by omega) (by simpa using hj)
def pS (l:List (RQ × RQ)) (x:RQ) (k:Nat):Bool:=match l[k]? with|some b=>decide (0<kZ b.1 x)|none=>true
theorem yA (x:RQ):∀ l:List (RQ × RQ),iH l x≤l.length∧(∀ k,k<iH l x→pS l x k=false)∧(iH l x<l.length→pS l x (iH l x)=true)
 | []=> ⟨Nat.le_refl _,fun k h=>absurd h (Nat.not_lt_zero _),fun h=>absurd h (Nat.not_lt_zero _)⟩
 | b::l=>by
  obtain ⟨g,d,f⟩:=yA x l
  by_cases h:0<kZ b.1 x
  ·have e:iH (b::l) x=0:=by
    unfold iH;rw [List.takeWhile_cons_of_neg (by simp;omega)];rfl
   rw [e]
   exact ⟨Nat.zero_le _,fun k c=>absurd c (Nat.not_lt_zero _),fun _=>decide_eq_true h⟩
  ·rw [Y_ h]
   refine ⟨by simp only [List.length_cons];omega,fun k c=> ?_,fun c=>f (by simpa using c)⟩
   cases k with
   |zero=>exact decide_eq_false h
   |succ k=>exact d k (by omega)
section
variable (nm:List UInt8) (u1 u2:Int) {l:List (RQ × RQ)} (hR:YK l) {x:RQ} (hx:x.ok) (fx:jV x=true)
include hR hx fx
omit fx in
theorem aa0:∀ i j,i≤j→j<l.length→pS l x i=true→pS l x j=true:=by
 intro i j d c h
 rcases Nat.lt_or_ge i j with h1|h1
 ·have hs:=Rj hR.srt i j h1 c
  unfold pS at h ⊢
  rw [List.getElem?_eq_getElem (by omega)] at h ⊢
  simp only [decide_eq_true_eq] at h ⊢
  have f:=(CQ (hR.ok _ (List.getElem_mem (show i<l.length by omega))).1 hx).2.2
  have e:=(CQ (hR.ok _ (List.getElem_mem c)).1 hx).2.2
  have:=f.1 h
  exact e.2 (by grind)
 ·rw [show i=j by omega] at h;exact h
theorem Zu (k:Nat) (c:k<l.length):CO 204 [.int .i64 (k:Int),Q8 nm u1 u2 l,Q3 x] (.ret (.bool (pS l x k))):=by
 unfold pS
 rw [List.getElem?_eq_getElem c]
 exact aha x k _ nm u1 u2 l l[k] _ (yh c) (decide_eq_true (by omega)) (decide_eq_true (by omega))
  (XK (hR.ok _ (List.getElem_mem c)).1 hx (b_ (hR.fit _ (List.getElem_mem c)).1) (b_ fx) (by decide))
theorem KJ:CO 173 [JV nm u1 u2 l,qA x] (.ret (.int .i64 ((iH l x:Nat):Int))):=by
 obtain ⟨i,h,j⟩:=yA x l
 have e:=hR.len
 have f:=aa0 hR hx
 refine ahb x _ nm u1 u2 l (ahB x _ _ nm u1 u2 l (aI.blk (id:=0) (e':= .normal) (s:=⟨_,_,_,_⟩) (s':=srO (iH l x)) (fun nt g=>abU g nm u1 u2 l x (pS l x) (by omega) (Zu nm u1 u2 hR hx fx) f l.length 0 l.length (by omega) (Nat.zero_le _) (Nat.le_refl _) (fun k d=>absurd d (Nat.not_lt_zero _)) (fun k d c=>by omega) (iH l x) i h (fun k d c=>f _ k d c (j (by omega)))) (by simp) rfl (aO.of ⟨rfl,rfl,rfl,trivial⟩) (aO.refl _)))
end
abbrev smS (nm:List UInt8) (u1 u2:Int) (l:List (RQ × RQ)) (p:Nat × List RQ):St:=⟨[(1,.ptr 0 0 0),(3,.ref 1 0 0 p.2.length),(11,.int .i64 (l.tail.length:Int)),(12,.int .i64 (p.1:Int))],[(0,⟨[.str nm,.int .i64 u1,.int .i64 u2,.sl (xU l) l.length false],0,false,0,0,true⟩),(1,⟨(GG p.2),0,false,0,3,true⟩)],.dead,[]⟩
abbrev smO (os:List RQ):St:=⟨[(3,.ref 0 0 0 os.length)],[(0,⟨(GG os),0,false,0,3,true⟩)],.dead,[]⟩
theorem acU {k:Nat} {a w:RQ} (d:mJ (410*5^k) a) (c:mJ 410 w):mJ (410*5^(k+1)) (iP a w):=by
 have hp:1≤5^k:=Nat.one_le_pow _ _ (by decide)
 refine (FN d (c.mono (by omega))).mono ?_
 rw [Nat.pow_succ]
 generalize 5^k=M at*
 omega
theorem ahR {k:Nat} (h:k≤8):410*5^k<2^28:=Nat.lt_of_le_of_lt (Nat.mul_le_mul_left 410 (Nat.pow_le_pow_right (by decide) h)) (by decide)
theorem ajR {l:List (RQ × RQ)} (e:YK l) {b c:RQ × RQ} (f:b ∈ l) (d:c ∈ l):mJ 205 (jg c.1 b.1)∧mJ 410 (mZ (jg c.1 b.1) b.2):=by
 have g:mJ 205 (jg c.1 b.1):=Pj (L:=51) (b_ (e.fit _ d).1) (b_ (e.fit _ f).1)
 exact ⟨g,Pi g (mJ.mono (L:=51) (b_ (e.fit _ f).2) (by decide))⟩
theorem X_ {nt:Nat} (q:47≤nt) (nm:List UInt8) (u1 u2:Int) {l:List (RQ × RQ)} (f:YK l):∀ (r p:List (RQ × RQ)) (b:RQ × RQ) (d:List RQ) (c:RQ),l=p++b::r→d.length=p.length→c.ok→mJ (410*5^p.length) c→
  aI prog ap [] nt (af 0 (ah f175)) (fun _=> .exit 0) (smS nm u1 u2 l) smO (p.length,d++ [c]) (d++ja c (b::r)):=by
 intro r
 induction r with
 |nil=>
  intro p b d c h y m hs
  exact .done (ahD p.length nm u1 u2 l (d++ [c]) q (aF (decide_eq_false (by rw [h];simp))))
 |cons b2 r ih=>
  intro p b d c h y m hs
  have u:=f.len
  have j:p.length+1<l.length:=by rw [h];simp
  have i:b ∈ l:=by rw [h];simp
  have g:b2 ∈ l:=by rw [h];simp
  have G:l[p.length]'(by omega)=b:=by subst h;simp
  have J:l[p.length+1]'j=b2:=by subst h;simp
  have o:=yh (l:=l) (k:=p.length) (by omega)
  have w:=yh (l:=l) (k:=p.length+1) j
  rw [G] at o
  rw [J] at w
  have z:=MF (l:=d++ [c]) (k:=p.length) (by simp;omega)
  rw [show (d++ [c])[p.length]'(by simp;omega)=c by simp [← y]] at z
  have v:=pX (f.ok _ g).1 (f.ok _ i).1
  have t:=sD v (f.ok _ i).2
  obtain ⟨F,A⟩:=ajR f i g
  have D:=ahR (k:=p.length) (by omega)
  have E:1≤5^p.length:=Nat.one_le_pow _ _ (by decide)
  have I:=O4 (f.ok _ g).1 (f.ok _ i).1 (b_ (f.fit _ g).1) (b_ (f.fit _ i).1) (by decide)
  have H:=O3 v (f.ok _ i).2 F (mJ.mono (L:=51) (b_ (f.fit _ i).2) (by decide)) (by decide)
  have B:=Fv m t hs (A.mono (by omega)) D
  have C:(d++ [c]).length=p.length+1:=by simp;omega
  have st:=ahC c (iP c (mZ (jg b2.1 b.1) b.2)) _ _ p.length nm u1 u2 l (d++ [c]) b b2 _ _ _ q o w z (Ci (by omega)) (XQ _ _) (Nat.ble_eq_true_of_le (by omega)) (Nat.ble_eq_true_of_le (by rw [JH];exact Nat.le_refl _)) (decide_eq_true (by omega)) (decide_eq_true (by omega)) (decide_eq_true (by omega)) (decide_eq_true (by omega)) (decide_eq_true (by omega)) (aG (decide_eq_true (by rw [List.length_tail];omega))) I H B
  have n:=ih (p++ [b]) b2 (d++ [c]) (iP c (mZ (jg b2.1 b.1) b.2)) (by rw [h];simp) (by simp;omega) (jD m t) (by rw [List.length_append];exact acU hs A)
  rw [List.length_append,List.length_singleton] at n
  rw [show d++ja c (b::b2::r)=(d++ [c])++ja (iP c (mZ (jg b2.1 b.1) b.2)) (b2::r) by simp [ja]]
  refine .next ?_ n
  have e:(d++ [c]++ [iP c (mZ (jg b2.1 b.1) b.2)]).length=(d++ [c]).length+1:=by simp
  show au _ _ _ _ _ _ _ (smS nm u1 u2 l (p.length+1,d++ [c]++ [iP c (mZ (jg b2.1 b.1) b.2)]))
  unfold smS
  rw [e]
  exact st
theorem FM:∀ (l:List (RQ × RQ)) (c:RQ),0<l.length→(ja c l).length=l.length
 | [_],_,_=>rfl
 |b::b2::l,c,_=>by show (ja _ (b2::l)).length+1=_;rw [FM (b2::l) _ (by simp)];rfl
theorem acN:mJ 410 q0:=⟨Nat.le_trans (dR (x:=0) (k:=1) (by decide)) (by decide),Nat.le_trans (dR (x:=1) (k:=1) (by decide)) (by decide)⟩
theorem V7 (nm:List UInt8) (u1 u2:Int) {l:List (RQ × RQ)} (d:YK l):CO 175 [JV nm u1 u2 l] (.ret (.own (GG (ja q0 l)) (ja q0 l).length 3)):=by
 have e:=d.len
 have c:=d.pos
 have g:∀ nt,47≤nt→aI prog ap [] nt (af 0 (ah f175)) (fun _=> .exit 0) (smS nm u1 u2 l) smO (0,[q0]) (ja q0 l):=fun nt f=>by
  cases l with
  |nil=>simp at c
  |cons b r=>exact X_ f nm u1 u2 d r [] b [] q0 rfl rfl QQ (acN.mono (by decide))
 have h:=ahI nm u1 u2 l (ja q0 l) (by
  cases l with
  |nil=>simp at c
  |cons b r=>
   rw [aJ,List.take_of_length_le (by show ((b::r).flatMap PO).length≤_;rw [nX PO 6 (fun _=>rfl)];exact Nat.le_refl _)]
   rfl) (decide_eq_true (by omega)) (decide_eq_true (by omega)) jl (aI.blk (id:=0) (e':= .normal) (s:=⟨_,_,_,_⟩) (s':=smO (ja q0 l)) g (by simp) rfl (aO.of ⟨rfl,rfl,rfl,rfl,trivial⟩) (aO.refl _))
 rw [List.take_of_length_le (by rw [JH];exact Nat.le_refl _)] at h
 exact h
theorem abW {l:List (RQ × RQ)} (f:YK l):∀ (r p:List (RQ × RQ)) (b:RQ × RQ) (c:RQ),l=p++b::r→c.ok→mJ (410*5^p.length) c→∀ q ∈ ja c (b::r),q.ok∧mJ (410*5^8) q:=by
 intro r
 induction r with
 |nil=>
  intro p b c e h hs q d
  have d:q ∈ [c]:=d
  rw [List.mem_singleton] at d;subst d
  have:=f.len
  exact ⟨h,hs.mono (Nat.mul_le_mul_left 410 (Nat.pow_le_pow_right (by decide) (by rw [e] at this;simp at this;omega)))⟩
 | cons b2 r ih=>
  intro p b c e h hs q d
  have i:b ∈ l:=by rw [e];simp
  have g:b2 ∈ l:=by rw [e];simp
  have d:q ∈ c::ja (iP c (mZ (jg b2.1 b.1) b.2)) (b2::r):=d
  rcases List.mem_cons.1 d with rfl|d
  ·have:=f.len
   exact ⟨h,hs.mono (Nat.mul_le_mul_left 410 (Nat.pow_le_pow_right (by decide) (by rw [e] at this;simp at this;omega)))⟩
  ·have j:=sD (pX (f.ok _ g).1 (f.ok _ i).1) (f.ok _ i).2
   exact ih (p++ [b]) b2 _ (by rw [e];simp) (jD h j) (by rw [List.length_append];exact acU hs (ajR f i g).2) q d
theorem MQ {l:List (RQ × RQ)} (c:YK l):∀ q ∈ ja q0 l,q.ok∧mJ (410*5^8) q:=by
 cases l with
 |nil=>have:=c.pos;simp at this
 |cons b r=>exact abW c r [] b q0 rfl QQ (acN.mono (by decide))
def YB (l:List (RQ × RQ)) (x:RQ):Oq:=if iH l x=0 then .val q0 else mM (atR l x)
theorem Zv {q:RQ} (h:q.ok) (f:(ae q.n).length<2^36) (e:(ae q.d).length<2^36):CO 174 [qA q] (.ret (.tup [.agg [.bool (mM q).n,.str (mM q).a,.str (mM q).d],.int .i64 (mM q).e])):=by
 have c:=fU q.neg (ae q.n) (ae q.d) f e
 rw [uD h] at c
 unfold mM
 cases d:jV q with
 |true=>
  rw [if_pos rfl]
  exact ahg q (by rw [d];rfl) c
 |false=>
  rw [if_neg (by simp)]
  exact ahf q (by rw [d];rfl) c
theorem adD (nm:List UInt8) (u1 u2:Int) {l:List (RQ × RQ)} (c:YK l) {x:RQ} (h:x.ok) (k:jV x=true) (j:CO 202 [JV nm u1 u2 l] (.ret (.int .i64 0))):
  CO 130 [JV nm u1 u2 l,qA x] (.ret (.tup [.agg [.bool (YB l x).n,.str (YB l x).a,.str (YB l x).d],.int .i64 (YB l x).e])):=by
 obtain ⟨t,w⟩:=b_ k
 have o:=lV x.neg (ae x.n) (ae x.d) (by omega) (by omega)
 rw [qi x h] at o
 have y:=fU x.neg (ae x.n) (ae x.d) (by omega) (by omega)
 rw [uD h,k] at y
 have i:CO 172 [JV nm u1 u2 l,qA x] (.ret (.int .i64 0)):=ag_ x 0 nm u1 u2 l rfl j o y
 have f:=KJ nm u1 u2 c h k
 have D:=(yA x l).1
 have n:=c.len
 unfold YB
 by_cases hc:iH l x=0
 ·rw [if_pos hc]
  rw [hc] at f
  exact adE x 0 0 nm u1 u2 l rfl rfl i f jl
 ·rw [if_neg hc]
  have m:iH l x - 1<l.length:=by omega
  have d:=List.getElem_mem m
  have z:(ja q0 l).length=l.length:=FM l q0 c.pos
  have g:iH l x - 1<(ja q0 l).length:=by omega
  obtain ⟨v,q⟩:(ja q0 l)[iH l x - 1].ok∧mJ (410*5^8) (ja q0 l)[iH l x - 1]:=by
   exact MQ c _ (List.getElem_mem g)
  have u:mJ 205 (jg x l[iH l x - 1].1):=Pj (L:=51) ⟨t,w⟩ (b_ (c.fit _ d).1)
  have r:mJ 410 (mZ l[iH l x - 1].2 (jg x l[iH l x - 1].1)):=Pi (L:=205) (mJ.mono (L:=51) (b_ (c.fit _ d).2) (by decide)) u
  have k3:=pX h (c.ok _ d).1
  have k4:=sD (c.ok _ d).2 k3
  have B:=O4 h (c.ok _ d).1 ⟨t,w⟩ (b_ (c.fit _ d).1) (by decide)
  have C:=O3 (c.ok _ d).2 k3 (mJ.mono (L:=51) (b_ (c.fit _ d).2) (by decide)) u (by decide)
  have E:=Fv v k4 q (r.mono (by decide)) (by decide)
  have p:=FN q (r.mono (by decide))
  have e:atR l x=iP (ja q0 l)[iH l x - 1] (mZ l[iH l x - 1].2 (jg x l[iH l x - 1].1)):=by
   unfold atR
   rw [List.getD_eq_getElem?_getD,List.getD_eq_getElem?_getD,List.getElem?_eq_getElem m,List.getElem?_eq_getElem g];rfl
  rw [e]
  have A:=Zv (jD v k4) (Nat.lt_of_le_of_lt p.1 (by decide)) (Nat.lt_of_le_of_lt p.2 (by decide))
  refine adF x _ _ _ _ _ (iH l x - 1) (iH l x) 0 nm u1 u2 l _ l[iH l x - 1] _ _ (yh m) (MF g) ?_ (decide_eq_true (by omega)) (decide_eq_true (by omega)) (decide_eq_true (by omega)) (aF (decide_eq_false (by omega))) rfl i f (V7 nm u1 u2 c) B C E A
  congr 1
  rw [show ((iH l x:Nat):Int) - ((1:Nat):Int)=((iH l x - 1:Nat):Int) by omega]
  exact bf (by omega)
end Go.Proofs.Tryz
set_option maxRecDepth 100000
open Go AM
namespace Go.Proofs.Tryz
def mF (x:Br):Bool:=iO x.fn x.fa x.fd && iO x.rn x.ra x.rd
def KW (x:Br):Bool:=fC x.fn x.fa x.fd && fC x.rn x.ra x.rd
def Gp (cmp:Br→Br→Int):Br→List Br→Bool
 |_,[]=>true
 |y,x::r=>cond (decide (((0:Nat):Int)≤cmp y x)) false (Gp cmp x r)
theorem Kr (cmp:Br→Br→Int):∀ (r:List Br) (y:Br),GX cmp (some y) r=(r.all mF && Gp cmp y r)
 | [],_=>rfl
 |x::r,y=>by
  simp only [GX,List.all_cons,Gp,mF,Kr cmp r x]
  cases iO x.fn x.fa x.fd<;>cases iO x.rn x.ra x.rd<;>cases decide (((0:Nat):Int)≤cmp y x)<;>cases r.all mF<;>simp
theorem Kq (cmp:Br→Br→Int) (x:Br) (r:List Br):GX cmp none (x::r)=((x::r).all mF && ((ry x.fn x.fa x.fd==((0:Nat):Int)) && Gp cmp x r)):=by
 simp only [GX,List.all_cons,mF,Kr cmp r x]
 cases iO x.fn x.fa x.fd<;>cases iO x.rn x.ra x.rd<;>cases (ry x.fn x.fa x.fd==((0:Nat):Int))<;>cases r.all mF<;>simp
theorem Iy:∀ l:List Br,l.any Gs= !(l.all KW)
 | []=>rfl
 |x::r=>by
  rw [List.any_cons,List.all_cons,Iy r]
  simp only [Gs,KW]
  cases fC x.fn x.fa x.fd<;>cases fC x.rn x.ra x.rd<;>simp
end Go.Proofs.Tryz
set_option maxRecDepth 100000
set_option linter.unusedVariables false
open Go AM
namespace Go.Proofs.Tryz
structure Lk where
 op:Int
 nm:List UInt8
 n:Bool
 a:List UInt8
 d:List UInt8
 e:Int
def lkC (x:Lk):List AV:= [.int .i64 x.op,.str x.nm,.bool x.n,.str x.a,.str x.d,.int .i64 x.e]
def kE (l:List Lk):List AV:=l.flatMap lkC
abbrev Js (ls:List Lk) (cs:List Sc) (nl ns:Bool) (a b c d:List AV):Hp:= [(0,⟨[.sl (kE ls) ls.length nl,.sl (kS cs) cs.length ns],0,false,0,0,true⟩),(1,⟨[.mp [] [],.mp [] []],0,false,0,0,true⟩),(2,⟨[.mr 3 0,.mr 4 0],0,false,0,0,false⟩),(3,⟨[.agg a,.agg b],0,false,0,4611686018427387904,true⟩),(4,⟨[.agg c,.agg d],0,false,0,4611686018427387904,true⟩)]
theorem ZJ (c:Oq) (m nn o e:Bool) (i j d:List UInt8) (ks vs f g:List AV) (n:lit true (!e)=true) (h:CO 128 [.agg [.bool c.n,.str c.a,.str c.d]] (.ret (.tup [.bool o,.bool e]))) (k:CO 41 [.int .i64 13] (.ret (.agg [.bool false,.str [],.str [],.int .i64 13]))):CO 78 [.agg [.mp ks vs,.mp f g],.agg [.int .i64 20,.bool m,.str i,.str j,.str d],.sl [.bool c.n,.str c.a,.str c.d,.int .i64 c.e] 1 nn] (.ret (.agg [.bool false,.str [],.str [],.int .i64 13])):=pK [] 2 3 (.k 5 n (.n 11 .nil)) (.c k (.c h .nil))
theorem ZK (c o:Oq) (n nn f e:Bool) (j k d:List UInt8) (ks vs g h:List AV) (p:lit false (!e)=true) (i:CO 128 [.agg [.bool c.n,.str c.a,.str c.d]] (.ret (.tup [.bool f,.bool e]))) (m:CO 126 [.bool (!f)] (.ret (fH o))):CO 78 [.agg [.mp ks vs,.mp g h],.agg [.int .i64 20,.bool n,.str j,.str k,.str d],.sl [.bool c.n,.str c.a,.str c.d,.int .i64 c.e] 1 nn] (.ret (fH o)):=pK [] 2 1 (.k 5 p (.n 11 .nil)) (.c m (.c i .nil))
theorem ZL (c o:Oq) (q st:RQ) (nn:Bool) (d:List UInt8) (ks vs e f:List AV) (g:CO 131 [.agg [.bool c.n,.str c.a,.str c.d],qA st] (.ret (.tup [qA q,.bool true]))) (h:CO 124 [qA q] (.ret (fH o))):CO 78 [.agg [.mp ks vs,.mp e f],.agg [.int .i64 21,.bool st.neg,.str (ae st.n),.str (ae st.d),.str d],.sl [.bool c.n,.str c.a,.str c.d,.int .i64 c.e] 1 nn] (.ret (fH o)):=pK [] 3 4 (.n 25 .nil) (.c h (.c g .nil))
theorem ZM (c o:Oq) (q st:RQ) (nn:Bool) (d:List UInt8) (ks vs e f:List AV) (g:CO 132 [.agg [.bool c.n,.str c.a,.str c.d],qA st] (.ret (.tup [qA q,.bool true]))) (h:CO 124 [qA q] (.ret (fH o))):CO 78 [.agg [.mp ks vs,.mp e f],.agg [.int .i64 22,.bool st.neg,.str (ae st.n),.str (ae st.d),.str d],.sl [.bool c.n,.str c.a,.str c.d,.int .i64 c.e] 1 nn] (.ret (fH o)):=pK [] 4 8 (.n 26 .nil) (.c h (.c g .nil))
theorem ZN (c o:Oq) (q st:RQ) (nn:Bool) (d:List UInt8) (ks vs e f:List AV) (g:CO 129 [.agg [.bool c.n,.str c.a,.str c.d],qA st] (.ret (.tup [qA q,.bool true]))) (h:CO 124 [qA q] (.ret (fH o))):CO 78 [.agg [.mp ks vs,.mp e f],.agg [.int .i64 23,.bool st.neg,.str (ae st.n),.str (ae st.d),.str d],.sl [.bool c.n,.str c.a,.str c.d,.int .i64 c.e] 1 nn] (.ret (fH o)):=pK [] 4 0 (.n 26 .nil) (.c h (.c g .nil))
theorem ZO (e:Oq) (j nn g:Bool) (k m c nm:List UInt8) (u1 u2:Int) (ks vs d f q:List AV) (i:Nat) (o:aU (.tup [(Option.getD (dM d f (.str c)) (.agg [.str [],.int .i64 0,.int .i64 0,.nilS])),.bool (Option.isSome (dM d f (.str c)))]) (.tup [.agg [.str nm,.int .i64 u1,.int .i64 u2,.sl q i false],.bool g])) (n:lit true (!g)=true) (h:(List.all d (Qu 9))=true) (p:CO 41 [.int .i64 12] (.ret (.agg [.bool false,.str [],.str [],.int .i64 12]))):CO 78 [.agg [.mp ks vs,.mp d f],.agg [.int .i64 24,.bool j,.str k,.str m,.str c],.sl [.bool e.n,.str e.a,.str e.d,.int .i64 e.e] 1 nn] (.ret (.agg [.bool false,.str [],.str [],.int .i64 12])):=pK [] 3 6 (.k 5 n (.k 2 h (.n 11 .nil))) (.c p (.v 43 o .nil))
theorem ZP (d o:Oq) (k nn i:Bool) (m n c nm:List UInt8) (u1 u2:Int) (ks vs e f h:List AV) (g:Nat) (q:aU (.tup [(Option.getD (dM e f (.str c)) (.agg [.str [],.int .i64 0,.int .i64 0,.nilS])),.bool (Option.isSome (dM e f (.str c)))]) (.tup [.agg [.str nm,.int .i64 u1,.int .i64 u2,.sl h g false],.bool i])) (p:lit false (!i)=true) (j:(List.all e (Qu 9))=true) (r:CO 130 [.agg [.str nm,.int .i64 u1,.int .i64 u2,.sl h g false],.agg [.bool d.n,.str d.a,.str d.d]] (.ret (.tup [.agg [.bool o.n,.str o.a,.str o.d],.int .i64 o.e]))):CO 78 [.agg [.mp ks vs,.mp e f],.agg [.int .i64 24,.bool k,.str m,.str n,.str c],.sl [.bool d.n,.str d.a,.str d.d,.int .i64 d.e] 1 nn] (.ret (fH o)):=pK [] 3 2 (.k 16 p (.k 2 j (.n 11 .nil))) (.c r (.v 43 q .nil))
theorem ahp (ks vs:List AV) (k:Nat) (ls:List Lk) (d:List Sc) (x:Lk) (c g e:Bool) (o:List AV) (h j:Oq) {nt:Nat} (n:68≤nt) (i:(List.drop ((Int.toNat (k:Int))*6) (kE ls))=lkC x++o) (u:AV.tup [(Option.getD (dM ks vs (.agg [.int .i64 x.op,.str x.nm])) (.agg [.bool false,.str [],.str [],.int .i64 0])),.bool (Option.isSome (dM ks vs (.agg [.int .i64 x.op,.str x.nm])))]=AV.tup [fH j,.bool e]) (q:AV.int .i64 (IntKind.wrap .i64 ((k:Int)+((1:Nat):Int)))=AV.int .i64 ((k+1:Nat):Int)) (f:(List.all ks (Qu 134))=true) (m:lit true (!e)=true) (r:(decide (((0:Nat):Int)≤(k:Int)))=true) (p:(decide ((k:Int)<(ls.length:Int)))=true) (t:lit true (decide ((k:Int)<(ls.length:Int)))=true) (v:CO 43 [.agg [.bool x.n,.str x.a,.str x.d,.int .i64 x.e]] (.ret (fH h))):au prog ap [] nt (af 0 (ah f45)) ⟨[(1,.ptr 0 0 0),(2,.ptr 1 0 0),(3,.ptr 2 0 0),(17,.sl (kE ls) ls.length c),(18,.int .i64 (ls.length:Int)),(19,.int .i64 (k:Int))],(Js ls d c g ks vs [] []),.dead,[]⟩ (.normal) ⟨[(1,.ptr 0 0 0),(2,.ptr 1 0 0),(3,.ptr 2 0 0),(17,.sl (kE ls) ls.length c),(18,.int .i64 (ls.length:Int)),(19,.int .i64 ((k+1:Nat):Int))],(Js ls d c g (xE ks (.agg [.int .i64 x.op,.str x.nm])) (oZ ks vs (.agg [.int .i64 x.op,.str x.nm]) (fH h)) [] []),.dead,[]⟩:=pN 45 [] 2 3 (.k 1 f (.k 7 m (.k 2 f (.k 13 r (.c p (.c t .nil)))))) (.v 43 (.eq q) (.c v (.v 32 (.eq u) (.v 21 (.ppt i) .nil)))) n
theorem ahq (ks vs:List AV) (k:Nat) (ls:List Lk) (d:List Sc) (x:Lk) (c f e:Bool) (m:List AV) (h:Oq) {nt:Nat} (j:68≤nt) (g:(List.drop ((Int.toNat (k:Int))*6) (kE ls))=lkC x++m) (t:AV.tup [(Option.getD (dM ks vs (.agg [.int .i64 x.op,.str x.nm])) (.agg [.bool false,.str [],.str [],.int .i64 0])),.bool (Option.isSome (dM ks vs (.agg [.int .i64 x.op,.str x.nm])))]=AV.tup [fH h,.bool e]) (o:AV.int .i64 (IntKind.wrap .i64 ((k:Int)+((1:Nat):Int)))=AV.int .i64 ((k+1:Nat):Int)) (r:lit false (!e)=true) (i:(List.all ks (Qu 134))=true) (p:(decide (((0:Nat):Int)≤(k:Int)))=true) (n:(decide ((k:Int)<(ls.length:Int)))=true) (q:lit true (decide ((k:Int)<(ls.length:Int)))=true):au prog ap [] nt (af 0 (ah f45)) ⟨[(1,.ptr 0 0 0),(2,.ptr 1 0 0),(3,.ptr 2 0 0),(17,.sl (kE ls) ls.length c),(18,.int .i64 (ls.length:Int)),(19,.int .i64 (k:Int))],(Js ls d c f ks vs [] []),.dead,[]⟩ (.normal) ⟨[(1,.ptr 0 0 0),(2,.ptr 1 0 0),(3,.ptr 2 0 0),(17,.sl (kE ls) ls.length c),(18,.int .i64 (ls.length:Int)),(19,.int .i64 ((k+1:Nat):Int))],(Js ls d c f ks vs [] []),.dead,[]⟩:=pN 45 [] 2 1 (.c r (.k 2 i (.k 13 p (.c n (.c q .nil))))) (.v 43 (.eq o) (.v 32 (.eq t) (.v 21 (.ppt g) .nil))) j
theorem ahr (ks vs:List AV) (k:Nat) (ls:List Lk) (d:List Sc) (c e:Bool) {nt:Nat} (f:68≤nt) (g:lit false (decide ((k:Int)<(ls.length:Int)))=true):au prog ap [] nt (af 0 (ah f45)) ⟨[(1,.ptr 0 0 0),(2,.ptr 1 0 0),(3,.ptr 2 0 0),(17,.sl (kE ls) ls.length c),(18,.int .i64 (ls.length:Int)),(19,.int .i64 (k:Int))],(Js ls d c e ks vs [] []),.dead,[]⟩ (.exit 0) ⟨[(1,.ptr 0 0 0),(2,.ptr 1 0 0),(3,.ptr 2 0 0)],(Js ls d c e ks vs [] []),.dead,[]⟩:=pN 45 [] 1 0 (.c g .nil) (.nil) f
theorem ahs (nm:List UInt8) (u1 u2:Int) (ks vs e g y:List AV) (o k:Nat) (ls:List Lk) (d:List Sc) (c:Sc) (i f h:Bool) (q:List AV) {nt:Nat} (p:68≤nt) (m:(List.drop ((Int.toNat (k:Int))*4) (kS d))=Q5 c++q) (w:aU (.tup [(Option.getD (dM e g (.str c.name)) (.agg [.str [],.int .i64 0,.int .i64 0,.nilS])),.bool (Option.isSome (dM e g (.str c.name)))]) (.tup [.agg [.str nm,.int .i64 u1,.int .i64 u2,.sl y o false],.bool h])) (t:AV.int .i64 (IntKind.wrap .i64 ((k:Int)+((1:Nat):Int)))=AV.int .i64 ((k+1:Nat):Int)) (j:(List.all e (Qu 9))=true) (n:lit true (!h)=true) (u:(decide (((0:Nat):Int)≤(k:Int)))=true) (r:(decide ((k:Int)<(d.length:Int)))=true) (v:lit true (decide ((k:Int)<(d.length:Int)))=true):au prog ap [] nt (af 2 (ah f45)) ⟨[(1,.ptr 0 0 0),(2,.ptr 1 0 0),(3,.ptr 2 0 0),(45,.sl (kS d) d.length f),(46,.int .i64 (d.length:Int)),(47,.int .i64 (k:Int))],(Js ls d i f ks vs e g),.dead,[]⟩ (.normal) ⟨[(1,.ptr 0 0 0),(2,.ptr 1 0 0),(3,.ptr 2 0 0),(45,.sl (kS d) d.length f),(46,.int .i64 (d.length:Int)),(47,.int .i64 ((k+1:Nat):Int))],(Js ls d i f ks vs (xE e (.str c.name)) (oZ e g (.str c.name) (.agg [.str c.name,.int .i64 c.u1,.int .i64 c.u2,.sl c.bx c.bn false]))),.dead,[]⟩:=pN 45 [] 2 3 (.k 1 j (.k 6 n (.k 2 j (.k 7 u (.c r (.c v .nil)))))) (.v 66 (.eq t) (.v 56 w (.v 49 (.ppt m) .nil))) p
theorem aht (nm:List UInt8) (u1 u2:Int) (ks vs e g y:List AV) (n k:Nat) (ls:List Lk) (d:List Sc) (c:Sc) (i f h:Bool) (p:List AV) {nt:Nat} (o:68≤nt) (j:(List.drop ((Int.toNat (k:Int))*4) (kS d))=Q5 c++p) (w:aU (.tup [(Option.getD (dM e g (.str c.name)) (.agg [.str [],.int .i64 0,.int .i64 0,.nilS])),.bool (Option.isSome (dM e g (.str c.name)))]) (.tup [.agg [.str nm,.int .i64 u1,.int .i64 u2,.sl y n false],.bool h])) (r:AV.int .i64 (IntKind.wrap .i64 ((k:Int)+((1:Nat):Int)))=AV.int .i64 ((k+1:Nat):Int)) (v:lit false (!h)=true) (m:(List.all e (Qu 9))=true) (t:(decide (((0:Nat):Int)≤(k:Int)))=true) (q:(decide ((k:Int)<(d.length:Int)))=true) (u:lit true (decide ((k:Int)<(d.length:Int)))=true):au prog ap [] nt (af 2 (ah f45)) ⟨[(1,.ptr 0 0 0),(2,.ptr 1 0 0),(3,.ptr 2 0 0),(45,.sl (kS d) d.length f),(46,.int .i64 (d.length:Int)),(47,.int .i64 (k:Int))],(Js ls d i f ks vs e g),.dead,[]⟩ (.normal) ⟨[(1,.ptr 0 0 0),(2,.ptr 1 0 0),(3,.ptr 2 0 0),(45,.sl (kS d) d.length f),(46,.int .i64 (d.length:Int)),(47,.int .i64 ((k+1:Nat):Int))],(Js ls d i f ks vs e g),.dead,[]⟩:=pN 45 [] 2 1 (.c v (.k 2 m (.k 7 t (.c q (.c u .nil))))) (.v 66 (.eq r) (.v 56 w (.v 49 (.ppt j) .nil))) o
theorem ahu (ks vs e f:List AV) (k:Nat) (ls:List Lk) (c:List Sc) (g d:Bool) {nt:Nat} (h:68≤nt) (i:lit false (decide ((k:Int)<(c.length:Int)))=true):au prog ap [] nt (af 2 (ah f45)) ⟨[(1,.ptr 0 0 0),(2,.ptr 1 0 0),(3,.ptr 2 0 0),(45,.sl (kS c) c.length d),(46,.int .i64 (c.length:Int)),(47,.int .i64 (k:Int))],(Js ls c g d ks vs e f),.dead,[]⟩ (.exit 2) ⟨[(1,.ptr 0 0 0),(2,.ptr 1 0 0),(3,.ptr 2 0 0)],(Js ls c g d ks vs e f),.dead,[]⟩:=pN 45 [] 1 0 (.c i .nil) (.nil) h
theorem adZ (ks vs f g:List AV) (ls:List Lk) (c:List Sc) (d e:Bool) (h:aK prog ap [] 68 (.block 0 (.loop (af 0 (ah f45)))) ⟨[(0,.agg [.sl (kE ls) ls.length d,.sl (kS c) c.length e]),(1,.ptr 0 0 0),(2,.ptr 1 0 0),(3,.ptr 2 0 0),(5,.dead),(6,.dead),(8,.dead),(10,.dead),(12,.dead),(17,.sl (kE ls) ls.length d),(18,.int .i64 (ls.length:Int)),(19,.int .i64 0),(20,.dead),(36,.dead),(45,.dead),(46,.dead),(47,.dead),(48,.dead),(60,.dead)],(Js ls c d e [] [] [] []),.dead,[]⟩ (.normal) ⟨[(1,.ptr 0 0 0),(2,.ptr 1 0 0),(3,.ptr 2 0 0)],(Js ls c d e ks vs [] []),.dead,[]⟩) (i:aK prog ap [] 68 (.block 2 (.loop (af 2 (ah f45)))) ⟨[(0,.dead),(1,.ptr 0 0 0),(2,.ptr 1 0 0),(3,.ptr 2 0 0),(5,.dead),(6,.dead),(8,.dead),(10,.dead),(12,.dead),(17,.dead),(18,.dead),(19,.dead),(20,.dead),(36,.dead),(45,.sl (kS c) c.length e),(46,.int .i64 (c.length:Int)),(47,.int .i64 0),(48,.dead),(60,.dead)],(Js ls c d e ks vs [] []),.dead,[]⟩ (.normal) ⟨[(1,.ptr 0 0 0),(2,.ptr 1 0 0),(3,.ptr 2 0 0)],(Js ls c d e ks vs f g),.dead,[]⟩):CO 45 [.agg [.sl (kE ls) ls.length d,.sl (kS c) c.length e]] (.ret (.agg [.mp ks vs,.mp f g])):=pK [0,2] 0 0 (.n 8 .nil) (.l i (.l h .nil))
theorem adR (o:Oq) (h nn:Bool) (f g c:List UInt8) (op:Int) (ks vs d e:List AV) (j:lit true (decide (op≤((4:Nat):Int)))=true) (i:CO 75 [.agg [.mp ks vs,.mp d e],.agg [.int .i64 op,.bool h,.str f,.str g,.str c],.sl [] 0 nn] (.ret (fH o))):CO 46 [.agg [.mp ks vs,.mp d e],.agg [.int .i64 op,.bool h,.str f,.str g,.str c],.sl [] 0 nn] (.ret (fH o)):=pK [] 2 1 (.k 13 j (.n 3 .nil)) (.c i .nil)
theorem adS (o:Oq) (h nn:Bool) (f g c:List UInt8) (op:Int) (ks vs d e:List AV) (k:lit true (decide (op≤((8:Nat):Int)))=true) (j:lit false (decide (op≤((4:Nat):Int)))=true) (i:CO 76 [.agg [.mp ks vs,.mp d e],.agg [.int .i64 op,.bool h,.str f,.str g,.str c],.sl [] 0 nn] (.ret (fH o))):CO 46 [.agg [.mp ks vs,.mp d e],.agg [.int .i64 op,.bool h,.str f,.str g,.str c],.sl [] 0 nn] (.ret (fH o)):=pK [] 3 2 (.k 13 k (.k 1 j (.n 3 .nil))) (.c i .nil)
theorem adT (c:Oq) (m nn:Bool) (g j d:List UInt8) (op:Int) (ks vs e f:List AV) (n:lit true (!(c.e==((0:Nat):Int)))=true) (i:lit false (op==((15:Nat):Int))=true) (h:lit false (decide (op≤((8:Nat):Int)))=true) (k:lit false (decide (op≤((4:Nat):Int)))=true):CO 46 [.agg [.mp ks vs,.mp e f],.agg [.int .i64 op,.bool m,.str g,.str j,.str d],.sl [.bool c.n,.str c.a,.str c.d,.int .i64 c.e] 1 nn] (.ret (fH c)):=pK [] 6 56 (.k 9 n (.k 12 i (.k 1 h (.k 1 k (.n 3 .nil))))) (.nil)
theorem adU (c o:Oq) (i nn:Bool) (g h d:List UInt8) (op:Int) (ks vs e f:List AV) (p:lit false (!(c.e==((0:Nat):Int)))=true) (m:lit false (op==((15:Nat):Int))=true) (k:lit false (decide (op≤((8:Nat):Int)))=true) (n:lit false (decide (op≤((4:Nat):Int)))=true) (j:CO 78 [.agg [.mp ks vs,.mp e f],.agg [.int .i64 op,.bool i,.str g,.str h,.str d],.sl [.bool c.n,.str c.a,.str c.d,.int .i64 c.e] 1 nn] (.ret (fH o))):CO 46 [.agg [.mp ks vs,.mp e f],.agg [.int .i64 op,.bool i,.str g,.str h,.str d],.sl [.bool c.n,.str c.a,.str c.d,.int .i64 c.e] 1 nn] (.ret (fH o)):=pK [] 7 24 (.k 11 p (.k 12 m (.k 1 k (.k 1 n (.n 3 .nil))))) (.c j .nil)
theorem adV (c e:Oq) (n nn:Bool) (h k d:List UInt8) (op:Int) (ks vs f g:List AV) (o:lit true (!(c.e==((0:Nat):Int)))=true) (j:lit false (op==((15:Nat):Int))=true) (i:lit false (decide (op≤((8:Nat):Int)))=true) (m:lit false (decide (op≤((4:Nat):Int)))=true):CO 46 [.agg [.mp ks vs,.mp f g],.agg [.int .i64 op,.bool n,.str h,.str k,.str d],.sl [.bool c.n,.str c.a,.str c.d,.int .i64 c.e,.bool e.n,.str e.a,.str e.d,.int .i64 e.e] 2 nn] (.ret (fH c)):=pK [] 6 48 (.k 9 o (.k 10 j (.k 1 i (.k 1 m (.n 3 .nil))))) (.nil)
theorem adW (d c:Oq) (o nn:Bool) (h k e:List UInt8) (op:Int) (ks vs f g:List AV) (p:lit true (!(c.e==((0:Nat):Int)))=true) (j:lit false (!(d.e==((0:Nat):Int)))=true) (i:lit false (op==((15:Nat):Int))=true) (n:lit false (decide (op≤((8:Nat):Int)))=true) (m:lit false (decide (op≤((4:Nat):Int)))=true):CO 46 [.agg [.mp ks vs,.mp f g],.agg [.int .i64 op,.bool o,.str h,.str k,.str e],.sl [.bool d.n,.str d.a,.str d.d,.int .i64 d.e,.bool c.n,.str c.a,.str c.d,.int .i64 c.e] 2 nn] (.ret (fH c)):=pK [] 8 208 (.k 9 p (.k 9 j (.k 10 i (.k 1 n (.k 1 m (.n 3 .nil)))))) (.nil)
theorem adX (d c o:Oq) (f nn:Bool) (h i e:List UInt8) (op:Int) (ks vs g j:List AV) (q:lit false (!(c.e==((0:Nat):Int)))=true) (k:lit false (!(d.e==((0:Nat):Int)))=true) (n:lit false (op==((15:Nat):Int))=true) (m:lit false (decide (op≤((8:Nat):Int)))=true) (p:lit false (decide (op≤((4:Nat):Int)))=true) (r:CO 74 [.agg [.mp ks vs,.mp g j],.agg [.int .i64 op,.bool f,.str h,.str i,.str e],.sl [.bool d.n,.str d.a,.str d.d,.int .i64 d.e,.bool c.n,.str c.a,.str c.d,.int .i64 c.e] 2 nn] (.ret (fH o))):CO 46 [.agg [.mp ks vs,.mp g j],.agg [.int .i64 op,.bool f,.str h,.str i,.str e],.sl [.bool d.n,.str d.a,.str d.d,.int .i64 d.e,.bool c.n,.str c.a,.str c.d,.int .i64 c.e] 2 nn] (.ret (fH o)):=pK [] 9 80 (.k 11 q (.k 9 k (.k 10 n (.k 1 m (.k 1 p (.n 3 .nil)))))) (.c r .nil)
theorem adY (c e f o:Oq) (i nn:Bool) (j k d:List UInt8) (op:Int) (ks vs g h:List AV) (q:lit true (op==((15:Nat):Int))=true) (p:lit false (decide (op≤((8:Nat):Int)))=true) (n:lit false (decide (op≤((4:Nat):Int)))=true) (m:CO 77 [.agg [.mp ks vs,.mp g h],.agg [.int .i64 op,.bool i,.str j,.str k,.str d],.sl [.bool c.n,.str c.a,.str c.d,.int .i64 c.e,.bool e.n,.str e.a,.str e.d,.int .i64 e.e,.bool f.n,.str f.a,.str f.d,.int .i64 f.e] 3 nn] (.ret (fH o))):CO 46 [.agg [.mp ks vs,.mp g h],.agg [.int .i64 op,.bool i,.str j,.str k,.str d],.sl [.bool c.n,.str c.a,.str c.d,.int .i64 c.e,.bool e.n,.str e.a,.str e.d,.int .i64 e.e,.bool f.n,.str f.a,.str f.d,.int .i64 f.e] 3 nn] (.ret (fH o)):=pK [] 3 4 (.k 12 q (.k 1 p (.k 1 n (.n 3 .nil)))) (.c m .nil)
def Gn (m:List AV × List AV) (k v:AV):List AV × List AV:=if (dM m.1 m.2 k).isSome then m else (xE m.1 k,oZ m.1 m.2 k v)
theorem Ec (k v q:AV):∀ (ks vs:List AV),ks.length=vs.length→dM (ks++ [k]) (vs++ [v]) q=(dM ks vs q).or (if xm q k then some v else none)
 | [],[],_=>by simp [dM];cases xm q k<;>rfl
 |a::ks,b::vs,h=>by
  simp only [List.cons_append,dM]
  cases xm q a with
  |true=>rfl
  |false=>exact Ec k v q ks vs (by simpa using h)
 | [],_::_,h=>by simp at h
 |_::_,[],h=>by simp at h
theorem He (q v:AV):∀ (ks vs:List AV),ks.length=vs.length→dM ks vs q=none→ks.any (xm q)=false∧oZ ks vs q v=vs++ [v]
 | [],[],_,_=> ⟨rfl,rfl⟩
 | a::ks,b::vs,h,hf=>by
  simp only [dM] at hf
  cases c:xm q a with
  |true=>rw [c] at hf;cases hf
  |false=>
   rw [c] at hf
   obtain ⟨e,d⟩:=He q v ks vs (by simpa using h) hf
   exact ⟨by simp [c,e],by simp [oZ,c,d]⟩
 | [],_::_,h,_=>by simp at h
 |_::_,[],h,_=>by simp at h
structure RU {α:Type} (kf vf:α→AV) (p:List α) (m:List AV × List AV):Prop where
 len:m.1.length=m.2.length
 find:∀ y,dM m.1 m.2 (kf y)=(p.find? fun x=>xm (kf y) (kf x)).map vf
 keys:∀ k ∈ m.1,∃ x,k=kf x
theorem RU.step {α:Type} {c vf:α→AV} (n:∀ x y,xm (c x) (c y)=true→c x=c y) {p:List α} {m:List AV × List AV} (h:RU c vf p m) (x:α):RU c vf (p++ [x]) (Gn m (c x) (vf x)):=by
 unfold Gn
 cases hs:dM m.1 m.2 (c x) with
 | some v=>
  rw [if_pos (by rfl)]
  refine ⟨h.len,fun y=> ?_,h.keys⟩
  rw [h.find y,List.find?_append]
  cases hp:p.find? (fun x=>xm (c y) (c x)) with
  |some z=>rfl
  | none=>
   have g:=h.find x
   rw [hs] at g
   cases f:xm (c y) (c x) with
   |false=>simp [f]
   |true=>
    rw [← n y x f,hp] at g
    cases g
 | none=>
  obtain ⟨j,i⟩:=He (c x) (vf x) m.1 m.2 h.len hs
  have e:xE m.1 (c x)=m.1++ [c x]:=by unfold xE;rw [j]
  rw [if_neg (by simp),e,i]
  refine ⟨by simp [h.len],fun y=> ?_,fun k d=> ?_⟩
  ·rw [Ec _ _ _ _ _ h.len,h.find y,List.find?_append]
   cases hp:p.find? (fun x=>xm (c y) (c x)) with
   |some z=>rfl
   |none=>cases f:xm (c y) (c x)<;>simp [f]
  ·rcases List.mem_append.1 d with d|d
   ·exact h.keys k d
   ·rw [List.mem_singleton] at d;exact ⟨x,d⟩
def Gw {α:Type} (kf vf:α→AV) (p:List α):List AV × List AV:=p.foldl (fun m x=>Gn m (kf x) (vf x)) ([],[])
theorem Ah {α:Type} (c vf:α→AV) (p:List α) (x:α):Gw c vf (p++ [x])=Gn (Gw c vf p) (c x) (vf x):=by unfold Gw;rw [List.foldl_append];rfl
theorem EJ {α:Type} {c vf:α→AV} (d:∀ x y,xm (c x) (c y)=true→c x=c y) (l:List α):RU c vf l (Gw c vf l):=by
 have key:∀ (r p:List α),RU c vf p (Gw c vf p)→RU c vf (p++r) (Gw c vf (p++r)):=by
  intro r
  induction r with
  |nil=>intro p h;simpa using h
  |cons x r ih=>
   intro p h
   have e:=h.step d x
   rw [← Ah] at e
   have:=ih (p++ [x]) e
   simpa using this
 exact key l [] ⟨rfl,fun y=>rfl,fun k d=>by simp [Gw] at d⟩
def UL (x:Lk):AV:= .agg [.int .i64 x.op,.str x.nm]
def UM (x:Lk):Oq:=uf x.n x.a x.d x.e
def Ac (ls:List Lk):List AV × List AV:=Gw UL (fun x=>fH (UM x)) ls
theorem Qy (x y:Lk) (h:xm (UL x) (UL y)=true):UL x=UL y:=by
 simp only [UL,xm,IV,D_,Bool.and_true,Bool.and_eq_true,beq_iff_eq] at h
 unfold UL;rw [h.1,h.2]
def XR (c:Sc):AV:= .str c.name
def Df (cs:List Sc):List AV × List AV:=Gw XR (fun c=> .agg (Q5 c)) cs
theorem Q7 (x y:Sc) (h:xm (XR x) (XR y)=true):XR x=XR y:=by
 simp only [XR,xm,beq_iff_eq] at h
 unfold XR;rw [h]
def Lp (ls:List Lk) (op:Int) (nm:List UInt8):Option Oq:=(ls.find? fun y=>(op==y.op) && (nm==y.nm)).map UM
def scO (cs:List Sc) (nm:List UInt8):Option Sc:=cs.find? fun c=>nm==c.name
theorem Lm (ls:List Lk) (op:Int) (nm:List UInt8):dM (Ac ls).1 (Ac ls).2 (.agg [.int .i64 op,.str nm])=(Lp ls op nm).map (fun o=>fH o):=by
 have h:=(EJ (vf:=fun x=>fH (UM x)) Qy ls).find ⟨op,nm,false,[],[],0⟩
 unfold Ac Lp
 rw [Option.map_map]
 refine h.trans ?_
 congr 1
 congr 1
 funext y
 simp [UL,xm,IV,D_]
theorem MG (d:List Sc) (nm:List UInt8):dM (Df d).1 (Df d).2 (.str nm)=(scO d nm).map (fun c=> .agg (Q5 c)):=by
 have h:=(EJ (vf:=fun c=>AV.agg (Q5 c)) Q7 d).find ⟨nm,0,0,[],0⟩
 exact h
theorem acp {α:Type} {c vf:α→AV} (e:∀ x y,xm (c x) (c y)=true→c x=c y) (t:Nat) (f:∀ x,Qu t (c x)=true) (l:List α):List.all (Gw c vf l).1 (Qu t)=true:=by
 rw [List.all_eq_true]
 intro k d
 obtain ⟨x,rfl⟩:=(EJ (vf:=vf) e l).keys k d
 exact f x
theorem aez (x:Lk):Qu 134 (UL x)=true:=by kernel_rfl
theorem aeA (c:Sc):Qu 9 (XR c)=true:=by kernel_rfl
theorem CY (ls:List Lk):List.all (Ac ls).1 (Qu 134)=true:=acp Qy 134 aez ls
theorem Dh (c:List Sc):List.all (Df c).1 (Qu 9)=true:=acp Q7 9 aeA c
def zO:Oq:= .val ⟨false,0,0⟩
theorem amm:fH zO= .agg [.bool false,.str [],.str [],.int .i64 0]:=by
 show AV.agg [.bool false,.str (ae 0),.str (ae 0),.int .i64 0]=_
 rw [dU]
theorem acH (ls:List Lk) (op:Int) (nm:List UInt8):AV.tup [(Option.getD (dM (Ac ls).1 (Ac ls).2 (.agg [.int .i64 op,.str nm])) (.agg [.bool false,.str [],.str [],.int .i64 0])),.bool (Option.isSome (dM (Ac ls).1 (Ac ls).2 (.agg [.int .i64 op,.str nm])))]=AV.tup [fH ((Lp ls op nm).getD zO),.bool (Lp ls op nm).isSome]:=by
 rw [Lm]
 cases Lp ls op nm with
 |none=>simp only [Option.map_none,Option.getD_none,Option.isSome_none];rw [amm]
 |some x=>rfl
theorem WJ {l:List Lk} {k:Nat} (h:k<l.length):List.drop (Int.toNat (k:Int)*6) (kE l)=lkC l[k]++kE (l.drop (k+1)):=by
 rw [aJ];exact vO lkC 6 (fun _=>rfl) h
theorem aU.tupL {l r:List AV} (h:gQ l r):aU (.tup l) (.tup r):=by
 intro g m S v c
 simp only [VR] at c ⊢
 obtain ⟨vs,e,c⟩:=c
 exact ⟨vs,e,h g m S vs c⟩
theorem aU.zsc:aU (.tup [.agg [.str [],.int .i64 0,.int .i64 0,.nilS],.bool false]) (.tup [.agg [.str [],.int .i64 0,.int .i64 0,.sl [] 0 false],.bool false]):=
 aU.tupL (gQ.cons (aU.agg (gQ.cons (aU.refl _) (gQ.cons (aU.refl _) (gQ.cons (aU.refl _) (gQ.cons (aU.nilS false rfl) (gQ.refl _)))))) (gQ.refl _))
abbrev alK (ls:List Lk) (cs:List Sc) (nl ns:Bool) (p:Nat × (List AV × List AV)):St:=⟨[(1,.ptr 0 0 0),(2,.ptr 1 0 0),(3,.ptr 2 0 0),(17,.sl (kE ls) ls.length nl),(18,.int .i64 (ls.length:Int)),(19,.int .i64 (p.1:Int))],Js ls cs nl ns p.2.1 p.2.2 [] [],.dead,[]⟩
abbrev opO (ls:List Lk) (cs:List Sc) (nl ns:Bool) (a b:List AV × List AV):St:=⟨[(1,.ptr 0 0 0),(2,.ptr 1 0 0),(3,.ptr 2 0 0)],Js ls cs nl ns a.1 a.2 b.1 b.2,.dead,[]⟩
abbrev alL (ls:List Lk) (cs:List Sc) (nl ns:Bool) (a:List AV × List AV) (p:Nat × (List AV × List AV)):St:=⟨[(1,.ptr 0 0 0),(2,.ptr 1 0 0),(3,.ptr 2 0 0),(45,.sl (kS cs) cs.length ns),(46,.int .i64 (cs.length:Int)),(47,.int .i64 (p.1:Int))],Js ls cs nl ns a.1 a.2 p.2.1 p.2.2,.dead,[]⟩
theorem UZ {m:List AV × List AV} {k v:AV} (h:(dM m.1 m.2 k).isSome=true):Gn m k v=m:=by unfold Gn;rw [if_pos h]
theorem UY {m:List AV × List AV} {k v:AV} (h:(dM m.1 m.2 k).isSome=false):Gn m k v=(xE m.1 k,oZ m.1 m.2 k v):=by unfold Gn;rw [if_neg (by rw [h];simp)]
theorem aaY {nt:Nat} (o:68≤nt) (ls:List Lk) (d:List Sc) (g h:Bool) (w:ls.length<2^60) (hs:∀ x ∈ ls,x.a.length<2^36∧x.d.length<2^36):∀ (r p:List Lk),ls=p++r→
  aI prog ap [] nt (af 0 (ah f45)) (fun _=> .exit 0) (alK ls d g h) (fun q:List AV × List AV=>opO ls d g h q ([],[])) (p.length,Ac p) (Ac ls):=by
 intro r
 induction r with
 |nil=>
  intro p hp
  rw [List.append_nil] at hp
  subst hp
  exact .done (ahr _ _ _ ls d g h o (aF (decide_eq_false (by omega))))
 | cons x r ih=>
  intro p hp
  have t:p.length<ls.length:=by rw [hp];simp
  have n:=WJ t
  rw [show ls[p.length]=x by subst hp;simp] at n
  have c:=ih (p++ [x]) (by rw [hp];simp)
  rw [List.length_append,List.length_singleton] at c
  have e:Ac (p++ [x])=Gn (Ac p) (UL x) (fH (UM x)):=Ah _ _ p x
  rw [e] at c
  have j:=acH p x.op x.nm
  have i:=congrArg Option.isSome (Lm p x.op x.nm)
  rw [Option.isSome_map] at i
  have u:decide (((0:Nat):Int)≤(p.length:Int))=true:=decide_eq_true (by omega)
  have m:decide ((p.length:Int)<(ls.length:Int))=true:=decide_eq_true (by omega)
  have f:=hs x (by rw [hp];simp)
  cases v:(Lp p x.op x.nm).isSome with
  |true=>
   rw [v] at j i
   rw [UZ (k:=UL x) i] at c
   exact .next (ahq _ _ p.length ls d x g h true _ _ o n j (Ci (by omega)) rfl (CY p) u m (aG m)) c
  |false=>
   rw [v] at j i
   rw [UY (k:=UL x) i] at c
   exact .next (ahp _ _ p.length ls d x g h false _ (UM x) _ o n j (Ci (by omega)) (CY p) rfl u m (aG m) (vZ x.n x.a x.d x.e f.1 f.2)) c
theorem aaZ {nt:Nat} (n:68≤nt) (ls:List Lk) (d:List Sc) (h i:Bool) (a:List AV × List AV) (v:d.length<2^60):∀ (r p:List Sc),d=p++r→
  aI prog ap [] nt (af 2 (ah f45)) (fun _=> .exit 2) (alL ls d h i a) (fun q:List AV × List AV=>opO ls d h i a q) (p.length,Df p) (Df d):=by
 intro r
 induction r with
 |nil=>
  intro p hp
  rw [List.append_nil] at hp
  subst hp
  exact .done (ahu _ _ _ _ _ ls d h i n (aF (decide_eq_false (by omega))))
 | cons x r ih=>
  intro p hp
  have o:p.length<d.length:=by rw [hp];simp
  have m:=XT o
  rw [show d[p.length]=x by subst hp;simp] at m
  have f:=ih (p++ [x]) (by rw [hp];simp)
  rw [List.length_append,List.length_singleton] at f
  have e:Df (p++ [x])=Gn (Df p) (XR x) (.agg (Q5 x)):=Ah _ _ p x
  rw [e] at f
  have g:=MG p x.name
  have t:decide (((0:Nat):Int)≤(p.length:Int))=true:=decide_eq_true (by omega)
  have j:decide ((p.length:Int)<(d.length:Int))=true:=decide_eq_true (by omega)
  cases u:scO p x.name with
  |some c=>
   rw [u] at g
   rw [UZ (k:=XR x) (show (dM (Df p).1 (Df p).2 (.str x.name)).isSome=true by rw [g];rfl)] at f
   exact .next (aht _ _ _ a.1 a.2 _ _ _ _ p.length ls d x h i true _ n m (by rw [g];exact aU.refl _) (Ci (by omega)) rfl (Dh p) t j (aG j)) f
  |none=>
   rw [u] at g
   rw [UY (k:=XR x) (show (dM (Df p).1 (Df p).2 (.str x.name)).isSome=false by rw [g];rfl)] at f
   exact .next (ahs [] 0 0 a.1 a.2 _ _ [] 0 p.length ls d x h i false _ n m (by rw [g];exact aU.zsc) (Ci (by omega)) (Dh p) rfl t j (aG j)) f
theorem KN (ls:List Lk) (c:List Sc) (d e:Bool) (g:ls.length<2^60) (h:c.length<2^60) (hs:∀ x ∈ ls,x.a.length<2^36∧x.d.length<2^36):CO 45 [.agg [.sl (kE ls) ls.length d,.sl (kS c) c.length e]] (.ret (.agg [.mp (Ac ls).1 (Ac ls).2,.mp (Df c).1 (Df c).2])):=
 adZ _ _ _ _ ls c d e
  (aI.blk (id:=0) (e':= .normal) (s:=⟨_,_,_,_⟩) (s':=opO ls c d e (Ac ls) ([],[])) (fun nt f=>aaY f ls c d e g hs ls [] rfl) (by simp) rfl (aO.of ⟨rfl,rfl,rfl,rfl,rfl,rfl,trivial⟩) (aO.refl _))
  (aI.blk (id:=2) (e':= .normal) (s:=⟨_,_,_,_⟩) (s':=opO ls c d e (Ac ls) (Df c)) (fun nt f=>aaZ f ls c d e (Ac ls) h c [] rfl) (by simp) rfl (aO.of ⟨rfl,rfl,rfl,rfl,rfl,rfl,trivial⟩) (aO.refl _))
end Go.Proofs.Tryz
set_option maxRecDepth 100000
open Go AM
namespace Go.Proofs.Tryz
structure Sq where
 nm:List UInt8
 u1:Int
 u2:Int
 l:List Br
def Sq.c (q:Sq):Sc:=⟨q.nm,q.u1,q.u2,nG q.l,q.l.length⟩
theorem kJ {c:List Nd} (h:c.all (fun x=>Nat.ble (x.num.length+1) 8589934592 && Nat.ble (x.den.length+1) 8589934592)=true):∀ x ∈ c,x.sm:=by
 intro x d
 have:=List.all_eq_true.1 h x d
 rw [Bool.and_eq_true] at this
 exact ⟨Nat.le_of_ble_eq_true this.1,Nat.le_of_ble_eq_true this.2⟩
def Br.s28 (x:Br):Prop:=(x.fa.length<2^28∧x.fd.length<2^28)∧(x.ra.length<2^28∧x.rd.length<2^28)
theorem Br.s28.sm {x:Br} (h:x.s28):x.sm:=⟨⟨Nat.lt_trans h.1.1 (by decide),Nat.lt_trans h.1.2 (by decide)⟩,Nat.lt_trans h.2.1 (by decide),Nat.lt_trans h.2.2 (by decide)⟩
end Go.Proofs.Tryz
set_option maxRecDepth 100000
set_option linter.unusedVariables false
open Go AM
namespace Go.Proofs.Tryz
def mW (y x:Br):Int:=kZ (vQ y.fn y.fa y.fd) (vQ x.fn x.fa x.fd)
def YW (x:Br):RQ × RQ:=(vQ x.fn x.fa x.fd,vQ x.rn x.ra x.rd)
def YV (l:List Br) (x:RQ):Oq:=if JS mW l=0 then YB (l.map YW) x else .err (JS mW l)
theorem Y7 {l:List Br} (h:∀ x ∈ l,x.s28):GI 127 mW l:=fun i y x d c _ _=>
 FC y.fn x.fn y.fa y.fd x.fa x.fd (h y (List.mem_of_getElem? d)).1.1 (h y (List.mem_of_getElem? d)).1.2 (h x (List.mem_of_getElem? c)).1.1 (h x (List.mem_of_getElem? c)).1.2
theorem BQ {n:Bool} {a d:List UInt8} (h:iO n a d=true):vQ n a d=⟨n,ag a,ag d⟩:=by unfold vQ;rw [if_pos h]
theorem adq {x:Br} (h:mF x=true):PO (YW x)=Sl x:=by
 simp only [mF,Bool.and_eq_true] at h
 unfold PO YW Sl
 simp only [BQ h.1,BQ h.2]
 rw [(lm h.1).1,(lm h.1).2,(lm h.2).1,(lm h.2).2]
theorem U9:∀ {l:List Br},l.all mF=true→xU (l.map YW)=nG l
 | [],_=>rfl
 |x::l,h=>by
  simp only [List.all_cons,Bool.and_eq_true] at h
  show PO (YW x)++xU (l.map YW)=Sl x++nG l
  rw [adq h.1,U9 h.2]
theorem J9:∀ (l:List Br) (y:Br),Gp mW y l=true→jO ((y::l).map YW)
 | [],_,_=>True.intro
 | x::l,y,h=>by
  unfold Gp at h
  cases hd:decide (((0:Nat):Int)≤mW y x) with
  |true=>rw [hd] at h;cases h
  |false=>
   rw [hd] at h
   have c:mW y x<0:=by have:=of_decide_eq_false hd;omega
   exact ⟨(CQ (lZ _ _ _) (lZ _ _ _)).1.1 c,J9 l x h⟩
theorem acu {l:List Br} (h:JS mW l=0):YK (l.map YW)∧xU (l.map YW)=nG l:=by
 unfold JS at h
 cases e:decide (((8:Nat):Int)<(l.length:Int)) with
 |true=>rw [e] at h;cases h
 | false=>
  rw [e] at h
  have m:l.length≤8:=by have:=of_decide_eq_false e;omega
  cases l with
  |nil=>cases h
  | cons x r=>
   rw [show ((((x::r).length:Nat):Int)==((0:Nat):Int))=false from beq_eq_false_iff_ne.2 (by simp only [List.length_cons];omega),Kq] at h
   cases d:(x::r).all mF with
   |false=>rw [d] at h;cases h
   | true=>
    rw [d] at h
    cases hs:(ry x.fn x.fa x.fd==((0:Nat):Int)) && Gp mW x r with
    |false=>rw [hs] at h;cases h
    | true=>
     rw [hs] at h
     simp only [Bool.and_eq_true] at hs
     cases c:(x::r).any Gs with
     |true=>rw [c] at h;cases h
     | false=>
      rw [Iy] at c
      have n:(x::r).all KW=true:=by simpa using c
      refine ⟨⟨by simpa using m,by simp,fun b f=> ?_,fun b f=> ?_,J9 r x hs.2⟩,U9 d⟩
      ·obtain ⟨y,_,rfl⟩:=List.mem_map.1 f
       exact ⟨lZ _ _ _,lZ _ _ _⟩
      ·obtain ⟨y,o,rfl⟩:=List.mem_map.1 f
       have:=List.all_eq_true.1 n y o
       simp only [KW,Bool.and_eq_true] at this
       obtain ⟨j,g⟩:=uJ this.1
       obtain ⟨k,i⟩:=uJ this.2
       exact ⟨by show jV (vQ _ _ _)=true;rw [BQ j];exact g,by show jV (vQ _ _ _)=true;rw [BQ k];exact i⟩
theorem adl {l:List (RQ × RQ)} {x:RQ} (d:YK l) (i:x.ok):(YB l x).ok:=by
 unfold YB
 split
 ·have:=tu false;exact this
 ·refine p_ ?_
  have j:=(yA x l).1
  have h:=d.pos
  have f:iH l x - 1<l.length:=by omega
  have c:iH l x - 1<(ja q0 l).length:=by rw [FM l q0 d.pos];exact f
  have g:=List.getElem_mem f
  have e:atR l x=iP (ja q0 l)[iH l x - 1] (mZ l[iH l x - 1].2 (jg x l[iH l x - 1].1)):=by
   unfold atR
   rw [List.getD_eq_getElem?_getD,List.getD_eq_getElem?_getD,List.getElem?_eq_getElem f,List.getElem?_eq_getElem c];rfl
  rw [e]
  exact jD (MQ d _ (List.getElem_mem c)).1 (sD (d.ok _ g).2 (pX i (d.ok _ g).1))
theorem adk {l:List Br} {x:RQ} (c:x.ok):(YV l x).ok:=by
 unfold YV
 split
 ·rename_i h;exact adl (acu h).1 c
 ·assumption
theorem Zt (nm:List UInt8) (u1 u2:Int) {l:List Br} (hs:∀ x ∈ l,x.s28) (i:l.length<2^40) {x:RQ} (d:x.ok) (j:jV x=true):
  CO 130 [.agg [.str nm,.int .i64 u1,.int .i64 u2,.sl (nG l) l.length false],qA x] (.ret (.tup [.agg [.bool (YV l x).n,.str (YV l x).a,.str (YV l x).d],.int .i64 (YV l x).e])):=by
 have c:=O1 nm u1 u2 l mW i (fun x d=>(hs x d).sm) (Y7 hs)
 unfold YV
 by_cases h:JS mW l=0
 ·rw [if_pos h]
  rw [h] at c
  obtain ⟨k,e⟩:=acu h
  have f:=adD nm u1 u2 k d j
  simp only [JV,e,List.length_map] at f
  exact f c
 ·rw [if_neg h]
  have g:lit true (!(JS mW l==((0:Nat):Int)))=true:=by rw [show (JS mW l==((0:Nat):Int))=false from beq_eq_false_iff_ne.2 h];rfl
  exact adG x _ _ nm u1 u2 _ g (adC x _ _ nm u1 u2 _ g c)
structure dW where
 ls:List Lk
 qs:List Sq
def sqO (qs:List Sq) (nm:List UInt8):Option Sq:=qs.find? fun q=>nm==q.nm
theorem abK (qs:List Sq) (nm:List UInt8):scO (qs.map Sq.c) nm=(sqO qs nm).map Sq.c:=by
 unfold scO sqO
 rw [List.find?_map];rfl
abbrev afH (E:dW):AV:= .agg [.mp (Ac E.ls).1 (Ac E.ls).2,.mp (Df (E.qs.map Sq.c)).1 (Df (E.qs.map Sq.c)).2]
def JJ (qs:List Sq) (op:Int) (nm:List UInt8) (st:RQ) (a:Oq):Oq:=
 if op=20 then (if a.bit then AQ (!a.one) else .err 13)
 else if op=24 then (match sqO qs nm with|none=> .err 12|some s=>YV s.l a.q)
 else if op=21 then mM (CU a.q st) else if op=22 then mM (upR a.q st) else mM (nrR a.q st)
def dD (E:dW) (x:Nd) (l:List Oq):Oq:=
 if x.op≤4 then uf x.neg x.num x.den 0 else if x.op≤8 then (Lp E.ls x.op x.name).getD (.err 12)
 else match l with
 | [a]=>if a.e=0 then JJ E.qs x.op x.name (vQ x.neg x.num x.den) a else a
 | [a,b]=>if a.e=0 then (if b.e=0 then E8 x.op a b else b) else a
 | [a,b,c]=>Sr a b c
 |_=> .err 11
def Ya (x:Nd):Prop:=21≤x.op→x.op≤23→fC x.neg x.num x.den=true∧0<ry x.neg x.num x.den
theorem OL {a s:RQ} (e:jV a=true) (f:jV s=true):mJ 10000 (nrR a s)∧mJ 10000 (upR a s)∧mJ 10000 (CU a s):=by
 have c:=NV e f
 have g:mJ 51 s:=b_ f
 have d:=FN c (g.mono (show 51≤208 by decide))
 refine ⟨?_, ?_,c.mono (by decide)⟩
 ·unfold nrR;split
  ·exact d.mono (by decide)
  ·exact c.mono (by decide)
 ·unfold upR;split
  ·exact mJ.mono (L:=51) (b_ e) (by decide)
  ·exact d.mono (by decide)
theorem JO {a s:RQ} (c:a.ok) (hs:s.ok):(upR a s).ok∧(nrR a s).ok:=by
 constructor
 ·unfold upR;split
  ·exact c
  ·exact jD (xh hs) hs
 ·unfold nrR;split
  ·exact jD (xh hs) hs
  ·exact xh hs
theorem N9 (E:dW) (x:Nd) (nn:Bool) (a:Oq) (k:20≤x.op∧x.op≤24) (g:Ya x) (w:a.ok) (y:a.e=0) (m:∀ s ∈ E.qs,s.l.length<2^40∧∀ b ∈ s.l,b.s28):
  CO 78 [afH E,.agg (yZ x),.sl (Cc a) 1 nn] (.ret (fH (JJ E.qs x.op x.name (vQ x.neg x.num x.den) a))):=by
 obtain ⟨q,rfl,f,c⟩:=Il w y
 obtain ⟨op,n,o,p,nm⟩:=x
 unfold JJ
 simp only at k g ⊢
 have step:21≤op→op≤23→∃ st:RQ,vQ n o p=st∧st.ok∧jV st=true∧0<wH st∧o=ae st.n∧p=ae st.d∧n=st.neg:=by
  intro i j
  obtain ⟨z,A⟩:=g i j
  obtain ⟨d,v⟩:=uJ z
  refine ⟨_,rfl,lZ _ _ _,by rw [BQ d];exact v,by rw [← X0];exact A, ?_, ?_, ?_⟩
  ·rw [BQ d];exact (lm d).1.symm
  ·rw [BQ d];exact (lm d).2.symm
  ·rw [BQ d]
 have lv:∀ {r:RQ},mJ 10000 r→r.ok→CO 124 [qA r] (.ret (fH (mM r))):=fun i j=>qP j (Nat.lt_of_le_of_lt i.1 (by decide)) (Nat.lt_of_le_of_lt i.2 (by decide))
 have B:op=20∨op=21∨op=22∨op=23∨op=24:=by omega
 rcases B with rfl|rfl|rfl|rfl|rfl
 ·rw [if_pos rfl]
  have t:=nH (.val q)
  generalize Oq.bit (.val q)=w2 at*
  generalize Oq.one (.val q)=w1 at*
  cases w2 with
  |false=>exact ZJ (.val q) _ _ _ _ _ _ _ _ _ _ _ rfl t (iJ 13)
  |true=>exact ZK (.val q) _ _ _ _ _ _ _ _ _ _ _ _ rfl t (lg _)
 ·obtain ⟨st,e,k1,k2,k3,rfl,rfl,rfl⟩:=step (by decide) (by decide)
  rw [e,if_neg (by decide),if_neg (by decide),if_pos rfl]
  exact ZL (.val q) _ _ st _ _ _ _ _ _ (D7 f c k1 k2 k3) (lv (OL c k2).2.2 (xh k1))
 ·obtain ⟨st,e,k1,k2,k3,rfl,rfl,rfl⟩:=step (by decide) (by decide)
  rw [e,if_neg (by decide),if_neg (by decide),if_neg (by decide),if_pos rfl]
  exact ZM (.val q) _ _ st _ _ _ _ _ _ (aeg f c k1 k2 k3) (lv (OL c k2).2.1 (JO f k1).1)
 ·obtain ⟨st,e,k1,k2,k3,rfl,rfl,rfl⟩:=step (by decide) (by decide)
  rw [e,if_neg (by decide),if_neg (by decide),if_neg (by decide),if_neg (by decide)]
  exact ZN (.val q) _ _ st _ _ _ _ _ _ (VI f c k1 k2 k3) (lv (OL c k2).1 (JO f k1).2)
 ·rw [if_neg (by decide),if_pos rfl]
  have h:=MG (E.qs.map Sq.c) nm
  rw [abK] at h
  cases hs:sqO E.qs nm with
  |none=>
   rw [hs] at h
   exact ZO (.val q) _ _ false _ _ nm [] 0 0 _ _ _ _ [] 0 (by rw [h];exact aU.zsc) rfl (Dh _) (iJ 12)
  |some s=>
   rw [hs] at h
   have u:=List.mem_of_find?_eq_some hs
   exact ZP (.val q) _ _ _ true _ _ nm s.nm s.u1 s.u2 _ _ _ _ (nG s.l) s.l.length (by rw [h];exact aU.refl _) rfl (Dh _) (Zt s.nm s.u1 s.u2 (m s u).2 (m s u).1 f c)
def gp (l:List Oq):List AV:=l.flatMap Cc
theorem KL (E:dW) (x:Nd) (nn:Bool) (l:List Oq) (z:1≤x.op) (m:x.op≤24) (q:Ya x) (j:l.length=dX x.op) (v:∀ o ∈ l,o.ok) (n:x.sm) (w:∀ s ∈ E.qs,s.l.length<2^40∧∀ b ∈ s.l,b.s28):
  CO 46 [afH E,.agg (yZ x),.sl (gp l) l.length nn] (.ret (fH (dD E x l))):=by
 obtain ⟨op,d,e,f,nm⟩:=x
 unfold dD
 simp only at z m q j ⊢
 have g:∀ {p:Prop} [Decidable p],¬ p→lit false (decide p)=true:=fun h=>aF (decide_eq_false h)
 have zT:∀ o:Oq,o.e=0→lit false (!(o.e==((0:Nat):Int)))=true:=fun o h=>by rw [h];rfl
 have t:∀ o:Oq,¬ o.e=0→lit true (!(o.e==((0:Nat):Int)))=true:=fun o h=>by rw [show (o.e==((0:Nat):Int))=false from beq_eq_false_iff_ne.2 h];rfl
 by_cases h4:op≤4
 ·rw [if_pos h4]
  have:dX op=0:=by unfold dX;rw [if_neg (by omega),if_neg (by omega),if_neg (by omega)]
  rw [this,List.length_eq_zero_iff] at j
  subst j
  exact adR _ d nn e f nm op _ _ _ _ (aG (decide_eq_true h4)) (adO d nn e f nm op _ _ _ _ _ [] 0 (KR d e f (Nat.lt_trans n.1 (by decide)) (Nat.lt_trans n.2 (by decide))))
 ·rw [if_neg h4]
  by_cases h8:op≤8
  ·rw [if_pos h8]
   have:dX op=0:=by unfold dX;rw [if_neg (by omega),if_neg (by omega),if_neg (by omega)]
   rw [this,List.length_eq_zero_iff] at j
   subst j
   refine adS _ d nn e f nm op _ _ _ _ (aG (decide_eq_true h8)) (g h4) ?_
   have r:=acH E.ls op nm
   cases k:Lp E.ls op nm with
   |none=>
    rw [k] at r
    exact adP d nn false e f nm op _ _ _ _ _ [] 0 r rfl (CY _) (iJ 12)
   |some o=>
    rw [k] at r
    exact adQ d nn true e f nm op o _ _ _ _ [] 0 r rfl (CY _)
  ·rw [if_neg h8]
   by_cases h15:op=15
   ·have:dX op=3:=by unfold dX;rw [if_pos h15]
    rw [this] at j
    match l,j with
    | [a,b,c],_=>
     exact adY a b c _ d nn e f nm op _ _ _ _ (aG (by rw [h15];rfl)) (g h8) (g h4) (NY op d nn e f nm _ _ _ _ a b c)
   ·have i:lit false (op==((15:Nat):Int))=true:=by rw [show (op==((15:Nat):Int))=false from beq_eq_false_iff_ne.2 h15];rfl
    by_cases h19:op≤19
    ·have:dX op=2:=by unfold dX;rw [if_neg (by omega),if_pos (by omega)]
     rw [this] at j
     match l,j with
     | [a,b],_=>
      have u:=v a (by simp)
      have y:=v b (by simp)
      simp only
      by_cases za:a.e=0
      ·rw [if_pos za]
       by_cases zb:b.e=0
       ·rw [if_pos zb]
        exact adX a b _ d nn e f nm op _ _ _ _ (zT b zb) (zT a za) i (g h8) (g h4) (VL op d nn e f nm _ _ _ _ a b (by omega) u za y zb)
       ·rw [if_neg zb]
        exact adW a b d nn e f nm op _ _ _ _ (t b zb) (zT a za) i (g h8) (g h4)
      ·rw [if_neg za]
       exact adV a b d nn e f nm op _ _ _ _ (t a za) i (g h8) (g h4)
    ·have:dX op=1:=by unfold dX;rw [if_neg (by omega),if_neg (by omega),if_pos (by omega)]
     rw [this] at j
     match l,j with
     | [a],_=>
      have u:=v a (by simp)
      simp only
      by_cases za:a.e=0
      ·rw [if_pos za]
       exact adU a _ d nn e f nm op _ _ _ _ (zT a za) i (g h8) (g h4) (N9 E ⟨op,d,e,f,nm⟩ nn a ⟨by show 20≤op;omega,m⟩ q u za w)
      ·rw [if_neg za]
       exact adT a d nn e f nm op _ _ _ _ (t a za) i (g h8) (g h4)
theorem Xu {op:Int} {a b:Oq} (f:a.ok) (e:b.ok) (i:a.e=0) (g:b.e=0):(E8 op a b).ok:=by
 obtain ⟨q,rfl,c,k⟩:=Il f i
 obtain ⟨r,rfl,d,j⟩:=Il e g
 unfold E8
 repeat' split
 all_goals first|exact p_ (jD c d)|exact p_ (pX c d)|exact p_ (sD c d)|exact (by decide:(13:Int) ≠ 0)|exact e|exact f|exact tu _|exact (by decide:(16:Int) ≠ 0)|(rename_i h;exact p_ (Jz c (Nat.pos_of_ne_zero h)))
theorem abR {qs:List Sq} {op:Int} {nm:List UInt8} {st:RQ} {a:Oq} (ks:st.ok) (e:a.ok) (d:a.e=0):(JJ qs op nm st a).ok:=by
 obtain ⟨q,rfl,c,f⟩:=Il e d
 unfold JJ
 repeat' split
 all_goals first|exact tu _|exact (by decide:(13:Int) ≠ 0)|exact (by decide:(12:Int) ≠ 0)|exact adk c|exact p_ (xh ks)|exact p_ (JO c ks).1|exact p_ (JO c ks).2
theorem aeI {ls:List Lk} {op:Int} {nm:List UInt8}:((Lp ls op nm).getD (.err 12)).ok:=by
 unfold Lp
 cases ls.find? _ with
 |none=>exact (by decide:(12:Int) ≠ 0)
 |some x=>exact Di _ _ _ _
theorem uN {E:dW} {x:Nd} {l:List Oq} (d:∀ o ∈ l,o.ok):(dD E x l).ok:=by
 unfold dD
 split
 ·exact Di _ _ _ _
 ·split
  ·exact aeI
  ·split
   ·rename_i a
    split
    ·exact abR (lZ _ _ _) (d a (by simp)) (by assumption)
    ·exact d a (by simp)
   ·rename_i a b
    split
    ·split
     ·exact Xu (d a (by simp)) (d b (by simp)) (by assumption) (by assumption)
     ·exact d b (by simp)
    ·exact d a (by simp)
   ·rename_i a b c
    unfold Sr
    repeat' split
    all_goals first|exact (by decide:(13:Int) ≠ 0)|exact d _ (by simp)
   ·exact (by decide:(11:Int) ≠ 0)
end Go.Proofs.Tryz
set_option maxRecDepth 100000
open Go AM
namespace Go.Proofs.Tryz
structure Ty where
 tr:Bool
 m:Int
 d:Int
def ug (t:Ty):List AV:= [.bool t.tr,.int .i64 t.m,.int .i64 t.d]
def vz (m d:Int):Bool:=decide (-3≤m∧m≤3∧ -3≤d∧d≤3)
def ig (t:Ty):Bool:=cond t.tr ((t.m==0) && (t.d==0)) (vz t.m t.d)
theorem XP (t:Ty):CO 219 [.agg [.int .i64 t.m,.int .i64 t.d]] (.ret (.bool (vz t.m t.d))):=by
 rcases tf (decide ((-3:Int)≤t.m)) with b0|b0
 ·rcases tf (decide (t.m≤((3:Nat):Int))) with b1|b1
  ·rcases tf (decide ((-3:Int)≤t.d)) with b2|b2
   ·have e:vz t.m t.d=(decide (t.d≤((3:Nat):Int))):=by
     unfold vz
     simp only [decide_eq_true_eq,decide_eq_false_iff_not,beq_iff_eq,beq_eq_false_iff_ne] at*
     first|omega|(split at b0<;>omega)|(rw [Bool.eq_iff_iff];simp only [decide_eq_true_eq];first|omega|(split at b0<;>split<;>omega))
    rw [e]
    exact pK [] 3 7 (.k 1 (aG b2) (.k 1 (aG b1) (.k 1 (aG b0) (.n 1 .nil)))) (.nil)
   ·have e:vz t.m t.d=false:=by
     unfold vz
     simp only [decide_eq_true_eq,decide_eq_false_iff_not,beq_iff_eq,beq_eq_false_iff_ne] at*
     first|omega|(split at b0<;>omega)|(rw [Bool.eq_iff_iff];simp only [decide_eq_true_eq];first|omega|(split at b0<;>split<;>omega))
    rw [e]
    exact pK [] 3 3 (.c (aF b2) (.k 1 (aG b1) (.k 1 (aG b0) (.n 1 .nil)))) (.nil)
  ·have e:vz t.m t.d=false:=by
    unfold vz
    simp only [decide_eq_true_eq,decide_eq_false_iff_not,beq_iff_eq,beq_eq_false_iff_ne] at*
    first|omega|(split at b0<;>omega)|(rw [Bool.eq_iff_iff];simp only [decide_eq_true_eq];first|omega|(split at b0<;>split<;>omega))
   rw [e]
   exact pK [] 3 1 (.k 1 (aF b1) (.k 1 (aG b0) (.n 1 .nil))) (.nil)
 ·have e:vz t.m t.d=false:=by
   unfold vz
   simp only [decide_eq_true_eq,decide_eq_false_iff_not,beq_iff_eq,beq_eq_false_iff_ne] at*
   first|omega|(split at b0<;>omega)|(rw [Bool.eq_iff_iff];simp only [decide_eq_true_eq];first|omega|(split at b0<;>split<;>omega))
  rw [e]
  exact pK [] 3 0 (.k 2 (aF b0) (.n 1 .nil)) (.nil)
theorem sV (t:Ty):CO 209 [.agg (ug t)] (.ret (.bool (ig t))):=by
 rcases tf ((t.tr==true) && ((t.m==((0:Nat):Int)) && ((t.d==((0:Nat):Int)) && true))) with b0|b0
 ·have e:ig t=true:=by first|(simp only [ig,b0]<;>rfl)|(unfold ig;cases c:t.tr<;>simp_all)
  rw [e]
  exact pK [] 1 1 (.c (aG b0) (.n 3 .nil)) (.nil)
 ·rcases tf t.tr with b1|b1
  ·have e:ig t=false:=by first|(simp only [ig,b0,b1]<;>rfl)|(unfold ig;cases c:t.tr<;>simp_all)
   rw [e]
   exact pK [] 2 0 (.c (aW b1) (.k 1 (aF b0) (.n 3 .nil))) (.nil)
  ·have e:ig t=(vz t.m t.d):=by first|(simp only [ig,b0,b1]<;>rfl)|(unfold ig;cases c:t.tr<;>simp_all)
   rw [e]
   exact pK [] 2 2 (.k 2 (d_ b1) (.k 1 (aF b0) (.n 3 .nil))) (.c (XP t) .nil)
structure Sg where
 op:Int
 name:List UInt8
 ty:Ty
def YE (s:Sg):List AV:= [.int .i64 s.op,.str s.name,.bool s.ty.tr,.int .i64 s.ty.m,.int .i64 s.ty.d]
def gV (l:List Sg):List AV:=l.flatMap YE
theorem MJ (x:Sg) (r:List Sg):gV (x::r)=YE x++gV r:=rfl
theorem abM (a b:List Sg):gV (a++b)=gV a++gV b:=by unfold gV;rw [List.flatMap_append]
theorem abN (l:List Sg):(gV l).length=l.length*5:=by
 induction l with
 |nil=>rfl
 |cons x r ih=>rw [MJ,List.length_append,ih,List.length_cons];simp [YE];omega
theorem abO {p r:List Sg} {x:Sg} {k:Nat} (h:k=p.length):List.drop (Int.toNat (k:Int)*5) (gV (p++x::r))=YE x++gV r:=by
 subst h
 rw [aJ,abM,MJ,← abN,List.drop_left]
def lS (s:Sg) (op:Int) (nm:List UInt8):Bool:=(s.op==op) && ((s.name==nm) && (oV op && (ig s.ty && (!(op==((24:Nat):Int))|| !s.ty.tr))))
def lN (l:List Sg) (op:Int) (nm:List UInt8):Option Ty:=(l.find? fun s=>lS s op nm).map (·.ty)
def zT:Ty:=⟨false,0,0⟩
def Q9 (hit:Sg→Bool) (_:Unit) (s:Sg):Unit ⊕ Option Ty:=if hit s then .inr (some s.ty) else .inl ()
theorem abL (hit:Sg→Bool) (l:List Sg):goL (Q9 hit) (fun _=>none) l ()=(l.find? hit).map (·.ty):=by
 induction l with
 |nil=>rfl
 |cons s r ih=>
  simp only [goL,Q9,List.find?_cons]
  cases h:hit s with
  |true=>simp
  |false=>simpa using ih
def fiE:Option Ty→bI
 |none=> .exit 0
 |some _=> .ret
def iL (l:List Int):List AV:=l.map fun a=> .int .i64 a
theorem Z8 {a:List Int} {i:Nat} (h:i<a.length):List.drop (Int.toNat (i:Int)*1) (iL a)= [AV.int .i64 (a.getD i 0)]++iL (a.drop (i+1)):=by
 unfold iL
 rw [aJ,Nat.mul_one,← List.map_drop,List.drop_eq_getElem_cons h,List.getD_eq_getElem?_getD,List.getElem?_eq_getElem h]
 rfl
abbrev dB (xs:List Int) (nn:Bool) (k:Nat):aZ:=⟨[.sl (iL xs) xs.length nn,.int .i64 (k:Int)],0,false,0,0,true⟩
theorem RI {i:Nat} (h:i<2^62):AV.int .i64 (IntKind.wrap .i64 (((i+1:Nat):Int) - ((1:Nat):Int)))= .int .i64 (i:Int):=by rw [bF]<;>first|(congr 1;omega)|omega
theorem alF (xs:List Int) (nn:Bool) (k n:Nat) (c:lit true (decide ((xs.length:Int)≤(k:Int)))=true):aA prog ap 97 [.ptr 0 0 0,.int .i64 (n:Int)] [⟨[.sl (iL xs) xs.length nn,.int .i64 (k:Int)],0,false,0,0,true⟩] (.ret (.int .i64 0)) [⟨[.sl (iL xs) xs.length nn,.int .i64 (k:Int)],0,false,0,0,true⟩]:=pK [] 1 1 (.c c (.n 2 .nil)) (.nil)
theorem amk {i:Nat} (h:i+1<2^63):AV.int .i64 (IntKind.wrap .i64 ((i:Int)+((1:Nat):Int)))= .int .i64 ((i+1:Nat):Int):=by rw [bF]<;>first|rfl|omega
theorem aml {i:Nat} (h:i+1<2^63):AV.int .i64 (IntKind.wrap .i64 (((i+1:Nat):Int) - ((1:Nat):Int)))= .int .i64 (i:Int):=by rw [bF]<;>first|(congr 1;omega)|omega
theorem alG (xs:List Int) (nn:Bool) (k n r:Nat) (c:k+1<2^63) (d:List.drop ((Int.toNat (k:Int))*1) (iL xs)= [AV.int .i64 (xs.getD k 0)]++iL (xs.drop (k+1))) (h:(decide (((0:Nat):Int)≤(k:Int)))=true) (g:(decide ((k:Int)<(xs.length:Int)))=true) (e:lit false (decide ((xs.length:Int)≤(k:Int)))=true) (f:CO 65 [.int .i64 (xs.getD k 0),.int .i64 (n:Int)] (.ret (.int .i64 (r:Int)))):aA prog ap 97 [.ptr 0 0 0,.int .i64 (n:Int)] [⟨[.sl (iL xs) xs.length nn,.int .i64 (k:Int)],0,false,0,0,true⟩] (.ret (.int .i64 (r:Int))) [⟨[.sl (iL xs) xs.length nn,.int .i64 (((k+1):Nat):Int)],0,false,0,0,true⟩]:=pK [] 1 0 (.k 1 h (.c g (.k 4 e (.n 2 .nil)))) (.c f (.v 31 (.ppt d) (.v 30 (.eq (aml c)) (.v 19 (.eq (amk c)) .nil))))
theorem dw (xs:List Int) (nn:Bool) (k n:Nat) (i:xs.length<2^63) (e:k≤xs.length) (d:0<n) (c:n<1000):∃ r k':Nat,r<n∧k'≤xs.length∧aA prog ap 97 [.ptr 0 0 0,.int .i64 (n:Int)] [dB xs nn k] (.ret (.int .i64 (r:Int))) [dB xs nn k']:=by
 by_cases h:k<xs.length
 ·obtain ⟨r,f,g⟩:=WU (xs.getD k 0) n d c
  exact ⟨r,k+1,f,h,alG xs nn k n r (by omega) (Z8 h) (decide_eq_true (by omega)) (decide_eq_true (by omega)) (by simp [lit];omega) g⟩
 ·exact ⟨0,k,d,e,alF xs nn k n (decide_eq_true (by omega))⟩
theorem aio (x y:Nat) (c:CO 134 [.str (ae x),.int .i64 3] (.ret (.tup [.int .i64 (x:Int),.bool true]))) (e:CO 134 [.str (ae y),.int .i64 4] (.ret (.tup [.int .i64 (y:Int),.bool true]))) (d:CO 79 [.int .i64 (IntKind.wrap .i64 ((x:Int)*(y:Int)))] (.ret (.str (ae (x*y))))):CO 100 [.str (ae x),.str (ae y)] (.ret (.str (ae (x*y)))):=pK [] 2 3 (.n 2 .nil) (.c d (.c e (.c c .nil)))
theorem iy {x:Nat} (h:x<16777216):(ae x).length≤7:=dR (by omega)
theorem ain (x y:Nat) (e:x<65536) (g:y<65536):CO 100 [.str (ae x),.str (ae y)] (.ret (.str (ae (x*y)))):=by
 have i:=iy (x:=x) (by omega)
 have j:=iy (x:=y) (by omega)
 have c:=gG (ae x) 3 (by omega) (by omega) (by rw [aB];omega)
 have d:=gG (ae y) 4 (by omega) (by omega) (by rw [aB];omega)
 rw [aB] at c d
 have h:x*y<65536*65536:=Nat.mul_lt_mul'' e g
 have f:=lC (x*y) (by omega)
 refine aio x y c d ?_
 rw [← Int.natCast_mul,bF (by omega) (by omega)]
 exact f
theorem ai5 (c:Bool) (n k:Nat) (q:RQ) (i:lit false ((ae k)== [])=true) (f:CO 98 [.agg [.bool c,.str (ae n),.str (ae 1)]] (.ret (.agg [.bool c,.str (ae n),.str (ae 1)]))) (h:CO 98 [.agg [.bool false,.str (ae k),.str (ae 1)]] (.ret (.agg [.bool false,.str (ae k),.str (ae 1)]))) (g:CO 100 [.str (ae n),.str (ae 1)] (.ret (.str (ae (n*1))))) (d:CO 100 [.str (ae 1),.str (ae k)] (.ret (.str (ae (1*k))))) (e:CO 99 [.bool (!(c==false)),.str (ae (n*1)),.str (ae (1*k))] (.ret (.agg [.bool q.neg,.str (ae q.n),.str (ae q.d)]))):CO 60 [.agg [.bool c,.str (ae n),.str (ae 1)],.agg [.bool false,.str (ae k),.str (ae 1)]] (.ret (.tup [.agg [.bool q.neg,.str (ae q.n),.str (ae q.d)],.bool true])):=pK [] 1 0 (.k 10 i (.n 9 .nil)) (.c e (.c d (.c g (.c h (.c f .nil)))))
theorem CX {c:Bool} {n:Nat} (h:c=true→0<n):(⟨c,n,1⟩:RQ).ok:=⟨by simp,by simp,h⟩
theorem RF {c:Bool} {n d:Nat} (h:(⟨c,n,d⟩:RQ).ok):vQ c (ae n) (ae d)=⟨c,n,d⟩:=by
 unfold vQ
 rw [if_pos (qi ⟨c,n,d⟩ h),aB,aB]
theorem aaJ {k:Nat} (h:0<k):ae k ≠ []:=by
 intro c
 have:=aB k
 rw [c] at this
 simp [ag] at this
 omega
theorem LY (c:Bool) (n k:Nat) (d:c=true→0<n) (j:n<65536) (p:0<k) (f:k<65536):CO 60 [qA ⟨c,n,1⟩,qA ⟨false,k,1⟩] (.ret (.tup [qA (iq c n k),.bool true])):=by
 have r:=iy (x:=n) (by omega)
 have v:=iy (x:=k) (by omega)
 have q:=iy (x:=1) (by omega)
 have v1:=zi c (ae n) (ae 1) (by omega) (by omega)
 have g:=zi false (ae k) (ae 1) (by omega) (by omega)
 rw [RF (CX d)] at v1
 rw [RF (CX (by simp))] at g
 have m:=ain n 1 j (by omega)
 have o:=ain 1 k (by omega) f
 have u:(ae (n*1)).length≤7:=iy (by omega)
 have t:(ae (1*k)).length≤7:=iy (by omega)
 have i:=zh c (n*1) (1*k) (by omega) (by omega) (by omega)
 rw [Nat.mul_one,Nat.one_mul] at i
 have e:(!(c==false))=c:=by cases c<;>rfl
 have h:=ai5 c n k (iq c n k) (by rw [show (ae k== [])=false by simpa using aaJ p];rfl) v1 g m o
 rw [e,Nat.mul_one,Nat.one_mul] at h
 exact h i
theorem aby (x:Nat) (o:x<1000000):CO 48 [.int .i64 (-((x:Int)+1))] (.ret (T_ true (x+1) 1)):=by
 have c:x<9223372036854775808:=by omega
 have j:=lC x c
 have e:=lC 1 (by omega)
 have n:(ae x).length≤7:=dR (by omega)
 have p:(ae 1).length≤7:=dR (by omega)
 have f:=gG (ae x) 7 (by omega) (by omega) (by rw [aB];omega)
 have i:=gG (ae 1) 7 (by omega) (by omega) (by rw [aB];omega)
 rw [aB] at f i
 have g:=afC (ae x) (ae 1) x 1 (x+1)
 rw [acj (by omega)] at g
 have d:=g f i (lC (x+1) (by omega))
 have h:=aiT (-((x:Int)+1)) (x+1) x
 have k:IntKind.wrap .i64 (-((x:Int)+1)+((1:Nat):Int))= -(x:Int):=by rw [bF]<;>omega
 have m:IntKind.wrap .i64 (0 - -(x:Int))=(x:Int):=by rw [bF]<;>omega
 rw [k,m] at h
 exact h (by simp only [lit,Bool.not_eq_true'];exact decide_eq_false (by omega)) j e d e
def mf (v:Int):RQ:=⟨decide (v<0),v.natAbs,1⟩
theorem kG (v:Int) (h: -1000000≤v) (c:v≤1000000):CO 48 [.int .i64 v] (.ret (qA (mf v))):=by
 by_cases h0:0≤v
 ·obtain ⟨x,rfl⟩:∃ x:Nat,v=(x:Int):=⟨v.toNat,by omega⟩
  have:=LX x (by omega)
  unfold mf
  rw [decide_eq_false (by omega),Int.natAbs_natCast]
  exact this
 ·obtain ⟨x,rfl⟩:∃ x:Nat,v= -((x:Int)+1):=⟨(-v - 1).toNat,by omega⟩
  have:=aby x (by omega)
  unfold mf
  rw [decide_eq_true (by omega),show (-((x:Int)+1)).natAbs=x+1 by omega]
  exact this
theorem ae5 (xs:List Int) (nn:Bool) (k k1 k2 r:Nat) (ls:Int) (q w:RQ) (e:aA prog ap 97 [.ptr 0 0 0,.int .i64 40] [⟨[.sl (iL xs) xs.length nn,.int .i64 (k:Int)],0,false,0,0,true⟩] (.ret (.int .i64 (r:Int))) [⟨[.sl (iL xs) xs.length nn,.int .i64 (k1:Int)],0,false,0,0,true⟩]) (g:CO 48 [.int .i64 (IntKind.wrap .i64 (ls+(r:Int)))] (.ret (.agg [.bool q.neg,.str (ae q.n),.str (ae q.d)]))) (f:aA prog ap 97 [.ptr 0 0 0,.int .i64 4] [⟨[.sl (iL xs) xs.length nn,.int .i64 (k1:Int)],0,false,0,0,true⟩] (.ret (.int .i64 0)) [⟨[.sl (iL xs) xs.length nn,.int .i64 (k2:Int)],0,false,0,0,true⟩]) (c:CO 48 [.int .i64 1] (.ret (.agg [.bool false,.str (ae 1),.str (ae 1)]))) (d:CO 60 [.agg [.bool q.neg,.str (ae q.n),.str (ae q.d)],.agg [.bool false,.str (ae 1),.str (ae 1)]] (.ret (.tup [.agg [.bool w.neg,.str (ae w.n),.str (ae w.d)],.bool true]))):aA prog ap 147 [.ptr 0 0 0,.int .i64 ls] [⟨[.sl (iL xs) xs.length nn,.int .i64 (k:Int)],0,false,0,0,true⟩] (.ret (.agg [.bool w.neg,.str (ae w.n),.str (ae w.d)])) [⟨[.sl (iL xs) xs.length nn,.int .i64 (k2:Int)],0,false,0,0,true⟩]:=pK [] 0 0 (.n 11 .nil) (.c d (.c c (.c f (.c g (.c e .nil)))))
theorem ae6 (xs:List Int) (nn:Bool) (k k1 k2 r:Nat) (ls:Int) (q w:RQ) (e:aA prog ap 97 [.ptr 0 0 0,.int .i64 40] [⟨[.sl (iL xs) xs.length nn,.int .i64 (k:Int)],0,false,0,0,true⟩] (.ret (.int .i64 (r:Int))) [⟨[.sl (iL xs) xs.length nn,.int .i64 (k1:Int)],0,false,0,0,true⟩]) (g:CO 48 [.int .i64 (IntKind.wrap .i64 (ls+(r:Int)))] (.ret (.agg [.bool q.neg,.str (ae q.n),.str (ae q.d)]))) (f:aA prog ap 97 [.ptr 0 0 0,.int .i64 4] [⟨[.sl (iL xs) xs.length nn,.int .i64 (k1:Int)],0,false,0,0,true⟩] (.ret (.int .i64 1)) [⟨[.sl (iL xs) xs.length nn,.int .i64 (k2:Int)],0,false,0,0,true⟩]) (c:CO 48 [.int .i64 1] (.ret (.agg [.bool false,.str (ae 1),.str (ae 1)]))) (d:CO 60 [.agg [.bool q.neg,.str (ae q.n),.str (ae q.d)],.agg [.bool false,.str (ae 1),.str (ae 1)]] (.ret (.tup [.agg [.bool w.neg,.str (ae w.n),.str (ae w.d)],.bool true]))):aA prog ap 147 [.ptr 0 0 0,.int .i64 ls] [⟨[.sl (iL xs) xs.length nn,.int .i64 (k:Int)],0,false,0,0,true⟩] (.ret (.agg [.bool w.neg,.str (ae w.n),.str (ae w.d)])) [⟨[.sl (iL xs) xs.length nn,.int .i64 (k2:Int)],0,false,0,0,true⟩]:=pK [] 0 0 (.n 11 .nil) (.c d (.c c (.c f (.c g (.c e .nil)))))
theorem ae7 (xs:List Int) (nn:Bool) (k k1 k2 r:Nat) (ls:Int) (q w:RQ) (e:aA prog ap 97 [.ptr 0 0 0,.int .i64 40] [⟨[.sl (iL xs) xs.length nn,.int .i64 (k:Int)],0,false,0,0,true⟩] (.ret (.int .i64 (r:Int))) [⟨[.sl (iL xs) xs.length nn,.int .i64 (k1:Int)],0,false,0,0,true⟩]) (g:CO 48 [.int .i64 (IntKind.wrap .i64 (ls+(r:Int)))] (.ret (.agg [.bool q.neg,.str (ae q.n),.str (ae q.d)]))) (f:aA prog ap 97 [.ptr 0 0 0,.int .i64 4] [⟨[.sl (iL xs) xs.length nn,.int .i64 (k1:Int)],0,false,0,0,true⟩] (.ret (.int .i64 2)) [⟨[.sl (iL xs) xs.length nn,.int .i64 (k2:Int)],0,false,0,0,true⟩]) (c:CO 48 [.int .i64 2] (.ret (.agg [.bool false,.str (ae 2),.str (ae 1)]))) (d:CO 60 [.agg [.bool q.neg,.str (ae q.n),.str (ae q.d)],.agg [.bool false,.str (ae 2),.str (ae 1)]] (.ret (.tup [.agg [.bool w.neg,.str (ae w.n),.str (ae w.d)],.bool true]))):aA prog ap 147 [.ptr 0 0 0,.int .i64 ls] [⟨[.sl (iL xs) xs.length nn,.int .i64 (k:Int)],0,false,0,0,true⟩] (.ret (.agg [.bool w.neg,.str (ae w.n),.str (ae w.d)])) [⟨[.sl (iL xs) xs.length nn,.int .i64 (k2:Int)],0,false,0,0,true⟩]:=pK [] 0 0 (.n 11 .nil) (.c d (.c c (.c f (.c g (.c e .nil)))))
theorem ae8 (xs:List Int) (nn:Bool) (k k1 k2 r:Nat) (ls:Int) (q w:RQ) (e:aA prog ap 97 [.ptr 0 0 0,.int .i64 40] [⟨[.sl (iL xs) xs.length nn,.int .i64 (k:Int)],0,false,0,0,true⟩] (.ret (.int .i64 (r:Int))) [⟨[.sl (iL xs) xs.length nn,.int .i64 (k1:Int)],0,false,0,0,true⟩]) (g:CO 48 [.int .i64 (IntKind.wrap .i64 (ls+(r:Int)))] (.ret (.agg [.bool q.neg,.str (ae q.n),.str (ae q.d)]))) (f:aA prog ap 97 [.ptr 0 0 0,.int .i64 4] [⟨[.sl (iL xs) xs.length nn,.int .i64 (k1:Int)],0,false,0,0,true⟩] (.ret (.int .i64 3)) [⟨[.sl (iL xs) xs.length nn,.int .i64 (k2:Int)],0,false,0,0,true⟩]) (c:CO 48 [.int .i64 10] (.ret (.agg [.bool false,.str (ae 10),.str (ae 1)]))) (d:CO 60 [.agg [.bool q.neg,.str (ae q.n),.str (ae q.d)],.agg [.bool false,.str (ae 10),.str (ae 1)]] (.ret (.tup [.agg [.bool w.neg,.str (ae w.n),.str (ae w.d)],.bool true]))):aA prog ap 147 [.ptr 0 0 0,.int .i64 ls] [⟨[.sl (iL xs) xs.length nn,.int .i64 (k:Int)],0,false,0,0,true⟩] (.ret (.agg [.bool w.neg,.str (ae w.n),.str (ae w.d)])) [⟨[.sl (iL xs) xs.length nn,.int .i64 (k2:Int)],0,false,0,0,true⟩]:=pK [] 0 0 (.n 11 .nil) (.c d (.c c (.c f (.c g (.c e .nil)))))
theorem xx (c:Bool) (n d:Nat):(iq c n d).n≤n∧(iq c n d).d≤d:=⟨Nat.div_le_self _ _,Nat.div_le_self _ _⟩
theorem uU (xs:List Int) (nn:Bool) (k:Nat) (z:xs.length<2^63) (D:k≤xs.length) (ls:Int) (E: -8≤ls) (H:ls≤1):∃ (w:RQ) (k':Nat),k'≤xs.length∧w.ok∧w.n<64∧w.d<64∧(ls=1→w.neg=false∧0<w.n)∧aA prog ap 147 [.ptr 0 0 0,.int .i64 ls] [dB xs nn k] (.ret (qA w)) [dB xs nn k']:=by
 obtain ⟨r,k1,I,y,u⟩:=dw xs nn k 40 z D (by omega) (by omega)
 obtain ⟨s,k2,hs,e,o⟩:=dw xs nn k1 4 z y (by omega) (by omega)
 have m:IntKind.wrap .i64 (ls+(r:Int))=ls+(r:Int):=bF (by omega) (by omega)
 have n:=kG (ls+(r:Int)) (by omega) (by omega)
 rw [← m] at n
 have c:(mf (ls+(r:Int))).neg=true→0<(mf (ls+(r:Int))).n:=by
  intro h;simp only [mf,decide_eq_true_eq] at h ⊢;omega
 have v:(mf (ls+(r:Int))).d=1:=rfl
 have F:(mf (ls+(r:Int))).n<64:=by simp only [mf];omega
 have hp:ls=1→(mf (ls+(r:Int))).neg=false∧0<(mf (ls+(r:Int))).n:=by
  intro h;simp only [mf,decide_eq_false_iff_not];omega
 rw [m] at n
 generalize mf (ls+(r:Int))=q at*
 have t:∀ d,0<d→d<64→(iq q.neg q.n d).ok∧(iq q.neg q.n d).n<64∧(iq q.neg q.n d).d<64∧(ls=1→(iq q.neg q.n d).neg=false∧0<(iq q.neg q.n d).n):=by
  intro d hd B
  have G:=xx q.neg q.n d
  refine ⟨mY hd,by omega,by omega,fun h=> ?_⟩
  obtain ⟨C,A⟩:=hp h
  refine ⟨by simp [iq,C], ?_⟩
  exact Nat.div_pos (Nat.gcd_le_left _ A) (Nat.gcd_pos_of_pos_left _ A)
 have p:qA q=qA ⟨q.neg,q.n,1⟩:=by unfold qA;rw [v]
 have this:s=0∨s=1∨s=2∨s=3:=by omega
 rcases this with rfl|rfl|rfl|rfl
 ·obtain ⟨j,f,i,g⟩:=t 1 (by omega) (by omega)
  exact ⟨_,k2,e,j,f,i,g,ae5 xs nn k k1 k2 r ls q _ u (by rw [m];exact n) o (kG 1 (by decide) (by decide)) (by have h:=LY q.neg q.n 1 c (by omega) (by omega) (by omega);rw [← p] at h;exact h)⟩
 ·obtain ⟨j,f,i,g⟩:=t 1 (by omega) (by omega)
  exact ⟨_,k2,e,j,f,i,g,ae6 xs nn k k1 k2 r ls q _ u (by rw [m];exact n) o (kG 1 (by decide) (by decide)) (by have h:=LY q.neg q.n 1 c (by omega) (by omega) (by omega);rw [← p] at h;exact h)⟩
 ·obtain ⟨j,f,i,g⟩:=t 2 (by omega) (by omega)
  exact ⟨_,k2,e,j,f,i,g,ae7 xs nn k k1 k2 r ls q _ u (by rw [m];exact n) o (kG 2 (by decide) (by decide)) (by have h:=LY q.neg q.n 2 c (by omega) (by omega) (by omega);rw [← p] at h;exact h)⟩
 ·obtain ⟨j,f,i,g⟩:=t 10 (by omega) (by omega)
  exact ⟨_,k2,e,j,f,i,g,ae8 xs nn k k1 k2 r ls q _ u (by rw [m];exact n) o (kG 10 (by decide) (by decide)) (by have h:=LY q.neg q.n 10 c (by omega) (by omega) (by omega);rw [← p] at h;exact h)⟩
end Go.Proofs.Tryz
set_option maxRecDepth 100000
set_option linter.unusedVariables false
open Go AM
namespace Go.Proofs.Tryz
def tL (l:List (Int × Int × Int)):List AV:=l.flatMap fun q=> [.int .i64 q.1,.int .i64 q.2.1,.int .i64 q.2.2]
theorem ajS {l:List (Int × Int × Int)} {k:Nat} (h:k<l.length):List.drop (Int.toNat (k:Int)*3) (tL l)= [AV.int .i64 l[k].1,.int .i64 l[k].2.1,.int .i64 l[k].2.2]++tL (l.drop (k+1)):=by
 rw [aJ]
 exact vO (fun q:Int × Int × Int=> [AV.int .i64 q.1,.int .i64 q.2.1,.int .i64 q.2.2]) 3 (fun _=>rfl) h
def LC (a:Int) (n:Nat):Nat:=(a % (n:Int)).toNat
theorem C9 {a:Int} {n:Nat} (h:0<n):LC a n<n:=by
 unfold LC
 have d:=Int.emod_nonneg a (b:=(n:Int)) (by omega)
 have c:=Int.emod_lt_of_pos a (b:=(n:Int)) (by omega)
 omega
theorem aid (a n:Int) (c:lit true (decide ((Int.tmod a n)<((0:Nat):Int)))=true) (d:(!(n==((0:Nat):Int)))=true):CO 61 [.int .i64 a,.int .i64 n] (.ret (.int .i64 (IntKind.wrap .i64 ((Int.tmod a n)+n)))):=pK [] 1 1 (.c c (.c d .nil)) (.nil)
theorem aie (a n:Int) (c:lit false (decide ((Int.tmod a n)<((0:Nat):Int)))=true) (d:(!(n==((0:Nat):Int)))=true):CO 61 [.int .i64 a,.int .i64 n] (.ret (.int .i64 (Int.tmod a n))):=pK [] 1 0 (.c c (.c d .nil)) (.nil)
theorem CZ (a:Int) (n:Nat) (j:0<n) (g:n≤4611686018427387904):CO 61 [.int .i64 a,.int .i64 (n:Int)] (.ret (.int .i64 ((LC a n:Nat):Int))):=by
 have c:(!((n:Int)==((0:Nat):Int)))=true:=by
  rw [beq_eq_false_iff_ne.2 (by omega)];rfl
 have m:=Int.tmod_lt_of_pos a (b:=(n:Int)) (by omega)
 have k: -(n:Int)<Int.tmod a n:=by
  have:=Int.tmod_lt_of_pos (-a) (b:=(n:Int)) (by omega)
  rw [Int.neg_tmod] at this
  omega
 have i:=Int.emod_nonneg a (b:=(n:Int)) (by omega)
 have o:=Int.emod_lt_of_pos a (b:=(n:Int)) (by omega)
 have d:Int.tmod a n % (n:Int)=a % (n:Int):=by
  have e:=Int.mul_tdiv_add_tmod a (n:Int)
  have:a=Int.tmod a n+(n:Int)*(Int.tdiv a n):=by omega
  conv=>rhs;rw [this,Int.add_mul_emod_self_left]
 have f:((LC a n:Nat):Int)=a % (n:Int):=Int.toNat_of_nonneg i
 rw [f]
 by_cases h:Int.tmod a n<0
 ·have hp:=aid a n (by simpa [lit] using h) c
  have e:IntKind.wrap .i64 (Int.tmod a n+(n:Int))=a % (n:Int):=by
   rw [bF (by omega) (by omega)]
   rw [← d,← Int.add_emod_right,Int.emod_eq_of_lt (by omega) (by omega)]
  rw [e] at hp
  exact hp
 ·have hp:=aie a n (by simp only [lit,Bool.not_eq_true',decide_eq_false_iff_not];exact h) c
  have e:Int.tmod a n=a % (n:Int):=by rw [← d,Int.emod_eq_of_lt (by omega) (by omega)]
  rw [e] at hp
  exact hp
def EO (b:RQ × RQ):Br:=⟨b.1.neg,ae b.1.n,ae b.1.d,b.2.neg,ae b.2.n,ae b.2.d⟩
theorem QE:∀ l:List (RQ × RQ),nG (l.map EO)=xU l
 | []=>rfl
 |b::l=>by
  show Sl (EO b)++nG (l.map EO)=PO b++xU l
  rw [QE l];rfl
theorem IC (l:List (RQ × RQ)):(xU l).length=l.length*6:=nX PO 6 (fun _=>rfl) l
def GH (B:Nat) (q:RQ):Prop:=q.ok∧q.n<2^B∧q.d<2^B
theorem ac_ (a b:RQ):(iP a b).n≤a.n*b.d+b.n*a.d∧(iP a b).d≤a.d*b.d:=by
 unfold iP
 split
 ·have:=xx a.neg (a.n*b.d+b.n*a.d) (a.d*b.d);exact this
 ·split
  ·have:=xx a.neg (a.n*b.d - b.n*a.d) (a.d*b.d);exact ⟨by omega,this.2⟩
  ·have:=xx b.neg (b.n*a.d - a.n*b.d) (a.d*b.d);exact ⟨by omega,this.2⟩
theorem fF {x B:Nat} (h:x<2^B) (c:B≤200):(ae x).length<2^28:=Nat.lt_of_le_of_lt (dR (k:=25) (Nat.lt_of_lt_of_le h (Nat.pow_le_pow_right (by decide) (by omega)))) (by decide)
theorem rY {q:RQ} {B:Nat} (h:GH B q) (c:B≤200):jV q=true:=by
 unfold jV
 rw [decide_eq_true (Nat.le_trans (je h.2.1) (by omega)),decide_eq_true (Nat.le_trans (je h.2.2) (by omega))];rfl
theorem Ih:∀ (l:List (RQ × RQ)) (a b:RQ × RQ),jO (l++ [a])→a.1.rt<b.1.rt→jO (l++ [a]++ [b])
 | [],a,b,_,h=> ⟨h,True.intro⟩
 | [x],a,b,hs,h=> ⟨hs.1,h,True.intro⟩
 |x::y::l,a,b,hs,h=> ⟨hs.1,Ih (y::l) a b hs.2 h⟩
theorem Ie:∀ (l:List (RQ × RQ)) (a:RQ × RQ),jO (l++ [a])→jO l
 | [],a,_=>True.intro
 | [x],a,_=>True.intro
 |x::y::l,a,hs=> ⟨hs.1,Ie (y::l) a hs.2⟩
theorem Ig:∀ (l:List (RQ × RQ)) (f r s:RQ),jO (l++ [(f,r)])→jO (l++ [(f,s)])
 | [],_,_,_,_=>True.intro
 | [x],_,_,_,hs=> ⟨hs.1,True.intro⟩
 |x::y::l,f,r,s,hs=> ⟨hs.1,Ig (y::l) f r s hs.2⟩
theorem U3:∀ (l:List (RQ × RQ)) (b:RQ × RQ),(∀ x ∈ b::l,x.1.ok)→jO (b::l)→Gp mW (EO b) (l.map EO)=true
 | [],_,_,_=>rfl
 | c::l,b,ho,hs=>by
  have d:=ho b (by simp)
  have e:=ho c (by simp)
  show Gp mW (EO b) (EO c::l.map EO)=true
  unfold Gp
  have:mW (EO b) (EO c)<0:=by
   show kZ (vQ b.1.neg (ae b.1.n) (ae b.1.d)) (vQ c.1.neg (ae c.1.n) (ae c.1.d))<0
   rw [kM d,kM e]
   exact (CQ d e).1.2 hs.1
  rw [decide_eq_false (by omega)]
  exact U3 l c (fun x f=>ho x (by simp [f])) hs.2
theorem Ui:ry false (ae 0) (ae 1)=0:=by
 rw [dU];rfl
theorem aax {c:RQ} {l:List (RQ × RQ)} (m:l.length≤7) (i:∀ x ∈ (q0,c)::l,GH 200 x.1∧GH 200 x.2) (hs:jO ((q0,c)::l)):JS mW (((q0,c)::l).map EO)=0:=by
 have h:(((q0,c)::l).map EO).all mF=true:=by
  rw [List.all_map,List.all_eq_true]
  intro x d
  obtain ⟨g,f⟩:=i x d
  show (iO x.1.neg (ae x.1.n) (ae x.1.d) && iO x.2.neg (ae x.2.n) (ae x.2.d))=true
  rw [qi _ g.1,qi _ f.1];rfl
 have j:(((q0,c)::l).map EO).all KW=true:=by
  rw [List.all_map,List.all_eq_true]
  intro x d
  obtain ⟨g,f⟩:=i x d
  show (fC x.1.neg (ae x.1.n) (ae x.1.d) && fC x.2.neg (ae x.2.n) (ae x.2.d))=true
  rw [uD g.1,uD f.1,rY g (by omega),rY f (by omega)];rfl
 unfold JS
 have e:(((q0,c)::l).map EO).length=l.length+1:=by simp
 rw [e,decide_eq_false (by omega),show (((l.length+1:Nat):Int)==((0:Nat):Int))=false from beq_eq_false_iff_ne.2 (by omega)]
 have k:=U3 l (q0,c) (fun x d=>(i x d).1.1) hs
 rw [Iy,j]
 show cond (GX mW none (EO (q0,c)::l.map EO)) _ _=_
 rw [Kq,k]
 have h:(EO (q0,c)::l.map EO).all mF=true:=h
 rw [h]
 have:ry (EO (q0,c)).fn (EO (q0,c)).fa (EO (q0,c)).fd=0:=by simp only [EO,q0];exact Ui
 rw [this];rfl
theorem WQ (q:Int × Int × Int) {f:RQ} {B:Nat} (d:GH B f) (T:B≤180):∃ (u v s t:Nat) (w1 w2 w3 w4 r1 r2 f2:RQ),CO 61 [.int .i64 q.1,.int .i64 61] (.ret (.int .i64 (u:Int)))∧CO 48 [.int .i64 (IntKind.wrap .i64 ((u:Int) - ((10:Nat):Int)))] (.ret (.agg [.bool w1.neg,.str (ae w1.n),.str (ae w1.d)]))∧CO 61 [.int .i64 q.2.2,.int .i64 3] (.ret (.int .i64 (v:Int)))∧CO 48 [.int .i64 (IntKind.wrap .i64 ((IntKind.wrap .i64 ((v:Int)*((30:Nat):Int)))+((20:Nat):Int)))] (.ret (.agg [.bool w2.neg,.str (ae w2.n),.str (ae w2.d)]))∧CO 60 [.agg [.bool w1.neg,.str (ae w1.n),.str (ae w1.d)],.agg [.bool w2.neg,.str (ae w2.n),.str (ae w2.d)]] (.ret (.tup [.agg [.bool r1.neg,.str (ae r1.n),.str (ae r1.d)],.bool true]))∧CO 61 [.int .i64 q.2.1,.int .i64 40] (.ret (.int .i64 (s:Int)))∧CO 48 [.int .i64 (IntKind.wrap .i64 ((s:Int)+((1:Nat):Int)))] (.ret (.agg [.bool w3.neg,.str (ae w3.n),.str (ae w3.d)]))∧CO 61 [.int .i64 q.2.2,.int .i64 4] (.ret (.int .i64 (t:Int)))∧CO 48 [.int .i64 (IntKind.wrap .i64 ((t:Int)+((1:Nat):Int)))] (.ret (.agg [.bool w4.neg,.str (ae w4.n),.str (ae w4.d)]))∧CO 60 [.agg [.bool w3.neg,.str (ae w3.n),.str (ae w3.d)],.agg [.bool w4.neg,.str (ae w4.n),.str (ae w4.d)]] (.ret (.tup [.agg [.bool r2.neg,.str (ae r2.n),.str (ae r2.d)],.bool true]))∧CO 62 [.agg [.bool f.neg,.str (ae f.n),.str (ae f.d)],.agg [.bool r2.neg,.str (ae r2.n),.str (ae r2.d)]] (.ret (.agg [.bool f2.neg,.str (ae f2.n),.str (ae f2.d)]))∧GH 16 r1∧GH (B+16) f2∧f.rt<f2.rt:=by
 have O:=C9 (a:=q.1) (n:=61) (by omega)
 have Q:=C9 (a:=q.2.2) (n:=3) (by omega)
 have hs:=C9 (a:=q.2.1) (n:=40) (by omega)
 have N:=C9 (a:=q.2.2) (n:=4) (by omega)
 have M:=CZ q.1 61 (by omega) (by omega)
 have K:=CZ q.2.2 3 (by omega) (by omega)
 have C:=CZ q.2.1 40 (by omega) (by omega)
 have y:=CZ q.2.2 4 (by omega) (by omega)
 generalize LC q.1 61=u at*
 generalize LC q.2.2 3=v at*
 generalize LC q.2.1 40=s at*
 generalize LC q.2.2 4=t at*
 have H:IntKind.wrap .i64 ((u:Int) - ((10:Nat):Int))=(u:Int) - 10:=bF (by omega) (by omega)
 have z:IntKind.wrap .i64 ((v:Int)*((30:Nat):Int))=((v*30:Nat):Int):=(bF (by omega) (by omega)).trans (by omega)
 have J:IntKind.wrap .i64 (((v*30:Nat):Int)+((20:Nat):Int))=((v*30+20:Nat):Int):=(bF (by omega) (by omega)).trans (by omega)
 have G:IntKind.wrap .i64 ((s:Int)+((1:Nat):Int))=((s+1:Nat):Int):=(bF (by omega) (by omega)).trans (by omega)
 have F:IntKind.wrap .i64 ((t:Int)+((1:Nat):Int))=((t+1:Nat):Int):=(bF (by omega) (by omega)).trans (by omega)
 have D:=kG ((u:Int) - 10) (by omega) (by omega)
 have e:(mf ((u:Int) - 10)).neg=true→0<(mf ((u:Int) - 10)).n:=by
  intro h;simp only [mf,decide_eq_true_eq] at h ⊢;omega
 have A:(mf ((u:Int) - 10)).n<64:=by simp only [mf];omega
 have hd:(mf ((u:Int) - 10)).d=1:=rfl
 generalize mf ((u:Int) - 10)=w at*
 obtain ⟨i,k,S⟩:=w
 simp only at e A hd
 subst hd
 have k1:=LY i k (v*30+20) e (by omega) (by omega) (by omega)
 have k2:=LY false (s+1) (t+1) (by simp) (by omega) (by omega) (by omega)
 have R:=xx i k (v*30+20)
 have P:=xx false (s+1) (t+1)
 have o:(iq i k (v*30+20)).ok:=mY (by omega)
 have g:(iq false (s+1) (t+1)).ok:=mY (by omega)
 have a:=ac_ f (iq false (s+1) (t+1))
 have hp:0<(iq false (s+1) (t+1)).rt:=by
  rw [JG _ _ _ (by omega)]
  have m:(0:Rat)<((s+1:Nat):Rat):=by exact_mod_cast Nat.succ_pos s
  have r:(0:Rat)<((t+1:Nat):Rat):=by exact_mod_cast Nat.succ_pos t
  have E:(0:Rat)<((s+1:Nat):Rat) / ((t+1:Nat):Rat):=by rw [Rat.div_def];exact Rat.mul_pos m (Rat.inv_pos.2 r)
  simp only [Bool.false_eq_true,if_false]
  grind
 have j:=XJ d.1 g
 have c:=aa4 f.neg (iq false (s+1) (t+1)).neg (ae f.n) (ae f.d) (ae (iq false (s+1) (t+1)).n) (ae (iq false (s+1) (t+1)).d)
  (Nat.lt_trans (fF d.2.1 (by omega)) (by decide)) (Nat.lt_trans (fF d.2.2 (by omega)) (by decide)) (Nat.lt_trans (fF (B:=16) (by omega) (by omega)) (by decide)) (Nat.lt_trans (fF (B:=16) (by omega) (by omega)) (by decide))
 rw [kM d.1,kM g] at c
 have p:=jD d.1 g
 generalize iq i k (v*30+20)=r1 at*
 generalize iq false (s+1) (t+1)=r2 at*
 generalize iP f r2=f2 at*
 refine ⟨u,v,s,t,⟨i,k,1⟩,⟨false,v*30+20,1⟩,⟨false,s+1,1⟩,⟨false,t+1,1⟩,r1,r2,f2,M, ?_,K, ?_,k1,C, ?_,y, ?_,k2,c,⟨o,by omega,by omega⟩,⟨p, ?_, ?_⟩,by rw [j];grind⟩
 ·rw [H];exact D
 ·rw [z,J];exact LX _ (by omega)
 ·rw [G];exact LX _ (by omega)
 ·rw [F];exact LX _ (by omega)
 ·have m:f.n*r2.d≤f.n*64:=Nat.mul_le_mul_left _ (by omega)
  have r:r2.n*f.d≤64*f.d:=Nat.mul_le_mul_right _ (by omega)
  have E:=d.2.1
  have I:=d.2.2
  rw [Nat.pow_add]
  omega
 ·have m:f.d*r2.d≤f.d*64:=Nat.mul_le_mul_left _ (by omega)
  have I:=d.2.2
  rw [Nat.pow_add]
  omega
def m6E (bs:List (RQ × RQ)):AV:=match bs with| []=> .nilS|_::_=> .ref 3 0 0 bs.length
def m6H (bs:List (RQ × RQ)):Hp:=match bs with| []=> []|_::_=> [(3,⟨xU bs,0,false,0,6,true⟩)]
def m6P (bs:List (RQ × RQ)):Bool:=match bs with| []=>true|_::_=>false
def m6S (ts:List (Int × Int × Int)) (nn:Bool) (p:List (RQ × RQ) × RQ):St:=⟨[(0,.sl (tL ts) ts.length nn),(2,.ptr 0 0 0),(3,.ptr 1 0 0),(4,.ptr 2 0 0),(5,.int .i64 (p.1.length:Int))],[(0,⟨[.str [],.int .i64 0,.int .i64 0,.nilS],0,false,0,0,true⟩),(1,⟨[.str zcc3_3,.int .i64 1,.int .i64 0,m6E p.1],0,false,0,0,m6P p.1⟩),(2,⟨[.bool p.2.neg,.str (ae p.2.n),.str (ae p.2.d)],0,false,0,0,true⟩)]++m6H p.1,.dead,[]⟩
abbrev m6O (bs:List (RQ × RQ)):St:=⟨[(2,.ptr 0 0 0),(3,.ptr 1 0 0)],[(0,⟨[.str [],.int .i64 0,.int .i64 0,.nilS],0,false,0,0,true⟩),(1,⟨[.str zcc3_3,.int .i64 1,.int .i64 0,.ref 2 0 0 bs.length],0,false,0,0,false⟩),(2,⟨xU bs,0,false,0,6,true⟩)],.dead,[]⟩
theorem EH (ts:List (Int × Int × Int)) (nn:Bool) (bs:List (RQ × RQ)) (f:RQ) (h:bs ≠ []):m6S ts nn (bs,f)=⟨[(0,.sl (tL ts) ts.length nn),(2,.ptr 0 0 0),(3,.ptr 1 0 0),(4,.ptr 2 0 0),(5,.int .i64 (bs.length:Int))],[(0,⟨[.str [],.int .i64 0,.int .i64 0,.nilS],0,false,0,0,true⟩),(1,⟨[.str zcc3_3,.int .i64 1,.int .i64 0,.ref 3 0 0 bs.length],0,false,0,0,false⟩),(2,⟨[.bool f.neg,.str (ae f.n),.str (ae f.d)],0,false,0,0,true⟩),(3,⟨xU bs,0,false,0,6,true⟩)],.dead,[]⟩:=by
 cases bs with
 |nil=>exact absurd rfl h
 |cons a r=>rfl
theorem YZ (bs:List (RQ × RQ)) (f r:RQ):List.take (bs.length*6) (xU bs)++ [.bool f.neg,.str (ae f.n),.str (ae f.d),.bool r.neg,.str (ae r.n),.str (ae r.d)]=xU (bs++ [(f,r)]):=by
 rw [List.take_of_length_le (by rw [IC];exact Nat.le_refl _)]
 unfold xU;rw [List.flatMap_append];rfl
theorem WR (ts:List (Int × Int × Int)) (nn:Bool) (bs:List (RQ × RQ)) {f:RQ} {B:Nat} (K:GH B f) (N:B≤180) (O:bs.length<ts.length) (T:bs.length<8):
  ∃ g d,GH 16 g∧GH (B+16) d∧f.rt<d.rt∧∀ nt,78≤nt→au prog ap [] nt (af 0 (ah f30)) (m6S ts nn (bs,f)) .normal (m6S ts nn (bs++ [(f,g)],d)):=by
 have h:=ajS O
 generalize ts[bs.length]=q at h
 obtain ⟨u,v,s,t,S,V,R,U,g,Q,d,E,A,o,C,D,G,p,z,F,y,e,M,H,I⟩:=WQ q K N
 refine ⟨g,d,M,H,I,fun nt w=> ?_⟩
 have c:decide ((bs.length:Int)<(ts.length:Int))=true:=decide_eq_true (by omega)
 have n:decide ((bs.length:Int)<((8:Nat):Int))=true:=decide_eq_true (by omega)
 have i:AV.int .i64 (IntKind.wrap .i64 ((bs.length:Int)+((1:Nat):Int)))=AV.int .i64 ((bs.length+1:Nat):Int):=Ci (by omega)
 have j:=c
 rw [EH ts nn (bs++ [(f,g)]) d (by simp),List.length_append,List.length_singleton]
 have J:Nat.ble (bs.length+1) 1099511627776=true:=Nat.ble_eq_true_of_le (by omega)
 have P:Nat.ble (bs.length*6) (List.length (xU bs))=true:=Nat.ble_eq_true_of_le (by rw [IC];exact Nat.le_refl _)
 rw [← YZ]
 cases m:bs with
 |nil=>
  rw [m] at c n i j h
  exact pN 30 [] 5 15 (.k 36 (nJ 0) (.c j (.c (aG c) (.k 2 (aG n) (.c (aG c) .nil))))) (.v 27 (.eq i) (.c e (.c y (.c F (.c z (.c p (.c G (.c D (.c C (.c o (.c A (.c E (.v 35 (.ppt h) .nil))))))))))))) w
 |cons a r=>
  rw [← m,EH ts nn bs f (by rw [m];simp)]
  generalize bs.length=k at*
  exact pN 30 [] 4 15 (.k 16 J (.c P (.k 19 (nJ k) (.c j (.c (aG c) (.k 2 (aG n) (.c (aG c) .nil))))))) (.v 27 (.eq i) (.c e (.c y (.c F (.c z (.c p (.c G (.c D (.c C (.c o (.c A (.c E (.v 35 (.ppt h) .nil))))))))))))) w
theorem aaw (ts:List (Int × Int × Int)) (nn:Bool) (J:ts.length≤8):∀ (d:Nat) (bs:List (RQ × RQ)) (f i:RQ),bs.length+d=ts.length→0<ts.length→GH (16*(bs.length+1)) f→(∀ x ∈ bs,GH 200 x.1∧GH 200 x.2)→jO (bs++ [(f,i)])→(bs.map (·.1)++ [f]).head? =some q0→
  ∃ c:List (RQ × RQ),c.length=ts.length∧(∀ x ∈ c,GH 200 x.1∧GH 200 x.2)∧jO c∧(c.map (·.1)).head? =some q0∧∀ nt,78≤nt→aI prog ap [] nt (af 0 (ah f30)) (fun _=> .exit 0) (m6S ts nn) m6O (bs,f) c:=by
 intro d
 induction d with
 | zero=>
  intro bs f i hd p n k hs g
  refine ⟨bs,by omega,k,Ie _ _ hs, ?_,fun nt j=> ?_⟩
  ·cases bs with
   |nil=>simp at hd;omega
   |cons a r=>simpa using g
  ·refine .done ?_
   have m:bs ≠ []:=by intro h;rw [h] at hd;simp at hd;omega
   have C:decide ((bs.length:Int)<(ts.length:Int))=false:=decide_eq_false (by omega)
   have y:((bs.length:Int)==((0:Nat):Int))=false:=beq_eq_false_iff_ne.2 (by omega)
   rw [EH ts nn bs f m]
   exact pN 30 [] 3 0 (.c (aF y) (.k 1 (aF C) .nil)) (.nil) j
 | succ d ih=>
  intro bs f i hd p n k hs g
  obtain ⟨v,F,D,u,G,B⟩:=WR ts nn bs n (by omega) (by omega) (by omega)
  have t:∀ {A:Nat} {q:RQ},GH A q→A≤200→GH 200 q:=fun h o=> ⟨h.1,Nat.lt_of_lt_of_le h.2.1 (Nat.pow_le_pow_right (by decide) o),Nat.lt_of_lt_of_le h.2.2 (Nat.pow_le_pow_right (by decide) o)⟩
  obtain ⟨c,z,w,H,E,I⟩:=ih (bs++ [(f,v)]) F i (by simp;omega) p (by
   rw [List.length_append,List.length_singleton,show 16*(bs.length+1+1)=16*(bs.length+1)+16 by omega];exact u) (by
   intro x e
   rcases List.mem_append.1 e with e|e
   ·exact k x e
   ·rw [List.mem_singleton] at e
    subst e
    exact ⟨t n (by omega),t D (by omega)⟩) (Ih _ _ _ (Ig _ _ _ _ hs) G) (by
   rw [List.map_append]
   cases bs with
   |nil=>exact g
   |cons a r=>exact g)
  exact ⟨c,z,w,H,E,fun nt j=> .next (B nt j) (I nt j)⟩
theorem aif (ts:List (Int × Int × Int)) (nn:Bool) (f:RQ) (bs:List (RQ × RQ)) (c:CO 48 [.int .i64 0] (.ret (.agg [.bool f.neg,.str (ae f.n),.str (ae f.d)]))) (d:aK prog ap [] 78 (.block 0 (.loop (af 0 (ah f30)))) ⟨[(0,.sl (tL ts) ts.length nn),(2,.ptr 0 0 0),(3,.ptr 1 0 0),(4,.ptr 2 0 0),(5,.int .i64 0),(6,.dead),(7,.dead),(9,.dead),(25,.dead),(32,.dead)],[(0,⟨[.str [],.int .i64 0,.int .i64 0,.nilS],0,false,0,0,true⟩),(1,⟨[.str zcc3_3,.int .i64 1,.int .i64 0,.nilS],0,false,0,0,true⟩),(2,⟨[.bool f.neg,.str (ae f.n),.str (ae f.d)],0,false,0,0,true⟩)],.dead,[]⟩ (.normal) ⟨[(2,.ptr 0 0 0),(3,.ptr 1 0 0)],[(0,⟨[.str [],.int .i64 0,.int .i64 0,.nilS],0,false,0,0,true⟩),(1,⟨[.str zcc3_3,.int .i64 1,.int .i64 0,.ref 2 0 0 bs.length],0,false,0,0,false⟩),(2,⟨(xU bs),0,false,0,6,true⟩)],.dead,[]⟩):CO 30 [.sl (tL ts) ts.length nn] (.ret (.agg [.str zcc3_3,.int .i64 1,.int .i64 0,.sl (List.take (bs.length*6) (xU bs)) bs.length true])):=pK [0] 0 0 (.n 11 .nil) (.l d (.c c .nil))
theorem TB (ts:List (Int × Int × Int)) (nn:Bool) (k:0<ts.length) (p:ts.length≤8):∃ bs:List Br,bs.length=ts.length∧(∀ b ∈ bs,b.s28)∧JS mW bs=0∧CO 30 [.sl (tL ts) ts.length nn] (.ret (.agg [.str zcc3_3,.int .i64 1,.int .i64 0,.sl (nG bs) bs.length true])):=by
 have z:GH (16*(([]:List (RQ × RQ)).length+1)) q0:=⟨QQ,by decide,by decide⟩
 obtain ⟨bs,c,d,q,e,g⟩:=aaw ts nn p ts.length [] q0 q0 (by simp) k z (by simp) True.intro rfl
 refine ⟨bs.map EO,by simpa using c, ?_, ?_, ?_⟩
 ·intro b n
  obtain ⟨x,j,rfl⟩:=List.mem_map.1 n
  obtain ⟨⟨_,f,o⟩,⟨_,i,m⟩⟩:=d x j
  exact ⟨⟨fF f (by omega),fF o (by omega)⟩,fF i (by omega),fF m (by omega)⟩
 ·cases bs with
  |nil=>simp at c;omega
  |cons a r=>
   obtain ⟨t,f⟩:=a
   simp only [List.map_cons,List.head?_cons,Option.some.injEq] at e
   subst e
   simp only [List.length_cons] at c
   exact aax (by omega) d q
 ·rw [QE,List.length_map]
  have h:=aif ts nn q0 bs (LX 0 (by omega)) (aI.blk g (by simp) rfl (aO.of ⟨rfl,rfl,rfl,rfl,rfl,trivial⟩) (aO.refl _))
  rw [List.take_of_length_le (by rw [IC];exact Nat.le_refl _)] at h
  exact h
def alZ (qs:List (Int × Int × Int)):AV:=match qs with| []=> .nilS|_::_=> .ref 3 0 0 qs.length
def al0 (qs:List (Int × Int × Int)):Hp:=match qs with| []=> []|_::_=> [(3,⟨tL qs,0,false,0,3,true⟩)]
abbrev ajI (s:Sg) (xs:List Int) (nn:Bool) (n:Nat) (p:Nat × List (Int × Int × Int)):St:=⟨[(1,.ptr 0 0 0),(2,.ptr 1 0 0),(4,.ptr 2 0 0),(5,alZ p.2),(6,.int .i64 (n:Int)),(7,.int .i64 (p.2.length:Int))],[(0,dB xs nn p.1),(1,⟨[.int .i64 s.op,.str s.name,.bool s.ty.tr,.int .i64 s.ty.m,.int .i64 s.ty.d],0,false,0,0,true⟩),(2,⟨[.str [],.int .i64 0,.int .i64 0,.nilS],0,false,0,0,true⟩)]++al0 p.2,.dead,[]⟩
abbrev afG (s:Sg) (xs:List Int) (nn:Bool) (p:Nat × List (Int × Int × Int)):St:=⟨[(2,.ptr 1 0 0),(4,.ptr 2 0 0),(5,.ref 3 0 0 p.2.length)],[(0,dB xs nn p.1),(1,⟨[.int .i64 s.op,.str s.name,.bool s.ty.tr,.int .i64 s.ty.m,.int .i64 s.ty.d],0,false,0,0,true⟩),(2,⟨[.str [],.int .i64 0,.int .i64 0,.nilS],0,false,0,0,true⟩),(3,⟨tL p.2,0,false,0,3,true⟩)],.dead,[]⟩
theorem AB (s:Sg) (xs:List Int) (nn:Bool) (n k:Nat) (qs:List (Int × Int × Int)) (h:qs ≠ []):ajI s xs nn n (k,qs)=⟨[(1,.ptr 0 0 0),(2,.ptr 1 0 0),(4,.ptr 2 0 0),(5,.ref 3 0 0 qs.length),(6,.int .i64 (n:Int)),(7,.int .i64 (qs.length:Int))],[(0,dB xs nn k),(1,⟨[.int .i64 s.op,.str s.name,.bool s.ty.tr,.int .i64 s.ty.m,.int .i64 s.ty.d],0,false,0,0,true⟩),(2,⟨[.str [],.int .i64 0,.int .i64 0,.nilS],0,false,0,0,true⟩),(3,⟨tL qs,0,false,0,3,true⟩)],.dead,[]⟩:=by
 cases qs with
 |nil=>exact absurd rfl h
 |cons a r=>rfl
theorem Pm (l:List (Int × Int × Int)):(tL l).length=l.length*3:=nX (fun q:Int × Int × Int=> [AV.int .i64 q.1,.int .i64 q.2.1,.int .i64 q.2.2]) 3 (fun _=>rfl) l
theorem abX (qs:List (Int × Int × Int)) (a b c:Int):List.take (qs.length*3) (tL qs)++ [.int .i64 a,.int .i64 b,.int .i64 c]=tL (qs++ [(a,b,c)]):=by
 rw [List.take_of_length_le (by rw [Pm];exact Nat.le_refl _)]
 unfold tL;rw [List.flatMap_append];rfl
theorem XV (s:Sg) (xs:List Int) (nn:Bool) (k0 n:Nat) (t:xs.length<2^63) (E:n≤8) (K:0<n):∀ (d k:Nat) (qs:List (Int × Int × Int)),qs.length+d=n→k≤xs.length→
  ∃ (f:Nat) (c:List (Int × Int × Int)),f≤xs.length∧c.length=n∧∀ nt,37≤nt→aI prog ap [dB xs nn k0] nt (af 0 (ah f96)) (fun _=> .exit 0) (ajI s xs nn n) (afG s xs nn) (k,qs) (f,c):=by
 intro d
 induction d with
 |zero=>
  intro k qs hd u
  refine ⟨k,qs,u,by omega,fun nt e=> .done ?_⟩
  have w:decide ((qs.length:Int)<(n:Int))=false:=decide_eq_false (by omega)
  rw [AB s xs nn n k qs (by intro h;rw [h] at hd;simp at hd;omega)]
  generalize C:qs.length=j at w
  show au _ _ _ _ _ _ _ (afG s xs nn (k,qs))
  unfold afG
  rw [C]
  exact pN 96 [] 1 0 (.c (aF w) .nil) (.nil) e
 | succ d ih=>
  intro k qs hd u
  obtain ⟨D,k1,_,m,z⟩:=dw xs nn k 61 t u (by omega) (by omega)
  obtain ⟨H,k2,_,g,y⟩:=dw xs nn k1 40 t m (by omega) (by omega)
  obtain ⟨A,k3,_,p,v⟩:=dw xs nn k2 12 t g (by omega) (by omega)
  obtain ⟨f,c,B,I,F⟩:=ih k3 (qs++ [((D:Int),(H:Int),(A:Int))]) (by simp;omega) p
  refine ⟨f,c,B,I,fun nt e=> .next ?_ (F nt e)⟩
  have q:decide ((qs.length:Int)<(n:Int))=true:=decide_eq_true (by omega)
  have o:AV.int .i64 (IntKind.wrap .i64 ((qs.length:Int)+((1:Nat):Int)))=AV.int .i64 ((qs.length+1:Nat):Int):=Ci (by omega)
  have G:Nat.ble (qs.length+1) 1099511627776=true:=Nat.ble_eq_true_of_le (by omega)
  have J:Nat.ble (qs.length*3) (List.length (tL qs))=true:=Nat.ble_eq_true_of_le (by rw [Pm];exact Nat.le_refl _)
  rw [AB s xs nn n k3 _ (by simp),List.length_append,List.length_singleton,← abX]
  cases i:qs with
  |nil=>
   rw [i] at q o
   exact pN 96 [] 2 1 (.k 3 (aG q) .nil) (.v 16 (.eq o) (.c v (.c y (.c z .nil)))) e
  |cons a r=>
   rw [← i,AB s xs nn n k qs (by rw [i];simp)]
   exact pN 96 [] 1 1 (.k 1 G (.c J (.k 1 (aG q) .nil))) (.v 16 (.eq o) (.c v (.c y (.c z .nil)))) e
theorem afF (s:Sg) (xs:List Int) (nn:Bool) (k k1 k2 c:Nat) (qs:List (Int × Int × Int)) (bs:List Br) (d:AV.int .i64 (IntKind.wrap .i64 (((1:Nat):Int)+(c:Int)))= .int .i64 (((1+c):Nat):Int)) (e:aA prog ap 97 [.ptr 0 0 0,.int .i64 4] [⟨[.sl (iL xs) xs.length nn,.int .i64 (k:Int)],0,false,0,0,true⟩] (.ret (.int .i64 (c:Int))) [⟨[.sl (iL xs) xs.length nn,.int .i64 (k1:Int)],0,false,0,0,true⟩]) (g:aK prog ap [⟨[.sl (iL xs) xs.length nn,.int .i64 (k:Int)],0,false,0,0,true⟩] 37 (.block 0 (.loop (af 0 (ah f96)))) ⟨[(0,.agg [.int .i64 s.op,.str s.name,.bool s.ty.tr,.int .i64 s.ty.m,.int .i64 s.ty.d]),(1,.ptr 0 0 0),(2,.ptr 1 0 0),(4,.ptr 2 0 0),(5,.nilS),(6,.int .i64 (((1+c):Nat):Int)),(7,.int .i64 0),(8,.dead),(14,.dead)],[(0,⟨[.sl (iL xs) xs.length nn,.int .i64 (k1:Int)],0,false,0,0,true⟩),(1,⟨[.int .i64 s.op,.str s.name,.bool s.ty.tr,.int .i64 s.ty.m,.int .i64 s.ty.d],0,false,0,0,true⟩),(2,⟨[.str [],.int .i64 0,.int .i64 0,.nilS],0,false,0,0,true⟩)],.dead,[]⟩ (.normal) ⟨[(2,.ptr 1 0 0),(4,.ptr 2 0 0),(5,.ref 3 0 0 qs.length)],[(0,⟨[.sl (iL xs) xs.length nn,.int .i64 (k2:Int)],0,false,0,0,true⟩),(1,⟨[.int .i64 s.op,.str s.name,.bool s.ty.tr,.int .i64 s.ty.m,.int .i64 s.ty.d],0,false,0,0,true⟩),(2,⟨[.str [],.int .i64 0,.int .i64 0,.nilS],0,false,0,0,true⟩),(3,⟨(tL qs),0,false,0,3,true⟩)],.dead,[]⟩) (f:CO 30 [.sl (List.take (qs.length*3) (tL qs)) qs.length true] (.ret (.agg [.str zcc3_3,.int .i64 1,.int .i64 0,.sl (nG bs) bs.length true]))):aA prog ap 96 [.agg [.int .i64 s.op,.str s.name,.bool s.ty.tr,.int .i64 s.ty.m,.int .i64 s.ty.d],.ptr 0 0 0] [⟨[.sl (iL xs) xs.length nn,.int .i64 (k:Int)],0,false,0,0,true⟩] (.ret (.agg [.str s.name,.int .i64 s.ty.m,.int .i64 s.ty.d,.sl (nG bs) bs.length true])) [⟨[.sl (iL xs) xs.length nn,.int .i64 (k2:Int)],0,false,0,0,true⟩]:=pK [0] 0 0 (.n 15 .nil) (.c f (.l g (.v 11 (.eq d) (.c e .nil))))
theorem XW (s:Sg) (xs:List Int) (nn:Bool) (k:Nat) (f:xs.length<2^63) (o:k≤xs.length):∃ (bs:List Br) (k':Nat),k'≤xs.length∧bs.length≤8∧(∀ b ∈ bs,b.s28)∧JS mW bs=0∧
  aA prog ap 96 [.agg (YE s),.ptr 0 0 0] [dB xs nn k] (.ret (.agg [.str s.name,.int .i64 s.ty.m,.int .i64 s.ty.d,.sl (nG bs) bs.length false])) [dB xs nn k']:=by
 obtain ⟨c,k1,r,e,m⟩:=dw xs nn k 4 f o (by omega) (by omega)
 obtain ⟨k2,qs,i,q,p⟩:=XV s xs nn k (1+c) f (by omega) (by omega) (1+c) k1 [] (by simp) e
 obtain ⟨bs,t,g,n,j⟩:=TB qs true (by omega) (by omega)
 refine ⟨bs,k2,i,by omega,g,n, ?_⟩
 have h:AV.int .i64 (IntKind.wrap .i64 (((1:Nat):Int)+(c:Int)))= .int .i64 (((1+c):Nat):Int):=by
  congr 1;exact (bF (by omega) (by omega)).trans (by omega)
 have d:List.take (qs.length*3) (tL qs)=tL qs:=List.take_of_length_le (by rw [Pm];exact Nat.le_refl _)
 exact aA.out (jm.ret rfl rfl (aU.agg (.cons (aU.refl _) (.cons (aU.refl _) (.cons (aU.refl _) (.cons (aU.sl _ _ _) .nil)))))) (afF s xs nn k k1 k2 c qs bs h m (aI.blk p (by simp) rfl (aO.of ⟨rfl,rfl,rfl,rfl,rfl,rfl,trivial⟩) (aO.refl _)) (by rw [d];exact j))
end Go.Proofs.Tryz
set_option maxRecDepth 100000
open Go AM
namespace Go.Proofs.Tryz
theorem rf (op:Int):CO 208 [.int .i64 op] (.ret (.bool (oV op))):=by
 rcases tf (decide (((5:Nat):Int)≤op)) with b0|b0
 ·rcases tf (decide (op≤((8:Nat):Int))) with b1|b1
  ·have e:oV op=true:=by
    simp only [decide_eq_true_eq,decide_eq_false_iff_not,beq_iff_eq,beq_eq_false_iff_ne] at*
    unfold oV;first|(rw [decide_eq_true_eq];omega)|(rw [Bool.eq_iff_iff];simp only [decide_eq_true_eq,beq_iff_eq];omega)
   rw [e]
   exact pK [] 2 3 (.c (aG b1) (.c (aG b0) .nil)) (.nil)
  ·have e:oV op=(op==((24:Nat):Int)):=by
    simp only [decide_eq_true_eq,decide_eq_false_iff_not,beq_iff_eq,beq_eq_false_iff_ne] at*
    unfold oV;first|(rw [decide_eq_true_eq];omega)|(rw [Bool.eq_iff_iff];simp only [decide_eq_true_eq,beq_iff_eq];omega)
   rw [e]
   exact pK [] 2 1 (.c (aF b1) (.c (aG b0) .nil)) (.nil)
 ·have e:oV op=(op==((24:Nat):Int)):=by
   simp only [decide_eq_true_eq,decide_eq_false_iff_not,beq_iff_eq,beq_eq_false_iff_ne] at*
   unfold oV;first|(rw [decide_eq_true_eq];omega)|(rw [Bool.eq_iff_iff];simp only [decide_eq_true_eq,beq_iff_eq];omega)
  rw [e]
  exact pK [] 2 0 (.k 1 (aF b0) .nil) (.nil)
def Tf (l:List Sg) (nn:Bool) (op:Int) (nm:List UInt8) (p:Nat × Unit):St:=⟨[(0,.sl (gV l) l.length nn),(1,.int .i64 op),(2,.str nm),(6,.ptr 0 0 0),(8,.int .i64 (p.1:Int))],[(0,⟨[.bool false,.int .i64 0,.int .i64 0],0,false,0,0,true⟩)],.dead,[]⟩
def Qj:Option Ty→St
 |none=> ⟨[(6,.ptr 0 0 0)],[(0,⟨[.bool false,.int .i64 0,.int .i64 0],0,false,0,0,true⟩)],.dead,[]⟩
 |some t=> ⟨[(6,.ptr 0 0 0),(7,.bool true)],[(0,⟨[.bool t.tr,.int .i64 t.m,.int .i64 t.d],0,false,0,0,true⟩)],.dead,[]⟩
theorem ZV {nt:Nat} (f:52≤nt) (l:List Sg) (nn:Bool) (op:Int) (nm:List UInt8) (o:l.length<2^40):aI prog ap [] nt (af 0 (ah f183)) fiE (Tf l nn op nm) (Qj) (0,()) ((l.find? fun s=>lS s op nm).map (·.ty)):=by
 rw [← abL]
 refine aI.goL (Q9 fun s=>lS s op nm) (fun _=>none) l (fun _ _=>True) ?_ ?_ l [] () rfl trivial
 ·intro p s r _ n _
  have key:match lS s op nm with
   |true=>au prog ap [] nt (af 0 (ah f183)) (Tf l nn op nm (p.length,())) .ret (Qj (some s.ty))
   |false=>au prog ap [] nt (af 0 (ah f183)) (Tf l nn op nm (p.length,())) .normal (Tf l nn op nm (p.length+1,())):=by
   have d:List.drop (Int.toNat (p.length:Int)*5) (gV l)=YE s++gV r:=by rw [n];exact abO rfl
   have m:p.length+(r.length+1)=l.length:=by rw [n];simp
   generalize p.length=k at*
   have i:k<2^62:=by omega
   have h:decide (((0:Nat):Int)≤(k:Int))=true:=decide_eq_true (by omega)
   have e:decide ((k:Int)<(l.length:Int))=true:=decide_eq_true (by omega)
   have g:=e
   rcases tf (s.op==op) with c|c
   ·rcases tf (s.name==nm) with b1|b1
    ·rcases tf (oV op) with b2|b2
     ·rcases tf (ig s.ty) with b3|b3
      ·rcases tf (op==((24:Nat):Int)) with b4|b4
       ·rcases tf s.ty.tr with b5|b5
        ·rw [show lS s op nm=false by simp only [lS,c,b1,b2,b3,b4,b5]<;>rfl]
         exact pN 183 [] 7 31 (.c (aW b5) (.k 1 (aW b4) (.c (aG b3) (.k 3 (aG b2) (.c (aG b1) (.k 1 (aG c) (.k 7 h (.c e (.c (aG g) .nil))))))))) (.v 15 (.eq (Ci i)) (.c (sV s.ty) (.c (rf op) (.v 18 (.ppt d) .nil)))) f
        ·rw [show lS s op nm=true by simp only [lS,c,b1,b2,b3,b4,b5]<;>rfl]
         exact pN 183 [] 7 95 (.k 4 (d_ b5) (.k 1 (aW b4) (.c (aG b3) (.k 3 (aG b2) (.c (aG b1) (.k 1 (aG c) (.k 7 h (.c e (.c (aG g) .nil))))))))) (.c (sV s.ty) (.c (rf op) (.v 18 (.ppt d) .nil))) f
       ·rw [show lS s op nm=true by simp only [lS,c,b1,b2,b3,b4]<;>rfl]
        exact pN 183 [] 7 127 (.k 5 (d_ b4) (.c (aG b3) (.k 3 (aG b2) (.c (aG b1) (.k 1 (aG c) (.k 7 h (.c e (.c (aG g) .nil)))))))) (.c (sV s.ty) (.c (rf op) (.v 18 (.ppt d) .nil))) f
      ·rw [show lS s op nm=false by simp only [lS,c,b1,b2,b3]<;>rfl]
       exact pN 183 [] 6 15 (.k 1 (aF b3) (.k 3 (aG b2) (.c (aG b1) (.k 1 (aG c) (.k 7 h (.c e (.c (aG g) .nil))))))) (.v 15 (.eq (Ci i)) (.c (sV s.ty) (.c (rf op) (.v 18 (.ppt d) .nil)))) f
     ·rw [show lS s op nm=false by simp only [lS,c,b1,b2]<;>rfl]
      exact pN 183 [] 6 7 (.k 2 (aF b2) (.c (aG b1) (.k 1 (aG c) (.k 7 h (.c e (.c (aG g) .nil)))))) (.v 15 (.eq (Ci i)) (.c (rf op) (.v 18 (.ppt d) .nil))) f
    ·rw [show lS s op nm=false by simp only [lS,c,b1]<;>rfl]
     exact pN 183 [] 6 3 (.k 3 (aF b1) (.k 1 (aG c) (.k 7 h (.c e (.c (aG g) .nil))))) (.v 15 (.eq (Ci i)) (.v 18 (.ppt d) .nil)) f
   ·rw [show lS s op nm=false by simp only [lS,c]<;>rfl]
    exact pN 183 [] 6 1 (.k 4 (aF c) (.k 7 h (.c e (.c (aG g) .nil)))) (.v 15 (.eq (Ci i)) (.v 18 (.ppt d) .nil)) f
  unfold Q9
  cases j:lS s op nm with
  |true=>rw [j] at key;simp only [j,if_true];exact key
  |false=>rw [j] at key;simp only [j,Bool.false_eq_true,if_false];exact ⟨key,trivial⟩
 ·intro _ _
  have c:decide ((l.length:Int)<(l.length:Int))=false:=decide_eq_false (by omega)
  exact pN 183 [] 1 0 (.c (aF c) .nil) (.nil) f
theorem ahP (l:List Sg) (nn:Bool) (op:Int) (nm:List UInt8) (c:aK prog ap [] 52 (.block 0 (.loop (af 0 (ah f183)))) ⟨[(0,.sl (gV l) l.length nn),(1,.int .i64 op),(2,.str nm),(6,.ptr 0 0 0),(7,.bool false),(8,.int .i64 0),(9,.dead),(13,.dead),(48,.dead)],[(0,⟨[.bool false,.int .i64 0,.int .i64 0],0,false,0,0,true⟩)],.dead,[]⟩ (.normal) ⟨[(6,.ptr 0 0 0)],[(0,⟨[.bool false,.int .i64 0,.int .i64 0],0,false,0,0,true⟩)],.dead,[]⟩):CO 183 [.sl (gV l) l.length nn,.int .i64 op,.str nm] (.ret (.tup [.agg [.bool false,.int .i64 0,.int .i64 0],.bool false])):=pK [0] 0 0 (.n 4 .nil) (.l c .nil)
theorem ahQ (l:List Sg) (nn:Bool) (op:Int) (nm:List UInt8) (t:Ty) (c:aK prog ap [] 52 (.block 0 (.loop (af 0 (ah f183)))) ⟨[(0,.sl (gV l) l.length nn),(1,.int .i64 op),(2,.str nm),(6,.ptr 0 0 0),(7,.bool false),(8,.int .i64 0),(9,.dead),(13,.dead),(48,.dead)],[(0,⟨[.bool false,.int .i64 0,.int .i64 0],0,false,0,0,true⟩)],.dead,[]⟩ (.ret) ⟨[(6,.ptr 0 0 0),(7,.bool true)],[(0,⟨[.bool t.tr,.int .i64 t.m,.int .i64 t.d],0,false,0,0,true⟩)],.dead,[]⟩):CO 183 [.sl (gV l) l.length nn,.int .i64 op,.str nm] (.ret (.tup [.agg [.bool t.tr,.int .i64 t.m,.int .i64 t.d],.bool true])):=pK [0] 0 0 (.n 3 .nil) (.l c .nil)
theorem eU (l:List Sg) (nn:Bool) (op:Int) (nm:List UInt8) (e:l.length<2^40):CO 183 [.sl (gV l) l.length nn,.int .i64 op,.str nm] (.ret (.tup [.agg (ug ((lN l op nm).getD zT)),.bool (lN l op nm).isSome])):=by
 have hloop:=fun nt (hn:52≤nt)=>ZV hn l nn op nm e
 unfold lN
 cases f:(l.find? fun s=>lS s op nm).map (·.ty) with
 |none=>
  rw [f] at hloop
  have d:=aI.blk (id:=0) (e':= .normal) (s:=Tf l nn op nm (0,())) (s':=Qj none) hloop (by simp [fiE]) rfl (aO.refl _) (aO.refl _)
  exact ahP l nn op nm (fun nt c=>(d nt c).weak (aO.of ⟨rfl,rfl,rfl,rfl,rfl,trivial⟩) (aO.refl _))
 |some t=>
  rw [f] at hloop
  have d:=aI.blk (id:=0) (e':= .ret) (s:=Tf l nn op nm (0,())) (s':=Qj (some t)) hloop (by simp [fiE]) rfl (aO.refl _) (aO.refl _)
  exact ahQ l nn op nm t (fun nt c=>(d nt c).weak (aO.of ⟨rfl,rfl,rfl,rfl,rfl,trivial⟩) (aO.refl _))
def N8 (a b:Ty):Bool:=((a.tr==b.tr) && ((a.m==b.m) && ((a.d==b.d) && true)))
def uO (ts:List Ty):Bool:=ts.all fun t=> !t.tr
def MB:Nat→Ty→List Ty→Bool × Ty
 |1,_,[]=>(true,⟨false,1,0⟩)
 |2,_,[]=>(true,⟨false,0,1⟩)
 |3,_,[]=>(true,⟨false,0,0⟩)
 |4,_,[]=>(true,⟨true,0,0⟩)
 |5,sg,[]=>(true,sg)
 |6,sg,[]=>(true,sg)
 |7,sg,[]=>(true,sg)
 |8,sg,[]=>(true,sg)
 |9,_,[a,b]=>(N8 a b && uO [a,b],a)
 |10,_,[a,b]=>(N8 a b && uO [a,b],a)
 |11,_,[a,b]=>(uO [a,b] && ig ⟨false,IntKind.wrap .i64 (a.m+b.m),IntKind.wrap .i64 (a.d+b.d)⟩,⟨false,IntKind.wrap .i64 (a.m+b.m),IntKind.wrap .i64 (a.d+b.d)⟩)
 |12,_,[a,b]=>(uO [a,b] && ig ⟨false,IntKind.wrap .i64 (a.m - b.m),IntKind.wrap .i64 (a.d - b.d)⟩,⟨false,IntKind.wrap .i64 (a.m - b.m),IntKind.wrap .i64 (a.d - b.d)⟩)
 |13,_,[a,b]=>(N8 a b && uO [a,b],a)
 |14,_,[a,b]=>(N8 a b && uO [a,b],a)
 |15,_,[a,b,c]=>(a.tr && N8 b c,b)
 |16,_,[a,b]=>(N8 a b && uO [a,b],⟨true,0,0⟩)
 |17,_,[a,b]=>(N8 a b,⟨true,0,0⟩)
 |18,_,[a,b]=>(a.tr && b.tr,⟨true,0,0⟩)
 |19,_,[a,b]=>(a.tr && b.tr,⟨true,0,0⟩)
 |20,_,[a]=>(a.tr,⟨true,0,0⟩)
 |21,_,[a]=>(uO [a],a)
 |22,_,[a]=>(uO [a],a)
 |23,_,[a]=>(uO [a],a)
 |24,sg,[a]=>(N8 a sg,sg)
 |_,_,_=>(false,⟨false,0,0⟩)
def ofR (named fo:Bool) (sg:Ty) (op:Nat) (ts:List Ty):Ty × Int:=cond (named && !fo) (⟨false,0,0⟩,12) (cond (MB op sg ts).1 ((MB op sg ts).2,0) (⟨false,0,0⟩,13))
def jh (l:List Sg) (x:Nd) (ts:List Ty):Ty × Int:=ofR (oV x.op) (lN l x.op x.name).isSome ((lN l x.op x.name).getD zT) x.op.toNat ts
def aQ:List Sg:= [⟨5,zcc3_1,⟨false,1,0⟩⟩,⟨5,[107,105,100,115],⟨false,0,0⟩⟩,⟨5,zcc3_0,⟨true,0,0⟩⟩,⟨5,[115,116,97,121],⟨false,0,1⟩⟩,⟨6,[112,111,111,114],⟨true,0,0⟩⟩,⟨6,[116,97,120],⟨false,1,0⟩⟩,⟨7,[112,111,111,114],⟨true,0,0⟩⟩,⟨7,[116,97,120],⟨false,1,0⟩⟩,⟨8,[112,111,111,114],⟨true,0,0⟩⟩,⟨8,[116,97,120],⟨false,1,0⟩⟩,⟨24,zcc3_2,⟨false,1,0⟩⟩,⟨24,[116,101,114,109],⟨false,0,1⟩⟩]
def tT:Ty:=⟨true,0,0⟩
inductive Tm (l:List Sg):List Nd→Ty→Prop where
 |n0 {x:Nd} {t:Ty}:aC x=0→dX x.op=0→jh l x []=(t,0)→Tm l [x] t
 |n1 {x:Nd} {t ta:Ty} {a:List Nd}:Tm l a ta→aC x=0→dX x.op=1→jh l x [ta]=(t,0)→Tm l (a++ [x]) t
 |n2 {x:Nd} {t ta tb:Ty} {a b:List Nd}:Tm l a ta→Tm l b tb→aC x=0→dX x.op=2→jh l x [ta,tb]=(t,0)→Tm l (a++b++ [x]) t
 |n3 {x:Nd} {t ta tb tc:Ty} {a b c:List Nd}:Tm l a ta→Tm l b tb→Tm l c tc→aC x=0→dX x.op=3→jh l x [ta,tb,tc]=(t,0)→Tm l (a++b++c++ [x]) t
theorem Tm.ne {l:List Sg} {e:List Nd} {t:Ty} (h:Tm l e t):e ≠ []:=by cases h<;>simp
def qN (op:Int) (q:RQ):Nd:=⟨op,q.neg,ae q.n,ae q.d,[]⟩
theorem Xx {q:RQ} (h:q.ok) (c:q.n<64) (hd:q.d<64):fC q.neg (ae q.n) (ae q.d)=true:=by
 unfold fC
 rw [qi q h,aB,aB]
 have e:gz q.n≤6:=je (by omega)
 have d:gz q.d≤6:=je (by omega)
 simp;omega
theorem Ff {op:Int} {q:RQ} (c:q.n<64) (hd:q.d<64):(qN op q).sm:=by
 have e:=iy (x:=q.n) (by omega)
 have d:=iy (x:=q.d) (by omega)
 exact ⟨by show (ae q.n).length<_;omega,by show (ae q.d).length<_;omega⟩
theorem nI {q:RQ} (h:q.ok) (d:q.n<64) (hd:q.d<64):∀ op:Int,op=1∨op=2∨op=3→aC (qN op q)=0:=by
 intro op c
 have f:=Xx h d hd
 have e:iY (qN op q)=true:=by rcases c with rfl|rfl|rfl<;>exact f
 unfold aC
 rw [e]
 rcases c with rfl|rfl|rfl<;>rfl
theorem FZ:CO 183 [.sl (gV aQ) 12 true,.int .i64 5,.str zcc3_1] (.ret (.tup [.agg [.bool false,.int .i64 1,.int .i64 0],.bool true])):=kL (eU aQ true 5 zcc3_1 (by decide)) (by kernel_rfl)
theorem F5:CO 183 [.sl (gV aQ) 12 true,.int .i64 5,.str [107,105,100,115]] (.ret (.tup [.agg [.bool false,.int .i64 0,.int .i64 0],.bool true])):=kL (eU aQ true 5 [107,105,100,115] (by decide)) (by kernel_rfl)
theorem F6:CO 183 [.sl (gV aQ) 12 true,.int .i64 5,.str zcc3_0] (.ret (.tup [.agg [.bool true,.int .i64 0,.int .i64 0],.bool true])):=kL (eU aQ true 5 zcc3_0 (by decide)) (by kernel_rfl)
theorem F7:CO 183 [.sl (gV aQ) 12 true,.int .i64 5,.str [115,116,97,121]] (.ret (.tup [.agg [.bool false,.int .i64 0,.int .i64 1],.bool true])):=kL (eU aQ true 5 [115,116,97,121] (by decide)) (by kernel_rfl)
theorem F8:CO 183 [.sl (gV aQ) 12 true,.int .i64 6,.str [112,111,111,114]] (.ret (.tup [.agg [.bool true,.int .i64 0,.int .i64 0],.bool true])):=kL (eU aQ true 6 [112,111,111,114] (by decide)) (by kernel_rfl)
theorem F9:CO 183 [.sl (gV aQ) 12 true,.int .i64 6,.str [116,97,120]] (.ret (.tup [.agg [.bool false,.int .i64 1,.int .i64 0],.bool true])):=kL (eU aQ true 6 [116,97,120] (by decide)) (by kernel_rfl)
theorem F_:CO 183 [.sl (gV aQ) 12 true,.int .i64 7,.str [112,111,111,114]] (.ret (.tup [.agg [.bool true,.int .i64 0,.int .i64 0],.bool true])):=kL (eU aQ true 7 [112,111,111,114] (by decide)) (by kernel_rfl)
theorem Gf:CO 183 [.sl (gV aQ) 12 true,.int .i64 7,.str [116,97,120]] (.ret (.tup [.agg [.bool false,.int .i64 1,.int .i64 0],.bool true])):=kL (eU aQ true 7 [116,97,120] (by decide)) (by kernel_rfl)
theorem Gg:CO 183 [.sl (gV aQ) 12 true,.int .i64 8,.str [112,111,111,114]] (.ret (.tup [.agg [.bool true,.int .i64 0,.int .i64 0],.bool true])):=kL (eU aQ true 8 [112,111,111,114] (by decide)) (by kernel_rfl)
theorem Gh:CO 183 [.sl (gV aQ) 12 true,.int .i64 8,.str [116,97,120]] (.ret (.tup [.agg [.bool false,.int .i64 1,.int .i64 0],.bool true])):=kL (eU aQ true 8 [116,97,120] (by decide)) (by kernel_rfl)
theorem oQ:CO 183 [.sl (gV aQ) 12 true,.int .i64 24,.str zcc3_2] (.ret (.tup [.agg [.bool false,.int .i64 1,.int .i64 0],.bool true])):=kL (eU aQ true 24 zcc3_2 (by decide)) (by kernel_rfl)
theorem oU:CO 183 [.sl (gV aQ) 12 true,.int .i64 24,.str [116,101,114,109]] (.ret (.tup [.agg [.bool false,.int .i64 0,.int .i64 1],.bool true])):=kL (eU aQ true 24 [116,101,114,109] (by decide)) (by kernel_rfl)
def oN (op:Int):Nd:=⟨op,false,[],[],[]⟩
theorem ql (op:Int):(oN op).sm:=⟨by show 0<_;omega,by show 0<_;omega⟩
theorem LP {v:Int} (h:0≤v) (d:v<64):(mf v).ok∧(mf v).n<64∧(mf v).d<64:=by
 refine ⟨CX (fun c=> ?_),by simp only [mf];omega,by simp [mf]⟩
 simp only [decide_eq_true_eq] at c
 omega
theorem MM {x:Nd} (h:x.sm):∀ y ∈ [x],y.sm:=by intro y c;simp at c;subst c;exact h
theorem PW (xs:List Int) (nn:Bool) (k:Nat) (g:xs.length<2^63) (j:k≤xs.length):∃ (e:List Nd) (k2:Nat),k2≤xs.length∧Tm aQ e ⟨false,1,0⟩∧(∀ x ∈ e,x.sm)∧e.length≤1∧aA prog ap 184 [.ptr 0 0 0,.agg (ug ⟨false,1,0⟩)] [dB xs nn k] (.ret (.own (bC e) e.length 5)) [dB xs nn k2]:=by
 obtain ⟨w,k1,c,i,d,f,_,h⟩:=uU xs nn k g j (-8) (by omega) (by omega)
 exact ⟨[qN 1 w],k1,c,.n0 (nI i d f 1 (by simp)) rfl (by kernel_rfl),MM (Ff d f),by simp,pK [] 1 1 (.n 7 .nil) (.c h .nil)⟩
theorem PV (xs:List Int) (nn:Bool) (k:Nat) (g:xs.length<2^63) (j:k≤xs.length):∃ (e:List Nd) (k2:Nat),k2≤xs.length∧Tm aQ e ⟨false,0,1⟩∧(∀ x ∈ e,x.sm)∧e.length≤1∧aA prog ap 184 [.ptr 0 0 0,.agg (ug ⟨false,0,1⟩)] [dB xs nn k] (.ret (.own (bC e) e.length 5)) [dB xs nn k2]:=by
 obtain ⟨w,k1,c,i,d,f,_,h⟩:=uU xs nn k g j (-8) (by omega) (by omega)
 exact ⟨[qN 2 w],k1,c,.n0 (nI i d f 2 (by simp)) rfl (by kernel_rfl),MM (Ff d f),by simp,pK [] 2 2 (.n 8 .nil) (.c h .nil)⟩
theorem PX (xs:List Int) (nn:Bool) (k:Nat) (g:xs.length<2^63) (j:k≤xs.length):∃ (e:List Nd) (k2:Nat),k2≤xs.length∧Tm aQ e ⟨false,0,0⟩∧(∀ x ∈ e,x.sm)∧e.length≤1∧aA prog ap 184 [.ptr 0 0 0,.agg (ug ⟨false,0,0⟩)] [dB xs nn k] (.ret (.own (bC e) e.length 5)) [dB xs nn k2]:=by
 obtain ⟨w,k1,c,i,d,f,_,h⟩:=uU xs nn k g j (-8) (by omega) (by omega)
 exact ⟨[qN 3 w],k1,c,.n0 (nI i d f 3 (by simp)) rfl (by kernel_rfl),MM (Ff d f),by simp,pK [] 4 0 (.n 12 .nil) (.c h .nil)⟩
theorem PY (xs:List Int) (nn:Bool) (k:Nat) (i:xs.length<2^63) (M:k≤xs.length):∃ (e:List Nd) (k2:Nat),k2≤xs.length∧Tm aQ e ⟨false,1, -1⟩∧(∀ x ∈ e,x.sm)∧e.length≤5∧aA prog ap 184 [.ptr 0 0 0,.agg (ug ⟨false,1, -1⟩)] [dB xs nn k] (.ret (.own (bC e) e.length 5)) [dB xs nn k2]:=by
 obtain ⟨w,k1,g,y,r,p,_,I⟩:=uU xs nn k i M (-8) (by omega) (by omega)
 obtain ⟨c,k2,C,f,G⟩:=dw xs nn k1 3 i g (by omega) (by omega)
 obtain ⟨d,k3,D,h,J⟩:=dw xs nn k2 3 i f (by omega) (by omega)
 have F:IntKind.wrap .i64 (((1:Nat):Int)+(c:Int))=1+(c:Int):=bF (by omega) (by omega)
 have N:IntKind.wrap .i64 (((1:Nat):Int)+(d:Int))=1+(d:Int):=bF (by omega) (by omega)
 have u:=kG (1+(c:Int)) (by omega) (by omega)
 have H:=kG (1+(d:Int)) (by omega) (by omega)
 obtain ⟨B,m,q⟩:=LP (v:=1+(c:Int)) (by omega) (by omega)
 obtain ⟨E,n,o⟩:=LP (v:=1+(d:Int)) (by omega) (by omega)
 have A:Tm aQ ([qN 3 w]++ [qN 1 (mf (1+(c:Int)))]++ [oN 11]) ⟨false,1,0⟩:= .n2 (.n0 (t:=⟨false,0,0⟩) (nI y r p 3 (by simp)) rfl (by kernel_rfl)) (.n0 (t:=⟨false,1,0⟩) (nI B m q 1 (by simp)) rfl (by kernel_rfl)) (by kernel_rfl) rfl (by kernel_rfl)
 have K:Tm aQ ([qN 3 w]++ [qN 1 (mf (1+(c:Int)))]++ [oN 11]++ [qN 2 (mf (1+(d:Int)))]++ [oN 12]) ⟨false,1, -1⟩:= .n2 A (.n0 (t:=⟨false,0,1⟩) (nI E n o 2 (by simp)) rfl (by kernel_rfl)) (by kernel_rfl) rfl (by kernel_rfl)
 have z:∀ x ∈ [qN 3 w]++ [qN 1 (mf (1+(c:Int)))]++ [oN 11]++ [qN 2 (mf (1+(d:Int)))]++ [oN 12],x.sm:=by
  intro x j
  simp only [List.mem_append,List.mem_singleton] at j
  rcases j with (((rfl|rfl)|rfl)|rfl)|rfl
  ·exact Ff r p
  ·exact Ff m q
  ·exact ql _
  ·exact Ff n o
  ·exact ql _
 generalize mf (1+(c:Int))=q1 at*
 generalize mf (1+(d:Int))=q2 at*
 exact ⟨_,k3,h,K,z,by simp,pK [] 12 92 (.n 28 .nil) (.c (show CO 48 [.int .i64 (IntKind.wrap .i64 (((1:Nat):Int)+(d:Int)))] (.ret (qA q2)) by rw [N];exact H) (.c J (.c (show CO 48 [.int .i64 (IntKind.wrap .i64 (((1:Nat):Int)+(c:Int)))] (.ret (qA q1)) by rw [F];exact u) (.c G (.c I .nil)))))⟩
theorem aeE (xs:List Int) (nn:Bool) (k:Nat) (m:xs.length<2^63) (o:k≤xs.length):∃ (e:List Nd) (k2:Nat),k2≤xs.length∧Tm aQ e ⟨false,1,0⟩∧(∀ x ∈ e,x.sm)∧e.length≤1∧aA prog ap 145 [.sl (gV aQ) 12 true,.ptr 0 0 0,.agg (ug ⟨false,1,0⟩)] [dB xs nn k] (.ret (.own (bC e) e.length 5)) [dB xs nn k2]:=by
 obtain ⟨r,k1,p,c,f⟩:=dw xs nn k 6 m o (by omega) (by omega)
 have this:r=0∨r=1∨r=2∨r=3∨r=4∨r=5:=by omega
 rcases this with rfl|rfl|rfl|rfl|rfl|rfl
 ·exact ⟨[⟨5,false,[],[],zcc3_1⟩],k1,c,.n0 (by kernel_rfl) rfl (by kernel_rfl),MM ⟨by simp,by simp⟩,by simp,pK [] 51 1240180127100655 (.n 276 .nil) (.c f (.c oU (.c oQ (.c Gh (.c Gg (.c Gf (.c F_ (.c F9 (.c F8 (.c F7 (.c F6 (.c F5 (.c FZ .nil)))))))))))))⟩
 ·exact ⟨[⟨6,false,[],[],[116,97,120]⟩],k1,c,.n0 (by kernel_rfl) rfl (by kernel_rfl),MM ⟨by simp,by simp⟩,by simp,pK [] 51 1240180127100655 (.n 276 .nil) (.c f (.c oU (.c oQ (.c Gh (.c Gg (.c Gf (.c F_ (.c F9 (.c F8 (.c F7 (.c F6 (.c F5 (.c FZ .nil)))))))))))))⟩
 ·exact ⟨[⟨7,false,[],[],[116,97,120]⟩],k1,c,.n0 (by kernel_rfl) rfl (by kernel_rfl),MM ⟨by simp,by simp⟩,by simp,pK [] 51 1240180127100655 (.n 276 .nil) (.c f (.c oU (.c oQ (.c Gh (.c Gg (.c Gf (.c F_ (.c F9 (.c F8 (.c F7 (.c F6 (.c F5 (.c FZ .nil)))))))))))))⟩
 ·exact ⟨[⟨8,false,[],[],[116,97,120]⟩],k1,c,.n0 (by kernel_rfl) rfl (by kernel_rfl),MM ⟨by simp,by simp⟩,by simp,pK [] 51 1240180127100655 (.n 276 .nil) (.c f (.c oU (.c oQ (.c Gh (.c Gg (.c Gf (.c F_ (.c F9 (.c F8 (.c F7 (.c F6 (.c F5 (.c FZ .nil)))))))))))))⟩
 ·obtain ⟨e,k2,d,i,g,n,j⟩:=PW xs nn k1 m c
  have h:aA prog ap 145 [.sl (gV aQ) 12 true,.ptr 0 0 0,.agg (ug ⟨false,1,0⟩)] [dB xs nn k] (.ret (.own (List.take (e.length*5) (bC e)) e.length 5)) [dB xs nn k2]:=pK [] 52 114280220258031 (.n 274 .nil) (.c j (.c f (.c oU (.c oQ (.c Gh (.c Gg (.c Gf (.c F_ (.c F9 (.c F8 (.c F7 (.c F6 (.c F5 (.c FZ .nil))))))))))))))
  rw [List.take_of_length_le (by rw [aP];omega)] at h
  exact ⟨e,k2,d,i,g,n,h⟩
 ·obtain ⟨e,k2,d,i,g,n,j⟩:=PW xs nn k1 m c
  have h:aA prog ap 145 [.sl (gV aQ) 12 true,.ptr 0 0 0,.agg (ug ⟨false,1,0⟩)] [dB xs nn k] (.ret (.own (List.take (e.length*5) (bC e)) e.length 5)) [dB xs nn k2]:=pK [] 52 114280220258031 (.n 274 .nil) (.c j (.c f (.c oU (.c oQ (.c Gh (.c Gg (.c Gf (.c F_ (.c F9 (.c F8 (.c F7 (.c F6 (.c F5 (.c FZ .nil))))))))))))))
  rw [List.take_of_length_le (by rw [aP];omega)] at h
  exact ⟨e,k2,d,i,g,n,h⟩
theorem aeD (xs:List Int) (nn:Bool) (k:Nat) (j:xs.length<2^63) (o:k≤xs.length):∃ (e:List Nd) (k2:Nat),k2≤xs.length∧Tm aQ e ⟨false,0,1⟩∧(∀ x ∈ e,x.sm)∧e.length≤1∧aA prog ap 145 [.sl (gV aQ) 12 true,.ptr 0 0 0,.agg (ug ⟨false,0,1⟩)] [dB xs nn k] (.ret (.own (bC e) e.length 5)) [dB xs nn k2]:=by
 obtain ⟨r,k1,p,d,m⟩:=dw xs nn k 3 j o (by omega) (by omega)
 have this:r=0∨r=1∨r=2:=by omega
 rcases this with rfl|rfl|rfl
 ·exact ⟨[⟨5,false,[],[],[115,116,97,121]⟩],k1,d,.n0 (by kernel_rfl) rfl (by kernel_rfl),MM ⟨by simp,by simp⟩,by simp,pK [] 51 1239076303730551 (.n 246 .nil) (.c m (.c oU (.c oQ (.c Gh (.c Gg (.c Gf (.c F_ (.c F9 (.c F8 (.c F7 (.c F6 (.c F5 (.c FZ .nil)))))))))))))⟩
 ·obtain ⟨e,k2,c,g,f,n,i⟩:=PV xs nn k1 j d
  have h:aA prog ap 145 [.sl (gV aQ) 12 true,.ptr 0 0 0,.agg (ug ⟨false,0,1⟩)] [dB xs nn k] (.ret (.own (List.take (e.length*5) (bC e)) e.length 5)) [dB xs nn k2]:=pK [] 52 113176396887927 (.n 244 .nil) (.c i (.c m (.c oU (.c oQ (.c Gh (.c Gg (.c Gf (.c F_ (.c F9 (.c F8 (.c F7 (.c F6 (.c F5 (.c FZ .nil))))))))))))))
  rw [List.take_of_length_le (by rw [aP];omega)] at h
  exact ⟨e,k2,c,g,f,n,h⟩
 ·obtain ⟨e,k2,c,g,f,n,i⟩:=PV xs nn k1 j d
  have h:aA prog ap 145 [.sl (gV aQ) 12 true,.ptr 0 0 0,.agg (ug ⟨false,0,1⟩)] [dB xs nn k] (.ret (.own (List.take (e.length*5) (bC e)) e.length 5)) [dB xs nn k2]:=pK [] 52 113176396887927 (.n 244 .nil) (.c i (.c m (.c oU (.c oQ (.c Gh (.c Gg (.c Gf (.c F_ (.c F9 (.c F8 (.c F7 (.c F6 (.c F5 (.c FZ .nil))))))))))))))
  rw [List.take_of_length_le (by rw [aP];omega)] at h
  exact ⟨e,k2,c,g,f,n,h⟩
theorem WG (xs:List Int) (nn:Bool) (k:Nat) (j:xs.length<2^63) (o:k≤xs.length):∃ (e:List Nd) (k2:Nat),k2≤xs.length∧Tm aQ e ⟨false,0,0⟩∧(∀ x ∈ e,x.sm)∧e.length≤1∧aA prog ap 145 [.sl (gV aQ) 12 true,.ptr 0 0 0,.agg (ug ⟨false,0,0⟩)] [dB xs nn k] (.ret (.own (bC e) e.length 5)) [dB xs nn k2]:=by
 obtain ⟨r,k1,p,d,m⟩:=dw xs nn k 3 j o (by omega) (by omega)
 have this:r=0∨r=1∨r=2:=by omega
 rcases this with rfl|rfl|rfl
 ·exact ⟨[⟨5,false,[],[],[107,105,100,115]⟩],k1,d,.n0 (by kernel_rfl) rfl (by kernel_rfl),MM ⟨by simp,by simp⟩,by simp,pK [] 51 1239076303728375 (.n 246 .nil) (.c m (.c oU (.c oQ (.c Gh (.c Gg (.c Gf (.c F_ (.c F9 (.c F8 (.c F7 (.c F6 (.c F5 (.c FZ .nil)))))))))))))⟩
 ·obtain ⟨e,k2,c,g,f,n,i⟩:=PX xs nn k1 j d
  have h:aA prog ap 145 [.sl (gV aQ) 12 true,.ptr 0 0 0,.agg (ug ⟨false,0,0⟩)] [dB xs nn k] (.ret (.own (List.take (e.length*5) (bC e)) e.length 5)) [dB xs nn k2]:=pK [] 52 113176396885751 (.n 244 .nil) (.c i (.c m (.c oU (.c oQ (.c Gh (.c Gg (.c Gf (.c F_ (.c F9 (.c F8 (.c F7 (.c F6 (.c F5 (.c FZ .nil))))))))))))))
  rw [List.take_of_length_le (by rw [aP];omega)] at h
  exact ⟨e,k2,c,g,f,n,h⟩
 ·obtain ⟨e,k2,c,g,f,n,i⟩:=PX xs nn k1 j d
  have h:aA prog ap 145 [.sl (gV aQ) 12 true,.ptr 0 0 0,.agg (ug ⟨false,0,0⟩)] [dB xs nn k] (.ret (.own (List.take (e.length*5) (bC e)) e.length 5)) [dB xs nn k2]:=pK [] 52 113176396885751 (.n 244 .nil) (.c i (.c m (.c oU (.c oQ (.c Gh (.c Gg (.c Gf (.c F_ (.c F9 (.c F8 (.c F7 (.c F6 (.c F5 (.c FZ .nil))))))))))))))
  rw [List.take_of_length_le (by rw [aP];omega)] at h
  exact ⟨e,k2,c,g,f,n,h⟩
theorem aeG (xs:List Int) (nn:Bool) (k:Nat) (i:xs.length<2^63) (j:k≤xs.length):∃ (e:List Nd) (k2:Nat),k2≤xs.length∧Tm aQ e ⟨true,0,0⟩∧(∀ x ∈ e,x.sm)∧e.length≤1∧aA prog ap 145 [.sl (gV aQ) 12 true,.ptr 0 0 0,.agg (ug ⟨true,0,0⟩)] [dB xs nn k] (.ret (.own (bC e) e.length 5)) [dB xs nn k2]:=by
 obtain ⟨r,k1,m,c,f⟩:=dw xs nn k 6 i j (by omega) (by omega)
 have this:r=0∨r=1∨r=2∨r=3∨r=4∨r=5:=by omega
 rcases this with rfl|rfl|rfl|rfl|rfl|rfl
 ·exact ⟨[⟨5,false,[],[],zcc3_0⟩],k1,c,.n0 (by kernel_rfl) rfl (by kernel_rfl),MM ⟨by simp,by simp⟩,by simp,pK [] 51 1239145292689271 (.n 276 .nil) (.c f (.c oU (.c oQ (.c Gh (.c Gg (.c Gf (.c F_ (.c F9 (.c F8 (.c F7 (.c F6 (.c F5 (.c FZ .nil)))))))))))))⟩
 ·exact ⟨[⟨6,false,[],[],[112,111,111,114]⟩],k1,c,.n0 (by kernel_rfl) rfl (by kernel_rfl),MM ⟨by simp,by simp⟩,by simp,pK [] 51 1239145292689271 (.n 276 .nil) (.c f (.c oU (.c oQ (.c Gh (.c Gg (.c Gf (.c F_ (.c F9 (.c F8 (.c F7 (.c F6 (.c F5 (.c FZ .nil)))))))))))))⟩
 ·exact ⟨[⟨7,false,[],[],[112,111,111,114]⟩],k1,c,.n0 (by kernel_rfl) rfl (by kernel_rfl),MM ⟨by simp,by simp⟩,by simp,pK [] 51 1239145292689271 (.n 276 .nil) (.c f (.c oU (.c oQ (.c Gh (.c Gg (.c Gf (.c F_ (.c F9 (.c F8 (.c F7 (.c F6 (.c F5 (.c FZ .nil)))))))))))))⟩
 ·exact ⟨[⟨8,false,[],[],[112,111,111,114]⟩],k1,c,.n0 (by kernel_rfl) rfl (by kernel_rfl),MM ⟨by simp,by simp⟩,by simp,pK [] 51 1239145292689271 (.n 276 .nil) (.c f (.c oU (.c oQ (.c Gh (.c Gg (.c Gf (.c F_ (.c F9 (.c F8 (.c F7 (.c F6 (.c F5 (.c FZ .nil)))))))))))))⟩
 ·obtain ⟨s,k2,hs,d,h⟩:=dw xs nn k1 2 i c (by omega) (by omega)
  have this:s=0∨s=1:=by omega
  rcases this with rfl|rfl
  ·have g:=kG ((0:Nat):Int) (by decide) (by decide)
   exact ⟨[qN 4 (mf ((0:Nat):Int))],k2,d,.n0 (by kernel_rfl) rfl (by kernel_rfl),MM (Ff (by decide) (by decide)),by simp,pK [] 52 2365045199531895 (.n 271 .nil) (.c g (.c h (.c f (.c oU (.c oQ (.c Gh (.c Gg (.c Gf (.c F_ (.c F9 (.c F8 (.c F7 (.c F6 (.c F5 (.c FZ .nil)))))))))))))))⟩
  ·have g:=kG ((1:Nat):Int) (by decide) (by decide)
   exact ⟨[qN 4 (mf ((1:Nat):Int))],k2,d,.n0 (by kernel_rfl) rfl (by kernel_rfl),MM (Ff (by decide) (by decide)),by simp,pK [] 52 2365045199531895 (.n 271 .nil) (.c g (.c h (.c f (.c oU (.c oQ (.c Gh (.c Gg (.c Gf (.c F_ (.c F9 (.c F8 (.c F7 (.c F6 (.c F5 (.c FZ .nil)))))))))))))))⟩
 ·obtain ⟨s,k2,hs,d,h⟩:=dw xs nn k1 2 i c (by omega) (by omega)
  have this:s=0∨s=1:=by omega
  rcases this with rfl|rfl
  ·have g:=kG ((0:Nat):Int) (by decide) (by decide)
   exact ⟨[qN 4 (mf ((0:Nat):Int))],k2,d,.n0 (by kernel_rfl) rfl (by kernel_rfl),MM (Ff (by decide) (by decide)),by simp,pK [] 52 2365045199531895 (.n 271 .nil) (.c g (.c h (.c f (.c oU (.c oQ (.c Gh (.c Gg (.c Gf (.c F_ (.c F9 (.c F8 (.c F7 (.c F6 (.c F5 (.c FZ .nil)))))))))))))))⟩
  ·have g:=kG ((1:Nat):Int) (by decide) (by decide)
   exact ⟨[qN 4 (mf ((1:Nat):Int))],k2,d,.n0 (by kernel_rfl) rfl (by kernel_rfl),MM (Ff (by decide) (by decide)),by simp,pK [] 52 2365045199531895 (.n 271 .nil) (.c g (.c h (.c f (.c oU (.c oQ (.c Gh (.c Gg (.c Gf (.c F_ (.c F9 (.c F8 (.c F7 (.c F6 (.c F5 (.c FZ .nil)))))))))))))))⟩
theorem aeF (xs:List Int) (nn:Bool) (k:Nat) (j:xs.length<2^63) (o:k≤xs.length):∃ (e:List Nd) (k2:Nat),k2≤xs.length∧Tm aQ e ⟨false,1, -1⟩∧(∀ x ∈ e,x.sm)∧e.length≤5∧aA prog ap 145 [.sl (gV aQ) 12 true,.ptr 0 0 0,.agg (ug ⟨false,1, -1⟩)] [dB xs nn k] (.ret (.own (bC e) e.length 5)) [dB xs nn k2]:=by
 obtain ⟨r,k1,p,d,n⟩:=dw xs nn k 2 j o (by omega) (by omega)
 have this:r=0∨r=1:=by omega
 rcases this with rfl|rfl
 ·obtain ⟨e,k2,c,g,f,m,i⟩:=PY xs nn k1 j d
  have h:aA prog ap 145 [.sl (gV aQ) 12 true,.ptr 0 0 0,.agg (ug ⟨false,1, -1⟩)] [dB xs nn k] (.ret (.own (List.take (e.length*5) (bC e)) e.length 5)) [dB xs nn k2]:=pK [] 51 56588198442871 (.n 235 .nil) (.c i (.c n (.c oU (.c oQ (.c Gh (.c Gg (.c Gf (.c F_ (.c F9 (.c F8 (.c F7 (.c F6 (.c F5 (.c FZ .nil))))))))))))))
  rw [List.take_of_length_le (by rw [aP];omega)] at h
  exact ⟨e,k2,c,g,f,m,h⟩
 ·obtain ⟨e,k2,c,g,f,m,i⟩:=PY xs nn k1 j d
  have h:aA prog ap 145 [.sl (gV aQ) 12 true,.ptr 0 0 0,.agg (ug ⟨false,1, -1⟩)] [dB xs nn k] (.ret (.own (List.take (e.length*5) (bC e)) e.length 5)) [dB xs nn k2]:=pK [] 51 56588198442871 (.n 235 .nil) (.c i (.c n (.c oU (.c oQ (.c Gh (.c Gg (.c Gf (.c F_ (.c F9 (.c F8 (.c F7 (.c F6 (.c F5 (.c FZ .nil))))))))))))))
  rw [List.take_of_length_le (by rw [aP];omega)] at h
  exact ⟨e,k2,c,g,f,m,h⟩
theorem OG {n:Nat} (a b:List Nd) (h:n=a.length):List.take (n*5) (bC a)++bC b=bC (a++b):=by
 rw [List.take_of_length_le (by rw [aP];omega),Jk]
theorem OH {n:Nat} (a:List Nd) (x:Nd) (h:n=a.length):List.take (n*5) (bC a)++ [AV.int .i64 x.op,.bool x.neg,.str x.num,.str x.den,.str x.name]=bC (a++ [x]):=by
 rw [List.take_of_length_le (by rw [aP];omega),Jk];rfl
theorem agm (x:Nd) (a:List Nd) (g:(Nat.ble (a.length+1) 1099511627776)=true) (d:(Nat.ble (a.length*5) (List.length (bC a)))=true) (c:(Nat.beq (List.length (bC a)) (a.length*5))=true) (f:(Nat.ble a.length 1099511627776)=true) (e:lit false (Nat.beq a.length 0)=true):CO 146 [.agg [.int .i64 x.op,.bool x.neg,.str x.num,.str x.den,.str x.name],.sl [.sl (bC a) a.length true] 1 true] (.ret (.own (List.take ((a.length+1)*5) (bC (a++ [x]))) (a.length+1) 5)):=pK [] 3 1 (.k 1 g (.c d (.k 7 c (.c f (.c e (.n 4 .nil)))))) (.b 22 (OH a x rfl) (.b 18 (Eq.refl (bC a)) .nil))
theorem ada (x:Nd) (a:List Nd) (ne:a ≠ []) (c:a.length<1000):CO 146 [.agg (yZ x),.sl [.sl (bC a) a.length true] 1 true] (.ret (.own (bC (a++ [x])) (a++ [x]).length 5)):=by
 have hp:0<a.length:=by cases a with|nil=>exact absurd rfl ne|cons _ _=>simp
 have d:Nat.beq a.length 0=false:=by cases c:a.length with|zero=>omega|succ n=>rfl
 have h:=agm x a (by first|(simp [aP];done)|(simp [aP];omega)|omega) (by first|(simp [aP];done)|(simp [aP];omega)|omega) (by first|(simp [aP];done)|(simp [aP];omega)|omega) (by first|(simp [aP];done)|(simp [aP];omega)|omega) (aF d)
 rw [List.take_of_length_le (by rw [aP];first|(simp;done)|(simp;omega))] at h
 rw [show (a++ [x]).length=a.length+1 by simp [Nat.add_assoc]]
 exact h
theorem agn (x:Nd) (a b:List Nd) (h:(Nat.ble ((a.length+b.length)+1) 1099511627776)=true) (d:(Nat.ble ((a.length+b.length)*5) (List.length (bC (a++b))))=true) (c:(Nat.beq (List.length (bC b)) (b.length*5))=true) (g:(Nat.ble (a.length+b.length) 1099511627776)=true) (f:(Nat.ble (a.length*5) (List.length (bC a)))=true) (j:(Nat.beq (List.length (bC a)) (a.length*5))=true) (e:(Nat.ble a.length 1099511627776)=true) (i:lit false (Nat.beq a.length 0)=true):CO 146 [.agg [.int .i64 x.op,.bool x.neg,.str x.num,.str x.den,.str x.name],.sl [.sl (bC a) a.length true,.sl (bC b) b.length true] 2 true] (.ret (.own (List.take (((a.length+b.length)+1)*5) (bC (a++b++ [x]))) ((a.length+b.length)+1) 5)):=pK [] 4 5 (.k 1 h (.c d (.k 7 c (.c g (.c f (.k 5 j (.c e (.c i (.n 4 .nil))))))))) (.b 22 (OH (a++b) x List.length_append.symm) (.b 18 (OG a b rfl) (.b 18 (Eq.refl (bC a)) .nil)))
theorem adb (x:Nd) (a b:List Nd) (ne:a ≠ []) (d:a.length<1000) (c:b.length<1000):CO 146 [.agg (yZ x),.sl [.sl (bC a) a.length true,.sl (bC b) b.length true] 2 true] (.ret (.own (bC (a++b++ [x])) (a++b++ [x]).length 5)):=by
 have hp:0<a.length:=by cases a with|nil=>exact absurd rfl ne|cons _ _=>simp
 have c:Nat.beq a.length 0=false:=by cases d:a.length with|zero=>omega|succ n=>rfl
 have h:=agn x a b (by first|(simp [aP];done)|(simp [aP];omega)|omega) (by first|(simp [aP];done)|(simp [aP];omega)|omega) (by first|(simp [aP];done)|(simp [aP];omega)|omega) (by first|(simp [aP];done)|(simp [aP];omega)|omega) (by first|(simp [aP];done)|(simp [aP];omega)|omega) (by first|(simp [aP];done)|(simp [aP];omega)|omega) (by first|(simp [aP];done)|(simp [aP];omega)|omega) (aF c)
 rw [List.take_of_length_le (by rw [aP];first|(simp;done)|(simp;omega))] at h
 rw [show (a++b++ [x]).length=a.length+b.length+1 by simp [Nat.add_assoc]]
 exact h
theorem agp (x:Nd) (a b c:List Nd) (m:(Nat.ble (((a.length+b.length)+c.length)+1) 1099511627776)=true) (h:(Nat.ble (((a.length+b.length)+c.length)*5) (List.length (bC (a++b++c))))=true) (e:(Nat.beq (List.length (bC c)) (c.length*5))=true) (k:(Nat.ble ((a.length+b.length)+c.length) 1099511627776)=true) (j:(Nat.ble ((a.length+b.length)*5) (List.length (bC (a++b))))=true) (o:(Nat.beq (List.length (bC b)) (b.length*5))=true) (i:(Nat.ble (a.length+b.length) 1099511627776)=true) (n:(Nat.ble (a.length*5) (List.length (bC a)))=true) (g:(Nat.beq (List.length (bC a)) (a.length*5))=true) (f:(Nat.ble a.length 1099511627776)=true) (d:lit false (Nat.beq a.length 0)=true):CO 146 [.agg [.int .i64 x.op,.bool x.neg,.str x.num,.str x.den,.str x.name],.sl [.sl (bC a) a.length true,.sl (bC b) b.length true,.sl (bC c) c.length true] 3 true] (.ret (.own (List.take ((((a.length+b.length)+c.length)+1)*5) (bC (a++b++c++ [x]))) (((a.length+b.length)+c.length)+1) 5)):=pK [] 5 13 (.k 1 m (.c h (.k 7 e (.c k (.c j (.k 5 o (.c i (.c n (.k 5 g (.c f (.c d (.n 4 .nil)))))))))))) (.b 22 (OH (a++b++c) x (by rw [List.length_append,List.length_append])) (.b 18 (OG (a++b) c List.length_append.symm) (.b 18 (OG a b rfl) (.b 18 (Eq.refl (bC a)) .nil))))
theorem adc (x:Nd) (a b c:List Nd) (ne:a ≠ []) (e:a.length<1000) (d:b.length<1000) (f:c.length<1000):CO 146 [.agg (yZ x),.sl [.sl (bC a) a.length true,.sl (bC b) b.length true,.sl (bC c) c.length true] 3 true] (.ret (.own (bC (a++b++c++ [x])) (a++b++c++ [x]).length 5)):=by
 have hp:0<a.length:=by cases a with|nil=>exact absurd rfl ne|cons _ _=>simp
 have d:Nat.beq a.length 0=false:=by cases e:a.length with|zero=>omega|succ n=>rfl
 have h:=agp x a b c (by first|(simp [aP];done)|(simp [aP];omega)|omega) (by first|(simp [aP];done)|(simp [aP];omega)|omega) (by first|(simp [aP];done)|(simp [aP];omega)|omega) (by first|(simp [aP];done)|(simp [aP];omega)|omega) (by first|(simp [aP];done)|(simp [aP];omega)|omega) (by first|(simp [aP];done)|(simp [aP];omega)|omega) (by first|(simp [aP];done)|(simp [aP];omega)|omega) (by first|(simp [aP];done)|(simp [aP];omega)|omega) (by first|(simp [aP];done)|(simp [aP];omega)|omega) (by first|(simp [aP];done)|(simp [aP];omega)|omega) (aF d)
 rw [List.take_of_length_le (by rw [aP];first|(simp;done)|(simp;omega))] at h
 rw [show (a++b++c++ [x]).length=a.length+b.length+c.length+1 by simp [Nat.add_assoc]]
 exact h
def tM:Ty:=⟨false,1,0⟩
def tD:Ty:=⟨false,0,1⟩
def tP:Ty:=⟨false,0,0⟩
def cO (t:Ty):Prop:=t=tM∨t=tD∨t=tP∨t=tT
def bL:Nat→Nat
 |0=>1
 |n+1=>3*bL n+1
def Mk (f:Nat) (pre post:List AV) (t:Ty) (bnd:Nat) (xs:List Int) (nn:Bool) (k:Nat):Prop:=∃ (e:List Nd) (k2:Nat),k2≤xs.length∧Tm aQ e t∧(∀ x ∈ e,x.sm)∧e.length≤bnd∧aA prog ap f (pre++ .agg (ug t)::post) [dB xs nn k] (.ret (.own (bC e) e.length 5)) [dB xs nn k2]
abbrev jJ (t:Ty) (lv:Int) (bnd:Nat) (xs:List Int) (nn:Bool) (k:Nat):Prop:=Mk 95 [.sl (gV aQ) 12 true,.ptr 0 0 0] [.int .i64 lv] t bnd xs nn k
theorem OE {f:Nat} {pre post:List AV} {t:Ty} {c k k2:Nat} {xs:List Int} {nn:Bool} {e:List Nd} (i:k2≤xs.length) (g:Tm aQ e t) (d:∀ x ∈ e,x.sm) (j:e.length≤c) (h:aA prog ap f (pre++ .agg (ug t)::post) [dB xs nn k] (.ret (.own (List.take (e.length*5) (bC e)) e.length 5)) [dB xs nn k2]):Mk f pre post t c xs nn k:=by
 rw [List.take_of_length_le (by rw [aP];omega)] at h
 exact ⟨e,k2,i,g,d,j,h⟩
theorem Jm (a:List Nd):List.take (a.length*5) (bC a)=bC a:=List.take_of_length_le (by rw [aP];omega)
theorem YM (x:Nd) (a:List Nd) (ne:a ≠ []) (c:a.length<1000):CO 146 [.agg (yZ x),.sl [.sl (List.take (a.length*5) (bC a)) a.length true] 1 true] (.ret (.own (bC (a++ [x])) (a++ [x]).length 5)):=by
 simp only [Jm]
 exact ada x a ne c
theorem abS {a:List Nd} {x:Nd} (d:∀ y ∈ a,y.sm) (e:x.sm):∀ y ∈ a++ [x],y.sm:=by
 intro y c
 simp only [List.mem_append,List.mem_singleton] at c
 rcases c with c|rfl
 ·exact d y c
 ·exact e
theorem U4 (x:Nd) (a b:List Nd) (ne:a ≠ []) (d:a.length<1000) (c:b.length<1000):CO 146 [.agg (yZ x),.sl [.sl (List.take (a.length*5) (bC a)) a.length true,.sl (List.take (b.length*5) (bC b)) b.length true] 2 true] (.ret (.own (bC (a++b++ [x])) (a++b++ [x]).length 5)):=by
 simp only [Jm]
 exact adb x a b ne d c
theorem X8 {a b:List Nd} {x:Nd} (f:∀ y ∈ a,y.sm) (d:∀ y ∈ b,y.sm) (e:x.sm):∀ y ∈ a++b++ [x],y.sm:=by
 intro y c
 simp only [List.mem_append,List.mem_singleton] at c
 rcases c with (c|c)|rfl
 ·exact f y c
 ·exact d y c
 ·exact e
theorem agq (x:Nd) (a b c:List Nd) (ne:a ≠ []) (f:a.length<1000) (d:b.length<1000) (e:c.length<1000):CO 146 [.agg (yZ x),.sl [.sl (List.take (a.length*5) (bC a)) a.length true,.sl (List.take (b.length*5) (bC b)) b.length true,.sl (List.take (c.length*5) (bC c)) c.length true] 3 true] (.ret (.own (bC (a++b++c++ [x])) (a++b++c++ [x]).length 5)):=by
 simp only [Jm]
 exact adc x a b c ne f d e
theorem ajL {a b c:List Nd} {x:Nd} (h:∀ y ∈ a,y.sm) (e:∀ y ∈ b,y.sm) (g:∀ y ∈ c,y.sm) (f:x.sm):∀ y ∈ a++b++c++ [x],y.sm:=by
 intro y d
 simp only [List.mem_append,List.mem_singleton] at d
 rcases d with ((d|d)|d)|rfl
 ·exact h y d
 ·exact e y d
 ·exact g y d
 ·exact f
theorem Qv {t:Ty} (e:cO t) (xs:List Int) (nn:Bool) (k:Nat) (c:xs.length<2^63) (d:k≤xs.length):Mk 145 [.sl (gV aQ) 12 true,.ptr 0 0 0] [] t 1 xs nn k:=by
 rcases e with rfl|rfl|rfl|rfl
 ·exact aeE xs nn k c d
 ·exact aeD xs nn k c d
 ·exact WG xs nn k c d
 ·exact aeG xs nn k c d
theorem aig {t:Ty} (f:cO t) (xs:List Int) (nn:Bool) (k:Nat) (g:xs.length<2^63) (j:k≤xs.length):jJ t 0 1 xs nn k:=by
 obtain ⟨e,k2,d,i,h,m,c⟩:=Qv f xs nn k g j
 refine OE d i h m ?_
 rcases f with rfl|rfl|rfl|rfl
 ·exact pK [] 2 3 (.n 5 .nil) (.c c .nil)
 ·exact pK [] 2 3 (.n 5 .nil) (.c c .nil)
 ·exact pK [] 2 3 (.n 5 .nil) (.c c .nil)
 ·exact pK [] 2 3 (.n 5 .nil) (.c c .nil)
theorem aii (xs:List Int) (nn:Bool) (k:Nat) (d:xs.length<2^63) (i:k≤xs.length):jJ ⟨false,1, -1⟩ 0 5 xs nn k:=by
 obtain ⟨e,k2,c,h,g,j,f⟩:=aeF xs nn k d i
 exact OE c h g j (pK [] 2 3 (.n 5 .nil) (.c f .nil))
def kT:Nat→Ty
 |0=>tM
 |1=>tD
 |_=>tP
theorem kd0:CO 63 [.int .i64 1,.int .i64 0] (.ret (.agg [.bool false,.int .i64 1,.int .i64 0])):=cK (.nil)
theorem kd1:CO 63 [.int .i64 0,.int .i64 1] (.ret (.agg [.bool false,.int .i64 0,.int .i64 1])):=cK (.nil)
theorem kd2:CO 63 [.int .i64 0,.int .i64 0] (.ret (.agg [.bool false,.int .i64 0,.int .i64 0])):=cK (.nil)
theorem kd3:CO 64 [] (.ret (.agg [.bool true,.int .i64 0,.int .i64 0])):=cK (.nil)
theorem kd4:CO 63 [.int .i64 1,.int .i64 (-1)] (.ret (.agg [.bool false,.int .i64 1,.int .i64 (-1)])):=cK (.nil)
theorem kd5:CO 65 [.int .i64 0,.int .i64 5] (.ret (.int .i64 0)):=cK (.nil)
theorem kd6:CO 32 [.int .i64 0] (.ret (.agg [.bool false,.int .i64 1,.int .i64 0])):=cK (.c kd5 (.c kd4 (.c kd3 (.c kd2 (.c kd1 (.c kd0 .nil))))))
theorem kd7:CO 65 [.int .i64 1,.int .i64 5] (.ret (.int .i64 1)):=cK (.nil)
theorem kd8:CO 32 [.int .i64 1] (.ret (.agg [.bool false,.int .i64 0,.int .i64 1])):=cK (.c kd7 (.c kd4 (.c kd3 (.c kd2 (.c kd1 (.c kd0 .nil))))))
theorem kd9:CO 65 [.int .i64 2,.int .i64 5] (.ret (.int .i64 2)):=cK (.nil)
theorem aeB:CO 32 [.int .i64 2] (.ret (.agg [.bool false,.int .i64 0,.int .i64 0])):=cK (.c kd9 (.c kd4 (.c kd3 (.c kd2 (.c kd1 (.c kd0 .nil))))))
theorem WB {u:Nat} (c:u<3):CO 32 [.int .i64 (u:Int)] (.ret (.agg (ug (kT u))))∧cO (kT u):=by
 rcases (show u=0∨u=1∨u=2 by omega) with rfl|rfl|rfl
 ·exact ⟨kd6,by simp [cO,kT]⟩
 ·exact ⟨kd8,by simp [cO,kT]⟩
 ·exact ⟨aeB,by simp [cO,kT]⟩
theorem pT:cO tT:=by simp [cO]
theorem pP:cO tP:=by simp [cO]
def LM (t:Ty):Prop:=t=tM∨t=tD∨t=tP
theorem LM.pl {t:Ty} (h:LM t):cO t:=by rcases h with rfl|rfl|rfl<;>simp [cO]
theorem alA {xs:List Int} {nn:Bool} {k lv p k1 s k2:Nat} (D:xs.length<2^63) (f:lv<2^62) (Q:bL lv<300) (G:∀ t,cO t→∀ k,k≤xs.length→jJ t (lv:Int) (bL lv) xs nn k) (y:((p:Int)==((0:Nat):Int))=false) (C:(decide ((((lv+1):Nat):Int)≤((0:Nat):Int)))=false) (g:k2≤xs.length) (E:aA prog ap 97 [.ptr 0 0 0,.int .i64 5] [dB xs nn k] (.ret (.int .i64 (p:Int))) [dB xs nn k1]) (A:aA prog ap 97 [.ptr 0 0 0,.int .i64 5] [dB xs nn k1] (.ret (.int .i64 (s:Int))) [dB xs nn k2]) (hs:s=0∨s=1):jJ tT ((lv+1:Nat):Int) (bL (lv+1)) xs nn k:=by
 obtain ⟨u,k3,i,n,q⟩:=dw xs nn k2 3 D g (by omega) (by omega)
 obtain ⟨r,k4,P,m,w⟩:=dw xs nn k3 2 D n (by omega) (by omega)
 have c:=(WB i).1
 obtain ⟨B,k5,j,v,m0,N,F⟩:=G (kT u) (WB i).2 k4 m
 obtain ⟨z,k6,h,M,K,O,o⟩:=G (kT u) (WB i).2 k5 j
 have d:=U4 (oN (16+(r:Int))) B z v.ne (by omega) (by omega)
 have J:aC (oN (16+(r:Int)))=0:=by rcases (show u=0∨u=1∨u=2 by omega) with rfl|rfl|rfl<;>rcases (show r=0∨r=1 by omega) with rfl|rfl<;>kernel_rfl
 have H:dX (oN (16+(r:Int))).op=2:=by rcases (show u=0∨u=1∨u=2 by omega) with rfl|rfl|rfl<;>rcases (show r=0∨r=1 by omega) with rfl|rfl<;>rfl
 have I:jh aQ (oN (16+(r:Int))) [(kT u),(kT u)]=(tT,0):=by rcases (show u=0∨u=1∨u=2 by omega) with rfl|rfl|rfl<;>rcases (show r=0∨r=1 by omega) with rfl|rfl<;>kernel_rfl
 refine OE (e:=B++z++ [oN (16+(r:Int))]) h (.n2 v M J H I) (X8 m0 K (ql _)) (by simp [bL];omega) ?_
 rcases hs with rfl|rfl
 ·rcases (show u=0∨u=1∨u=2 by omega) with rfl|rfl|rfl<;>rcases (show r=0∨r=1 by omega) with rfl|rfl<;>exact pK [] 5 28 (.k 11 (aF y) (.c (aF C) .nil)) (.c d (.c o (.c F (.c w (.c c (.c q (.c A (.v 27 (.eq (RI f)) (.c E .nil)))))))))
 ·rcases (show u=0∨u=1∨u=2 by omega) with rfl|rfl|rfl<;>rcases (show r=0∨r=1 by omega) with rfl|rfl<;>exact pK [] 5 20 (.k 11 (aF y) (.c (aF C) .nil)) (.c d (.c o (.c F (.c w (.c c (.c q (.c A (.v 27 (.eq (RI f)) (.c E .nil)))))))))
theorem alB {xs:List Int} {nn:Bool} {k lv j k1 s k2:Nat} (A:xs.length<2^63) (g:lv<2^62) (z:bL lv<300) (w:∀ t,cO t→∀ k,k≤xs.length→jJ t (lv:Int) (bL lv) xs nn k) (n:((j:Int)==((0:Nat):Int))=false) (q:(decide ((((lv+1):Nat):Int)≤((0:Nat):Int)))=false) (c:k2≤xs.length) (r:aA prog ap 97 [.ptr 0 0 0,.int .i64 5] [dB xs nn k] (.ret (.int .i64 (j:Int))) [dB xs nn k1]) (o:aA prog ap 97 [.ptr 0 0 0,.int .i64 5] [dB xs nn k1] (.ret (.int .i64 (s:Int))) [dB xs nn k2]) (hs:s=2):jJ tT ((lv+1:Nat):Int) (bL (lv+1)) xs nn k:=by
 obtain ⟨i,k3,d,h,m0,y,v⟩:=w tT pT k2 c
 have f:=YM (oN 20) i h.ne (by omega)
 have u:aC (oN 20)=0:=by kernel_rfl
 have m:dX (oN 20).op=1:=by rfl
 have p:jh aQ (oN 20) [tT]=(tT,0):=by kernel_rfl
 refine OE (e:=i++ [oN 20]) d (.n1 h u m p) (abS m0 (ql _)) (by simp [bL];omega) ?_
 subst hs
 exact pK [] 6 36 (.k 8 (aF n) (.c (aF q) .nil)) (.c f (.c v (.c o (.v 27 (.eq (RI g)) (.c r .nil)))))
theorem alC {xs:List Int} {nn:Bool} {k lv n k1 s k2:Nat} (N:xs.length<2^63) (i:lv<2^62) (M:bL lv<300) (j:∀ t,cO t→∀ k,k≤xs.length→jJ t (lv:Int) (bL lv) xs nn k) (w:((n:Int)==((0:Nat):Int))=false) (B:(decide ((((lv+1):Nat):Int)≤((0:Nat):Int)))=false) (c:k2≤xs.length) (D:aA prog ap 97 [.ptr 0 0 0,.int .i64 5] [dB xs nn k] (.ret (.int .i64 (n:Int))) [dB xs nn k1]) (y:aA prog ap 97 [.ptr 0 0 0,.int .i64 5] [dB xs nn k1] (.ret (.int .i64 (s:Int))) [dB xs nn k2]) (hs:s=3):jJ tT ((lv+1:Nat):Int) (bL (lv+1)) xs nn k:=by
 obtain ⟨q,k3,g,o,m0,I,E⟩:=j tT pT k2 c
 obtain ⟨p,k4,f,H,G,K,u⟩:=j tT pT k3 g
 obtain ⟨m,k5,d,v,F,J,A⟩:=j tT pT k4 f
 have h:=agq (oN 15) q p m o.ne (by omega) (by omega) (by omega)
 have C:aC (oN 15)=0:=by kernel_rfl
 have r:dX (oN 15).op=3:=by rfl
 have z:jh aQ (oN 15) [tT,tT,tT]=(tT,0):=by kernel_rfl
 refine OE (e:=q++p++m++ [oN 15]) d (.n3 o H v C r z) (ajL m0 G F (ql _)) (by simp [bL];omega) ?_
 subst hs
 exact pK [] 7 68 (.k 15 (aF w) (.c (aF B) .nil)) (.c h (.c A (.c u (.c E (.c y (.v 27 (.eq (RI i)) (.c D .nil)))))))
theorem alD {xs:List Int} {nn:Bool} {k lv j k1 s k2:Nat} (B:xs.length<2^63) (i:lv<2^62) (K:bL lv<300) (p:∀ t,cO t→∀ k,k≤xs.length→jJ t (lv:Int) (bL lv) xs nn k) (w:((j:Int)==((0:Nat):Int))=false) (A:(decide ((((lv+1):Nat):Int)≤((0:Nat):Int)))=false) (c:k2≤xs.length) (D:aA prog ap 97 [.ptr 0 0 0,.int .i64 5] [dB xs nn k] (.ret (.int .i64 (j:Int))) [dB xs nn k1]) (y:aA prog ap 97 [.ptr 0 0 0,.int .i64 5] [dB xs nn k1] (.ret (.int .i64 (s:Int))) [dB xs nn k2]) (hs:s=4):jJ tT ((lv+1:Nat):Int) (bL (lv+1)) xs nn k:=by
 obtain ⟨r,k3,J,g,v⟩:=dw xs nn k2 2 B c (by omega) (by omega)
 obtain ⟨o,k4,f,m,m0,H,E⟩:=p tT pT k3 g
 obtain ⟨n,k5,d,G,F,I,u⟩:=p tT pT k4 f
 have h:=U4 (oN (18+(r:Int))) o n m.ne (by omega) (by omega)
 have C:aC (oN (18+(r:Int)))=0:=by rcases (show r=0∨r=1 by omega) with rfl|rfl<;>kernel_rfl
 have q:dX (oN (18+(r:Int))).op=2:=by rcases (show r=0∨r=1 by omega) with rfl|rfl<;>rfl
 have z:jh aQ (oN (18+(r:Int))) [tT,tT]=(tT,0):=by rcases (show r=0∨r=1 by omega) with rfl|rfl<;>kernel_rfl
 refine OE (e:=o++n++ [oN (18+(r:Int))]) d (.n2 m G C q z) (X8 m0 F (ql _)) (by simp [bL];omega) ?_
 subst hs
 rcases (show r=0∨r=1 by omega) with rfl|rfl<;>exact pK [] 7 4 (.k 12 (aF w) (.c (aF A) .nil)) (.c h (.c u (.c E (.c v (.c y (.v 27 (.eq (RI i)) (.c D .nil)))))))
def opF (r:Nat):Int:=([9,10,13,14]:List Int).getD r 0
theorem n26:CO 63 [.int .i64 0,.int .i64 0] (.ret (.agg (ug tP))):=cK .nil
theorem n25:CO 64 [] (.ret (.agg (ug tT))):=cK .nil
theorem als {xs:List Int} {nn:Bool} {k lv n k1 s k2:Nat} (E:xs.length<2^63) (f:lv<2^62) (M:bL lv<300) (B:∀ t,cO t→∀ k,k≤xs.length→jJ t (lv:Int) (bL lv) xs nn k) (q:((n:Int)==((0:Nat):Int))=false) (y:(decide ((((lv+1):Nat):Int)≤((0:Nat):Int)))=false) (g:k2≤xs.length) (z:aA prog ap 97 [.ptr 0 0 0,.int .i64 5] [dB xs nn k] (.ret (.int .i64 (n:Int))) [dB xs nn k1]) (v:aA prog ap 97 [.ptr 0 0 0,.int .i64 7] [dB xs nn k1] (.ret (.int .i64 (s:Int))) [dB xs nn k2]) (hs:s=0∨s=1) {t:Ty} (c:LM t):jJ t ((lv+1:Nat):Int) (bL (lv+1)) xs nn k:=by
 obtain ⟨r,k3,K,j,p⟩:=dw xs nn k2 4 E g (by omega) (by omega)
 obtain ⟨w,k4,i,o,m0,I,A⟩:=B t c.pl k3 j
 obtain ⟨u,k5,h,H,G,J,m⟩:=B t c.pl k4 i
 have d:=U4 (oN (opF r)) w u o.ne (by omega) (by omega)
 have F:aC (oN (opF r))=0:=by rcases c with rfl|rfl|rfl<;>rcases (show r=0∨r=1∨r=2∨r=3 by omega) with rfl|rfl|rfl|rfl<;>kernel_rfl
 have C:dX (oN (opF r)).op=2:=by rcases c with rfl|rfl|rfl<;>rcases (show r=0∨r=1∨r=2∨r=3 by omega) with rfl|rfl|rfl|rfl<;>rfl
 have D:jh aQ (oN (opF r)) [t,t]=(t,0):=by rcases c with rfl|rfl|rfl<;>rcases (show r=0∨r=1∨r=2∨r=3 by omega) with rfl|rfl|rfl|rfl<;>kernel_rfl
 refine OE (e:=w++u++ [oN (opF r)]) h (.n2 o H F C D) (X8 m0 G (ql _)) (by simp [bL];omega) ?_
 rcases hs with rfl|rfl
 ·rcases c with rfl|rfl|rfl<;>rcases (show r=0∨r=1∨r=2∨r=3 by omega) with rfl|rfl|rfl|rfl<;>exact pK [] 5 24 (.k 13 (aF q) (.c (aF y) .nil)) (.c d (.c m (.c A (.c p (.c v (.v 27 (.eq (RI f)) (.c z .nil)))))))
 ·rcases c with rfl|rfl|rfl<;>rcases (show r=0∨r=1∨r=2∨r=3 by omega) with rfl|rfl|rfl|rfl<;>exact pK [] 5 16 (.k 13 (aF q) (.c (aF y) .nil)) (.c d (.c m (.c A (.c p (.c v (.v 27 (.eq (RI f)) (.c z .nil)))))))
theorem alu {xs:List Int} {nn:Bool} {k lv j k1 s k2:Nat} (H:xs.length<2^63) (i:lv<2^62) (G:bL lv<300) (p:∀ t,cO t→∀ k,k≤xs.length→jJ t (lv:Int) (bL lv) xs nn k) (u:((j:Int)==((0:Nat):Int))=false) (y:(decide ((((lv+1):Nat):Int)≤((0:Nat):Int)))=false) (d:k2≤xs.length) (A:aA prog ap 97 [.ptr 0 0 0,.int .i64 5] [dB xs nn k] (.ret (.int .i64 (j:Int))) [dB xs nn k1]) (v:aA prog ap 97 [.ptr 0 0 0,.int .i64 7] [dB xs nn k1] (.ret (.int .i64 (s:Int))) [dB xs nn k2]) (hs:s=2) {t:Ty} (c:LM t):jJ t ((lv+1:Nat):Int) (bL (lv+1)) xs nn k:=by
 obtain ⟨o,k3,g,m,m0,E,B⟩:=p t c.pl k2 d
 obtain ⟨n,k4,f,D,C,F,r⟩:=p tP pP k3 g
 have h:=U4 (oN 11) o n m.ne (by omega) (by omega)
 have z:aC (oN 11)=0:=by rcases c with rfl|rfl|rfl<;>kernel_rfl
 have q:dX (oN 11).op=2:=by rcases c with rfl|rfl|rfl<;>rfl
 have w:jh aQ (oN 11) [t,tP]=(t,0):=by rcases c with rfl|rfl|rfl<;>kernel_rfl
 refine OE (e:=o++n++ [oN 11]) f (.n2 m D z q w) (X8 m0 C (ql _)) (by simp [bL];omega) ?_
 subst hs
 rcases c with rfl|rfl|rfl<;>exact pK [] 6 32 (.k 8 (aF u) (.c (aF y) .nil)) (.c h (.c r (.c n26 (.c B (.c v (.v 27 (.eq (RI i)) (.c A .nil)))))))
theorem alv {xs:List Int} {nn:Bool} {k lv j k1 s k2:Nat} (H:xs.length<2^63) (i:lv<2^62) (G:bL lv<300) (p:∀ t,cO t→∀ k,k≤xs.length→jJ t (lv:Int) (bL lv) xs nn k) (u:((j:Int)==((0:Nat):Int))=false) (y:(decide ((((lv+1):Nat):Int)≤((0:Nat):Int)))=false) (d:k2≤xs.length) (A:aA prog ap 97 [.ptr 0 0 0,.int .i64 5] [dB xs nn k] (.ret (.int .i64 (j:Int))) [dB xs nn k1]) (v:aA prog ap 97 [.ptr 0 0 0,.int .i64 7] [dB xs nn k1] (.ret (.int .i64 (s:Int))) [dB xs nn k2]) (hs:s=3) {t:Ty} (c:LM t):jJ t ((lv+1:Nat):Int) (bL (lv+1)) xs nn k:=by
 obtain ⟨o,k3,g,m,m0,E,B⟩:=p t c.pl k2 d
 obtain ⟨n,k4,f,D,C,F,r⟩:=p tP pP k3 g
 have h:=U4 (oN 12) o n m.ne (by omega) (by omega)
 have z:aC (oN 12)=0:=by rcases c with rfl|rfl|rfl<;>kernel_rfl
 have q:dX (oN 12).op=2:=by rcases c with rfl|rfl|rfl<;>rfl
 have w:jh aQ (oN 12) [t,tP]=(t,0):=by rcases c with rfl|rfl|rfl<;>kernel_rfl
 refine OE (e:=o++n++ [oN 12]) f (.n2 m D z q w) (X8 m0 C (ql _)) (by simp [bL];omega) ?_
 subst hs
 rcases c with rfl|rfl|rfl<;>exact pK [] 7 64 (.k 9 (aF u) (.c (aF y) .nil)) (.c h (.c r (.c n26 (.c B (.c v (.v 27 (.eq (RI i)) (.c A .nil)))))))
theorem alx {xs:List Int} {nn:Bool} {k lv o k1 s k2:Nat} (O:xs.length<2^63) (j:lv<2^62) (N:bL lv<300) (m:∀ t,cO t→∀ k,k≤xs.length→jJ t (lv:Int) (bL lv) xs nn k) (y:((o:Int)==((0:Nat):Int))=false) (C:(decide ((((lv+1):Nat):Int)≤((0:Nat):Int)))=false) (d:k2≤xs.length) (E:aA prog ap 97 [.ptr 0 0 0,.int .i64 5] [dB xs nn k] (.ret (.int .i64 (o:Int))) [dB xs nn k1]) (z:aA prog ap 97 [.ptr 0 0 0,.int .i64 7] [dB xs nn k1] (.ret (.int .i64 (s:Int))) [dB xs nn k2]) (hs:s=4) {t:Ty} (c:LM t):jJ t ((lv+1:Nat):Int) (bL (lv+1)) xs nn k:=by
 obtain ⟨r,k3,h,p,m0,J,F⟩:=m tT pT k2 d
 obtain ⟨q,k4,g,I,H,M,v⟩:=m t c.pl k3 h
 obtain ⟨n,k5,f,w,G,K,B⟩:=m t c.pl k4 g
 have i:=agq (oN 15) r q n p.ne (by omega) (by omega) (by omega)
 have D:aC (oN 15)=0:=by rcases c with rfl|rfl|rfl<;>kernel_rfl
 have u:dX (oN 15).op=3:=by rcases c with rfl|rfl|rfl<;>rfl
 have A:jh aQ (oN 15) [tT,t,t]=(t,0):=by rcases c with rfl|rfl|rfl<;>kernel_rfl
 refine OE (e:=r++q++n++ [oN 15]) f (.n3 p I w D u A) (ajL m0 H G (ql _)) (by simp [bL];omega) ?_
 subst hs
 rcases c with rfl|rfl|rfl<;>exact pK [] 8 128 (.k 13 (aF y) (.c (aF C) .nil)) (.c i (.c B (.c v (.c F (.c n25 (.c z (.v 27 (.eq (RI j)) (.c E .nil))))))))
theorem Va {q:RQ} (h:q.ok) (f:q.n<64) (hd:q.d<64) (hp:q.neg=false∧0<q.n) {op:Int} (d:op=21∨op=22∨op=23):aC (qN op q)=0:=by
 have g:=Xx h f hd
 have hs:ry q.neg (ae q.n) (ae q.d)=1:=by
  unfold ry
  rw [if_pos ⟨qi q h,by rw [aB];exact hp.2⟩,hp.1];rfl
 have c:decide (((0:Nat):Int)<ry q.neg (ae q.n) (ae q.d))=true:=by rw [hs];rfl
 have e:iY (qN op q)=true:=by
  have:(fC q.neg (ae q.n) (ae q.d) && decide (((0:Nat):Int)<ry q.neg (ae q.n) (ae q.d)))=true:=by rw [g,c];rfl
  rcases d with rfl|rfl|rfl<;>exact this
 unfold aC
 rw [e]
 rcases d with rfl|rfl|rfl<;>rfl
theorem aly {xs:List Int} {nn:Bool} {k lv n k1 s k2:Nat} (q:xs.length<2^63) (j:lv<2^62) (N:bL lv<300) (J:∀ t,cO t→∀ k,k≤xs.length→jJ t (lv:Int) (bL lv) xs nn k) (B:((n:Int)==((0:Nat):Int))=false) (E:(decide ((((lv+1):Nat):Int)≤((0:Nat):Int)))=false) (d:k2≤xs.length) (G:aA prog ap 97 [.ptr 0 0 0,.int .i64 5] [dB xs nn k] (.ret (.int .i64 (n:Int))) [dB xs nn k1]) (C:aA prog ap 97 [.ptr 0 0 0,.int .i64 7] [dB xs nn k1] (.ret (.int .i64 (s:Int))) [dB xs nn k2]) (hs:s=5) {t:Ty} (c:LM t):jJ t ((lv+1:Nat):Int) (bL (lv+1)) xs nn k:=by
 obtain ⟨r,k3,M,h,A⟩:=dw xs nn k2 3 q d (by omega) (by omega)
 obtain ⟨w,k4,g,z,u,m,H,y⟩:=uU xs nn k3 q h 1 (by omega) (by omega)
 obtain ⟨p,k5,f,o,m0,K,I⟩:=J t c.pl k4 g
 have i:=YM (qN (21+(r:Int)) w) p o.ne (by omega)
 have F:aC (qN (21+(r:Int)) w)=0:=by exact Va z u m (H rfl) (by omega)
 have v:dX (qN (21+(r:Int)) w).op=1:=by rcases c with rfl|rfl|rfl<;>rcases (show r=0∨r=1∨r=2 by omega) with rfl|rfl|rfl<;>rfl
 have D:jh aQ (qN (21+(r:Int)) w) [t]=(t,0):=by rcases c with rfl|rfl|rfl<;>rcases (show r=0∨r=1∨r=2 by omega) with rfl|rfl|rfl<;>kernel_rfl
 refine OE (e:=p++ [qN (21+(r:Int)) w]) f (.n1 o F v D) (abS m0 (Ff u m)) (by simp [bL];omega) ?_
 subst hs
 rcases c with rfl|rfl|rfl<;>rcases (show r=0∨r=1∨r=2 by omega) with rfl|rfl|rfl<;>exact pK [] 9 256 (.k 11 (aF B) (.c (aF E) .nil)) (.c i (.c I (.c y (.c A (.c C (.v 27 (.eq (RI j)) (.c G .nil)))))))
theorem fr0:CO 183 [.sl (gV aQ) 12 true,.int .i64 24,.str zcc3_1] (.ret (.tup [.agg [.bool false,.int .i64 0,.int .i64 0],.bool false])):=kL (eU aQ true 24 zcc3_1 (by decide)) (by kernel_rfl)
theorem fr1:CO 183 [.sl (gV aQ) 12 true,.int .i64 24,.str [107,105,100,115]] (.ret (.tup [.agg [.bool false,.int .i64 0,.int .i64 0],.bool false])):=kL (eU aQ true 24 [107,105,100,115] (by decide)) (by kernel_rfl)
theorem fr2:CO 183 [.sl (gV aQ) 12 true,.int .i64 24,.str zcc3_0] (.ret (.tup [.agg [.bool false,.int .i64 0,.int .i64 0],.bool false])):=kL (eU aQ true 24 zcc3_0 (by decide)) (by kernel_rfl)
theorem fr3:CO 183 [.sl (gV aQ) 12 true,.int .i64 24,.str [115,116,97,121]] (.ret (.tup [.agg [.bool false,.int .i64 0,.int .i64 0],.bool false])):=kL (eU aQ true 24 [115,116,97,121] (by decide)) (by kernel_rfl)
theorem ZX:CO 183 [.sl (gV aQ) 12 true,.int .i64 24,.str [112,111,111,114]] (.ret (.tup [.agg [.bool false,.int .i64 0,.int .i64 0],.bool false])):=kL (eU aQ true 24 [112,111,111,114] (by decide)) (by kernel_rfl)
theorem ZY:CO 183 [.sl (gV aQ) 12 true,.int .i64 24,.str [116,97,120]] (.ret (.tup [.agg [.bool false,.int .i64 0,.int .i64 0],.bool false])):=kL (eU aQ true 24 [116,97,120] (by decide)) (by kernel_rfl)
theorem fr6:CO 183 [.sl (gV aQ) 12 true,.int .i64 24,.str zcc3_2] (.ret (.tup [.agg [.bool false,.int .i64 1,.int .i64 0],.bool true])):=kL (eU aQ true 24 zcc3_2 (by decide)) (by kernel_rfl)
theorem fr7:CO 183 [.sl (gV aQ) 12 true,.int .i64 24,.str [116,101,114,109]] (.ret (.tup [.agg [.bool false,.int .i64 0,.int .i64 1],.bool true])):=kL (eU aQ true 24 [116,101,114,109] (by decide)) (by kernel_rfl)
theorem abk {xs:List Int} {nn:Bool} {k:Nat} (d:xs.length<2^63) (f:k≤xs.length):∃ k2,k2≤xs.length∧aA prog ap 148 [.sl (gV aQ) 12 true,.ptr 0 0 0,.agg (ug tM)] [dB xs nn k] (.ret (.tup [.str zcc3_2,.bool true])) [dB xs nn k2]:=by
 obtain ⟨r,k1,g,c,e⟩:=dw xs nn k 1 d f (by omega) (by omega)
 obtain rfl:r=0:=by omega
 exact ⟨k1,c,pK [] 51 262856579813649 (.n 125 .nil) (.c e (.c fr7 (.c fr6 (.c ZY (.c ZX (.c ZY (.c ZX (.c ZY (.c ZX (.c fr3 (.c fr2 (.c fr1 (.c fr0 .nil)))))))))))))⟩
theorem abj {xs:List Int} {nn:Bool} {k:Nat} (d:xs.length<2^63) (f:k≤xs.length):∃ k2,k2≤xs.length∧aA prog ap 148 [.sl (gV aQ) 12 true,.ptr 0 0 0,.agg (ug tD)] [dB xs nn k] (.ret (.tup [.str [116,101,114,109],.bool true])) [dB xs nn k2]:=by
 obtain ⟨r,k1,g,c,e⟩:=dw xs nn k 1 d f (by omega) (by omega)
 obtain rfl:r=0:=by omega
 exact ⟨k1,c,pK [] 51 271652672835857 (.n 125 .nil) (.c e (.c fr7 (.c fr6 (.c ZY (.c ZX (.c ZY (.c ZX (.c ZY (.c ZX (.c fr3 (.c fr2 (.c fr1 (.c fr0 .nil)))))))))))))⟩
theorem abl {xs:List Int} {nn:Bool} {k:Nat}:aA prog ap 148 [.sl (gV aQ) 12 true,.ptr 0 0 0,.agg (ug tP)] [dB xs nn k] (.ret (.tup [.str [],.bool false])) [dB xs nn k]:=pK [] 50 693865137901841 (.n 116 .nil) (.c fr7 (.c fr6 (.c ZY (.c ZX (.c ZY (.c ZX (.c ZY (.c ZX (.c fr3 (.c fr2 (.c fr1 (.c fr0 .nil))))))))))))
theorem aik {xs:List Int} {nn:Bool} {k lv m k1 s k2:Nat} (v:xs.length<2^63) (g:lv<2^62) (C:bL lv<300) (A:∀ t,cO t→∀ k,k≤xs.length→jJ t (lv:Int) (bL lv) xs nn k) (p:((m:Int)==((0:Nat):Int))=false) (u:(decide ((((lv+1):Nat):Int)≤((0:Nat):Int)))=false) (c:k2≤xs.length) (w:aA prog ap 97 [.ptr 0 0 0,.int .i64 5] [dB xs nn k] (.ret (.int .i64 (m:Int))) [dB xs nn k1]) (q:aA prog ap 97 [.ptr 0 0 0,.int .i64 7] [dB xs nn k1] (.ret (.int .i64 (s:Int))) [dB xs nn k2]) (hs:s=6):jJ tM ((lv+1:Nat):Int) (bL (lv+1)) xs nn k:=by
 obtain ⟨k3,d,o⟩:=abk (nn:=nn) v c
 obtain ⟨j,k4,h,i,m0,B,z⟩:=A tM (by simp [cO]) k3 d
 have f:=YM ((⟨24,false,[],[],zcc3_2⟩:Nd)) j i.ne (by omega)
 have y:aC ((⟨24,false,[],[],zcc3_2⟩:Nd))=0:=by kernel_rfl
 have n:dX ((⟨24,false,[],[],zcc3_2⟩:Nd)).op=1:=by rfl
 have r:jh aQ ((⟨24,false,[],[],zcc3_2⟩:Nd)) [tM]=(tM,0):=by kernel_rfl
 refine OE (e:=j++ [(⟨24,false,[],[],zcc3_2⟩:Nd)]) h (.n1 i y n r) (abS m0 (⟨by simp,by simp⟩)) (by simp [bL];omega) ?_
 subst hs
 exact pK [] 10 0 (.k 15 (aF p) (.c (aF u) .nil)) (.c f (.c z (.c o (.c q (.v 27 (.eq (RI g)) (.c w .nil))))))
theorem aij {xs:List Int} {nn:Bool} {k lv m k1 s k2:Nat} (v:xs.length<2^63) (g:lv<2^62) (C:bL lv<300) (A:∀ t,cO t→∀ k,k≤xs.length→jJ t (lv:Int) (bL lv) xs nn k) (p:((m:Int)==((0:Nat):Int))=false) (u:(decide ((((lv+1):Nat):Int)≤((0:Nat):Int)))=false) (c:k2≤xs.length) (w:aA prog ap 97 [.ptr 0 0 0,.int .i64 5] [dB xs nn k] (.ret (.int .i64 (m:Int))) [dB xs nn k1]) (q:aA prog ap 97 [.ptr 0 0 0,.int .i64 7] [dB xs nn k1] (.ret (.int .i64 (s:Int))) [dB xs nn k2]) (hs:s=6):jJ tD ((lv+1:Nat):Int) (bL (lv+1)) xs nn k:=by
 obtain ⟨k3,d,o⟩:=abj (nn:=nn) v c
 obtain ⟨j,k4,h,i,m0,B,z⟩:=A tD (by simp [cO]) k3 d
 have f:=YM ((⟨24,false,[],[],[116,101,114,109]⟩:Nd)) j i.ne (by omega)
 have y:aC ((⟨24,false,[],[],[116,101,114,109]⟩:Nd))=0:=by kernel_rfl
 have n:dX ((⟨24,false,[],[],[116,101,114,109]⟩:Nd)).op=1:=by rfl
 have r:jh aQ ((⟨24,false,[],[],[116,101,114,109]⟩:Nd)) [tD]=(tD,0):=by kernel_rfl
 refine OE (e:=j++ [(⟨24,false,[],[],[116,101,114,109]⟩:Nd)]) h (.n1 i y n r) (abS m0 (⟨by simp,by simp⟩)) (by simp [bL];omega) ?_
 subst hs
 exact pK [] 10 0 (.k 15 (aF p) (.c (aF u) .nil)) (.c f (.c z (.c o (.c q (.v 27 (.eq (RI g)) (.c w .nil))))))
theorem alz {xs:List Int} {nn:Bool} {k lv g k1 s k2:Nat} (q:xs.length<2^63) (f:lv<2^62) (u:bL lv<300) (v:∀ t,cO t→∀ k,k≤xs.length→jJ t (lv:Int) (bL lv) xs nn k) (j:((g:Int)==((0:Nat):Int))=false) (p:(decide ((((lv+1):Nat):Int)≤((0:Nat):Int)))=false) (c:k2≤xs.length) (r:aA prog ap 97 [.ptr 0 0 0,.int .i64 5] [dB xs nn k] (.ret (.int .i64 (g:Int))) [dB xs nn k1]) (n:aA prog ap 97 [.ptr 0 0 0,.int .i64 7] [dB xs nn k1] (.ret (.int .i64 (s:Int))) [dB xs nn k2]) (hs:s=6):jJ tP ((lv+1:Nat):Int) (bL (lv+1)) xs nn k:=by
 obtain ⟨e,k3,d,m,h,w,o⟩:=WG xs nn k2 q c
 have i:=abl (xs:=xs) (nn:=nn) (k:=k2)
 refine OE d m h (by simp [bL];omega) ?_
 subst hs
 exact pK [] 10 512 (.k 15 (aF j) (.c (aF p) .nil)) (.c o (.c i (.c n (.v 27 (.eq (RI f)) (.c r .nil)))))
theorem HY {t:Ty} (p:cO t) {xs:List Int} {nn:Bool} {k lv:Nat} (g:xs.length<2^63) (A:k≤xs.length) (d:lv<2^62) (n:bL lv<300) (o:∀ t,cO t→∀ k,k≤xs.length→jJ t (lv:Int) (bL lv) xs nn k):jJ t ((lv+1:Nat):Int) (bL (lv+1)) xs nn k:=by
 have f:(decide ((((lv+1):Nat):Int)≤((0:Nat):Int)))=false:=decide_eq_false (by omega)
 obtain ⟨v,k1,y,q,i⟩:=dw xs nn k 5 g A (by omega) (by omega)
 by_cases hz:v=0
 ·subst hz
  obtain ⟨e,k2,c,z,w,B,r⟩:=Qv p xs nn k1 g q
  refine OE c z w (by simp [bL];omega) ?_
  rcases p with rfl|rfl|rfl|rfl
  ·exact pK [] 2 2 (.k 4 (aF f) .nil) (.c r (.c i .nil))
  ·exact pK [] 2 2 (.k 4 (aF f) .nil) (.c r (.c i .nil))
  ·exact pK [] 2 2 (.k 4 (aF f) .nil) (.c r (.c i .nil))
  ·exact pK [] 2 2 (.k 4 (aF f) .nil) (.c r (.c i .nil))
 ·have m:((v:Int)==((0:Nat):Int))=false:=by simp;omega
  have u:∀ t,LM t→jJ t ((lv+1:Nat):Int) (bL (lv+1)) xs nn k:=by
   intro t p
   obtain ⟨s,k2,hs,c,j⟩:=dw xs nn k1 7 g q (by omega) (by omega)
   rcases (show (s=0∨s=1)∨s=2∨s=3∨s=4∨s=5∨s=6 by omega) with h|h|h|h|h|h
   ·exact als g d n o m f c i j h p
   ·exact alu g d n o m f c i j h p
   ·exact alv g d n o m f c i j h p
   ·exact alx g d n o m f c i j h p
   ·exact aly g d n o m f c i j h p
   ·rcases p with rfl|rfl|rfl
    ·exact aik g d n o m f c i j h
    ·exact aij g d n o m f c i j h
    ·exact alz g d n o m f c i j h
  rcases p with rfl|rfl|rfl|rfl
  ·exact u _ (.inl rfl)
  ·exact u _ (.inr (.inl rfl))
  ·exact u _ (.inr (.inr rfl))
  ·obtain ⟨s,k2,hs,c,j⟩:=dw xs nn k1 5 g q (by omega) (by omega)
   rcases (show (s=0∨s=1)∨s=2∨s=3∨s=4 by omega) with h|h|h|h
   ·exact alA g d n o m f c i j h
   ·exact alB g d n o m f c i j h
   ·exact alC g d n o m f c i j h
   ·exact alD g d n o m f c i j h
theorem aih {xs:List Int} {nn:Bool} (e:xs.length<2^63) (t:Ty) (d:cO t) (k:Nat) (c:k≤xs.length):jJ t ((1:Nat):Int) (bL 1) xs nn k:=
 HY (lv:=0) d e c (by omega) (by decide) fun _ d k c=>aig d xs nn k e c
theorem QA {xs:List Int} {nn:Bool} (e:xs.length<2^63) (t:Ty) (d:cO t) (k:Nat) (c:k≤xs.length):jJ t ((2:Nat):Int) (bL 2) xs nn k:=
 HY (lv:=1) d e c (by omega) (by decide) fun t d k c=>aih e t d k c
def WE (t:Ty):Prop:=cO t∨t=⟨false,1, -1⟩
theorem YI {t:Ty} (k:WE t) (xs:List Int) (nn:Bool) (i:xs.length<2^63):∃ e:List Nd,Tm aQ e t∧(∀ x ∈ e,x.sm)∧e.length≤13∧CO 57 [.sl (gV aQ) 12 true,.agg (ug t),.sl (iL xs) xs.length nn] (.ret (.own (bC e) e.length 5)):=by
 rcases k with (rfl|rfl|rfl|rfl)|rfl
 ·obtain ⟨e,k2,c,f,d,j,g⟩:=QA (nn:=nn) i tM (by simp [cO]) 0 (by omega)
  have h:CO 57 [.sl (gV aQ) 12 true,.agg (ug tM),.sl (iL xs) xs.length nn] (.ret (.own (List.take (e.length*5) (bC e)) e.length 5)):=pK [] 4 1 (.n 11 .nil) (.c g (.c kd6 .nil))
  rw [Jm] at h
  exact ⟨e,f,d,by have:bL 2=13:=rfl;omega,h⟩
 ·obtain ⟨e,k2,c,f,d,j,g⟩:=QA (nn:=nn) i tD (by simp [cO]) 0 (by omega)
  have h:CO 57 [.sl (gV aQ) 12 true,.agg (ug tD),.sl (iL xs) xs.length nn] (.ret (.own (List.take (e.length*5) (bC e)) e.length 5)):=pK [] 4 3 (.n 14 .nil) (.c g (.c kd8 (.c kd6 .nil)))
  rw [Jm] at h
  exact ⟨e,f,d,by have:bL 2=13:=rfl;omega,h⟩
 ·obtain ⟨e,k2,c,f,d,j,g⟩:=QA (nn:=nn) i tP (by simp [cO]) 0 (by omega)
  have h:CO 57 [.sl (gV aQ) 12 true,.agg (ug tP),.sl (iL xs) xs.length nn] (.ret (.own (List.take (e.length*5) (bC e)) e.length 5)):=pK [] 4 7 (.n 17 .nil) (.c g (.c aeB (.c kd8 (.c kd6 .nil))))
  rw [Jm] at h
  exact ⟨e,f,d,by have:bL 2=13:=rfl;omega,h⟩
 ·obtain ⟨e,k2,c,f,d,j,g⟩:=QA (nn:=nn) i tT (by simp [cO]) 0 (by omega)
  have h:CO 57 [.sl (gV aQ) 12 true,.agg (ug tT),.sl (iL xs) xs.length nn] (.ret (.own (List.take (e.length*5) (bC e)) e.length 5)):=pK [] 4 0 (.n 8 .nil) (.c g .nil)
  rw [Jm] at h
  exact ⟨e,f,d,by have:bL 2=13:=rfl;omega,h⟩
 ·obtain ⟨e,k2,c,f,d,j,g⟩:=aii xs nn 0 i (by omega)
  have h:CO 57 [.sl (gV aQ) 12 true,.agg (ug ⟨false,1, -1⟩),.sl (iL xs) xs.length nn] (.ret (.own (List.take (e.length*5) (bC e)) e.length 5)):=pK [] 4 15 (.n 17 .nil) (.c g (.c aeB (.c kd8 (.c kd6 .nil))))
  rw [Jm] at h
  exact ⟨e,f,d,by have:bL 2=13:=rfl;omega,h⟩
end Go.Proofs.Tryz
set_option maxRecDepth 100000
set_option linter.unusedVariables false
open Go AM
namespace Go.Proofs.Tryz
abbrev MS (ls:List Lk) (cs:List Sc) (nl ns:Bool) (k1 v1 k2 v2:List AV):Hp:= [(0,⟨[.sl (kE ls) ls.length nl,.sl (kS cs) cs.length ns],0,false,0,0,true⟩),(1,⟨[.mp k1 v1,.mp k2 v2],0,false,0,0,true⟩)]
theorem ZR (x:Nd) (o:Oq) (ne g i f:Bool) (k:Nat) (k1 v1 k2 c u r:List AV) (e:List Nd) (A:List (List Nat)) (ls:List Lk) (d:List Sc) {nt:Nat} (n:56≤nt) (j:(List.drop ((Int.toNat (k:Int))*5) (bC e))=yZ x++u) (w:(List.drop ((Int.toNat (k:Int))*1) (dA A))= [.sl [] 0 false]++r) (q:AV.int .i64 (IntKind.wrap .i64 ((k:Int)+((1:Nat):Int)))=AV.int .i64 ((k+1:Nat):Int)) (h:(decide (((0:Nat):Int)≤(k:Int)))=true) (m:(decide ((k:Int)<(A.length:Int)))=true) (t:(decide ((k:Int)<(e.length:Int)))=true) (p:lit true (decide ((k:Int)<(e.length:Int)))=true) (v:CO 46 [.agg [.mp k1 v1,.mp k2 c],.agg [.int .i64 x.op,.bool x.neg,.str x.num,.str x.den,.str x.name],.nilS] (.ret (fH o))):au prog ap [] nt (af 0 (ah f19)) ⟨[(3,.ptr 0 0 0),(5,.sl (dA A) A.length f),(7,.ptr 1 0 0),(8,.nilS),(23,.sl (bC e) e.length ne),(24,.int .i64 (e.length:Int)),(25,.int .i64 (k:Int))],(MS ls d g i k1 v1 k2 c),.dead,[]⟩ (.normal) ⟨[(3,.ptr 0 0 0),(5,.sl (dA A) A.length f),(7,.ptr 1 0 0),(8,.ref 2 0 0 1),(23,.sl (bC e) e.length ne),(24,.int .i64 (e.length:Int)),(25,.int .i64 ((k+1:Nat):Int))],(MS ls d g i k1 v1 k2 c++ [(2,⟨[.bool o.n,.str o.a,.str o.d,.int .i64 o.e],0,false,0,4,true⟩)]),.dead,[]⟩:=pN 19 [] 3 1 (.k 12 h (.c m (.k 6 h (.c t (.c p .nil))))) (.v 54 (.eq q) (.c v (.v 32 (.ppt w) (.v 28 (.ppt j) .nil)))) n
theorem ZT (ne g i j:Bool) (k:Nat) (k1 v1 k2 f:List AV) (e:List Nd) (A:List (List Nat)) (ls:List Lk) (c:List Sc) {nt:Nat} (d:56≤nt) (h:lit false (decide ((k:Int)<(e.length:Int)))=true):au prog ap [] nt (af 0 (ah f19)) ⟨[(3,.ptr 0 0 0),(5,.sl (dA A) A.length j),(7,.ptr 1 0 0),(8,.nilS),(23,.sl (bC e) e.length ne),(24,.int .i64 (e.length:Int)),(25,.int .i64 (k:Int))],(MS ls c g i k1 v1 k2 f),.dead,[]⟩ (.exit 0) ⟨[(8,.nilS)],[],.dead,[]⟩:=pN 19 [] 1 0 (.c h .nil) (.nil) d
theorem ad_ (x:Nd) (o:Oq) (ne j m h:Bool) (k:Nat) (k1 v1 k2 d v u:List AV) (e:List Nd) (A:List (List Nat)) (c:List Oq) (ls:List Lk) (g:List Sc) {nt:Nat} (q:56≤nt) (n:(List.drop ((Int.toNat (k:Int))*5) (bC e))=yZ x++v) (B:(List.drop ((Int.toNat (k:Int))*1) (dA A))= [.sl [] 0 false]++u) (f:((List.take (c.length*4) (gp c))++ [.bool o.n,.str o.a,.str o.d,.int .i64 o.e])=(gp (c++ [o]))) (t:AV.int .i64 (IntKind.wrap .i64 ((k:Int)+((1:Nat):Int)))=AV.int .i64 ((k+1:Nat):Int)) (y:(Nat.ble (c.length+1) 1099511627776)=true) (p:(Nat.ble (c.length*4) (List.length (gp c)))=true) (i:(decide (((0:Nat):Int)≤(k:Int)))=true) (r:(decide ((k:Int)<(A.length:Int)))=true) (w:(decide ((k:Int)<(e.length:Int)))=true) (C:lit true (decide ((k:Int)<(e.length:Int)))=true) (z:CO 46 [.agg [.mp k1 v1,.mp k2 d],.agg [.int .i64 x.op,.bool x.neg,.str x.num,.str x.den,.str x.name],.nilS] (.ret (fH o))):au prog ap [] nt (af 0 (ah f19)) ⟨[(3,.ptr 0 0 0),(5,.sl (dA A) A.length h),(7,.ptr 1 0 0),(8,.ref 2 0 0 c.length),(23,.sl (bC e) e.length ne),(24,.int .i64 (e.length:Int)),(25,.int .i64 (k:Int))],(MS ls g j m k1 v1 k2 d++ [(2,⟨(gp c),0,false,0,4,true⟩)]),.dead,[]⟩ (.normal) ⟨[(3,.ptr 0 0 0),(5,.sl (dA A) A.length h),(7,.ptr 1 0 0),(8,.ref 2 0 0 (c.length+1)),(23,.sl (bC e) e.length ne),(24,.int .i64 (e.length:Int)),(25,.int .i64 ((k+1:Nat):Int))],(MS ls g j m k1 v1 k2 d++ [(2,⟨(gp (c++ [o])),0,false,0,4,true⟩)]),.dead,[]⟩:=pN 19 [] 2 1 (.k 1 y (.c p (.k 10 i (.c r (.k 6 i (.c w (.c C .nil))))))) (.v 54 (.eq t) (.b 53 f (.c z (.v 32 (.ppt B) (.v 28 (.ppt n) .nil))))) q
theorem aea (ne h j m:Bool) (k:Nat) (k1 v1 k2 g:List AV) (e:List Nd) (A:List (List Nat)) (c:List Oq) (ls:List Lk) (d:List Sc) {nt:Nat} (f:56≤nt) (i:lit false (decide ((k:Int)<(e.length:Int)))=true):au prog ap [] nt (af 0 (ah f19)) ⟨[(3,.ptr 0 0 0),(5,.sl (dA A) A.length m),(7,.ptr 1 0 0),(8,.ref 2 0 0 c.length),(23,.sl (bC e) e.length ne),(24,.int .i64 (e.length:Int)),(25,.int .i64 (k:Int))],(MS ls d h j k1 v1 k2 g++ [(2,⟨(gp c),0,false,0,4,true⟩)]),.dead,[]⟩ (.exit 0) ⟨[(8,.ref 0 0 0 c.length)],[(0,⟨(gp c),0,false,0,4,true⟩)],.dead,[]⟩:=pN 19 [] 1 0 (.c i .nil) (.nil) f
theorem aeb (x:Nd) (o f:Oq) (ne n q m:Bool) (k g:Nat) (k1 v1 k2 h D B v:List AV) (e:List Nd) (A:List (List Nat)) (c:List Oq) (ls:List Lk) (j:List Sc) {nt:Nat} (w:56≤nt) (r:(List.drop ((Int.toNat (k:Int))*5) (bC e))=yZ x++D) (G:(List.drop ((Int.toNat (k:Int))*1) (dA A))= [.sl [.int .i64 (g:Int)] 1 false]++B) (d:(List.drop ((0+(Int.toNat (g:Int)))*4) (gp c))=Cc f++v) (i:((List.take (c.length*4) (gp c))++ [.bool o.n,.str o.a,.str o.d,.int .i64 o.e])=(gp (c++ [o]))) (z:AV.int .i64 (IntKind.wrap .i64 ((k:Int)+((1:Nat):Int)))=AV.int .i64 ((k+1:Nat):Int)) (E:(Nat.ble (c.length+1) 1099511627776)=true) (t:(Nat.ble (c.length*4) (List.length (gp c)))=true) (C:(decide (((0:Nat):Int)≤(g:Int)))=true) (y:(decide ((g:Int)<(c.length:Int)))=true) (p:(decide (((0:Nat):Int)≤(k:Int)))=true) (I:(decide ((k:Int)<(A.length:Int)))=true) (H:(decide ((k:Int)<(e.length:Int)))=true) (u:lit true (decide ((k:Int)<(e.length:Int)))=true) (F:CO 46 [.agg [.mp k1 v1,.mp k2 h],.agg [.int .i64 x.op,.bool x.neg,.str x.num,.str x.den,.str x.name],.sl [.bool f.n,.str f.a,.str f.d,.int .i64 f.e] 1 true] (.ret (fH o))):au prog ap [] nt (af 0 (ah f19)) ⟨[(3,.ptr 0 0 0),(5,.sl (dA A) A.length m),(7,.ptr 1 0 0),(8,.ref 2 0 0 c.length),(23,.sl (bC e) e.length ne),(24,.int .i64 (e.length:Int)),(25,.int .i64 (k:Int))],(MS ls j n q k1 v1 k2 h++ [(2,⟨(gp c),0,false,0,4,true⟩)]),.dead,[]⟩ (.normal) ⟨[(3,.ptr 0 0 0),(5,.sl (dA A) A.length m),(7,.ptr 1 0 0),(8,.ref 2 0 0 (c.length+1)),(23,.sl (bC e) e.length ne),(24,.int .i64 (e.length:Int)),(25,.int .i64 ((k+1:Nat):Int))],(MS ls j n q k1 v1 k2 h++ [(2,⟨(gp (c++ [o])),0,false,0,4,true⟩)]),.dead,[]⟩:=pN 19 [] 4 3 (.k 1 E (.c t (.n 12 (.a (rU [.bool,.str,.str,.int .i64] d rfl) (.c C (.c y (.k 5 p (.c I (.k 6 p (.c H (.c u .nil))))))))))) (.v 54 (.eq z) (.b 53 i (.c F (.v 43 (.rd [.bool,.str,.str,.int .i64] d rfl) (.v 32 (.ppt G) (.v 28 (.ppt r) .nil)))))) w
theorem aec (x:Nd) (o h f:Oq) (ne r t q:Bool) (k i j:Nat) (k1 v1 k2 m J G z H:List AV) (e:List Nd) (A:List (List Nat)) (c:List Oq) (ls:List Lk) (p:List Sc) {nt:Nat} (B:56≤nt) (v:(List.drop ((Int.toNat (k:Int))*5) (bC e))=yZ x++J) (O:(List.drop ((Int.toNat (k:Int))*1) (dA A))= [.sl [.int .i64 (i:Int),.int .i64 (j:Int)] 2 false]++G) (d:(List.drop ((0+(Int.toNat (i:Int)))*4) (gp c))=Cc h++z) (g:(List.drop ((0+(Int.toNat (j:Int)))*4) (gp c))=Cc f++H) (n:((List.take (c.length*4) (gp c))++ [.bool o.n,.str o.a,.str o.d,.int .i64 o.e])=(gp (c++ [o]))) (F:AV.int .i64 (IntKind.wrap .i64 ((k:Int)+((1:Nat):Int)))=AV.int .i64 ((k+1:Nat):Int)) (M:(Nat.ble (c.length+1) 1099511627776)=true) (w:(Nat.ble (c.length*4) (List.length (gp c)))=true) (I:(decide (((0:Nat):Int)≤(j:Int)))=true) (D:(decide ((j:Int)<(c.length:Int)))=true) (K:(decide (((0:Nat):Int)≤(i:Int)))=true) (P:(decide ((i:Int)<(c.length:Int)))=true) (u:(decide (((0:Nat):Int)≤(k:Int)))=true) (y:(decide ((k:Int)<(A.length:Int)))=true) (E:(decide ((k:Int)<(e.length:Int)))=true) (C:lit true (decide ((k:Int)<(e.length:Int)))=true) (N:CO 46 [.agg [.mp k1 v1,.mp k2 m],.agg [.int .i64 x.op,.bool x.neg,.str x.num,.str x.den,.str x.name],.sl [.bool h.n,.str h.a,.str h.d,.int .i64 h.e,.bool f.n,.str f.a,.str f.d,.int .i64 f.e] 2 true] (.ret (fH o))):au prog ap [] nt (af 0 (ah f19)) ⟨[(3,.ptr 0 0 0),(5,.sl (dA A) A.length q),(7,.ptr 1 0 0),(8,.ref 2 0 0 c.length),(23,.sl (bC e) e.length ne),(24,.int .i64 (e.length:Int)),(25,.int .i64 (k:Int))],(MS ls p r t k1 v1 k2 m++ [(2,⟨(gp c),0,false,0,4,true⟩)]),.dead,[]⟩ (.normal) ⟨[(3,.ptr 0 0 0),(5,.sl (dA A) A.length q),(7,.ptr 1 0 0),(8,.ref 2 0 0 (c.length+1)),(23,.sl (bC e) e.length ne),(24,.int .i64 (e.length:Int)),(25,.int .i64 ((k+1:Nat):Int))],(MS ls p r t k1 v1 k2 m++ [(2,⟨(gp (c++ [o])),0,false,0,4,true⟩)]),.dead,[]⟩:=pN 19 [] 5 11 (.k 1 M (.c w (.n 13 (.a (rU [.bool,.str,.str,.int .i64] g rfl) (.c I (.c D (.n 7 (.a (rU [.bool,.str,.str,.int .i64] d rfl) (.c K (.c P (.k 5 u (.c y (.k 6 u (.c E (.c C .nil))))))))))))))) (.v 54 (.eq F) (.b 53 n (.c N (.v 43 (.rd [.bool,.str,.str,.int .i64] g rfl) (.v 43 (.rd [.bool,.str,.str,.int .i64] d rfl) (.v 32 (.ppt O) (.v 28 (.ppt v) .nil))))))) B
theorem aed (x:Nd) (o j g h:Oq) (ne z B w:Bool) (k m p n:Nat) (k1 v1 k2 q P M G N C:List AV) (e:List Nd) (A:List (List Nat)) (c:List Oq) (ls:List Lk) (v:List Sc) {nt:Nat} (H:56≤nt) (D:(List.drop ((Int.toNat (k:Int))*5) (bC e))=yZ x++P) (T:(List.drop ((Int.toNat (k:Int))*1) (dA A))= [.sl [.int .i64 (m:Int),.int .i64 (p:Int),.int .i64 (n:Int)] 3 false]++M) (f:(List.drop ((0+(Int.toNat (m:Int)))*4) (gp c))=Cc j++G) (i:(List.drop ((0+(Int.toNat (p:Int)))*4) (gp c))=Cc g++N) (d:(List.drop ((0+(Int.toNat (n:Int)))*4) (gp c))=Cc h++C) (u:((List.take (c.length*4) (gp c))++ [.bool o.n,.str o.a,.str o.d,.int .i64 o.e])=(gp (c++ [o]))) (K:AV.int .i64 (IntKind.wrap .i64 ((k:Int)+((1:Nat):Int)))=AV.int .i64 ((k+1:Nat):Int)) (R:(Nat.ble (c.length+1) 1099511627776)=true) (E:(Nat.ble (c.length*4) (List.length (gp c)))=true) (O:(decide (((0:Nat):Int)≤(n:Int)))=true) (J:(decide ((n:Int)<(c.length:Int)))=true) (Q:(decide (((0:Nat):Int)≤(p:Int)))=true) (V:(decide ((p:Int)<(c.length:Int)))=true) (U:(decide (((0:Nat):Int)≤(m:Int)))=true) (F:(decide ((m:Int)<(c.length:Int)))=true) (y:(decide (((0:Nat):Int)≤(k:Int)))=true) (I:(decide ((k:Int)<(A.length:Int)))=true) (t:(decide ((k:Int)<(e.length:Int)))=true) (r:lit true (decide ((k:Int)<(e.length:Int)))=true) (S:CO 46 [.agg [.mp k1 v1,.mp k2 q],.agg [.int .i64 x.op,.bool x.neg,.str x.num,.str x.den,.str x.name],.sl [.bool j.n,.str j.a,.str j.d,.int .i64 j.e,.bool g.n,.str g.a,.str g.d,.int .i64 g.e,.bool h.n,.str h.a,.str h.d,.int .i64 h.e] 3 true] (.ret (fH o))):au prog ap [] nt (af 0 (ah f19)) ⟨[(3,.ptr 0 0 0),(5,.sl (dA A) A.length w),(7,.ptr 1 0 0),(8,.ref 2 0 0 c.length),(23,.sl (bC e) e.length ne),(24,.int .i64 (e.length:Int)),(25,.int .i64 (k:Int))],(MS ls v z B k1 v1 k2 q++ [(2,⟨(gp c),0,false,0,4,true⟩)]),.dead,[]⟩ (.normal) ⟨[(3,.ptr 0 0 0),(5,.sl (dA A) A.length w),(7,.ptr 1 0 0),(8,.ref 2 0 0 (c.length+1)),(23,.sl (bC e) e.length ne),(24,.int .i64 (e.length:Int)),(25,.int .i64 ((k+1:Nat):Int))],(MS ls v z B k1 v1 k2 q++ [(2,⟨(gp (c++ [o])),0,false,0,4,true⟩)]),.dead,[]⟩:=pN 19 [] 6 27 (.k 1 R (.c E (.n 13 (.a (rU [.bool,.str,.str,.int .i64] d rfl) (.c O (.c J (.n 8 (.a (rU [.bool,.str,.str,.int .i64] i rfl) (.c Q (.c V (.n 7 (.a (rU [.bool,.str,.str,.int .i64] f rfl) (.c U (.c F (.k 5 y (.c I (.k 6 y (.c t (.c r .nil))))))))))))))))))) (.v 54 (.eq K) (.b 53 u (.c S (.v 43 (.rd [.bool,.str,.str,.int .i64] d rfl) (.v 43 (.rd [.bool,.str,.str,.int .i64] i rfl) (.v 43 (.rd [.bool,.str,.str,.int .i64] f rfl) (.v 32 (.ppt T) (.v 28 (.ppt D) .nil)))))))) H
theorem ahJ (ne f g i:Bool) (k1 v1 k2 h:List AV) (e:List Nd) (A:List (List Nat)) (d:List Oq) (ls:List Lk) (c:List Sc) (j:CO 24 [.sl (bC e) e.length ne] (.ret (.tup [.sl (dA A) A.length i,.bool true]))) (k:CO 45 [.agg [.sl (kE ls) ls.length f,.sl (kS c) c.length g]] (.ret (.agg [.mp k1 v1,.mp k2 h]))) (m:aK prog ap [] 56 (.block 0 (.loop (af 0 (ah f19)))) ⟨[(0,.sl (bC e) e.length ne),(1,.agg [.sl (kE ls) ls.length f,.sl (kS c) c.length g]),(3,.ptr 0 0 0),(4,.nilS),(5,.sl (dA A) A.length i),(6,.bool true),(7,.ptr 1 0 0),(8,.nilS),(9,.dead),(10,.dead),(11,.dead),(13,.dead),(20,.bool false),(23,.sl (bC e) e.length ne),(24,.int .i64 (e.length:Int)),(25,.int .i64 0),(26,.dead),(33,.dead),(34,.dead),(35,.dead),(36,.dead)],(MS ls c f g k1 v1 k2 h),.dead,[]⟩ (.normal) ⟨[(8,.ref 0 0 0 d.length)],[(0,⟨(gp d),0,false,0,4,true⟩)],.dead,[]⟩):CO 19 [.sl (bC e) e.length ne,.agg [.sl (kE ls) ls.length f,.sl (kS c) c.length g]] (.ret (.own (List.take (d.length*4) (gp d)) d.length 4)):=pK [0] 1 0 (.n 4 .nil) (.l m (.c k (.c j .nil)))
theorem ahK (ne f g:Bool) (e:List Nd) (ls:List Lk) (c:List Sc) (d:CO 24 [.sl (bC e) e.length ne] (.ret (.tup [.nilS,.bool false]))):CO 19 [.sl (bC e) e.length ne,.agg [.sl (kE ls) ls.length f,.sl (kS c) c.length g]] (.ret (.nilS)):=pK [] 1 1 (.n 1 .nil) (.c d .nil)
theorem ahe (o:Oq) (ne f g:Bool) (k:Nat) (r:List AV) (e:List Nd) (c:List Oq) (ls:List Lk) (d:List Sc) (h:(List.drop ((0+(Int.toNat (k:Int)))*4) (gp c))=Cc o++r) (i:AV.int .i64 (IntKind.wrap .i64 ((c.length:Int) - ((1:Nat):Int)))=AV.int .i64 (k:Int)) (p:(decide (((0:Nat):Int)≤(k:Int)))=true) (n:(decide ((k:Int)<(c.length:Int)))=true) (m:lit false ((c.length:Int)==((0:Nat):Int))=true) (j:CO 19 [.sl (bC e) e.length ne,.agg [.sl (kE ls) ls.length f,.sl (kS d) d.length g]] (.ret (.own (gp c) c.length 4))):CO 21 [.sl (bC e) e.length ne,.agg [.sl (kE ls) ls.length f,.sl (kS d) d.length g]] (.ret (fH o)):=pK [] 1 0 (.n 5 (.a (rU [.bool,.str,.str,.int .i64] h rfl) (.c p (.c n (.c m (.n 2 .nil)))))) (.v 18 (.rd [.bool,.str,.str,.int .i64] h rfl) (.v 16 (.eq i) (.c j .nil)))
theorem ahd (ne d f:Bool) (e:List Nd) (ls:List Lk) (c:List Sc) (g:CO 19 [.sl (bC e) e.length ne,.agg [.sl (kE ls) ls.length d,.sl (kS c) c.length f]] (.ret (.nilS))) (h:CO 41 [.int .i64 11] (.ret (.agg [.bool false,.str [],.str [],.int .i64 11]))):CO 21 [.sl (bC e) e.length ne,.agg [.sl (kE ls) ls.length d,.sl (kS c) c.length f]] (.ret (.agg [.bool false,.str [],.str [],.int .i64 11])):=pK [] 1 1 (.n 8 .nil) (.c h (.c g .nil))
def MZ (E:dW) (A:List (List Nat)):List Nd→List Oq→List Oq
 | [],os=>os
 |x::r,os=>MZ E A r (os++ [dD E x ((A.getD os.length []).map fun j=>os.getD j zO)])
def dL (E:dW) (e:List Nd):List Oq:=MZ E (eP e) e []
def uA (E:dW) (e:List Nd):Oq:=if bW e=0 then (dL E e).getLastD (.err 11) else .err 11
theorem zf (l:List Oq):(gp l).length=l.length*4:=nX Cc 4 (fun _=>rfl) l
theorem oG {l:List Oq} {k:Nat} (h:k<l.length):List.drop ((0+Int.toNat (k:Int))*4) (gp l)=Cc (l.getD k zO)++gp (l.drop (k+1)):=by
 rw [aJ,Nat.zero_add,List.getD_eq_getElem?_getD,List.getElem?_eq_getElem h]
 exact vO Cc 4 (fun _=>rfl) h
theorem uQ (l:List Oq) (o:Oq):List.take (l.length*4) (gp l)++ [.bool o.n,.str o.a,.str o.d,.int .i64 o.e]=gp (l++ [o]):=by
 rw [List.take_of_length_le (by rw [zf];exact Nat.le_refl _)]
 unfold gp;rw [List.flatMap_append];rfl
def teO (os:List Oq):AV:=match os with| []=> .nilS|_::_=> .ref 2 0 0 os.length
def teB (os:List Oq):Hp:=match os with| []=> []|_::_=> [(2,⟨gp os,0,false,0,4,true⟩)]
abbrev teS (E:dW) (nl ns ne na:Bool) (e:List Nd) (A:List (List Nat)) (os:List Oq):St:=⟨[(3,.ptr 0 0 0),(5,.sl (dA A) A.length na),(7,.ptr 1 0 0),(8,teO os),(23,.sl (bC e) e.length ne),(24,.int .i64 (e.length:Int)),(25,.int .i64 (os.length:Int))],MS E.ls (E.qs.map Sq.c) nl ns (Ac E.ls).1 (Ac E.ls).2 (Df (E.qs.map Sq.c)).1 (Df (E.qs.map Sq.c)).2++teB os,.dead,[]⟩
def acV (os:List Oq):St:=match os with| []=> ⟨[(8,.nilS)],[],.dead,[]⟩|_::_=> ⟨[(8,.ref 0 0 0 os.length)],[(0,⟨gp os,0,false,0,4,true⟩)],.dead,[]⟩
theorem Yh (E:dW) (d f ne g:Bool) (e:List Nd) (A:List (List Nat)) (c:List Oq) (o:Oq):teS E d f ne g e A (c++ [o])=⟨[(3,.ptr 0 0 0),(5,.sl (dA A) A.length g),(7,.ptr 1 0 0),(8,.ref 2 0 0 (c.length+1)),(23,.sl (bC e) e.length ne),(24,.int .i64 (e.length:Int)),(25,.int .i64 ((c.length+1:Nat):Int))],MS E.ls (E.qs.map Sq.c) d f (Ac E.ls).1 (Ac E.ls).2 (Df (E.qs.map Sq.c)).1 (Df (E.qs.map Sq.c)).2++ [(2,⟨gp (c++ [o]),0,false,0,4,true⟩)],.dead,[]⟩:=by
 cases c with
 |nil=>rfl
 |cons a r=>
  show (⟨[(3,_),(5,_),(7,_),(8,.ref 2 0 0 (a::r++ [o]).length),(23,_),(24,_),(25,.int .i64 (((a::r++ [o]).length:Nat):Int))],_,_,_⟩:St)=_
  rw [show (a::r++ [o]).length=(a::r).length+1 from List.length_append]
  rfl
theorem FQ (E:dW) (d f ne g:Bool) (e:List Nd) (A:List (List Nat)) {c:List Oq} (h:0<c.length):teS E d f ne g e A c=⟨[(3,.ptr 0 0 0),(5,.sl (dA A) A.length g),(7,.ptr 1 0 0),(8,.ref 2 0 0 c.length),(23,.sl (bC e) e.length ne),(24,.int .i64 (e.length:Int)),(25,.int .i64 (c.length:Int))],MS E.ls (E.qs.map Sq.c) d f (Ac E.ls).1 (Ac E.ls).2 (Df (E.qs.map Sq.c)).1 (Df (E.qs.map Sq.c)).2++ [(2,⟨gp c,0,false,0,4,true⟩)],.dead,[]⟩:=by
 cases c with
 |nil=>simp at h
 |cons a r=>rfl
theorem Rl {x:Nd} (h:aC x=0):Ya x:=by
 intro g e
 have c:iY x=true:=by
  cases d:iY x with
  |true=>rfl
  |false=>
   exfalso
   unfold aC at h
   rw [d] at h
   cases f:(!Z_ x.op||(!oV x.op && !(x.name== [])))<;>rw [f] at h<;>cases h
 unfold iY at c
 rw [show (x.op==((4:Nat):Int))=false from beq_eq_false_iff_ne.2 (by omega),show Oy x.op=false from decide_eq_false (by omega),show Pg x.op=true from decide_eq_true ⟨g,e⟩] at c
 simp only [cond,Bool.and_eq_true] at c
 exact ⟨c.1,by have:=of_decide_eq_true c.2;omega⟩
theorem PQ:∀ (r:List Nd) (d k:Nat),gZ r d= .inl k→∀ x ∈ r,aC x=0
 | [],_,_,_,x,hx=>by cases hx
 | y::r,d,k,h,x,hx=>by
  simp only [gZ] at h
  split at h
  ·rename_i c
   split at h
   ·cases h
   ·rcases List.mem_cons.1 hx with rfl|hx
    ·exact c
    ·exact PQ r _ k h x hx
  ·cases h
theorem jc {e:List Nd} (h:bW e=0):(∀ x ∈ e,aC x=0)∧e.length≤60∧0<e.length:=by
 unfold bW at h
 split at h
 ·cases h
 ·rename_i f
  cases c:gZ e 0 with
  |inl d=>
   refine ⟨PQ e 0 d c,by omega, ?_⟩
   cases e with
   |nil=>simp only [gZ] at c;cases c;simp [gZ] at h
   |cons _ _=>simp
  |inr w=>
   rw [c] at h
   exact absurd h (CP _ _ _ c)
structure dW.sm (E:dW):Prop where
 ls:E.ls.length<2^40
 qs:E.qs.length<2^40
 lk:∀ x ∈ E.ls,x.a.length<2^36∧x.d.length<2^36
 sq:∀ s ∈ E.qs,s.l.length<2^40∧∀ b ∈ s.l,b.s28
theorem ab4 {nt:Nat} (G:56≤nt) (E:dW) (z B ne y:Bool) {e:List Nd} (hE:E.sm) (Z:bW e=0) (X:∀ x ∈ e,x.sm):∀ (r p:List Nd) (c:List Oq),e=p++r→c.length=p.length→(∀ o ∈ c,o.ok)→
  aI prog ap [] nt (af 0 (ah f19)) (fun _=> .exit 0) (teS E z B ne y e (eP e)) acV c (MZ E (eP e) r c):=by
 obtain ⟨Y,h60,hpos⟩:=jc Z
 obtain ⟨hal,has⟩:=wY Z
 intro r
 induction r with
 |nil=>
  intro p c hp m F
  rw [List.append_nil] at hp
  subst hp
  cases c with
  |nil=>exact .done (ZT ne z B y 0 _ _ _ _ e (eP e) E.ls (E.qs.map Sq.c) G (aF (decide_eq_false (by simp at m;omega))))
  |cons a r=>exact .done (aea ne z B y (a::r).length _ _ _ _ e (eP e) (a::r) E.ls (E.qs.map Sq.c) G (aF (decide_eq_false (by omega))))
 | cons x r ih=>
  intro p c hp m F
  have N:c.length<e.length:=by rw [hp,m];simp
  have Q:e[c.length]=x:=by subst hp;simp [m]
  have I:x ∈ e:=by rw [← Q];exact List.getElem_mem N
  have J:List.drop (Int.toNat (c.length:Int)*5) (bC e)=yZ x++bC r:=by subst hp;exact Jl m
  obtain ⟨d,g⟩:=has c.length x (by rw [List.getElem?_eq_getElem N,Q])
  have K:=NG (A:=eP e) (k:=c.length) (by omega)
  have D:=rG (Y x I)
  have w:=fun (nn:Bool) (l:List Oq) (W:l.length=dX x.op) (hk:∀ o ∈ l,o.ok)=>KL E x nn l D.1 D.2 (Rl (Y x I)) W hk (X x I) hE.sq
  have O:∀ j,(c.getD j zO).ok∨c.length≤j:=fun j=>by
   rcases Nat.lt_or_ge j c.length with h|h
   ·left
    rw [List.getD_eq_getElem?_getD,List.getElem?_eq_getElem h]
    exact F _ (List.getElem_mem h)
   ·exact .inr h
  have f:∀ j ∈ (eP e).getD c.length [],(c.getD j zO).ok:=fun j S=>(O j).resolve_right (by have:=g j S;omega)
  have R:∀ l:List Nat,(∀ j ∈ l,(c.getD j zO).ok)→∀ o ∈ c++ [dD E x (l.map fun j=>c.getD j zO)],o.ok:=fun l W o C=>by
   rcases List.mem_append.1 C with C|C
   ·exact F o C
   ·rw [List.mem_singleton] at C
    subst C
    exact uN fun o C=>by
     obtain ⟨j,S,rfl⟩:=List.mem_map.1 C
     exact W j S
  have nx:=ih (p++ [x]) (c++ [dD E x (((eP e).getD c.length []).map fun j=>c.getD j zO)]) (by rw [hp];simp) (by simp [m]) (R _ f)
  refine .next ?_ nx
  rw [Yh]
  have P:decide (((0:Nat):Int)≤(c.length:Int))=true:=decide_eq_true (by omega)
  have M:decide ((c.length:Int)<(((eP e).length:Nat):Int))=true:=decide_eq_true (by omega)
  have v:decide ((c.length:Int)<(e.length:Int))=true:=decide_eq_true (by omega)
  have t:=Ci (i:=c.length) (by omega)
  have T:Nat.ble (c.length+1) 1099511627776=true:=Nat.ble_eq_true_of_le (by omega)
  have U:Nat.ble (c.length*4) (List.length (gp c))=true:=Nat.ble_eq_true_of_le (by rw [zf];exact Nat.le_refl _)
  have n:∀ j,j<c.length→decide (((0:Nat):Int)≤(j:Int))=true∧decide ((j:Int)<(c.length:Int))=true:=fun j S=> ⟨decide_eq_true (by omega),decide_eq_true (by omega)⟩
  generalize (eP e).getD c.length []=al at*
  have h3:=Iz x.op
  match al,d with
  | [],d=>
   have c0:=(w false [] d (by simp)).args (gQ.cons (aU.refl _) (gQ.cons (aU.refl _) (gQ.cons (aU.nilS false rfl) (gQ.refl _))))
   cases c with
   |nil=>exact ZR x _ ne z B y 0 _ _ _ _ _ _ e (eP e) E.ls (E.qs.map Sq.c) G J K t P M v (aG v) c0
   |cons a q=>
    exact ad_ x _ ne z B y _ _ _ _ _ _ _ e (eP e) (a::q) E.ls (E.qs.map Sq.c) G J K (uQ _ _) t T U P M v (aG v) c0
  | [i],d=>
   have u:=g i (by simp)
   rw [FQ _ _ _ _ _ _ _ (by omega)]
   exact aeb x _ (c.getD i zO) ne z B y _ i _ _ _ _ _ _ _ e (eP e) c E.ls (E.qs.map Sq.c) G J K (oG u) (uQ _ _) t T U (n i u).1 (n i u).2 P M v (aG v) (w true [c.getD i zO] d (by simpa using f i (by simp)))
  | [i,j],d=>
   have u:=g i (by simp)
   have H:=g j (by simp)
   rw [FQ _ _ _ _ _ _ _ (by omega)]
   exact aec x _ (c.getD i zO) (c.getD j zO) ne z B y _ i j _ _ _ _ _ _ _ _ e (eP e) c E.ls (E.qs.map Sq.c) G J K (oG u) (oG H) (uQ _ _) t T U (n j H).1 (n j H).2 (n i u).1 (n i u).2 P M v (aG v) (w true [c.getD i zO,c.getD j zO] d (by
    intro o m;simp at m;rcases m with rfl|rfl
    ·exact f i (by simp)
    ·exact f j (by simp)))
  | [i,j,h],d=>
   have u:=g i (by simp)
   have H:=g j (by simp)
   have V:=g h (by simp)
   rw [FQ _ _ _ _ _ _ _ (by omega)]
   exact aed x _ (c.getD i zO) (c.getD j zO) (c.getD h zO) ne z B y _ i j h _ _ _ _ _ _ _ _ _ e (eP e) c E.ls (E.qs.map Sq.c) G J K (oG u) (oG H) (oG V) (uQ _ _) t T U (n h V).1 (n h V).2 (n j H).1 (n j H).2 (n i u).1 (n i u).2 P M v (aG v) (w true [c.getD i zO,c.getD j zO,c.getD h zO] d (by
    intro o m;simp at m;rcases m with rfl|rfl|rfl
    ·exact f i (by simp)
    ·exact f j (by simp)
    ·exact f h (by simp)))
  |_::_::_::_::_,d=>simp only [List.length_cons] at d;omega
theorem Dl (E:dW) (A:List (List Nat)):∀ (r:List Nd) (os:List Oq),(MZ E A r os).length=os.length+r.length
 | [],os=>by simp [MZ]
 |x::r,os=>by rw [MZ,Dl E A r];simp;omega
theorem S_ (E:dW) (d f ne:Bool) {e:List Nd} (g:bW e ≠ 0) (c:∀ x ∈ e,x.sm):CO 19 [.sl (bC e) e.length ne,.agg [.sl (kE E.ls) E.ls.length d,.sl (kS (E.qs.map Sq.c)) (E.qs.map Sq.c).length f]] (.ret .nilS):=
 ahK ne d f e E.ls (E.qs.map Sq.c) (ags e ne (bW e) [] (by rw [show (bW e==((0:Nat):Int))=false from beq_eq_false_iff_ne.2 g];rfl) (DR e ne c))
theorem Ha (E:dW) (c d ne:Bool) {e:List Nd} (g:E.sm) (i:bW e=0) (f:∀ x ∈ e,x.sm):CO 19 [.sl (bC e) e.length ne,.agg [.sl (kE E.ls) E.ls.length c,.sl (kS (E.qs.map Sq.c)) (E.qs.map Sq.c).length d]] (.ret (.own (gp (dL E e)) (dL E e).length 4)):=by
 have j:(dL E e).length=e.length:=by unfold dL;rw [Dl];simp
 have k:=(jc i).2.2
 have p:=KN E.ls (E.qs.map Sq.c) c d (Nat.lt_trans g.ls (by decide)) (by rw [List.length_map];exact Nat.lt_trans g.qs (by decide)) g.lk
 have o:∀ nt,56≤nt→aI prog ap [] nt (af 0 (ah f19)) (fun _=> .exit 0) (teS E c d ne true e (eP e)) acV [] (dL E e):=fun nt n=>ab4 n E c d ne true g i f e [] [] rfl rfl (by simp)
 have m:=aI.blk (id:=0) (e':= .normal) (s:=⟨[(0,.sl (bC e) e.length ne),(1,.agg [.sl (kE E.ls) E.ls.length c,.sl (kS (E.qs.map Sq.c)) (E.qs.map Sq.c).length d]),(3,.ptr 0 0 0),(4,.nilS),(5,.sl (dA (eP e)) (eP e).length true),(6,.bool true),(7,.ptr 1 0 0),(8,.nilS),(9,.dead),(10,.dead),(11,.dead),(13,.dead),(20,.bool false),(23,.sl (bC e) e.length ne),(24,.int .i64 (e.length:Int)),(25,.int .i64 0),(26,.dead),(33,.dead),(34,.dead),(35,.dead),(36,.dead)],MS E.ls (E.qs.map Sq.c) c d (Ac E.ls).1 (Ac E.ls).2 (Df (E.qs.map Sq.c)).1 (Df (E.qs.map Sq.c)).2,.dead,[]⟩) (s':=⟨[(8,.ref 0 0 0 (dL E e).length)],[(0,⟨gp (dL E e),0,false,0,4,true⟩)],.dead,[]⟩) o (by simp) rfl (aO.of ⟨rfl,rfl,rfl,rfl,rfl,rfl,rfl,trivial⟩) (by
  generalize dL E e=t at j
  cases t with
  |nil=>simp at j;omega
  |cons a r=>exact aO.refl _)
 have h:=ahJ ne c d true _ _ _ _ e (eP e) (dL E e) E.ls (E.qs.map Sq.c) (U7 e ne f i) p m
 rw [List.take_of_length_le (by rw [zf];exact Nat.le_refl _)] at h
 exact h
theorem g_ (E:dW) (d f ne:Bool) {e:List Nd} (k:E.sm) (c:∀ x ∈ e,x.sm):CO 21 [.sl (bC e) e.length ne,.agg [.sl (kE E.ls) E.ls.length d,.sl (kS (E.qs.map Sq.c)) (E.qs.map Sq.c).length f]] (.ret (fH (uA E e))):=by
 unfold uA
 by_cases hc:bW e=0
 ·rw [if_pos hc]
  have j:=Ha E d f ne k hc c
  have m:(dL E e).length=e.length:=by unfold dL;rw [Dl];simp
  obtain ⟨_,i,g⟩:=jc hc
  have h:(dL E e).length - 1<(dL E e).length:=by omega
  have hlast:(dL E e).getLastD (.err 11)=(dL E e).getD ((dL E e).length - 1) zO:=by
   rw [List.getLastD_eq_getLast?,List.getLast?_eq_getElem?,List.getD_eq_getElem?_getD,List.getElem?_eq_getElem h];rfl
  rw [hlast]
  refine ahe _ ne d f ((dL E e).length - 1) _ e (dL E e) E.ls (E.qs.map Sq.c) (oG h) ?_ (decide_eq_true (by omega)) (decide_eq_true (by omega)) ?_ j
  ·congr 1
   rw [show (((dL E e).length:Nat):Int) - ((1:Nat):Int)=(((dL E e).length - 1:Nat):Int) by omega]
   exact bf (by omega)
  ·rw [show ((((dL E e).length:Nat):Int)==((0:Nat):Int))=false from beq_eq_false_iff_ne.2 (by omega)];rfl
 ·rw [if_neg hc]
  exact ahd ne d f e E.ls (E.qs.map Sq.c) (S_ E d f ne hc c) (iJ 11)
end Go.Proofs.Tryz
set_option maxRecDepth 100000
open Go AM
namespace Go.Proofs.Tryz
def E_ (ts:List Ty) (a:List Nat):List Ty:=a.map fun j=>ts.getD j zT
def wU (l:List Sg):List Nd→Nat→List Nat→List Ty→List Ty ⊕ Int
 | [],_,_,ts=> .inl ts
 |x::r,k,st,ts=>if (jh l x (E_ ts (st.drop (st.length - dX x.op)))).2=0 then wU l r (k+1) (st.take (st.length - dX x.op)++ [k]) (ts++ [(jh l x (E_ ts (st.drop (st.length - dX x.op)))).1]) else .inr (jh l x (E_ ts (st.drop (st.length - dX x.op)))).2
def Yv (l:List Sg) (ns:List Nd):List Ty ⊕ Int:=if bW ns=0 then wU l ns 0 [] [] else .inr (bW ns)
theorem yx {x:Nd} {r:List Nd} {d:Nat} (c:aC x=0) (h:dX x.op≤d):gZ (x::r) d=gZ r (d - dX x.op+1):=by
 simp only [gZ]
 rw [if_pos c,if_neg (by omega)]
theorem zD {l:List Sg} {x:Nd} {r:List Nd} {k:Nat} {st ws:List Nat} {ts own:List Ty} {t:Ty} (f:ws.length=dX x.op) (e:E_ ts ws=own) (d:jh l x own=(t,0)):wU l (x::r) k (st++ws) ts=wU l r (k+1) (st++ [k]) (ts++ [t]):=by
 have c:(st++ws).length - dX x.op=st.length:=by rw [List.length_append];omega
 simp only [wU,c,List.drop_left,List.take_left]
 rw [e,d]
 simp
theorem vU (ts d rest:List Ty) (c:Ty):(ts++(d++ [c])++rest).getD (ts.length+d.length) zT=c:=by
 rw [List.append_assoc,List.append_assoc,List.getD_eq_getElem?_getD,List.getElem?_append_right (by omega),List.getElem?_append_right (by omega)]
 simp
inductive Beg (ps:List (List Nat)):Nat→Nat→Prop where
 |z {i:Nat}:ps[i]? =some []→Beg ps i i
 |s {i c b:Nat} {r:List Nat}:ps[i]? =some (c::r)→c<i→Beg ps c b→Beg ps i b
structure Pf (l:List Sg) (e:List Nd) (u:List Ty) (ws:List Nat) (ps:Nat→List (List Nat)):Prop where
 len:u.length=e.length
 al:∀ k,(ps k).length=e.length
 emp:ws= []→e= []
 arg:∀ r k st,rM (e++r) k st=ps k++rM r (k+e.length) (st++ws.map (k+·))
 beg:∀ k pre post,pre.length=k→∀ i,i<e.length→∃ b,b≤i∧Beg (pre++(ps k++post)) (k+i) (k+b)∧Tm l ((e.drop b).take (i+1 - b)) (u.getD i zT)
 top:∀ w ws',ws=w::ws'→w<e.length∧∀ k pre post,pre.length=k→Beg (pre++(ps k++post)) (k+w) k
theorem Pf.nil (l:List Sg):Pf l [] [] [] (fun _=> []) where
 len:=rfl
 al _:=rfl
 emp _:=rfl
 arg r k st:=by simp
 beg k pre post hk i hi:=absurd hi (Nat.not_lt_zero _)
 top w ws' h:=by cases h
theorem Wj {α:Type} {a b:List α} {i:Nat} {z:α} (h:i<a.length):(a++b).getD i z=a.getD i z:=by
 rw [List.getD_eq_getElem?_getD,List.getElem?_append_left h,← List.getD_eq_getElem?_getD]
theorem Pf.app {l:List Sg} {e a:List Nd} {u n:List Ty} {ws j:List Nat} {ps m:Nat→List (List Nat)} (h:Pf l e u ws ps) (g:Pf l a n j m):Pf l (e++a) (u++n) (ws++j.map (e.length+·)) (fun k=>ps k++m (k+e.length)) where
 len:=by rw [List.length_append,List.length_append,h.len,g.len]
 al k:=by rw [List.length_append,List.length_append,h.al,g.al]
 emp q:=by
  rw [List.append_eq_nil_iff,List.map_eq_nil_iff] at q
  rw [h.emp q.1,g.emp q.2];rfl
 arg r k st:=by
  rw [List.append_assoc,h.arg,g.arg,List.length_append,List.map_append,List.map_map,List.append_assoc,List.append_assoc,Nat.add_assoc]
  congr 4
  have:j.map (k+e.length+·)=j.map ((k+·) ∘ (e.length+·)):=List.map_congr_left fun x _=>Nat.add_assoc ..
  rw [this]
 beg k pre post f i hi:=by
  rcases Nat.lt_or_ge i e.length with hl|hl
  ·obtain ⟨b,o,d,c⟩:=h.beg k pre (m (k+e.length)++post) f i hl
   refine ⟨b,o,by rw [List.append_assoc];exact d, ?_⟩
   rw [List.drop_append_of_le_length (by omega),List.take_append_of_le_length (by rw [List.length_drop];omega),Wj (by rw [h.len];exact hl)]
   exact c
  ·rw [List.length_append] at hi
   obtain ⟨b,o,d,c⟩:=g.beg (k+e.length) (pre++ps k) post (by rw [List.length_append,f,h.al]) (i - e.length) (by omega)
   refine ⟨e.length+b,by omega, ?_, ?_⟩
   ·rw [List.append_assoc,show k+e.length+(i - e.length)=k+i by omega,Nat.add_assoc] at d
    rw [List.append_assoc];exact d
   ·rw [List.drop_append,List.drop_of_length_le (by omega),List.nil_append,Nat.add_sub_cancel_left,show i+1 - (e.length+b)=i - e.length+1 - b by omega,List.getD_eq_getElem?_getD,List.getElem?_append_right (by rw [h.len];exact hl),h.len,← List.getD_eq_getElem?_getD]
    exact c
 top w ws' q:=by
  cases ws with
  |cons w0 w1=>
   obtain ⟨d,c⟩:=h.top w0 w1 rfl
   rw [List.cons_append,List.cons.injEq] at q
   rw [← q.1]
   refine ⟨by rw [List.length_append];omega,fun k pre post f=> ?_⟩
   rw [List.append_assoc]
   exact c k pre _ f
  | nil=>
   have t:=h.emp rfl
   subst t
   have p:ps 0= []:=List.length_eq_zero_iff.1 (h.al 0)
   cases j with
   |nil=>cases q
   |cons w0 w1=>
    obtain ⟨d,c⟩:=g.top w0 w1 rfl
    simp only [List.nil_append,List.map_cons,List.length_nil,Nat.zero_add,List.cons.injEq] at q
    rw [← q.1]
    refine ⟨by simpa using d,fun k pre post f=> ?_⟩
    have p:ps k= []:=List.length_eq_zero_iff.1 (h.al k)
    rw [p]
    exact c k pre post f
theorem Pf.node {l:List Sg} {e:List Nd} {u:List Ty} {ws:List Nat} {ps:Nat→List (List Nat)} {x:Nd} {t:Ty} (h:Pf l e u ws ps) (v:ws.length=dX x.op) (n:Tm l (e++ [x]) t):Pf l (e++ [x]) (u++ [t]) [u.length] (fun k=>ps k++ [ws.map (k+·)]):=by
 have key:∀ k pre post,pre.length=k→Beg (pre++(ps k++ [ws.map (k+·)]++post)) (k+e.length) k:=by
  intro k pre post c
  have j:(pre++(ps k++ [ws.map (k+·)]++post))[k+e.length]? =some (ws.map (k+·)):=by
   rw [List.getElem?_append_right (by omega),List.append_assoc,List.getElem?_append_right (by rw [h.al];omega),h.al,c,Nat.add_sub_cancel_left,Nat.sub_self];rfl
  cases ws with
  |nil=>
   have p:=h.emp rfl
   subst p
   exact .z j
  |cons w d=>
   obtain ⟨f,g⟩:=h.top w d rfl
   refine .s j (by show k+w<_;omega) ?_
   rw [List.append_assoc]
   exact g k pre _ c
 refine ⟨by simp [h.len],fun k=>by simp [h.al],(fun q=>by cases q),fun r k st=> ?_,fun k pre post c i m=> ?_,fun w d q=> ?_⟩
 ·have f:(st++ws.map (k+·)).length - dX x.op=st.length:=by rw [List.length_append,List.length_map];omega
  rw [List.append_assoc,h.arg,List.singleton_append,rM,f,List.drop_left,List.take_left,h.len]
  simp [Nat.add_assoc]
 ·rw [List.length_append,List.length_singleton] at m
  rcases Nat.lt_or_ge i e.length with hl|hl
  ·obtain ⟨b,o,f,g⟩:=h.beg k pre ([ws.map (k+·)]++post) c i hl
   refine ⟨b,o,by rw [List.append_assoc];exact f, ?_⟩
   rw [List.drop_append_of_le_length (by omega),List.take_append_of_le_length (by rw [List.length_drop];omega),Wj (by rw [h.len];exact hl)]
   exact g
  ·obtain rfl:i=e.length:=by omega
   refine ⟨0,Nat.zero_le _,key k pre post c, ?_⟩
   rw [List.drop_zero,List.take_of_length_le (by simp),List.getD_eq_getElem?_getD,List.getElem?_append_right (by rw [h.len];exact Nat.le_refl _),h.len,Nat.sub_self]
   exact n
 ·simp only [List.cons.injEq] at q
  rw [← q.1,h.len]
  exact ⟨by simp,key⟩
structure akB (l:List Sg) (e:List Nd) (t:Ty) (u:List Ty):Prop where
 len:e.length=u.length+1
 chk:∀ r d,gZ (e++r) d=gZ r (d+1)
 typ:∀ r k st ts,ts.length=k→wU l (e++r) k st ts=wU l r (k+e.length) (st++ [k+u.length]) (ts++(u++ [t]))
theorem Tm.runs {l:List Sg} {e:List Nd} {t:Ty} (h:Tm l e t):∃ u,akB l e t u∧∃ ps,Pf l e (u++ [t]) [u.length] ps:=by
 induction h with
 | @n0 x t hw ha ht=>
  refine ⟨[],⟨rfl,fun r d=> ?_,fun r k st ts i=> ?_⟩,_,(Pf.nil l).node (by rw [ha];rfl) (.n0 hw ha ht)⟩
  ·rw [List.singleton_append,yx hw (by omega),ha];rfl
  ·have:=zD (l:=l) (x:=x) (r:=r) (k:=k) (st:=st) (ws:= []) (ts:=ts) (own:= []) (t:=t) (by rw [ha];rfl) rfl ht
   rw [List.append_nil] at this
   simpa using this
 | @n1 x t ta a ma hw ha ht iha=>
  obtain ⟨f,⟨m,p,y⟩,_,q⟩:=iha
  refine ⟨f++ [ta],⟨by simp [m],fun r d=> ?_,fun r k st ts i=> ?_⟩,_,q.node (by rw [ha];rfl) (.n1 ma hw ha ht)⟩
  ·rw [List.append_assoc,p,List.singleton_append,yx hw (by omega),ha];rfl
  ·have:=zD (l:=l) (x:=x) (r:=r) (k:=k+a.length) (st:=st) (ws:= [k+f.length]) (ts:=ts++(f++ [ta])) (own:= [ta]) (t:=t) (by rw [ha];rfl) (by
    have:=vU ts f [] ta
    rw [List.append_nil,i] at this
    simp only [E_,List.map_cons,List.map_nil]
    rw [this]) ht
   rw [List.append_assoc,y _ k st ts i,List.singleton_append,this]
   simp [m,Nat.add_assoc]
 | @n2 x t ta tb a b ma mb hw ha ht iha ihb=>
  obtain ⟨f,⟨m,p,y⟩,_,q⟩:=iha
  obtain ⟨g,⟨z,A,C⟩,_,B⟩:=ihb
  refine ⟨f++ [ta]++(g++ [tb]),⟨by simp [m,z];omega,fun r d=> ?_,fun r k st ts i=> ?_⟩,_,(q.app B).node (by rw [ha];rfl) (.n2 ma mb hw ha ht)⟩
  ·rw [List.append_assoc,List.append_assoc,p,A,List.singleton_append,yx hw (by omega),ha];rfl
  ·have j:(ts++(f++ [ta])).length=k+a.length:=by simp [i,m]
   have:=zD (l:=l) (x:=x) (r:=r) (k:=k+a.length+b.length) (st:=st) (ws:= [k+f.length,k+a.length+g.length]) (ts:=ts++(f++ [ta])++(g++ [tb])) (own:= [ta,tb]) (t:=t) (by rw [ha];rfl) (by
    have w:=vU ts f (g++ [tb]) ta
    have v:=vU (ts++(f++ [ta])) g [] tb
    rw [i] at w
    rw [List.append_nil,j] at v
    simp only [E_,List.map_cons,List.map_nil]
    rw [w,v]) ht
   rw [List.append_assoc,List.append_assoc,y _ k st ts i,C _ _ _ _ j,List.singleton_append,List.append_assoc,List.singleton_append,this]
   refine congr (congr (congrArg (wU l r) ?_) ?_) ?_
   ·simp;omega
   ·congr 2;simp;omega
   ·simp
 | @n3 x t ta tb tc a b c ma mb mc hw ha ht iha ihb ihc=>
  obtain ⟨f,⟨m,p,y⟩,_,q⟩:=iha
  obtain ⟨g,⟨z,A,C⟩,_,B⟩:=ihb
  obtain ⟨n,⟨E,H,F⟩,_,G⟩:=ihc
  refine ⟨f++ [ta]++(g++ [tb])++(n++ [tc]),⟨by simp [m,z,E];omega,fun r d=> ?_,fun r k st ts i=> ?_⟩,_,((q.app B).app G).node (by rw [ha];rfl) (.n3 ma mb mc hw ha ht)⟩
  ·rw [List.append_assoc,List.append_assoc,List.append_assoc,p,A,H,List.singleton_append,yx hw (by omega),ha];rfl
  ·have j:(ts++(f++ [ta])).length=k+a.length:=by simp [i,m]
   have o:(ts++(f++ [ta])++(g++ [tb])).length=k+a.length+b.length:=by simp [i,m,z];omega
   have:=zD (l:=l) (x:=x) (r:=r) (k:=k+a.length+b.length+c.length) (st:=st) (ws:= [k+f.length,k+a.length+g.length,k+a.length+b.length+n.length]) (ts:=ts++(f++ [ta])++(g++ [tb])++(n++ [tc])) (own:= [ta,tb,tc]) (t:=t) (by rw [ha];rfl) (by
    have w:=vU ts f ((g++ [tb])++(n++ [tc])) ta
    have v:=vU (ts++(f++ [ta])) g (n++ [tc]) tb
    have D:=vU (ts++(f++ [ta])++(g++ [tb])) n [] tc
    rw [i,← List.append_assoc] at w
    rw [j] at v
    rw [List.append_nil,o] at D
    simp only [E_,List.map_cons,List.map_nil]
    rw [w,v,D]) ht
   rw [List.append_assoc,List.append_assoc,List.append_assoc,y _ k st ts i,C _ _ _ _ j,F _ _ _ _ o,List.singleton_append,List.append_assoc,List.append_assoc,List.singleton_append,List.singleton_append,this]
   refine congr (congr (congrArg (wU l r) ?_) ?_) ?_
   ·simp;omega
   ·congr 2;simp;omega
   ·simp
theorem Tm.check {l:List Sg} {e:List Nd} {t:Ty} (h:Tm l e t) (d:e.length≤60):bW e=0:=by
 obtain ⟨u,⟨f,c,g⟩,_⟩:=h.runs
 have:=c [] 0
 rw [List.append_nil] at this
 unfold bW
 rw [if_neg (by omega),this]
 simp [gZ]
theorem Tm.parts {l:List Sg} {e:List Nd} {t:Ty} (h:Tm l e t) (g:e.length≤60):∃ us,us.length=e.length∧Yv l e= .inl us∧∀ i,i<e.length→∃ b,b≤i∧Beg (eP e) i b∧Tm l ((e.drop b).take (i+1 - b)) (us.getD i zT):=by
 obtain ⟨u,⟨o,n,m⟩,ps,hp⟩:=h.runs
 have:=m [] 0 [] [] rfl
 rw [List.append_nil] at this
 refine ⟨u++ [t],hp.len, ?_,fun i k=> ?_⟩
 ·unfold Yv
  rw [if_pos (h.check g),this]
  simp [wU]
 ·have c:=hp.arg [] 0 []
  rw [List.append_nil,rM,List.append_nil] at c
  obtain ⟨b,f,d,j⟩:=hp.beg 0 [] [] rfl i k
  rw [Nat.zero_add,Nat.zero_add,List.append_nil,List.nil_append,← c] at d
  exact ⟨b,f,d,j⟩
end Go.Proofs.Tryz
