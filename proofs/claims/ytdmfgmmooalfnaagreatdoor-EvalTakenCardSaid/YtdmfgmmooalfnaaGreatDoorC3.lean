/- Contracts of functions that the law reaches, each by its own hypotheses; joined by a program of mine. -/
import Derived.Test.YtdmfgmmooalfnaaGreatDoorC2
import Derived.Test.YtdmfgmmooalfnaaGreatDoorM5
import Derived.Test.YtdmfgmmooalfnaaGreatDoorC1
set_option linter.unusedSimpArgs false
set_option linter.unusedVariables false
set_option maxRecDepth 100000
open Go AM
namespace Go.Proofs.Tryz
abbrev zcc3_0 : List UInt8 := [115,105,110,103,108,101]
abbrev zcc3_1 : List UInt8 := [105,110,99,111,109,101]
abbrev zcc3_2 : List UInt8 := [115,99,97,108,101]
abbrev zcc3_3 : List UInt8 := [98,97,115,105,99]
def RQ.rt (q:RQ):Rat:=(if q.neg then -1 else 1)*(q.n:Rat) / (q.d:Rat)
theorem zf {x:Nat} (h:0<x):(x:Rat) ≠ 0:=by
 intro e
 have:x=0:=by exact_mod_cast e
 omega
theorem JO (c:Bool) (n d:Nat) (h:0<d):(g_ c n d).rt=(if c then -1 else 1)*(n:Rat) / (d:Rat):=by
 obtain ⟨a,j⟩:=Nat.gcd_dvd_left n d
 obtain ⟨b,i⟩:=Nat.gcd_dvd_right n d
 have e:0<Nat.gcd n d:=Nat.gcd_pos_of_pos_right n h
 unfold g_ RQ.rt
 simp only
 generalize Nat.gcd n d=g at*
 subst j i
 rw [Nat.mul_div_cancel_left _ e,Nat.mul_div_cancel_left _ e]
 have f:0<b:=Nat.pos_of_mul_pos_left h
 have m:=zf e
 have o:=zf f
 have k:((if (c && decide (0<g*a))=true then -1 else 1:Rat))*(a:Rat)=(if c=true then -1 else 1)*(a:Rat):=by
  rcases Nat.eq_zero_or_pos a with h0|h0
  ·subst h0;simp
  ·rw [decide_eq_true (Nat.mul_pos e h0),Bool.and_true]
 rw [k,Rat.natCast_mul,Rat.natCast_mul]
 grind
theorem agy (q:RQ):(zg q).rt= - q.rt:=by
 unfold zg RQ.rt
 rcases Nat.eq_zero_or_pos q.n with h0|h0
 ·simp [h0];grind
 ·cases q.neg<;>simp [h0]<;>grind
theorem XX {a b:RQ} (i:a.ok) (j:b.ok):(iV a b).rt=a.rt+b.rt:=by
 have m:=zf i.1
 have k:=zf j.1
 have hd:0<a.d*b.d:=Nat.mul_pos i.1 j.1
 unfold iV
 split
 ·rename_i hs
  rw [JO _ _ _ hd,Rat.natCast_add,Rat.natCast_mul,Rat.natCast_mul,Rat.natCast_mul]
  unfold RQ.rt
  rw [hs]
  cases b.neg<;>simp<;>grind
 ·rename_i hs
  split
  ·rename_i e
   obtain ⟨c,d⟩:=Nat.exists_eq_add_of_le e
   have h:(a.n:Rat)*b.d=b.n*a.d+c:=by
    have:=congrArg (fun x:Nat=>(x:Rat)) d
    simpa only [Rat.natCast_add,Rat.natCast_mul] using this
   rw [d,Nat.add_sub_cancel_left,JO _ _ _ hd,Rat.natCast_mul]
   unfold RQ.rt
   cases g:a.neg<;>cases f:b.neg<;>simp [g,f] at hs ⊢ <;>grind
  ·rename_i e
   obtain ⟨c,d⟩:=Nat.exists_eq_add_of_le (Nat.le_of_not_le e)
   have h:(b.n:Rat)*a.d=a.n*b.d+c:=by
    have:=congrArg (fun x:Nat=>(x:Rat)) d
    simpa only [Rat.natCast_add,Rat.natCast_mul] using this
   rw [d,Nat.add_sub_cancel_left,JO _ _ _ hd,Rat.natCast_mul]
   unfold RQ.rt
   cases g:a.neg<;>cases f:b.neg<;>simp [g,f] at hs ⊢ <;>grind
theorem agx {a b:RQ} (i:a.ok) (e:b.ok) (h:a.rt=b.rt):a=b:=by
 have key:∀ q:RQ,q.ok→∃ h1 h2,q.rt=(⟨if q.neg then -(q.n:Int) else q.n,q.d,h1,h2⟩:Rat):=by
  intro q f
  refine ⟨Nat.pos_iff_ne_zero.1 f.1, ?_, ?_⟩
  ·show Nat.gcd _ _=1
   rw [← f.2.1];split<;>simp
  ·rw [Rat.mk_eq_mkRat]
   unfold RQ.rt
   rw [Rat.mkRat_eq_div]
   cases q.neg<;>simp [Rat.intCast_natCast]<;>grind
 obtain ⟨_,_,m⟩:=key a i
 obtain ⟨_,_,j⟩:=key b e
 rw [m,j] at h
 have c:=congrArg Rat.num h
 have hd:=congrArg Rat.den h
 simp only at c hd
 obtain ⟨n,o,t⟩:=a
 obtain ⟨k,p,r⟩:=b
 simp only at c hd
 have g:=i.2.2
 have d:=e.2.2
 simp only at g d
 cases n<;>cases k<;>simp at c g d ⊢ <;>omega
theorem agA {a b:RQ} (c:a.ok) (d:(zg b).ok):(ji a b).rt=a.rt - b.rt:=by
 unfold ji;rw [XX c d,agy];grind
theorem RG {q:RQ} (h:q.ok):(wO q<0↔q.rt<0)∧(wO q=0↔q.rt=0)∧(0<wO q↔0<q.rt):=by
 have d:=zf h.1
 have hd:(0:Rat)<q.d:=by
  have:0<q.d:=h.1
  exact_mod_cast this
 unfold wO RQ.rt
 rcases Nat.eq_zero_or_pos q.n with h0|h0
 ·have:(0:Rat) / q.d=0:=by grind
  simp [h0,this]
 ·have c:(0:Rat)<q.n:=by exact_mod_cast h0
  have hp:(0:Rat)<(q.n:Rat) / q.d:=(by rw [Rat.div_def];exact Rat.mul_pos c (Rat.inv_pos.2 hd))
  rw [if_neg (by omega)]
  cases q.neg<;>simp<;>grind
def flI (q:RQ):Int:=if q.neg then -((q.n / q.d+(if q.n % q.d=0 then 0 else 1):Nat):Int) else ((q.n / q.d:Nat):Int)
def TR (k:Int):RQ:=⟨decide (k<0),k.natAbs,1⟩
theorem QB (k:Int):(TR k).ok:=⟨Nat.one_pos,Nat.gcd_one_right _,fun h=>by
 have:k<0:=of_decide_eq_true h
 show 0<k.natAbs
 omega⟩
def C9 (a s:RQ):RQ:=nC (TR (flI (ui a s))) s
def eqR (a b:RQ):Bool:=(a.neg==b.neg) && ((af a.n==af b.n) && (af a.d==af b.d))
theorem ZT {a b:RQ}:eqR a b=true↔a=b:=by
 obtain ⟨s,n,d⟩:=a
 obtain ⟨s',e,c⟩:=b
 simp only [eqR,Bool.and_eq_true,beq_iff_eq,RQ.mk.injEq]
 exact ⟨fun h=> ⟨h.1,EX h.2.1,EX h.2.2⟩,fun h=> ⟨h.1,by rw [h.2.1],by rw [h.2.2]⟩⟩
def upR (a s:RQ):RQ:=if eqR (C9 a s) a=true then a else iV (C9 a s) s
def nrR (a s:RQ):RQ:=if 0≤lD (iV (ji a (C9 a s)) (ji a (C9 a s))) s then iV (C9 a s) s else C9 a s
theorem qj {a b:RQ} (c:a.ok) (d:b.ok):(ji a b).ok:=jF c (Jw d)
theorem ab5 {a b:RQ} (c:a.ok) (d:b.ok):(ji a b).rt=a.rt - b.rt:=agA c (Jw d)
theorem CY {a b:RQ} (c:a.ok) (d:b.ok):(lD a b<0↔a.rt<b.rt)∧(lD a b=0↔a=b)∧(0<lD a b↔b.rt<a.rt):=by
 have h:=RG (qj c d)
 rw [ab5 c d] at h
 unfold lD
 refine ⟨h.1.trans ?_,h.2.1.trans ?_,h.2.2.trans ?_⟩
 ·constructor<;>intro _<;>grind
 ·constructor
  ·intro e;exact agx c d (by grind)
  ·intro e;rw [e];grind
 ·constructor<;>intro _<;>grind
theorem agz {s:RQ} (hs:s.ok) (h:0<wO s):0<s.rt∧0<s.n:=by
 refine ⟨(RG hs).2.2.1 h, ?_⟩
 unfold wO at h;split at h<;>omega
theorem xx {a s:RQ} (hs:s.ok):(C9 a s).ok:=sQ (QB _) hs
def jc:RQ→List (RQ × RQ)→List RQ
 |acc,b::b'::l=>acc::jc (iV acc (nC (ji b'.1 b.1) b.2)) (b'::l)
 |acc,_=> [acc]
def iM (l:List (RQ × RQ)) (x:RQ):Nat:=(l.takeWhile fun b=> !(decide (0<lD b.1 x))).length
def atR (l:List (RQ × RQ)) (x:RQ):RQ:=iV ((jc q0 l).getD (iM l x - 1) q0) (nC (l.getD (iM l x - 1) (q0,q0)).2 (ji x (l.getD (iM l x - 1) (q0,q0)).1))
def jU:List (RQ × RQ)→Prop
 |b::b'::l=>b.1.rt<b'.1.rt∧jU (b'::l)
 |_=>True
theorem jU.all:∀ {b:RQ × RQ} {l:List (RQ × RQ)},jU (b::l)→∀ y ∈ l,b.1.rt<y.1.rt
 |b,[],_,y,hy=>by cases hy
 | b,b'::l,h,y,hy=>by
  rcases List.mem_cons.1 hy with rfl|hy
  ·exact h.1
  ·have:=jU.all h.2 y hy
   have:=h.1
   grind
theorem jU.tail {b:RQ × RQ} {l:List (RQ × RQ)} (h:jU (b::l)):jU l:=by
 cases l with
 |nil=>exact True.intro
 |cons _ _=>exact h.2
theorem Zl {b:RQ × RQ} {l:List (RQ × RQ)} {x:RQ} (h:¬ 0<lD b.1 x):iM (b::l) x=iM l x+1:=by
 unfold iM;rw [List.takeWhile_cons_of_pos (by simp at h ⊢;omega)];simp
end Go.Proofs.Tryz
set_option maxRecDepth 100000
set_option linter.unusedVariables false
open Go AM
namespace Go.Proofs.Tryz
inductive Oq where
 |err (e:Int)
 |val (q:RQ)
def Oq.n:Oq→Bool| .err _=>false| .val q=>q.neg
def Oq.a:Oq→List UInt8| .err _=> []| .val q=>af q.n
def Oq.d:Oq→List UInt8| .err _=> []| .val q=>af q.d
def Oq.e:Oq→Int| .err e=>e| .val _=>0
def Oq.q:Oq→RQ| .err _=>q0| .val q=>q
def Dj (o:Oq):List AV:= [.bool o.n,.str o.a,.str o.d,.int .i64 o.e]
abbrev fM (o:Oq):AV:= .agg [.bool o.n,.str o.a,.str o.d,.int .i64 o.e]
noncomputable def QE (t:Nat):AV→Bool:=match ap.tyAt t with|some ti=>kL ti|none=>fun _=>false
theorem iQ (e:Int):CO 41 [.int .i64 e] (.ret (.agg [.bool false,.str [],.str [],.int .i64 e])):=pK [] 0 0 (.n 5 .nil) (.nil)
theorem aeZ (n:Bool) (a d:List UInt8) (e:Int) (f:lit true (!(e==((0:Nat):Int)))=true) (c:CO 41 [.int .i64 e] (.ret (.agg [.bool false,.str [],.str [],.int .i64 e]))):CO 43 [.agg [.bool n,.str a,.str d,.int .i64 e]] (.ret (.agg [.bool false,.str [],.str [],.int .i64 e])):=pK [] 1 1 (.k 6 f (.n 1 .nil)) (.c c .nil)
theorem ae0 (n:Bool) (a d:List UInt8) (e:Int) (g:lit true (!(fA n a d))=true) (f:lit false (!(e==((0:Nat):Int)))=true) (c:CO 70 [.agg [.bool n,.str a,.str d]] (.ret (.bool (fA n a d)))) (h:CO 41 [.int .i64 3] (.ret (.agg [.bool false,.str [],.str [],.int .i64 3]))):CO 43 [.agg [.bool n,.str a,.str d,.int .i64 e]] (.ret (.agg [.bool false,.str [],.str [],.int .i64 3])):=pK [] 2 2 (.k 5 g (.k 3 f (.n 1 .nil))) (.c h (.c c .nil))
theorem ae1 (n:Bool) (a d:List UInt8) (e:Int) (g:lit false (!(fA n a d))=true) (f:lit false (!(e==((0:Nat):Int)))=true) (c:CO 70 [.agg [.bool n,.str a,.str d]] (.ret (.bool (fA n a d)))):CO 43 [.agg [.bool n,.str a,.str d,.int .i64 e]] (.ret (.agg [.bool n,.str a,.str d,.int .i64 e])):=pK [] 2 0 (.k 9 g (.k 3 f (.n 1 .nil))) (.c c .nil)
theorem afb (n:Bool) (a d:List UInt8) (o:Oq) (c:CO 43 [.agg [.bool n,.str a,.str d,.int .i64 0]] (.ret (fM o))):CO 124 [.agg [.bool n,.str a,.str d]] (.ret (fM o)):=pK [] 0 0 (.n 8 .nil) (.c c .nil)
theorem ae9 (b:Bool) (o:Oq) (d:lit true b=true) (c:CO 42 [.int .i64 1] (.ret (.agg [.bool false,.str (af 1),.str (af 1)]))) (e:CO 124 [.agg [.bool false,.str (af 1),.str (af 1)]] (.ret (fM o))):CO 126 [.bool b] (.ret (fM o)):=pK [] 1 1 (.k 5 d .nil) (.c e (.c c .nil))
theorem ae_ (b:Bool) (o:Oq) (d:lit false b=true) (c:CO 42 [.int .i64 0] (.ret (.agg [.bool false,.str (af 0),.str (af 1)]))) (e:CO 124 [.agg [.bool false,.str (af 0),.str (af 1)]] (.ret (fM o))):CO 126 [.bool b] (.ret (fM o)):=pK [] 1 0 (.k 5 d .nil) (.c e (.c c .nil))
theorem aeF (n:Bool) (a d:List UInt8) (e:lit true ((n==false) && ((a==(af 1)) && ((d==(af 1)) && true)))=true) (c:CO 42 [.int .i64 1] (.ret (.agg [.bool false,.str (af 1),.str (af 1)]))):CO 128 [.agg [.bool n,.str a,.str d]] (.ret (.tup [.bool ((n==false) && ((a==(af 1)) && ((d==(af 1)) && true))),.bool true])):=pK [] 1 1 (.c e (.n 3 .nil)) (.c c .nil)
theorem aeG (n:Bool) (a d:List UInt8) (e:lit false ((n==false) && ((a==(af 1)) && ((d==(af 1)) && true)))=true) (c:CO 42 [.int .i64 1] (.ret (.agg [.bool false,.str (af 1),.str (af 1)]))) (f:CO 42 [.int .i64 0] (.ret (.agg [.bool false,.str (af 0),.str (af 1)]))):CO 128 [.agg [.bool n,.str a,.str d]] (.ret (.tup [.bool ((n==false) && ((a==(af 1)) && ((d==(af 1)) && true))),.bool ((n==false) && ((a==(af 0)) && ((d==(af 1)) && true)))])):=pK [] 1 0 (.k 3 e (.n 3 .nil)) (.c f (.c c .nil))
theorem aeH (f nn:Bool) (d e c:List UInt8) (j:Int) (o:Oq) (ks vs h i xs:List AV) (k:Nat) (g:CO 124 [.agg [.bool f,.str d,.str e]] (.ret (fM o))):CO 75 [.agg [.mp ks vs,.mp h i],.agg [.int .i64 j,.bool f,.str d,.str e,.str c],.sl xs k nn] (.ret (fM o)):=pK [] 0 0 (.n 8 .nil) (.c g .nil)
theorem aeI (q nn e:Bool) (j m c:List UInt8) (d:Int) (i:Oq) (ks vs o n xs:List AV) (k:Nat) (f:AV.tup [(Option.getD (dP ks vs (.agg [.int .i64 d,.str c])) (.agg [.bool false,.str [],.str [],.int .i64 0])),.bool (Option.isSome (dP ks vs (.agg [.int .i64 d,.str c])))]= .tup [fM i,.bool e]) (p:lit true (!e)=true) (h:(List.all ks (QE 134))=true) (g:CO 41 [.int .i64 12] (.ret (.agg [.bool false,.str [],.str [],.int .i64 12]))):CO 76 [.agg [.mp ks vs,.mp o n],.agg [.int .i64 d,.bool q,.str j,.str m,.str c],.sl xs k nn] (.ret (.agg [.bool false,.str [],.str [],.int .i64 12])):=pK [] 1 1 (.k 5 p (.k 2 h (.n 3 .nil))) (.c g (.v 17 (.eq f) .nil))
theorem aeJ (p nn f:Bool) (i j c:List UInt8) (d:Int) (e:Oq) (ks vs n m xs:List AV) (k:Nat) (g:AV.tup [(Option.getD (dP ks vs (.agg [.int .i64 d,.str c])) (.agg [.bool false,.str [],.str [],.int .i64 0])),.bool (Option.isSome (dP ks vs (.agg [.int .i64 d,.str c])))]= .tup [fM e,.bool f]) (o:lit false (!f)=true) (h:(List.all ks (QE 134))=true):CO 76 [.agg [.mp ks vs,.mp n m],.agg [.int .i64 d,.bool p,.str i,.str j,.str c],.sl xs k nn] (.ret (fM e)):=pK [] 1 0 (.k 9 o (.k 2 h (.n 3 .nil))) (.v 17 (.eq g) .nil)
theorem aeB (p nn h j:Bool) (i k d:List UInt8) (q:Int) (c e f:Oq) (ks vs n m:List AV) (o:lit true (!(c.e==((0:Nat):Int)))=true) (g:CO 128 [.agg [.bool c.n,.str c.a,.str c.d]] (.ret (.tup [.bool h,.bool j]))):CO 77 [.agg [.mp ks vs,.mp n m],.agg [.int .i64 q,.bool p,.str i,.str k,.str d],.sl [.bool c.n,.str c.a,.str c.d,.int .i64 c.e,.bool e.n,.str e.a,.str e.d,.int .i64 e.e,.bool f.n,.str f.a,.str f.d,.int .i64 f.e] 3 nn] (.ret (fM c)):=pK [] 1 1 (.k 11 o (.n 8 .nil)) (.c g .nil)
theorem aeC (j nn m g:Bool) (o h d:List UInt8) (k:Int) (c e f:Oq) (ks vs q i:List AV) (r:lit true (!g)=true) (n:lit false (!(c.e==((0:Nat):Int)))=true) (p:CO 128 [.agg [.bool c.n,.str c.a,.str c.d]] (.ret (.tup [.bool m,.bool g]))) (t:CO 41 [.int .i64 13] (.ret (.agg [.bool false,.str [],.str [],.int .i64 13]))):CO 77 [.agg [.mp ks vs,.mp q i],.agg [.int .i64 k,.bool j,.str o,.str h,.str d],.sl [.bool c.n,.str c.a,.str c.d,.int .i64 c.e,.bool e.n,.str e.a,.str e.d,.int .i64 e.e,.bool f.n,.str f.a,.str f.d,.int .i64 f.e] 3 nn] (.ret (.agg [.bool false,.str [],.str [],.int .i64 13])):=pK [] 2 2 (.k 5 r (.c n (.n 8 .nil))) (.c t (.c p .nil))
theorem aeD (k nn h g:Bool) (o i e:List UInt8) (m:Int) (c d f:Oq) (ks vs r j:List AV) (t:lit true h=true) (n:lit false (!g)=true) (p:lit false (!(c.e==((0:Nat):Int)))=true) (q:CO 128 [.agg [.bool c.n,.str c.a,.str c.d]] (.ret (.tup [.bool h,.bool g]))):CO 77 [.agg [.mp ks vs,.mp r j],.agg [.int .i64 m,.bool k,.str o,.str i,.str e],.sl [.bool c.n,.str c.a,.str c.d,.int .i64 c.e,.bool d.n,.str d.a,.str d.d,.int .i64 d.e,.bool f.n,.str f.a,.str f.d,.int .i64 f.e] 3 nn] (.ret (fM d)):=pK [] 3 4 (.k 11 t (.c n (.c p (.n 8 .nil)))) (.c q .nil)
theorem aeE (k nn h g:Bool) (o i e:List UInt8) (m:Int) (c f d:Oq) (ks vs r j:List AV) (t:lit false h=true) (n:lit false (!g)=true) (p:lit false (!(c.e==((0:Nat):Int)))=true) (q:CO 128 [.agg [.bool c.n,.str c.a,.str c.d]] (.ret (.tup [.bool h,.bool g]))):CO 77 [.agg [.mp ks vs,.mp r j],.agg [.int .i64 m,.bool k,.str o,.str i,.str e],.sl [.bool c.n,.str c.a,.str c.d,.int .i64 c.e,.bool f.n,.str f.a,.str f.d,.int .i64 f.e,.bool d.n,.str d.a,.str d.d,.int .i64 d.e] 3 nn] (.ret (fM d)):=pK [] 3 0 (.k 11 t (.c n (.c p (.n 8 .nil)))) (.c q .nil)
theorem ZN (m nn:Bool) (g h e:List UInt8) (o c d:Oq) (r:RQ) (ks vs i j:List AV) (f:CO 123 [.int .i64 9] (.ret (.fn 167 [] []))) (n:CO 167 [.agg [.bool c.n,.str c.a,.str c.d],.agg [.bool d.n,.str d.a,.str d.d]] (.ret (.agg [.bool r.neg,.str (af r.n),.str (af r.d)]))) (k:CO 124 [.agg [.bool r.neg,.str (af r.n),.str (af r.d)]] (.ret (fM o))):CO 74 [.agg [.mp ks vs,.mp i j],.agg [.int .i64 9,.bool m,.str g,.str h,.str e],.sl [.bool c.n,.str c.a,.str c.d,.int .i64 c.e,.bool d.n,.str d.a,.str d.d,.int .i64 d.e] 2 nn] (.ret (fM o)):=pK [] 1 1 (.n 25 .nil) (.c k (.c n (.c f .nil)))
theorem ZF:CO 123 [.int .i64 9] (.ret (.fn 167 [] [])):=pK [] 1 1 (.n 1 .nil) (.nil)
theorem VY (m nn:Bool) (g h e:List UInt8) (o c d:Oq) (r:RQ) (ks vs i j:List AV) (f:CO 123 [.int .i64 10] (.ret (.fn 168 [] []))) (n:CO 168 [.agg [.bool c.n,.str c.a,.str c.d],.agg [.bool d.n,.str d.a,.str d.d]] (.ret (.agg [.bool r.neg,.str (af r.n),.str (af r.d)]))) (k:CO 124 [.agg [.bool r.neg,.str (af r.n),.str (af r.d)]] (.ret (fM o))):CO 74 [.agg [.mp ks vs,.mp i j],.agg [.int .i64 10,.bool m,.str g,.str h,.str e],.sl [.bool c.n,.str c.a,.str c.d,.int .i64 c.e,.bool d.n,.str d.a,.str d.d,.int .i64 d.e] 2 nn] (.ret (fM o)):=pK [] 1 1 (.n 25 .nil) (.c k (.c n (.c f .nil)))
theorem VM:CO 123 [.int .i64 10] (.ret (.fn 168 [] [])):=pK [] 2 2 (.n 2 .nil) (.nil)
theorem VZ (m nn:Bool) (g h e:List UInt8) (o c d:Oq) (r:RQ) (ks vs i j:List AV) (f:CO 123 [.int .i64 11] (.ret (.fn 169 [] []))) (n:CO 169 [.agg [.bool c.n,.str c.a,.str c.d],.agg [.bool d.n,.str d.a,.str d.d]] (.ret (.agg [.bool r.neg,.str (af r.n),.str (af r.d)]))) (k:CO 124 [.agg [.bool r.neg,.str (af r.n),.str (af r.d)]] (.ret (fM o))):CO 74 [.agg [.mp ks vs,.mp i j],.agg [.int .i64 11,.bool m,.str g,.str h,.str e],.sl [.bool c.n,.str c.a,.str c.d,.int .i64 c.e,.bool d.n,.str d.a,.str d.d,.int .i64 d.e] 2 nn] (.ret (fM o)):=pK [] 1 1 (.n 25 .nil) (.c k (.c n (.c f .nil)))
theorem VN:CO 123 [.int .i64 11] (.ret (.fn 169 [] [])):=pK [] 3 4 (.n 3 .nil) (.nil)
theorem V3 (m nn:Bool) (g h e:List UInt8) (o c d:Oq) (r:RQ) (ks vs i j:List AV) (f:CO 123 [.int .i64 12] (.ret (.nilF))) (n:CO 125 [.agg [.bool c.n,.str c.a,.str c.d],.agg [.bool d.n,.str d.a,.str d.d]] (.ret (.tup [.agg [.bool r.neg,.str (af r.n),.str (af r.d)],.bool true]))) (k:CO 124 [.agg [.bool r.neg,.str (af r.n),.str (af r.d)]] (.ret (fM o))):CO 74 [.agg [.mp ks vs,.mp i j],.agg [.int .i64 12,.bool m,.str g,.str h,.str e],.sl [.bool c.n,.str c.a,.str c.d,.int .i64 c.e,.bool d.n,.str d.a,.str d.d,.int .i64 d.e] 2 nn] (.ret (fM o)):=pK [] 3 2 (.n 32 .nil) (.c k (.c n (.c f .nil)))
theorem TA (m nn:Bool) (g h e:List UInt8) (c d:Oq) (ks vs j i:List AV) (f:CO 123 [.int .i64 12] (.ret (.nilF))) (n:CO 125 [.agg [.bool c.n,.str c.a,.str c.d],.agg [.bool d.n,.str d.a,.str d.d]] (.ret (.tup [.agg [.bool false,.str [],.str []],.bool false]))) (k:CO 41 [.int .i64 16] (.ret (.agg [.bool false,.str [],.str [],.int .i64 16]))):CO 74 [.agg [.mp ks vs,.mp j i],.agg [.int .i64 12,.bool m,.str g,.str h,.str e],.sl [.bool c.n,.str c.a,.str c.d,.int .i64 c.e,.bool d.n,.str d.a,.str d.d,.int .i64 d.e] 2 nn] (.ret (.agg [.bool false,.str [],.str [],.int .i64 16])):=pK [] 3 6 (.n 29 .nil) (.c k (.c n (.c f .nil)))
theorem KQ:CO 123 [.int .i64 12] (.ret (.nilF)):=pK [] 5 0 (.n 5 .nil) (.nil)
theorem KY (n m nn:Bool) (a d h i f:List UInt8) (o c e:Oq) (ks vs j k:List AV) (g:CO 123 [.int .i64 13] (.ret (.fn 166 [] [.pp [.int .i64 1] 0]))) (q:CO 166 [.agg [.bool c.n,.str c.a,.str c.d],.agg [.bool e.n,.str e.a,.str e.d],.pp [.int .i64 1] 0] (.ret (.agg [.bool n,.str a,.str d]))) (p:CO 124 [.agg [.bool n,.str a,.str d]] (.ret (fM o))):CO 74 [.agg [.mp ks vs,.mp j k],.agg [.int .i64 13,.bool m,.str h,.str i,.str f],.sl [.bool c.n,.str c.a,.str c.d,.int .i64 c.e,.bool e.n,.str e.a,.str e.d,.int .i64 e.e] 2 nn] (.ret (fM o)):=pK [] 1 1 (.n 25 .nil) (.c p (.c q (.c g .nil)))
theorem KR (c:CO 165 [.int .i64 1] (.ret (.fn 166 [] [.pp [.int .i64 1] 0]))):CO 123 [.int .i64 13] (.ret (.fn 166 [] [.pp [.int .i64 1] 0])):=pK [] 4 8 (.n 4 .nil) (.c c .nil)
theorem K_ (n m nn:Bool) (a d h i f:List UInt8) (o c e:Oq) (ks vs j k:List AV) (g:CO 123 [.int .i64 14] (.ret (.fn 166 [] [.pp [.int .i64 (-1)] 0]))) (q:CO 166 [.agg [.bool c.n,.str c.a,.str c.d],.agg [.bool e.n,.str e.a,.str e.d],.pp [.int .i64 (-1)] 0] (.ret (.agg [.bool n,.str a,.str d]))) (p:CO 124 [.agg [.bool n,.str a,.str d]] (.ret (fM o))):CO 74 [.agg [.mp ks vs,.mp j k],.agg [.int .i64 14,.bool m,.str h,.str i,.str f],.sl [.bool c.n,.str c.a,.str c.d,.int .i64 c.e,.bool e.n,.str e.a,.str e.d,.int .i64 e.e] 2 nn] (.ret (fM o)):=pK [] 1 1 (.n 25 .nil) (.c p (.c q (.c g .nil)))
theorem KT (c:CO 165 [.int .i64 (-1)] (.ret (.fn 166 [] [.pp [.int .i64 (-1)] 0]))):CO 123 [.int .i64 14] (.ret (.fn 166 [] [.pp [.int .i64 (-1)] 0])):=pK [] 5 16 (.n 5 .nil) (.c c .nil)
theorem V4 (n nn:Bool) (h i e:List UInt8) (g:Int) (o c d:Oq) (ks vs j k:List AV) (f:CO 123 [.int .i64 16] (.ret (.nilF))) (p:CO 127 [.agg [.bool c.n,.str c.a,.str c.d],.agg [.bool d.n,.str d.a,.str d.d]] (.ret (.int .i64 g))) (m:CO 126 [.bool (decide (g<((0:Nat):Int)))] (.ret (fM o))):CO 74 [.agg [.mp ks vs,.mp j k],.agg [.int .i64 16,.bool n,.str h,.str i,.str e],.sl [.bool c.n,.str c.a,.str c.d,.int .i64 c.e,.bool d.n,.str d.a,.str d.d,.int .i64 d.e] 2 nn] (.ret (fM o)):=pK [] 3 4 (.n 28 .nil) (.c m (.c p (.c f .nil)))
theorem VO:CO 123 [.int .i64 16] (.ret (.nilF)):=pK [] 5 0 (.n 5 .nil) (.nil)
theorem V5 (k nn:Bool) (g h e:List UInt8) (o c d:Oq) (ks vs i j:List AV) (f:CO 123 [.int .i64 17] (.ret (.nilF))) (m:CO 126 [.bool ((c.n==d.n) && ((c.a==d.a) && ((c.d==d.d) && true)))] (.ret (fM o))):CO 74 [.agg [.mp ks vs,.mp i j],.agg [.int .i64 17,.bool k,.str g,.str h,.str e],.sl [.bool c.n,.str c.a,.str c.d,.int .i64 c.e,.bool d.n,.str d.a,.str d.d,.int .i64 d.e] 2 nn] (.ret (fM o)):=pK [] 4 8 (.n 29 .nil) (.c m (.c f .nil))
theorem VP:CO 123 [.int .i64 17] (.ret (.nilF)):=pK [] 5 0 (.n 5 .nil) (.nil)
theorem V6 (i nn k f o j:Bool) (m g e:List UInt8) (d c:Oq) (ks vs r h:List AV) (t:lit true (!f)=true) (p:CO 123 [.int .i64 18] (.ret (.nilF))) (u:CO 128 [.agg [.bool d.n,.str d.a,.str d.d]] (.ret (.tup [.bool k,.bool f]))) (q:CO 128 [.agg [.bool c.n,.str c.a,.str c.d]] (.ret (.tup [.bool o,.bool j]))) (n:CO 41 [.int .i64 13] (.ret (.agg [.bool false,.str [],.str [],.int .i64 13]))):CO 74 [.agg [.mp ks vs,.mp r h],.agg [.int .i64 18,.bool i,.str m,.str g,.str e],.sl [.bool d.n,.str d.a,.str d.d,.int .i64 d.e,.bool c.n,.str c.a,.str c.d,.int .i64 c.e] 2 nn] (.ret (.agg [.bool false,.str [],.str [],.int .i64 13])):=pK [] 6 48 (.k 6 t (.n 24 .nil)) (.c n (.c q (.c u (.c p .nil))))
theorem V7 (j nn k f p g:Bool) (n h e:List UInt8) (d c:Oq) (ks vs t i:List AV) (u:lit true (!g)=true) (m:lit false (!f)=true) (q:CO 123 [.int .i64 18] (.ret (.nilF))) (v:CO 128 [.agg [.bool d.n,.str d.a,.str d.d]] (.ret (.tup [.bool k,.bool f]))) (r:CO 128 [.agg [.bool c.n,.str c.a,.str c.d]] (.ret (.tup [.bool p,.bool g]))) (o:CO 41 [.int .i64 13] (.ret (.agg [.bool false,.str [],.str [],.int .i64 13]))):CO 74 [.agg [.mp ks vs,.mp t i],.agg [.int .i64 18,.bool j,.str n,.str h,.str e],.sl [.bool d.n,.str d.a,.str d.d,.int .i64 d.e,.bool c.n,.str c.a,.str c.d,.int .i64 c.e] 2 nn] (.ret (.agg [.bool false,.str [],.str [],.int .i64 13])):=pK [] 6 32 (.k 5 u (.c m (.n 24 .nil))) (.c o (.c r (.c v (.c q .nil))))
theorem V8 (m nn h f i g:Bool) (p j e:List UInt8) (o d c:Oq) (ks vs u k:List AV) (v:lit true h=true) (n:lit false (!g)=true) (r:lit false (!f)=true) (t:CO 123 [.int .i64 18] (.ret (.nilF))) (y:CO 128 [.agg [.bool d.n,.str d.a,.str d.d]] (.ret (.tup [.bool h,.bool f]))) (w:CO 128 [.agg [.bool c.n,.str c.a,.str c.d]] (.ret (.tup [.bool i,.bool g]))) (q:CO 126 [.bool i] (.ret (fM o))):CO 74 [.agg [.mp ks vs,.mp u k],.agg [.int .i64 18,.bool m,.str p,.str j,.str e],.sl [.bool d.n,.str d.a,.str d.d,.int .i64 d.e,.bool c.n,.str c.a,.str c.d,.int .i64 c.e] 2 nn] (.ret (fM o)):=pK [] 8 192 (.k 5 v (.k 2 n (.c r (.n 24 .nil)))) (.c q (.c w (.c y (.c t .nil))))
theorem V9 (k nn h f q g:Bool) (n i e:List UInt8) (o d c:Oq) (ks vs u j:List AV) (v:lit false h=true) (m:lit false (!g)=true) (r:lit false (!f)=true) (t:CO 123 [.int .i64 18] (.ret (.nilF))) (y:CO 128 [.agg [.bool d.n,.str d.a,.str d.d]] (.ret (.tup [.bool h,.bool f]))) (w:CO 128 [.agg [.bool c.n,.str c.a,.str c.d]] (.ret (.tup [.bool q,.bool g]))) (p:CO 126 [.bool false] (.ret (fM o))):CO 74 [.agg [.mp ks vs,.mp u j],.agg [.int .i64 18,.bool k,.str n,.str i,.str e],.sl [.bool d.n,.str d.a,.str d.d,.int .i64 d.e,.bool c.n,.str c.a,.str c.d,.int .i64 c.e] 2 nn] (.ret (fM o)):=pK [] 8 64 (.k 5 v (.k 2 m (.c r (.n 24 .nil)))) (.c p (.c w (.c y (.c t .nil))))
theorem yH:CO 123 [.int .i64 18] (.ret (.nilF)):=pK [] 5 0 (.n 5 .nil) (.nil)
theorem V_ (i nn k f o j:Bool) (m g e:List UInt8) (d c:Oq) (ks vs r h:List AV) (t:lit true (!f)=true) (p:CO 123 [.int .i64 19] (.ret (.nilF))) (u:CO 128 [.agg [.bool d.n,.str d.a,.str d.d]] (.ret (.tup [.bool k,.bool f]))) (q:CO 128 [.agg [.bool c.n,.str c.a,.str c.d]] (.ret (.tup [.bool o,.bool j]))) (n:CO 41 [.int .i64 13] (.ret (.agg [.bool false,.str [],.str [],.int .i64 13]))):CO 74 [.agg [.mp ks vs,.mp r h],.agg [.int .i64 19,.bool i,.str m,.str g,.str e],.sl [.bool d.n,.str d.a,.str d.d,.int .i64 d.e,.bool c.n,.str c.a,.str c.d,.int .i64 c.e] 2 nn] (.ret (.agg [.bool false,.str [],.str [],.int .i64 13])):=pK [] 6 48 (.k 6 t (.n 24 .nil)) (.c n (.c q (.c u (.c p .nil))))
theorem We (j nn k f p g:Bool) (n h e:List UInt8) (d c:Oq) (ks vs t i:List AV) (u:lit true (!g)=true) (m:lit false (!f)=true) (q:CO 123 [.int .i64 19] (.ret (.nilF))) (v:CO 128 [.agg [.bool d.n,.str d.a,.str d.d]] (.ret (.tup [.bool k,.bool f]))) (r:CO 128 [.agg [.bool c.n,.str c.a,.str c.d]] (.ret (.tup [.bool p,.bool g]))) (o:CO 41 [.int .i64 13] (.ret (.agg [.bool false,.str [],.str [],.int .i64 13]))):CO 74 [.agg [.mp ks vs,.mp t i],.agg [.int .i64 19,.bool j,.str n,.str h,.str e],.sl [.bool d.n,.str d.a,.str d.d,.int .i64 d.e,.bool c.n,.str c.a,.str c.d,.int .i64 c.e] 2 nn] (.ret (.agg [.bool false,.str [],.str [],.int .i64 13])):=pK [] 6 32 (.k 5 u (.c m (.n 24 .nil))) (.c o (.c r (.c v (.c q .nil))))
theorem Wh (k nn h f q g:Bool) (n i e:List UInt8) (o d c:Oq) (ks vs u j:List AV) (v:lit true h=true) (m:lit false (!g)=true) (r:lit false (!f)=true) (t:CO 123 [.int .i64 19] (.ret (.nilF))) (y:CO 128 [.agg [.bool d.n,.str d.a,.str d.d]] (.ret (.tup [.bool h,.bool f]))) (w:CO 128 [.agg [.bool c.n,.str c.a,.str c.d]] (.ret (.tup [.bool q,.bool g]))) (p:CO 126 [.bool true] (.ret (fM o))):CO 74 [.agg [.mp ks vs,.mp u j],.agg [.int .i64 19,.bool k,.str n,.str i,.str e],.sl [.bool d.n,.str d.a,.str d.d,.int .i64 d.e,.bool c.n,.str c.a,.str c.d,.int .i64 c.e] 2 nn] (.ret (fM o)):=pK [] 8 128 (.k 5 v (.k 2 m (.c r (.n 24 .nil)))) (.c p (.c w (.c y (.c t .nil))))
theorem Wi (m nn h f i g:Bool) (p j e:List UInt8) (o d c:Oq) (ks vs u k:List AV) (v:lit false h=true) (n:lit false (!g)=true) (r:lit false (!f)=true) (t:CO 123 [.int .i64 19] (.ret (.nilF))) (y:CO 128 [.agg [.bool d.n,.str d.a,.str d.d]] (.ret (.tup [.bool h,.bool f]))) (w:CO 128 [.agg [.bool c.n,.str c.a,.str c.d]] (.ret (.tup [.bool i,.bool g]))) (q:CO 126 [.bool i] (.ret (fM o))):CO 74 [.agg [.mp ks vs,.mp u k],.agg [.int .i64 19,.bool m,.str p,.str j,.str e],.sl [.bool d.n,.str d.a,.str d.d,.int .i64 d.e,.bool c.n,.str c.a,.str c.d,.int .i64 c.e] 2 nn] (.ret (fM o)):=pK [] 8 0 (.k 5 v (.k 2 n (.c r (.n 24 .nil)))) (.c q (.c w (.c y (.c t .nil))))
theorem yI:CO 123 [.int .i64 19] (.ret (.nilF)):=pK [] 5 0 (.n 5 .nil) (.nil)
theorem Qr:CO 165 [.int .i64 1] (.ret (.fn 166 [] [.pp [.int .i64 1] 0])):=pK [] 0 0 .nil (.nil)
theorem ZQ (h e:Bool) (i f d c:List UInt8) (g:Int) (k:lit true (decide (((0:Nat):Int)<(IntKind.wrap .i64 (g*((1:Nat):Int)))))=true) (j:CO 127 [.agg [.bool h,.str i,.str f],.agg [.bool e,.str d,.str c]] (.ret (.int .i64 g))):CO 166 [.agg [.bool h,.str i,.str f],.agg [.bool e,.str d,.str c],.pp [.int .i64 1] 0] (.ret (.agg [.bool e,.str d,.str c])):=pK [] 1 1 (.k 7 k (.n 7 .nil)) (.c j .nil)
theorem ZR (d i:Bool) (e c h f:List UInt8) (g:Int) (k:lit false (decide (((0:Nat):Int)<(IntKind.wrap .i64 (g*((1:Nat):Int)))))=true) (j:CO 127 [.agg [.bool d,.str e,.str c],.agg [.bool i,.str h,.str f]] (.ret (.int .i64 g))):CO 166 [.agg [.bool d,.str e,.str c],.agg [.bool i,.str h,.str f],.pp [.int .i64 1] 0] (.ret (.agg [.bool d,.str e,.str c])):=pK [] 1 0 (.k 7 k (.n 7 .nil)) (.c j .nil)
theorem Qq:CO 165 [.int .i64 (-1)] (.ret (.fn 166 [] [.pp [.int .i64 (-1)] 0])):=pK [] 0 0 .nil (.nil)
theorem ZO (h e:Bool) (i f d c:List UInt8) (g:Int) (k:lit true (decide (((0:Nat):Int)<(IntKind.wrap .i64 (g*(-1:Int)))))=true) (j:CO 127 [.agg [.bool h,.str i,.str f],.agg [.bool e,.str d,.str c]] (.ret (.int .i64 g))):CO 166 [.agg [.bool h,.str i,.str f],.agg [.bool e,.str d,.str c],.pp [.int .i64 (-1)] 0] (.ret (.agg [.bool e,.str d,.str c])):=pK [] 1 1 (.k 7 k (.n 7 .nil)) (.c j .nil)
theorem ZP (d i:Bool) (e c h f:List UInt8) (g:Int) (k:lit false (decide (((0:Nat):Int)<(IntKind.wrap .i64 (g*(-1:Int)))))=true) (j:CO 127 [.agg [.bool d,.str e,.str c],.agg [.bool i,.str h,.str f]] (.ret (.int .i64 g))):CO 166 [.agg [.bool d,.str e,.str c],.agg [.bool i,.str h,.str f],.pp [.int .i64 (-1)] 0] (.ret (.agg [.bool d,.str e,.str c])):=pK [] 1 0 (.k 7 k (.n 7 .nil)) (.c j .nil)
end Go.Proofs.Tryz
set_option maxRecDepth 100000
set_option linter.unusedVariables false
open Go AM
namespace Go.Proofs.Tryz
def jM (q:RQ):Bool:=decide (gI q.n≤400) && decide (gI q.d≤400)
def Oq.ok:Oq→Prop| .err e=>e ≠ 0| .val q=>q.ok∧jM q=true
def CE (n:Bool) (a d:List UInt8) (e:Int):Oq:=if e=0 then (if fA n a d=true then .val ⟨n,ah a,ah d⟩ else .err 3) else .err e
def pM (q:RQ):Oq:=if jM q=true then .val q else .err 3
def bR (b:Bool):RQ:=if b then ⟨false,1,1⟩ else ⟨false,0,1⟩
def uj (b:Bool):Oq:= .val (bR b)
def Oq.one (o:Oq):Bool:=(o.n==false) && ((o.a==(af 1)) && ((o.d==(af 1)) && true))
def Oq.bit (o:Oq):Bool:=o.one||((o.n==false) && ((o.a==(af 0)) && ((o.d==(af 1)) && true)))
def eqO (a b:Oq):Bool:=(a.n==b.n) && ((a.a==b.a) && ((a.d==b.d) && true))
def IY (a b c:Oq):Oq:=if a.e=0 then (if a.bit then (if a.one then b else c) else .err 13) else a
def QZ (op:Int) (a b:Oq):Oq:=
 if op=9 then pM (iV a.q b.q) else if op=10 then pM (ji a.q b.q) else if op=11 then pM (nC a.q b.q)
 else if op=12 then (if b.q.n=0 then .err 16 else pM (ui a.q b.q))
 else if op=13 then (if 0<lD a.q b.q then b else a) else if op=14 then (if lD a.q b.q<0 then b else a)
 else if op=16 then uj (decide (lD a.q b.q<0)) else if op=17 then uj (eqO a b)
 else if a.bit && b.bit then uj (if op=18 then a.one && b.one else a.one||b.one) else .err 13
theorem uP {n:Bool} {a d:List UInt8} (h:fA n a d=true):iU n a d=true∧jM ⟨n,ah a,ah d⟩=true:=by
 unfold fA at h
 simp only [Bool.and_eq_true] at h
 exact ⟨h.1.1,by unfold jM;simp only [Bool.and_eq_true];exact ⟨h.1.2,h.2⟩⟩
theorem lH {n:Bool} {a d:List UInt8} (h:iU n a d=true):af (ah a)=a∧af (ah d)=d:=by
 rw [kK] at h
 exact ⟨(oK a).1 h.1,(oK d).1 h.2.1⟩
theorem Dt (n:Bool) (a d:List UInt8) (e:Int):(CE n a d e).ok:=by
 unfold CE
 split
 ·split
  ·rename_i h
   obtain ⟨f,c⟩:=uP h
   have:=lg n a d
   unfold vQ at this
   rw [if_pos f] at this
   exact ⟨this,c⟩
  ·exact (by decide:(3:Int) ≠ 0)
 ·assumption
theorem uJ {q:RQ} (h:q.ok):fA q.neg (af q.n) (af q.d)=jM q:=by
 unfold fA jM
 rw [oD q h,aB,aB,Bool.true_and]
theorem zA {q:RQ} (h:q.ok):CE q.neg (af q.n) (af q.d) 0=pM q:=by
 unfold CE pM
 rw [if_pos rfl,uJ h,aB,aB]
theorem qo {q:RQ} (h:q.ok):(pM q).ok:=by
 rw [← zA h];exact Dt _ _ _ _
theorem ac1 (b:Bool):(bR b).ok:=by cases b<;>exact ⟨by decide,by decide,by decide⟩
theorem Lt:gI 1≤400∧gI 0≤400:=⟨jf (k:=400) (Nat.one_lt_two_pow (n:=400) (by decide)),jf (k:=400) (Nat.two_pow_pos 400)⟩
theorem QG {x:Nat} (h:gI x≤400):(af x).length≤51:=by
 refine dw (k:=51) ?_
 rcases Nat.eq_zero_or_pos x with h0|h0
 ·rw [h0];apply Nat.two_pow_pos
 ·obtain ⟨m,d,_,c⟩:=vX h0
  refine Nat.lt_of_lt_of_le c ?_
  apply Nat.pow_le_pow_right (by decide)
  omega
theorem zH (b:Bool):(uj b).ok:=by
 refine ⟨ac1 b, ?_⟩
 unfold jM bR
 have:=Lt
 cases b<;>simp [this.1,this.2]
theorem dh {q:RQ} (h:jM q=true):(af q.n).length≤51∧(af q.d).length≤51:=by
 unfold jM at h
 simp only [Bool.and_eq_true,decide_eq_true_eq] at h
 exact ⟨QG h.1,QG h.2⟩
theorem wE (n:Bool) (a d:List UInt8) (e:Int) (k:a.length<2^36) (hd:d.length<2^36):CO 43 [.agg [.bool n,.str a,.str d,.int .i64 e]] (.ret (fM (CE n a d e))):=by
 have f:=gm n a d k hd
 unfold CE
 by_cases h:e=0
 ·rw [if_pos h]
  have g:lit false (!(e==((0:Nat):Int)))=true:=by rw [h];rfl
  cases c:fA n a d with
  |true=>
   rw [c] at f
   rw [if_pos rfl]
   have:=ae1 n a d e (by rw [c];rfl) g (by rw [c];exact f)
   obtain ⟨j,i⟩:=lH (uP c).1
   show CO 43 _ (.ret (.agg [.bool n,.str (af (ah a)),.str (af (ah d)),.int .i64 0]))
   rw [j,i,← h];exact this
  |false=>
   rw [c] at f
   rw [if_neg (by simp)]
   exact ae0 n a d e (by rw [c];rfl) g (by rw [c];exact f) (iQ 3)
 ·rw [if_neg h]
  exact aeZ n a d e (by rw [show (e==((0:Nat):Int))=false from beq_eq_false_iff_ne.2 h];rfl) (iQ e)
theorem La (n:Bool) (a d:List UInt8) (c:a.length<2^36) (hd:d.length<2^36):CO 124 [.agg [.bool n,.str a,.str d]] (.ret (fM (CE n a d 0))):=afb n a d _ (wE n a d 0 c hd)
theorem qY {q:RQ} (h:q.ok) (c:(af q.n).length<2^36) (d:(af q.d).length<2^36):CO 124 [qA q] (.ret (fM (pM q))):=by
 rw [← zA h];exact La _ _ _ c d
theorem qX {o:Oq} (h:o.ok) (d:o.e=0):CO 124 [.agg [.bool o.n,.str o.a,.str o.d]] (.ret (fM o)):=by
 cases o with
 |err e=>exact absurd d h
 |val q=>
  have c:=qY h.1 (Nat.lt_of_le_of_lt (dh h.2).1 (by decide)) (Nat.lt_of_le_of_lt (dh h.2).2 (by decide))
  unfold pM at c
  rw [if_pos h.2] at c
  exact c
theorem lF (b:Bool):CO 126 [.bool b] (.ret (fM (uj b))):=by
 cases b with
 |true=>exact ae9 true _ rfl vg (qX (zH true) rfl)
 |false=>exact ae_ false _ rfl jo (qX (zH false) rfl)
theorem nO (o:Oq):CO 128 [.agg [.bool o.n,.str o.a,.str o.d]] (.ret (.tup [.bool o.one,.bool o.bit])):=by
 unfold Oq.bit
 cases h:o.one with
 |true=>
  have:=aeF o.n o.a o.d h vg
  rw [show ((o.n==false) && ((o.a==(af 1)) && ((o.d==(af 1)) && true)))=true from h] at this
  exact this
 |false=>
  have:=aeG o.n o.a o.d (by rw [show ((o.n==false) && ((o.a==(af 1)) && ((o.d==(af 1)) && true)))=false from h];rfl) vg jo
  rw [show ((o.n==false) && ((o.a==(af 1)) && ((o.d==(af 1)) && true)))=false from h] at this
  rw [Bool.false_or]
  exact this
section
variable (op:Int) (ng nn:Bool) (nu de name:List UInt8) (ks vs kt vt:List AV) (o0 o1 o2:Oq)
theorem Ob:CO 77 [.agg [.mp ks vs,.mp kt vt],.agg [.int .i64 op,.bool ng,.str nu,.str de,.str name],.sl (Dj o0++(Dj o1++Dj o2)) 3 nn] (.ret (fM (IY o0 o1 o2))):=by
 have c:=nO o0
 unfold IY
 by_cases h:o0.e=0
 ·rw [if_pos h]
  have d:lit false (!(o0.e==((0:Nat):Int)))=true:=by rw [h];rfl
  cases f:o0.bit with
  |false=>
   rw [f] at c
   exact aeC _ _ _ _ _ _ _ _ o0 o1 o2 ks vs kt vt rfl d c (iQ 13)
  |true=>
   rw [f] at c
   cases e:o0.one with
   |true=>rw [e] at c;exact aeD _ _ _ _ _ _ _ _ o0 o1 o2 ks vs kt vt rfl rfl d c
   |false=>rw [e] at c;exact aeE _ _ _ _ _ _ _ _ o0 o1 o2 ks vs kt vt rfl rfl d c
 ·rw [if_neg h]
  exact aeB _ _ _ _ _ _ _ _ o0 o1 o2 ks vs kt vt (by rw [show (o0.e==((0:Nat):Int))=false from beq_eq_false_iff_ne.2 h];rfl) c
theorem alH {g:Int} (h:g=0∨g=1∨g= -1):decide (((0:Nat):Int)<(IntKind.wrap .i64 (g*((1:Nat):Int))))=decide (0<g)∧decide (((0:Nat):Int)<(IntKind.wrap .i64 (g*(-1:Int))))=decide (g<0):=by
 rcases h with rfl|rfl|rfl<;>decide+kernel
theorem amr (a b:RQ):lD a b=0∨lD a b=1∨lD a b= -1:=by
 unfold lD wO;split
 ·exact .inl rfl
 ·split
  ·exact .inr (.inr rfl)
  ·exact .inr (.inl rfl)
theorem IC {o:Oq} (h:o.ok) (c:o.e=0):∃ q:RQ,o= .val q∧q.ok∧jM q=true:=by
 cases o with
 |err e=>exact absurd c h
 |val q=>exact ⟨q,rfl,h.1,h.2⟩
theorem VX (C:(9≤op∧op≤14)∨(16≤op∧op≤19)) (k0:o0.ok) (y:o0.e=0) (k1:o1.ok) (z:o1.e=0):CO 74 [.agg [.mp ks vs,.mp kt vt],.agg [.int .i64 op,.bool ng,.str nu,.str de,.str name],.sl (Dj o0++Dj o1) 2 nn] (.ret (fM (QZ op o0 o1))):=by
 obtain ⟨a,rfl,r,G⟩:=IC k0 y
 obtain ⟨b,rfl,v,F⟩:=IC k1 z
 obtain ⟨m,g⟩:=dh G
 obtain ⟨i,j⟩:=dh F
 have t:=kU r
 have p:=kU v
 have d:∀ k:Nat,k≤51→k<2^28:=fun k h=>Nat.lt_of_le_of_lt h (by decide)
 have c:∀ k:Nat,k≤51→k<2^29:=fun k h=>Nat.lt_of_le_of_lt h (by decide)
 have u:CO 127 [qA a,qA b] (.ret (.int .i64 (lD a b))):=by
  have:=FO a.neg b.neg (af a.n) (af a.d) (af b.n) (af b.d) (d _ m) (d _ g) (d _ i) (d _ j)
  rw [t,p] at this;exact this
 have D:=amr a b
 obtain ⟨B,A⟩:=alH D
 have E:op=9∨op=10∨op=11∨op=12∨op=13∨op=14∨op=16∨op=17∨op=18∨op=19:=by omega
 have w:∀ {q:RQ},(af q.n).length≤4*51+1∧(af q.d).length≤2*51→(af q.n).length<2^36∧(af q.d).length<2^36:=fun h=> ⟨Nat.lt_of_le_of_lt h.1 (by decide),Nat.lt_of_le_of_lt h.2 (by decide)⟩
 rcases E with rfl|rfl|rfl|rfl|rfl|rfl|rfl|rfl|rfl|rfl
 ·have:=FN a.neg b.neg (af a.n) (af a.d) (af b.n) (af b.d) (c _ m) (c _ g) (c _ i) (c _ j)
  rw [t,p] at this
  obtain ⟨o,n⟩:=w (yX a b 51 m g i j)
  exact ZN _ _ _ _ _ _ (.val a) (.val b) _ ks vs kt vt ZF this (qY (jF r v) o n)
 ·have:=FP a.neg b.neg (af a.n) (af a.d) (af b.n) (af b.d) (c _ m) (c _ g) (d _ i) (d _ j)
  rw [t,p] at this
  obtain ⟨o,n⟩:=w (yX a (zg b) 51 m g i j)
  exact VY _ _ _ _ _ _ (.val a) (.val b) _ ks vs kt vt VM this (qY (qj r v) o n)
 ·have:=Rt a.neg b.neg (af a.n) (af a.d) (af b.n) (af b.d) (c _ m) (c _ g) (c _ i) (c _ j)
  rw [t,p] at this
  have:=dR a.n b.n
  have:=dR a.d b.d
  have:=sO (!(a.neg==b.neg)) (a.n*b.n) (a.d*b.d)
  obtain ⟨o,n⟩:=w (q:=nC a b) ⟨by unfold nC;omega,by unfold nC;omega⟩
  exact VZ _ _ _ _ _ _ (.val a) (.val b) _ ks vs kt vt VN (by assumption) (qY (sQ r v) o n)
 ·rcases Nat.eq_zero_or_pos b.n with h0|h0
  ·have:=X0 a.neg b.neg (af a.n) (af a.d) (af b.n) (af b.d) (c _ m) (c _ g) (c _ i) (c _ j) (by rw [p];exact h0)
   show CO 74 _ (.ret (fM (if b.n=0 then .err 16 else _)))
   rw [if_pos h0]
   exact TA _ _ _ _ _ (.val a) (.val b) ks vs kt vt KQ this (iQ 16)
  ·have:=MK a.neg b.neg (af a.n) (af a.d) (af b.n) (af b.d) (c _ m) (c _ g) (c _ i) (c _ j) (by rw [p];exact h0)
   rw [t,p] at this
   have:=dR a.n b.d
   have:=dR a.d b.n
   have:=sO (!(a.neg==b.neg)) (a.n*b.d) (a.d*b.n)
   obtain ⟨o,n⟩:=w (q:=ui a b) ⟨by unfold ui;omega,by unfold ui;omega⟩
   show CO 74 _ (.ret (fM (if b.n=0 then .err 16 else pM (ui a b))))
   rw [if_neg (by omega)]
   exact V3 _ _ _ _ _ _ (.val a) (.val b) _ ks vs kt vt KQ (by assumption) (qY (Dk r h0) o n)
 ·show CO 74 _ (.ret (fM (if 0<lD a b then .val b else .val a)))
  by_cases h:0<lD a b
  ·rw [if_pos h]
   exact KY _ _ _ _ _ _ _ _ _ (.val a) (.val b) ks vs kt vt (KR Qr) (ZQ _ _ _ _ _ _ _ (by rw [B,decide_eq_true h];rfl) u) (qX k1 z)
  ·rw [if_neg h]
   exact KY _ _ _ _ _ _ _ _ _ (.val a) (.val b) ks vs kt vt (KR Qr) (ZR _ _ _ _ _ _ _ (by rw [B,decide_eq_false h];rfl) u) (qX k0 y)
 ·show CO 74 _ (.ret (fM (if lD a b<0 then .val b else .val a)))
  by_cases h:lD a b<0
  ·rw [if_pos h]
   exact K_ _ _ _ _ _ _ _ _ _ (.val a) (.val b) ks vs kt vt (KT Qq) (ZO _ _ _ _ _ _ _ (by rw [A,decide_eq_true h];rfl) u) (qX k1 z)
  ·rw [if_neg h]
   exact K_ _ _ _ _ _ _ _ _ _ (.val a) (.val b) ks vs kt vt (KT Qq) (ZP _ _ _ _ _ _ _ (by rw [A,decide_eq_false h];rfl) u) (qX k0 y)
 ·exact V4 _ _ _ _ _ _ _ (.val a) (.val b) ks vs kt vt VO u (lF _)
 ·exact V5 _ _ _ _ _ _ (.val a) (.val b) ks vs kt vt VP (lF _)
 ·have f:=nO (.val a)
  have e:=nO (.val b)
  show CO 74 _ (.ret (fM (if Oq.bit (.val a) && Oq.bit (.val b) then uj (Oq.one (.val a) && Oq.one (.val b)) else .err 13)))
  generalize Oq.bit (.val a)=x2 at*
  generalize Oq.bit (.val b)=x4 at*
  generalize Oq.one (.val a)=x1 at*
  generalize Oq.one (.val b)=x3 at*
  cases x2 with
  |false=>exact V6 _ _ x1 false x3 x4 _ _ _ (.val a) (.val b) ks vs kt vt rfl yH f e (iQ 13)
  | true=>
   cases x4 with
   |false=>exact V7 _ _ x1 true x3 false _ _ _ (.val a) (.val b) ks vs kt vt rfl rfl yH f e (iQ 13)
   |true=>
    cases x1 with
    |true=>exact V8 _ _ true true x3 true _ _ _ _ (.val a) (.val b) ks vs kt vt rfl rfl rfl yH f e (lF _)
    |false=>exact V9 _ _ false true x3 true _ _ _ _ (.val a) (.val b) ks vs kt vt rfl rfl rfl yH f e (lF _)
 ·have f:=nO (.val a)
  have e:=nO (.val b)
  show CO 74 _ (.ret (fM (if Oq.bit (.val a) && Oq.bit (.val b) then uj (Oq.one (.val a)||Oq.one (.val b)) else .err 13)))
  generalize Oq.bit (.val a)=x2 at*
  generalize Oq.bit (.val b)=x4 at*
  generalize Oq.one (.val a)=x1 at*
  generalize Oq.one (.val b)=x3 at*
  cases x2 with
  |false=>exact V_ _ _ x1 false x3 x4 _ _ _ (.val a) (.val b) ks vs kt vt rfl yI f e (iQ 13)
  | true=>
   cases x4 with
   |false=>exact We _ _ x1 true x3 false _ _ _ (.val a) (.val b) ks vs kt vt rfl rfl yI f e (iQ 13)
   |true=>
    cases x1 with
    |true=>exact Wh _ _ true true x3 true _ _ _ _ (.val a) (.val b) ks vs kt vt rfl rfl rfl yI f e (lF _)
    |false=>exact Wi _ _ false true x3 true _ _ _ _ (.val a) (.val b) ks vs kt vt rfl rfl rfl yI f e (lF _)
end
end Go.Proofs.Tryz
set_option maxRecDepth 100000
set_option linter.unusedVariables false
open Go AM
namespace Go.Proofs.Tryz
theorem aij (r:RQ) (c:Bool) (n:Nat) (d:CO 158 [.agg [.str []],.str (af 1)] (.ret (.bool true))) (f:CO 159 [.str (af n)] (.ret (.bool true))) (e:CO 160 [.bool c,.str (af n),.str (af 1)] (.ret (qA r))):CO 205 [.bool c,.str (af n),.str (af 1)] (.ret (.tup [qA r,.bool true])):=pK [] 2 0 (.n 6 .nil) (.c e (.c f (.c d .nil)))
theorem afh (r:RQ) (n m y z:Nat) (c:CO 191 [.str (af n),.str (af m)] (.ret (.tup [.str (af y),.str (af z),.bool true]))) (e:CO 72 [.int .i64 1] (.ret (.str (af 1)))) (d:CO 205 [.bool false,.str (af y),.str (af 1)] (.ret (.tup [qA r,.bool true]))):CO 177 [.agg [.bool false,.str (af n),.str (af m)]] (.ret (qA r)):=pK [] 2 0 (.n 14 .nil) (.c d (.c e (.c c .nil)))
theorem aff (r:RQ) (n m y z:Nat) (f:lit true (!((af z)== []))=true) (c:CO 191 [.str (af n),.str (af m)] (.ret (.tup [.str (af y),.str (af z),.bool true]))) (h:CO 72 [.int .i64 1] (.ret (.str (af 1)))) (e:CO 71 [.str (af y),.str (af 1)] (.ret (.str (af (y+1))))) (d:CO 72 [.int .i64 1] (.ret (.str (af 1)))) (g:CO 205 [.bool true,.str (af (y+1)),.str (af 1)] (.ret (.tup [qA r,.bool true]))):CO 177 [.agg [.bool true,.str (af n),.str (af m)]] (.ret (qA r)):=pK [] 2 3 (.k 9 f (.n 4 .nil)) (.c g (.c d (.c e (.c h (.c c .nil)))))
theorem afg (r:RQ) (n m y z:Nat) (e:lit false (!((af z)== []))=true) (c:CO 191 [.str (af n),.str (af m)] (.ret (.tup [.str (af y),.str (af z),.bool true]))) (f:CO 72 [.int .i64 1] (.ret (.str (af 1)))) (d:CO 205 [.bool true,.str (af y),.str (af 1)] (.ret (.tup [qA r,.bool true]))):CO 177 [.agg [.bool true,.str (af n),.str (af m)]] (.ret (qA r)):=pK [] 2 1 (.k 9 e (.n 4 .nil)) (.c d (.c f (.c c .nil)))
theorem ae2 (a s:RQ) (g:Int) (c:CO 115 [qA a] (.ret (.bool true))) (e:CO 115 [qA s] (.ret (.bool true))) (d:CO 121 [qA s] (.ret (.int .i64 g))):CO 176 [qA a,qA s] (.ret (.bool (decide (((0:Nat):Int)<g)))):=pK [] 2 3 (.n 11 .nil) (.c d (.c e (.c c .nil)))
theorem aia (a s q r w:RQ) (c:CO 176 [qA a,qA s] (.ret (.bool true))) (f:CO 125 [qA a,qA s] (.ret (.tup [qA q,.bool true]))) (e:CO 177 [qA q] (.ret (qA w))) (d:CO 169 [qA w,qA s] (.ret (qA r))):CO 131 [qA a,qA s] (.ret (.tup [qA r,.bool true])):=pK [] 1 0 (.n 24 .nil) (.c d (.c e (.c f (.c c .nil))))
theorem aiO (a s r v:RQ) (d:lit true (!((r.neg==a.neg) && (((af r.n)==(af a.n)) && (((af r.d)==(af a.d)) && true))))=true) (c:CO 131 [qA a,qA s] (.ret (.tup [qA r,.bool true]))) (e:CO 167 [qA r,qA s] (.ret (qA v))):CO 132 [qA a,qA s] (.ret (.tup [qA v,.bool true])):=pK [] 2 3 (.k 14 d (.n 14 .nil)) (.c e (.c c .nil))
theorem aiP (a s r:RQ) (d:lit false (!((r.neg==a.neg) && (((af r.n)==(af a.n)) && (((af r.d)==(af a.d)) && true))))=true) (c:CO 131 [qA a,qA s] (.ret (.tup [qA r,.bool true]))):CO 132 [qA a,qA s] (.ret (.tup [qA r,.bool true])):=pK [] 2 1 (.k 7 d (.n 14 .nil)) (.c c .nil)
theorem aik (a s q r v w:RQ) (g:Int) (f:lit true (decide (((0:Nat):Int)≤g))=true) (c:CO 131 [qA a,qA s] (.ret (.tup [qA r,.bool true]))) (i:CO 168 [qA a,qA r] (.ret (qA q))) (e:CO 167 [qA q,qA q] (.ret (qA w))) (d:CO 127 [qA w,qA s] (.ret (.int .i64 g))) (h:CO 167 [qA r,qA s] (.ret (qA v))):CO 129 [qA a,qA s] (.ret (.tup [qA v,.bool true])):=pK [] 2 2 (.k 14 f (.n 24 .nil)) (.c h (.c d (.c e (.c i (.c c .nil)))))
theorem aio (a s q r w:RQ) (g:Int) (f:lit false (decide (((0:Nat):Int)≤g))=true) (c:CO 131 [qA a,qA s] (.ret (.tup [qA r,.bool true]))) (h:CO 168 [qA a,qA r] (.ret (qA q))) (e:CO 167 [qA q,qA q] (.ret (qA w))) (d:CO 127 [qA w,qA s] (.ret (.int .i64 g))):CO 129 [qA a,qA s] (.ret (.tup [qA r,.bool true])):=pK [] 2 0 (.k 7 f (.n 24 .nil)) (.c d (.c e (.c h (.c c .nil))))
theorem aju:nR (af 1)=true:=y_ 1
theorem anw:AB (af 1)=true:=by unfold AB;rw [aju,aB];rfl
theorem Ee (c:Bool) (n:Nat) (f:(af n).length<2^33):CO 205 [.bool c,.str (af n),.str (af 1)] (.ret (.tup [qA (g_ c n 1),.bool true])):=by
 have d:(af 1).length<2^33:=Nat.lt_of_le_of_lt (dw (x:=1) (k:=1) (by decide)) (by decide)
 have hp:=XK (af 1) (Nat.lt_of_lt_of_le d (by decide))
 rw [anw] at hp
 have e:=Au (af n)
 rw [y_] at e
 exact aij _ c n hp e (Iq c n 1 f d (by decide))
theorem Jp (c:Bool) (x:Nat):g_ c x 1=TR (if c then -(x:Int) else (x:Int)):=by
 unfold g_ TR
 rw [Nat.gcd_one_right,Nat.div_one,Nat.div_one]
 cases c with
 |true=>
  simp only [Bool.true_and,if_true,Int.natAbs_neg,Int.natAbs_natCast,RQ.mk.injEq,and_true]
  rcases Nat.eq_zero_or_pos x with h|h
  ·subst h;rfl
  ·rw [decide_eq_true h,decide_eq_true (by omega)]
 |false=>
  simp only [Bool.false_and,Bool.false_eq_true,if_false,Int.natAbs_natCast,RQ.mk.injEq,and_true]
  rw [decide_eq_false (by omega)]
theorem TG {q:RQ} (h:q.ok) (i:(af q.n).length<2^32) (g:(af q.d).length<2^32):CO 177 [qA q] (.ret (qA (TR (flI q)))):=by
 have d:=O8 (af q.n) (af q.d) (Nat.lt_of_lt_of_le i (by decide)) (Nat.lt_of_lt_of_le g (by decide)) (by rw [aB];exact h.1)
 rw [aB,aB] at d
 have j:=oI (Nat.div_le_self q.n q.d)
 have o:(af 1).length≤1:=dw (x:=1) (k:=1) (by decide)
 have p:=yV (q.n / q.d) 1
 have e:=EZ 1 (by decide)
 obtain ⟨f,n,m⟩:=q
 unfold flI
 simp only at*
 cases f with
 |false=>
  rw [if_neg (by simp)]
  have c:=Ee false (n / m) (by omega)
  rw [Jp,if_neg (by simp)] at c
  exact afh _ n m _ _ d e c
 | true=>
  rw [if_pos rfl]
  by_cases hr:n % m=0
  ·have c:=Ee true (n / m) (by omega)
   rw [Jp,if_pos rfl] at c
   rw [if_pos hr,Nat.add_zero]
   exact afg _ n m _ _ (by rw [hr,dI];rfl) d e c
  ·have c:=Ee true (n / m+1) (by omega)
   rw [Jp,if_pos rfl] at c
   rw [if_neg hr]
   exact aff _ n m _ _ (by
    rw [show ((af (n % m))== [])=false from by rw [beq_eq_false_iff_ne];intro h;rw [iD] at h;exact hr h];rfl) d e (adp _ _ (by omega) (by omega)) e c
def mW (L:Nat) (q:RQ):Prop:=(af q.n).length≤L∧(af q.d).length≤L
theorem mW.mono {L M:Nat} {q:RQ} (h:mW L q) (k:L≤M):mW M q:=⟨Nat.le_trans h.1 k,Nat.le_trans h.2 k⟩
theorem FW {L:Nat} {a b:RQ} (c:mW L a) (d:mW L b):mW (4*L+1) (iV a b):=by
 have:=yX a b L c.1 c.2 d.1 d.2
 exact ⟨this.1,by omega⟩
theorem agZ {L:Nat} {a:RQ} (c:mW L a):mW L (zg a):=c
theorem Pz {L:Nat} {a b:RQ} (c:mW L a) (d:mW L b):mW (4*L+1) (ji a b):=FW c (agZ d)
theorem Py {L:Nat} {a b:RQ} (c:mW L a) (d:mW L b):mW (2*L) (nC a b):=by
 have e:=dR a.n b.n
 have f:=dR a.d b.d
 have k:=sO (!(a.neg==b.neg)) (a.n*b.n) (a.d*b.d)
 obtain ⟨j,g⟩:=c
 obtain ⟨h,i⟩:=d
 exact ⟨by unfold nC;omega,by unfold nC;omega⟩
theorem Yp {L:Nat} {a b:RQ} (c:mW L a) (d:mW L b):mW (2*L) (ui a b):=by
 have e:=dR a.n b.d
 have f:=dR a.d b.n
 have k:=sO (!(a.neg==b.neg)) (a.n*b.d) (a.d*b.n)
 obtain ⟨j,g⟩:=c
 obtain ⟨h,i⟩:=d
 exact ⟨by unfold ui;omega,by unfold ui;omega⟩
theorem w_ {L:Nat} {a:RQ} (c:mW L a) (d:L<2^28):(af a.n).length<2^28∧(af a.d).length<2^28∧(af a.n).length<2^29∧(af a.d).length<2^29:=by
 obtain ⟨e,f⟩:=c
 omega
section
variable {a b:RQ} {L:Nat} (ha:a.ok) (hb:b.ok) (sa:mW L a) (sb:mW L b) (hL:L<2^28)
include ha hb sa sb hL
theorem FM:CO 167 [qA a,qA b] (.ret (qA (iV a b))):=by
 obtain ⟨_,_,d,c⟩:=w_ sa hL
 obtain ⟨_,_,e,f⟩:=w_ sb hL
 have h:=FN a.neg b.neg (af a.n) (af a.d) (af b.n) (af b.d) d c e f
 rw [kU ha,kU hb] at h;exact h
theorem Pi:CO 168 [qA a,qA b] (.ret (qA (ji a b))):=by
 obtain ⟨_,_,d,c⟩:=w_ sa hL
 obtain ⟨e,f,_,_⟩:=w_ sb hL
 have h:=FP a.neg b.neg (af a.n) (af a.d) (af b.n) (af b.d) d c e f
 rw [kU ha,kU hb] at h;exact h
theorem Ph:CO 169 [qA a,qA b] (.ret (qA (nC a b))):=by
 obtain ⟨_,_,d,c⟩:=w_ sa hL
 obtain ⟨_,_,e,f⟩:=w_ sb hL
 have h:=Rt a.neg b.neg (af a.n) (af a.d) (af b.n) (af b.d) d c e f
 rw [kU ha,kU hb] at h;exact h
theorem XY:CO 127 [qA a,qA b] (.ret (.int .i64 (lD a b))):=by
 obtain ⟨d,c,_,_⟩:=w_ sa hL
 obtain ⟨e,f,_,_⟩:=w_ sb hL
 have h:=FO a.neg b.neg (af a.n) (af a.d) (af b.n) (af b.d) d c e f
 rw [kU ha,kU hb] at h;exact h
theorem agG (d:0<b.n):CO 125 [qA a,qA b] (.ret (.tup [qA (ui a b),.bool true])):=by
 obtain ⟨_,_,e,c⟩:=w_ sa hL
 obtain ⟨_,_,f,g⟩:=w_ sb hL
 have h:=MK a.neg b.neg (af a.n) (af a.d) (af b.n) (af b.d) e c f g (by rw [kU hb];exact d)
 rw [kU ha,kU hb] at h;exact h
end
section
variable {a s:RQ} (ha:a.ok) (fa:jM a=true) (hs:s.ok) (fs:jM s=true) (hp:0<wO s)
include ha fa hs fs hp
theorem TC:CO 176 [qA a,qA s] (.ret (.bool true)):=by
 obtain ⟨f,e⟩:=dh fa
 obtain ⟨i,j⟩:=dh fs
 have c:=mF a.neg (af a.n) (af a.d) (by omega) (by omega)
 have d:=mF s.neg (af s.n) (af s.d) (by omega) (by omega)
 rw [oD a ha] at c
 rw [oD s hs] at d
 have g:=X4 s hs (by omega) (by omega)
 have h:=ae2 a s _ c d g
 rw [decide_eq_true (show ((0:Nat):Int)<wO s from hp)] at h
 exact h
omit ha hs hp in
theorem Wv:mW 104 (TR (flI (ui a s))):=by
 obtain ⟨d,c⟩:=dh fa
 obtain ⟨e,f⟩:=dh fs
 have h:=(Yp (L:=51) ⟨d,c⟩ ⟨e,f⟩).1
 generalize ui a s=q at*
 have i:(af 1).length≤1:=dw (x:=1) (k:=1) (by decide)
 have j:=oI (Nat.div_le_self q.n q.d)
 have n:=yV (q.n / q.d) 1
 have g:(flI q).natAbs≤q.n / q.d+1:=by
  unfold flI;split
  ·rw [Int.natAbs_neg,Int.natAbs_natCast];split<;>omega
  ·rw [Int.natAbs_natCast];omega
 have m:=oI g
 exact ⟨by show (af (flI q).natAbs).length≤104;omega,by show (af 1).length≤104;omega⟩
omit ha hs hp in
theorem N_:mW 208 (C9 a s):=Py (L:=104) (Wv fa fs) ⟨by have:=(dh fs).1;omega,by have:=(dh fs).2;omega⟩
theorem Ed:CO 131 [qA a,qA s] (.ret (.tup [qA (C9 a s),.bool true])):=by
 have e:=(agz hs hp).2
 have f:mW 51 a:=dh fa
 have c:mW 51 s:=dh fs
 have d:=Yp f c
 refine aia a s _ _ _ (TC ha fa hs fs hp) (agG ha hs f c (by decide) e) (TG (Dk ha e) (Nat.lt_of_le_of_lt d.1 (by decide)) (Nat.lt_of_le_of_lt d.2 (by decide))) ?_
 exact Ph (QB _) hs (Wv fa fs) (c.mono (by decide)) (by decide)
theorem afa:CO 132 [qA a,qA s] (.ret (.tup [qA (upR a s),.bool true])):=by
 have hd:=Ed ha fa hs fs hp
 have c:=N_ fa fs
 have d:mW 51 s:=dh fs
 have e:((C9 a s).neg==a.neg && ((af (C9 a s).n==af a.n) && ((af (C9 a s).d==af a.d) && true)))=eqR (C9 a s) a:=by unfold eqR;rw [Bool.and_true]
 unfold upR
 cases h:eqR (C9 a s) a with
 |true=>
  rw [if_pos rfl]
  rw [h] at e
  have:=aiP a s (C9 a s) (by rw [e];rfl) hd
  rw [ZT.1 h] at this;exact this
 |false=>
  rw [if_neg (by simp)]
  rw [h] at e
  exact aiO a s (C9 a s) _ (by rw [e];rfl) hd (FM (xx hs) hs c (d.mono (by decide)) (by decide))
theorem VU:CO 129 [qA a,qA s] (.ret (.tup [qA (nrR a s),.bool true])):=by
 have hd:=Ed ha fa hs fs hp
 have f:=N_ fa fs
 have m:mW 51 a:=dh fa
 have k:mW 51 s:=dh fs
 have e:=xx (a:=a) hs
 have d:=qj ha e
 have c:=Pz (m.mono (show 51≤208 by decide)) f
 have i:=Pi ha e (m.mono (show 51≤208 by decide)) f (by decide)
 have j:=FM d d c c (by decide)
 have g:=XY (jF d d) hs (FW c c) (k.mono (by decide)) (by decide)
 unfold nrR
 by_cases h:0≤lD (iV (ji a (C9 a s)) (ji a (C9 a s))) s
 ·rw [if_pos h]
  exact aik a s _ (C9 a s) _ _ _ (decide_eq_true h) hd i j g (FM e hs f (k.mono (by decide)) (by decide))
 ·rw [if_neg h]
  exact aio a s _ (C9 a s) _ _ (by
   rw [show decide (((0:Nat):Int)≤lD (iV (ji a (C9 a s)) (ji a (C9 a s))) s)=false from decide_eq_false h];rfl) hd i j g
end
end Go.Proofs.Tryz
set_option maxRecDepth 100000
open Go AM
namespace Go.Proofs.Tryz
structure Sc where
 name:List UInt8
 u1:Int
 u2:Int
 bx:List AV
 bn:Nat
def Rx (x:Sc):List AV:= [.str x.name,.int .i64 x.u1,.int .i64 x.u2,.sl x.bx x.bn false]
def gZ (l:List Sc):List AV:=l.flatMap Rx
theorem X8 {l:List Sc} {k:Nat} (h:k<l.length):List.drop (k*4) (gZ l)=Rx l[k]++gZ (l.drop (k+1)):=by
 induction l generalizing k with
 |nil=>simp at h
 | cons x r ih=>
  cases k with
  |zero=>simp [gZ]
  |succ k=>
   have c:k<r.length:=by simpa using h
   show List.drop ((k+1)*4) (Rx x++gZ r)=_
   rw [show (k+1)*4=(Rx x).length+k*4 by simp [Rx];omega,List.drop_append,Nat.add_sub_cancel_left,ih c,List.drop_of_length_le (by omega)]
   rfl
theorem NP {A:List (List Nat)} {k:Nat} (h:k<A.length):List.drop (Int.toNat (k:Int)*1) (dC A)= [SH (A.getD k [])]++dC (A.drop (k+1)):=by
 unfold dC
 rw [aJ,Nat.mul_one,← List.map_drop,List.drop_eq_getElem_cons h,List.getD_eq_getElem?_getD,List.getElem?_eq_getElem h]
 rfl
theorem U3 (k:Nat):decide (((0:Nat):Int)≤(k:Int))=true:=decide_eq_true (by omega)
theorem dlt {k n:Nat} (h:k<n):decide ((k:Int)<(n:Int))=true:=decide_eq_true (by omega)
end Go.Proofs.Tryz
open Go AM
namespace Go.Proofs.Tryz
theorem Ha:∀ (r:List Nd) (k:Nat) (st:List Nat),(∀ j ∈ st,j<k)→(∃ e,iy r st.length= .inl e)→(uh r k st).length=r.length∧∀ i x,r[i]? =some x→((uh r k st).getD i []).length=fG x.op∧∀ j ∈ (uh r k st).getD i [],j<k+i
 | [],k,st,_,_=> ⟨rfl,fun i x h=>by simp at h⟩
 | x ::r,k,st,hst,⟨e,he⟩=>by
  simp only [iy] at he
  split at he
  ·split at he
   ·cases he
   ·rename_i p o
    have g:(st.take (st.length - fG x.op)++ [k]).length=st.length - fG x.op+1:=by rw [List.length_append,List.length_take,List.length_singleton];omega
    have f:=Ha r (k+1) (st.take (st.length - fG x.op)++ [k]) (by
     intro j c
     rcases List.mem_append.1 c with c|c
     ·have:=hst j (List.mem_of_mem_take c);omega
     ·rw [List.mem_singleton.1 c];omega) ⟨e,by rw [g];exact he⟩
    refine ⟨by simp only [uh,List.length_cons,f.1], ?_⟩
    intro i y d
    cases i with
    |zero=>
     simp only [List.getElem?_cons_zero,Option.some.injEq] at d
     subst d
     simp only [uh,List.getD_cons_zero]
     refine ⟨by rw [List.length_drop];omega,fun j c=> ?_⟩
     have:=hst j (List.mem_of_mem_drop c);omega
    |succ i=>
     simp only [List.getElem?_cons_succ] at d
     obtain ⟨m,n⟩:=f.2 i y d
     simp only [uh,List.getD_cons_succ]
     exact ⟨m,fun j c=>by have:=n j c;omega⟩
  ·cases he
theorem CW:∀ (r:List Nd) (d:Nat) (w:Int),iy r d= .inr w→w ≠ 0
 | [],d,w,h=>by simp [iy] at h
 | x::r,d,w,h=>by
  simp only [iy] at h
  split at h
  ·split at h
   ·cases h;decide
   ·exact CW r _ w h
  ·rename_i c
   cases h;exact c
theorem DV {e:List Nd} (c:dE e=0):(eX e).length=e.length∧∀ i x,e[i]? =some x→((eX e).getD i []).length=fG x.op∧∀ j ∈ (eX e).getD i [],j<i:=by
 have h:∃ d,iy e ([]:List Nat).length= .inl d:=by
  unfold dE at c
  split at c
  ·cases c
  ·split at c
   ·rename_i d hd;exact ⟨d,hd⟩
   ·rename_i w g
    exact absurd c (CW _ _ _ g)
 obtain ⟨k,f⟩:=Ha e 0 [] (by simp) h
 exact ⟨k,fun i x m=>by have:=f i x m;rw [Nat.zero_add] at this;exact this⟩
end Go.Proofs.Tryz
set_option maxRecDepth 100000
open Go AM
namespace Go.Proofs.Tryz
theorem wkn {n c:Nat} (h:n=c+1) (d:n<2^40):AV.int .i64 (IntKind.wrap .i64 ((n:Int) - ((1:Nat):Int)))= .int .i64 (c:Int):=by rw [bF]<;>first|(congr 1;omega)|omega
theorem dle {n:Nat} (h:n<2^40):decide ((n:Int)≤((1099511627776:Nat):Int))=true:=decide_eq_true (by omega)
theorem Vj (l:List Nd) (nn:Bool) (c:∀ x ∈ l,x.sm) (d:dE l=0):CO 24 [.sl (aZ l) l.length nn] (.ret (.tup [.sl (dC (eX l)) (eX l).length true,.bool true])):=by
 rw [(DV d).1];exact Y6 l nn c d
structure Br where
 fn:Bool
 fa:List UInt8
 fd:List UInt8
 rn:Bool
 ra:List UInt8
 rd:List UInt8
def SN (x:Br):List AV:= [.bool x.fn,.str x.fa,.str x.fd,.bool x.rn,.str x.ra,.str x.rd]
def nM (l:List Br):List AV:=l.flatMap SN
def Br.sm (x:Br):Prop:=(x.fa.length<2^33∧x.fd.length<2^33)∧(x.ra.length<2^33∧x.rd.length<2^33)
abbrev brF (x:Br):AV:= .agg [.bool x.fn,.str x.fa,.str x.fd]
abbrev brR (x:Br):AV:= .agg [.bool x.rn,.str x.ra,.str x.rd]
theorem DW {l:List Br} {k:Nat} (h:k<l.length):List.drop (Int.toNat (k:Int)*6) (nM l)=SN l[k]++nM (l.drop (k+1)):=by
 rw [aJ]
 induction l generalizing k with
 |nil=>simp at h
 | cons x r ih=>
  cases k with
  |zero=>simp [nM]
  |succ k=>
   have c:k<r.length:=by simpa using h
   show List.drop ((k+1)*6) (SN x++nM r)=_
   rw [show (k+1)*6=(SN x).length+k*6 by simp [SN];omega,List.drop_append,Nat.add_sub_cancel_left,ih c,List.drop_of_length_le (by omega)]
   rfl
def He (cmp:Br→Br→Int):Option Br→List Br→Bool
 |_,[]=>true
 |none,x::r=>cond (iU x.fn x.fa x.fd) (cond (iU x.rn x.ra x.rd) (cond (rU x.fn x.fa x.fd==((0:Nat):Int)) (He cmp (some x) r) false) false) false
 |some y,x::r=>cond (iU x.fn x.fa x.fd) (cond (iU x.rn x.ra x.rd) (cond (decide (((0:Nat):Int)≤cmp y x)) false (He cmp (some x) r)) false) false
def ahE (nm:List UInt8) (u1 u2:Int) (l:List Br) (k:Nat):St:=⟨[(1,.ptr 0 0 0),(3,.sl (nM l) l.length false),(16,.sl (nM l) l.length false),(17,.int .i64 (l.length:Int)),(18,.int .i64 (k:Int))],[(0,⟨[.str nm,.int .i64 u1,.int .i64 u2,.sl (nM l) l.length false],0,false,0,0,true⟩)],.dead,[]⟩
def ac2 (l:List Br):Bool→St
 |true=> ⟨[(3,.sl (nM l) l.length false)],[],.dead,[]⟩
 |false=> ⟨[(2,.int .i64 11)],[],.dead,[]⟩
def bkE:Bool→bJ
 |true=> .exit 1
 |false=> .ret
def GY (f:Nat) (cmp:Br→Br→Int) (l:List Br):Prop:=∀ i y x,l[i]? =some y→l[i+1]? =some x→iU x.fn x.fa x.fd=true→iU x.rn x.ra x.rd=true→CO f [brF y,brF x] (.ret (.int .i64 (cmp y x)))
theorem Y_ {nt:Nat} (j:60≤nt) (M:List UInt8) (u1 u2:Int) (l:List Br) (cmp:Br→Br→Int) (F:l.length<2^40) (A:∀ x ∈ l,x.sm) (J:GY 127 cmp l):∀ (r p:List Br),p++r=l→
  aI prog ap [] nt (ag 1 (ai f202)) bkE (ahE M u1 u2 l) (ac2 l) p.length (He cmp p.getLast? r):=by
 intro r
 induction r with
 |nil=>
  intro p hp
  rw [List.append_nil] at hp
  subst hp
  have c:(decide ((p.length:Int)<(p.length:Int)))=false:=decide_eq_false (by omega)
  rw [show He cmp p.getLast? []=true by cases p.getLast? <;>rfl]
  exact .done (pN 202 [] 1 0 (.c (aF c) .nil) (.nil) j)
 | cons x r ih=>
  intro p hp
  have G:p.length<l.length:=by rw [← hp];simp
  have u:l[p.length]=x:=by subst hp;simp
  have g:=DW G
  rw [u] at g
  have i:=ih (p++ [x]) (by rw [← hp];simp)
  rw [List.getLast?_append,List.getLast?_singleton,List.length_append,List.length_singleton] at i
  simp only [Option.some_or] at i
  have hs:=A x (by rw [← hp];simp)
  have d:CO 115 [brF x] (.ret (.bool (iU x.fn x.fa x.fd))):=mF x.fn x.fa x.fd (Nat.lt_trans hs.1.1 (by decide)) (Nat.lt_trans hs.1.2 (by decide))
  have f:CO 115 [brR x] (.ret (.bool (iU x.rn x.ra x.rd))):=mF x.rn x.ra x.rd (Nat.lt_trans hs.2.1 (by decide)) (Nat.lt_trans hs.2.2 (by decide))
  have I:CO 121 [brF x] (.ret (.int .i64 (rU x.fn x.fa x.fd))):=oO x.fn x.fa x.fd (Nat.lt_trans hs.1.1 (by decide)) (Nat.lt_trans hs.1.2 (by decide))
  cases n:p.getLast? with
  | none=>
   have C:p= []:=List.getLast?_eq_none_iff.1 n
   subst C
   generalize K:([]:List Br).length=k at*
   have B:k=0:=by rw [← K];rfl
   generalize nM (l.drop (k+1))=rB at g
   have c:(decide ((k:Int)<(l.length:Int)))=true:=decide_eq_true (by omega)
   have t:((k:Int)==((0:Nat):Int))=true:=by rw [B];rfl
   have w:(decide (((0:Nat):Int)<(k:Int)))=false:=decide_eq_false (by omega)
   have E:k<2^62:=by omega
   rcases tf (iU x.fn x.fa x.fd) with d0|d0
   ·rcases tf (iU x.rn x.ra x.rd) with d1|d1
    ·rcases tf ((rU x.fn x.fa x.fd)==((0:Nat):Int)) with d2|d2
     ·simp only [He,d0,d1,d2,cond_true,cond_false]
      exact .next (pN 202 [] 7 9 (.k 1 (aF w) (.c (a_ d2) (.k 3 (aG t) (.c (a_ d1) (.k 3 (a_ d0) (.k 10 (U3 k) (.c c (.c (aG c) .nil)))))))) (.v 57 (.eq (CG E)) (.c I (.c f (.c d (.v 21 (.ppt g) .nil))))) j) i
     ·simp only [He,d0,d1,d2,cond_true,cond_false]
      exact .done (pN 202 [] 6 57 (.k 1 (eF d2) (.k 3 (aG t) (.c (a_ d1) (.k 3 (a_ d0) (.k 10 (U3 k) (.c c (.c (aG c) .nil))))))) (.c I (.c f (.c d (.v 21 (.ppt g) .nil)))) j)
    ·simp only [He,d0,d1,cond_true,cond_false]
     exact .done (pN 202 [] 3 5 (.c (eF d1) (.k 3 (a_ d0) (.k 10 (U3 k) (.c c (.c (aG c) .nil))))) (.c f (.c d (.v 21 (.ppt g) .nil))) j)
   ·simp only [He,d0,cond_true,cond_false]
    exact .done (pN 202 [] 3 7 (.k 1 (eF d0) (.k 10 (U3 k) (.c c (.c (aG c) .nil)))) (.c d (.v 21 (.ppt g) .nil)) j)
  | some y=>
   obtain ⟨q,D⟩:∃ q,p=q++ [y]:=by
    obtain ⟨q,h⟩:=List.getLast?_eq_some_iff.1 n
    exact ⟨q,h⟩
   have m:p.length=q.length+1:=by rw [D];simp
   have e:q.length<l.length:=by omega
   have z:=DW e
   have o:l[q.length]=y:=by subst hp D;simp
   rw [o] at z
   have H:=J q.length y x (by rw [List.getElem?_eq_getElem e,o]) (by rw [← m,List.getElem?_eq_getElem G,u])
   clear D
   generalize p.length=k at*
   generalize q.length=k1 at*
   generalize nM (l.drop (k+1))=rB at g
   generalize nM (l.drop (k1+1))=rC at z
   have c:(decide ((k:Int)<(l.length:Int)))=true:=decide_eq_true (by omega)
   have t:((k:Int)==((0:Nat):Int))=false:=beq_eq_false_iff_ne.2 (by omega)
   have w:(decide (((0:Nat):Int)<(k:Int)))=true:=decide_eq_true (by omega)
   have E:k<2^62:=by omega
   have v:k<2^40:=by omega
   rcases tf (iU x.fn x.fa x.fd) with d0|d0
   ·rcases tf (iU x.rn x.ra x.rd) with d1|d1
    ·rcases tf (decide (((0:Nat):Int)≤(cmp y x))) with d2|d2
     ·simp only [He,d0,d1,d2,cond_true,cond_false]
      exact .done (pN 202 [] 7 97 (.c (aG d2) (.k 6 (U3 k1) (.c (dlt e) (.c (aG w) (.k 1 (aF t) (.c (a_ d1) (.k 3 (a_ d0) (.k 10 (U3 k) (.c c (.c (aG c) .nil)))))))))) (.c (H d0 d1) (.v 48 (.ppt z) (.v 47 (.eq (wkn m v)) (.c f (.c d (.v 21 (.ppt g) .nil)))))) j)
     ·simp only [He,d0,d1,d2,cond_true,cond_false]
      exact .next (pN 202 [] 7 33 (.c (aF d2) (.k 6 (U3 k1) (.c (dlt e) (.c (aG w) (.k 1 (aF t) (.c (a_ d1) (.k 3 (a_ d0) (.k 10 (U3 k) (.c c (.c (aG c) .nil)))))))))) (.v 57 (.eq (CG E)) (.c (H d0 d1) (.v 48 (.ppt z) (.v 47 (.eq (wkn m v)) (.c f (.c d (.v 21 (.ppt g) .nil))))))) j) i
    ·simp only [He,d0,d1,cond_true,cond_false]
     exact .done (pN 202 [] 3 5 (.c (eF d1) (.k 3 (a_ d0) (.k 10 (U3 k) (.c c (.c (aG c) .nil))))) (.c f (.c d (.v 21 (.ppt g) .nil))) j)
   ·simp only [He,d0,cond_true,cond_false]
    exact .done (pN 202 [] 3 7 (.k 1 (eF d0) (.k 10 (U3 k) (.c c (.c (aG c) .nil)))) (.c d (.v 21 (.ppt g) .nil)) j)
def Ji (P:Br→Bool):List Br→Nat→Option Nat
 | [],_=>none
 |x::r,i=>if P x then some i else Ji P r (i+1)
theorem Lr (P:Br→Bool):∀ (r:List Br) (i:Nat),(Ji P r i).isSome=r.any P
 | [],_=>rfl
 |x::r,i=>by
  unfold Ji
  rw [List.any_cons]
  rcases tf (P x) with h|h
  ·rw [if_pos h,h];rfl
  ·rw [if_neg (by rw [h];decide),h,Bool.false_or];exact Lr P r (i+1)
def adh (l:List Br) (k:Nat):St:=⟨[(0,.sl (nM l) l.length false),(1,.fn 218 [] []),(7,.int .i64 (l.length:Int)),(8,.int .i64 (k:Int))],[],.dead,[]⟩
def WL (l:List Br):Option Nat→St
 |none=> ⟨[(0,.sl (nM l) l.length false)],[],.dead,[]⟩
 |some i=> ⟨[(4,.int .i64 (i:Int))],[],.dead,[]⟩
theorem WM {nt:Nat} (g:19≤nt) (l:List Br) (P:Br→Bool) (i:l.length<2^40) (n:∀ x ∈ l,CO 218 [.agg (SN x)] (.ret (.bool (P x)))):∀ (r p:List Br),p++r=l→
  aI prog ap [] nt (ag 0 (ai f230)) ixE (adh l) (WL l) p.length (Ji P r p.length):=by
 intro r
 induction r with
 |nil=>
  intro p hp
  rw [List.append_nil] at hp
  subst hp
  have c:(decide ((p.length:Int)<(p.length:Int)))=false:=decide_eq_false (by omega)
  exact .done (pN 230 [] 1 0 (.c (aF c) .nil) (.nil) g)
 | cons x r ih=>
  intro p hp
  have j:p.length<l.length:=by rw [← hp];simp
  have f:l[p.length]=x:=by subst hp;simp
  have e:=DW j
  rw [f] at e
  have d:=ih (p++ [x]) (by rw [← hp];simp)
  rw [List.length_append,List.length_singleton] at d
  have h:=n x (by rw [← hp];simp)
  unfold Ji
  generalize p.length=k at*
  generalize nM (l.drop (k+1))=rB at e
  have c:(decide ((k:Int)<(l.length:Int)))=true:=decide_eq_true (by omega)
  have m:k<2^62:=by omega
  rcases tf (P x) with d0|d0
  ·rw [if_pos d0]
   exact .done (pN 230 [] 2 3 (.c (aG d0) (.k 6 (U3 k) (.c c (.c (aG c) .nil)))) (.c h (.v 14 (.ppt e) .nil)) g)
  ·rw [if_neg (by rw [d0];decide)]
   exact .next (pN 230 [] 2 1 (.c (aF d0) (.k 6 (U3 k) (.c c (.c (aG c) .nil)))) (.v 18 (.eq (CG m)) (.c h (.v 14 (.ppt e) .nil))) g) d
theorem afs (l:List Br) (i:Nat) (c:aO prog ap [] 19 (.block 0 (.loop (ag 0 (ai f230)))) ⟨[(0,.sl (nM l) l.length false),(1,.fn 218 [] []),(4,.int .i64 0),(5,.dead),(7,.int .i64 (l.length:Int)),(8,.int .i64 0),(9,.dead),(16,.dead)],[],.dead,[]⟩ (.ret) ⟨[(4,.int .i64 (i:Int))],[],.dead,[]⟩):CO 230 [.sl (nM l) l.length false,.fn 218 [] []] (.ret (.int .i64 (i:Int))):=pK [0] 0 0 .nil (.l c .nil)
theorem afr (l:List Br) (c:aO prog ap [] 19 (.block 0 (.loop (ag 0 (ai f230)))) ⟨[(0,.sl (nM l) l.length false),(1,.fn 218 [] []),(4,.int .i64 0),(5,.dead),(7,.int .i64 (l.length:Int)),(8,.int .i64 0),(9,.dead),(16,.dead)],[],.dead,[]⟩ (.normal) ⟨[(0,.sl (nM l) l.length false)],[],.dead,[]⟩):CO 230 [.sl (nM l) l.length false,.fn 218 [] []] (.ret (.int .i64 (-1))):=pK [0] 0 0 .nil (.l c .nil)
theorem afq (l:List Br) (P:Br→Bool) (c:l.length<2^40) (e:∀ x ∈ l,CO 218 [.agg (SN x)] (.ret (.bool (P x)))):CO 230 [.sl (nM l) l.length false,.fn 218 [] []] (.ret (.int .i64 (ixI (Ji P l 0)))):=by
 have h:∀ nt,19≤nt→aI prog ap [] nt (ag 0 (ai f230)) ixE (adh l) (WL l) 0 (Ji P l 0):=fun nt f=>WM f l P c e l [] rfl
 cases d:Ji P l 0 with
 |none=>
  rw [d] at h
  exact afr l (aI.blk h (by simp [ixE]) rfl (aQ.of ⟨rfl,rfl,rfl,rfl,trivial⟩) (aQ.of ⟨rfl,trivial⟩))
 |some i=>
  rw [d] at h
  exact afs l i (aI.blk h (by simp [ixE]) rfl (aQ.of ⟨rfl,rfl,rfl,rfl,trivial⟩) (aQ.of ⟨rfl,trivial⟩))
theorem Zm (l:List Br) (c:Int) (d:CO 230 [.sl (nM l) l.length false,.fn 218 [] []] (.ret (.int .i64 c))):CO 217 [.sl (nM l) l.length false,.fn 218 [] []] (.ret (.bool (decide (((0:Nat):Int)≤c)))):=pK [] 0 0 .nil (.c d .nil)
theorem VB (l:List Br) (P:Br→Bool) (c:l.length<2^40) (e:∀ x ∈ l,CO 218 [.agg (SN x)] (.ret (.bool (P x)))):CO 217 [.sl (nM l) l.length false,.fn 218 [] []] (.ret (.bool (l.any P))):=by
 have h:=Zm l _ (afq l P c e)
 rw [← Lr P l 0]
 cases d:Ji P l 0 with
 |none=>rw [d] at h;exact h
 |some i=>
  rw [d] at h
  rw [show (some i).isSome=decide (((0:Nat):Int)≤ixI (some i)) from (decide_eq_true (show ((0:Nat):Int)≤(i:Int) by omega)).symm]
  exact h
def GG (x:Br):Bool:= !(fA x.fn x.fa x.fd)|| !(fA x.rn x.ra x.rd)
theorem aeg (x:Br) (hs:x.sm):CO 218 [.agg (SN x)] (.ret (.bool (GG x))):=by
 rcases tf (fA x.fn x.fa x.fd) with b0|b0
 ·rw [show GG x= !(fA x.rn x.ra x.rd) by unfold GG;rw [b0];rfl]
  exact pK [] 1 0 (.k 3 (a_ b0) (.n 3 .nil)) (.c (gm x.rn x.ra x.rd (Nat.lt_trans hs.2.1 (by decide)) (Nat.lt_trans hs.2.2 (by decide))) (.c (gm x.fn x.fa x.fd (Nat.lt_trans hs.1.1 (by decide)) (Nat.lt_trans hs.1.2 (by decide))) .nil))
 ·rw [show GG x=true by unfold GG;rw [b0];rfl]
  exact pK [] 1 1 (.c (eF b0) (.n 3 .nil)) (.c (gm x.fn x.fa x.fd (Nat.lt_trans hs.1.1 (by decide)) (Nat.lt_trans hs.1.2 (by decide))) .nil)
def NC (cmp:Br→Br→Int) (l:List Br):Int:=cond (decide (((8:Nat):Int)<(l.length:Int))) 2 (cond ((l.length:Int)==((0:Nat):Int)) 11 (cond (He cmp none l) (cond (l.any GG) 3 0) 11))
theorem amq (d:List UInt8) (u1 u2:Int) (l:List Br) (c:Bool) (e:(decide (((8:Nat):Int)<(l.length:Int)))=false) (f:((l.length:Int)==((0:Nat):Int))=false) (g:CO 217 [.sl (nM l) l.length false,.fn 218 [] []] (.ret (.bool c)))
  (l0:aO prog ap [] 60 (.block 1 (.loop (ag 1 (ai f202)))) ⟨[(0,.agg [.str d,.int .i64 u1,.int .i64 u2,.sl (nM l) l.length false]),(1,.ptr 0 0 0),(2,.int .i64 0),(3,.sl (nM l) l.length false),(4,.dead),(5,.dead),(8,.bool (decide (((8:Nat):Int)<(l.length:Int)))),(12,.bool ((l.length:Int)==((0:Nat):Int))),(16,.sl (nM l) l.length false),(17,.int .i64 (l.length:Int)),(18,.int .i64 0),(19,.dead),(32,.dead),(56,.dead),(59,.dead)],[(0,⟨[.str d,.int .i64 u1,.int .i64 u2,.sl (nM l) l.length false],0,false,0,0,true⟩)],.dead,[]⟩ (.normal) ⟨[(3,.sl (nM l) l.length false)],[],.dead,[]⟩):CO 202 [.agg [.str d,.int .i64 u1,.int .i64 u2,.sl (nM l) l.length false]] (.ret (.int .i64 (cond c 3 0))):=by
 rcases tf c with b2|b2
 ·rw [show (cond c 3 0:Int)=3 by rw [b2];rfl]
  exact pK [1] 3 4 (.c (aG b2) (.c (aF f) (.c (aF e) (.n 1 .nil)))) (.c g (.l l0 .nil))
 ·rw [show (cond c 3 0:Int)=0 by rw [b2];rfl]
  exact pK [1] 3 0 (.c (aF b2) (.c (aF f) (.c (aF e) (.n 1 .nil)))) (.c g (.l l0 .nil))
theorem amo (c:List UInt8) (u1 u2:Int) (l:List Br) (d:(decide (((8:Nat):Int)<(l.length:Int)))=false) (e:((l.length:Int)==((0:Nat):Int))=false)
  (l0:aO prog ap [] 60 (.block 1 (.loop (ag 1 (ai f202)))) ⟨[(0,.agg [.str c,.int .i64 u1,.int .i64 u2,.sl (nM l) l.length false]),(1,.ptr 0 0 0),(2,.int .i64 0),(3,.sl (nM l) l.length false),(4,.dead),(5,.dead),(8,.bool (decide (((8:Nat):Int)<(l.length:Int)))),(12,.bool ((l.length:Int)==((0:Nat):Int))),(16,.sl (nM l) l.length false),(17,.int .i64 (l.length:Int)),(18,.int .i64 0),(19,.dead),(32,.dead),(56,.dead),(59,.dead)],[(0,⟨[.str c,.int .i64 u1,.int .i64 u2,.sl (nM l) l.length false],0,false,0,0,true⟩)],.dead,[]⟩ (.ret) ⟨[(2,.int .i64 11)],[],.dead,[]⟩):CO 202 [.agg [.str c,.int .i64 u1,.int .i64 u2,.sl (nM l) l.length false]] (.ret (.int .i64 11)):=pK [1] 2 0 (.c (aF e) (.c (aF d) (.n 1 .nil))) (.l l0 .nil)
theorem Pg (d:List UInt8) (u1 u2:Int) (l:List Br) (cmp:Br→Br→Int) (c:l.length<2^40) (e:∀ x ∈ l,x.sm) (j:GY 127 cmp l):CO 202 [.agg [.str d,.int .i64 u1,.int .i64 u2,.sl (nM l) l.length false]] (.ret (.int .i64 (NC cmp l))):=by
 unfold NC
 rcases tf (decide (((8:Nat):Int)<(l.length:Int))) with d0|d0
 ·rw [d0]
  exact pK [] 1 1 (.c (aG d0) (.n 1 .nil)) (.nil)
 ·rw [d0]
  rcases tf ((l.length:Int)==((0:Nat):Int)) with d1|d1
  ·rw [d1]
   exact pK [] 2 2 (.c (aG d1) (.c (aF d0) (.n 1 .nil))) (.nil)
  ·rw [d1]
   have h:∀ nt,60≤nt→aI prog ap [] nt (ag 1 (ai f202)) bkE (ahE d u1 u2 l) (ac2 l) 0 (He cmp none l):=fun nt g=>Y_ g d u1 u2 l cmp c e j l [] rfl
   cases f:He cmp none l with
   |true=>
    rw [f] at h
    exact amq d u1 u2 l _ d0 d1 (VB l GG c fun x i=>aeg x (e x i)) (aI.blk h (by simp [bkE]) rfl (aQ.of ⟨rfl,rfl,rfl,rfl,rfl,trivial⟩) (aQ.of ⟨rfl,trivial⟩))
   |false=>
    rw [f] at h
    exact amo d u1 u2 l d0 d1 (aI.blk h (by simp [bkE]) rfl (aQ.of ⟨rfl,rfl,rfl,rfl,rfl,trivial⟩) (aQ.of ⟨rfl,trivial⟩))
end Go.Proofs.Tryz
set_option maxRecDepth 100000
set_option linter.unusedVariables false
open Go AM
namespace Go.Proofs.Tryz
def P6 (b:RQ × RQ):List AV:= [.bool b.1.neg,.str (af b.1.n),.str (af b.1.d),.bool b.2.neg,.str (af b.2.n),.str (af b.2.d)]
def x_ (l:List (RQ × RQ)):List AV:=l.flatMap P6
def rvC (q:RQ):List AV:= [.bool q.neg,.str (af q.n),.str (af q.d)]
def GX (l:List RQ):List AV:=l.flatMap rvC
abbrev JY (nm:List UInt8) (u1 u2:Int) (l:List (RQ × RQ)):AV:= .agg [.str nm,.int .i64 u1,.int .i64 u2,.sl (x_ l) l.length false]
abbrev Rz (nm:List UInt8) (u1 u2:Int) (l:List (RQ × RQ)):AV:= .pp [.str nm,.int .i64 u1,.int .i64 u2,.sl (x_ l) l.length false] 0
abbrev Ru (x:RQ):AV:= .pp [.bool x.neg,.str (af x.n),.str (af x.d)] 0
theorem ah8 (x:RQ) (c:Int) (d:List UInt8) (u1 u2:Int) (l:List (RQ × RQ)) (g:lit false (!(c==((0:Nat):Int)))=true) (e:CO 202 [JY d u1 u2 l] (.ret (.int .i64 c))) (h:CO 115 [qA x] (.ret (.bool true))) (f:CO 70 [qA x] (.ret (.bool true))):CO 172 [JY d u1 u2 l,qA x] (.ret (.int .i64 0)):=pK [] 3 0 (.k 8 g (.n 4 .nil)) (.c f (.c h (.c e .nil)))
theorem ah_ (x:RQ) (c:Nat) (d:List UInt8) (u1 u2:Int) (l:List (RQ × RQ)) (e:CO 203 [.int .i64 (l.length:Int),.fn 204 [] [Rz d u1 u2 l,Ru x]] (.ret (.int .i64 (c:Int)))):CO 173 [JY d u1 u2 l,qA x] (.ret (.int .i64 (c:Int))):=pK [] 0 0 (.n 1 .nil) (.c e .nil)
theorem ah9 (x:RQ) (k:Nat) (g:Int) (e:List UInt8) (u1 u2:Int) (l:List (RQ × RQ)) (b:RQ × RQ) (rb:List AV) (h:(List.drop ((Int.toNat (k:Int))*6) (x_ l))=P6 b++rb) (f:(decide (((0:Nat):Int)≤(k:Int)))=true) (d:(decide ((k:Int)<(l.length:Int)))=true) (c:CO 127 [qA b.1,qA x] (.ret (.int .i64 g))):CO 204 [.int .i64 (k:Int),Rz e u1 u2 l,Ru x] (.ret (.bool (decide (((0:Nat):Int)<g)))):=pK [] 0 0 (.k 6 f (.c d (.n 1 .nil))) (.c c (.v 8 (.ppt h) .nil))
theorem aie (x:RQ) (c:lit true (!(jM x))=true) (d:CO 70 [qA x] (.ret (.bool (jM x)))):CO 174 [qA x] (.ret (.tup [.agg [.bool false,.str [],.str []],.int .i64 3])):=pK [] 1 1 (.k 4 c (.n 3 .nil)) (.c d .nil)
theorem aif (x:RQ) (c:lit false (!(jM x))=true) (d:CO 70 [qA x] (.ret (.bool (jM x)))):CO 174 [qA x] (.ret (.tup [qA x,.int .i64 0])):=pK [] 1 0 (.k 7 c (.n 3 .nil)) (.c d .nil)
theorem aiH (x:RQ) (p:Bool) (i j c:Nat) (d:List UInt8) (u1 u2:Int) (l:List (RQ × RQ)) {nt:Nat} (k:26≤nt) (e:AV.int .i64 (IntKind.wrap .i64 (Int.fdiv (IntKind.wrap .u64 (IntKind.wrap .i64 ((i:Int)+(j:Int)))) (2^(min 1 64))))=AV.int .i64 (c:Int)) (g:AV.int .i64 (IntKind.wrap .i64 ((c:Int)+((1:Nat):Int)))=AV.int .i64 ((c+1:Nat):Int)) (m:lit true (!p)=true) (h:lit true (decide ((i:Int)<(j:Int)))=true) (f:CO 204 [.int .i64 (c:Int),Rz d u1 u2 l,Ru x] (.ret (.bool p))):ax prog ap [] nt (ag 0 (ai f203)) ⟨[(1,.fn 204 [] [Rz d u1 u2 l,Ru x]),(5,.int .i64 (i:Int)),(6,.int .i64 (j:Int))],[],.dead,[]⟩ (.normal) ⟨[(1,.fn 204 [] [Rz d u1 u2 l,Ru x]),(5,.int .i64 ((c+1:Nat):Int)),(6,.int .i64 (j:Int))],[],.dead,[]⟩:=pN 203 [] 2 3 (.c m (.k 1 h .nil)) (.v 23 (.eq g) (.c f (.v 17 (.eq e) .nil))) k
theorem aiI (x:RQ) (p:Bool) (i j c:Nat) (d:List UInt8) (u1 u2:Int) (l:List (RQ × RQ)) {nt:Nat} (h:26≤nt) (e:AV.int .i64 (IntKind.wrap .i64 (Int.fdiv (IntKind.wrap .u64 (IntKind.wrap .i64 ((i:Int)+(j:Int)))) (2^(min 1 64))))=AV.int .i64 (c:Int)) (k:lit false (!p)=true) (g:lit true (decide ((i:Int)<(j:Int)))=true) (f:CO 204 [.int .i64 (c:Int),Rz d u1 u2 l,Ru x] (.ret (.bool p))):ax prog ap [] nt (ag 0 (ai f203)) ⟨[(1,.fn 204 [] [Rz d u1 u2 l,Ru x]),(5,.int .i64 (i:Int)),(6,.int .i64 (j:Int))],[],.dead,[]⟩ (.normal) ⟨[(1,.fn 204 [] [Rz d u1 u2 l,Ru x]),(5,.int .i64 (i:Int)),(6,.int .i64 (c:Int))],[],.dead,[]⟩:=pN 203 [] 2 1 (.c k (.k 1 g .nil)) (.c f (.v 17 (.eq e) .nil)) h
theorem ada (x:RQ) (i j:Nat) (c:List UInt8) (u1 u2:Int) (l:List (RQ × RQ)) {nt:Nat} (d:26≤nt) (e:lit false (decide ((i:Int)<(j:Int)))=true):ax prog ap [] nt (ag 0 (ai f203)) ⟨[(1,.fn 204 [] [Rz c u1 u2 l,Ru x]),(5,.int .i64 (i:Int)),(6,.int .i64 (j:Int))],[],.dead,[]⟩ (.exit 0) ⟨[(5,.int .i64 (i:Int))],[],.dead,[]⟩:=pN 203 [] 1 0 (.c e .nil) (.nil) d
theorem aiE (x:RQ) (c n:Nat) (d:List UInt8) (u1 u2:Int) (l:List (RQ × RQ)) (e:aO prog ap [] 26 (.block 0 (.loop (ag 0 (ai f203)))) ⟨[(0,.int .i64 (n:Int)),(1,.fn 204 [] [Rz d u1 u2 l,Ru x]),(4,.int .i64 0),(5,.int .i64 0),(6,.int .i64 (n:Int)),(7,.dead),(11,.dead),(21,.dead)],[],.dead,[]⟩ (.normal) ⟨[(5,.int .i64 (c:Int))],[],.dead,[]⟩):CO 203 [.int .i64 (n:Int),.fn 204 [] [Rz d u1 u2 l,Ru x]] (.ret (.int .i64 (c:Int))):=pK [0] 0 0 .nil (.l e .nil)
theorem aiL (d:List UInt8) (u1 u2:Int) (l:List (RQ × RQ)) (c:List RQ) (i:AV.sl (List.drop 6 (List.take ((Int.toNat (l.length:Int))*6) (x_ l))) ((Int.toNat (l.length:Int)) - 1) false=AV.sl (x_ l.tail) l.tail.length false) (h:(decide (((1:Nat):Int)≤(l.length:Int)))=true) (g:(decide ((l.length:Int)≤(l.length:Int)))=true) (e:CO 42 [.int .i64 0] (.ret (qA q0))) (f:aO prog ap [] 47 (.block 0 (.loop (ag 0 (ai f175)))) ⟨[(0,JY d u1 u2 l),(1,.ptr 0 0 0),(2,.nilS),(3,.ref 1 0 0 1),(4,.dead),(5,.dead),(11,.int .i64 (l.tail.length:Int)),(12,.int .i64 0),(13,.dead)],[(0,⟨[.str d,.int .i64 u1,.int .i64 u2,.sl (x_ l) l.length false],0,false,0,0,true⟩),(1,⟨[.bool q0.neg,.str (af q0.n),.str (af q0.d)],0,false,0,3,true⟩)],.dead,[]⟩ (.normal) ⟨[(3,.ref 0 0 0 c.length)],[(0,⟨(GX c),0,false,0,3,true⟩)],.dead,[]⟩):CO 175 [JY d u1 u2 l] (.ret (.own (List.take (c.length*3) (GX c)) c.length 3)):=pK [0] 0 0 (.k 1 h (.c g (.n 1 .nil))) (.l f (.v 10 (.eq i) (.c e .nil)))
theorem aiF (o r v w:RQ) (k:Nat) (p:List UInt8) (u1 u2:Int) (l:List (RQ × RQ)) (c:List RQ) (b h:RQ × RQ) (rb g C:List AV) {nt:Nat} (q:47≤nt) (j:(List.drop ((Int.toNat (k:Int))*6) (x_ l))=P6 b++rb) (e:(List.drop ((Int.toNat ((k+1:Nat):Int))*6) (x_ l))=P6 h++g) (i:(List.drop ((0+(Int.toNat (k:Int)))*3) (GX c))=rvC o++C) (n:AV.int .i64 (IntKind.wrap .i64 ((k:Int)+((1:Nat):Int)))=AV.int .i64 ((k+1:Nat):Int)) (d:((List.take (c.length*3) (GX c))++ [.bool r.neg,.str (af r.n),.str (af r.d)])=(GX (c++ [r]))) (F:(Nat.ble (c.length+1) 1099511627776)=true) (z:(Nat.ble (c.length*3) (List.length (GX c)))=true) (f:(decide (((0:Nat):Int)≤(k:Int)))=true) (m:(decide ((k:Int)<(l.length:Int)))=true) (y:(decide ((k:Int)<(c.length:Int)))=true) (u:(decide (((0:Nat):Int)≤((k+1:Nat):Int)))=true) (t:(decide (((k+1:Nat):Int)<(l.length:Int)))=true) (A:lit true (decide ((k:Int)<(l.tail.length:Int)))=true) (D:CO 168 [qA h.1,qA b.1] (.ret (qA v))) (B:CO 169 [qA v,qA b.2] (.ret (qA w))) (E:CO 167 [qA o,qA w] (.ret (qA r))):ax prog ap [] nt (ag 0 (ai f175)) ⟨[(1,.ptr 0 0 0),(3,.ref 1 0 0 c.length),(11,.int .i64 (l.tail.length:Int)),(12,.int .i64 (k:Int))],[(0,⟨[.str p,.int .i64 u1,.int .i64 u2,.sl (x_ l) l.length false],0,false,0,0,true⟩),(1,⟨(GX c),0,false,0,3,true⟩)],.dead,[]⟩ (.normal) ⟨[(1,.ptr 0 0 0),(3,.ref 1 0 0 (c.length+1)),(11,.int .i64 (l.tail.length:Int)),(12,.int .i64 ((k+1:Nat):Int))],[(0,⟨[.str p,.int .i64 u1,.int .i64 u2,.sl (x_ l) l.length false],0,false,0,0,true⟩),(1,⟨(GX (c++ [r])),0,false,0,3,true⟩)],.dead,[]⟩:=pN 175 [] 1 1 (.k 1 F (.c z (.k 4 f (.c m (.n 4 (.a (sF [.bool,.str,.str] i rfl) (.c f (.c y (.k 4 f (.c m (.k 4 u (.c t (.k 1 A .nil))))))))))))) (.v 45 (.eq n) (.b 44 d (.c E (.c B (.v 38 (.ppt j) (.v 33 (.rd [.bool,.str,.str] i rfl) (.c D (.v 25 (.ppt j) (.v 19 (.ppt e) (.v 18 (.eq n) .nil)))))))))) q
theorem aiG (k:Nat) (d:List UInt8) (u1 u2:Int) (l:List (RQ × RQ)) (c:List RQ) {nt:Nat} (e:47≤nt) (f:lit false (decide ((k:Int)<(l.tail.length:Int)))=true):ax prog ap [] nt (ag 0 (ai f175)) ⟨[(1,.ptr 0 0 0),(3,.ref 1 0 0 c.length),(11,.int .i64 (l.tail.length:Int)),(12,.int .i64 (k:Int))],[(0,⟨[.str d,.int .i64 u1,.int .i64 u2,.sl (x_ l) l.length false],0,false,0,0,true⟩),(1,⟨(GX c),0,false,0,3,true⟩)],.dead,[]⟩ (.exit 0) ⟨[(3,.ref 0 0 0 c.length)],[(0,⟨(GX c),0,false,0,3,true⟩)],.dead,[]⟩:=pN 175 [] 1 0 (.c f .nil) (.nil) e
theorem aey (x:RQ) (e:Nat) (c:Int) (d:List UInt8) (u1 u2:Int) (l:List (RQ × RQ)) (g:AV.int .i64 (IntKind.wrap .i64 ((e:Int) - ((1:Nat):Int)))=AV.int .i64 (-1)) (i:lit false (!(c==((0:Nat):Int)))=true) (f:CO 172 [JY d u1 u2 l,qA x] (.ret (.int .i64 c))) (j:CO 173 [JY d u1 u2 l,qA x] (.ret (.int .i64 (e:Int)))) (h:CO 42 [.int .i64 0] (.ret (qA q0))):CO 130 [JY d u1 u2 l,qA x] (.ret (.tup [qA q0,.int .i64 0])):=pK [] 2 2 (.k 12 i (.n 7 .nil)) (.c h (.v 19 (.eq g) (.c j (.c f .nil))))
theorem aez (x o r v w:RQ) (y:Oq) (c h:Nat) (d:Int) (f:List UInt8) (u1 u2:Int) (l:List (RQ × RQ)) (e:List RQ) (b:RQ × RQ) (rb u:List AV) (t:(List.drop ((Int.toNat (c:Int))*6) (x_ l))=P6 b++rb) (g:(List.drop ((0+(Int.toNat (c:Int)))*3) (GX e))=rvC o++u) (C:AV.int .i64 (IntKind.wrap .i64 ((h:Int) - ((1:Nat):Int)))=AV.int .i64 (c:Int)) (i:(decide (((0:Nat):Int)≤(c:Int)))=true) (n:(decide ((c:Int)<(e.length:Int)))=true) (z:(decide ((c:Int)<(l.length:Int)))=true) (A:lit false (decide ((c:Int)<((0:Nat):Int)))=true) (m:lit false (!(d==((0:Nat):Int)))=true) (B:CO 172 [JY f u1 u2 l,qA x] (.ret (.int .i64 d))) (E:CO 173 [JY f u1 u2 l,qA x] (.ret (.int .i64 (h:Int)))) (D:CO 175 [JY f u1 u2 l] (.ret (.own (GX e) e.length 3))) (q:CO 168 [qA x,qA b.1] (.ret (qA v))) (k:CO 169 [qA b.2,qA v] (.ret (qA w))) (j:CO 167 [qA o,qA w] (.ret (qA r))) (p:CO 174 [qA r] (.ret (.tup [.agg [.bool y.n,.str y.a,.str y.d],.int .i64 y.e]))):CO 130 [JY f u1 u2 l,qA x] (.ret (.tup [.agg [.bool y.n,.str y.a,.str y.d],.int .i64 y.e])):=pK [] 2 0 (.n 13 (.a (sF [.bool,.str,.str] g rfl) (.c i (.c n (.k 11 i (.c z (.k 1 A (.k 7 m (.n 7 .nil))))))))) (.c p (.c j (.c k (.c q (.v 32 (.rd [.bool,.str,.str] g rfl) (.c D (.v 26 (.ppt t) (.v 19 (.eq C) (.c E (.c B .nil))))))))))
theorem aew (x:RQ) (f:Nat) (c:Int) (d:List UInt8) (u1 u2:Int) (e:List AV) (h:lit true (!(c==((0:Nat):Int)))=true) (g:CO 202 [.agg [.str d,.int .i64 u1,.int .i64 u2,.sl e f false]] (.ret (.int .i64 c))):CO 172 [.agg [.str d,.int .i64 u1,.int .i64 u2,.sl e f false],qA x] (.ret (.int .i64 c)):=pK [] 1 1 (.c h (.n 4 .nil)) (.c g .nil)
theorem aeA (x:RQ) (f:Nat) (c:Int) (d:List UInt8) (u1 u2:Int) (e:List AV) (h:lit true (!(c==((0:Nat):Int)))=true) (g:CO 172 [.agg [.str d,.int .i64 u1,.int .i64 u2,.sl e f false],qA x] (.ret (.int .i64 c))):CO 130 [.agg [.str d,.int .i64 u1,.int .i64 u2,.sl e f false],qA x] (.ret (.tup [.agg [.bool false,.str [],.str []],.int .i64 c])):=pK [] 1 1 (.k 4 h (.n 7 .nil)) (.c g .nil)
theorem vV {α:Type} (f:α→List AV) (m:Nat) (c:∀ a,(f a).length=m):∀ {l:List α} {k:Nat} (h:k<l.length),List.drop (k*m) (l.flatMap f)=f l[k]++(l.drop (k+1)).flatMap f
 | [],_,h=>by simp at h
 |x::r,0,_=>by simp
 |x::r,k+1,h=>by
  have d:k<r.length:=by simpa using h
  have:=vV f m c d
  rw [List.flatMap_cons,Nat.succ_mul,Nat.add_comm,← List.drop_drop]
  have e:List.drop m (f x++r.flatMap f)=r.flatMap f:=by rw [← c x];exact List.drop_left
  rw [e,this];simp
theorem oh {α:Type} (f:α→List AV) (m:Nat) (c:∀ a,(f a).length=m):∀ l:List α,(l.flatMap f).length=l.length*m
 | []=>by simp
 |x::r=>by rw [List.flatMap_cons,List.length_append,c,oh f m c r,List.length_cons,Nat.succ_mul,Nat.add_comm]
theorem yu {l:List (RQ × RQ)} {k:Nat} (h:k<l.length):List.drop (Int.toNat (k:Int)*6) (x_ l)=P6 l[k]++x_ (l.drop (k+1)):=by
 rw [aJ];exact vV P6 6 (fun _=>rfl) h
theorem MN {l:List RQ} {k:Nat} (h:k<l.length):List.drop ((0+Int.toNat (k:Int))*3) (GX l)=rvC l[k]++GX (l.drop (k+1)):=by
 rw [aJ,Nat.zero_add];exact vV rvC 3 (fun _=>rfl) h
theorem JP (l:List RQ):(GX l).length=l.length*3:=oh rvC 3 (fun _=>rfl) l
theorem X6 (l:List RQ) (r:RQ):List.take (l.length*3) (GX l)++ [.bool r.neg,.str (af r.n),.str (af r.d)]=GX (l++ [r]):=by
 rw [List.take_of_length_le (by rw [JP];exact Nat.le_refl _)]
 unfold GX;rw [List.flatMap_append];rfl
abbrev srS (nm:List UInt8) (u1 u2:Int) (l:List (RQ × RQ)) (x:RQ) (p:Nat × Nat):St:=⟨[(1,.fn 204 [] [Rz nm u1 u2 l,Ru x]),(5,.int .i64 (p.1:Int)),(6,.int .i64 (p.2:Int))],[],.dead,[]⟩
abbrev srO (c:Nat):St:=⟨[(5,.int .i64 (c:Int))],[],.dead,[]⟩
theorem ajq {i j:Nat} (h:i+j<2^62):AV.int .i64 (IntKind.wrap .i64 (Int.fdiv (IntKind.wrap .u64 (IntKind.wrap .i64 ((i:Int)+(j:Int)))) (2^(min 1 64))))=AV.int .i64 (((i+j) / 2:Nat):Int):=by
 congr 1
 rw [show (i:Int)+(j:Int)=((i+j:Nat):Int) from rfl,bz (by omega),oV,Nat.mod_eq_of_lt (show i+j<18446744073709551616 by omega),show (2:Int)^(min 1 64)=((2:Nat):Int) from rfl]
 rw [show Int.fdiv ((i+j:Nat):Int) ((2:Nat):Int)=(((i+j) / 2:Nat):Int) from by rw [Int.fdiv_eq_ediv_of_nonneg _ (by omega)];rfl,bz (by omega)]
theorem acr {nt:Nat} (o:26≤nt) (f:List UInt8) (u1 u2:Int) (l:List (RQ × RQ)) (x:RQ) (P:Nat→Bool) (C:l.length<2^60)
  (hP:∀ k,k<l.length→CO 204 [.int .i64 (k:Int),Rz f u1 u2 l,Ru x] (.ret (.bool (P k)))) (hM:∀ i j,i≤j→j<l.length→P i=true→P j=true):
  ∀ (d i j:Nat),j - i≤d→i≤j→j≤l.length→(∀ k,k<i→P k=false)→(∀ k,j≤k→k<l.length→P k=true)→∀ c,c≤l.length→(∀ k,k<c→P k=false)→(∀ k,c≤k→k<l.length→P k=true)→
   aI prog ap [] nt (ag 0 (ai f203)) (fun _=> .exit 0) (srS f u1 u2 l x) srO (i,j) c:=by
 intro d
 induction d with
 | zero=>
  intro i j hd u y p t c w n m
  have:i=j:=by omega
  subst this
  have:i=c:=by
   rcases Nat.lt_trichotomy i c with h|h|h
   ·have a:=n i h
    rw [t i (Nat.le_refl _) (by omega)] at a;cases a
   ·exact h
   ·have a:=p c h
    rw [m c (Nat.le_refl _) (by omega)] at a;cases a
  subst this
  exact .done (ada x i i f u1 u2 l o (aF (decide_eq_false (by omega))))
 | succ d ih=>
  intro i j hd u y p t c w n m
  by_cases hlt:i<j
  ·have A:=ajq (i:=i) (j:=j) (by omega)
   have B:(i+j) / 2<j:=by omega
   have v:i≤(i+j) / 2:=by omega
   generalize (i+j) / 2=q at*
   have r:=hP q (by omega)
   have g:lit true (decide ((i:Int)<(j:Int)))=true:=decide_eq_true (by omega)
   cases hp:P q with
   |false=>
    rw [hp] at r
    refine .next (aiH x false i j q f u1 u2 l o A (CG (by omega)) rfl g r) (ih (q+1) j (by omega) (by omega) y (fun k z=> ?_) t c w n m)
    cases e:P k with
    |false=>rfl
    |true=>rw [hM k q (by omega) (by omega) e] at hp;cases hp
   |true=>
    rw [hp] at r
    exact .next (aiI x true i j q f u1 u2 l o A rfl g r) (ih i q (by omega) v (by omega) p (fun k z e=>hM q k z e hp) c w n m)
  ·have:i=j:=by omega
   subst this
   have:i=c:=by
    rcases Nat.lt_trichotomy i c with h|h|h
    ·have a:=n i h
     rw [t i (Nat.le_refl _) (by omega)] at a;cases a
    ·exact h
    ·have a:=p c h
     rw [m c (Nat.le_refl _) (by omega)] at a;cases a
   subst this
   exact .done (ada x i i f u1 u2 l o (aF (decide_eq_false (by omega))))
structure YX (l:List (RQ × RQ)):Prop where
 len:l.length≤8
 pos:0<l.length
 ok:∀ b ∈ l,b.1.ok∧b.2.ok
 fit:∀ b ∈ l,jM b.1=true∧jM b.2=true
 srt:jU l
theorem RJ:∀ {l:List (RQ × RQ)},jU l→∀ i j (hi:i<j) (hj:j<l.length),(l[i]'(by omega)).1.rt<l[j].1.rt
 | [],_,_,_,_,hj=>by simp at hj
 |b::l,h,0,j+1,_,hj=>h.all _ (List.getElem_mem (by simpa using hj))
 |b::l,h,i+1,j+1,hi,hj=>RJ h.tail i j (by omega) (by simpa using hj)
def pS (l:List (RQ × RQ)) (x:RQ) (k:Nat):Bool:=match l[k]? with|some b=>decide (0<lD b.1 x)|none=>true
theorem yC (x:RQ):∀ l:List (RQ × RQ),iM l x≤l.length∧(∀ k,k<iM l x→pS l x k=false)∧(iM l x<l.length→pS l x (iM l x)=true)
 | []=> ⟨Nat.le_refl _,fun k h=>absurd h (Nat.not_lt_zero _),fun h=>absurd h (Nat.not_lt_zero _)⟩
 | b::l=>by
  obtain ⟨g,d,f⟩:=yC x l
  by_cases h:0<lD b.1 x
  ·have e:iM (b::l) x=0:=by
    unfold iM;rw [List.takeWhile_cons_of_neg (by simp;omega)];rfl
   rw [e]
   exact ⟨Nat.zero_le _,fun k c=>absurd c (Nat.not_lt_zero _),fun _=>decide_eq_true h⟩
  ·rw [Zl h]
   refine ⟨by simp only [List.length_cons];omega,fun k c=> ?_,fun c=>f (by simpa using c)⟩
   cases k with
   |zero=>exact decide_eq_false h
   |succ k=>exact d k (by omega)
section
variable (nm:List UInt8) (u1 u2:Int) {l:List (RQ × RQ)} (hR:YX l) {x:RQ} (hx:x.ok) (fx:jM x=true)
include hR hx fx
omit fx in
theorem abh:∀ i j,i≤j→j<l.length→pS l x i=true→pS l x j=true:=by
 intro i j e c h
 rcases Nat.lt_or_ge i j with h1|h1
 ·have hs:=RJ hR.srt i j h1 c
  unfold pS at h ⊢
  rw [List.getElem?_eq_getElem (by omega)] at h ⊢
  simp only [decide_eq_true_eq] at h ⊢
  have f:=(CY (hR.ok _ (List.getElem_mem (show i<l.length by omega))).1 hx).2.2
  have d:=(CY (hR.ok _ (List.getElem_mem c)).1 hx).2.2
  have:=f.1 h
  exact d.2 (by grind)
 ·rw [show i=j by omega] at h;exact h
theorem ZH (k:Nat) (c:k<l.length):CO 204 [.int .i64 (k:Int),Rz nm u1 u2 l,Ru x] (.ret (.bool (pS l x k))):=by
 unfold pS
 rw [List.getElem?_eq_getElem c]
 exact ah9 x k _ nm u1 u2 l l[k] _ (yu c) (decide_eq_true (by omega)) (decide_eq_true (by omega))
  (XY (hR.ok _ (List.getElem_mem c)).1 hx (dh (hR.fit _ (List.getElem_mem c)).1) (dh fx) (by decide))
theorem KU:CO 173 [JY nm u1 u2 l,qA x] (.ret (.int .i64 ((iM l x:Nat):Int))):=by
 obtain ⟨i,g,h⟩:=yC x l
 have f:=hR.len
 have e:=abh hR hx
 refine ah_ x _ nm u1 u2 l (aiE x _ _ nm u1 u2 l (aI.blk (id:=0) (e':= .normal) (s:=⟨_,_,_,_⟩) (s':=srO (iM l x)) (fun nt j=>acr j nm u1 u2 l x (pS l x) (by omega) (ZH nm u1 u2 hR hx fx) e l.length 0 l.length (by omega) (Nat.zero_le _) (Nat.le_refl _) (fun k d=>absurd d (Nat.not_lt_zero _)) (fun k d c=>by omega) (iM l x) i g (fun k d c=>e _ k d c (h (by omega)))) (by simp) rfl (aQ.of ⟨rfl,rfl,rfl,trivial⟩) (aQ.refl _)))
end
abbrev smS (nm:List UInt8) (u1 u2:Int) (l:List (RQ × RQ)) (p:Nat × List RQ):St:=⟨[(1,.ptr 0 0 0),(3,.ref 1 0 0 p.2.length),(11,.int .i64 (l.tail.length:Int)),(12,.int .i64 (p.1:Int))],[(0,⟨[.str nm,.int .i64 u1,.int .i64 u2,.sl (x_ l) l.length false],0,false,0,0,true⟩),(1,⟨(GX p.2),0,false,0,3,true⟩)],.dead,[]⟩
abbrev smO (os:List RQ):St:=⟨[(3,.ref 0 0 0 os.length)],[(0,⟨(GX os),0,false,0,3,true⟩)],.dead,[]⟩
theorem adE {k:Nat} {a w:RQ} (d:mW (410*5^k) a) (c:mW 410 w):mW (410*5^(k+1)) (iV a w):=by
 have hp:1≤5^k:=Nat.one_le_pow _ _ (by decide)
 refine (FW d (c.mono (by omega))).mono ?_
 rw [Nat.pow_succ]
 generalize 5^k=M at*
 omega
theorem aiV {k:Nat} (h:k≤8):410*5^k<2^28:=Nat.lt_of_le_of_lt (Nat.mul_le_mul_left 410 (Nat.pow_le_pow_right (by decide) h)) (by decide)
theorem ak1 {l:List (RQ × RQ)} (d:YX l) {b c:RQ × RQ} (g:b ∈ l) (e:c ∈ l):mW 205 (ji c.1 b.1)∧mW 410 (nC (ji c.1 b.1) b.2):=by
 have f:mW 205 (ji c.1 b.1):=Pz (L:=51) (dh (d.fit _ e).1) (dh (d.fit _ g).1)
 exact ⟨f,Py f (mW.mono (L:=51) (dh (d.fit _ g).2) (by decide))⟩
theorem Yn {nt:Nat} (u:47≤nt) (m:List UInt8) (u1 u2:Int) {l:List (RQ × RQ)} (f:YX l):∀ (r p:List (RQ × RQ)) (b:RQ × RQ) (d:List RQ) (c:RQ),l=p++b::r→d.length=p.length→c.ok→mW (410*5^p.length) c→
  aI prog ap [] nt (ag 0 (ai f175)) (fun _=> .exit 0) (smS m u1 u2 l) smO (p.length,d++ [c]) (d++jc c (b::r)):=by
 intro r
 induction r with
 |nil=>
  intro p b d c h z n hs
  exact .done (aiG p.length m u1 u2 l (d++ [c]) u (aF (decide_eq_false (by rw [h];simp))))
 |cons b2 r ih=>
  intro p b d c h z n hs
  have t:=f.len
  have j:p.length+1<l.length:=by rw [h];simp
  have i:b ∈ l:=by rw [h];simp
  have g:b2 ∈ l:=by rw [h];simp
  have H:l[p.length]'(by omega)=b:=by subst h;simp
  have D:l[p.length+1]'j=b2:=by subst h;simp
  have q:=yu (l:=l) (k:=p.length) (by omega)
  have A:=yu (l:=l) (k:=p.length+1) j
  rw [H] at q
  rw [D] at A
  have o:=MN (l:=d++ [c]) (k:=p.length) (by simp;omega)
  rw [show (d++ [c])[p.length]'(by simp;omega)=c by simp [← z]] at o
  have w:=qj (f.ok _ g).1 (f.ok _ i).1
  have B:=sQ w (f.ok _ i).2
  obtain ⟨E,v⟩:=ak1 f i g
  have F:=aiV (k:=p.length) (by omega)
  have I:1≤5^p.length:=Nat.one_le_pow _ _ (by decide)
  have G:=Pi (f.ok _ g).1 (f.ok _ i).1 (dh (f.fit _ g).1) (dh (f.fit _ i).1) (by decide)
  have K:=Ph w (f.ok _ i).2 E (mW.mono (L:=51) (dh (f.fit _ i).2) (by decide)) (by decide)
  have J:=FM n B hs (v.mono (by omega)) F
  have C:(d++ [c]).length=p.length+1:=by simp;omega
  have st:=aiF c (iV c (nC (ji b2.1 b.1) b.2)) _ _ p.length m u1 u2 l (d++ [c]) b b2 _ _ _ u q A o (CG (by omega)) (X6 _ _) (Nat.ble_eq_true_of_le (by omega)) (Nat.ble_eq_true_of_le (by rw [JP];exact Nat.le_refl _)) (decide_eq_true (by omega)) (decide_eq_true (by omega)) (decide_eq_true (by omega)) (decide_eq_true (by omega)) (decide_eq_true (by omega)) (aG (decide_eq_true (by rw [List.length_tail];omega))) G K J
  have y:=ih (p++ [b]) b2 (d++ [c]) (iV c (nC (ji b2.1 b.1) b.2)) (by rw [h];simp) (by simp;omega) (jF n B) (by rw [List.length_append];exact adE hs v)
  rw [List.length_append,List.length_singleton] at y
  rw [show d++jc c (b::b2::r)=(d++ [c])++jc (iV c (nC (ji b2.1 b.1) b.2)) (b2::r) by simp [jc]]
  refine .next ?_ y
  have e:(d++ [c]++ [iV c (nC (ji b2.1 b.1) b.2)]).length=(d++ [c]).length+1:=by simp
  show ax _ _ _ _ _ _ _ (smS m u1 u2 l (p.length+1,d++ [c]++ [iV c (nC (ji b2.1 b.1) b.2)]))
  unfold smS
  rw [e]
  exact st
theorem FV:∀ (l:List (RQ × RQ)) (c:RQ),0<l.length→(jc c l).length=l.length
 | [_],_,_=>rfl
 |b::b2::l,c,_=>by show (jc _ (b2::l)).length+1=_;rw [FV (b2::l) _ (by simp)];rfl
theorem adu:mW 410 q0:=⟨Nat.le_trans (dw (x:=0) (k:=1) (by decide)) (by decide),Nat.le_trans (dw (x:=1) (k:=1) (by decide)) (by decide)⟩
theorem Wq (d:List UInt8) (u1 u2:Int) {l:List (RQ × RQ)} (e:YX l):CO 175 [JY d u1 u2 l] (.ret (.own (GX (jc q0 l)) (jc q0 l).length 3)):=by
 have f:=e.len
 have c:=e.pos
 have g:∀ nt,47≤nt→aI prog ap [] nt (ag 0 (ai f175)) (fun _=> .exit 0) (smS d u1 u2 l) smO (0,[q0]) (jc q0 l):=fun nt i=>by
  cases l with
  |nil=>simp at c
  |cons b r=>exact Yn i d u1 u2 e r [] b [] q0 rfl rfl Q9 (adu.mono (by decide))
 have h:=aiL d u1 u2 l (jc q0 l) (by
  cases l with
  |nil=>simp at c
  |cons b r=>
   rw [aJ,List.take_of_length_le (by show ((b::r).flatMap P6).length≤_;rw [oh P6 6 (fun _=>rfl)];exact Nat.le_refl _)]
   rfl) (decide_eq_true (by omega)) (decide_eq_true (by omega)) jo (aI.blk (id:=0) (e':= .normal) (s:=⟨_,_,_,_⟩) (s':=smO (jc q0 l)) g (by simp) rfl (aQ.of ⟨rfl,rfl,rfl,rfl,trivial⟩) (aQ.refl _))
 rw [List.take_of_length_le (by rw [JP];exact Nat.le_refl _)] at h
 exact h
theorem acu {l:List (RQ × RQ)} (e:YX l):∀ (r p:List (RQ × RQ)) (b:RQ × RQ) (c:RQ),l=p++b::r→c.ok→mW (410*5^p.length) c→∀ q ∈ jc c (b::r),q.ok∧mW (410*5^8) q:=by
 intro r
 induction r with
 |nil=>
  intro p b c f h hs q d
  have d:q ∈ [c]:=d
  rw [List.mem_singleton] at d;subst d
  have:=e.len
  exact ⟨h,hs.mono (Nat.mul_le_mul_left 410 (Nat.pow_le_pow_right (by decide) (by rw [f] at this;simp at this;omega)))⟩
 | cons b2 r ih=>
  intro p b c f h hs q d
  have i:b ∈ l:=by rw [f];simp
  have g:b2 ∈ l:=by rw [f];simp
  have d:q ∈ c::jc (iV c (nC (ji b2.1 b.1) b.2)) (b2::r):=d
  rcases List.mem_cons.1 d with rfl|d
  ·have:=e.len
   exact ⟨h,hs.mono (Nat.mul_le_mul_left 410 (Nat.pow_le_pow_right (by decide) (by rw [f] at this;simp at this;omega)))⟩
  ·have j:=sQ (qj (e.ok _ g).1 (e.ok _ i).1) (e.ok _ i).2
   exact ih (p++ [b]) b2 _ (by rw [f];simp) (jF h j) (by rw [List.length_append];exact adE hs (ak1 e i g).2) q d
theorem Na {l:List (RQ × RQ)} (c:YX l):∀ q ∈ jc q0 l,q.ok∧mW (410*5^8) q:=by
 cases l with
 |nil=>have:=c.pos;simp at this
 |cons b r=>exact acu c r [] b q0 rfl Q9 (adu.mono (by decide))
def atV (l:List (RQ × RQ)) (x:RQ):Oq:=if iM l x=0 then .val q0 else pM (atR l x)
theorem ZI {q:RQ} (h:q.ok) (f:(af q.n).length<2^36) (e:(af q.d).length<2^36):CO 174 [qA q] (.ret (.tup [.agg [.bool (pM q).n,.str (pM q).a,.str (pM q).d],.int .i64 (pM q).e])):=by
 have c:=gm q.neg (af q.n) (af q.d) f e
 rw [uJ h] at c
 unfold pM
 cases d:jM q with
 |true=>
  rw [if_pos rfl]
  exact aif q (by rw [d];rfl) c
 |false=>
  rw [if_neg (by simp)]
  exact aie q (by rw [d];rfl) c
theorem aex (f:List UInt8) (u1 u2:Int) {l:List (RQ × RQ)} (c:YX l) {x:RQ} (j:x.ok) (k:jM x=true) (m:CO 202 [JY f u1 u2 l] (.ret (.int .i64 0))):
  CO 130 [JY f u1 u2 l,qA x] (.ret (.tup [.agg [.bool (atV l x).n,.str (atV l x).a,.str (atV l x).d],.int .i64 (atV l x).e])):=by
 obtain ⟨r,y⟩:=dh k
 have t:=mF x.neg (af x.n) (af x.d) (by omega) (by omega)
 rw [oD x j] at t
 have p:=gm x.neg (af x.n) (af x.d) (by omega) (by omega)
 rw [uJ j,k] at p
 have i:CO 172 [JY f u1 u2 l,qA x] (.ret (.int .i64 0)):=ah8 x 0 f u1 u2 l rfl m t p
 have h:=KU f u1 u2 c j k
 have F:=(yC x l).1
 have q:=c.len
 unfold atV
 by_cases hc:iM l x=0
 ·rw [if_pos hc]
  rw [hc] at h
  exact aey x 0 0 f u1 u2 l rfl rfl i h jo
 ·rw [if_neg hc]
  have n:iM l x - 1<l.length:=by omega
  have d:=List.getElem_mem n
  have E:(jc q0 l).length=l.length:=FV l q0 c.pos
  have g:iM l x - 1<(jc q0 l).length:=by omega
  obtain ⟨w,z⟩:(jc q0 l)[iM l x - 1].ok∧mW (410*5^8) (jc q0 l)[iM l x - 1]:=by
   exact Na c _ (List.getElem_mem g)
  have v:mW 205 (ji x l[iM l x - 1].1):=Pz (L:=51) ⟨r,y⟩ (dh (c.fit _ d).1)
  have o:mW 410 (nC l[iM l x - 1].2 (ji x l[iM l x - 1].1)):=Py (L:=205) (mW.mono (L:=51) (dh (c.fit _ d).2) (by decide)) v
  have k3:=qj j (c.ok _ d).1
  have k4:=sQ (c.ok _ d).2 k3
  have C:=Pi j (c.ok _ d).1 ⟨r,y⟩ (dh (c.fit _ d).1) (by decide)
  have D:=Ph (c.ok _ d).2 k3 (mW.mono (L:=51) (dh (c.fit _ d).2) (by decide)) v (by decide)
  have A:=FM w k4 z (o.mono (by decide)) (by decide)
  have u:=FW z (o.mono (by decide))
  have e:atR l x=iV (jc q0 l)[iM l x - 1] (nC l[iM l x - 1].2 (ji x l[iM l x - 1].1)):=by
   unfold atR
   rw [List.getD_eq_getElem?_getD,List.getD_eq_getElem?_getD,List.getElem?_eq_getElem n,List.getElem?_eq_getElem g];rfl
  rw [e]
  have B:=ZI (jF w k4) (Nat.lt_of_le_of_lt u.1 (by decide)) (Nat.lt_of_le_of_lt u.2 (by decide))
  refine aez x _ _ _ _ _ (iM l x - 1) (iM l x) 0 f u1 u2 l _ l[iM l x - 1] _ _ (yu n) (MN g) ?_ (decide_eq_true (by omega)) (decide_eq_true (by omega)) (decide_eq_true (by omega)) (aF (decide_eq_false (by omega))) rfl i h (Wq f u1 u2 c) C D A B
  congr 1
  rw [show ((iM l x:Nat):Int) - ((1:Nat):Int)=((iM l x - 1:Nat):Int) by omega]
  exact bz (by omega)
end Go.Proofs.Tryz
set_option maxRecDepth 100000
open Go AM
namespace Go.Proofs.Tryz
def mQ (x:Br):Bool:=iU x.fn x.fa x.fd && iU x.rn x.ra x.rd
def Le (x:Br):Bool:=fA x.fn x.fa x.fd && fA x.rn x.ra x.rd
def Gy (cmp:Br→Br→Int):Br→List Br→Bool
 |_,[]=>true
 |y,x::r=>cond (decide (((0:Nat):Int)≤cmp y x)) false (Gy cmp x r)
theorem Kw (cmp:Br→Br→Int):∀ (r:List Br) (y:Br),He cmp (some y) r=(r.all mQ && Gy cmp y r)
 | [],_=>rfl
 |x::r,y=>by
  simp only [He,List.all_cons,Gy,mQ,Kw cmp r x]
  cases iU x.fn x.fa x.fd<;>cases iU x.rn x.ra x.rd<;>cases decide (((0:Nat):Int)≤cmp y x)<;>cases r.all mQ<;>simp
theorem Kv (cmp:Br→Br→Int) (x:Br) (r:List Br):He cmp none (x::r)=((x::r).all mQ && ((rU x.fn x.fa x.fd==((0:Nat):Int)) && Gy cmp x r)):=by
 simp only [He,List.all_cons,mQ,Kw cmp r x]
 cases iU x.fn x.fa x.fd<;>cases iU x.rn x.ra x.rd<;>cases (rU x.fn x.fa x.fd==((0:Nat):Int))<;>cases r.all mQ<;>simp
theorem IM:∀ l:List Br,l.any GG= !(l.all Le)
 | []=>rfl
 |x::r=>by
  rw [List.any_cons,List.all_cons,IM r]
  simp only [GG,Le]
  cases fA x.fn x.fa x.fd<;>cases fA x.rn x.ra x.rd<;>simp
end Go.Proofs.Tryz
set_option maxRecDepth 100000
set_option linter.unusedVariables false
open Go AM
namespace Go.Proofs.Tryz
structure Lk where
 op:Int
 nm:List UInt8
 n:Bool
 a:List UInt8
 d:List UInt8
 e:Int
def lkC (x:Lk):List AV:= [.int .i64 x.op,.str x.nm,.bool x.n,.str x.a,.str x.d,.int .i64 x.e]
def eU (l:List Lk):List AV:=l.flatMap lkC
abbrev JC (ls:List Lk) (cs:List Sc) (nl ns:Bool) (a b c d:List AV):Hp:= [(0,⟨[.sl (eU ls) ls.length nl,.sl (gZ cs) cs.length ns],0,false,0,0,true⟩),(1,⟨[.mp [] [],.mp [] []],0,false,0,0,true⟩),(2,⟨[.mr 3 0,.mr 4 0],0,false,0,0,false⟩),(3,⟨[.agg a,.agg b],0,false,0,4611686018427387904,true⟩),(4,⟨[.agg c,.agg d],0,false,0,4611686018427387904,true⟩)]
theorem ZV (c:Oq) (g nn n e:Bool) (h i d:List UInt8) (ks vs k j:List AV) (m:lit true (!e)=true) (f:CO 128 [.agg [.bool c.n,.str c.a,.str c.d]] (.ret (.tup [.bool n,.bool e]))) (o:CO 41 [.int .i64 13] (.ret (.agg [.bool false,.str [],.str [],.int .i64 13]))):CO 78 [.agg [.mp ks vs,.mp k j],.agg [.int .i64 20,.bool g,.str h,.str i,.str d],.sl [.bool c.n,.str c.a,.str c.d,.int .i64 c.e] 1 nn] (.ret (.agg [.bool false,.str [],.str [],.int .i64 13])):=pK [] 2 3 (.k 5 m (.n 11 .nil)) (.c o (.c f .nil))
theorem ZW (c o:Oq) (h nn f e:Bool) (i j d:List UInt8) (ks vs k m:List AV) (n:lit false (!e)=true) (g:CO 128 [.agg [.bool c.n,.str c.a,.str c.d]] (.ret (.tup [.bool f,.bool e]))) (p:CO 126 [.bool (!f)] (.ret (fM o))):CO 78 [.agg [.mp ks vs,.mp k m],.agg [.int .i64 20,.bool h,.str i,.str j,.str d],.sl [.bool c.n,.str c.a,.str c.d,.int .i64 c.e] 1 nn] (.ret (fM o)):=pK [] 2 1 (.k 5 n (.n 11 .nil)) (.c p (.c g .nil))
theorem ZX (c o:Oq) (q st:RQ) (nn:Bool) (d:List UInt8) (ks vs f g:List AV) (e:CO 131 [.agg [.bool c.n,.str c.a,.str c.d],qA st] (.ret (.tup [qA q,.bool true]))) (h:CO 124 [qA q] (.ret (fM o))):CO 78 [.agg [.mp ks vs,.mp f g],.agg [.int .i64 21,.bool st.neg,.str (af st.n),.str (af st.d),.str d],.sl [.bool c.n,.str c.a,.str c.d,.int .i64 c.e] 1 nn] (.ret (fM o)):=pK [] 3 4 (.n 25 .nil) (.c h (.c e .nil))
theorem ZY (c o:Oq) (q st:RQ) (nn:Bool) (d:List UInt8) (ks vs f g:List AV) (e:CO 132 [.agg [.bool c.n,.str c.a,.str c.d],qA st] (.ret (.tup [qA q,.bool true]))) (h:CO 124 [qA q] (.ret (fM o))):CO 78 [.agg [.mp ks vs,.mp f g],.agg [.int .i64 22,.bool st.neg,.str (af st.n),.str (af st.d),.str d],.sl [.bool c.n,.str c.a,.str c.d,.int .i64 c.e] 1 nn] (.ret (fM o)):=pK [] 4 8 (.n 26 .nil) (.c h (.c e .nil))
theorem ZZ (c o:Oq) (q st:RQ) (nn:Bool) (d:List UInt8) (ks vs f g:List AV) (e:CO 129 [.agg [.bool c.n,.str c.a,.str c.d],qA st] (.ret (.tup [qA q,.bool true]))) (h:CO 124 [qA q] (.ret (fM o))):CO 78 [.agg [.mp ks vs,.mp f g],.agg [.int .i64 23,.bool st.neg,.str (af st.n),.str (af st.d),.str d],.sl [.bool c.n,.str c.a,.str c.d,.int .i64 c.e] 1 nn] (.ret (fM o)):=pK [] 4 0 (.n 26 .nil) (.c h (.c e .nil))
theorem Z4 (d:Oq) (i nn g:Bool) (m h c q:List UInt8) (u1 u2:Int) (ks vs e f n:List AV) (o:Nat) (j:aW (.tup [(Option.getD (dP e f (.str c)) (.agg [.str [],.int .i64 0,.int .i64 0,.nilS])),.bool (Option.isSome (dP e f (.str c)))]) (.tup [.agg [.str q,.int .i64 u1,.int .i64 u2,.sl n o false],.bool g])) (r:lit true (!g)=true) (k:(List.all e (QE 9))=true) (p:CO 41 [.int .i64 12] (.ret (.agg [.bool false,.str [],.str [],.int .i64 12]))):CO 78 [.agg [.mp ks vs,.mp e f],.agg [.int .i64 24,.bool i,.str m,.str h,.str c],.sl [.bool d.n,.str d.a,.str d.d,.int .i64 d.e] 1 nn] (.ret (.agg [.bool false,.str [],.str [],.int .i64 12])):=pK [] 3 6 (.k 5 r (.k 2 k (.n 11 .nil))) (.c p (.v 43 j .nil))
theorem Z5 (d o:Oq) (m nn g:Bool) (q k c j:List UInt8) (u1 u2:Int) (ks vs e f h:List AV) (i:Nat) (n:aW (.tup [(Option.getD (dP e f (.str c)) (.agg [.str [],.int .i64 0,.int .i64 0,.nilS])),.bool (Option.isSome (dP e f (.str c)))]) (.tup [.agg [.str j,.int .i64 u1,.int .i64 u2,.sl h i false],.bool g])) (t:lit false (!g)=true) (p:(List.all e (QE 9))=true) (r:CO 130 [.agg [.str j,.int .i64 u1,.int .i64 u2,.sl h i false],.agg [.bool d.n,.str d.a,.str d.d]] (.ret (.tup [.agg [.bool o.n,.str o.a,.str o.d],.int .i64 o.e]))):CO 78 [.agg [.mp ks vs,.mp e f],.agg [.int .i64 24,.bool m,.str q,.str k,.str c],.sl [.bool d.n,.str d.a,.str d.d,.int .i64 d.e] 1 nn] (.ret (fM o)):=pK [] 3 2 (.k 16 t (.k 2 p (.n 11 .nil))) (.c r (.v 43 n .nil))
theorem ais (ks vs:List AV) (k:Nat) (ls:List Lk) (h:List Sc) (x:Lk) (c f e:Bool) (m:List AV) (d q:Oq) {nt:Nat} (i:68≤nt) (n:(List.drop ((Int.toNat (k:Int))*6) (eU ls))=lkC x++m) (j:AV.tup [(Option.getD (dP ks vs (.agg [.int .i64 x.op,.str x.nm])) (.agg [.bool false,.str [],.str [],.int .i64 0])),.bool (Option.isSome (dP ks vs (.agg [.int .i64 x.op,.str x.nm])))]=AV.tup [fM q,.bool e]) (v:AV.int .i64 (IntKind.wrap .i64 ((k:Int)+((1:Nat):Int)))=AV.int .i64 ((k+1:Nat):Int)) (g:(List.all ks (QE 134))=true) (p:lit true (!e)=true) (r:(decide (((0:Nat):Int)≤(k:Int)))=true) (t:(decide ((k:Int)<(ls.length:Int)))=true) (o:lit true (decide ((k:Int)<(ls.length:Int)))=true) (u:CO 43 [.agg [.bool x.n,.str x.a,.str x.d,.int .i64 x.e]] (.ret (fM d))):ax prog ap [] nt (ag 0 (ai f45)) ⟨[(1,.ptr 0 0 0),(2,.ptr 1 0 0),(3,.ptr 2 0 0),(17,.sl (eU ls) ls.length c),(18,.int .i64 (ls.length:Int)),(19,.int .i64 (k:Int))],(JC ls h c f ks vs [] []),.dead,[]⟩ (.normal) ⟨[(1,.ptr 0 0 0),(2,.ptr 1 0 0),(3,.ptr 2 0 0),(17,.sl (eU ls) ls.length c),(18,.int .i64 (ls.length:Int)),(19,.int .i64 ((k+1:Nat):Int))],(JC ls h c f (xJ ks (.agg [.int .i64 x.op,.str x.nm])) (pI ks vs (.agg [.int .i64 x.op,.str x.nm]) (fM d)) [] []),.dead,[]⟩:=pN 45 [] 2 3 (.k 1 g (.k 7 p (.k 2 g (.k 13 r (.c t (.c o .nil)))))) (.v 43 (.eq v) (.c u (.v 32 (.eq j) (.v 21 (.ppt n) .nil)))) i
theorem aiu (ks vs:List AV) (k:Nat) (ls:List Lk) (f:List Sc) (x:Lk) (c e d:Bool) (i:List AV) (o:Oq) {nt:Nat} (g:68≤nt) (j:(List.drop ((Int.toNat (k:Int))*6) (eU ls))=lkC x++i) (h:AV.tup [(Option.getD (dP ks vs (.agg [.int .i64 x.op,.str x.nm])) (.agg [.bool false,.str [],.str [],.int .i64 0])),.bool (Option.isSome (dP ks vs (.agg [.int .i64 x.op,.str x.nm])))]=AV.tup [fM o,.bool d]) (r:AV.int .i64 (IntKind.wrap .i64 ((k:Int)+((1:Nat):Int)))=AV.int .i64 ((k+1:Nat):Int)) (t:lit false (!d)=true) (n:(List.all ks (QE 134))=true) (p:(decide (((0:Nat):Int)≤(k:Int)))=true) (q:(decide ((k:Int)<(ls.length:Int)))=true) (m:lit true (decide ((k:Int)<(ls.length:Int)))=true):ax prog ap [] nt (ag 0 (ai f45)) ⟨[(1,.ptr 0 0 0),(2,.ptr 1 0 0),(3,.ptr 2 0 0),(17,.sl (eU ls) ls.length c),(18,.int .i64 (ls.length:Int)),(19,.int .i64 (k:Int))],(JC ls f c e ks vs [] []),.dead,[]⟩ (.normal) ⟨[(1,.ptr 0 0 0),(2,.ptr 1 0 0),(3,.ptr 2 0 0),(17,.sl (eU ls) ls.length c),(18,.int .i64 (ls.length:Int)),(19,.int .i64 ((k+1:Nat):Int))],(JC ls f c e ks vs [] []),.dead,[]⟩:=pN 45 [] 2 1 (.c t (.k 2 n (.k 13 p (.c q (.c m .nil))))) (.v 43 (.eq r) (.v 32 (.eq h) (.v 21 (.ppt j) .nil))) g
theorem aiv (ks vs:List AV) (k:Nat) (ls:List Lk) (d:List Sc) (c e:Bool) {nt:Nat} (f:68≤nt) (g:lit false (decide ((k:Int)<(ls.length:Int)))=true):ax prog ap [] nt (ag 0 (ai f45)) ⟨[(1,.ptr 0 0 0),(2,.ptr 1 0 0),(3,.ptr 2 0 0),(17,.sl (eU ls) ls.length c),(18,.int .i64 (ls.length:Int)),(19,.int .i64 (k:Int))],(JC ls d c e ks vs [] []),.dead,[]⟩ (.exit 0) ⟨[(1,.ptr 0 0 0),(2,.ptr 1 0 0),(3,.ptr 2 0 0)],(JC ls d c e ks vs [] []),.dead,[]⟩:=pN 45 [] 1 0 (.c g .nil) (.nil) f
theorem aiw (z:List UInt8) (u1 u2:Int) (ks vs e f t:List AV) (u k:Nat) (ls:List Lk) (d:List Sc) (c:Sc) (h g i:Bool) (o:List AV) {nt:Nat} (m:68≤nt) (p:(List.drop ((Int.toNat (k:Int))*4) (gZ d))=Rx c++o) (n:aW (.tup [(Option.getD (dP e f (.str c.name)) (.agg [.str [],.int .i64 0,.int .i64 0,.nilS])),.bool (Option.isSome (dP e f (.str c.name)))]) (.tup [.agg [.str z,.int .i64 u1,.int .i64 u2,.sl t u false],.bool i])) (y:AV.int .i64 (IntKind.wrap .i64 ((k:Int)+((1:Nat):Int)))=AV.int .i64 ((k+1:Nat):Int)) (j:(List.all e (QE 9))=true) (r:lit true (!i)=true) (v:(decide (((0:Nat):Int)≤(k:Int)))=true) (w:(decide ((k:Int)<(d.length:Int)))=true) (q:lit true (decide ((k:Int)<(d.length:Int)))=true):ax prog ap [] nt (ag 2 (ai f45)) ⟨[(1,.ptr 0 0 0),(2,.ptr 1 0 0),(3,.ptr 2 0 0),(45,.sl (gZ d) d.length g),(46,.int .i64 (d.length:Int)),(47,.int .i64 (k:Int))],(JC ls d h g ks vs e f),.dead,[]⟩ (.normal) ⟨[(1,.ptr 0 0 0),(2,.ptr 1 0 0),(3,.ptr 2 0 0),(45,.sl (gZ d) d.length g),(46,.int .i64 (d.length:Int)),(47,.int .i64 ((k+1:Nat):Int))],(JC ls d h g ks vs (xJ e (.str c.name)) (pI e f (.str c.name) (.agg [.str c.name,.int .i64 c.u1,.int .i64 c.u2,.sl c.bx c.bn false]))),.dead,[]⟩:=pN 45 [] 2 3 (.k 1 j (.k 6 r (.k 2 j (.k 7 v (.c w (.c q .nil)))))) (.v 66 (.eq y) (.v 56 n (.v 49 (.ppt p) .nil))) m
theorem aix (y:List UInt8) (u1 u2:Int) (ks vs e f r:List AV) (t k:Nat) (ls:List Lk) (d:List Sc) (c:Sc) (h g i:Bool) (n:List AV) {nt:Nat} (j:68≤nt) (o:(List.drop ((Int.toNat (k:Int))*4) (gZ d))=Rx c++n) (m:aW (.tup [(Option.getD (dP e f (.str c.name)) (.agg [.str [],.int .i64 0,.int .i64 0,.nilS])),.bool (Option.isSome (dP e f (.str c.name)))]) (.tup [.agg [.str y,.int .i64 u1,.int .i64 u2,.sl r t false],.bool i])) (w:AV.int .i64 (IntKind.wrap .i64 ((k:Int)+((1:Nat):Int)))=AV.int .i64 ((k+1:Nat):Int)) (z:lit false (!i)=true) (q:(List.all e (QE 9))=true) (u:(decide (((0:Nat):Int)≤(k:Int)))=true) (v:(decide ((k:Int)<(d.length:Int)))=true) (p:lit true (decide ((k:Int)<(d.length:Int)))=true):ax prog ap [] nt (ag 2 (ai f45)) ⟨[(1,.ptr 0 0 0),(2,.ptr 1 0 0),(3,.ptr 2 0 0),(45,.sl (gZ d) d.length g),(46,.int .i64 (d.length:Int)),(47,.int .i64 (k:Int))],(JC ls d h g ks vs e f),.dead,[]⟩ (.normal) ⟨[(1,.ptr 0 0 0),(2,.ptr 1 0 0),(3,.ptr 2 0 0),(45,.sl (gZ d) d.length g),(46,.int .i64 (d.length:Int)),(47,.int .i64 ((k+1:Nat):Int))],(JC ls d h g ks vs e f),.dead,[]⟩:=pN 45 [] 2 1 (.c z (.k 2 q (.k 7 u (.c v (.c p .nil))))) (.v 66 (.eq w) (.v 56 m (.v 49 (.ppt o) .nil))) j
theorem aiy (ks vs f e:List AV) (k:Nat) (ls:List Lk) (c:List Sc) (g d:Bool) {nt:Nat} (h:68≤nt) (i:lit false (decide ((k:Int)<(c.length:Int)))=true):ax prog ap [] nt (ag 2 (ai f45)) ⟨[(1,.ptr 0 0 0),(2,.ptr 1 0 0),(3,.ptr 2 0 0),(45,.sl (gZ c) c.length d),(46,.int .i64 (c.length:Int)),(47,.int .i64 (k:Int))],(JC ls c g d ks vs f e),.dead,[]⟩ (.exit 2) ⟨[(1,.ptr 0 0 0),(2,.ptr 1 0 0),(3,.ptr 2 0 0)],(JC ls c g d ks vs f e),.dead,[]⟩:=pN 45 [] 1 0 (.c i .nil) (.nil) h
theorem aeU (ks vs g f:List AV) (ls:List Lk) (c:List Sc) (d e:Bool) (i:aO prog ap [] 68 (.block 0 (.loop (ag 0 (ai f45)))) ⟨[(0,.agg [.sl (eU ls) ls.length d,.sl (gZ c) c.length e]),(1,.ptr 0 0 0),(2,.ptr 1 0 0),(3,.ptr 2 0 0),(5,.dead),(6,.dead),(8,.dead),(10,.dead),(12,.dead),(17,.sl (eU ls) ls.length d),(18,.int .i64 (ls.length:Int)),(19,.int .i64 0),(20,.dead),(36,.dead),(45,.dead),(46,.dead),(47,.dead),(48,.dead),(60,.dead)],(JC ls c d e [] [] [] []),.dead,[]⟩ (.normal) ⟨[(1,.ptr 0 0 0),(2,.ptr 1 0 0),(3,.ptr 2 0 0)],(JC ls c d e ks vs [] []),.dead,[]⟩) (h:aO prog ap [] 68 (.block 2 (.loop (ag 2 (ai f45)))) ⟨[(0,.dead),(1,.ptr 0 0 0),(2,.ptr 1 0 0),(3,.ptr 2 0 0),(5,.dead),(6,.dead),(8,.dead),(10,.dead),(12,.dead),(17,.dead),(18,.dead),(19,.dead),(20,.dead),(36,.dead),(45,.sl (gZ c) c.length e),(46,.int .i64 (c.length:Int)),(47,.int .i64 0),(48,.dead),(60,.dead)],(JC ls c d e ks vs [] []),.dead,[]⟩ (.normal) ⟨[(1,.ptr 0 0 0),(2,.ptr 1 0 0),(3,.ptr 2 0 0)],(JC ls c d e ks vs g f),.dead,[]⟩):CO 45 [.agg [.sl (eU ls) ls.length d,.sl (gZ c) c.length e]] (.ret (.agg [.mp ks vs,.mp g f])):=pK [0,2] 0 0 (.n 8 .nil) (.l h (.l i .nil))
theorem aeK (o:Oq) (i nn:Bool) (e f c:List UInt8) (d:Int) (ks vs g h:List AV) (k:lit true (decide (d≤((4:Nat):Int)))=true) (j:CO 75 [.agg [.mp ks vs,.mp g h],.agg [.int .i64 d,.bool i,.str e,.str f,.str c],.sl [] 0 nn] (.ret (fM o))):CO 46 [.agg [.mp ks vs,.mp g h],.agg [.int .i64 d,.bool i,.str e,.str f,.str c],.sl [] 0 nn] (.ret (fM o)):=pK [] 2 1 (.k 13 k (.n 3 .nil)) (.c j .nil)
theorem aeL (o:Oq) (i nn:Bool) (e f c:List UInt8) (d:Int) (ks vs g h:List AV) (m:lit true (decide (d≤((8:Nat):Int)))=true) (k:lit false (decide (d≤((4:Nat):Int)))=true) (j:CO 76 [.agg [.mp ks vs,.mp g h],.agg [.int .i64 d,.bool i,.str e,.str f,.str c],.sl [] 0 nn] (.ret (fM o))):CO 46 [.agg [.mp ks vs,.mp g h],.agg [.int .i64 d,.bool i,.str e,.str f,.str c],.sl [] 0 nn] (.ret (fM o)):=pK [] 3 2 (.k 13 m (.k 1 k (.n 3 .nil))) (.c j .nil)
theorem aeM (c:Oq) (o nn:Bool) (i j d:List UInt8) (e:Int) (ks vs m k:List AV) (n:lit true (!(c.e==((0:Nat):Int)))=true) (h:lit false (e==((15:Nat):Int))=true) (f:lit false (decide (e≤((8:Nat):Int)))=true) (g:lit false (decide (e≤((4:Nat):Int)))=true):CO 46 [.agg [.mp ks vs,.mp m k],.agg [.int .i64 e,.bool o,.str i,.str j,.str d],.sl [.bool c.n,.str c.a,.str c.d,.int .i64 c.e] 1 nn] (.ret (fM c)):=pK [] 6 56 (.k 9 n (.k 12 h (.k 1 f (.k 1 g (.n 3 .nil))))) (.nil)
theorem aeN (c o:Oq) (j nn:Bool) (f g d:List UInt8) (e:Int) (ks vs h i:List AV) (q:lit false (!(c.e==((0:Nat):Int)))=true) (p:lit false (e==((15:Nat):Int))=true) (k:lit false (decide (e≤((8:Nat):Int)))=true) (m:lit false (decide (e≤((4:Nat):Int)))=true) (n:CO 78 [.agg [.mp ks vs,.mp h i],.agg [.int .i64 e,.bool j,.str f,.str g,.str d],.sl [.bool c.n,.str c.a,.str c.d,.int .i64 c.e] 1 nn] (.ret (fM o))):CO 46 [.agg [.mp ks vs,.mp h i],.agg [.int .i64 e,.bool j,.str f,.str g,.str d],.sl [.bool c.n,.str c.a,.str c.d,.int .i64 c.e] 1 nn] (.ret (fM o)):=pK [] 7 24 (.k 11 q (.k 12 p (.k 1 k (.k 1 m (.n 3 .nil))))) (.c n .nil)
theorem aeO (c e:Oq) (p nn:Bool) (j k d:List UInt8) (f:Int) (ks vs n m:List AV) (o:lit true (!(c.e==((0:Nat):Int)))=true) (i:lit false (f==((15:Nat):Int))=true) (g:lit false (decide (f≤((8:Nat):Int)))=true) (h:lit false (decide (f≤((4:Nat):Int)))=true):CO 46 [.agg [.mp ks vs,.mp n m],.agg [.int .i64 f,.bool p,.str j,.str k,.str d],.sl [.bool c.n,.str c.a,.str c.d,.int .i64 c.e,.bool e.n,.str e.a,.str e.d,.int .i64 e.e] 2 nn] (.ret (fM c)):=pK [] 6 48 (.k 9 o (.k 10 i (.k 1 g (.k 1 h (.n 3 .nil))))) (.nil)
theorem aeP (d c:Oq) (q nn:Bool) (k m e:List UInt8) (f:Int) (ks vs o n:List AV) (p:lit true (!(c.e==((0:Nat):Int)))=true) (j:lit false (!(d.e==((0:Nat):Int)))=true) (g:lit false (f==((15:Nat):Int))=true) (h:lit false (decide (f≤((8:Nat):Int)))=true) (i:lit false (decide (f≤((4:Nat):Int)))=true):CO 46 [.agg [.mp ks vs,.mp o n],.agg [.int .i64 f,.bool q,.str k,.str m,.str e],.sl [.bool d.n,.str d.a,.str d.d,.int .i64 d.e,.bool c.n,.str c.a,.str c.d,.int .i64 c.e] 2 nn] (.ret (fM c)):=pK [] 8 208 (.k 9 p (.k 9 j (.k 10 g (.k 1 h (.k 1 i (.n 3 .nil)))))) (.nil)
theorem aeQ (d c o:Oq) (i nn:Bool) (j g e:List UInt8) (f:Int) (ks vs k h:List AV) (t:lit false (!(c.e==((0:Nat):Int)))=true) (n:lit false (!(d.e==((0:Nat):Int)))=true) (p:lit false (f==((15:Nat):Int))=true) (q:lit false (decide (f≤((8:Nat):Int)))=true) (m:lit false (decide (f≤((4:Nat):Int)))=true) (r:CO 74 [.agg [.mp ks vs,.mp k h],.agg [.int .i64 f,.bool i,.str j,.str g,.str e],.sl [.bool d.n,.str d.a,.str d.d,.int .i64 d.e,.bool c.n,.str c.a,.str c.d,.int .i64 c.e] 2 nn] (.ret (fM o))):CO 46 [.agg [.mp ks vs,.mp k h],.agg [.int .i64 f,.bool i,.str j,.str g,.str e],.sl [.bool d.n,.str d.a,.str d.d,.int .i64 d.e,.bool c.n,.str c.a,.str c.d,.int .i64 c.e] 2 nn] (.ret (fM o)):=pK [] 9 80 (.k 11 t (.k 9 n (.k 10 p (.k 1 q (.k 1 m (.n 3 .nil)))))) (.c r .nil)
theorem aeR (c d e o:Oq) (m nn:Bool) (h i f:List UInt8) (g:Int) (ks vs j k:List AV) (r:lit true (g==((15:Nat):Int))=true) (q:lit false (decide (g≤((8:Nat):Int)))=true) (n:lit false (decide (g≤((4:Nat):Int)))=true) (p:CO 77 [.agg [.mp ks vs,.mp j k],.agg [.int .i64 g,.bool m,.str h,.str i,.str f],.sl [.bool c.n,.str c.a,.str c.d,.int .i64 c.e,.bool d.n,.str d.a,.str d.d,.int .i64 d.e,.bool e.n,.str e.a,.str e.d,.int .i64 e.e] 3 nn] (.ret (fM o))):CO 46 [.agg [.mp ks vs,.mp j k],.agg [.int .i64 g,.bool m,.str h,.str i,.str f],.sl [.bool c.n,.str c.a,.str c.d,.int .i64 c.e,.bool d.n,.str d.a,.str d.d,.int .i64 d.e,.bool e.n,.str e.a,.str e.d,.int .i64 e.e] 3 nn] (.ret (fM o)):=pK [] 3 4 (.k 12 r (.k 1 q (.k 1 n (.n 3 .nil)))) (.c p .nil)
def Gx (m:List AV × List AV) (k v:AV):List AV × List AV:=if (dP m.1 m.2 k).isSome then m else (xJ m.1 k,pI m.1 m.2 k v)
theorem Ej (k v q:AV):∀ (ks vs:List AV),ks.length=vs.length→dP (ks++ [k]) (vs++ [v]) q=(dP ks vs q).or (if xA q k then some v else none)
 | [],[],_=>by simp [dP];cases xA q k<;>rfl
 |a::ks,b::vs,h=>by
  simp only [List.cons_append,dP]
  cases xA q a with
  |true=>rfl
  |false=>exact Ej k v q ks vs (by simpa using h)
 | [],_::_,h=>by simp at h
 |_::_,[],h=>by simp at h
theorem Hw (q v:AV):∀ (ks vs:List AV),ks.length=vs.length→dP ks vs q=none→ks.any (xA q)=false∧pI ks vs q v=vs++ [v]
 | [],[],_,_=> ⟨rfl,rfl⟩
 | a::ks,b::vs,h,hf=>by
  simp only [dP] at hf
  cases c:xA q a with
  |true=>rw [c] at hf;cases hf
  |false=>
   rw [c] at hf
   obtain ⟨e,d⟩:=Hw q v ks vs (by simpa using h) hf
   exact ⟨by simp [c,e],by simp [pI,c,d]⟩
 | [],_::_,h,_=>by simp at h
 |_::_,[],h,_=>by simp at h
structure SB {α:Type} (kf vf:α→AV) (p:List α) (m:List AV × List AV):Prop where
 len:m.1.length=m.2.length
 find:∀ y,dP m.1 m.2 (kf y)=(p.find? fun x=>xA (kf y) (kf x)).map vf
 keys:∀ k ∈ m.1,∃ x,k=kf x
theorem SB.step {α:Type} {c vf:α→AV} (n:∀ x y,xA (c x) (c y)=true→c x=c y) {p:List α} {m:List AV × List AV} (h:SB c vf p m) (x:α):SB c vf (p++ [x]) (Gx m (c x) (vf x)):=by
 unfold Gx
 cases hs:dP m.1 m.2 (c x) with
 | some v=>
  rw [if_pos (by rfl)]
  refine ⟨h.len,fun y=> ?_,h.keys⟩
  rw [h.find y,List.find?_append]
  cases hp:p.find? (fun x=>xA (c y) (c x)) with
  |some z=>rfl
  | none=>
   have g:=h.find x
   rw [hs] at g
   cases f:xA (c y) (c x) with
   |false=>simp [f]
   |true=>
    rw [← n y x f,hp] at g
    cases g
 | none=>
  obtain ⟨i,j⟩:=Hw (c x) (vf x) m.1 m.2 h.len hs
  have e:xJ m.1 (c x)=m.1++ [c x]:=by unfold xJ;rw [i]
  rw [if_neg (by simp),e,j]
  refine ⟨by simp [h.len],fun y=> ?_,fun k d=> ?_⟩
  ·rw [Ej _ _ _ _ _ h.len,h.find y,List.find?_append]
   cases hp:p.find? (fun x=>xA (c y) (c x)) with
   |some z=>rfl
   |none=>cases f:xA (c y) (c x)<;>simp [f]
  ·rcases List.mem_append.1 d with d|d
   ·exact h.keys k d
   ·rw [List.mem_singleton] at d;exact ⟨x,d⟩
def GL {α:Type} (kf vf:α→AV) (p:List α):List AV × List AV:=p.foldl (fun m x=>Gx m (kf x) (vf x)) ([],[])
theorem Aq {α:Type} (c vf:α→AV) (p:List α) (x:α):GL c vf (p++ [x])=Gx (GL c vf p) (c x) (vf x):=by unfold GL;rw [List.foldl_append];rfl
theorem EQ {α:Type} {c vf:α→AV} (d:∀ x y,xA (c x) (c y)=true→c x=c y) (l:List α):SB c vf l (GL c vf l):=by
 have key:∀ (r p:List α),SB c vf p (GL c vf p)→SB c vf (p++r) (GL c vf (p++r)):=by
  intro r
  induction r with
  |nil=>intro p h;simpa using h
  |cons x r ih=>
   intro p h
   have e:=h.step d x
   rw [← Aq] at e
   have:=ih (p++ [x]) e
   simpa using this
 exact key l [] ⟨rfl,fun y=>rfl,fun k d=>by simp [GL] at d⟩
def UY (x:Lk):AV:= .agg [.int .i64 x.op,.str x.nm]
def lkV (x:Lk):Oq:=CE x.n x.a x.d x.e
def Ai (ls:List Lk):List AV × List AV:=GL UY (fun x=>fM (lkV x)) ls
theorem QI (x y:Lk) (h:xA (UY x) (UY y)=true):UY x=UY y:=by
 simp only [UY,xA,Ja,Eg,Bool.and_true,Bool.and_eq_true,beq_iff_eq] at h
 unfold UY;rw [h.1,h.2]
def X7 (c:Sc):AV:= .str c.name
def Dn (cs:List Sc):List AV × List AV:=GL X7 (fun c=> .agg (Rx c)) cs
theorem Ry (x y:Sc) (h:xA (X7 x) (X7 y)=true):X7 x=X7 y:=by
 simp only [X7,xA,beq_iff_eq] at h
 unfold X7;rw [h]
def QK (ls:List Lk) (op:Int) (nm:List UInt8):Option Oq:=(ls.find? fun y=>(op==y.op) && (nm==y.nm)).map lkV
def scO (cs:List Sc) (nm:List UInt8):Option Sc:=cs.find? fun c=>nm==c.name
theorem LG (ls:List Lk) (d:Int) (c:List UInt8):dP (Ai ls).1 (Ai ls).2 (.agg [.int .i64 d,.str c])=(QK ls d c).map (fun o=>fM o):=by
 have h:=(EQ (vf:=fun x=>fM (lkV x)) QI ls).find ⟨d,c,false,[],[],0⟩
 unfold Ai QK
 rw [Option.map_map]
 refine h.trans ?_
 congr 1
 congr 1
 funext y
 simp [UY,xA,Ja,Eg]
theorem MO (d:List Sc) (e:List UInt8):dP (Dn d).1 (Dn d).2 (.str e)=(scO d e).map (fun c=> .agg (Rx c)):=by
 have h:=(EQ (vf:=fun c=>AV.agg (Rx c)) Ry d).find ⟨e,0,0,[],0⟩
 exact h
theorem acX {α:Type} {c vf:α→AV} (f:∀ x y,xA (c x) (c y)=true→c x=c y) (t:Nat) (e:∀ x,QE t (c x)=true) (l:List α):List.all (GL c vf l).1 (QE t)=true:=by
 rw [List.all_eq_true]
 intro k d
 obtain ⟨x,rfl⟩:=(EQ (vf:=vf) f l).keys k d
 exact e x
theorem afw (x:Lk):QE 134 (UY x)=true:=by kernel_rfl
theorem afx (c:Sc):QE 9 (X7 c)=true:=by kernel_rfl
theorem Df (ls:List Lk):List.all (Ai ls).1 (QE 134)=true:=acX QI 134 afw ls
theorem Dp (c:List Sc):List.all (Dn c).1 (QE 9)=true:=acX Ry 9 afx c
def zO:Oq:= .val ⟨false,0,0⟩
theorem aob:fM zO= .agg [.bool false,.str [],.str [],.int .i64 0]:=by
 show AV.agg [.bool false,.str (af 0),.str (af 0),.int .i64 0]=_
 rw [dI]
theorem adn (ls:List Lk) (d:Int) (c:List UInt8):AV.tup [(Option.getD (dP (Ai ls).1 (Ai ls).2 (.agg [.int .i64 d,.str c])) (.agg [.bool false,.str [],.str [],.int .i64 0])),.bool (Option.isSome (dP (Ai ls).1 (Ai ls).2 (.agg [.int .i64 d,.str c])))]=AV.tup [fM ((QK ls d c).getD zO),.bool (QK ls d c).isSome]:=by
 rw [LG]
 cases QK ls d c with
 |none=>simp only [Option.map_none,Option.getD_none,Option.isSome_none];rw [aob]
 |some x=>rfl
theorem WW {l:List Lk} {k:Nat} (h:k<l.length):List.drop (Int.toNat (k:Int)*6) (eU l)=lkC l[k]++eU (l.drop (k+1)):=by
 rw [aJ];exact vV lkC 6 (fun _=>rfl) h
theorem aW.tupL {l r:List AV} (h:gX l r):aW (.tup l) (.tup r):=by
 intro g m S v c
 simp only [VR] at c ⊢
 obtain ⟨vs,e,c⟩:=c
 exact ⟨vs,e,h g m S vs c⟩
theorem aW.zsc:aW (.tup [.agg [.str [],.int .i64 0,.int .i64 0,.nilS],.bool false]) (.tup [.agg [.str [],.int .i64 0,.int .i64 0,.sl [] 0 false],.bool false]):=
 aW.tupL (gX.cons (aW.agg (gX.cons (aW.refl _) (gX.cons (aW.refl _) (gX.cons (aW.refl _) (gX.cons (aW.nilS false rfl) (gX.refl _)))))) (gX.refl _))
abbrev ann (ls:List Lk) (cs:List Sc) (nl ns:Bool) (p:Nat × (List AV × List AV)):St:=⟨[(1,.ptr 0 0 0),(2,.ptr 1 0 0),(3,.ptr 2 0 0),(17,.sl (eU ls) ls.length nl),(18,.int .i64 (ls.length:Int)),(19,.int .i64 (p.1:Int))],JC ls cs nl ns p.2.1 p.2.2 [] [],.dead,[]⟩
abbrev opO (ls:List Lk) (cs:List Sc) (nl ns:Bool) (a b:List AV × List AV):St:=⟨[(1,.ptr 0 0 0),(2,.ptr 1 0 0),(3,.ptr 2 0 0)],JC ls cs nl ns a.1 a.2 b.1 b.2,.dead,[]⟩
abbrev anp (ls:List Lk) (cs:List Sc) (nl ns:Bool) (a:List AV × List AV) (p:Nat × (List AV × List AV)):St:=⟨[(1,.ptr 0 0 0),(2,.ptr 1 0 0),(3,.ptr 2 0 0),(45,.sl (gZ cs) cs.length ns),(46,.int .i64 (cs.length:Int)),(47,.int .i64 (p.1:Int))],JC ls cs nl ns a.1 a.2 p.2.1 p.2.2,.dead,[]⟩
theorem Vb {m:List AV × List AV} {k v:AV} (h:(dP m.1 m.2 k).isSome=true):Gx m k v=m:=by unfold Gx;rw [if_pos h]
theorem Va {m:List AV × List AV} {k v:AV} (h:(dP m.1 m.2 k).isSome=false):Gx m k v=(xJ m.1 k,pI m.1 m.2 k v):=by unfold Gx;rw [if_neg (by rw [h];simp)]
theorem abf {nt:Nat} (n:68≤nt) (ls:List Lk) (h:List Sc) (g i:Bool) (w:ls.length<2^60) (hs:∀ x ∈ ls,x.a.length<2^36∧x.d.length<2^36):∀ (r p:List Lk),ls=p++r→
  aI prog ap [] nt (ag 0 (ai f45)) (fun _=> .exit 0) (ann ls h g i) (fun q:List AV × List AV=>opO ls h g i q ([],[])) (p.length,Ai p) (Ai ls):=by
 intro r
 induction r with
 |nil=>
  intro p hp
  rw [List.append_nil] at hp
  subst hp
  exact .done (aiv _ _ _ ls h g i n (aF (decide_eq_false (by omega))))
 | cons x r ih=>
  intro p hp
  have o:p.length<ls.length:=by rw [hp];simp
  have t:=WW o
  rw [show ls[p.length]=x by subst hp;simp] at t
  have c:=ih (p++ [x]) (by rw [hp];simp)
  rw [List.length_append,List.length_singleton] at c
  have e:Ai (p++ [x])=Gx (Ai p) (UY x) (fM (lkV x)):=Aq _ _ p x
  rw [e] at c
  have j:=adn p x.op x.nm
  have d:=congrArg Option.isSome (LG p x.op x.nm)
  rw [Option.isSome_map] at d
  have u:decide (((0:Nat):Int)≤(p.length:Int))=true:=decide_eq_true (by omega)
  have m:decide ((p.length:Int)<(ls.length:Int))=true:=decide_eq_true (by omega)
  have f:=hs x (by rw [hp];simp)
  cases v:(QK p x.op x.nm).isSome with
  |true=>
   rw [v] at j d
   rw [Vb (k:=UY x) d] at c
   exact .next (aiu _ _ p.length ls h x g i true _ _ n t j (CG (by omega)) rfl (Df p) u m (aG m)) c
  |false=>
   rw [v] at j d
   rw [Va (k:=UY x) d] at c
   exact .next (ais _ _ p.length ls h x g i false _ (lkV x) _ n t j (CG (by omega)) (Df p) rfl u m (aG m) (wE x.n x.a x.d x.e f.1 f.2)) c
theorem abg {nt:Nat} (m:68≤nt) (ls:List Lk) (d:List Sc) (h i:Bool) (a:List AV × List AV) (v:d.length<2^60):∀ (r p:List Sc),d=p++r→
  aI prog ap [] nt (ag 2 (ai f45)) (fun _=> .exit 2) (anp ls d h i a) (fun q:List AV × List AV=>opO ls d h i a q) (p.length,Dn p) (Dn d):=by
 intro r
 induction r with
 |nil=>
  intro p hp
  rw [List.append_nil] at hp
  subst hp
  exact .done (aiy _ _ _ _ _ ls d h i m (aF (decide_eq_false (by omega))))
 | cons x r ih=>
  intro p hp
  have n:p.length<d.length:=by rw [hp];simp
  have o:=X8 n
  rw [show d[p.length]=x by subst hp;simp] at o
  have g:=ih (p++ [x]) (by rw [hp];simp)
  rw [List.length_append,List.length_singleton] at g
  have e:Dn (p++ [x])=Gx (Dn p) (X7 x) (.agg (Rx x)):=Aq _ _ p x
  rw [e] at g
  have f:=MO p x.name
  have t:decide (((0:Nat):Int)≤(p.length:Int))=true:=decide_eq_true (by omega)
  have j:decide ((p.length:Int)<(d.length:Int))=true:=decide_eq_true (by omega)
  cases u:scO p x.name with
  |some c=>
   rw [u] at f
   rw [Vb (k:=X7 x) (show (dP (Dn p).1 (Dn p).2 (.str x.name)).isSome=true by rw [f];rfl)] at g
   exact .next (aix _ _ _ a.1 a.2 _ _ _ _ p.length ls d x h i true _ m o (by rw [f];exact aW.refl _) (CG (by omega)) rfl (Dp p) t j (aG j)) g
  |none=>
   rw [u] at f
   rw [Va (k:=X7 x) (show (dP (Dn p).1 (Dn p).2 (.str x.name)).isSome=false by rw [f];rfl)] at g
   exact .next (aiw [] 0 0 a.1 a.2 _ _ [] 0 p.length ls d x h i false _ m o (by rw [f];exact aW.zsc) (CG (by omega)) (Dp p) rfl t j (aG j)) g
theorem KX (ls:List Lk) (c:List Sc) (d e:Bool) (g:ls.length<2^60) (h:c.length<2^60) (hs:∀ x ∈ ls,x.a.length<2^36∧x.d.length<2^36):CO 45 [.agg [.sl (eU ls) ls.length d,.sl (gZ c) c.length e]] (.ret (.agg [.mp (Ai ls).1 (Ai ls).2,.mp (Dn c).1 (Dn c).2])):=
 aeU _ _ _ _ ls c d e
  (aI.blk (id:=0) (e':= .normal) (s:=⟨_,_,_,_⟩) (s':=opO ls c d e (Ai ls) ([],[])) (fun nt f=>abf f ls c d e g hs ls [] rfl) (by simp) rfl (aQ.of ⟨rfl,rfl,rfl,rfl,rfl,rfl,trivial⟩) (aQ.refl _))
  (aI.blk (id:=2) (e':= .normal) (s:=⟨_,_,_,_⟩) (s':=opO ls c d e (Ai ls) (Dn c)) (fun nt f=>abg f ls c d e (Ai ls) h c [] rfl) (by simp) rfl (aQ.of ⟨rfl,rfl,rfl,rfl,rfl,rfl,trivial⟩) (aQ.refl _))
end Go.Proofs.Tryz
set_option maxRecDepth 100000
open Go AM
namespace Go.Proofs.Tryz
structure Sq where
 nm:List UInt8
 u1:Int
 u2:Int
 l:List Br
def Sq.c (q:Sq):Sc:=⟨q.nm,q.u1,q.u2,nM q.l,q.l.length⟩
theorem kR {c:List Nd} (h:c.all (fun x=>Nat.ble (x.num.length+1) 8589934592 && Nat.ble (x.den.length+1) 8589934592)=true):∀ x ∈ c,x.sm:=by
 intro x d
 have:=List.all_eq_true.1 h x d
 rw [Bool.and_eq_true] at this
 exact ⟨Nat.le_of_ble_eq_true this.1,Nat.le_of_ble_eq_true this.2⟩
def Br.s28 (x:Br):Prop:=(x.fa.length<2^28∧x.fd.length<2^28)∧(x.ra.length<2^28∧x.rd.length<2^28)
theorem Br.s28.sm {x:Br} (h:x.s28):x.sm:=⟨⟨Nat.lt_trans h.1.1 (by decide),Nat.lt_trans h.1.2 (by decide)⟩,Nat.lt_trans h.2.1 (by decide),Nat.lt_trans h.2.2 (by decide)⟩
end Go.Proofs.Tryz
set_option maxRecDepth 100000
set_option linter.unusedVariables false
open Go AM
namespace Go.Proofs.Tryz
def pg (y x:Br):Int:=lD (vQ y.fn y.fa y.fd) (vQ x.fn x.fa x.fd)
def Y8 (x:Br):RQ × RQ:=(vQ x.fn x.fa x.fd,vQ x.rn x.ra x.rd)
def atS (l:List Br) (x:RQ):Oq:=if NC pg l=0 then atV (l.map Y8) x else .err (NC pg l)
theorem Zi {l:List Br} (h:∀ x ∈ l,x.s28):GY 127 pg l:=fun i y x c d _ _=>
 FO y.fn x.fn y.fa y.fd x.fa x.fd (h y (List.mem_of_getElem? c)).1.1 (h y (List.mem_of_getElem? c)).1.2 (h x (List.mem_of_getElem? d)).1.1 (h x (List.mem_of_getElem? d)).1.2
theorem BX {n:Bool} {a d:List UInt8} (h:iU n a d=true):vQ n a d=⟨n,ah a,ah d⟩:=by unfold vQ;rw [if_pos h]
theorem aek {x:Br} (h:mQ x=true):P6 (Y8 x)=SN x:=by
 simp only [mQ,Bool.and_eq_true] at h
 unfold P6 Y8 SN
 simp only [BX h.1,BX h.2]
 rw [(lH h.1).1,(lH h.1).2,(lH h.2).1,(lH h.2).2]
theorem Vk:∀ {l:List Br},l.all mQ=true→x_ (l.map Y8)=nM l
 | [],_=>rfl
 |x::l,h=>by
  simp only [List.all_cons,Bool.and_eq_true] at h
  show P6 (Y8 x)++x_ (l.map Y8)=SN x++nM l
  rw [aek h.1,Vk h.2]
theorem Kr:∀ (l:List Br) (y:Br),Gy pg y l=true→jU ((y::l).map Y8)
 | [],_,_=>True.intro
 | x::l,y,h=>by
  unfold Gy at h
  cases hd:decide (((0:Nat):Int)≤pg y x) with
  |true=>rw [hd] at h;cases h
  |false=>
   rw [hd] at h
   have c:pg y x<0:=by have:=of_decide_eq_false hd;omega
   exact ⟨(CY (lg _ _ _) (lg _ _ _)).1.1 c,Kr l x h⟩
theorem ac4 {l:List Br} (h:NC pg l=0):YX (l.map Y8)∧x_ (l.map Y8)=nM l:=by
 unfold NC at h
 cases d:decide (((8:Nat):Int)<(l.length:Int)) with
 |true=>rw [d] at h;cases h
 | false=>
  rw [d] at h
  have n:l.length≤8:=by have:=of_decide_eq_false d;omega
  cases l with
  |nil=>cases h
  | cons x r=>
   rw [show ((((x::r).length:Nat):Int)==((0:Nat):Int))=false from beq_eq_false_iff_ne.2 (by simp only [List.length_cons];omega),Kv] at h
   cases f:(x::r).all mQ with
   |false=>rw [f] at h;cases h
   | true=>
    rw [f] at h
    cases hs:(rU x.fn x.fa x.fd==((0:Nat):Int)) && Gy pg x r with
    |false=>rw [hs] at h;cases h
    | true=>
     rw [hs] at h
     simp only [Bool.and_eq_true] at hs
     cases e:(x::r).any GG with
     |true=>rw [e] at h;cases h
     | false=>
      rw [IM] at e
      have i:(x::r).all Le=true:=by simpa using e
      refine ⟨⟨by simpa using n,by simp,fun b c=> ?_,fun b c=> ?_,Kr r x hs.2⟩,Vk f⟩
      ·obtain ⟨y,_,rfl⟩:=List.mem_map.1 c
       exact ⟨lg _ _ _,lg _ _ _⟩
      ·obtain ⟨y,g,rfl⟩:=List.mem_map.1 c
       have:=List.all_eq_true.1 i y g
       simp only [Le,Bool.and_eq_true] at this
       obtain ⟨k,o⟩:=uP this.1
       obtain ⟨m,j⟩:=uP this.2
       exact ⟨by show jM (vQ _ _ _)=true;rw [BX k];exact o,by show jM (vQ _ _ _)=true;rw [BX m];exact j⟩
theorem aef {l:List (RQ × RQ)} {x:RQ} (d:YX l) (i:x.ok):(atV l x).ok:=by
 unfold atV
 split
 ·have:=zH false;exact this
 ·refine qo ?_
  have j:=(yC x l).1
  have g:=d.pos
  have f:iM l x - 1<l.length:=by omega
  have c:iM l x - 1<(jc q0 l).length:=by rw [FV l q0 d.pos];exact f
  have h:=List.getElem_mem f
  have e:atR l x=iV (jc q0 l)[iM l x - 1] (nC l[iM l x - 1].2 (ji x l[iM l x - 1].1)):=by
   unfold atR
   rw [List.getD_eq_getElem?_getD,List.getD_eq_getElem?_getD,List.getElem?_eq_getElem f,List.getElem?_eq_getElem c];rfl
  rw [e]
  exact jF (Na d _ (List.getElem_mem c)).1 (sQ (d.ok _ h).2 (qj i (d.ok _ h).1))
theorem aee {l:List Br} {x:RQ} (c:x.ok):(atS l x).ok:=by
 unfold atS
 split
 ·rename_i h;exact aef (ac4 h).1 c
 ·assumption
theorem ZG (d:List UInt8) (u1 u2:Int) {l:List Br} (hs:∀ x ∈ l,x.s28) (j:l.length<2^40) {x:RQ} (f:x.ok) (k:jM x=true):
  CO 130 [.agg [.str d,.int .i64 u1,.int .i64 u2,.sl (nM l) l.length false],qA x] (.ret (.tup [.agg [.bool (atS l x).n,.str (atS l x).a,.str (atS l x).d],.int .i64 (atS l x).e])):=by
 have c:=Pg d u1 u2 l pg j (fun x f=>(hs x f).sm) (Zi hs)
 unfold atS
 by_cases h:NC pg l=0
 ·rw [if_pos h]
  rw [h] at c
  obtain ⟨m,e⟩:=ac4 h
  have i:=aex d u1 u2 m f k
  simp only [JY,e,List.length_map] at i
  exact i c
 ·rw [if_neg h]
  have g:lit true (!(NC pg l==((0:Nat):Int)))=true:=by rw [show (NC pg l==((0:Nat):Int))=false from beq_eq_false_iff_ne.2 h];rfl
  exact aeA x _ _ d u1 u2 _ g (aew x _ _ d u1 u2 _ g c)
structure dY where
 ls:List Lk
 qs:List Sq
def sqO (qs:List Sq) (nm:List UInt8):Option Sq:=qs.find? fun q=>nm==q.nm
theorem acb (qs:List Sq) (c:List UInt8):scO (qs.map Sq.c) c=(sqO qs c).map Sq.c:=by
 unfold scO sqO
 rw [List.find?_map];rfl
abbrev agN (E:dY):AV:= .agg [.mp (Ai E.ls).1 (Ai E.ls).2,.mp (Dn (E.qs.map Sq.c)).1 (Dn (E.qs.map Sq.c)).2]
def UC (qs:List Sq) (op:Int) (nm:List UInt8) (st:RQ) (a:Oq):Oq:=
 if op=20 then (if a.bit then uj (!a.one) else .err 13)
 else if op=24 then (match sqO qs nm with|none=> .err 12|some s=>atS s.l a.q)
 else if op=21 then pM (C9 a.q st) else if op=22 then pM (upR a.q st) else pM (nrR a.q st)
def fE (E:dY) (x:Nd) (l:List Oq):Oq:=
 if x.op≤4 then CE x.neg x.num x.den 0 else if x.op≤8 then (QK E.ls x.op x.name).getD (.err 12)
 else match l with
 | [a]=>if a.e=0 then UC E.qs x.op x.name (vQ x.neg x.num x.den) a else a
 | [a,b]=>if a.e=0 then (if b.e=0 then QZ x.op a b else b) else a
 | [a,b,c]=>IY a b c
 |_=> .err 11
def Yo (x:Nd):Prop:=21≤x.op→x.op≤23→fA x.neg x.num x.den=true∧0<rU x.neg x.num x.den
theorem OZ {a s:RQ} (e:jM a=true) (f:jM s=true):mW 10000 (nrR a s)∧mW 10000 (upR a s)∧mW 10000 (C9 a s):=by
 have c:=N_ e f
 have g:mW 51 s:=dh f
 have d:=FW c (g.mono (show 51≤208 by decide))
 refine ⟨?_, ?_,c.mono (by decide)⟩
 ·unfold nrR;split
  ·exact d.mono (by decide)
  ·exact c.mono (by decide)
 ·unfold upR;split
  ·exact mW.mono (L:=51) (dh e) (by decide)
  ·exact d.mono (by decide)
theorem JU {a s:RQ} (c:a.ok) (hs:s.ok):(upR a s).ok∧(nrR a s).ok:=by
 constructor
 ·unfold upR;split
  ·exact c
  ·exact jF (xx hs) hs
 ·unfold nrR;split
  ·exact jF (xx hs) hs
  ·exact xx hs
theorem Og (E:dY) (x:Nd) (nn:Bool) (a:Oq) (m:20≤x.op∧x.op≤24) (i:Yo x) (B:a.ok) (C:a.e=0) (w:∀ s ∈ E.qs,s.l.length<2^40∧∀ b ∈ s.l,b.s28):
  CO 78 [agN E,.agg (zQ x),.sl (Dj a) 1 nn] (.ret (fM (UC E.qs x.op x.name (vQ x.neg x.num x.den) a))):=by
 obtain ⟨q,rfl,f,d⟩:=IC B C
 obtain ⟨c,t,v,p,k⟩:=x
 unfold UC
 simp only at m i ⊢
 have step:21≤c→c≤23→∃ st:RQ,vQ t v p=st∧st.ok∧jM st=true∧0<wO st∧v=af st.n∧p=af st.d∧t=st.neg:=by
  intro j n
  obtain ⟨y,z⟩:=i j n
  obtain ⟨g,D⟩:=uP y
  refine ⟨_,rfl,lg _ _ _,by rw [BX g];exact D,by rw [← Ye];exact z, ?_, ?_, ?_⟩
  ·rw [BX g];exact (lH g).1.symm
  ·rw [BX g];exact (lH g).2.symm
  ·rw [BX g]
 have lv:∀ {r:RQ},mW 10000 r→r.ok→CO 124 [qA r] (.ret (fM (pM r))):=fun j n=>qY n (Nat.lt_of_le_of_lt j.1 (by decide)) (Nat.lt_of_le_of_lt j.2 (by decide))
 have A:c=20∨c=21∨c=22∨c=23∨c=24:=by omega
 rcases A with rfl|rfl|rfl|rfl|rfl
 ·rw [if_pos rfl]
  have o:=nO (.val q)
  generalize Oq.bit (.val q)=w2 at*
  generalize Oq.one (.val q)=w1 at*
  cases w2 with
  |false=>exact ZV (.val q) _ _ _ _ _ _ _ _ _ _ _ rfl o (iQ 13)
  |true=>exact ZW (.val q) _ _ _ _ _ _ _ _ _ _ _ _ rfl o (lF _)
 ·obtain ⟨st,e,k1,k2,k3,rfl,rfl,rfl⟩:=step (by decide) (by decide)
  rw [e,if_neg (by decide),if_neg (by decide),if_pos rfl]
  exact ZX (.val q) _ _ st _ _ _ _ _ _ (Ed f d k1 k2 k3) (lv (OZ d k2).2.2 (xx k1))
 ·obtain ⟨st,e,k1,k2,k3,rfl,rfl,rfl⟩:=step (by decide) (by decide)
  rw [e,if_neg (by decide),if_neg (by decide),if_neg (by decide),if_pos rfl]
  exact ZY (.val q) _ _ st _ _ _ _ _ _ (afa f d k1 k2 k3) (lv (OZ d k2).2.1 (JU f k1).1)
 ·obtain ⟨st,e,k1,k2,k3,rfl,rfl,rfl⟩:=step (by decide) (by decide)
  rw [e,if_neg (by decide),if_neg (by decide),if_neg (by decide),if_neg (by decide)]
  exact ZZ (.val q) _ _ st _ _ _ _ _ _ (VU f d k1 k2 k3) (lv (OZ d k2).1 (JU f k1).2)
 ·rw [if_neg (by decide),if_pos rfl]
  have h:=MO (E.qs.map Sq.c) k
  rw [acb] at h
  cases hs:sqO E.qs k with
  |none=>
   rw [hs] at h
   exact Z4 (.val q) _ _ false _ _ k [] 0 0 _ _ _ _ [] 0 (by rw [h];exact aW.zsc) rfl (Dp _) (iQ 12)
  |some s=>
   rw [hs] at h
   have u:=List.mem_of_find?_eq_some hs
   exact Z5 (.val q) _ _ _ true _ _ k s.nm s.u1 s.u2 _ _ _ _ (nM s.l) s.l.length (by rw [h];exact aW.refl _) rfl (Dp _) (ZG s.nm s.u1 s.u2 (w s u).2 (w s u).1 f d)
def gK (l:List Oq):List AV:=l.flatMap Dj
theorem KW (E:dY) (x:Nd) (nn:Bool) (l:List Oq) (B:1≤x.op) (t:x.op≤24) (n:Yo x) (m:l.length=fG x.op) (y:∀ o ∈ l,o.ok) (r:x.sm) (A:∀ s ∈ E.qs,s.l.length<2^40∧∀ b ∈ s.l,b.s28):
  CO 46 [agN E,.agg (zQ x),.sl (gK l) l.length nn] (.ret (fM (fE E x l))):=by
 obtain ⟨d,i,f,g,e⟩:=x
 unfold fE
 simp only at B t n m ⊢
 have j:∀ {p:Prop} [Decidable p],¬ p→lit false (decide p)=true:=fun h=>aF (decide_eq_false h)
 have zT:∀ o:Oq,o.e=0→lit false (!(o.e==((0:Nat):Int)))=true:=fun o h=>by rw [h];rfl
 have w:∀ o:Oq,¬ o.e=0→lit true (!(o.e==((0:Nat):Int)))=true:=fun o h=>by rw [show (o.e==((0:Nat):Int))=false from beq_eq_false_iff_ne.2 h];rfl
 by_cases h4:d≤4
 ·rw [if_pos h4]
  have:fG d=0:=by unfold fG;rw [if_neg (by omega),if_neg (by omega),if_neg (by omega)]
  rw [this,List.length_eq_zero_iff] at m
  subst m
  exact aeK _ i nn f g e d _ _ _ _ (aG (decide_eq_true h4)) (aeH i nn f g e d _ _ _ _ _ [] 0 (La i f g (Nat.lt_trans r.1 (by decide)) (Nat.lt_trans r.2 (by decide))))
 ·rw [if_neg h4]
  by_cases h8:d≤8
  ·rw [if_pos h8]
   have:fG d=0:=by unfold fG;rw [if_neg (by omega),if_neg (by omega),if_neg (by omega)]
   rw [this,List.length_eq_zero_iff] at m
   subst m
   refine aeL _ i nn f g e d _ _ _ _ (aG (decide_eq_true h8)) (j h4) ?_
   have u:=adn E.ls d e
   cases q:QK E.ls d e with
   |none=>
    rw [q] at u
    exact aeI i nn false f g e d _ _ _ _ _ [] 0 u rfl (Df _) (iQ 12)
   |some o=>
    rw [q] at u
    exact aeJ i nn true f g e d o _ _ _ _ [] 0 u rfl (Df _)
  ·rw [if_neg h8]
   by_cases h15:d=15
   ·have:fG d=3:=by unfold fG;rw [if_pos h15]
    rw [this] at m
    match l,m with
    | [a,b,c],_=>
     exact aeR a b c _ i nn f g e d _ _ _ _ (aG (by rw [h15];rfl)) (j h8) (j h4) (Ob d i nn f g e _ _ _ _ a b c)
   ·have k:lit false (d==((15:Nat):Int))=true:=by rw [show (d==((15:Nat):Int))=false from beq_eq_false_iff_ne.2 h15];rfl
    by_cases h19:d≤19
    ·have:fG d=2:=by unfold fG;rw [if_neg (by omega),if_pos (by omega)]
     rw [this] at m
     match l,m with
     | [a,b],_=>
      have v:=y a (by simp)
      have z:=y b (by simp)
      simp only
      by_cases za:a.e=0
      ·rw [if_pos za]
       by_cases zb:b.e=0
       ·rw [if_pos zb]
        exact aeQ a b _ i nn f g e d _ _ _ _ (zT b zb) (zT a za) k (j h8) (j h4) (VX d i nn f g e _ _ _ _ a b (by omega) v za z zb)
       ·rw [if_neg zb]
        exact aeP a b i nn f g e d _ _ _ _ (w b zb) (zT a za) k (j h8) (j h4)
      ·rw [if_neg za]
       exact aeO a b i nn f g e d _ _ _ _ (w a za) k (j h8) (j h4)
    ·have:fG d=1:=by unfold fG;rw [if_neg (by omega),if_neg (by omega),if_pos (by omega)]
     rw [this] at m
     match l,m with
     | [a],_=>
      have v:=y a (by simp)
      simp only
      by_cases za:a.e=0
      ·rw [if_pos za]
       exact aeN a _ i nn f g e d _ _ _ _ (zT a za) k (j h8) (j h4) (Og E ⟨d,i,f,g,e⟩ nn a ⟨by show 20≤d;omega,t⟩ n v za A)
      ·rw [if_neg za]
       exact aeM a i nn f g e d _ _ _ _ (w a za) k (j h8) (j h4)
theorem XJ {j:Int} {a b:Oq} (f:a.ok) (e:b.ok) (g:a.e=0) (i:b.e=0):(QZ j a b).ok:=by
 obtain ⟨q,rfl,c,m⟩:=IC f g
 obtain ⟨r,rfl,d,k⟩:=IC e i
 unfold QZ
 repeat' split
 all_goals first|exact qo (jF c d)|exact qo (qj c d)|exact qo (sQ c d)|exact (by decide:(13:Int) ≠ 0)|exact e|exact f|exact zH _|exact (by decide:(16:Int) ≠ 0)|(rename_i h;exact qo (Dk c (Nat.pos_of_ne_zero h)))
theorem acn {qs:List Sq} {g:Int} {f:List UInt8} {st:RQ} {a:Oq} (ks:st.ok) (e:a.ok) (d:a.e=0):(UC qs g f st a).ok:=by
 obtain ⟨q,rfl,c,h⟩:=IC e d
 unfold UC
 repeat' split
 all_goals first|exact zH _|exact (by decide:(13:Int) ≠ 0)|exact (by decide:(12:Int) ≠ 0)|exact aee c|exact qo (xx ks)|exact qo (JU c ks).1|exact qo (JU c ks).2
theorem afG {ls:List Lk} {d:Int} {c:List UInt8}:((QK ls d c).getD (.err 12)).ok:=by
 unfold QK
 cases ls.find? _ with
 |none=>exact (by decide:(12:Int) ≠ 0)
 |some x=>exact Dt _ _ _ _
theorem Xm {E:dY} {x:Nd} {l:List Oq} (d:∀ o ∈ l,o.ok):(fE E x l).ok:=by
 unfold fE
 split
 ·exact Dt _ _ _ _
 ·split
  ·exact afG
  ·split
   ·rename_i a
    split
    ·exact acn (lg _ _ _) (d a (by simp)) (by assumption)
    ·exact d a (by simp)
   ·rename_i a b
    split
    ·split
     ·exact XJ (d a (by simp)) (d b (by simp)) (by assumption) (by assumption)
     ·exact d b (by simp)
    ·exact d a (by simp)
   ·rename_i a b c
    unfold IY
    repeat' split
    all_goals first|exact (by decide:(13:Int) ≠ 0)|exact d _ (by simp)
   ·exact (by decide:(11:Int) ≠ 0)
end Go.Proofs.Tryz
set_option maxRecDepth 100000
open Go AM
namespace Go.Proofs.Tryz
structure Ty where
 tr:Bool
 m:Int
 d:Int
def uk (t:Ty):List AV:= [.bool t.tr,.int .i64 t.m,.int .i64 t.d]
def vG (m d:Int):Bool:=decide (-3≤m∧m≤3∧ -3≤d∧d≤3)
def kQ (t:Ty):Bool:=cond t.tr ((t.m==0) && (t.d==0)) (vG t.m t.d)
theorem X5 (t:Ty):CO 219 [.agg [.int .i64 t.m,.int .i64 t.d]] (.ret (.bool (vG t.m t.d))):=by
 rcases tf (decide ((-3:Int)≤t.m)) with b0|b0
 ·rcases tf (decide (t.m≤((3:Nat):Int))) with b1|b1
  ·rcases tf (decide ((-3:Int)≤t.d)) with b2|b2
   ·have e:vG t.m t.d=(decide (t.d≤((3:Nat):Int))):=by
     unfold vG
     simp only [decide_eq_true_eq,decide_eq_false_iff_not,beq_iff_eq,beq_eq_false_iff_ne] at*
     first|omega|(split at b0<;>omega)|(rw [Bool.eq_iff_iff];simp only [decide_eq_true_eq];first|omega|(split at b0<;>split<;>omega))
    rw [e]
    exact pK [] 3 7 (.k 1 (aG b2) (.k 1 (aG b1) (.k 1 (aG b0) (.n 1 .nil)))) (.nil)
   ·have e:vG t.m t.d=false:=by
     unfold vG
     simp only [decide_eq_true_eq,decide_eq_false_iff_not,beq_iff_eq,beq_eq_false_iff_ne] at*
     first|omega|(split at b0<;>omega)|(rw [Bool.eq_iff_iff];simp only [decide_eq_true_eq];first|omega|(split at b0<;>split<;>omega))
    rw [e]
    exact pK [] 3 3 (.c (aF b2) (.k 1 (aG b1) (.k 1 (aG b0) (.n 1 .nil)))) (.nil)
  ·have e:vG t.m t.d=false:=by
    unfold vG
    simp only [decide_eq_true_eq,decide_eq_false_iff_not,beq_iff_eq,beq_eq_false_iff_ne] at*
    first|omega|(split at b0<;>omega)|(rw [Bool.eq_iff_iff];simp only [decide_eq_true_eq];first|omega|(split at b0<;>split<;>omega))
   rw [e]
   exact pK [] 3 1 (.k 1 (aF b1) (.k 1 (aG b0) (.n 1 .nil))) (.nil)
 ·have e:vG t.m t.d=false:=by
   unfold vG
   simp only [decide_eq_true_eq,decide_eq_false_iff_not,beq_iff_eq,beq_eq_false_iff_ne] at*
   first|omega|(split at b0<;>omega)|(rw [Bool.eq_iff_iff];simp only [decide_eq_true_eq];first|omega|(split at b0<;>split<;>omega))
  rw [e]
  exact pK [] 3 0 (.k 2 (aF b0) (.n 1 .nil)) (.nil)
theorem tC (t:Ty):CO 209 [.agg (uk t)] (.ret (.bool (kQ t))):=by
 rcases tf ((t.tr==true) && ((t.m==((0:Nat):Int)) && ((t.d==((0:Nat):Int)) && true))) with b0|b0
 ·have e:kQ t=true:=by first|(simp only [kQ,b0]<;>rfl)|(unfold kQ;cases c:t.tr<;>simp_all)
  rw [e]
  exact pK [] 1 1 (.c (aG b0) (.n 3 .nil)) (.nil)
 ·rcases tf t.tr with b1|b1
  ·have e:kQ t=false:=by first|(simp only [kQ,b0,b1]<;>rfl)|(unfold kQ;cases c:t.tr<;>simp_all)
   rw [e]
   exact pK [] 2 0 (.c (a_ b1) (.k 1 (aF b0) (.n 3 .nil))) (.nil)
  ·have e:kQ t=(vG t.m t.d):=by first|(simp only [kQ,b0,b1]<;>rfl)|(unfold kQ;cases c:t.tr<;>simp_all)
   rw [e]
   exact pK [] 2 2 (.k 2 (eF b1) (.k 1 (aF b0) (.n 3 .nil))) (.c (X5 t) .nil)
structure Sg where
 op:Int
 name:List UInt8
 ty:Ty
def YR (s:Sg):List AV:= [.int .i64 s.op,.str s.name,.bool s.ty.tr,.int .i64 s.ty.m,.int .i64 s.ty.d]
def h_ (l:List Sg):List AV:=l.flatMap YR
theorem MR (x:Sg) (r:List Sg):h_ (x::r)=YR x++h_ r:=rfl
theorem acg (a b:List Sg):h_ (a++b)=h_ a++h_ b:=by unfold h_;rw [List.flatMap_append]
theorem aci (l:List Sg):(h_ l).length=l.length*5:=by
 induction l with
 |nil=>rfl
 |cons x r ih=>rw [MR,List.length_append,ih,List.length_cons];simp [YR];omega
theorem acj {p r:List Sg} {x:Sg} {k:Nat} (h:k=p.length):List.drop (Int.toNat (k:Int)*5) (h_ (p++x::r))=YR x++h_ r:=by
 subst h
 rw [aJ,acg,MR,← aci,List.drop_left]
def oz (s:Sg) (op:Int) (nm:List UInt8):Bool:=(s.op==op) && ((s.name==nm) && (rH op && (kQ s.ty && (!(op==((24:Nat):Int))|| !s.ty.tr))))
def qZ (l:List Sg) (op:Int) (nm:List UInt8):Option Ty:=(l.find? fun s=>oz s op nm).map (·.ty)
def zT:Ty:=⟨false,0,0⟩
def RD (hit:Sg→Bool) (_:Unit) (s:Sg):Unit ⊕ Option Ty:=if hit s then .inr (some s.ty) else .inl ()
theorem acd (hit:Sg→Bool) (l:List Sg):goL (RD hit) (fun _=>none) l ()=(l.find? hit).map (·.ty):=by
 induction l with
 |nil=>rfl
 |cons s r ih=>
  simp only [goL,RD,List.find?_cons]
  cases h:hit s with
  |true=>simp
  |false=>simpa using ih
def fiE:Option Ty→bJ
 |none=> .exit 0
 |some _=> .ret
def iL (l:List Int):List AV:=l.map fun a=> .int .i64 a
theorem aak {a:List Int} {i:Nat} (h:i<a.length):List.drop (Int.toNat (i:Int)*1) (iL a)= [AV.int .i64 (a.getD i 0)]++iL (a.drop (i+1)):=by
 unfold iL
 rw [aJ,Nat.mul_one,← List.map_drop,List.drop_eq_getElem_cons h,List.getD_eq_getElem?_getD,List.getElem?_eq_getElem h]
 rfl
abbrev dB (xs:List Int) (nn:Bool) (k:Nat):bi:=⟨[.sl (iL xs) xs.length nn,.int .i64 (k:Int)],0,false,0,0,true⟩
theorem Su {i:Nat} (h:i<2^62):AV.int .i64 (IntKind.wrap .i64 (((i+1:Nat):Int) - ((1:Nat):Int)))= .int .i64 (i:Int):=by rw [bF]<;>first|(congr 1;omega)|omega
theorem ani (xs:List Int) (nn:Bool) (k n:Nat) (c:lit true (decide ((xs.length:Int)≤(k:Int)))=true):aC prog ap 97 [.ptr 0 0 0,.int .i64 (n:Int)] [⟨[.sl (iL xs) xs.length nn,.int .i64 (k:Int)],0,false,0,0,true⟩] (.ret (.int .i64 0)) [⟨[.sl (iL xs) xs.length nn,.int .i64 (k:Int)],0,false,0,0,true⟩]:=pK [] 1 1 (.c c (.n 2 .nil)) (.nil)
theorem an_ {i:Nat} (h:i+1<2^63):AV.int .i64 (IntKind.wrap .i64 ((i:Int)+((1:Nat):Int)))= .int .i64 ((i+1:Nat):Int):=by rw [bF]<;>first|rfl|omega
theorem aoa {i:Nat} (h:i+1<2^63):AV.int .i64 (IntKind.wrap .i64 (((i+1:Nat):Int) - ((1:Nat):Int)))= .int .i64 (i:Int):=by rw [bF]<;>first|(congr 1;omega)|omega
theorem anj (xs:List Int) (nn:Bool) (k n r:Nat) (c:k+1<2^63) (g:List.drop ((Int.toNat (k:Int))*1) (iL xs)= [AV.int .i64 (xs.getD k 0)]++iL (xs.drop (k+1))) (h:(decide (((0:Nat):Int)≤(k:Int)))=true) (f:(decide ((k:Int)<(xs.length:Int)))=true) (d:lit false (decide ((xs.length:Int)≤(k:Int)))=true) (e:CO 65 [.int .i64 (xs.getD k 0),.int .i64 (n:Int)] (.ret (.int .i64 (r:Int)))):aC prog ap 97 [.ptr 0 0 0,.int .i64 (n:Int)] [⟨[.sl (iL xs) xs.length nn,.int .i64 (k:Int)],0,false,0,0,true⟩] (.ret (.int .i64 (r:Int))) [⟨[.sl (iL xs) xs.length nn,.int .i64 (((k+1):Nat):Int)],0,false,0,0,true⟩]:=pK [] 1 0 (.k 1 h (.c f (.k 4 d (.n 2 .nil)))) (.c e (.v 31 (.ppt g) (.v 30 (.eq (aoa c)) (.v 19 (.eq (an_ c)) .nil))))
theorem dA (xs:List Int) (nn:Bool) (k n:Nat) (i:xs.length<2^63) (g:k≤xs.length) (d:0<n) (c:n<1000):∃ r k':Nat,r<n∧k'≤xs.length∧aC prog ap 97 [.ptr 0 0 0,.int .i64 (n:Int)] [dB xs nn k] (.ret (.int .i64 (r:Int))) [dB xs nn k']:=by
 by_cases h:k<xs.length
 ·obtain ⟨r,f,e⟩:=Xf (xs.getD k 0) n d c
  exact ⟨r,k+1,f,h,anj xs nn k n r (by omega) (aak h) (decide_eq_true (by omega)) (decide_eq_true (by omega)) (by simp [lit];omega) e⟩
 ·exact ⟨0,k,d,g,ani xs nn k n (decide_eq_true (by omega))⟩
theorem ajt (x y:Nat) (c:CO 134 [.str (af x),.int .i64 3] (.ret (.tup [.int .i64 (x:Int),.bool true]))) (e:CO 134 [.str (af y),.int .i64 4] (.ret (.tup [.int .i64 (y:Int),.bool true]))) (d:CO 79 [.int .i64 (IntKind.wrap .i64 ((x:Int)*(y:Int)))] (.ret (.str (af (x*y))))):CO 100 [.str (af x),.str (af y)] (.ret (.str (af (x*y)))):=pK [] 2 3 (.n 2 .nil) (.c d (.c e (.c c .nil)))
theorem iE {x:Nat} (h:x<16777216):(af x).length≤7:=dw (by omega)
theorem ajs (x y:Nat) (g:x<65536) (e:y<65536):CO 100 [.str (af x),.str (af y)] (.ret (.str (af (x*y)))):=by
 have i:=iE (x:=x) (by omega)
 have h:=iE (x:=y) (by omega)
 have d:=gU (af x) 3 (by omega) (by omega) (by rw [aB];omega)
 have c:=gU (af y) 4 (by omega) (by omega) (by rw [aB];omega)
 rw [aB] at d c
 have j:x*y<65536*65536:=Nat.mul_lt_mul'' g e
 have f:=jQ (x*y) (by omega)
 refine ajt x y d c ?_
 rw [← Int.natCast_mul,bF (by omega) (by omega)]
 exact f
theorem akc (c:Bool) (n k:Nat) (q:RQ) (h:lit false ((af k)== [])=true) (d:CO 98 [.agg [.bool c,.str (af n),.str (af 1)]] (.ret (.agg [.bool c,.str (af n),.str (af 1)]))) (f:CO 98 [.agg [.bool false,.str (af k),.str (af 1)]] (.ret (.agg [.bool false,.str (af k),.str (af 1)]))) (g:CO 100 [.str (af n),.str (af 1)] (.ret (.str (af (n*1))))) (e:CO 100 [.str (af 1),.str (af k)] (.ret (.str (af (1*k))))) (i:CO 99 [.bool (!(c==false)),.str (af (n*1)),.str (af (1*k))] (.ret (.agg [.bool q.neg,.str (af q.n),.str (af q.d)]))):CO 60 [.agg [.bool c,.str (af n),.str (af 1)],.agg [.bool false,.str (af k),.str (af 1)]] (.ret (.tup [.agg [.bool q.neg,.str (af q.n),.str (af q.d)],.bool true])):=pK [] 1 0 (.k 10 h (.n 9 .nil)) (.c i (.c e (.c g (.c f (.c d .nil)))))
theorem vW {c:Bool} {n:Nat} (h:c=true→0<n):(⟨c,n,1⟩:RQ).ok:=⟨by simp,by simp,h⟩
theorem Dz {c:Bool} {n d:Nat} (h:(⟨c,n,d⟩:RQ).ok):vQ c (af n) (af d)=⟨c,n,d⟩:=by
 unfold vQ
 rw [if_pos (oD ⟨c,n,d⟩ h),aB,aB]
theorem aaW {k:Nat} (h:0<k):af k ≠ []:=by
 intro c
 have:=aB k
 rw [c] at this
 simp [ah] at this
 omega
theorem Me (c:Bool) (n k:Nat) (d:c=true→0<n) (j:n<65536) (p:0<k) (f:k<65536):CO 60 [qA ⟨c,n,1⟩,qA ⟨false,k,1⟩] (.ret (.tup [qA (g_ c n k),.bool true])):=by
 have t:=iE (x:=n) (by omega)
 have q:=iE (x:=k) (by omega)
 have v:=iE (x:=1) (by omega)
 have v1:=rO c (af n) (af 1) (by omega) (by omega)
 have i:=rO false (af k) (af 1) (by omega) (by omega)
 rw [Dz (vW d)] at v1
 rw [Dz (vW (by simp))] at i
 have m:=ajs n 1 j (by omega)
 have o:=ajs 1 k (by omega) f
 have u:(af (n*1)).length≤7:=iE (by omega)
 have r:(af (1*k)).length≤7:=iE (by omega)
 have g:=uZ c (n*1) (1*k) (by omega) (by omega) (by omega)
 rw [Nat.mul_one,Nat.one_mul] at g
 have e:(!(c==false))=c:=by cases c<;>rfl
 have h:=akc c n k (g_ c n k) (by rw [show (af k== [])=false by simpa using aaW p];rfl) v1 i m o
 rw [e,Nat.mul_one,Nat.one_mul] at h
 exact h g
theorem abX (x:Nat) (p:x<1000000):CO 48 [.int .i64 (-((x:Int)+1))] (.ret (Un true (x+1) 1)):=by
 have c:x<9223372036854775808:=by omega
 have k:=jQ x c
 have e:=jQ 1 (by omega)
 have o:(af x).length≤7:=dw (by omega)
 have n:(af 1).length≤7:=dw (by omega)
 have i:=gU (af x) 7 (by omega) (by omega) (by rw [aB];omega)
 have g:=gU (af 1) 7 (by omega) (by omega) (by rw [aB];omega)
 rw [aB] at i g
 have f:=agJ (af x) (af 1) x 1 (x+1)
 rw [acR (by omega)] at f
 have d:=f i g (jQ (x+1) (by omega))
 have h:=adv (-((x:Int)+1)) (x+1) x
 have m:IntKind.wrap .i64 (-((x:Int)+1)+((1:Nat):Int))= -(x:Int):=by rw [bF]<;>omega
 have j:IntKind.wrap .i64 (0 - -(x:Int))=(x:Int):=by rw [bF]<;>omega
 rw [m,j] at h
 exact h (by simp only [lit,Bool.not_eq_true'];exact decide_eq_false (by omega)) k e d e
def jY (v:Int):RQ:=⟨decide (v<0),v.natAbs,1⟩
theorem kN (v:Int) (h: -1000000≤v) (c:v≤1000000):CO 48 [.int .i64 v] (.ret (qA (jY v))):=by
 by_cases h0:0≤v
 ·obtain ⟨x,rfl⟩:∃ x:Nat,v=(x:Int):=⟨v.toNat,by omega⟩
  have:=GN x (by omega)
  unfold jY
  rw [decide_eq_false (by omega),Int.natAbs_natCast]
  exact this
 ·obtain ⟨x,rfl⟩:∃ x:Nat,v= -((x:Int)+1):=⟨(-v - 1).toNat,by omega⟩
  have:=abX x (by omega)
  unfold jY
  rw [decide_eq_true (by omega),show (-((x:Int)+1)).natAbs=x+1 by omega]
  exact this
theorem af6 (xs:List Int) (nn:Bool) (k k1 k2 r:Nat) (ls:Int) (q w:RQ) (c:aC prog ap 97 [.ptr 0 0 0,.int .i64 40] [⟨[.sl (iL xs) xs.length nn,.int .i64 (k:Int)],0,false,0,0,true⟩] (.ret (.int .i64 (r:Int))) [⟨[.sl (iL xs) xs.length nn,.int .i64 (k1:Int)],0,false,0,0,true⟩]) (e:CO 48 [.int .i64 (IntKind.wrap .i64 (ls+(r:Int)))] (.ret (.agg [.bool q.neg,.str (af q.n),.str (af q.d)]))) (f:aC prog ap 97 [.ptr 0 0 0,.int .i64 4] [⟨[.sl (iL xs) xs.length nn,.int .i64 (k1:Int)],0,false,0,0,true⟩] (.ret (.int .i64 0)) [⟨[.sl (iL xs) xs.length nn,.int .i64 (k2:Int)],0,false,0,0,true⟩]) (d:CO 48 [.int .i64 1] (.ret (.agg [.bool false,.str (af 1),.str (af 1)]))) (g:CO 60 [.agg [.bool q.neg,.str (af q.n),.str (af q.d)],.agg [.bool false,.str (af 1),.str (af 1)]] (.ret (.tup [.agg [.bool w.neg,.str (af w.n),.str (af w.d)],.bool true]))):aC prog ap 147 [.ptr 0 0 0,.int .i64 ls] [⟨[.sl (iL xs) xs.length nn,.int .i64 (k:Int)],0,false,0,0,true⟩] (.ret (.agg [.bool w.neg,.str (af w.n),.str (af w.d)])) [⟨[.sl (iL xs) xs.length nn,.int .i64 (k2:Int)],0,false,0,0,true⟩]:=pK [] 0 0 (.n 11 .nil) (.c g (.c d (.c f (.c e (.c c .nil)))))
theorem af7 (xs:List Int) (nn:Bool) (k k1 k2 r:Nat) (ls:Int) (q w:RQ) (c:aC prog ap 97 [.ptr 0 0 0,.int .i64 40] [⟨[.sl (iL xs) xs.length nn,.int .i64 (k:Int)],0,false,0,0,true⟩] (.ret (.int .i64 (r:Int))) [⟨[.sl (iL xs) xs.length nn,.int .i64 (k1:Int)],0,false,0,0,true⟩]) (e:CO 48 [.int .i64 (IntKind.wrap .i64 (ls+(r:Int)))] (.ret (.agg [.bool q.neg,.str (af q.n),.str (af q.d)]))) (f:aC prog ap 97 [.ptr 0 0 0,.int .i64 4] [⟨[.sl (iL xs) xs.length nn,.int .i64 (k1:Int)],0,false,0,0,true⟩] (.ret (.int .i64 1)) [⟨[.sl (iL xs) xs.length nn,.int .i64 (k2:Int)],0,false,0,0,true⟩]) (d:CO 48 [.int .i64 1] (.ret (.agg [.bool false,.str (af 1),.str (af 1)]))) (g:CO 60 [.agg [.bool q.neg,.str (af q.n),.str (af q.d)],.agg [.bool false,.str (af 1),.str (af 1)]] (.ret (.tup [.agg [.bool w.neg,.str (af w.n),.str (af w.d)],.bool true]))):aC prog ap 147 [.ptr 0 0 0,.int .i64 ls] [⟨[.sl (iL xs) xs.length nn,.int .i64 (k:Int)],0,false,0,0,true⟩] (.ret (.agg [.bool w.neg,.str (af w.n),.str (af w.d)])) [⟨[.sl (iL xs) xs.length nn,.int .i64 (k2:Int)],0,false,0,0,true⟩]:=pK [] 0 0 (.n 11 .nil) (.c g (.c d (.c f (.c e (.c c .nil)))))
theorem af8 (xs:List Int) (nn:Bool) (k k1 k2 r:Nat) (ls:Int) (q w:RQ) (c:aC prog ap 97 [.ptr 0 0 0,.int .i64 40] [⟨[.sl (iL xs) xs.length nn,.int .i64 (k:Int)],0,false,0,0,true⟩] (.ret (.int .i64 (r:Int))) [⟨[.sl (iL xs) xs.length nn,.int .i64 (k1:Int)],0,false,0,0,true⟩]) (e:CO 48 [.int .i64 (IntKind.wrap .i64 (ls+(r:Int)))] (.ret (.agg [.bool q.neg,.str (af q.n),.str (af q.d)]))) (f:aC prog ap 97 [.ptr 0 0 0,.int .i64 4] [⟨[.sl (iL xs) xs.length nn,.int .i64 (k1:Int)],0,false,0,0,true⟩] (.ret (.int .i64 2)) [⟨[.sl (iL xs) xs.length nn,.int .i64 (k2:Int)],0,false,0,0,true⟩]) (d:CO 48 [.int .i64 2] (.ret (.agg [.bool false,.str (af 2),.str (af 1)]))) (g:CO 60 [.agg [.bool q.neg,.str (af q.n),.str (af q.d)],.agg [.bool false,.str (af 2),.str (af 1)]] (.ret (.tup [.agg [.bool w.neg,.str (af w.n),.str (af w.d)],.bool true]))):aC prog ap 147 [.ptr 0 0 0,.int .i64 ls] [⟨[.sl (iL xs) xs.length nn,.int .i64 (k:Int)],0,false,0,0,true⟩] (.ret (.agg [.bool w.neg,.str (af w.n),.str (af w.d)])) [⟨[.sl (iL xs) xs.length nn,.int .i64 (k2:Int)],0,false,0,0,true⟩]:=pK [] 0 0 (.n 11 .nil) (.c g (.c d (.c f (.c e (.c c .nil)))))
theorem af9 (xs:List Int) (nn:Bool) (k k1 k2 r:Nat) (ls:Int) (q w:RQ) (c:aC prog ap 97 [.ptr 0 0 0,.int .i64 40] [⟨[.sl (iL xs) xs.length nn,.int .i64 (k:Int)],0,false,0,0,true⟩] (.ret (.int .i64 (r:Int))) [⟨[.sl (iL xs) xs.length nn,.int .i64 (k1:Int)],0,false,0,0,true⟩]) (e:CO 48 [.int .i64 (IntKind.wrap .i64 (ls+(r:Int)))] (.ret (.agg [.bool q.neg,.str (af q.n),.str (af q.d)]))) (f:aC prog ap 97 [.ptr 0 0 0,.int .i64 4] [⟨[.sl (iL xs) xs.length nn,.int .i64 (k1:Int)],0,false,0,0,true⟩] (.ret (.int .i64 3)) [⟨[.sl (iL xs) xs.length nn,.int .i64 (k2:Int)],0,false,0,0,true⟩]) (d:CO 48 [.int .i64 10] (.ret (.agg [.bool false,.str (af 10),.str (af 1)]))) (g:CO 60 [.agg [.bool q.neg,.str (af q.n),.str (af q.d)],.agg [.bool false,.str (af 10),.str (af 1)]] (.ret (.tup [.agg [.bool w.neg,.str (af w.n),.str (af w.d)],.bool true]))):aC prog ap 147 [.ptr 0 0 0,.int .i64 ls] [⟨[.sl (iL xs) xs.length nn,.int .i64 (k:Int)],0,false,0,0,true⟩] (.ret (.agg [.bool w.neg,.str (af w.n),.str (af w.d)])) [⟨[.sl (iL xs) xs.length nn,.int .i64 (k2:Int)],0,false,0,0,true⟩]:=pK [] 0 0 (.n 11 .nil) (.c g (.c d (.c f (.c e (.c c .nil)))))
theorem uS (c:Bool) (n d:Nat):(g_ c n d).n≤n∧(g_ c n d).d≤d:=⟨Nat.div_le_self _ _,Nat.div_le_self _ _⟩
theorem u_ (xs:List Int) (nn:Bool) (k:Nat) (z:xs.length<2^63) (B:k≤xs.length) (ls:Int) (F: -8≤ls) (H:ls≤1):∃ (w:RQ) (k':Nat),k'≤xs.length∧w.ok∧w.n<64∧w.d<64∧(ls=1→w.neg=false∧0<w.n)∧aC prog ap 147 [.ptr 0 0 0,.int .i64 ls] [dB xs nn k] (.ret (qA w)) [dB xs nn k']:=by
 obtain ⟨r,k1,G,v,p⟩:=dA xs nn k 40 z B (by omega) (by omega)
 obtain ⟨s,k2,hs,e,u⟩:=dA xs nn k1 4 z v (by omega) (by omega)
 have m:IntKind.wrap .i64 (ls+(r:Int))=ls+(r:Int):=bF (by omega) (by omega)
 have n:=kN (ls+(r:Int)) (by omega) (by omega)
 rw [← m] at n
 have c:(jY (ls+(r:Int))).neg=true→0<(jY (ls+(r:Int))).n:=by
  intro h;simp only [jY,decide_eq_true_eq] at h ⊢;omega
 have y:(jY (ls+(r:Int))).d=1:=rfl
 have E:(jY (ls+(r:Int))).n<64:=by simp only [jY];omega
 have hp:ls=1→(jY (ls+(r:Int))).neg=false∧0<(jY (ls+(r:Int))).n:=by
  intro h;simp only [jY,decide_eq_false_iff_not];omega
 rw [m] at n
 generalize jY (ls+(r:Int))=q at*
 have t:∀ d,0<d→d<64→(g_ q.neg q.n d).ok∧(g_ q.neg q.n d).n<64∧(g_ q.neg q.n d).d<64∧(ls=1→(g_ q.neg q.n d).neg=false∧0<(g_ q.neg q.n d).n):=by
  intro d hd D
  have I:=uS q.neg q.n d
  refine ⟨ny hd,by omega,by omega,fun h=> ?_⟩
  obtain ⟨C,A⟩:=hp h
  refine ⟨by simp [g_,C], ?_⟩
  exact Nat.div_pos (Nat.gcd_le_left _ A) (Nat.gcd_pos_of_pos_left _ A)
 have o:qA q=qA ⟨q.neg,q.n,1⟩:=by unfold qA;rw [y]
 have this:s=0∨s=1∨s=2∨s=3:=by omega
 rcases this with rfl|rfl|rfl|rfl
 ·obtain ⟨i,j,f,g⟩:=t 1 (by omega) (by omega)
  exact ⟨_,k2,e,i,j,f,g,af6 xs nn k k1 k2 r ls q _ p (by rw [m];exact n) u (kN 1 (by decide) (by decide)) (by have h:=Me q.neg q.n 1 c (by omega) (by omega) (by omega);rw [← o] at h;exact h)⟩
 ·obtain ⟨i,j,f,g⟩:=t 1 (by omega) (by omega)
  exact ⟨_,k2,e,i,j,f,g,af7 xs nn k k1 k2 r ls q _ p (by rw [m];exact n) u (kN 1 (by decide) (by decide)) (by have h:=Me q.neg q.n 1 c (by omega) (by omega) (by omega);rw [← o] at h;exact h)⟩
 ·obtain ⟨i,j,f,g⟩:=t 2 (by omega) (by omega)
  exact ⟨_,k2,e,i,j,f,g,af8 xs nn k k1 k2 r ls q _ p (by rw [m];exact n) u (kN 2 (by decide) (by decide)) (by have h:=Me q.neg q.n 2 c (by omega) (by omega) (by omega);rw [← o] at h;exact h)⟩
 ·obtain ⟨i,j,f,g⟩:=t 10 (by omega) (by omega)
  exact ⟨_,k2,e,i,j,f,g,af9 xs nn k k1 k2 r ls q _ p (by rw [m];exact n) u (kN 10 (by decide) (by decide)) (by have h:=Me q.neg q.n 10 c (by omega) (by omega) (by omega);rw [← o] at h;exact h)⟩
end Go.Proofs.Tryz
set_option maxRecDepth 100000
set_option linter.unusedVariables false
open Go AM
namespace Go.Proofs.Tryz
def tL (l:List (Int × Int × Int)):List AV:=l.flatMap fun q=> [.int .i64 q.1,.int .i64 q.2.1,.int .i64 q.2.2]
theorem ak2 {l:List (Int × Int × Int)} {k:Nat} (h:k<l.length):List.drop (Int.toNat (k:Int)*3) (tL l)= [AV.int .i64 l[k].1,.int .i64 l[k].2.1,.int .i64 l[k].2.2]++tL (l.drop (k+1)):=by
 rw [aJ]
 exact vV (fun q:Int × Int × Int=> [AV.int .i64 q.1,.int .i64 q.2.1,.int .i64 q.2.2]) 3 (fun _=>rfl) h
def LQ (a:Int) (n:Nat):Nat:=(a % (n:Int)).toNat
theorem Di {a:Int} {n:Nat} (h:0<n):LQ a n<n:=by
 unfold LQ
 have d:=Int.emod_nonneg a (b:=(n:Int)) (by omega)
 have c:=Int.emod_lt_of_pos a (b:=(n:Int)) (by omega)
 omega
theorem aji (a n:Int) (d:lit true (decide ((Int.tmod a n)<((0:Nat):Int)))=true) (c:(!(n==((0:Nat):Int)))=true):CO 61 [.int .i64 a,.int .i64 n] (.ret (.int .i64 (IntKind.wrap .i64 ((Int.tmod a n)+n)))):=pK [] 1 1 (.c d (.c c .nil)) (.nil)
theorem ajj (a n:Int) (d:lit false (decide ((Int.tmod a n)<((0:Nat):Int)))=true) (c:(!(n==((0:Nat):Int)))=true):CO 61 [.int .i64 a,.int .i64 n] (.ret (.int .i64 (Int.tmod a n))):=pK [] 1 0 (.c d (.c c .nil)) (.nil)
theorem Dh (a:Int) (n:Nat) (o:0<n) (i:n≤4611686018427387904):CO 61 [.int .i64 a,.int .i64 (n:Int)] (.ret (.int .i64 ((LQ a n:Nat):Int))):=by
 have c:(!((n:Int)==((0:Nat):Int)))=true:=by
  rw [beq_eq_false_iff_ne.2 (by omega)];rfl
 have m:=Int.tmod_lt_of_pos a (b:=(n:Int)) (by omega)
 have j: -(n:Int)<Int.tmod a n:=by
  have:=Int.tmod_lt_of_pos (-a) (b:=(n:Int)) (by omega)
  rw [Int.neg_tmod] at this
  omega
 have g:=Int.emod_nonneg a (b:=(n:Int)) (by omega)
 have k:=Int.emod_lt_of_pos a (b:=(n:Int)) (by omega)
 have d:Int.tmod a n % (n:Int)=a % (n:Int):=by
  have e:=Int.mul_tdiv_add_tmod a (n:Int)
  have:a=Int.tmod a n+(n:Int)*(Int.tdiv a n):=by omega
  conv=>rhs;rw [this,Int.add_mul_emod_self_left]
 have f:((LQ a n:Nat):Int)=a % (n:Int):=Int.toNat_of_nonneg g
 rw [f]
 by_cases h:Int.tmod a n<0
 ·have hp:=aji a n (by simpa [lit] using h) c
  have e:IntKind.wrap .i64 (Int.tmod a n+(n:Int))=a % (n:Int):=by
   rw [bF (by omega) (by omega)]
   rw [← d,← Int.add_emod_right,Int.emod_eq_of_lt (by omega) (by omega)]
  rw [e] at hp
  exact hp
 ·have hp:=ajj a n (by simp only [lit,Bool.not_eq_true',decide_eq_false_iff_not];exact h) c
  have e:Int.tmod a n=a % (n:Int):=by rw [← d,Int.emod_eq_of_lt (by omega) (by omega)]
  rw [e] at hp
  exact hp
def EW (b:RQ × RQ):Br:=⟨b.1.neg,af b.1.n,af b.1.d,b.2.neg,af b.2.n,af b.2.d⟩
theorem QP:∀ l:List (RQ × RQ),nM (l.map EW)=x_ l
 | []=>rfl
 |b::l=>by
  show SN (EW b)++nM (l.map EW)=P6 b++x_ l
  rw [QP l];rfl
theorem IR (l:List (RQ × RQ)):(x_ l).length=l.length*6:=oh P6 6 (fun _=>rfl) l
def Gu (B:Nat) (q:RQ):Prop:=q.ok∧q.n<2^B∧q.d<2^B
theorem adZ (a b:RQ):(iV a b).n≤a.n*b.d+b.n*a.d∧(iV a b).d≤a.d*b.d:=by
 unfold iV
 split
 ·have:=uS a.neg (a.n*b.d+b.n*a.d) (a.d*b.d);exact this
 ·split
  ·have:=uS a.neg (a.n*b.d - b.n*a.d) (a.d*b.d);exact ⟨by omega,this.2⟩
  ·have:=uS b.neg (b.n*a.d - a.n*b.d) (a.d*b.d);exact ⟨by omega,this.2⟩
theorem dX {x B:Nat} (h:x<2^B) (c:B≤200):(af x).length<2^28:=Nat.lt_of_le_of_lt (dw (k:=25) (Nat.lt_of_lt_of_le h (Nat.pow_le_pow_right (by decide) (by omega)))) (by decide)
theorem og {q:RQ} {B:Nat} (h:Gu B q) (c:B≤200):jM q=true:=by
 unfold jM
 rw [decide_eq_true (Nat.le_trans (jf h.2.1) (by omega)),decide_eq_true (Nat.le_trans (jf h.2.2) (by omega))];rfl
theorem Iy:∀ (l:List (RQ × RQ)) (a b:RQ × RQ),jU (l++ [a])→a.1.rt<b.1.rt→jU (l++ [a]++ [b])
 | [],a,b,_,h=> ⟨h,True.intro⟩
 | [x],a,b,hs,h=> ⟨hs.1,h,True.intro⟩
 |x::y::l,a,b,hs,h=> ⟨hs.1,Iy (y::l) a b hs.2 h⟩
theorem Iu:∀ (l:List (RQ × RQ)) (a:RQ × RQ),jU (l++ [a])→jU l
 | [],a,_=>True.intro
 | [x],a,_=>True.intro
 |x::y::l,a,hs=> ⟨hs.1,Iu (y::l) a hs.2⟩
theorem Iw:∀ (l:List (RQ × RQ)) (f r s:RQ),jU (l++ [(f,r)])→jU (l++ [(f,s)])
 | [],_,_,_,_=>True.intro
 | [x],_,_,_,hs=> ⟨hs.1,True.intro⟩
 |x::y::l,f,r,s,hs=> ⟨hs.1,Iw (y::l) f r s hs.2⟩
theorem Vd:∀ (l:List (RQ × RQ)) (b:RQ × RQ),(∀ x ∈ b::l,x.1.ok)→jU (b::l)→Gy pg (EW b) (l.map EW)=true
 | [],_,_,_=>rfl
 | c::l,b,ho,hs=>by
  have d:=ho b (by simp)
  have e:=ho c (by simp)
  show Gy pg (EW b) (EW c::l.map EW)=true
  unfold Gy
  have:pg (EW b) (EW c)<0:=by
   show lD (vQ b.1.neg (af b.1.n) (af b.1.d)) (vQ c.1.neg (af c.1.n) (af c.1.d))<0
   rw [kU d,kU e]
   exact (CY d e).1.2 hs.1
  rw [decide_eq_false (by omega)]
  exact Vd l c (fun x f=>ho x (by simp [f])) hs.2
theorem Uy:rU false (af 0) (af 1)=0:=by
 rw [dI];rfl
theorem aaK {c:RQ} {l:List (RQ × RQ)} (m:l.length≤7) (h:∀ x ∈ (q0,c)::l,Gu 200 x.1∧Gu 200 x.2) (hs:jU ((q0,c)::l)):NC pg (((q0,c)::l).map EW)=0:=by
 have i:(((q0,c)::l).map EW).all mQ=true:=by
  rw [List.all_map,List.all_eq_true]
  intro x e
  obtain ⟨g,f⟩:=h x e
  show (iU x.1.neg (af x.1.n) (af x.1.d) && iU x.2.neg (af x.2.n) (af x.2.d))=true
  rw [oD _ g.1,oD _ f.1];rfl
 have k:(((q0,c)::l).map EW).all Le=true:=by
  rw [List.all_map,List.all_eq_true]
  intro x e
  obtain ⟨g,f⟩:=h x e
  show (fA x.1.neg (af x.1.n) (af x.1.d) && fA x.2.neg (af x.2.n) (af x.2.d))=true
  rw [uJ g.1,uJ f.1,og g (by omega),og f (by omega)];rfl
 unfold NC
 have d:(((q0,c)::l).map EW).length=l.length+1:=by simp
 rw [d,decide_eq_false (by omega),show (((l.length+1:Nat):Int)==((0:Nat):Int))=false from beq_eq_false_iff_ne.2 (by omega)]
 have j:=Vd l (q0,c) (fun x e=>(h x e).1.1) hs
 rw [IM,k]
 show cond (He pg none (EW (q0,c)::l.map EW)) _ _=_
 rw [Kv,j]
 have i:(EW (q0,c)::l.map EW).all mQ=true:=i
 rw [i]
 have:rU (EW (q0,c)).fn (EW (q0,c)).fa (EW (q0,c)).fd=0:=by simp only [EW,q0];exact Uy
 rw [this];rfl
theorem Xb (q:Int × Int × Int) {f:RQ} {B:Nat} (d:Gu B f) (T:B≤180):∃ (u v s t:Nat) (w1 w2 w3 w4 r1 r2 f2:RQ),CO 61 [.int .i64 q.1,.int .i64 61] (.ret (.int .i64 (u:Int)))∧CO 48 [.int .i64 (IntKind.wrap .i64 ((u:Int) - ((10:Nat):Int)))] (.ret (.agg [.bool w1.neg,.str (af w1.n),.str (af w1.d)]))∧CO 61 [.int .i64 q.2.2,.int .i64 3] (.ret (.int .i64 (v:Int)))∧CO 48 [.int .i64 (IntKind.wrap .i64 ((IntKind.wrap .i64 ((v:Int)*((30:Nat):Int)))+((20:Nat):Int)))] (.ret (.agg [.bool w2.neg,.str (af w2.n),.str (af w2.d)]))∧CO 60 [.agg [.bool w1.neg,.str (af w1.n),.str (af w1.d)],.agg [.bool w2.neg,.str (af w2.n),.str (af w2.d)]] (.ret (.tup [.agg [.bool r1.neg,.str (af r1.n),.str (af r1.d)],.bool true]))∧CO 61 [.int .i64 q.2.1,.int .i64 40] (.ret (.int .i64 (s:Int)))∧CO 48 [.int .i64 (IntKind.wrap .i64 ((s:Int)+((1:Nat):Int)))] (.ret (.agg [.bool w3.neg,.str (af w3.n),.str (af w3.d)]))∧CO 61 [.int .i64 q.2.2,.int .i64 4] (.ret (.int .i64 (t:Int)))∧CO 48 [.int .i64 (IntKind.wrap .i64 ((t:Int)+((1:Nat):Int)))] (.ret (.agg [.bool w4.neg,.str (af w4.n),.str (af w4.d)]))∧CO 60 [.agg [.bool w3.neg,.str (af w3.n),.str (af w3.d)],.agg [.bool w4.neg,.str (af w4.n),.str (af w4.d)]] (.ret (.tup [.agg [.bool r2.neg,.str (af r2.n),.str (af r2.d)],.bool true]))∧CO 62 [.agg [.bool f.neg,.str (af f.n),.str (af f.d)],.agg [.bool r2.neg,.str (af r2.n),.str (af r2.d)]] (.ret (.agg [.bool f2.neg,.str (af f2.n),.str (af f2.d)]))∧Gu 16 r1∧Gu (B+16) f2∧f.rt<f2.rt:=by
 have R:=Di (a:=q.1) (n:=61) (by omega)
 have O:=Di (a:=q.2.2) (n:=3) (by omega)
 have hs:=Di (a:=q.2.1) (n:=40) (by omega)
 have S:=Di (a:=q.2.2) (n:=4) (by omega)
 have J:=Dh q.1 61 (by omega) (by omega)
 have E:=Dh q.2.2 3 (by omega) (by omega)
 have C:=Dh q.2.1 40 (by omega) (by omega)
 have A:=Dh q.2.2 4 (by omega) (by omega)
 generalize LQ q.1 61=u at*
 generalize LQ q.2.2 3=v at*
 generalize LQ q.2.1 40=s at*
 generalize LQ q.2.2 4=t at*
 have M:IntKind.wrap .i64 ((u:Int) - ((10:Nat):Int))=(u:Int) - 10:=bF (by omega) (by omega)
 have H:IntKind.wrap .i64 ((v:Int)*((30:Nat):Int))=((v*30:Nat):Int):=(bF (by omega) (by omega)).trans (by omega)
 have G:IntKind.wrap .i64 (((v*30:Nat):Int)+((20:Nat):Int))=((v*30+20:Nat):Int):=(bF (by omega) (by omega)).trans (by omega)
 have z:IntKind.wrap .i64 ((s:Int)+((1:Nat):Int))=((s+1:Nat):Int):=(bF (by omega) (by omega)).trans (by omega)
 have y:IntKind.wrap .i64 ((t:Int)+((1:Nat):Int))=((t+1:Nat):Int):=(bF (by omega) (by omega)).trans (by omega)
 have F:=kN ((u:Int) - 10) (by omega) (by omega)
 have e:(jY ((u:Int) - 10)).neg=true→0<(jY ((u:Int) - 10)).n:=by
  intro h;simp only [jY,decide_eq_true_eq] at h ⊢;omega
 have D:(jY ((u:Int) - 10)).n<64:=by simp only [jY];omega
 have hd:(jY ((u:Int) - 10)).d=1:=rfl
 generalize jY ((u:Int) - 10)=w at*
 obtain ⟨i,j,P⟩:=w
 simp only at e D hd
 subst hd
 have k1:=Me i j (v*30+20) e (by omega) (by omega) (by omega)
 have k2:=Me false (s+1) (t+1) (by simp) (by omega) (by omega) (by omega)
 have Q:=uS i j (v*30+20)
 have N:=uS false (s+1) (t+1)
 have p:(g_ i j (v*30+20)).ok:=ny (by omega)
 have g:(g_ false (s+1) (t+1)).ok:=ny (by omega)
 have a:=adZ f (g_ false (s+1) (t+1))
 have hp:0<(g_ false (s+1) (t+1)).rt:=by
  rw [JO _ _ _ (by omega)]
  have o:(0:Rat)<((s+1:Nat):Rat):=by exact_mod_cast Nat.succ_pos s
  have r:(0:Rat)<((t+1:Nat):Rat):=by exact_mod_cast Nat.succ_pos t
  have K:(0:Rat)<((s+1:Nat):Rat) / ((t+1:Nat):Rat):=by rw [Rat.div_def];exact Rat.mul_pos o (Rat.inv_pos.2 r)
  simp only [Bool.false_eq_true,if_false]
  grind
 have k:=XX d.1 g
 have c:=abn f.neg (g_ false (s+1) (t+1)).neg (af f.n) (af f.d) (af (g_ false (s+1) (t+1)).n) (af (g_ false (s+1) (t+1)).d)
  (Nat.lt_trans (dX d.2.1 (by omega)) (by decide)) (Nat.lt_trans (dX d.2.2 (by omega)) (by decide)) (Nat.lt_trans (dX (B:=16) (by omega) (by omega)) (by decide)) (Nat.lt_trans (dX (B:=16) (by omega) (by omega)) (by decide))
 rw [kU d.1,kU g] at c
 have m:=jF d.1 g
 generalize g_ i j (v*30+20)=r1 at*
 generalize g_ false (s+1) (t+1)=r2 at*
 generalize iV f r2=f2 at*
 refine ⟨u,v,s,t,⟨i,j,1⟩,⟨false,v*30+20,1⟩,⟨false,s+1,1⟩,⟨false,t+1,1⟩,r1,r2,f2,J, ?_,E, ?_,k1,C, ?_,A, ?_,k2,c,⟨p,by omega,by omega⟩,⟨m, ?_, ?_⟩,by rw [k];grind⟩
 ·rw [M];exact F
 ·rw [H,G];exact GN _ (by omega)
 ·rw [z];exact GN _ (by omega)
 ·rw [y];exact GN _ (by omega)
 ·have o:f.n*r2.d≤f.n*64:=Nat.mul_le_mul_left _ (by omega)
  have r:r2.n*f.d≤64*f.d:=Nat.mul_le_mul_right _ (by omega)
  have K:=d.2.1
  have I:=d.2.2
  rw [Nat.pow_add]
  omega
 ·have o:f.d*r2.d≤f.d*64:=Nat.mul_le_mul_left _ (by omega)
  have I:=d.2.2
  rw [Nat.pow_add]
  omega
def m6E (bs:List (RQ × RQ)):AV:=match bs with| []=> .nilS|_::_=> .ref 3 0 0 bs.length
def m6H (bs:List (RQ × RQ)):Hp:=match bs with| []=> []|_::_=> [(3,⟨x_ bs,0,false,0,6,true⟩)]
def m6P (bs:List (RQ × RQ)):Bool:=match bs with| []=>true|_::_=>false
def m6S (ts:List (Int × Int × Int)) (nn:Bool) (p:List (RQ × RQ) × RQ):St:=⟨[(0,.sl (tL ts) ts.length nn),(2,.ptr 0 0 0),(3,.ptr 1 0 0),(4,.ptr 2 0 0),(5,.int .i64 (p.1.length:Int))],[(0,⟨[.str [],.int .i64 0,.int .i64 0,.nilS],0,false,0,0,true⟩),(1,⟨[.str zcc3_3,.int .i64 1,.int .i64 0,m6E p.1],0,false,0,0,m6P p.1⟩),(2,⟨[.bool p.2.neg,.str (af p.2.n),.str (af p.2.d)],0,false,0,0,true⟩)]++m6H p.1,.dead,[]⟩
abbrev m6O (bs:List (RQ × RQ)):St:=⟨[(2,.ptr 0 0 0),(3,.ptr 1 0 0)],[(0,⟨[.str [],.int .i64 0,.int .i64 0,.nilS],0,false,0,0,true⟩),(1,⟨[.str zcc3_3,.int .i64 1,.int .i64 0,.ref 2 0 0 bs.length],0,false,0,0,false⟩),(2,⟨x_ bs,0,false,0,6,true⟩)],.dead,[]⟩
theorem EO (ts:List (Int × Int × Int)) (nn:Bool) (bs:List (RQ × RQ)) (f:RQ) (h:bs ≠ []):m6S ts nn (bs,f)=⟨[(0,.sl (tL ts) ts.length nn),(2,.ptr 0 0 0),(3,.ptr 1 0 0),(4,.ptr 2 0 0),(5,.int .i64 (bs.length:Int))],[(0,⟨[.str [],.int .i64 0,.int .i64 0,.nilS],0,false,0,0,true⟩),(1,⟨[.str zcc3_3,.int .i64 1,.int .i64 0,.ref 3 0 0 bs.length],0,false,0,0,false⟩),(2,⟨[.bool f.neg,.str (af f.n),.str (af f.d)],0,false,0,0,true⟩),(3,⟨x_ bs,0,false,0,6,true⟩)],.dead,[]⟩:=by
 cases bs with
 |nil=>exact absurd rfl h
 |cons a r=>rfl
theorem Za (bs:List (RQ × RQ)) (f r:RQ):List.take (bs.length*6) (x_ bs)++ [.bool f.neg,.str (af f.n),.str (af f.d),.bool r.neg,.str (af r.n),.str (af r.d)]=x_ (bs++ [(f,r)]):=by
 rw [List.take_of_length_le (by rw [IR];exact Nat.le_refl _)]
 unfold x_;rw [List.flatMap_append];rfl
theorem Xc (ts:List (Int × Int × Int)) (nn:Bool) (bs:List (RQ × RQ)) {f:RQ} {B:Nat} (H:Gu B f) (N:B≤180) (J:bs.length<ts.length) (V:bs.length<8):
  ∃ e c,Gu 16 e∧Gu (B+16) c∧f.rt<c.rt∧∀ nt,78≤nt→ax prog ap [] nt (ag 0 (ai f30)) (m6S ts nn (bs,f)) .normal (m6S ts nn (bs++ [(f,e)],c)):=by
 have h:=ak2 J
 generalize ts[bs.length]=q at h
 obtain ⟨u,v,s,t,S,Q,U,R,e,T,c,E,G,F,D,y,o,A,z,p,C,g,M,O,I⟩:=Xb q H N
 refine ⟨e,c,M,O,I,fun nt w=> ?_⟩
 have d:decide ((bs.length:Int)<(ts.length:Int))=true:=decide_eq_true (by omega)
 have j:decide ((bs.length:Int)<((8:Nat):Int))=true:=decide_eq_true (by omega)
 have n:AV.int .i64 (IntKind.wrap .i64 ((bs.length:Int)+((1:Nat):Int)))=AV.int .i64 ((bs.length+1:Nat):Int):=CG (by omega)
 have i:=d
 rw [EO ts nn (bs++ [(f,e)]) c (by simp),List.length_append,List.length_singleton]
 have P:Nat.ble (bs.length+1) 1099511627776=true:=Nat.ble_eq_true_of_le (by omega)
 have K:Nat.ble (bs.length*6) (List.length (x_ bs))=true:=Nat.ble_eq_true_of_le (by rw [IR];exact Nat.le_refl _)
 rw [← Za]
 cases m:bs with
 |nil=>
  rw [m] at d j n i h
  exact pN 30 [] 5 15 (.k 36 (nS 0) (.c i (.c (aG d) (.k 2 (aG j) (.c (aG d) .nil))))) (.v 27 (.eq n) (.c g (.c C (.c p (.c z (.c A (.c o (.c y (.c D (.c F (.c G (.c E (.v 35 (.ppt h) .nil))))))))))))) w
 |cons a r=>
  rw [← m,EO ts nn bs f (by rw [m];simp)]
  generalize bs.length=k at*
  exact pN 30 [] 4 15 (.k 16 P (.c K (.k 19 (nS k) (.c i (.c (aG d) (.k 2 (aG j) (.c (aG d) .nil))))))) (.v 27 (.eq n) (.c g (.c C (.c p (.c z (.c A (.c o (.c y (.c D (.c F (.c G (.c E (.v 35 (.ppt h) .nil))))))))))))) w
theorem aaJ (ts:List (Int × Int × Int)) (nn:Bool) (J:ts.length≤8):∀ (d:Nat) (bs:List (RQ × RQ)) (f j:RQ),bs.length+d=ts.length→0<ts.length→Gu (16*(bs.length+1)) f→(∀ x ∈ bs,Gu 200 x.1∧Gu 200 x.2)→jU (bs++ [(f,j)])→(bs.map (·.1)++ [f]).head? =some q0→
  ∃ c:List (RQ × RQ),c.length=ts.length∧(∀ x ∈ c,Gu 200 x.1∧Gu 200 x.2)∧jU c∧(c.map (·.1)).head? =some q0∧∀ nt,78≤nt→aI prog ap [] nt (ag 0 (ai f30)) (fun _=> .exit 0) (m6S ts nn) m6O (bs,f) c:=by
 intro d
 induction d with
 | zero=>
  intro bs f j hd t m n hs g
  refine ⟨bs,by omega,n,Iu _ _ hs, ?_,fun nt i=> ?_⟩
  ·cases bs with
   |nil=>simp at hd;omega
   |cons a r=>simpa using g
  ·refine .done ?_
   have k:bs ≠ []:=by intro h;rw [h] at hd;simp at hd;omega
   have y:decide ((bs.length:Int)<(ts.length:Int))=false:=decide_eq_false (by omega)
   have u:((bs.length:Int)==((0:Nat):Int))=false:=beq_eq_false_iff_ne.2 (by omega)
   rw [EO ts nn bs f k]
   exact pN 30 [] 3 0 (.c (aF u) (.k 1 (aF y) .nil)) (.nil) i
 | succ d ih=>
  intro bs f j hd t m n hs g
  obtain ⟨v,C,D,H,B,E⟩:=Xc ts nn bs m (by omega) (by omega) (by omega)
  have p:∀ {A:Nat} {q:RQ},Gu A q→A≤200→Gu 200 q:=fun h o=> ⟨h.1,Nat.lt_of_lt_of_le h.2.1 (Nat.pow_le_pow_right (by decide) o),Nat.lt_of_lt_of_le h.2.2 (Nat.pow_le_pow_right (by decide) o)⟩
  obtain ⟨c,z,F,G,w,I⟩:=ih (bs++ [(f,v)]) C j (by simp;omega) t (by
   rw [List.length_append,List.length_singleton,show 16*(bs.length+1+1)=16*(bs.length+1)+16 by omega];exact H) (by
   intro x e
   rcases List.mem_append.1 e with e|e
   ·exact n x e
   ·rw [List.mem_singleton] at e
    subst e
    exact ⟨p m (by omega),p D (by omega)⟩) (Iy _ _ _ (Iw _ _ _ _ hs) B) (by
   rw [List.map_append]
   cases bs with
   |nil=>exact g
   |cons a r=>exact g)
  exact ⟨c,z,F,G,w,fun nt i=> .next (E nt i) (I nt i)⟩
theorem ajk (ts:List (Int × Int × Int)) (nn:Bool) (f:RQ) (bs:List (RQ × RQ)) (c:CO 48 [.int .i64 0] (.ret (.agg [.bool f.neg,.str (af f.n),.str (af f.d)]))) (d:aO prog ap [] 78 (.block 0 (.loop (ag 0 (ai f30)))) ⟨[(0,.sl (tL ts) ts.length nn),(2,.ptr 0 0 0),(3,.ptr 1 0 0),(4,.ptr 2 0 0),(5,.int .i64 0),(6,.dead),(7,.dead),(9,.dead),(25,.dead),(32,.dead)],[(0,⟨[.str [],.int .i64 0,.int .i64 0,.nilS],0,false,0,0,true⟩),(1,⟨[.str zcc3_3,.int .i64 1,.int .i64 0,.nilS],0,false,0,0,true⟩),(2,⟨[.bool f.neg,.str (af f.n),.str (af f.d)],0,false,0,0,true⟩)],.dead,[]⟩ (.normal) ⟨[(2,.ptr 0 0 0),(3,.ptr 1 0 0)],[(0,⟨[.str [],.int .i64 0,.int .i64 0,.nilS],0,false,0,0,true⟩),(1,⟨[.str zcc3_3,.int .i64 1,.int .i64 0,.ref 2 0 0 bs.length],0,false,0,0,false⟩),(2,⟨(x_ bs),0,false,0,6,true⟩)],.dead,[]⟩):CO 30 [.sl (tL ts) ts.length nn] (.ret (.agg [.str zcc3_3,.int .i64 1,.int .i64 0,.sl (List.take (bs.length*6) (x_ bs)) bs.length true])):=pK [0] 0 0 (.n 11 .nil) (.l d (.c c .nil))
theorem TV (ts:List (Int × Int × Int)) (nn:Bool) (g:0<ts.length) (n:ts.length≤8):∃ bs:List Br,bs.length=ts.length∧(∀ b ∈ bs,b.s28)∧NC pg bs=0∧CO 30 [.sl (tL ts) ts.length nn] (.ret (.agg [.str zcc3_3,.int .i64 1,.int .i64 0,.sl (nM bs) bs.length true])):=by
 have z:Gu (16*(([]:List (RQ × RQ)).length+1)) q0:=⟨Q9,by decide,by decide⟩
 obtain ⟨bs,c,f,i,e,o⟩:=aaJ ts nn n ts.length [] q0 q0 (by simp) g z (by simp) True.intro rfl
 refine ⟨bs.map EW,by simpa using c, ?_, ?_, ?_⟩
 ·intro b m
  obtain ⟨x,p,rfl⟩:=List.mem_map.1 m
  obtain ⟨⟨_,d,q⟩,⟨_,j,k⟩⟩:=f x p
  exact ⟨⟨dX d (by omega),dX q (by omega)⟩,dX j (by omega),dX k (by omega)⟩
 ·cases bs with
  |nil=>simp at c;omega
  |cons a r=>
   obtain ⟨t,d⟩:=a
   simp only [List.map_cons,List.head?_cons,Option.some.injEq] at e
   subst e
   simp only [List.length_cons] at c
   exact aaK (by omega) f i
 ·rw [QP,List.length_map]
  have h:=ajk ts nn q0 bs (GN 0 (by omega)) (aI.blk o (by simp) rfl (aQ.of ⟨rfl,rfl,rfl,rfl,rfl,trivial⟩) (aQ.refl _))
  rw [List.take_of_length_le (by rw [IR];exact Nat.le_refl _)] at h
  exact h
def anH (qs:List (Int × Int × Int)):AV:=match qs with| []=> .nilS|_::_=> .ref 3 0 0 qs.length
def anI (qs:List (Int × Int × Int)):Hp:=match qs with| []=> []|_::_=> [(3,⟨tL qs,0,false,0,3,true⟩)]
abbrev akS (s:Sg) (xs:List Int) (nn:Bool) (n:Nat) (p:Nat × List (Int × Int × Int)):St:=⟨[(1,.ptr 0 0 0),(2,.ptr 1 0 0),(4,.ptr 2 0 0),(5,anH p.2),(6,.int .i64 (n:Int)),(7,.int .i64 (p.2.length:Int))],[(0,dB xs nn p.1),(1,⟨[.int .i64 s.op,.str s.name,.bool s.ty.tr,.int .i64 s.ty.m,.int .i64 s.ty.d],0,false,0,0,true⟩),(2,⟨[.str [],.int .i64 0,.int .i64 0,.nilS],0,false,0,0,true⟩)]++anI p.2,.dead,[]⟩
abbrev agM (s:Sg) (xs:List Int) (nn:Bool) (p:Nat × List (Int × Int × Int)):St:=⟨[(2,.ptr 1 0 0),(4,.ptr 2 0 0),(5,.ref 3 0 0 p.2.length)],[(0,dB xs nn p.1),(1,⟨[.int .i64 s.op,.str s.name,.bool s.ty.tr,.int .i64 s.ty.m,.int .i64 s.ty.d],0,false,0,0,true⟩),(2,⟨[.str [],.int .i64 0,.int .i64 0,.nilS],0,false,0,0,true⟩),(3,⟨tL p.2,0,false,0,3,true⟩)],.dead,[]⟩
theorem AY (s:Sg) (xs:List Int) (nn:Bool) (n k:Nat) (qs:List (Int × Int × Int)) (h:qs ≠ []):akS s xs nn n (k,qs)=⟨[(1,.ptr 0 0 0),(2,.ptr 1 0 0),(4,.ptr 2 0 0),(5,.ref 3 0 0 qs.length),(6,.int .i64 (n:Int)),(7,.int .i64 (qs.length:Int))],[(0,dB xs nn k),(1,⟨[.int .i64 s.op,.str s.name,.bool s.ty.tr,.int .i64 s.ty.m,.int .i64 s.ty.d],0,false,0,0,true⟩),(2,⟨[.str [],.int .i64 0,.int .i64 0,.nilS],0,false,0,0,true⟩),(3,⟨tL qs,0,false,0,3,true⟩)],.dead,[]⟩:=by
 cases qs with
 |nil=>exact absurd rfl h
 |cons a r=>rfl
theorem PD (l:List (Int × Int × Int)):(tL l).length=l.length*3:=oh (fun q:Int × Int × Int=> [AV.int .i64 q.1,.int .i64 q.2.1,.int .i64 q.2.2]) 3 (fun _=>rfl) l
theorem acv (qs:List (Int × Int × Int)) (a b c:Int):List.take (qs.length*3) (tL qs)++ [.int .i64 a,.int .i64 b,.int .i64 c]=tL (qs++ [(a,b,c)]):=by
 rw [List.take_of_length_le (by rw [PD];exact Nat.le_refl _)]
 unfold tL;rw [List.flatMap_append];rfl
theorem X_ (s:Sg) (xs:List Int) (nn:Bool) (k0 n:Nat) (i:xs.length<2^63) (E:n≤8) (K:0<n):∀ (d k:Nat) (qs:List (Int × Int × Int)),qs.length+d=n→k≤xs.length→
  ∃ (f:Nat) (c:List (Int × Int × Int)),f≤xs.length∧c.length=n∧∀ nt,37≤nt→aI prog ap [dB xs nn k0] nt (ag 0 (ai f96)) (fun _=> .exit 0) (akS s xs nn n) (agM s xs nn) (k,qs) (f,c):=by
 intro d
 induction d with
 |zero=>
  intro k qs hd m
  refine ⟨k,qs,m,by omega,fun nt e=> .done ?_⟩
  have y:decide ((qs.length:Int)<(n:Int))=false:=decide_eq_false (by omega)
  rw [AY s xs nn n k qs (by intro h;rw [h] at hd;simp at hd;omega)]
  generalize B:qs.length=j at y
  show ax _ _ _ _ _ _ _ (agM s xs nn (k,qs))
  unfold agM
  rw [B]
  exact pN 96 [] 1 0 (.c (aF y) .nil) (.nil) e
 | succ d ih=>
  intro k qs hd m
  obtain ⟨C,k1,_,g,v⟩:=dA xs nn k 61 i m (by omega) (by omega)
  obtain ⟨A,k2,_,p,z⟩:=dA xs nn k1 40 i g (by omega) (by omega)
  obtain ⟨D,k3,_,u,w⟩:=dA xs nn k2 12 i p (by omega) (by omega)
  obtain ⟨f,c,F,H,I⟩:=ih k3 (qs++ [((C:Int),(A:Int),(D:Int))]) (by simp;omega) u
  refine ⟨f,c,F,H,fun nt e=> .next ?_ (I nt e)⟩
  have o:decide ((qs.length:Int)<(n:Int))=true:=decide_eq_true (by omega)
  have t:AV.int .i64 (IntKind.wrap .i64 ((qs.length:Int)+((1:Nat):Int)))=AV.int .i64 ((qs.length+1:Nat):Int):=CG (by omega)
  have J:Nat.ble (qs.length+1) 1099511627776=true:=Nat.ble_eq_true_of_le (by omega)
  have G:Nat.ble (qs.length*3) (List.length (tL qs))=true:=Nat.ble_eq_true_of_le (by rw [PD];exact Nat.le_refl _)
  rw [AY s xs nn n k3 _ (by simp),List.length_append,List.length_singleton,← acv]
  cases q:qs with
  |nil=>
   rw [q] at o t
   exact pN 96 [] 2 1 (.k 3 (aG o) .nil) (.v 16 (.eq t) (.c w (.c z (.c v .nil)))) e
  |cons a r=>
   rw [← q,AY s xs nn n k qs (by rw [q];simp)]
   exact pN 96 [] 1 1 (.k 1 J (.c G (.k 1 (aG o) .nil))) (.v 16 (.eq t) (.c w (.c z (.c v .nil)))) e
theorem agL (s:Sg) (xs:List Int) (nn:Bool) (k k1 k2 c:Nat) (qs:List (Int × Int × Int)) (bs:List Br) (e:AV.int .i64 (IntKind.wrap .i64 (((1:Nat):Int)+(c:Int)))= .int .i64 (((1+c):Nat):Int)) (d:aC prog ap 97 [.ptr 0 0 0,.int .i64 4] [⟨[.sl (iL xs) xs.length nn,.int .i64 (k:Int)],0,false,0,0,true⟩] (.ret (.int .i64 (c:Int))) [⟨[.sl (iL xs) xs.length nn,.int .i64 (k1:Int)],0,false,0,0,true⟩]) (f:aO prog ap [⟨[.sl (iL xs) xs.length nn,.int .i64 (k:Int)],0,false,0,0,true⟩] 37 (.block 0 (.loop (ag 0 (ai f96)))) ⟨[(0,.agg [.int .i64 s.op,.str s.name,.bool s.ty.tr,.int .i64 s.ty.m,.int .i64 s.ty.d]),(1,.ptr 0 0 0),(2,.ptr 1 0 0),(4,.ptr 2 0 0),(5,.nilS),(6,.int .i64 (((1+c):Nat):Int)),(7,.int .i64 0),(8,.dead),(14,.dead)],[(0,⟨[.sl (iL xs) xs.length nn,.int .i64 (k1:Int)],0,false,0,0,true⟩),(1,⟨[.int .i64 s.op,.str s.name,.bool s.ty.tr,.int .i64 s.ty.m,.int .i64 s.ty.d],0,false,0,0,true⟩),(2,⟨[.str [],.int .i64 0,.int .i64 0,.nilS],0,false,0,0,true⟩)],.dead,[]⟩ (.normal) ⟨[(2,.ptr 1 0 0),(4,.ptr 2 0 0),(5,.ref 3 0 0 qs.length)],[(0,⟨[.sl (iL xs) xs.length nn,.int .i64 (k2:Int)],0,false,0,0,true⟩),(1,⟨[.int .i64 s.op,.str s.name,.bool s.ty.tr,.int .i64 s.ty.m,.int .i64 s.ty.d],0,false,0,0,true⟩),(2,⟨[.str [],.int .i64 0,.int .i64 0,.nilS],0,false,0,0,true⟩),(3,⟨(tL qs),0,false,0,3,true⟩)],.dead,[]⟩) (g:CO 30 [.sl (List.take (qs.length*3) (tL qs)) qs.length true] (.ret (.agg [.str zcc3_3,.int .i64 1,.int .i64 0,.sl (nM bs) bs.length true]))):aC prog ap 96 [.agg [.int .i64 s.op,.str s.name,.bool s.ty.tr,.int .i64 s.ty.m,.int .i64 s.ty.d],.ptr 0 0 0] [⟨[.sl (iL xs) xs.length nn,.int .i64 (k:Int)],0,false,0,0,true⟩] (.ret (.agg [.str s.name,.int .i64 s.ty.m,.int .i64 s.ty.d,.sl (nM bs) bs.length true])) [⟨[.sl (iL xs) xs.length nn,.int .i64 (k2:Int)],0,false,0,0,true⟩]:=pK [0] 0 0 (.n 15 .nil) (.c g (.l f (.v 11 (.eq e) (.c d .nil))))
theorem Ya (s:Sg) (xs:List Int) (nn:Bool) (k:Nat) (f:xs.length<2^63) (p:k≤xs.length):∃ (bs:List Br) (k':Nat),k'≤xs.length∧bs.length≤8∧(∀ b ∈ bs,b.s28)∧NC pg bs=0∧
  aC prog ap 96 [.agg (YR s),.ptr 0 0 0] [dB xs nn k] (.ret (.agg [.str s.name,.int .i64 s.ty.m,.int .i64 s.ty.d,.sl (nM bs) bs.length false])) [dB xs nn k']:=by
 obtain ⟨c,k1,q,e,j⟩:=dA xs nn k 4 f p (by omega) (by omega)
 obtain ⟨k2,qs,g,t,m⟩:=X_ s xs nn k (1+c) f (by omega) (by omega) (1+c) k1 [] (by simp) e
 obtain ⟨bs,r,o,h,i⟩:=TV qs true (by omega) (by omega)
 refine ⟨bs,k2,g,by omega,o,h, ?_⟩
 have n:AV.int .i64 (IntKind.wrap .i64 (((1:Nat):Int)+(c:Int)))= .int .i64 (((1+c):Nat):Int):=by
  congr 1;exact (bF (by omega) (by omega)).trans (by omega)
 have d:List.take (qs.length*3) (tL qs)=tL qs:=List.take_of_length_le (by rw [PD];exact Nat.le_refl _)
 exact aC.out (jq.ret rfl rfl (aW.agg (.cons (aW.refl _) (.cons (aW.refl _) (.cons (aW.refl _) (.cons (aW.sl _ _ _) .nil)))))) (agL s xs nn k k1 k2 c qs bs n j (aI.blk m (by simp) rfl (aQ.of ⟨rfl,rfl,rfl,rfl,rfl,rfl,trivial⟩) (aQ.refl _)) (by rw [d];exact i))
end Go.Proofs.Tryz
set_option maxRecDepth 100000
open Go AM
namespace Go.Proofs.Tryz
theorem rP (c:Int):CO 208 [.int .i64 c] (.ret (.bool (rH c))):=by
 rcases tf (decide (((5:Nat):Int)≤c)) with b0|b0
 ·rcases tf (decide (c≤((8:Nat):Int))) with b1|b1
  ·have e:rH c=true:=by
    simp only [decide_eq_true_eq,decide_eq_false_iff_not,beq_iff_eq,beq_eq_false_iff_ne] at*
    unfold rH;first|(rw [decide_eq_true_eq];omega)|(rw [Bool.eq_iff_iff];simp only [decide_eq_true_eq,beq_iff_eq];omega)
   rw [e]
   exact pK [] 2 3 (.c (aG b1) (.c (aG b0) .nil)) (.nil)
  ·have e:rH c=(c==((24:Nat):Int)):=by
    simp only [decide_eq_true_eq,decide_eq_false_iff_not,beq_iff_eq,beq_eq_false_iff_ne] at*
    unfold rH;first|(rw [decide_eq_true_eq];omega)|(rw [Bool.eq_iff_iff];simp only [decide_eq_true_eq,beq_iff_eq];omega)
   rw [e]
   exact pK [] 2 1 (.c (aF b1) (.c (aG b0) .nil)) (.nil)
 ·have e:rH c=(c==((24:Nat):Int)):=by
   simp only [decide_eq_true_eq,decide_eq_false_iff_not,beq_iff_eq,beq_eq_false_iff_ne] at*
   unfold rH;first|(rw [decide_eq_true_eq];omega)|(rw [Bool.eq_iff_iff];simp only [decide_eq_true_eq,beq_iff_eq];omega)
  rw [e]
  exact pK [] 2 0 (.k 1 (aF b0) .nil) (.nil)
def TJ (l:List Sg) (nn:Bool) (op:Int) (nm:List UInt8) (p:Nat × Unit):St:=⟨[(0,.sl (h_ l) l.length nn),(1,.int .i64 op),(2,.str nm),(6,.ptr 0 0 0),(8,.int .i64 (p.1:Int))],[(0,⟨[.bool false,.int .i64 0,.int .i64 0],0,false,0,0,true⟩)],.dead,[]⟩
def Qu:Option Ty→St
 |none=> ⟨[(6,.ptr 0 0 0)],[(0,⟨[.bool false,.int .i64 0,.int .i64 0],0,false,0,0,true⟩)],.dead,[]⟩
 |some t=> ⟨[(6,.ptr 0 0 0),(7,.bool true)],[(0,⟨[.bool t.tr,.int .i64 t.m,.int .i64 t.d],0,false,0,0,true⟩)],.dead,[]⟩
theorem aab {nt:Nat} (h:52≤nt) (l:List Sg) (nn:Bool) (c:Int) (e:List UInt8) (t:l.length<2^40):aI prog ap [] nt (ag 0 (ai f183)) fiE (TJ l nn c e) (Qu) (0,()) ((l.find? fun s=>oz s c e).map (·.ty)):=by
 rw [← acd]
 refine aI.goL (RD fun s=>oz s c e) (fun _=>none) l (fun _ _=>True) ?_ ?_ l [] () rfl trivial
 ·intro p s r _ q _
  have key:match oz s c e with
   |true=>ax prog ap [] nt (ag 0 (ai f183)) (TJ l nn c e (p.length,())) .ret (Qu (some s.ty))
   |false=>ax prog ap [] nt (ag 0 (ai f183)) (TJ l nn c e (p.length,())) .normal (TJ l nn c e (p.length+1,())):=by
   have f:List.drop (Int.toNat (p.length:Int)*5) (h_ l)=YR s++h_ r:=by rw [q];exact acj rfl
   have o:p.length+(r.length+1)=l.length:=by rw [q];simp
   generalize p.length=k at*
   have m:k<2^62:=by omega
   have j:decide (((0:Nat):Int)≤(k:Int))=true:=decide_eq_true (by omega)
   have g:decide ((k:Int)<(l.length:Int))=true:=decide_eq_true (by omega)
   have i:=g
   rcases tf (s.op==c) with d|d
   ·rcases tf (s.name==e) with b1|b1
    ·rcases tf (rH c) with b2|b2
     ·rcases tf (kQ s.ty) with b3|b3
      ·rcases tf (c==((24:Nat):Int)) with b4|b4
       ·rcases tf s.ty.tr with b5|b5
        ·rw [show oz s c e=false by simp only [oz,d,b1,b2,b3,b4,b5]<;>rfl]
         exact pN 183 [] 7 31 (.c (a_ b5) (.k 1 (a_ b4) (.c (aG b3) (.k 3 (aG b2) (.c (aG b1) (.k 1 (aG d) (.k 7 j (.c g (.c (aG i) .nil))))))))) (.v 15 (.eq (CG m)) (.c (tC s.ty) (.c (rP c) (.v 18 (.ppt f) .nil)))) h
        ·rw [show oz s c e=true by simp only [oz,d,b1,b2,b3,b4,b5]<;>rfl]
         exact pN 183 [] 7 95 (.k 4 (eF b5) (.k 1 (a_ b4) (.c (aG b3) (.k 3 (aG b2) (.c (aG b1) (.k 1 (aG d) (.k 7 j (.c g (.c (aG i) .nil))))))))) (.c (tC s.ty) (.c (rP c) (.v 18 (.ppt f) .nil))) h
       ·rw [show oz s c e=true by simp only [oz,d,b1,b2,b3,b4]<;>rfl]
        exact pN 183 [] 7 127 (.k 5 (eF b4) (.c (aG b3) (.k 3 (aG b2) (.c (aG b1) (.k 1 (aG d) (.k 7 j (.c g (.c (aG i) .nil)))))))) (.c (tC s.ty) (.c (rP c) (.v 18 (.ppt f) .nil))) h
      ·rw [show oz s c e=false by simp only [oz,d,b1,b2,b3]<;>rfl]
       exact pN 183 [] 6 15 (.k 1 (aF b3) (.k 3 (aG b2) (.c (aG b1) (.k 1 (aG d) (.k 7 j (.c g (.c (aG i) .nil))))))) (.v 15 (.eq (CG m)) (.c (tC s.ty) (.c (rP c) (.v 18 (.ppt f) .nil)))) h
     ·rw [show oz s c e=false by simp only [oz,d,b1,b2]<;>rfl]
      exact pN 183 [] 6 7 (.k 2 (aF b2) (.c (aG b1) (.k 1 (aG d) (.k 7 j (.c g (.c (aG i) .nil)))))) (.v 15 (.eq (CG m)) (.c (rP c) (.v 18 (.ppt f) .nil))) h
    ·rw [show oz s c e=false by simp only [oz,d,b1]<;>rfl]
     exact pN 183 [] 6 3 (.k 3 (aF b1) (.k 1 (aG d) (.k 7 j (.c g (.c (aG i) .nil))))) (.v 15 (.eq (CG m)) (.v 18 (.ppt f) .nil)) h
   ·rw [show oz s c e=false by simp only [oz,d]<;>rfl]
    exact pN 183 [] 6 1 (.k 4 (aF d) (.k 7 j (.c g (.c (aG i) .nil)))) (.v 15 (.eq (CG m)) (.v 18 (.ppt f) .nil)) h
  unfold RD
  cases n:oz s c e with
  |true=>rw [n] at key;simp only [n,if_true];exact key
  |false=>rw [n] at key;simp only [n,Bool.false_eq_true,if_false];exact ⟨key,trivial⟩
 ·intro _ _
  have d:decide ((l.length:Int)<(l.length:Int))=false:=decide_eq_false (by omega)
  exact pN 183 [] 1 0 (.c (aF d) .nil) (.nil) h
theorem aiT (l:List Sg) (nn:Bool) (d:Int) (c:List UInt8) (e:aO prog ap [] 52 (.block 0 (.loop (ag 0 (ai f183)))) ⟨[(0,.sl (h_ l) l.length nn),(1,.int .i64 d),(2,.str c),(6,.ptr 0 0 0),(7,.bool false),(8,.int .i64 0),(9,.dead),(13,.dead),(48,.dead)],[(0,⟨[.bool false,.int .i64 0,.int .i64 0],0,false,0,0,true⟩)],.dead,[]⟩ (.normal) ⟨[(6,.ptr 0 0 0)],[(0,⟨[.bool false,.int .i64 0,.int .i64 0],0,false,0,0,true⟩)],.dead,[]⟩):CO 183 [.sl (h_ l) l.length nn,.int .i64 d,.str c] (.ret (.tup [.agg [.bool false,.int .i64 0,.int .i64 0],.bool false])):=pK [0] 0 0 (.n 4 .nil) (.l e .nil)
theorem aiU (l:List Sg) (nn:Bool) (d:Int) (c:List UInt8) (t:Ty) (e:aO prog ap [] 52 (.block 0 (.loop (ag 0 (ai f183)))) ⟨[(0,.sl (h_ l) l.length nn),(1,.int .i64 d),(2,.str c),(6,.ptr 0 0 0),(7,.bool false),(8,.int .i64 0),(9,.dead),(13,.dead),(48,.dead)],[(0,⟨[.bool false,.int .i64 0,.int .i64 0],0,false,0,0,true⟩)],.dead,[]⟩ (.ret) ⟨[(6,.ptr 0 0 0),(7,.bool true)],[(0,⟨[.bool t.tr,.int .i64 t.m,.int .i64 t.d],0,false,0,0,true⟩)],.dead,[]⟩):CO 183 [.sl (h_ l) l.length nn,.int .i64 d,.str c] (.ret (.tup [.agg [.bool t.tr,.int .i64 t.m,.int .i64 t.d],.bool true])):=pK [0] 0 0 (.n 3 .nil) (.l e .nil)
theorem eY (l:List Sg) (nn:Bool) (d:Int) (c:List UInt8) (g:l.length<2^40):CO 183 [.sl (h_ l) l.length nn,.int .i64 d,.str c] (.ret (.tup [.agg (uk ((qZ l d c).getD zT)),.bool (qZ l d c).isSome])):=by
 have hloop:=fun nt (hn:52≤nt)=>aab hn l nn d c g
 unfold qZ
 cases h:(l.find? fun s=>oz s d c).map (·.ty) with
 |none=>
  rw [h] at hloop
  have f:=aI.blk (id:=0) (e':= .normal) (s:=TJ l nn d c (0,())) (s':=Qu none) hloop (by simp [fiE]) rfl (aQ.refl _) (aQ.refl _)
  exact aiT l nn d c (fun nt e=>(f nt e).weak (aQ.of ⟨rfl,rfl,rfl,rfl,rfl,trivial⟩) (aQ.refl _))
 |some t=>
  rw [h] at hloop
  have f:=aI.blk (id:=0) (e':= .ret) (s:=TJ l nn d c (0,())) (s':=Qu (some t)) hloop (by simp [fiE]) rfl (aQ.refl _) (aQ.refl _)
  exact aiU l nn d c t (fun nt e=>(f nt e).weak (aQ.of ⟨rfl,rfl,rfl,rfl,rfl,trivial⟩) (aQ.refl _))
def eqT (a b:Ty):Bool:=((a.tr==b.tr) && ((a.m==b.m) && ((a.d==b.d) && true)))
def GM (ts:List Ty):Bool:=ts.all fun t=> !t.tr
def ML:Nat→Ty→List Ty→Bool × Ty
 |1,_,[]=>(true,⟨false,1,0⟩)
 |2,_,[]=>(true,⟨false,0,1⟩)
 |3,_,[]=>(true,⟨false,0,0⟩)
 |4,_,[]=>(true,⟨true,0,0⟩)
 |5,sg,[]=>(true,sg)
 |6,sg,[]=>(true,sg)
 |7,sg,[]=>(true,sg)
 |8,sg,[]=>(true,sg)
 |9,_,[a,b]=>(eqT a b && GM [a,b],a)
 |10,_,[a,b]=>(eqT a b && GM [a,b],a)
 |11,_,[a,b]=>(GM [a,b] && kQ ⟨false,IntKind.wrap .i64 (a.m+b.m),IntKind.wrap .i64 (a.d+b.d)⟩,⟨false,IntKind.wrap .i64 (a.m+b.m),IntKind.wrap .i64 (a.d+b.d)⟩)
 |12,_,[a,b]=>(GM [a,b] && kQ ⟨false,IntKind.wrap .i64 (a.m - b.m),IntKind.wrap .i64 (a.d - b.d)⟩,⟨false,IntKind.wrap .i64 (a.m - b.m),IntKind.wrap .i64 (a.d - b.d)⟩)
 |13,_,[a,b]=>(eqT a b && GM [a,b],a)
 |14,_,[a,b]=>(eqT a b && GM [a,b],a)
 |15,_,[a,b,c]=>(a.tr && eqT b c,b)
 |16,_,[a,b]=>(eqT a b && GM [a,b],⟨true,0,0⟩)
 |17,_,[a,b]=>(eqT a b,⟨true,0,0⟩)
 |18,_,[a,b]=>(a.tr && b.tr,⟨true,0,0⟩)
 |19,_,[a,b]=>(a.tr && b.tr,⟨true,0,0⟩)
 |20,_,[a]=>(a.tr,⟨true,0,0⟩)
 |21,_,[a]=>(GM [a],a)
 |22,_,[a]=>(GM [a],a)
 |23,_,[a]=>(GM [a],a)
 |24,sg,[a]=>(eqT a sg,sg)
 |_,_,_=>(false,⟨false,0,0⟩)
def ofR (named fo:Bool) (sg:Ty) (op:Nat) (ts:List Ty):Ty × Int:=cond (named && !fo) (⟨false,0,0⟩,12) (cond (ML op sg ts).1 ((ML op sg ts).2,0) (⟨false,0,0⟩,13))
def mG (l:List Sg) (x:Nd) (ts:List Ty):Ty × Int:=ofR (rH x.op) (qZ l x.op x.name).isSome ((qZ l x.op x.name).getD zT) x.op.toNat ts
def aS:List Sg:= [⟨5,zcc3_1,⟨false,1,0⟩⟩,⟨5,[107,105,100,115],⟨false,0,0⟩⟩,⟨5,zcc3_0,⟨true,0,0⟩⟩,⟨5,[115,116,97,121],⟨false,0,1⟩⟩,⟨6,[112,111,111,114],⟨true,0,0⟩⟩,⟨6,[116,97,120],⟨false,1,0⟩⟩,⟨7,[112,111,111,114],⟨true,0,0⟩⟩,⟨7,[116,97,120],⟨false,1,0⟩⟩,⟨8,[112,111,111,114],⟨true,0,0⟩⟩,⟨8,[116,97,120],⟨false,1,0⟩⟩,⟨24,zcc3_2,⟨false,1,0⟩⟩,⟨24,[116,101,114,109],⟨false,0,1⟩⟩]
def tT:Ty:=⟨true,0,0⟩
inductive Tm (l:List Sg):List Nd→Ty→Prop where
 |n0 {x:Nd} {t:Ty}:aK x=0→fG x.op=0→mG l x []=(t,0)→Tm l [x] t
 |n1 {x:Nd} {t ta:Ty} {a:List Nd}:Tm l a ta→aK x=0→fG x.op=1→mG l x [ta]=(t,0)→Tm l (a++ [x]) t
 |n2 {x:Nd} {t ta tb:Ty} {a b:List Nd}:Tm l a ta→Tm l b tb→aK x=0→fG x.op=2→mG l x [ta,tb]=(t,0)→Tm l (a++b++ [x]) t
 |n3 {x:Nd} {t ta tb tc:Ty} {a b c:List Nd}:Tm l a ta→Tm l b tb→Tm l c tc→aK x=0→fG x.op=3→mG l x [ta,tb,tc]=(t,0)→Tm l (a++b++c++ [x]) t
theorem Tm.ne {l:List Sg} {e:List Nd} {t:Ty} (h:Tm l e t):e ≠ []:=by cases h<;>simp
def qN (op:Int) (q:RQ):Nd:=⟨op,q.neg,af q.n,af q.d,[]⟩
theorem XM {q:RQ} (h:q.ok) (c:q.n<64) (hd:q.d<64):fA q.neg (af q.n) (af q.d)=true:=by
 unfold fA
 rw [oD q h,aB,aB]
 have e:gI q.n≤6:=jf (by omega)
 have d:gI q.d≤6:=jf (by omega)
 simp;omega
theorem FB {c:Int} {q:RQ} (d:q.n<64) (hd:q.d<64):(qN c q).sm:=by
 have f:=iE (x:=q.n) (by omega)
 have e:=iE (x:=q.d) (by omega)
 exact ⟨by show (af q.n).length<_;omega,by show (af q.d).length<_;omega⟩
theorem nP {q:RQ} (h:q.ok) (g:q.n<64) (hd:q.d<64):∀ c:Int,c=1∨c=2∨c=3→aK (qN c q)=0:=by
 intro c d
 have f:=XM h g hd
 have e:jg (qN c q)=true:=by rcases d with rfl|rfl|rfl<;>exact f
 unfold aK
 rw [e]
 rcases d with rfl|rfl|rfl<;>rfl
theorem Gf:CO 183 [.sl (h_ aS) 12 true,.int .i64 5,.str zcc3_1] (.ret (.tup [.agg [.bool false,.int .i64 1,.int .i64 0],.bool true])):=kC (eY aS true 5 zcc3_1 (by decide)) (by kernel_rfl)
theorem Gg:CO 183 [.sl (h_ aS) 12 true,.int .i64 5,.str [107,105,100,115]] (.ret (.tup [.agg [.bool false,.int .i64 0,.int .i64 0],.bool true])):=kC (eY aS true 5 [107,105,100,115] (by decide)) (by kernel_rfl)
theorem Gh:CO 183 [.sl (h_ aS) 12 true,.int .i64 5,.str zcc3_0] (.ret (.tup [.agg [.bool true,.int .i64 0,.int .i64 0],.bool true])):=kC (eY aS true 5 zcc3_0 (by decide)) (by kernel_rfl)
theorem Gi:CO 183 [.sl (h_ aS) 12 true,.int .i64 5,.str [115,116,97,121]] (.ret (.tup [.agg [.bool false,.int .i64 0,.int .i64 1],.bool true])):=kC (eY aS true 5 [115,116,97,121] (by decide)) (by kernel_rfl)
theorem Gj:CO 183 [.sl (h_ aS) 12 true,.int .i64 6,.str [112,111,111,114]] (.ret (.tup [.agg [.bool true,.int .i64 0,.int .i64 0],.bool true])):=kC (eY aS true 6 [112,111,111,114] (by decide)) (by kernel_rfl)
theorem Gl:CO 183 [.sl (h_ aS) 12 true,.int .i64 6,.str [116,97,120]] (.ret (.tup [.agg [.bool false,.int .i64 1,.int .i64 0],.bool true])):=kC (eY aS true 6 [116,97,120] (by decide)) (by kernel_rfl)
theorem Gm:CO 183 [.sl (h_ aS) 12 true,.int .i64 7,.str [112,111,111,114]] (.ret (.tup [.agg [.bool true,.int .i64 0,.int .i64 0],.bool true])):=kC (eY aS true 7 [112,111,111,114] (by decide)) (by kernel_rfl)
theorem Gn:CO 183 [.sl (h_ aS) 12 true,.int .i64 7,.str [116,97,120]] (.ret (.tup [.agg [.bool false,.int .i64 1,.int .i64 0],.bool true])):=kC (eY aS true 7 [116,97,120] (by decide)) (by kernel_rfl)
theorem Gp:CO 183 [.sl (h_ aS) 12 true,.int .i64 8,.str [112,111,111,114]] (.ret (.tup [.agg [.bool true,.int .i64 0,.int .i64 0],.bool true])):=kC (eY aS true 8 [112,111,111,114] (by decide)) (by kernel_rfl)
theorem Gq:CO 183 [.sl (h_ aS) 12 true,.int .i64 8,.str [116,97,120]] (.ret (.tup [.agg [.bool false,.int .i64 1,.int .i64 0],.bool true])):=kC (eY aS true 8 [116,97,120] (by decide)) (by kernel_rfl)
theorem pq:CO 183 [.sl (h_ aS) 12 true,.int .i64 24,.str zcc3_2] (.ret (.tup [.agg [.bool false,.int .i64 1,.int .i64 0],.bool true])):=kC (eY aS true 24 zcc3_2 (by decide)) (by kernel_rfl)
theorem pz:CO 183 [.sl (h_ aS) 12 true,.int .i64 24,.str [116,101,114,109]] (.ret (.tup [.agg [.bool false,.int .i64 0,.int .i64 1],.bool true])):=kC (eY aS true 24 [116,101,114,109] (by decide)) (by kernel_rfl)
def oZ (op:Int):Nd:=⟨op,false,[],[],[]⟩
theorem qC (c:Int):(oZ c).sm:=⟨by show 0<_;omega,by show 0<_;omega⟩
theorem LZ {v:Int} (h:0≤v) (d:v<64):(jY v).ok∧(jY v).n<64∧(jY v).d<64:=by
 refine ⟨vW (fun c=> ?_),by simp only [jY];omega,by simp [jY]⟩
 simp only [decide_eq_true_eq] at c
 omega
theorem MW {x:Nd} (h:x.sm):∀ y ∈ [x],y.sm:=by intro y c;simp at c;subst c;exact h
theorem Qb (xs:List Int) (nn:Bool) (k:Nat) (g:xs.length<2^63) (j:k≤xs.length):∃ (e:List Nd) (k2:Nat),k2≤xs.length∧Tm aS e ⟨false,1,0⟩∧(∀ x ∈ e,x.sm)∧e.length≤1∧aC prog ap 184 [.ptr 0 0 0,.agg (uk ⟨false,1,0⟩)] [dB xs nn k] (.ret (.own (aZ e) e.length 5)) [dB xs nn k2]:=by
 obtain ⟨w,k1,c,i,d,f,_,h⟩:=u_ xs nn k g j (-8) (by omega) (by omega)
 exact ⟨[qN 1 w],k1,c,.n0 (nP i d f 1 (by simp)) rfl (by kernel_rfl),MW (FB d f),by simp,pK [] 1 1 (.n 7 .nil) (.c h .nil)⟩
theorem Qa (xs:List Int) (nn:Bool) (k:Nat) (g:xs.length<2^63) (j:k≤xs.length):∃ (e:List Nd) (k2:Nat),k2≤xs.length∧Tm aS e ⟨false,0,1⟩∧(∀ x ∈ e,x.sm)∧e.length≤1∧aC prog ap 184 [.ptr 0 0 0,.agg (uk ⟨false,0,1⟩)] [dB xs nn k] (.ret (.own (aZ e) e.length 5)) [dB xs nn k2]:=by
 obtain ⟨w,k1,c,i,d,f,_,h⟩:=u_ xs nn k g j (-8) (by omega) (by omega)
 exact ⟨[qN 2 w],k1,c,.n0 (nP i d f 2 (by simp)) rfl (by kernel_rfl),MW (FB d f),by simp,pK [] 2 2 (.n 8 .nil) (.c h .nil)⟩
theorem Qc (xs:List Int) (nn:Bool) (k:Nat) (g:xs.length<2^63) (j:k≤xs.length):∃ (e:List Nd) (k2:Nat),k2≤xs.length∧Tm aS e ⟨false,0,0⟩∧(∀ x ∈ e,x.sm)∧e.length≤1∧aC prog ap 184 [.ptr 0 0 0,.agg (uk ⟨false,0,0⟩)] [dB xs nn k] (.ret (.own (aZ e) e.length 5)) [dB xs nn k2]:=by
 obtain ⟨w,k1,c,i,d,f,_,h⟩:=u_ xs nn k g j (-8) (by omega) (by omega)
 exact ⟨[qN 3 w],k1,c,.n0 (nP i d f 3 (by simp)) rfl (by kernel_rfl),MW (FB d f),by simp,pK [] 4 0 (.n 12 .nil) (.c h .nil)⟩
theorem Qd (xs:List Int) (nn:Bool) (k:Nat) (g:xs.length<2^63) (C:k≤xs.length):∃ (e:List Nd) (k2:Nat),k2≤xs.length∧Tm aS e ⟨false,1, -1⟩∧(∀ x ∈ e,x.sm)∧e.length≤5∧aC prog ap 184 [.ptr 0 0 0,.agg (uk ⟨false,1, -1⟩)] [dB xs nn k] (.ret (.own (aZ e) e.length 5)) [dB xs nn k2]:=by
 obtain ⟨w,k1,f,F,q,r,_,J⟩:=u_ xs nn k g C (-8) (by omega) (by omega)
 obtain ⟨c,k2,u,h,N⟩:=dA xs nn k1 3 g f (by omega) (by omega)
 obtain ⟨d,k3,E,i,G⟩:=dA xs nn k2 3 g h (by omega) (by omega)
 have K:IntKind.wrap .i64 (((1:Nat):Int)+(c:Int))=1+(c:Int):=bF (by omega) (by omega)
 have D:IntKind.wrap .i64 (((1:Nat):Int)+(d:Int))=1+(d:Int):=bF (by omega) (by omega)
 have M:=kN (1+(c:Int)) (by omega) (by omega)
 have A:=kN (1+(d:Int)) (by omega) (by omega)
 obtain ⟨y,p,m⟩:=LZ (v:=1+(c:Int)) (by omega) (by omega)
 obtain ⟨z,n,j⟩:=LZ (v:=1+(d:Int)) (by omega) (by omega)
 have H:Tm aS ([qN 3 w]++ [qN 1 (jY (1+(c:Int)))]++ [oZ 11]) ⟨false,1,0⟩:= .n2 (.n0 (t:=⟨false,0,0⟩) (nP F q r 3 (by simp)) rfl (by kernel_rfl)) (.n0 (t:=⟨false,1,0⟩) (nP y p m 1 (by simp)) rfl (by kernel_rfl)) (by kernel_rfl) rfl (by kernel_rfl)
 have B:Tm aS ([qN 3 w]++ [qN 1 (jY (1+(c:Int)))]++ [oZ 11]++ [qN 2 (jY (1+(d:Int)))]++ [oZ 12]) ⟨false,1, -1⟩:= .n2 H (.n0 (t:=⟨false,0,1⟩) (nP z n j 2 (by simp)) rfl (by kernel_rfl)) (by kernel_rfl) rfl (by kernel_rfl)
 have I:∀ x ∈ [qN 3 w]++ [qN 1 (jY (1+(c:Int)))]++ [oZ 11]++ [qN 2 (jY (1+(d:Int)))]++ [oZ 12],x.sm:=by
  intro x o
  simp only [List.mem_append,List.mem_singleton] at o
  rcases o with (((rfl|rfl)|rfl)|rfl)|rfl
  ·exact FB q r
  ·exact FB p m
  ·exact qC _
  ·exact FB n j
  ·exact qC _
 generalize jY (1+(c:Int))=q1 at*
 generalize jY (1+(d:Int))=q2 at*
 exact ⟨_,k3,i,B,I,by simp,pK [] 12 92 (.n 28 .nil) (.c (show CO 48 [.int .i64 (IntKind.wrap .i64 (((1:Nat):Int)+(d:Int)))] (.ret (qA q2)) by rw [D];exact A) (.c G (.c (show CO 48 [.int .i64 (IntKind.wrap .i64 (((1:Nat):Int)+(c:Int)))] (.ret (qA q1)) by rw [K];exact M) (.c N (.c J .nil)))))⟩
theorem afC (xs:List Int) (nn:Bool) (k:Nat) (j:xs.length<2^63) (o:k≤xs.length):∃ (e:List Nd) (k2:Nat),k2≤xs.length∧Tm aS e ⟨false,1,0⟩∧(∀ x ∈ e,x.sm)∧e.length≤1∧aC prog ap 145 [.sl (h_ aS) 12 true,.ptr 0 0 0,.agg (uk ⟨false,1,0⟩)] [dB xs nn k] (.ret (.own (aZ e) e.length 5)) [dB xs nn k2]:=by
 obtain ⟨r,k1,p,c,f⟩:=dA xs nn k 6 j o (by omega) (by omega)
 have this:r=0∨r=1∨r=2∨r=3∨r=4∨r=5:=by omega
 rcases this with rfl|rfl|rfl|rfl|rfl|rfl
 ·exact ⟨[⟨5,false,[],[],zcc3_1⟩],k1,c,.n0 (by kernel_rfl) rfl (by kernel_rfl),MW ⟨by simp,by simp⟩,by simp,pK [] 51 1240180127100655 (.n 276 .nil) (.c f (.c pz (.c pq (.c Gq (.c Gp (.c Gn (.c Gm (.c Gl (.c Gj (.c Gi (.c Gh (.c Gg (.c Gf .nil)))))))))))))⟩
 ·exact ⟨[⟨6,false,[],[],[116,97,120]⟩],k1,c,.n0 (by kernel_rfl) rfl (by kernel_rfl),MW ⟨by simp,by simp⟩,by simp,pK [] 51 1240180127100655 (.n 276 .nil) (.c f (.c pz (.c pq (.c Gq (.c Gp (.c Gn (.c Gm (.c Gl (.c Gj (.c Gi (.c Gh (.c Gg (.c Gf .nil)))))))))))))⟩
 ·exact ⟨[⟨7,false,[],[],[116,97,120]⟩],k1,c,.n0 (by kernel_rfl) rfl (by kernel_rfl),MW ⟨by simp,by simp⟩,by simp,pK [] 51 1240180127100655 (.n 276 .nil) (.c f (.c pz (.c pq (.c Gq (.c Gp (.c Gn (.c Gm (.c Gl (.c Gj (.c Gi (.c Gh (.c Gg (.c Gf .nil)))))))))))))⟩
 ·exact ⟨[⟨8,false,[],[],[116,97,120]⟩],k1,c,.n0 (by kernel_rfl) rfl (by kernel_rfl),MW ⟨by simp,by simp⟩,by simp,pK [] 51 1240180127100655 (.n 276 .nil) (.c f (.c pz (.c pq (.c Gq (.c Gp (.c Gn (.c Gm (.c Gl (.c Gj (.c Gi (.c Gh (.c Gg (.c Gf .nil)))))))))))))⟩
 ·obtain ⟨e,k2,d,g,m,n,i⟩:=Qb xs nn k1 j c
  have h:aC prog ap 145 [.sl (h_ aS) 12 true,.ptr 0 0 0,.agg (uk ⟨false,1,0⟩)] [dB xs nn k] (.ret (.own (List.take (e.length*5) (aZ e)) e.length 5)) [dB xs nn k2]:=pK [] 52 114280220258031 (.n 274 .nil) (.c i (.c f (.c pz (.c pq (.c Gq (.c Gp (.c Gn (.c Gm (.c Gl (.c Gj (.c Gi (.c Gh (.c Gg (.c Gf .nil))))))))))))))
  rw [List.take_of_length_le (by rw [aN];omega)] at h
  exact ⟨e,k2,d,g,m,n,h⟩
 ·obtain ⟨e,k2,d,g,m,n,i⟩:=Qb xs nn k1 j c
  have h:aC prog ap 145 [.sl (h_ aS) 12 true,.ptr 0 0 0,.agg (uk ⟨false,1,0⟩)] [dB xs nn k] (.ret (.own (List.take (e.length*5) (aZ e)) e.length 5)) [dB xs nn k2]:=pK [] 52 114280220258031 (.n 274 .nil) (.c i (.c f (.c pz (.c pq (.c Gq (.c Gp (.c Gn (.c Gm (.c Gl (.c Gj (.c Gi (.c Gh (.c Gg (.c Gf .nil))))))))))))))
  rw [List.take_of_length_le (by rw [aN];omega)] at h
  exact ⟨e,k2,d,g,m,n,h⟩
theorem afB (xs:List Int) (nn:Bool) (k:Nat) (i:xs.length<2^63) (o:k≤xs.length):∃ (e:List Nd) (k2:Nat),k2≤xs.length∧Tm aS e ⟨false,0,1⟩∧(∀ x ∈ e,x.sm)∧e.length≤1∧aC prog ap 145 [.sl (h_ aS) 12 true,.ptr 0 0 0,.agg (uk ⟨false,0,1⟩)] [dB xs nn k] (.ret (.own (aZ e) e.length 5)) [dB xs nn k2]:=by
 obtain ⟨r,k1,p,d,j⟩:=dA xs nn k 3 i o (by omega) (by omega)
 have this:r=0∨r=1∨r=2:=by omega
 rcases this with rfl|rfl|rfl
 ·exact ⟨[⟨5,false,[],[],[115,116,97,121]⟩],k1,d,.n0 (by kernel_rfl) rfl (by kernel_rfl),MW ⟨by simp,by simp⟩,by simp,pK [] 51 1239076303730551 (.n 246 .nil) (.c j (.c pz (.c pq (.c Gq (.c Gp (.c Gn (.c Gm (.c Gl (.c Gj (.c Gi (.c Gh (.c Gg (.c Gf .nil)))))))))))))⟩
 ·obtain ⟨e,k2,c,f,m,n,g⟩:=Qa xs nn k1 i d
  have h:aC prog ap 145 [.sl (h_ aS) 12 true,.ptr 0 0 0,.agg (uk ⟨false,0,1⟩)] [dB xs nn k] (.ret (.own (List.take (e.length*5) (aZ e)) e.length 5)) [dB xs nn k2]:=pK [] 52 113176396887927 (.n 244 .nil) (.c g (.c j (.c pz (.c pq (.c Gq (.c Gp (.c Gn (.c Gm (.c Gl (.c Gj (.c Gi (.c Gh (.c Gg (.c Gf .nil))))))))))))))
  rw [List.take_of_length_le (by rw [aN];omega)] at h
  exact ⟨e,k2,c,f,m,n,h⟩
 ·obtain ⟨e,k2,c,f,m,n,g⟩:=Qa xs nn k1 i d
  have h:aC prog ap 145 [.sl (h_ aS) 12 true,.ptr 0 0 0,.agg (uk ⟨false,0,1⟩)] [dB xs nn k] (.ret (.own (List.take (e.length*5) (aZ e)) e.length 5)) [dB xs nn k2]:=pK [] 52 113176396887927 (.n 244 .nil) (.c g (.c j (.c pz (.c pq (.c Gq (.c Gp (.c Gn (.c Gm (.c Gl (.c Gj (.c Gi (.c Gh (.c Gg (.c Gf .nil))))))))))))))
  rw [List.take_of_length_le (by rw [aN];omega)] at h
  exact ⟨e,k2,c,f,m,n,h⟩
theorem WT (xs:List Int) (nn:Bool) (k:Nat) (i:xs.length<2^63) (o:k≤xs.length):∃ (e:List Nd) (k2:Nat),k2≤xs.length∧Tm aS e ⟨false,0,0⟩∧(∀ x ∈ e,x.sm)∧e.length≤1∧aC prog ap 145 [.sl (h_ aS) 12 true,.ptr 0 0 0,.agg (uk ⟨false,0,0⟩)] [dB xs nn k] (.ret (.own (aZ e) e.length 5)) [dB xs nn k2]:=by
 obtain ⟨r,k1,p,d,j⟩:=dA xs nn k 3 i o (by omega) (by omega)
 have this:r=0∨r=1∨r=2:=by omega
 rcases this with rfl|rfl|rfl
 ·exact ⟨[⟨5,false,[],[],[107,105,100,115]⟩],k1,d,.n0 (by kernel_rfl) rfl (by kernel_rfl),MW ⟨by simp,by simp⟩,by simp,pK [] 51 1239076303728375 (.n 246 .nil) (.c j (.c pz (.c pq (.c Gq (.c Gp (.c Gn (.c Gm (.c Gl (.c Gj (.c Gi (.c Gh (.c Gg (.c Gf .nil)))))))))))))⟩
 ·obtain ⟨e,k2,c,f,m,n,g⟩:=Qc xs nn k1 i d
  have h:aC prog ap 145 [.sl (h_ aS) 12 true,.ptr 0 0 0,.agg (uk ⟨false,0,0⟩)] [dB xs nn k] (.ret (.own (List.take (e.length*5) (aZ e)) e.length 5)) [dB xs nn k2]:=pK [] 52 113176396885751 (.n 244 .nil) (.c g (.c j (.c pz (.c pq (.c Gq (.c Gp (.c Gn (.c Gm (.c Gl (.c Gj (.c Gi (.c Gh (.c Gg (.c Gf .nil))))))))))))))
  rw [List.take_of_length_le (by rw [aN];omega)] at h
  exact ⟨e,k2,c,f,m,n,h⟩
 ·obtain ⟨e,k2,c,f,m,n,g⟩:=Qc xs nn k1 i d
  have h:aC prog ap 145 [.sl (h_ aS) 12 true,.ptr 0 0 0,.agg (uk ⟨false,0,0⟩)] [dB xs nn k] (.ret (.own (List.take (e.length*5) (aZ e)) e.length 5)) [dB xs nn k2]:=pK [] 52 113176396885751 (.n 244 .nil) (.c g (.c j (.c pz (.c pq (.c Gq (.c Gp (.c Gn (.c Gm (.c Gl (.c Gj (.c Gi (.c Gh (.c Gg (.c Gf .nil))))))))))))))
  rw [List.take_of_length_le (by rw [aN];omega)] at h
  exact ⟨e,k2,c,f,m,n,h⟩
theorem afE (xs:List Int) (nn:Bool) (k:Nat) (i:xs.length<2^63) (j:k≤xs.length):∃ (e:List Nd) (k2:Nat),k2≤xs.length∧Tm aS e ⟨true,0,0⟩∧(∀ x ∈ e,x.sm)∧e.length≤1∧aC prog ap 145 [.sl (h_ aS) 12 true,.ptr 0 0 0,.agg (uk ⟨true,0,0⟩)] [dB xs nn k] (.ret (.own (aZ e) e.length 5)) [dB xs nn k2]:=by
 obtain ⟨r,k1,m,c,f⟩:=dA xs nn k 6 i j (by omega) (by omega)
 have this:r=0∨r=1∨r=2∨r=3∨r=4∨r=5:=by omega
 rcases this with rfl|rfl|rfl|rfl|rfl|rfl
 ·exact ⟨[⟨5,false,[],[],zcc3_0⟩],k1,c,.n0 (by kernel_rfl) rfl (by kernel_rfl),MW ⟨by simp,by simp⟩,by simp,pK [] 51 1239145292689271 (.n 276 .nil) (.c f (.c pz (.c pq (.c Gq (.c Gp (.c Gn (.c Gm (.c Gl (.c Gj (.c Gi (.c Gh (.c Gg (.c Gf .nil)))))))))))))⟩
 ·exact ⟨[⟨6,false,[],[],[112,111,111,114]⟩],k1,c,.n0 (by kernel_rfl) rfl (by kernel_rfl),MW ⟨by simp,by simp⟩,by simp,pK [] 51 1239145292689271 (.n 276 .nil) (.c f (.c pz (.c pq (.c Gq (.c Gp (.c Gn (.c Gm (.c Gl (.c Gj (.c Gi (.c Gh (.c Gg (.c Gf .nil)))))))))))))⟩
 ·exact ⟨[⟨7,false,[],[],[112,111,111,114]⟩],k1,c,.n0 (by kernel_rfl) rfl (by kernel_rfl),MW ⟨by simp,by simp⟩,by simp,pK [] 51 1239145292689271 (.n 276 .nil) (.c f (.c pz (.c pq (.c Gq (.c Gp (.c Gn (.c Gm (.c Gl (.c Gj (.c Gi (.c Gh (.c Gg (.c Gf .nil)))))))))))))⟩
 ·exact ⟨[⟨8,false,[],[],[112,111,111,114]⟩],k1,c,.n0 (by kernel_rfl) rfl (by kernel_rfl),MW ⟨by simp,by simp⟩,by simp,pK [] 51 1239145292689271 (.n 276 .nil) (.c f (.c pz (.c pq (.c Gq (.c Gp (.c Gn (.c Gm (.c Gl (.c Gj (.c Gi (.c Gh (.c Gg (.c Gf .nil)))))))))))))⟩
 ·obtain ⟨s,k2,hs,d,h⟩:=dA xs nn k1 2 i c (by omega) (by omega)
  have this:s=0∨s=1:=by omega
  rcases this with rfl|rfl
  ·have g:=kN ((0:Nat):Int) (by decide) (by decide)
   exact ⟨[qN 4 (jY ((0:Nat):Int))],k2,d,.n0 (by kernel_rfl) rfl (by kernel_rfl),MW (FB (by decide) (by decide)),by simp,pK [] 52 2365045199531895 (.n 271 .nil) (.c g (.c h (.c f (.c pz (.c pq (.c Gq (.c Gp (.c Gn (.c Gm (.c Gl (.c Gj (.c Gi (.c Gh (.c Gg (.c Gf .nil)))))))))))))))⟩
  ·have g:=kN ((1:Nat):Int) (by decide) (by decide)
   exact ⟨[qN 4 (jY ((1:Nat):Int))],k2,d,.n0 (by kernel_rfl) rfl (by kernel_rfl),MW (FB (by decide) (by decide)),by simp,pK [] 52 2365045199531895 (.n 271 .nil) (.c g (.c h (.c f (.c pz (.c pq (.c Gq (.c Gp (.c Gn (.c Gm (.c Gl (.c Gj (.c Gi (.c Gh (.c Gg (.c Gf .nil)))))))))))))))⟩
 ·obtain ⟨s,k2,hs,d,h⟩:=dA xs nn k1 2 i c (by omega) (by omega)
  have this:s=0∨s=1:=by omega
  rcases this with rfl|rfl
  ·have g:=kN ((0:Nat):Int) (by decide) (by decide)
   exact ⟨[qN 4 (jY ((0:Nat):Int))],k2,d,.n0 (by kernel_rfl) rfl (by kernel_rfl),MW (FB (by decide) (by decide)),by simp,pK [] 52 2365045199531895 (.n 271 .nil) (.c g (.c h (.c f (.c pz (.c pq (.c Gq (.c Gp (.c Gn (.c Gm (.c Gl (.c Gj (.c Gi (.c Gh (.c Gg (.c Gf .nil)))))))))))))))⟩
  ·have g:=kN ((1:Nat):Int) (by decide) (by decide)
   exact ⟨[qN 4 (jY ((1:Nat):Int))],k2,d,.n0 (by kernel_rfl) rfl (by kernel_rfl),MW (FB (by decide) (by decide)),by simp,pK [] 52 2365045199531895 (.n 271 .nil) (.c g (.c h (.c f (.c pz (.c pq (.c Gq (.c Gp (.c Gn (.c Gm (.c Gl (.c Gj (.c Gi (.c Gh (.c Gg (.c Gf .nil)))))))))))))))⟩
theorem afD (xs:List Int) (nn:Bool) (k:Nat) (i:xs.length<2^63) (o:k≤xs.length):∃ (e:List Nd) (k2:Nat),k2≤xs.length∧Tm aS e ⟨false,1, -1⟩∧(∀ x ∈ e,x.sm)∧e.length≤5∧aC prog ap 145 [.sl (h_ aS) 12 true,.ptr 0 0 0,.agg (uk ⟨false,1, -1⟩)] [dB xs nn k] (.ret (.own (aZ e) e.length 5)) [dB xs nn k2]:=by
 obtain ⟨r,k1,p,d,n⟩:=dA xs nn k 2 i o (by omega) (by omega)
 have this:r=0∨r=1:=by omega
 rcases this with rfl|rfl
 ·obtain ⟨e,k2,c,f,j,m,g⟩:=Qd xs nn k1 i d
  have h:aC prog ap 145 [.sl (h_ aS) 12 true,.ptr 0 0 0,.agg (uk ⟨false,1, -1⟩)] [dB xs nn k] (.ret (.own (List.take (e.length*5) (aZ e)) e.length 5)) [dB xs nn k2]:=pK [] 51 56588198442871 (.n 235 .nil) (.c g (.c n (.c pz (.c pq (.c Gq (.c Gp (.c Gn (.c Gm (.c Gl (.c Gj (.c Gi (.c Gh (.c Gg (.c Gf .nil))))))))))))))
  rw [List.take_of_length_le (by rw [aN];omega)] at h
  exact ⟨e,k2,c,f,j,m,h⟩
 ·obtain ⟨e,k2,c,f,j,m,g⟩:=Qd xs nn k1 i d
  have h:aC prog ap 145 [.sl (h_ aS) 12 true,.ptr 0 0 0,.agg (uk ⟨false,1, -1⟩)] [dB xs nn k] (.ret (.own (List.take (e.length*5) (aZ e)) e.length 5)) [dB xs nn k2]:=pK [] 51 56588198442871 (.n 235 .nil) (.c g (.c n (.c pz (.c pq (.c Gq (.c Gp (.c Gn (.c Gm (.c Gl (.c Gj (.c Gi (.c Gh (.c Gg (.c Gf .nil))))))))))))))
  rw [List.take_of_length_le (by rw [aN];omega)] at h
  exact ⟨e,k2,c,f,j,m,h⟩
theorem OU {n:Nat} (a b:List Nd) (h:n=a.length):List.take (n*5) (aZ a)++aZ b=aZ (a++b):=by
 rw [List.take_of_length_le (by rw [aN];omega),Ju]
theorem OV {n:Nat} (a:List Nd) (x:Nd) (h:n=a.length):List.take (n*5) (aZ a)++ [AV.int .i64 x.op,.bool x.neg,.str x.num,.str x.den,.str x.name]=aZ (a++ [x]):=by
 rw [List.take_of_length_le (by rw [aN];omega),Ju];rfl
theorem ahq (x:Nd) (a:List Nd) (g:(Nat.ble (a.length+1) 1099511627776)=true) (f:(Nat.ble (a.length*5) (List.length (aZ a)))=true) (c:(Nat.beq (List.length (aZ a)) (a.length*5))=true) (d:(Nat.ble a.length 1099511627776)=true) (e:lit false (Nat.beq a.length 0)=true):CO 146 [.agg [.int .i64 x.op,.bool x.neg,.str x.num,.str x.den,.str x.name],.sl [.sl (aZ a) a.length true] 1 true] (.ret (.own (List.take ((a.length+1)*5) (aZ (a++ [x]))) (a.length+1) 5)):=pK [] 3 1 (.k 1 g (.c f (.k 7 c (.c d (.c e (.n 4 .nil)))))) (.b 22 (OV a x rfl) (.b 18 (Eq.refl (aZ a)) .nil))
theorem ad5 (x:Nd) (a:List Nd) (ne:a ≠ []) (c:a.length<1000):CO 146 [.agg (zQ x),.sl [.sl (aZ a) a.length true] 1 true] (.ret (.own (aZ (a++ [x])) (a++ [x]).length 5)):=by
 have hp:0<a.length:=by cases a with|nil=>exact absurd rfl ne|cons _ _=>simp
 have d:Nat.beq a.length 0=false:=by cases c:a.length with|zero=>omega|succ n=>rfl
 have h:=ahq x a (by first|(simp [aN];done)|(simp [aN];omega)|omega) (by first|(simp [aN];done)|(simp [aN];omega)|omega) (by first|(simp [aN];done)|(simp [aN];omega)|omega) (by first|(simp [aN];done)|(simp [aN];omega)|omega) (aF d)
 rw [List.take_of_length_le (by rw [aN];first|(simp;done)|(simp;omega))] at h
 rw [show (a++ [x]).length=a.length+1 by simp [Nat.add_assoc]]
 exact h
theorem ahr (x:Nd) (a b:List Nd) (i:(Nat.ble ((a.length+b.length)+1) 1099511627776)=true) (g:(Nat.ble ((a.length+b.length)*5) (List.length (aZ (a++b))))=true) (d:(Nat.beq (List.length (aZ b)) (b.length*5))=true) (e:(Nat.ble (a.length+b.length) 1099511627776)=true) (f:(Nat.ble (a.length*5) (List.length (aZ a)))=true) (j:(Nat.beq (List.length (aZ a)) (a.length*5))=true) (c:(Nat.ble a.length 1099511627776)=true) (h:lit false (Nat.beq a.length 0)=true):CO 146 [.agg [.int .i64 x.op,.bool x.neg,.str x.num,.str x.den,.str x.name],.sl [.sl (aZ a) a.length true,.sl (aZ b) b.length true] 2 true] (.ret (.own (List.take (((a.length+b.length)+1)*5) (aZ (a++b++ [x]))) ((a.length+b.length)+1) 5)):=pK [] 4 5 (.k 1 i (.c g (.k 7 d (.c e (.c f (.k 5 j (.c c (.c h (.n 4 .nil))))))))) (.b 22 (OV (a++b) x List.length_append.symm) (.b 18 (OU a b rfl) (.b 18 (Eq.refl (aZ a)) .nil)))
theorem ad6 (x:Nd) (a b:List Nd) (ne:a ≠ []) (d:a.length<1000) (c:b.length<1000):CO 146 [.agg (zQ x),.sl [.sl (aZ a) a.length true,.sl (aZ b) b.length true] 2 true] (.ret (.own (aZ (a++b++ [x])) (a++b++ [x]).length 5)):=by
 have hp:0<a.length:=by cases a with|nil=>exact absurd rfl ne|cons _ _=>simp
 have c:Nat.beq a.length 0=false:=by cases d:a.length with|zero=>omega|succ n=>rfl
 have h:=ahr x a b (by first|(simp [aN];done)|(simp [aN];omega)|omega) (by first|(simp [aN];done)|(simp [aN];omega)|omega) (by first|(simp [aN];done)|(simp [aN];omega)|omega) (by first|(simp [aN];done)|(simp [aN];omega)|omega) (by first|(simp [aN];done)|(simp [aN];omega)|omega) (by first|(simp [aN];done)|(simp [aN];omega)|omega) (by first|(simp [aN];done)|(simp [aN];omega)|omega) (aF c)
 rw [List.take_of_length_le (by rw [aN];first|(simp;done)|(simp;omega))] at h
 rw [show (a++b++ [x]).length=a.length+b.length+1 by simp [Nat.add_assoc]]
 exact h
theorem ahs (x:Nd) (a b c:List Nd) (n:(Nat.ble (((a.length+b.length)+c.length)+1) 1099511627776)=true) (j:(Nat.ble (((a.length+b.length)+c.length)*5) (List.length (aZ (a++b++c))))=true) (f:(Nat.beq (List.length (aZ c)) (c.length*5))=true) (g:(Nat.ble ((a.length+b.length)+c.length) 1099511627776)=true) (h:(Nat.ble ((a.length+b.length)*5) (List.length (aZ (a++b))))=true) (o:(Nat.beq (List.length (aZ b)) (b.length*5))=true) (e:(Nat.ble (a.length+b.length) 1099511627776)=true) (k:(Nat.ble (a.length*5) (List.length (aZ a)))=true) (m:(Nat.beq (List.length (aZ a)) (a.length*5))=true) (i:(Nat.ble a.length 1099511627776)=true) (d:lit false (Nat.beq a.length 0)=true):CO 146 [.agg [.int .i64 x.op,.bool x.neg,.str x.num,.str x.den,.str x.name],.sl [.sl (aZ a) a.length true,.sl (aZ b) b.length true,.sl (aZ c) c.length true] 3 true] (.ret (.own (List.take ((((a.length+b.length)+c.length)+1)*5) (aZ (a++b++c++ [x]))) (((a.length+b.length)+c.length)+1) 5)):=pK [] 5 13 (.k 1 n (.c j (.k 7 f (.c g (.c h (.k 5 o (.c e (.c k (.k 5 m (.c i (.c d (.n 4 .nil)))))))))))) (.b 22 (OV (a++b++c) x (by rw [List.length_append,List.length_append])) (.b 18 (OU (a++b) c List.length_append.symm) (.b 18 (OU a b rfl) (.b 18 (Eq.refl (aZ a)) .nil))))
theorem ad8 (x:Nd) (a b c:List Nd) (ne:a ≠ []) (e:a.length<1000) (d:b.length<1000) (f:c.length<1000):CO 146 [.agg (zQ x),.sl [.sl (aZ a) a.length true,.sl (aZ b) b.length true,.sl (aZ c) c.length true] 3 true] (.ret (.own (aZ (a++b++c++ [x])) (a++b++c++ [x]).length 5)):=by
 have hp:0<a.length:=by cases a with|nil=>exact absurd rfl ne|cons _ _=>simp
 have d:Nat.beq a.length 0=false:=by cases e:a.length with|zero=>omega|succ n=>rfl
 have h:=ahs x a b c (by first|(simp [aN];done)|(simp [aN];omega)|omega) (by first|(simp [aN];done)|(simp [aN];omega)|omega) (by first|(simp [aN];done)|(simp [aN];omega)|omega) (by first|(simp [aN];done)|(simp [aN];omega)|omega) (by first|(simp [aN];done)|(simp [aN];omega)|omega) (by first|(simp [aN];done)|(simp [aN];omega)|omega) (by first|(simp [aN];done)|(simp [aN];omega)|omega) (by first|(simp [aN];done)|(simp [aN];omega)|omega) (by first|(simp [aN];done)|(simp [aN];omega)|omega) (by first|(simp [aN];done)|(simp [aN];omega)|omega) (aF d)
 rw [List.take_of_length_le (by rw [aN];first|(simp;done)|(simp;omega))] at h
 rw [show (a++b++c++ [x]).length=a.length+b.length+c.length+1 by simp [Nat.add_assoc]]
 exact h
def tM:Ty:=⟨false,1,0⟩
def tD:Ty:=⟨false,0,1⟩
def tP:Ty:=⟨false,0,0⟩
def b_ (t:Ty):Prop:=t=tM∨t=tD∨t=tP∨t=tT
def bL:Nat→Nat
 |0=>1
 |n+1=>3*bL n+1
def Mk (f:Nat) (pre post:List AV) (t:Ty) (bnd:Nat) (xs:List Int) (nn:Bool) (k:Nat):Prop:=∃ (e:List Nd) (k2:Nat),k2≤xs.length∧Tm aS e t∧(∀ x ∈ e,x.sm)∧e.length≤bnd∧aC prog ap f (pre++ .agg (uk t)::post) [dB xs nn k] (.ret (.own (aZ e) e.length 5)) [dB xs nn k2]
abbrev jL (t:Ty) (lv:Int) (bnd:Nat) (xs:List Int) (nn:Bool) (k:Nat):Prop:=Mk 95 [.sl (h_ aS) 12 true,.ptr 0 0 0] [.int .i64 lv] t bnd xs nn k
theorem OT {f:Nat} {pre post:List AV} {t:Ty} {c k k2:Nat} {xs:List Int} {nn:Bool} {e:List Nd} (j:k2≤xs.length) (i:Tm aS e t) (d:∀ x ∈ e,x.sm) (g:e.length≤c) (h:aC prog ap f (pre++ .agg (uk t)::post) [dB xs nn k] (.ret (.own (List.take (e.length*5) (aZ e)) e.length 5)) [dB xs nn k2]):Mk f pre post t c xs nn k:=by
 rw [List.take_of_length_le (by rw [aN];omega)] at h
 exact ⟨e,k2,j,i,d,g,h⟩
theorem Ci (a:List Nd):List.take (a.length*5) (aZ a)=aZ a:=List.take_of_length_le (by rw [aN];omega)
theorem YZ (x:Nd) (a:List Nd) (ne:a ≠ []) (c:a.length<1000):CO 146 [.agg (zQ x),.sl [.sl (List.take (a.length*5) (aZ a)) a.length true] 1 true] (.ret (.own (aZ (a++ [x])) (a++ [x]).length 5)):=by
 simp only [Ci]
 exact ad5 x a ne c
theorem aco {a:List Nd} {x:Nd} (d:∀ y ∈ a,y.sm) (e:x.sm):∀ y ∈ a++ [x],y.sm:=by
 intro y c
 simp only [List.mem_append,List.mem_singleton] at c
 rcases c with c|rfl
 ·exact d y c
 ·exact e
theorem Ve (x:Nd) (a b:List Nd) (ne:a ≠ []) (c:a.length<1000) (d:b.length<1000):CO 146 [.agg (zQ x),.sl [.sl (List.take (a.length*5) (aZ a)) a.length true,.sl (List.take (b.length*5) (aZ b)) b.length true] 2 true] (.ret (.own (aZ (a++b++ [x])) (a++b++ [x]).length 5)):=by
 simp only [Ci]
 exact ad6 x a b ne c d
theorem Yl {a b:List Nd} {x:Nd} (d:∀ y ∈ a,y.sm) (f:∀ y ∈ b,y.sm) (e:x.sm):∀ y ∈ a++b++ [x],y.sm:=by
 intro y c
 simp only [List.mem_append,List.mem_singleton] at c
 rcases c with (c|c)|rfl
 ·exact d y c
 ·exact f y c
 ·exact e
theorem aht (x:Nd) (a b c:List Nd) (ne:a ≠ []) (d:a.length<1000) (e:b.length<1000) (f:c.length<1000):CO 146 [.agg (zQ x),.sl [.sl (List.take (a.length*5) (aZ a)) a.length true,.sl (List.take (b.length*5) (aZ b)) b.length true,.sl (List.take (c.length*5) (aZ c)) c.length true] 3 true] (.ret (.own (aZ (a++b++c++ [x])) (a++b++c++ [x]).length 5)):=by
 simp only [Ci]
 exact ad8 x a b c ne d e f
theorem akV {a b c:List Nd} {x:Nd} (e:∀ y ∈ a,y.sm) (g:∀ y ∈ b,y.sm) (h:∀ y ∈ c,y.sm) (f:x.sm):∀ y ∈ a++b++c++ [x],y.sm:=by
 intro y d
 simp only [List.mem_append,List.mem_singleton] at d
 rcases d with ((d|d)|d)|rfl
 ·exact e y d
 ·exact g y d
 ·exact h y d
 ·exact f
theorem QF {t:Ty} (e:b_ t) (xs:List Int) (nn:Bool) (k:Nat) (c:xs.length<2^63) (d:k≤xs.length):Mk 145 [.sl (h_ aS) 12 true,.ptr 0 0 0] [] t 1 xs nn k:=by
 rcases e with rfl|rfl|rfl|rfl
 ·exact afC xs nn k c d
 ·exact afB xs nn k c d
 ·exact WT xs nn k c d
 ·exact afE xs nn k c d
theorem ajl {t:Ty} (f:b_ t) (xs:List Int) (nn:Bool) (k:Nat) (g:xs.length<2^63) (m:k≤xs.length):jL t 0 1 xs nn k:=by
 obtain ⟨e,k2,d,j,h,i,c⟩:=QF f xs nn k g m
 refine OT d j h i ?_
 rcases f with rfl|rfl|rfl|rfl
 ·exact pK [] 2 3 (.n 5 .nil) (.c c .nil)
 ·exact pK [] 2 3 (.n 5 .nil) (.c c .nil)
 ·exact pK [] 2 3 (.n 5 .nil) (.c c .nil)
 ·exact pK [] 2 3 (.n 5 .nil) (.c c .nil)
theorem ajn (xs:List Int) (nn:Bool) (k:Nat) (d:xs.length<2^63) (j:k≤xs.length):jL ⟨false,1, -1⟩ 0 5 xs nn k:=by
 obtain ⟨e,k2,c,i,f,g,h⟩:=afD xs nn k d j
 exact OT c i f g (pK [] 2 3 (.n 5 .nil) (.c h .nil))
def kT:Nat→Ty
 |0=>tM
 |1=>tD
 |_=>tP
theorem kd0:CO 63 [.int .i64 1,.int .i64 0] (.ret (.agg [.bool false,.int .i64 1,.int .i64 0])):=cK (.nil)
theorem kd1:CO 63 [.int .i64 0,.int .i64 1] (.ret (.agg [.bool false,.int .i64 0,.int .i64 1])):=cK (.nil)
theorem kd2:CO 63 [.int .i64 0,.int .i64 0] (.ret (.agg [.bool false,.int .i64 0,.int .i64 0])):=cK (.nil)
theorem kd3:CO 64 [] (.ret (.agg [.bool true,.int .i64 0,.int .i64 0])):=cK (.nil)
theorem kd4:CO 63 [.int .i64 1,.int .i64 (-1)] (.ret (.agg [.bool false,.int .i64 1,.int .i64 (-1)])):=cK (.nil)
theorem kd5:CO 65 [.int .i64 0,.int .i64 5] (.ret (.int .i64 0)):=cK (.nil)
theorem kd6:CO 32 [.int .i64 0] (.ret (.agg [.bool false,.int .i64 1,.int .i64 0])):=cK (.c kd5 (.c kd4 (.c kd3 (.c kd2 (.c kd1 (.c kd0 .nil))))))
theorem kd7:CO 65 [.int .i64 1,.int .i64 5] (.ret (.int .i64 1)):=cK (.nil)
theorem kd8:CO 32 [.int .i64 1] (.ret (.agg [.bool false,.int .i64 0,.int .i64 1])):=cK (.c kd7 (.c kd4 (.c kd3 (.c kd2 (.c kd1 (.c kd0 .nil))))))
theorem kd9:CO 65 [.int .i64 2,.int .i64 5] (.ret (.int .i64 2)):=cK (.nil)
theorem afy:CO 32 [.int .i64 2] (.ret (.agg [.bool false,.int .i64 0,.int .i64 0])):=cK (.c kd9 (.c kd4 (.c kd3 (.c kd2 (.c kd1 (.c kd0 .nil))))))
theorem WP {u:Nat} (c:u<3):CO 32 [.int .i64 (u:Int)] (.ret (.agg (uk (kT u))))∧b_ (kT u):=by
 rcases (show u=0∨u=1∨u=2 by omega) with rfl|rfl|rfl
 ·exact ⟨kd6,by simp [b_,kT]⟩
 ·exact ⟨kd8,by simp [b_,kT]⟩
 ·exact ⟨afy,by simp [b_,kT]⟩
theorem pT:b_ tT:=by simp [b_]
theorem pP:b_ tP:=by simp [b_]
def LY (t:Ty):Prop:=t=tM∨t=tD∨t=tP
theorem LY.pl {t:Ty} (h:LY t):b_ t:=by rcases h with rfl|rfl|rfl<;>simp [b_]
theorem ana {xs:List Int} {nn:Bool} {k lv y k1 s k2:Nat} (v:xs.length<2^63) (f:lv<2^62) (O:bL lv<300) (w:∀ t,b_ t→∀ k,k≤xs.length→jL t (lv:Int) (bL lv) xs nn k) (A:((y:Int)==((0:Nat):Int))=false) (C:(decide ((((lv+1):Nat):Int)≤((0:Nat):Int)))=false) (i:k2≤xs.length) (E:aC prog ap 97 [.ptr 0 0 0,.int .i64 5] [dB xs nn k] (.ret (.int .i64 (y:Int))) [dB xs nn k1]) (D:aC prog ap 97 [.ptr 0 0 0,.int .i64 5] [dB xs nn k1] (.ret (.int .i64 (s:Int))) [dB xs nn k2]) (hs:s=0∨s=1):jL tT ((lv+1:Nat):Int) (bL (lv+1)) xs nn k:=by
 obtain ⟨u,k3,j,n,o⟩:=dA xs nn k2 3 v i (by omega) (by omega)
 obtain ⟨r,k4,P,m,z⟩:=dA xs nn k3 2 v n (by omega) (by omega)
 have c:=(WP j).1
 obtain ⟨B,k5,g,G,m0,Q,p⟩:=w (kT u) (WP j).2 k4 m
 obtain ⟨F,k6,h,J,K,N,q⟩:=w (kT u) (WP j).2 k5 g
 have d:=Ve (oZ (16+(r:Int))) B F G.ne (by omega) (by omega)
 have I:aK (oZ (16+(r:Int)))=0:=by rcases (show u=0∨u=1∨u=2 by omega) with rfl|rfl|rfl<;>rcases (show r=0∨r=1 by omega) with rfl|rfl<;>kernel_rfl
 have H:fG (oZ (16+(r:Int))).op=2:=by rcases (show u=0∨u=1∨u=2 by omega) with rfl|rfl|rfl<;>rcases (show r=0∨r=1 by omega) with rfl|rfl<;>rfl
 have M:mG aS (oZ (16+(r:Int))) [(kT u),(kT u)]=(tT,0):=by rcases (show u=0∨u=1∨u=2 by omega) with rfl|rfl|rfl<;>rcases (show r=0∨r=1 by omega) with rfl|rfl<;>kernel_rfl
 refine OT (e:=B++F++ [oZ (16+(r:Int))]) h (.n2 G J I H M) (Yl m0 K (qC _)) (by simp [bL];omega) ?_
 rcases hs with rfl|rfl
 ·rcases (show u=0∨u=1∨u=2 by omega) with rfl|rfl|rfl<;>rcases (show r=0∨r=1 by omega) with rfl|rfl<;>exact pK [] 5 28 (.k 11 (aF A) (.c (aF C) .nil)) (.c d (.c q (.c p (.c z (.c c (.c o (.c D (.v 27 (.eq (Su f)) (.c E .nil)))))))))
 ·rcases (show u=0∨u=1∨u=2 by omega) with rfl|rfl|rfl<;>rcases (show r=0∨r=1 by omega) with rfl|rfl<;>exact pK [] 5 20 (.k 11 (aF A) (.c (aF C) .nil)) (.c d (.c q (.c p (.c z (.c c (.c o (.c D (.v 27 (.eq (Su f)) (.c E .nil)))))))))
theorem anb {xs:List Int} {nn:Bool} {k lv i k1 s k2:Nat} (z:xs.length<2^63) (g:lv<2^62) (y:bL lv<300) (r:∀ t,b_ t→∀ k,k≤xs.length→jL t (lv:Int) (bL lv) xs nn k) (m:((i:Int)==((0:Nat):Int))=false) (p:(decide ((((lv+1):Nat):Int)≤((0:Nat):Int)))=false) (c:k2≤xs.length) (u:aC prog ap 97 [.ptr 0 0 0,.int .i64 5] [dB xs nn k] (.ret (.int .i64 (i:Int))) [dB xs nn k1]) (w:aC prog ap 97 [.ptr 0 0 0,.int .i64 5] [dB xs nn k1] (.ret (.int .i64 (s:Int))) [dB xs nn k2]) (hs:s=2):jL tT ((lv+1:Nat):Int) (bL (lv+1)) xs nn k:=by
 obtain ⟨h,k3,d,j,m0,A,o⟩:=r tT pT k2 c
 have f:=YZ (oZ 20) h j.ne (by omega)
 have q:aK (oZ 20)=0:=by kernel_rfl
 have n:fG (oZ 20).op=1:=by rfl
 have v:mG aS (oZ 20) [tT]=(tT,0):=by kernel_rfl
 refine OT (e:=h++ [oZ 20]) d (.n1 j q n v) (aco m0 (qC _)) (by simp [bL];omega) ?_
 subst hs
 exact pK [] 6 36 (.k 8 (aF m) (.c (aF p) .nil)) (.c f (.c o (.c w (.v 27 (.eq (Su g)) (.c u .nil)))))
theorem anc {xs:List Int} {nn:Bool} {k lv m k1 s k2:Nat} (J:xs.length<2^63) (i:lv<2^62) (M:bL lv<300) (d:∀ t,b_ t→∀ k,k≤xs.length→jL t (lv:Int) (bL lv) xs nn k) (B:((m:Int)==((0:Nat):Int))=false) (D:(decide ((((lv+1):Nat):Int)≤((0:Nat):Int)))=false) (f:k2≤xs.length) (G:aC prog ap 97 [.ptr 0 0 0,.int .i64 5] [dB xs nn k] (.ret (.int .i64 (m:Int))) [dB xs nn k1]) (E:aC prog ap 97 [.ptr 0 0 0,.int .i64 5] [dB xs nn k1] (.ret (.int .i64 (s:Int))) [dB xs nn k2]) (hs:s=3):jL tT ((lv+1:Nat):Int) (bL (lv+1)) xs nn k:=by
 obtain ⟨o,k3,j,q,m0,N,u⟩:=d tT pT k2 f
 obtain ⟨p,k4,h,A,F,I,v⟩:=d tT pT k3 j
 obtain ⟨n,k5,c,w,z,K,C⟩:=d tT pT k4 h
 have g:=aht (oZ 15) o p n q.ne (by omega) (by omega) (by omega)
 have y:aK (oZ 15)=0:=by kernel_rfl
 have r:fG (oZ 15).op=3:=by rfl
 have H:mG aS (oZ 15) [tT,tT,tT]=(tT,0):=by kernel_rfl
 refine OT (e:=o++p++n++ [oZ 15]) c (.n3 q A w y r H) (akV m0 F z (qC _)) (by simp [bL];omega) ?_
 subst hs
 exact pK [] 7 68 (.k 15 (aF B) (.c (aF D) .nil)) (.c g (.c C (.c v (.c u (.c E (.v 27 (.eq (Su i)) (.c G .nil)))))))
theorem anf {xs:List Int} {nn:Bool} {k lv m k1 s k2:Nat} (w:xs.length<2^63) (h:lv<2^62) (I:bL lv<300) (j:∀ t,b_ t→∀ k,k≤xs.length→jL t (lv:Int) (bL lv) xs nn k) (B:((m:Int)==((0:Nat):Int))=false) (C:(decide ((((lv+1):Nat):Int)≤((0:Nat):Int)))=false) (d:k2≤xs.length) (F:aC prog ap 97 [.ptr 0 0 0,.int .i64 5] [dB xs nn k] (.ret (.int .i64 (m:Int))) [dB xs nn k1]) (D:aC prog ap 97 [.ptr 0 0 0,.int .i64 5] [dB xs nn k1] (.ret (.int .i64 (s:Int))) [dB xs nn k2]) (hs:s=4):jL tT ((lv+1:Nat):Int) (bL (lv+1)) xs nn k:=by
 obtain ⟨r,k3,J,i,A⟩:=dA xs nn k2 2 w d (by omega) (by omega)
 obtain ⟨n,k4,g,p,m0,K,u⟩:=j tT pT k3 i
 obtain ⟨o,k5,c,z,E,H,v⟩:=j tT pT k4 g
 have f:=Ve (oZ (18+(r:Int))) n o p.ne (by omega) (by omega)
 have y:aK (oZ (18+(r:Int)))=0:=by rcases (show r=0∨r=1 by omega) with rfl|rfl<;>kernel_rfl
 have q:fG (oZ (18+(r:Int))).op=2:=by rcases (show r=0∨r=1 by omega) with rfl|rfl<;>rfl
 have G:mG aS (oZ (18+(r:Int))) [tT,tT]=(tT,0):=by rcases (show r=0∨r=1 by omega) with rfl|rfl<;>kernel_rfl
 refine OT (e:=n++o++ [oZ (18+(r:Int))]) c (.n2 p z y q G) (Yl m0 E (qC _)) (by simp [bL];omega) ?_
 subst hs
 rcases (show r=0∨r=1 by omega) with rfl|rfl<;>exact pK [] 7 4 (.k 12 (aF B) (.c (aF C) .nil)) (.c f (.c v (.c u (.c A (.c D (.v 27 (.eq (Su h)) (.c F .nil)))))))
def opF (r:Nat):Int:=([9,10,13,14]:List Int).getD r 0
theorem n26:CO 63 [.int .i64 0,.int .i64 0] (.ret (.agg (uk tP))):=cK .nil
theorem n25:CO 64 [] (.ret (.agg (uk tT))):=cK .nil
theorem am5 {xs:List Int} {nn:Bool} {k lv p k1 s k2:Nat} (D:xs.length<2^63) (f:lv<2^62) (J:bL lv<300) (o:∀ t,b_ t→∀ k,k≤xs.length→jL t (lv:Int) (bL lv) xs nn k) (u:((p:Int)==((0:Nat):Int))=false) (w:(decide ((((lv+1):Nat):Int)≤((0:Nat):Int)))=false) (h:k2≤xs.length) (y:aC prog ap 97 [.ptr 0 0 0,.int .i64 5] [dB xs nn k] (.ret (.int .i64 (p:Int))) [dB xs nn k1]) (B:aC prog ap 97 [.ptr 0 0 0,.int .i64 7] [dB xs nn k1] (.ret (.int .i64 (s:Int))) [dB xs nn k2]) (hs:s=0∨s=1) {t:Ty} (c:LY t):jL t ((lv+1:Nat):Int) (bL (lv+1)) xs nn k:=by
 obtain ⟨r,k3,K,i,q⟩:=dA xs nn k2 4 D h (by omega) (by omega)
 obtain ⟨v,k4,j,A,m0,M,m⟩:=o t c.pl k3 i
 obtain ⟨z,k5,g,F,G,I,n⟩:=o t c.pl k4 j
 have d:=Ve (oZ (opF r)) v z A.ne (by omega) (by omega)
 have E:aK (oZ (opF r))=0:=by rcases c with rfl|rfl|rfl<;>rcases (show r=0∨r=1∨r=2∨r=3 by omega) with rfl|rfl|rfl|rfl<;>kernel_rfl
 have C:fG (oZ (opF r)).op=2:=by rcases c with rfl|rfl|rfl<;>rcases (show r=0∨r=1∨r=2∨r=3 by omega) with rfl|rfl|rfl|rfl<;>rfl
 have H:mG aS (oZ (opF r)) [t,t]=(t,0):=by rcases c with rfl|rfl|rfl<;>rcases (show r=0∨r=1∨r=2∨r=3 by omega) with rfl|rfl|rfl|rfl<;>kernel_rfl
 refine OT (e:=v++z++ [oZ (opF r)]) g (.n2 A F E C H) (Yl m0 G (qC _)) (by simp [bL];omega) ?_
 rcases hs with rfl|rfl
 ·rcases c with rfl|rfl|rfl<;>rcases (show r=0∨r=1∨r=2∨r=3 by omega) with rfl|rfl|rfl|rfl<;>exact pK [] 5 24 (.k 13 (aF u) (.c (aF w) .nil)) (.c d (.c n (.c m (.c q (.c B (.v 27 (.eq (Su f)) (.c y .nil)))))))
 ·rcases c with rfl|rfl|rfl<;>rcases (show r=0∨r=1∨r=2∨r=3 by omega) with rfl|rfl|rfl|rfl<;>exact pK [] 5 16 (.k 13 (aF u) (.c (aF w) .nil)) (.c d (.c n (.c m (.c q (.c B (.v 27 (.eq (Su f)) (.c y .nil)))))))
theorem am6 {xs:List Int} {nn:Bool} {k lv m k1 s k2:Nat} (F:xs.length<2^63) (i:lv<2^62) (G:bL lv<300) (j:∀ t,b_ t→∀ k,k≤xs.length→jL t (lv:Int) (bL lv) xs nn k) (y:((m:Int)==((0:Nat):Int))=false) (z:(decide ((((lv+1):Nat):Int)≤((0:Nat):Int)))=false) (d:k2≤xs.length) (B:aC prog ap 97 [.ptr 0 0 0,.int .i64 5] [dB xs nn k] (.ret (.int .i64 (m:Int))) [dB xs nn k1]) (D:aC prog ap 97 [.ptr 0 0 0,.int .i64 7] [dB xs nn k1] (.ret (.int .i64 (s:Int))) [dB xs nn k2]) (hs:s=2) {t:Ty} (c:LY t):jL t ((lv+1:Nat):Int) (bL (lv+1)) xs nn k:=by
 obtain ⟨n,k3,f,p,m0,H,r⟩:=j t c.pl k2 d
 obtain ⟨o,k4,h,w,A,E,u⟩:=j tP pP k3 f
 have g:=Ve (oZ 11) n o p.ne (by omega) (by omega)
 have v:aK (oZ 11)=0:=by rcases c with rfl|rfl|rfl<;>kernel_rfl
 have q:fG (oZ 11).op=2:=by rcases c with rfl|rfl|rfl<;>rfl
 have C:mG aS (oZ 11) [t,tP]=(t,0):=by rcases c with rfl|rfl|rfl<;>kernel_rfl
 refine OT (e:=n++o++ [oZ 11]) h (.n2 p w v q C) (Yl m0 A (qC _)) (by simp [bL];omega) ?_
 subst hs
 rcases c with rfl|rfl|rfl<;>exact pK [] 6 32 (.k 8 (aF y) (.c (aF z) .nil)) (.c g (.c u (.c n26 (.c r (.c D (.v 27 (.eq (Su i)) (.c B .nil)))))))
theorem am7 {xs:List Int} {nn:Bool} {k lv m k1 s k2:Nat} (F:xs.length<2^63) (i:lv<2^62) (G:bL lv<300) (j:∀ t,b_ t→∀ k,k≤xs.length→jL t (lv:Int) (bL lv) xs nn k) (y:((m:Int)==((0:Nat):Int))=false) (z:(decide ((((lv+1):Nat):Int)≤((0:Nat):Int)))=false) (d:k2≤xs.length) (B:aC prog ap 97 [.ptr 0 0 0,.int .i64 5] [dB xs nn k] (.ret (.int .i64 (m:Int))) [dB xs nn k1]) (D:aC prog ap 97 [.ptr 0 0 0,.int .i64 7] [dB xs nn k1] (.ret (.int .i64 (s:Int))) [dB xs nn k2]) (hs:s=3) {t:Ty} (c:LY t):jL t ((lv+1:Nat):Int) (bL (lv+1)) xs nn k:=by
 obtain ⟨n,k3,f,p,m0,H,r⟩:=j t c.pl k2 d
 obtain ⟨o,k4,h,w,A,E,u⟩:=j tP pP k3 f
 have g:=Ve (oZ 12) n o p.ne (by omega) (by omega)
 have v:aK (oZ 12)=0:=by rcases c with rfl|rfl|rfl<;>kernel_rfl
 have q:fG (oZ 12).op=2:=by rcases c with rfl|rfl|rfl<;>rfl
 have C:mG aS (oZ 12) [t,tP]=(t,0):=by rcases c with rfl|rfl|rfl<;>kernel_rfl
 refine OT (e:=n++o++ [oZ 12]) h (.n2 p w v q C) (Yl m0 A (qC _)) (by simp [bL];omega) ?_
 subst hs
 rcases c with rfl|rfl|rfl<;>exact pK [] 7 64 (.k 9 (aF y) (.c (aF z) .nil)) (.c g (.c u (.c n26 (.c r (.c D (.v 27 (.eq (Su i)) (.c B .nil)))))))
theorem am8 {xs:List Int} {nn:Bool} {k lv n k1 s k2:Nat} (K:xs.length<2^63) (m:lv<2^62) (N:bL lv<300) (f:∀ t,b_ t→∀ k,k≤xs.length→jL t (lv:Int) (bL lv) xs nn k) (C:((n:Int)==((0:Nat):Int))=false) (E:(decide ((((lv+1):Nat):Int)≤((0:Nat):Int)))=false) (g:k2≤xs.length) (G:aC prog ap 97 [.ptr 0 0 0,.int .i64 5] [dB xs nn k] (.ret (.int .i64 (n:Int))) [dB xs nn k1]) (I:aC prog ap 97 [.ptr 0 0 0,.int .i64 7] [dB xs nn k1] (.ret (.int .i64 (s:Int))) [dB xs nn k2]) (hs:s=4) {t:Ty} (c:LY t):jL t ((lv+1:Nat):Int) (bL (lv+1)) xs nn k:=by
 obtain ⟨p,k3,h,r,m0,O,v⟩:=f tT pT k2 g
 obtain ⟨q,k4,j,B,F,J,w⟩:=f t c.pl k3 h
 obtain ⟨o,k5,d,y,A,M,D⟩:=f t c.pl k4 j
 have i:=aht (oZ 15) p q o r.ne (by omega) (by omega) (by omega)
 have z:aK (oZ 15)=0:=by rcases c with rfl|rfl|rfl<;>kernel_rfl
 have u:fG (oZ 15).op=3:=by rcases c with rfl|rfl|rfl<;>rfl
 have H:mG aS (oZ 15) [tT,t,t]=(t,0):=by rcases c with rfl|rfl|rfl<;>kernel_rfl
 refine OT (e:=p++q++o++ [oZ 15]) d (.n3 r B y z u H) (akV m0 F A (qC _)) (by simp [bL];omega) ?_
 subst hs
 rcases c with rfl|rfl|rfl<;>exact pK [] 8 128 (.k 13 (aF C) (.c (aF E) .nil)) (.c i (.c D (.c w (.c v (.c n25 (.c I (.v 27 (.eq (Su m)) (.c G .nil))))))))
theorem Vo {q:RQ} (h:q.ok) (i:q.n<64) (hd:q.d<64) (hp:q.neg=false∧0<q.n) {c:Int} (f:c=21∨c=22∨c=23):aK (qN c q)=0:=by
 have g:=XM h i hd
 have hs:rU q.neg (af q.n) (af q.d)=1:=by
  unfold rU
  rw [if_pos ⟨oD q h,by rw [aB];exact hp.2⟩,hp.1];rfl
 have d:decide (((0:Nat):Int)<rU q.neg (af q.n) (af q.d))=true:=by rw [hs];rfl
 have e:jg (qN c q)=true:=by
  have:(fA q.neg (af q.n) (af q.d) && decide (((0:Nat):Int)<rU q.neg (af q.n) (af q.d)))=true:=by rw [g,d];rfl
  rcases f with rfl|rfl|rfl<;>exact this
 unfold aK
 rw [e]
 rcases f with rfl|rfl|rfl<;>rfl
theorem am9 {xs:List Int} {nn:Bool} {k lv o k1 s k2:Nat} (n:xs.length<2^63) (j:lv<2^62) (K:bL lv<300) (A:∀ t,b_ t→∀ k,k≤xs.length→jL t (lv:Int) (bL lv) xs nn k) (F:((o:Int)==((0:Nat):Int))=false) (G:(decide ((((lv+1):Nat):Int)≤((0:Nat):Int)))=false) (f:k2≤xs.length) (H:aC prog ap 97 [.ptr 0 0 0,.int .i64 5] [dB xs nn k] (.ret (.int .i64 (o:Int))) [dB xs nn k1]) (J:aC prog ap 97 [.ptr 0 0 0,.int .i64 7] [dB xs nn k1] (.ret (.int .i64 (s:Int))) [dB xs nn k2]) (hs:s=5) {t:Ty} (c:LY t):jL t ((lv+1:Nat):Int) (bL (lv+1)) xs nn k:=by
 obtain ⟨r,k3,M,g,E⟩:=dA xs nn k2 3 n f (by omega) (by omega)
 obtain ⟨w,k4,i,D,m,q,B,C⟩:=u_ xs nn k3 n g 1 (by omega) (by omega)
 obtain ⟨p,k5,d,u,m0,N,y⟩:=A t c.pl k4 i
 have h:=YZ (qN (21+(r:Int)) w) p u.ne (by omega)
 have z:aK (qN (21+(r:Int)) w)=0:=by exact Vo D m q (B rfl) (by omega)
 have v:fG (qN (21+(r:Int)) w).op=1:=by rcases c with rfl|rfl|rfl<;>rcases (show r=0∨r=1∨r=2 by omega) with rfl|rfl|rfl<;>rfl
 have I:mG aS (qN (21+(r:Int)) w) [t]=(t,0):=by rcases c with rfl|rfl|rfl<;>rcases (show r=0∨r=1∨r=2 by omega) with rfl|rfl|rfl<;>kernel_rfl
 refine OT (e:=p++ [qN (21+(r:Int)) w]) d (.n1 u z v I) (aco m0 (FB m q)) (by simp [bL];omega) ?_
 subst hs
 rcases c with rfl|rfl|rfl<;>rcases (show r=0∨r=1∨r=2 by omega) with rfl|rfl|rfl<;>exact pK [] 9 256 (.k 11 (aF F) (.c (aF G) .nil)) (.c h (.c y (.c C (.c E (.c J (.v 27 (.eq (Su j)) (.c H .nil)))))))
theorem fr0:CO 183 [.sl (h_ aS) 12 true,.int .i64 24,.str zcc3_1] (.ret (.tup [.agg [.bool false,.int .i64 0,.int .i64 0],.bool false])):=kC (eY aS true 24 zcc3_1 (by decide)) (by kernel_rfl)
theorem fr1:CO 183 [.sl (h_ aS) 12 true,.int .i64 24,.str [107,105,100,115]] (.ret (.tup [.agg [.bool false,.int .i64 0,.int .i64 0],.bool false])):=kC (eY aS true 24 [107,105,100,115] (by decide)) (by kernel_rfl)
theorem fr2:CO 183 [.sl (h_ aS) 12 true,.int .i64 24,.str zcc3_0] (.ret (.tup [.agg [.bool false,.int .i64 0,.int .i64 0],.bool false])):=kC (eY aS true 24 zcc3_0 (by decide)) (by kernel_rfl)
theorem fr3:CO 183 [.sl (h_ aS) 12 true,.int .i64 24,.str [115,116,97,121]] (.ret (.tup [.agg [.bool false,.int .i64 0,.int .i64 0],.bool false])):=kC (eY aS true 24 [115,116,97,121] (by decide)) (by kernel_rfl)
theorem fr4:CO 183 [.sl (h_ aS) 12 true,.int .i64 24,.str [112,111,111,114]] (.ret (.tup [.agg [.bool false,.int .i64 0,.int .i64 0],.bool false])):=kC (eY aS true 24 [112,111,111,114] (by decide)) (by kernel_rfl)
theorem fr5:CO 183 [.sl (h_ aS) 12 true,.int .i64 24,.str [116,97,120]] (.ret (.tup [.agg [.bool false,.int .i64 0,.int .i64 0],.bool false])):=kC (eY aS true 24 [116,97,120] (by decide)) (by kernel_rfl)
theorem fr6:CO 183 [.sl (h_ aS) 12 true,.int .i64 24,.str zcc3_2] (.ret (.tup [.agg [.bool false,.int .i64 1,.int .i64 0],.bool true])):=kC (eY aS true 24 zcc3_2 (by decide)) (by kernel_rfl)
theorem fr7:CO 183 [.sl (h_ aS) 12 true,.int .i64 24,.str [116,101,114,109]] (.ret (.tup [.agg [.bool false,.int .i64 0,.int .i64 1],.bool true])):=kC (eY aS true 24 [116,101,114,109] (by decide)) (by kernel_rfl)
theorem abG {xs:List Int} {nn:Bool} {k:Nat} (d:xs.length<2^63) (f:k≤xs.length):∃ k2,k2≤xs.length∧aC prog ap 148 [.sl (h_ aS) 12 true,.ptr 0 0 0,.agg (uk tM)] [dB xs nn k] (.ret (.tup [.str zcc3_2,.bool true])) [dB xs nn k2]:=by
 obtain ⟨r,k1,g,c,e⟩:=dA xs nn k 1 d f (by omega) (by omega)
 obtain rfl:r=0:=by omega
 exact ⟨k1,c,pK [] 51 262856579813649 (.n 125 .nil) (.c e (.c fr7 (.c fr6 (.c fr5 (.c fr4 (.c fr5 (.c fr4 (.c fr5 (.c fr4 (.c fr3 (.c fr2 (.c fr1 (.c fr0 .nil)))))))))))))⟩
theorem abE {xs:List Int} {nn:Bool} {k:Nat} (d:xs.length<2^63) (f:k≤xs.length):∃ k2,k2≤xs.length∧aC prog ap 148 [.sl (h_ aS) 12 true,.ptr 0 0 0,.agg (uk tD)] [dB xs nn k] (.ret (.tup [.str [116,101,114,109],.bool true])) [dB xs nn k2]:=by
 obtain ⟨r,k1,g,c,e⟩:=dA xs nn k 1 d f (by omega) (by omega)
 obtain rfl:r=0:=by omega
 exact ⟨k1,c,pK [] 51 271652672835857 (.n 125 .nil) (.c e (.c fr7 (.c fr6 (.c fr5 (.c fr4 (.c fr5 (.c fr4 (.c fr5 (.c fr4 (.c fr3 (.c fr2 (.c fr1 (.c fr0 .nil)))))))))))))⟩
theorem abH {xs:List Int} {nn:Bool} {k:Nat}:aC prog ap 148 [.sl (h_ aS) 12 true,.ptr 0 0 0,.agg (uk tP)] [dB xs nn k] (.ret (.tup [.str [],.bool false])) [dB xs nn k]:=pK [] 50 693865137901841 (.n 116 .nil) (.c fr7 (.c fr6 (.c fr5 (.c fr4 (.c fr5 (.c fr4 (.c fr5 (.c fr4 (.c fr3 (.c fr2 (.c fr1 (.c fr0 .nil))))))))))))
theorem ajp {xs:List Int} {nn:Bool} {k lv j k1 s k2:Nat} (r:xs.length<2^63) (h:lv<2^62) (B:bL lv<300) (v:∀ t,b_ t→∀ k,k≤xs.length→jL t (lv:Int) (bL lv) xs nn k) (n:((j:Int)==((0:Nat):Int))=false) (q:(decide ((((lv+1):Nat):Int)≤((0:Nat):Int)))=false) (c:k2≤xs.length) (w:aC prog ap 97 [.ptr 0 0 0,.int .i64 5] [dB xs nn k] (.ret (.int .i64 (j:Int))) [dB xs nn k1]) (A:aC prog ap 97 [.ptr 0 0 0,.int .i64 7] [dB xs nn k1] (.ret (.int .i64 (s:Int))) [dB xs nn k2]) (hs:s=6):jL tM ((lv+1:Nat):Int) (bL (lv+1)) xs nn k:=by
 obtain ⟨k3,d,z⟩:=abG (nn:=nn) r c
 obtain ⟨i,k4,g,m,m0,C,p⟩:=v tM (by simp [b_]) k3 d
 have f:=YZ ((⟨24,false,[],[],zcc3_2⟩:Nd)) i m.ne (by omega)
 have u:aK ((⟨24,false,[],[],zcc3_2⟩:Nd))=0:=by kernel_rfl
 have o:fG ((⟨24,false,[],[],zcc3_2⟩:Nd)).op=1:=by rfl
 have y:mG aS ((⟨24,false,[],[],zcc3_2⟩:Nd)) [tM]=(tM,0):=by kernel_rfl
 refine OT (e:=i++ [(⟨24,false,[],[],zcc3_2⟩:Nd)]) g (.n1 m u o y) (aco m0 (⟨by simp,by simp⟩)) (by simp [bL];omega) ?_
 subst hs
 exact pK [] 10 0 (.k 15 (aF n) (.c (aF q) .nil)) (.c f (.c p (.c z (.c A (.v 27 (.eq (Su h)) (.c w .nil))))))
theorem ajo {xs:List Int} {nn:Bool} {k lv j k1 s k2:Nat} (r:xs.length<2^63) (h:lv<2^62) (B:bL lv<300) (v:∀ t,b_ t→∀ k,k≤xs.length→jL t (lv:Int) (bL lv) xs nn k) (n:((j:Int)==((0:Nat):Int))=false) (q:(decide ((((lv+1):Nat):Int)≤((0:Nat):Int)))=false) (c:k2≤xs.length) (w:aC prog ap 97 [.ptr 0 0 0,.int .i64 5] [dB xs nn k] (.ret (.int .i64 (j:Int))) [dB xs nn k1]) (A:aC prog ap 97 [.ptr 0 0 0,.int .i64 7] [dB xs nn k1] (.ret (.int .i64 (s:Int))) [dB xs nn k2]) (hs:s=6):jL tD ((lv+1:Nat):Int) (bL (lv+1)) xs nn k:=by
 obtain ⟨k3,d,z⟩:=abE (nn:=nn) r c
 obtain ⟨i,k4,g,m,m0,C,p⟩:=v tD (by simp [b_]) k3 d
 have f:=YZ ((⟨24,false,[],[],[116,101,114,109]⟩:Nd)) i m.ne (by omega)
 have u:aK ((⟨24,false,[],[],[116,101,114,109]⟩:Nd))=0:=by kernel_rfl
 have o:fG ((⟨24,false,[],[],[116,101,114,109]⟩:Nd)).op=1:=by rfl
 have y:mG aS ((⟨24,false,[],[],[116,101,114,109]⟩:Nd)) [tD]=(tD,0):=by kernel_rfl
 refine OT (e:=i++ [(⟨24,false,[],[],[116,101,114,109]⟩:Nd)]) g (.n1 m u o y) (aco m0 (⟨by simp,by simp⟩)) (by simp [bL];omega) ?_
 subst hs
 exact pK [] 10 0 (.k 15 (aF n) (.c (aF q) .nil)) (.c f (.c p (.c z (.c A (.v 27 (.eq (Su h)) (.c w .nil))))))
theorem am_ {xs:List Int} {nn:Bool} {k lv g k1 s k2:Nat} (n:xs.length<2^63) (f:lv<2^62) (u:bL lv<300) (v:∀ t,b_ t→∀ k,k≤xs.length→jL t (lv:Int) (bL lv) xs nn k) (h:((g:Int)==((0:Nat):Int))=false) (j:(decide ((((lv+1):Nat):Int)≤((0:Nat):Int)))=false) (c:k2≤xs.length) (o:aC prog ap 97 [.ptr 0 0 0,.int .i64 5] [dB xs nn k] (.ret (.int .i64 (g:Int))) [dB xs nn k1]) (r:aC prog ap 97 [.ptr 0 0 0,.int .i64 7] [dB xs nn k1] (.ret (.int .i64 (s:Int))) [dB xs nn k2]) (hs:s=6):jL tP ((lv+1:Nat):Int) (bL (lv+1)) xs nn k:=by
 obtain ⟨e,k3,d,i,p,w,m⟩:=WT xs nn k2 n c
 have q:=abH (xs:=xs) (nn:=nn) (k:=k2)
 refine OT d i p (by simp [bL];omega) ?_
 subst hs
 exact pK [] 10 512 (.k 15 (aF h) (.c (aF j) .nil)) (.c m (.c q (.c r (.v 27 (.eq (Su f)) (.c o .nil)))))
theorem Ie {t:Ty} (p:b_ t) {xs:List Int} {nn:Bool} {k lv:Nat} (g:xs.length<2^63) (A:k≤xs.length) (d:lv<2^62) (n:bL lv<300) (o:∀ t,b_ t→∀ k,k≤xs.length→jL t (lv:Int) (bL lv) xs nn k):jL t ((lv+1:Nat):Int) (bL (lv+1)) xs nn k:=by
 have f:(decide ((((lv+1):Nat):Int)≤((0:Nat):Int)))=false:=decide_eq_false (by omega)
 obtain ⟨v,k1,z,q,i⟩:=dA xs nn k 5 g A (by omega) (by omega)
 by_cases hz:v=0
 ·subst hz
  obtain ⟨e,k2,c,w,y,B,r⟩:=QF p xs nn k1 g q
  refine OT c w y (by simp [bL];omega) ?_
  rcases p with rfl|rfl|rfl|rfl
  ·exact pK [] 2 2 (.k 4 (aF f) .nil) (.c r (.c i .nil))
  ·exact pK [] 2 2 (.k 4 (aF f) .nil) (.c r (.c i .nil))
  ·exact pK [] 2 2 (.k 4 (aF f) .nil) (.c r (.c i .nil))
  ·exact pK [] 2 2 (.k 4 (aF f) .nil) (.c r (.c i .nil))
 ·have m:((v:Int)==((0:Nat):Int))=false:=by simp;omega
  have u:∀ t,LY t→jL t ((lv+1:Nat):Int) (bL (lv+1)) xs nn k:=by
   intro t p
   obtain ⟨s,k2,hs,c,j⟩:=dA xs nn k1 7 g q (by omega) (by omega)
   rcases (show (s=0∨s=1)∨s=2∨s=3∨s=4∨s=5∨s=6 by omega) with h|h|h|h|h|h
   ·exact am5 g d n o m f c i j h p
   ·exact am6 g d n o m f c i j h p
   ·exact am7 g d n o m f c i j h p
   ·exact am8 g d n o m f c i j h p
   ·exact am9 g d n o m f c i j h p
   ·rcases p with rfl|rfl|rfl
    ·exact ajp g d n o m f c i j h
    ·exact ajo g d n o m f c i j h
    ·exact am_ g d n o m f c i j h
  rcases p with rfl|rfl|rfl|rfl
  ·exact u _ (.inl rfl)
  ·exact u _ (.inr (.inl rfl))
  ·exact u _ (.inr (.inr rfl))
  ·obtain ⟨s,k2,hs,c,j⟩:=dA xs nn k1 5 g q (by omega) (by omega)
   rcases (show (s=0∨s=1)∨s=2∨s=3∨s=4 by omega) with h|h|h|h
   ·exact ana g d n o m f c i j h
   ·exact anb g d n o m f c i j h
   ·exact anc g d n o m f c i j h
   ·exact anf g d n o m f c i j h
theorem ajm {xs:List Int} {nn:Bool} (e:xs.length<2^63) (t:Ty) (c:b_ t) (k:Nat) (d:k≤xs.length):jL t ((1:Nat):Int) (bL 1) xs nn k:=
 Ie (lv:=0) c e d (by omega) (by decide) fun _ c k d=>ajl c xs nn k e d
theorem QL {xs:List Int} {nn:Bool} (e:xs.length<2^63) (t:Ty) (c:b_ t) (k:Nat) (d:k≤xs.length):jL t ((2:Nat):Int) (bL 2) xs nn k:=
 Ie (lv:=1) c e d (by omega) (by decide) fun t c k d=>ajm e t c k d
def WR (t:Ty):Prop:=b_ t∨t=⟨false,1, -1⟩
theorem YV {t:Ty} (k:WR t) (xs:List Int) (nn:Bool) (i:xs.length<2^63):∃ e:List Nd,Tm aS e t∧(∀ x ∈ e,x.sm)∧e.length≤13∧CO 57 [.sl (h_ aS) 12 true,.agg (uk t),.sl (iL xs) xs.length nn] (.ret (.own (aZ e) e.length 5)):=by
 rcases k with (rfl|rfl|rfl|rfl)|rfl
 ·obtain ⟨e,k2,d,c,f,j,g⟩:=QL (nn:=nn) i tM (by simp [b_]) 0 (by omega)
  have h:CO 57 [.sl (h_ aS) 12 true,.agg (uk tM),.sl (iL xs) xs.length nn] (.ret (.own (List.take (e.length*5) (aZ e)) e.length 5)):=pK [] 4 1 (.n 11 .nil) (.c g (.c kd6 .nil))
  rw [Ci] at h
  exact ⟨e,c,f,by have:bL 2=13:=rfl;omega,h⟩
 ·obtain ⟨e,k2,d,c,f,j,g⟩:=QL (nn:=nn) i tD (by simp [b_]) 0 (by omega)
  have h:CO 57 [.sl (h_ aS) 12 true,.agg (uk tD),.sl (iL xs) xs.length nn] (.ret (.own (List.take (e.length*5) (aZ e)) e.length 5)):=pK [] 4 3 (.n 14 .nil) (.c g (.c kd8 (.c kd6 .nil)))
  rw [Ci] at h
  exact ⟨e,c,f,by have:bL 2=13:=rfl;omega,h⟩
 ·obtain ⟨e,k2,d,c,f,j,g⟩:=QL (nn:=nn) i tP (by simp [b_]) 0 (by omega)
  have h:CO 57 [.sl (h_ aS) 12 true,.agg (uk tP),.sl (iL xs) xs.length nn] (.ret (.own (List.take (e.length*5) (aZ e)) e.length 5)):=pK [] 4 7 (.n 17 .nil) (.c g (.c afy (.c kd8 (.c kd6 .nil))))
  rw [Ci] at h
  exact ⟨e,c,f,by have:bL 2=13:=rfl;omega,h⟩
 ·obtain ⟨e,k2,d,c,f,j,g⟩:=QL (nn:=nn) i tT (by simp [b_]) 0 (by omega)
  have h:CO 57 [.sl (h_ aS) 12 true,.agg (uk tT),.sl (iL xs) xs.length nn] (.ret (.own (List.take (e.length*5) (aZ e)) e.length 5)):=pK [] 4 0 (.n 8 .nil) (.c g .nil)
  rw [Ci] at h
  exact ⟨e,c,f,by have:bL 2=13:=rfl;omega,h⟩
 ·obtain ⟨e,k2,d,c,f,j,g⟩:=ajn xs nn 0 i (by omega)
  have h:CO 57 [.sl (h_ aS) 12 true,.agg (uk ⟨false,1, -1⟩),.sl (iL xs) xs.length nn] (.ret (.own (List.take (e.length*5) (aZ e)) e.length 5)):=pK [] 4 15 (.n 17 .nil) (.c g (.c afy (.c kd8 (.c kd6 .nil))))
  rw [Ci] at h
  exact ⟨e,c,f,by have:bL 2=13:=rfl;omega,h⟩
end Go.Proofs.Tryz
set_option maxRecDepth 100000
set_option linter.unusedVariables false
open Go AM
namespace Go.Proofs.Tryz
abbrev Nc (ls:List Lk) (cs:List Sc) (nl ns:Bool) (k1 v1 k2 v2:List AV):Hp:= [(0,⟨[.sl (eU ls) ls.length nl,.sl (gZ cs) cs.length ns],0,false,0,0,true⟩),(1,⟨[.mp k1 v1,.mp k2 v2],0,false,0,0,true⟩)]
theorem Z8 (x:Nd) (o:Oq) (ne d g f:Bool) (k:Nat) (k1 v1 k2 c r p:List AV) (e:List Nd) (A:List (List Nat)) (ls:List Lk) (i:List Sc) {nt:Nat} (j:56≤nt) (n:(List.drop ((Int.toNat (k:Int))*5) (aZ e))=zQ x++r) (m:(List.drop ((Int.toNat (k:Int))*1) (dC A))= [.sl [] 0 false]++p) (v:AV.int .i64 (IntKind.wrap .i64 ((k:Int)+((1:Nat):Int)))=AV.int .i64 ((k+1:Nat):Int)) (h:(decide (((0:Nat):Int)≤(k:Int)))=true) (q:(decide ((k:Int)<(A.length:Int)))=true) (t:(decide ((k:Int)<(e.length:Int)))=true) (u:lit true (decide ((k:Int)<(e.length:Int)))=true) (w:CO 46 [.agg [.mp k1 v1,.mp k2 c],.agg [.int .i64 x.op,.bool x.neg,.str x.num,.str x.den,.str x.name],.nilS] (.ret (fM o))):ax prog ap [] nt (ag 0 (ai f19)) ⟨[(3,.ptr 0 0 0),(5,.sl (dC A) A.length f),(7,.ptr 1 0 0),(8,.nilS),(23,.sl (aZ e) e.length ne),(24,.int .i64 (e.length:Int)),(25,.int .i64 (k:Int))],(Nc ls i d g k1 v1 k2 c),.dead,[]⟩ (.normal) ⟨[(3,.ptr 0 0 0),(5,.sl (dC A) A.length f),(7,.ptr 1 0 0),(8,.ref 2 0 0 1),(23,.sl (aZ e) e.length ne),(24,.int .i64 (e.length:Int)),(25,.int .i64 ((k+1:Nat):Int))],(Nc ls i d g k1 v1 k2 c++ [(2,⟨[.bool o.n,.str o.a,.str o.d,.int .i64 o.e],0,false,0,4,true⟩)]),.dead,[]⟩:=pN 19 [] 3 1 (.k 12 h (.c q (.k 6 h (.c t (.c u .nil))))) (.v 54 (.eq v) (.c w (.v 32 (.ppt m) (.v 28 (.ppt n) .nil)))) j
theorem Z9 (ne h d j:Bool) (k:Nat) (k1 v1 k2 c:List AV) (e:List Nd) (A:List (List Nat)) (ls:List Lk) (i:List Sc) {nt:Nat} (f:56≤nt) (g:lit false (decide ((k:Int)<(e.length:Int)))=true):ax prog ap [] nt (ag 0 (ai f19)) ⟨[(3,.ptr 0 0 0),(5,.sl (dC A) A.length j),(7,.ptr 1 0 0),(8,.nilS),(23,.sl (aZ e) e.length ne),(24,.int .i64 (e.length:Int)),(25,.int .i64 (k:Int))],(Nc ls i h d k1 v1 k2 c),.dead,[]⟩ (.exit 0) ⟨[(8,.nilS)],[],.dead,[]⟩:=pN 19 [] 1 0 (.c g .nil) (.nil) f
theorem ae3 (x:Nd) (o:Oq) (ne g i h:Bool) (k:Nat) (k1 v1 k2 f w t:List AV) (e:List Nd) (A:List (List Nat)) (c:List Oq) (ls:List Lk) (m:List Sc) {nt:Nat} (n:56≤nt) (q:(List.drop ((Int.toNat (k:Int))*5) (aZ e))=zQ x++w) (p:(List.drop ((Int.toNat (k:Int))*1) (dC A))= [.sl [] 0 false]++t) (d:((List.take (c.length*4) (gK c))++ [.bool o.n,.str o.a,.str o.d,.int .i64 o.e])=(gK (c++ [o]))) (z:AV.int .i64 (IntKind.wrap .i64 ((k:Int)+((1:Nat):Int)))=AV.int .i64 ((k+1:Nat):Int)) (C:(Nat.ble (c.length+1) 1099511627776)=true) (v:(Nat.ble (c.length*4) (List.length (gK c)))=true) (j:(decide (((0:Nat):Int)≤(k:Int)))=true) (y:(decide ((k:Int)<(A.length:Int)))=true) (u:(decide ((k:Int)<(e.length:Int)))=true) (r:lit true (decide ((k:Int)<(e.length:Int)))=true) (B:CO 46 [.agg [.mp k1 v1,.mp k2 f],.agg [.int .i64 x.op,.bool x.neg,.str x.num,.str x.den,.str x.name],.nilS] (.ret (fM o))):ax prog ap [] nt (ag 0 (ai f19)) ⟨[(3,.ptr 0 0 0),(5,.sl (dC A) A.length h),(7,.ptr 1 0 0),(8,.ref 2 0 0 c.length),(23,.sl (aZ e) e.length ne),(24,.int .i64 (e.length:Int)),(25,.int .i64 (k:Int))],(Nc ls m g i k1 v1 k2 f++ [(2,⟨(gK c),0,false,0,4,true⟩)]),.dead,[]⟩ (.normal) ⟨[(3,.ptr 0 0 0),(5,.sl (dC A) A.length h),(7,.ptr 1 0 0),(8,.ref 2 0 0 (c.length+1)),(23,.sl (aZ e) e.length ne),(24,.int .i64 (e.length:Int)),(25,.int .i64 ((k+1:Nat):Int))],(Nc ls m g i k1 v1 k2 f++ [(2,⟨(gK (c++ [o])),0,false,0,4,true⟩)]),.dead,[]⟩:=pN 19 [] 2 1 (.k 1 C (.c v (.k 10 j (.c y (.k 6 j (.c u (.c r .nil))))))) (.v 54 (.eq z) (.b 53 d (.c B (.v 32 (.ppt p) (.v 28 (.ppt q) .nil))))) n
theorem ae5 (ne i f m:Bool) (k:Nat) (k1 v1 k2 d:List AV) (e:List Nd) (A:List (List Nat)) (c:List Oq) (ls:List Lk) (j:List Sc) {nt:Nat} (g:56≤nt) (h:lit false (decide ((k:Int)<(e.length:Int)))=true):ax prog ap [] nt (ag 0 (ai f19)) ⟨[(3,.ptr 0 0 0),(5,.sl (dC A) A.length m),(7,.ptr 1 0 0),(8,.ref 2 0 0 c.length),(23,.sl (aZ e) e.length ne),(24,.int .i64 (e.length:Int)),(25,.int .i64 (k:Int))],(Nc ls j i f k1 v1 k2 d++ [(2,⟨(gK c),0,false,0,4,true⟩)]),.dead,[]⟩ (.exit 0) ⟨[(8,.ref 0 0 0 c.length)],[(0,⟨(gK c),0,false,0,4,true⟩)],.dead,[]⟩:=pN 19 [] 1 0 (.c h .nil) (.nil) g
theorem ae6 (x:Nd) (o f:Oq) (ne j n m:Bool) (k g:Nat) (k1 v1 k2 i D z v:List AV) (e:List Nd) (A:List (List Nat)) (c:List Oq) (ls:List Lk) (q:List Sc) {nt:Nat} (r:56≤nt) (w:(List.drop ((Int.toNat (k:Int))*5) (aZ e))=zQ x++D) (u:(List.drop ((Int.toNat (k:Int))*1) (dC A))= [.sl [.int .i64 (g:Int)] 1 false]++z) (d:(List.drop ((0+(Int.toNat (g:Int)))*4) (gK c))=Dj f++v) (h:((List.take (c.length*4) (gK c))++ [.bool o.n,.str o.a,.str o.d,.int .i64 o.e])=(gK (c++ [o]))) (F:AV.int .i64 (IntKind.wrap .i64 ((k:Int)+((1:Nat):Int)))=AV.int .i64 ((k+1:Nat):Int)) (I:(Nat.ble (c.length+1) 1099511627776)=true) (B:(Nat.ble (c.length*4) (List.length (gK c)))=true) (E:(decide (((0:Nat):Int)≤(g:Int)))=true) (G:(decide ((g:Int)<(c.length:Int)))=true) (p:(decide (((0:Nat):Int)≤(k:Int)))=true) (y:(decide ((k:Int)<(A.length:Int)))=true) (t:(decide ((k:Int)<(e.length:Int)))=true) (C:lit true (decide ((k:Int)<(e.length:Int)))=true) (H:CO 46 [.agg [.mp k1 v1,.mp k2 i],.agg [.int .i64 x.op,.bool x.neg,.str x.num,.str x.den,.str x.name],.sl [.bool f.n,.str f.a,.str f.d,.int .i64 f.e] 1 true] (.ret (fM o))):ax prog ap [] nt (ag 0 (ai f19)) ⟨[(3,.ptr 0 0 0),(5,.sl (dC A) A.length m),(7,.ptr 1 0 0),(8,.ref 2 0 0 c.length),(23,.sl (aZ e) e.length ne),(24,.int .i64 (e.length:Int)),(25,.int .i64 (k:Int))],(Nc ls q j n k1 v1 k2 i++ [(2,⟨(gK c),0,false,0,4,true⟩)]),.dead,[]⟩ (.normal) ⟨[(3,.ptr 0 0 0),(5,.sl (dC A) A.length m),(7,.ptr 1 0 0),(8,.ref 2 0 0 (c.length+1)),(23,.sl (aZ e) e.length ne),(24,.int .i64 (e.length:Int)),(25,.int .i64 ((k+1:Nat):Int))],(Nc ls q j n k1 v1 k2 i++ [(2,⟨(gK (c++ [o])),0,false,0,4,true⟩)]),.dead,[]⟩:=pN 19 [] 4 3 (.k 1 I (.c B (.n 12 (.a (sF [.bool,.str,.str,.int .i64] d rfl) (.c E (.c G (.k 5 p (.c y (.k 6 p (.c t (.c C .nil))))))))))) (.v 54 (.eq F) (.b 53 h (.c H (.v 43 (.rd [.bool,.str,.str,.int .i64] d rfl) (.v 32 (.ppt u) (.v 28 (.ppt w) .nil)))))) r
theorem ae7 (x:Nd) (o h f:Oq) (ne p t r:Bool) (k j i:Nat) (k1 v1 k2 n I E B v:List AV) (e:List Nd) (A:List (List Nat)) (c:List Oq) (ls:List Lk) (u:List Sc) {nt:Nat} (w:56≤nt) (C:(List.drop ((Int.toNat (k:Int))*5) (aZ e))=zQ x++I) (z:(List.drop ((Int.toNat (k:Int))*1) (dC A))= [.sl [.int .i64 (j:Int),.int .i64 (i:Int)] 2 false]++E) (d:(List.drop ((0+(Int.toNat (j:Int)))*4) (gK c))=Dj h++B) (g:(List.drop ((0+(Int.toNat (i:Int)))*4) (gK c))=Dj f++v) (m:((List.take (c.length*4) (gK c))++ [.bool o.n,.str o.a,.str o.d,.int .i64 o.e])=(gK (c++ [o]))) (K:AV.int .i64 (IntKind.wrap .i64 ((k:Int)+((1:Nat):Int)))=AV.int .i64 ((k+1:Nat):Int)) (P:(Nat.ble (c.length+1) 1099511627776)=true) (G:(Nat.ble (c.length*4) (List.length (gK c)))=true) (J:(decide (((0:Nat):Int)≤(i:Int)))=true) (M:(decide ((i:Int)<(c.length:Int)))=true) (F:(decide (((0:Nat):Int)≤(j:Int)))=true) (D:(decide ((j:Int)<(c.length:Int)))=true) (q:(decide (((0:Nat):Int)≤(k:Int)))=true) (H:(decide ((k:Int)<(A.length:Int)))=true) (O:(decide ((k:Int)<(e.length:Int)))=true) (y:lit true (decide ((k:Int)<(e.length:Int)))=true) (N:CO 46 [.agg [.mp k1 v1,.mp k2 n],.agg [.int .i64 x.op,.bool x.neg,.str x.num,.str x.den,.str x.name],.sl [.bool h.n,.str h.a,.str h.d,.int .i64 h.e,.bool f.n,.str f.a,.str f.d,.int .i64 f.e] 2 true] (.ret (fM o))):ax prog ap [] nt (ag 0 (ai f19)) ⟨[(3,.ptr 0 0 0),(5,.sl (dC A) A.length r),(7,.ptr 1 0 0),(8,.ref 2 0 0 c.length),(23,.sl (aZ e) e.length ne),(24,.int .i64 (e.length:Int)),(25,.int .i64 (k:Int))],(Nc ls u p t k1 v1 k2 n++ [(2,⟨(gK c),0,false,0,4,true⟩)]),.dead,[]⟩ (.normal) ⟨[(3,.ptr 0 0 0),(5,.sl (dC A) A.length r),(7,.ptr 1 0 0),(8,.ref 2 0 0 (c.length+1)),(23,.sl (aZ e) e.length ne),(24,.int .i64 (e.length:Int)),(25,.int .i64 ((k+1:Nat):Int))],(Nc ls u p t k1 v1 k2 n++ [(2,⟨(gK (c++ [o])),0,false,0,4,true⟩)]),.dead,[]⟩:=pN 19 [] 5 11 (.k 1 P (.c G (.n 13 (.a (sF [.bool,.str,.str,.int .i64] g rfl) (.c J (.c M (.n 7 (.a (sF [.bool,.str,.str,.int .i64] d rfl) (.c F (.c D (.k 5 q (.c H (.k 6 q (.c O (.c y .nil))))))))))))))) (.v 54 (.eq K) (.b 53 m (.c N (.v 43 (.rd [.bool,.str,.str,.int .i64] g rfl) (.v 43 (.rd [.bool,.str,.str,.int .i64] d rfl) (.v 32 (.ppt z) (.v 28 (.ppt C) .nil))))))) w
theorem ae8 (x:Nd) (o j f g:Oq) (ne v y w:Bool) (k n m p:Nat) (k1 v1 k2 u Q K H C M:List AV) (e:List Nd) (A:List (List Nat)) (c:List Oq) (ls:List Lk) (B:List Sc) {nt:Nat} (D:56≤nt) (I:(List.drop ((Int.toNat (k:Int))*5) (aZ e))=zQ x++Q) (G:(List.drop ((Int.toNat (k:Int))*1) (dC A))= [.sl [.int .i64 (n:Int),.int .i64 (m:Int),.int .i64 (p:Int)] 3 false]++K) (d:(List.drop ((0+(Int.toNat (n:Int)))*4) (gK c))=Dj j++H) (h:(List.drop ((0+(Int.toNat (m:Int)))*4) (gK c))=Dj f++C) (i:(List.drop ((0+(Int.toNat (p:Int)))*4) (gK c))=Dj g++M) (q:((List.take (c.length*4) (gK c))++ [.bool o.n,.str o.a,.str o.d,.int .i64 o.e])=(gK (c++ [o]))) (S:AV.int .i64 (IntKind.wrap .i64 ((k:Int)+((1:Nat):Int)))=AV.int .i64 ((k+1:Nat):Int)) (V:(Nat.ble (c.length+1) 1099511627776)=true) (O:(Nat.ble (c.length*4) (List.length (gK c)))=true) (R:(decide (((0:Nat):Int)≤(p:Int)))=true) (T:(decide ((p:Int)<(c.length:Int)))=true) (N:(decide (((0:Nat):Int)≤(m:Int)))=true) (J:(decide ((m:Int)<(c.length:Int)))=true) (E:(decide (((0:Nat):Int)≤(n:Int)))=true) (P:(decide ((n:Int)<(c.length:Int)))=true) (z:(decide (((0:Nat):Int)≤(k:Int)))=true) (F:(decide ((k:Int)<(A.length:Int)))=true) (t:(decide ((k:Int)<(e.length:Int)))=true) (r:lit true (decide ((k:Int)<(e.length:Int)))=true) (U:CO 46 [.agg [.mp k1 v1,.mp k2 u],.agg [.int .i64 x.op,.bool x.neg,.str x.num,.str x.den,.str x.name],.sl [.bool j.n,.str j.a,.str j.d,.int .i64 j.e,.bool f.n,.str f.a,.str f.d,.int .i64 f.e,.bool g.n,.str g.a,.str g.d,.int .i64 g.e] 3 true] (.ret (fM o))):ax prog ap [] nt (ag 0 (ai f19)) ⟨[(3,.ptr 0 0 0),(5,.sl (dC A) A.length w),(7,.ptr 1 0 0),(8,.ref 2 0 0 c.length),(23,.sl (aZ e) e.length ne),(24,.int .i64 (e.length:Int)),(25,.int .i64 (k:Int))],(Nc ls B v y k1 v1 k2 u++ [(2,⟨(gK c),0,false,0,4,true⟩)]),.dead,[]⟩ (.normal) ⟨[(3,.ptr 0 0 0),(5,.sl (dC A) A.length w),(7,.ptr 1 0 0),(8,.ref 2 0 0 (c.length+1)),(23,.sl (aZ e) e.length ne),(24,.int .i64 (e.length:Int)),(25,.int .i64 ((k+1:Nat):Int))],(Nc ls B v y k1 v1 k2 u++ [(2,⟨(gK (c++ [o])),0,false,0,4,true⟩)]),.dead,[]⟩:=pN 19 [] 6 27 (.k 1 V (.c O (.n 13 (.a (sF [.bool,.str,.str,.int .i64] i rfl) (.c R (.c T (.n 8 (.a (sF [.bool,.str,.str,.int .i64] h rfl) (.c N (.c J (.n 7 (.a (sF [.bool,.str,.str,.int .i64] d rfl) (.c E (.c P (.k 5 z (.c F (.k 6 z (.c t (.c r .nil))))))))))))))))))) (.v 54 (.eq S) (.b 53 q (.c U (.v 43 (.rd [.bool,.str,.str,.int .i64] i rfl) (.v 43 (.rd [.bool,.str,.str,.int .i64] h rfl) (.v 43 (.rd [.bool,.str,.str,.int .i64] d rfl) (.v 32 (.ppt G) (.v 28 (.ppt I) .nil)))))))) D
theorem aiM (ne g f h:Bool) (k1 v1 k2 i:List AV) (e:List Nd) (A:List (List Nat)) (d:List Oq) (ls:List Lk) (c:List Sc) (j:CO 24 [.sl (aZ e) e.length ne] (.ret (.tup [.sl (dC A) A.length h,.bool true]))) (m:CO 45 [.agg [.sl (eU ls) ls.length g,.sl (gZ c) c.length f]] (.ret (.agg [.mp k1 v1,.mp k2 i]))) (k:aO prog ap [] 56 (.block 0 (.loop (ag 0 (ai f19)))) ⟨[(0,.sl (aZ e) e.length ne),(1,.agg [.sl (eU ls) ls.length g,.sl (gZ c) c.length f]),(3,.ptr 0 0 0),(4,.nilS),(5,.sl (dC A) A.length h),(6,.bool true),(7,.ptr 1 0 0),(8,.nilS),(9,.dead),(10,.dead),(11,.dead),(13,.dead),(20,.bool false),(23,.sl (aZ e) e.length ne),(24,.int .i64 (e.length:Int)),(25,.int .i64 0),(26,.dead),(33,.dead),(34,.dead),(35,.dead),(36,.dead)],(Nc ls c g f k1 v1 k2 i),.dead,[]⟩ (.normal) ⟨[(8,.ref 0 0 0 d.length)],[(0,⟨(gK d),0,false,0,4,true⟩)],.dead,[]⟩):CO 19 [.sl (aZ e) e.length ne,.agg [.sl (eU ls) ls.length g,.sl (gZ c) c.length f]] (.ret (.own (List.take (d.length*4) (gK d)) d.length 4)):=pK [0] 1 0 (.n 4 .nil) (.l k (.c m (.c j .nil)))
theorem aiN (ne f g:Bool) (e:List Nd) (ls:List Lk) (c:List Sc) (d:CO 24 [.sl (aZ e) e.length ne] (.ret (.tup [.nilS,.bool false]))):CO 19 [.sl (aZ e) e.length ne,.agg [.sl (eU ls) ls.length f,.sl (gZ c) c.length g]] (.ret (.nilS)):=pK [] 1 1 (.n 1 .nil) (.c d .nil)
theorem aic (o:Oq) (ne g h:Bool) (k:Nat) (r:List AV) (e:List Nd) (c:List Oq) (ls:List Lk) (d:List Sc) (f:(List.drop ((0+(Int.toNat (k:Int)))*4) (gK c))=Dj o++r) (m:AV.int .i64 (IntKind.wrap .i64 ((c.length:Int) - ((1:Nat):Int)))=AV.int .i64 (k:Int)) (p:(decide (((0:Nat):Int)≤(k:Int)))=true) (n:(decide ((k:Int)<(c.length:Int)))=true) (i:lit false ((c.length:Int)==((0:Nat):Int))=true) (j:CO 19 [.sl (aZ e) e.length ne,.agg [.sl (eU ls) ls.length g,.sl (gZ d) d.length h]] (.ret (.own (gK c) c.length 4))):CO 21 [.sl (aZ e) e.length ne,.agg [.sl (eU ls) ls.length g,.sl (gZ d) d.length h]] (.ret (fM o)):=pK [] 1 0 (.n 5 (.a (sF [.bool,.str,.str,.int .i64] f rfl) (.c p (.c n (.c i (.n 2 .nil)))))) (.v 18 (.rd [.bool,.str,.str,.int .i64] f rfl) (.v 16 (.eq m) (.c j .nil)))
theorem aib (ne d f:Bool) (e:List Nd) (ls:List Lk) (c:List Sc) (g:CO 19 [.sl (aZ e) e.length ne,.agg [.sl (eU ls) ls.length d,.sl (gZ c) c.length f]] (.ret (.nilS))) (h:CO 41 [.int .i64 11] (.ret (.agg [.bool false,.str [],.str [],.int .i64 11]))):CO 21 [.sl (aZ e) e.length ne,.agg [.sl (eU ls) ls.length d,.sl (gZ c) c.length f]] (.ret (.agg [.bool false,.str [],.str [],.int .i64 11])):=pK [] 1 1 (.n 8 .nil) (.c h (.c g .nil))
def PL (E:dY) (A:List (List Nat)):List Nd→List Oq→List Oq
 | [],os=>os
 |x::r,os=>PL E A r (os++ [fE E x ((A.getD os.length []).map fun j=>os.getD j zO)])
def dZ (E:dY) (e:List Nd):List Oq:=PL E (eX e) e []
def jX (E:dY) (e:List Nd):Oq:=if dE e=0 then (dZ E e).getLastD (.err 11) else .err 11
theorem zn (l:List Oq):(gK l).length=l.length*4:=oh Dj 4 (fun _=>rfl) l
theorem oM {l:List Oq} {k:Nat} (h:k<l.length):List.drop ((0+Int.toNat (k:Int))*4) (gK l)=Dj (l.getD k zO)++gK (l.drop (k+1)):=by
 rw [aJ,Nat.zero_add,List.getD_eq_getElem?_getD,List.getElem?_eq_getElem h]
 exact vV Dj 4 (fun _=>rfl) h
theorem uV (l:List Oq) (o:Oq):List.take (l.length*4) (gK l)++ [.bool o.n,.str o.a,.str o.d,.int .i64 o.e]=gK (l++ [o]):=by
 rw [List.take_of_length_le (by rw [zn];exact Nat.le_refl _)]
 unfold gK;rw [List.flatMap_append];rfl
def teO (os:List Oq):AV:=match os with| []=> .nilS|_::_=> .ref 2 0 0 os.length
def teB (os:List Oq):Hp:=match os with| []=> []|_::_=> [(2,⟨gK os,0,false,0,4,true⟩)]
abbrev teS (E:dY) (nl ns ne na:Bool) (e:List Nd) (A:List (List Nat)) (os:List Oq):St:=⟨[(3,.ptr 0 0 0),(5,.sl (dC A) A.length na),(7,.ptr 1 0 0),(8,teO os),(23,.sl (aZ e) e.length ne),(24,.int .i64 (e.length:Int)),(25,.int .i64 (os.length:Int))],Nc E.ls (E.qs.map Sq.c) nl ns (Ai E.ls).1 (Ai E.ls).2 (Dn (E.qs.map Sq.c)).1 (Dn (E.qs.map Sq.c)).2++teB os,.dead,[]⟩
def adF (os:List Oq):St:=match os with| []=> ⟨[(8,.nilS)],[],.dead,[]⟩|_::_=> ⟨[(8,.ref 0 0 0 os.length)],[(0,⟨gK os,0,false,0,4,true⟩)],.dead,[]⟩
theorem Yw (E:dY) (f d ne g:Bool) (e:List Nd) (A:List (List Nat)) (c:List Oq) (o:Oq):teS E f d ne g e A (c++ [o])=⟨[(3,.ptr 0 0 0),(5,.sl (dC A) A.length g),(7,.ptr 1 0 0),(8,.ref 2 0 0 (c.length+1)),(23,.sl (aZ e) e.length ne),(24,.int .i64 (e.length:Int)),(25,.int .i64 ((c.length+1:Nat):Int))],Nc E.ls (E.qs.map Sq.c) f d (Ai E.ls).1 (Ai E.ls).2 (Dn (E.qs.map Sq.c)).1 (Dn (E.qs.map Sq.c)).2++ [(2,⟨gK (c++ [o]),0,false,0,4,true⟩)],.dead,[]⟩:=by
 cases c with
 |nil=>rfl
 |cons a r=>
  show (⟨[(3,_),(5,_),(7,_),(8,.ref 2 0 0 (a::r++ [o]).length),(23,_),(24,_),(25,.int .i64 (((a::r++ [o]).length:Nat):Int))],_,_,_⟩:St)=_
  rw [show (a::r++ [o]).length=(a::r).length+1 from List.length_append]
  rfl
theorem FZ (E:dY) (f d ne g:Bool) (e:List Nd) (A:List (List Nat)) {c:List Oq} (h:0<c.length):teS E f d ne g e A c=⟨[(3,.ptr 0 0 0),(5,.sl (dC A) A.length g),(7,.ptr 1 0 0),(8,.ref 2 0 0 c.length),(23,.sl (aZ e) e.length ne),(24,.int .i64 (e.length:Int)),(25,.int .i64 (c.length:Int))],Nc E.ls (E.qs.map Sq.c) f d (Ai E.ls).1 (Ai E.ls).2 (Dn (E.qs.map Sq.c)).1 (Dn (E.qs.map Sq.c)).2++ [(2,⟨gK c,0,false,0,4,true⟩)],.dead,[]⟩:=by
 cases c with
 |nil=>simp at h
 |cons a r=>rfl
theorem RP {x:Nd} (h:aK x=0):Yo x:=by
 intro f e
 have c:jg x=true:=by
  cases g:jg x with
  |true=>rfl
  |false=>
   exfalso
   unfold aK at h
   rw [g] at h
   cases d:(!inI x.op||(!rH x.op && !(x.name== [])))<;>rw [d] at h<;>cases h
 unfold jg at c
 rw [show (x.op==((4:Nat):Int))=false from beq_eq_false_iff_ne.2 (by omega),show OI x.op=false from decide_eq_false (by omega),show Pv x.op=true from decide_eq_true ⟨f,e⟩] at c
 simp only [cond,Bool.and_eq_true] at c
 exact ⟨c.1,by have:=of_decide_eq_true c.2;omega⟩
theorem P8:∀ (r:List Nd) (d k:Nat),iy r d= .inl k→∀ x ∈ r,aK x=0
 | [],_,_,_,x,hx=>by cases hx
 | y::r,d,k,h,x,hx=>by
  simp only [iy] at h
  split at h
  ·rename_i c
   split at h
   ·cases h
   ·rcases List.mem_cons.1 hx with rfl|hx
    ·exact c
    ·exact P8 r _ k h x hx
  ·cases h
theorem nN {e:List Nd} (h:dE e=0):(∀ x ∈ e,aK x=0)∧e.length≤60∧0<e.length:=by
 unfold dE at h
 split at h
 ·cases h
 ·rename_i f
  cases c:iy e 0 with
  |inl d=>
   refine ⟨P8 e 0 d c,by omega, ?_⟩
   cases e with
   |nil=>simp only [iy] at c;cases c;simp [iy] at h
   |cons _ _=>simp
  |inr w=>
   rw [c] at h
   exact absurd h (CW _ _ _ c)
structure dY.sm (E:dY):Prop where
 ls:E.ls.length<2^40
 qs:E.qs.length<2^40
 lk:∀ x ∈ E.ls,x.a.length<2^36∧x.d.length<2^36
 sq:∀ s ∈ E.qs,s.l.length<2^40∧∀ b ∈ s.l,b.s28
theorem acC {nt:Nat} (G:56≤nt) (E:dY) (y B ne z:Bool) {e:List Nd} (hE:E.sm) (Z:dE e=0) (V:∀ x ∈ e,x.sm):∀ (r p:List Nd) (c:List Oq),e=p++r→c.length=p.length→(∀ o ∈ c,o.ok)→
  aI prog ap [] nt (ag 0 (ai f19)) (fun _=> .exit 0) (teS E y B ne z e (eX e)) adF c (PL E (eX e) r c):=by
 obtain ⟨hw,h60,Y⟩:=nN Z
 obtain ⟨hal,has⟩:=DV Z
 intro r
 induction r with
 |nil=>
  intro p c hp m F
  rw [List.append_nil] at hp
  subst hp
  cases c with
  |nil=>exact .done (Z9 ne y B z 0 _ _ _ _ e (eX e) E.ls (E.qs.map Sq.c) G (aF (decide_eq_false (by simp at m;omega))))
  |cons a r=>exact .done (ae5 ne y B z (a::r).length _ _ _ _ e (eX e) (a::r) E.ls (E.qs.map Sq.c) G (aF (decide_eq_false (by omega))))
 | cons x r ih=>
  intro p c hp m F
  have R:c.length<e.length:=by rw [hp,m];simp
  have Q:e[c.length]=x:=by subst hp;simp [m]
  have I:x ∈ e:=by rw [← Q];exact List.getElem_mem R
  have O:List.drop (Int.toNat (c.length:Int)*5) (aZ e)=zQ x++aZ r:=by subst hp;exact Jv m
  obtain ⟨d,g⟩:=has c.length x (by rw [List.getElem?_eq_getElem R,Q])
  have J:=NP (A:=eX e) (k:=c.length) (by omega)
  have D:=vI (hw x I)
  have w:=fun (nn:Bool) (l:List Oq) (W:l.length=fG x.op) (hk:∀ o ∈ l,o.ok)=>KW E x nn l D.1 D.2 (RP (hw x I)) W hk (V x I) hE.sq
  have P:∀ j,(c.getD j zO).ok∨c.length≤j:=fun j=>by
   rcases Nat.lt_or_ge j c.length with h|h
   ·left
    rw [List.getD_eq_getElem?_getD,List.getElem?_eq_getElem h]
    exact F _ (List.getElem_mem h)
   ·exact .inr h
  have f:∀ j ∈ (eX e).getD c.length [],(c.getD j zO).ok:=fun j S=>(P j).resolve_right (by have:=g j S;omega)
  have K:∀ l:List Nat,(∀ j ∈ l,(c.getD j zO).ok)→∀ o ∈ c++ [fE E x (l.map fun j=>c.getD j zO)],o.ok:=fun l W o C=>by
   rcases List.mem_append.1 C with C|C
   ·exact F o C
   ·rw [List.mem_singleton] at C
    subst C
    exact Xm fun o C=>by
     obtain ⟨j,S,rfl⟩:=List.mem_map.1 C
     exact W j S
  have nx:=ih (p++ [x]) (c++ [fE E x (((eX e).getD c.length []).map fun j=>c.getD j zO)]) (by rw [hp];simp) (by simp [m]) (K _ f)
  refine .next ?_ nx
  rw [Yw]
  have M:decide (((0:Nat):Int)≤(c.length:Int))=true:=decide_eq_true (by omega)
  have N:decide ((c.length:Int)<(((eX e).length:Nat):Int))=true:=decide_eq_true (by omega)
  have v:decide ((c.length:Int)<(e.length:Int))=true:=decide_eq_true (by omega)
  have u:=CG (i:=c.length) (by omega)
  have U:Nat.ble (c.length+1) 1099511627776=true:=Nat.ble_eq_true_of_le (by omega)
  have T:Nat.ble (c.length*4) (List.length (gK c))=true:=Nat.ble_eq_true_of_le (by rw [zn];exact Nat.le_refl _)
  have n:∀ j,j<c.length→decide (((0:Nat):Int)≤(j:Int))=true∧decide ((j:Int)<(c.length:Int))=true:=fun j S=> ⟨decide_eq_true (by omega),decide_eq_true (by omega)⟩
  generalize (eX e).getD c.length []=al at*
  have h3:=Vh x.op
  match al,d with
  | [],d=>
   have c0:=(w false [] d (by simp)).args (gX.cons (aW.refl _) (gX.cons (aW.refl _) (gX.cons (aW.nilS false rfl) (gX.refl _))))
   cases c with
   |nil=>exact Z8 x _ ne y B z 0 _ _ _ _ _ _ e (eX e) E.ls (E.qs.map Sq.c) G O J u M N v (aG v) c0
   |cons a q=>
    exact ae3 x _ ne y B z _ _ _ _ _ _ _ e (eX e) (a::q) E.ls (E.qs.map Sq.c) G O J (uV _ _) u U T M N v (aG v) c0
  | [i],d=>
   have t:=g i (by simp)
   rw [FZ _ _ _ _ _ _ _ (by omega)]
   exact ae6 x _ (c.getD i zO) ne y B z _ i _ _ _ _ _ _ _ e (eX e) c E.ls (E.qs.map Sq.c) G O J (oM t) (uV _ _) u U T (n i t).1 (n i t).2 M N v (aG v) (w true [c.getD i zO] d (by simpa using f i (by simp)))
  | [i,j],d=>
   have t:=g i (by simp)
   have H:=g j (by simp)
   rw [FZ _ _ _ _ _ _ _ (by omega)]
   exact ae7 x _ (c.getD i zO) (c.getD j zO) ne y B z _ i j _ _ _ _ _ _ _ _ e (eX e) c E.ls (E.qs.map Sq.c) G O J (oM t) (oM H) (uV _ _) u U T (n j H).1 (n j H).2 (n i t).1 (n i t).2 M N v (aG v) (w true [c.getD i zO,c.getD j zO] d (by
    intro o m;simp at m;rcases m with rfl|rfl
    ·exact f i (by simp)
    ·exact f j (by simp)))
  | [i,j,h],d=>
   have t:=g i (by simp)
   have H:=g j (by simp)
   have X:=g h (by simp)
   rw [FZ _ _ _ _ _ _ _ (by omega)]
   exact ae8 x _ (c.getD i zO) (c.getD j zO) (c.getD h zO) ne y B z _ i j h _ _ _ _ _ _ _ _ _ e (eX e) c E.ls (E.qs.map Sq.c) G O J (oM t) (oM H) (oM X) (uV _ _) u U T (n h X).1 (n h X).2 (n j H).1 (n j H).2 (n i t).1 (n i t).2 M N v (aG v) (w true [c.getD i zO,c.getD j zO,c.getD h zO] d (by
    intro o m;simp at m;rcases m with rfl|rfl|rfl
    ·exact f i (by simp)
    ·exact f j (by simp)
    ·exact f h (by simp)))
  |_::_::_::_::_,d=>simp only [List.length_cons] at d;omega
theorem Dw (E:dY) (A:List (List Nat)):∀ (r:List Nd) (os:List Oq),(PL E A r os).length=os.length+r.length
 | [],os=>by simp [PL]
 |x::r,os=>by rw [PL,Dw E A r];simp;omega
theorem TE (E:dY) (d f ne:Bool) {e:List Nd} (g:dE e ≠ 0) (c:∀ x ∈ e,x.sm):CO 19 [.sl (aZ e) e.length ne,.agg [.sl (eU E.ls) E.ls.length d,.sl (gZ (E.qs.map Sq.c)) (E.qs.map Sq.c).length f]] (.ret .nilS):=
 aiN ne d f e E.ls (E.qs.map Sq.c) (ahv e ne (dE e) [] (by rw [show (dE e==((0:Nat):Int))=false from beq_eq_false_iff_ne.2 g];rfl) (D5 e ne c))
theorem Hu (E:dY) (c d ne:Bool) {e:List Nd} (g:E.sm) (i:dE e=0) (f:∀ x ∈ e,x.sm):CO 19 [.sl (aZ e) e.length ne,.agg [.sl (eU E.ls) E.ls.length c,.sl (gZ (E.qs.map Sq.c)) (E.qs.map Sq.c).length d]] (.ret (.own (gK (dZ E e)) (dZ E e).length 4)):=by
 have j:(dZ E e).length=e.length:=by unfold dZ;rw [Dw];simp
 have k:=(nN i).2.2
 have n:=KX E.ls (E.qs.map Sq.c) c d (Nat.lt_trans g.ls (by decide)) (by rw [List.length_map];exact Nat.lt_trans g.qs (by decide)) g.lk
 have m:∀ nt,56≤nt→aI prog ap [] nt (ag 0 (ai f19)) (fun _=> .exit 0) (teS E c d ne true e (eX e)) adF [] (dZ E e):=fun nt p=>acC p E c d ne true g i f e [] [] rfl rfl (by simp)
 have o:=aI.blk (id:=0) (e':= .normal) (s:=⟨[(0,.sl (aZ e) e.length ne),(1,.agg [.sl (eU E.ls) E.ls.length c,.sl (gZ (E.qs.map Sq.c)) (E.qs.map Sq.c).length d]),(3,.ptr 0 0 0),(4,.nilS),(5,.sl (dC (eX e)) (eX e).length true),(6,.bool true),(7,.ptr 1 0 0),(8,.nilS),(9,.dead),(10,.dead),(11,.dead),(13,.dead),(20,.bool false),(23,.sl (aZ e) e.length ne),(24,.int .i64 (e.length:Int)),(25,.int .i64 0),(26,.dead),(33,.dead),(34,.dead),(35,.dead),(36,.dead)],Nc E.ls (E.qs.map Sq.c) c d (Ai E.ls).1 (Ai E.ls).2 (Dn (E.qs.map Sq.c)).1 (Dn (E.qs.map Sq.c)).2,.dead,[]⟩) (s':=⟨[(8,.ref 0 0 0 (dZ E e).length)],[(0,⟨gK (dZ E e),0,false,0,4,true⟩)],.dead,[]⟩) m (by simp) rfl (aQ.of ⟨rfl,rfl,rfl,rfl,rfl,rfl,rfl,trivial⟩) (by
  generalize dZ E e=t at j
  cases t with
  |nil=>simp at j;omega
  |cons a r=>exact aQ.refl _)
 have h:=aiM ne c d true _ _ _ _ e (eX e) (dZ E e) E.ls (E.qs.map Sq.c) (Vj e ne f i) n o
 rw [List.take_of_length_le (by rw [zn];exact Nat.le_refl _)] at h
 exact h
theorem fD (E:dY) (d f ne:Bool) {e:List Nd} (i:E.sm) (c:∀ x ∈ e,x.sm):CO 21 [.sl (aZ e) e.length ne,.agg [.sl (eU E.ls) E.ls.length d,.sl (gZ (E.qs.map Sq.c)) (E.qs.map Sq.c).length f]] (.ret (fM (jX E e))):=by
 unfold jX
 by_cases hc:dE e=0
 ·rw [if_pos hc]
  have k:=Hu E d f ne i hc c
  have m:(dZ E e).length=e.length:=by unfold dZ;rw [Dw];simp
  obtain ⟨_,j,g⟩:=nN hc
  have h:(dZ E e).length - 1<(dZ E e).length:=by omega
  have hlast:(dZ E e).getLastD (.err 11)=(dZ E e).getD ((dZ E e).length - 1) zO:=by
   rw [List.getLastD_eq_getLast?,List.getLast?_eq_getElem?,List.getD_eq_getElem?_getD,List.getElem?_eq_getElem h];rfl
  rw [hlast]
  refine aic _ ne d f ((dZ E e).length - 1) _ e (dZ E e) E.ls (E.qs.map Sq.c) (oM h) ?_ (decide_eq_true (by omega)) (decide_eq_true (by omega)) ?_ k
  ·congr 1
   rw [show (((dZ E e).length:Nat):Int) - ((1:Nat):Int)=(((dZ E e).length - 1:Nat):Int) by omega]
   exact bz (by omega)
  ·rw [show ((((dZ E e).length:Nat):Int)==((0:Nat):Int))=false from beq_eq_false_iff_ne.2 (by omega)];rfl
 ·rw [if_neg hc]
  exact aib ne d f e E.ls (E.qs.map Sq.c) (TE E d f ne hc c) (iQ 11)
end Go.Proofs.Tryz
set_option maxRecDepth 100000
open Go AM
namespace Go.Proofs.Tryz
def Fj (ts:List Ty) (a:List Nat):List Ty:=a.map fun j=>ts.getD j zT
def BU (l:List Sg):List Nd→Nat→List Nat→List Ty→List Ty ⊕ Int
 | [],_,_,ts=> .inl ts
 |x::r,k,st,ts=>if (mG l x (Fj ts (st.drop (st.length - fG x.op)))).2=0 then BU l r (k+1) (st.take (st.length - fG x.op)++ [k]) (ts++ [(mG l x (Fj ts (st.drop (st.length - fG x.op)))).1]) else .inr (mG l x (Fj ts (st.drop (st.length - fG x.op)))).2
theorem uB {x:Nd} {r:List Nd} {d:Nat} (c:aK x=0) (h:fG x.op≤d):iy (x::r) d=iy r (d - fG x.op+1):=by
 simp only [iy]
 rw [if_pos c,if_neg (by omega)]
theorem zI {l:List Sg} {x:Nd} {r:List Nd} {k:Nat} {st ws:List Nat} {ts own:List Ty} {t:Ty} (f:ws.length=fG x.op) (c:Fj ts ws=own) (e:mG l x own=(t,0)):BU l (x::r) k (st++ws) ts=BU l r (k+1) (st++ [k]) (ts++ [t]):=by
 have d:(st++ws).length - fG x.op=st.length:=by rw [List.length_append];omega
 simp only [BU,d,List.drop_left,List.take_left]
 rw [c,e]
 simp
theorem wu (ts d rest:List Ty) (c:Ty):(ts++(d++ [c])++rest).getD (ts.length+d.length) zT=c:=by
 rw [List.append_assoc,List.append_assoc,List.getD_eq_getElem?_getD,List.getElem?_append_right (by omega),List.getElem?_append_right (by omega)]
 simp
inductive Beg (ps:List (List Nat)):Nat→Nat→Prop where
 |z {i:Nat}:ps[i]? =some []→Beg ps i i
 |s {i c b:Nat} {r:List Nat}:ps[i]? =some (c::r)→c<i→Beg ps c b→Beg ps i b
structure Pf (l:List Sg) (e:List Nd) (u:List Ty) (ws:List Nat) (ps:Nat→List (List Nat)):Prop where
 len:u.length=e.length
 al:∀ k,(ps k).length=e.length
 emp:ws= []→e= []
 arg:∀ r k st,uh (e++r) k st=ps k++uh r (k+e.length) (st++ws.map (k+·))
 beg:∀ k pre post,pre.length=k→∀ i,i<e.length→∃ b,b≤i∧Beg (pre++(ps k++post)) (k+i) (k+b)∧Tm l ((e.drop b).take (i+1 - b)) (u.getD i zT)
 top:∀ w ws',ws=w::ws'→w<e.length∧∀ k pre post,pre.length=k→Beg (pre++(ps k++post)) (k+w) k
theorem Pf.nil (l:List Sg):Pf l [] [] [] (fun _=> []) where
 len:=rfl
 al _:=rfl
 emp _:=rfl
 arg r k st:=by simp
 beg k pre post hk i hi:=absurd hi (Nat.not_lt_zero _)
 top w ws' h:=by cases h
theorem WC {α:Type} {a b:List α} {i:Nat} {z:α} (h:i<a.length):(a++b).getD i z=a.getD i z:=by
 rw [List.getD_eq_getElem?_getD,List.getElem?_append_left h,← List.getD_eq_getElem?_getD]
theorem Pf.app {l:List Sg} {e a:List Nd} {u n:List Ty} {ws j:List Nat} {ps m:Nat→List (List Nat)} (h:Pf l e u ws ps) (g:Pf l a n j m):Pf l (e++a) (u++n) (ws++j.map (e.length+·)) (fun k=>ps k++m (k+e.length)) where
 len:=by rw [List.length_append,List.length_append,h.len,g.len]
 al k:=by rw [List.length_append,List.length_append,h.al,g.al]
 emp q:=by
  rw [List.append_eq_nil_iff,List.map_eq_nil_iff] at q
  rw [h.emp q.1,g.emp q.2];rfl
 arg r k st:=by
  rw [List.append_assoc,h.arg,g.arg,List.length_append,List.map_append,List.map_map,List.append_assoc,List.append_assoc,Nat.add_assoc]
  congr 4
  have:j.map (k+e.length+·)=j.map ((k+·) ∘ (e.length+·)):=List.map_congr_left fun x _=>Nat.add_assoc ..
  rw [this]
 beg k pre post f i hi:=by
  rcases Nat.lt_or_ge i e.length with hl|hl
  ·obtain ⟨b,o,c,d⟩:=h.beg k pre (m (k+e.length)++post) f i hl
   refine ⟨b,o,by rw [List.append_assoc];exact c, ?_⟩
   rw [List.drop_append_of_le_length (by omega),List.take_append_of_le_length (by rw [List.length_drop];omega),WC (by rw [h.len];exact hl)]
   exact d
  ·rw [List.length_append] at hi
   obtain ⟨b,o,c,d⟩:=g.beg (k+e.length) (pre++ps k) post (by rw [List.length_append,f,h.al]) (i - e.length) (by omega)
   refine ⟨e.length+b,by omega, ?_, ?_⟩
   ·rw [List.append_assoc,show k+e.length+(i - e.length)=k+i by omega,Nat.add_assoc] at c
    rw [List.append_assoc];exact c
   ·rw [List.drop_append,List.drop_of_length_le (by omega),List.nil_append,Nat.add_sub_cancel_left,show i+1 - (e.length+b)=i - e.length+1 - b by omega,List.getD_eq_getElem?_getD,List.getElem?_append_right (by rw [h.len];exact hl),h.len,← List.getD_eq_getElem?_getD]
    exact d
 top w ws' q:=by
  cases ws with
  |cons w0 w1=>
   obtain ⟨c,d⟩:=h.top w0 w1 rfl
   rw [List.cons_append,List.cons.injEq] at q
   rw [← q.1]
   refine ⟨by rw [List.length_append];omega,fun k pre post f=> ?_⟩
   rw [List.append_assoc]
   exact d k pre _ f
  | nil=>
   have t:=h.emp rfl
   subst t
   have p:ps 0= []:=List.length_eq_zero_iff.1 (h.al 0)
   cases j with
   |nil=>cases q
   |cons w0 w1=>
    obtain ⟨c,d⟩:=g.top w0 w1 rfl
    simp only [List.nil_append,List.map_cons,List.length_nil,Nat.zero_add,List.cons.injEq] at q
    rw [← q.1]
    refine ⟨by simpa using c,fun k pre post f=> ?_⟩
    have p:ps k= []:=List.length_eq_zero_iff.1 (h.al k)
    rw [p]
    exact d k pre post f
theorem Pf.node {l:List Sg} {e:List Nd} {u:List Ty} {ws:List Nat} {ps:Nat→List (List Nat)} {x:Nd} {t:Ty} (h:Pf l e u ws ps) (v:ws.length=fG x.op) (n:Tm l (e++ [x]) t):Pf l (e++ [x]) (u++ [t]) [u.length] (fun k=>ps k++ [ws.map (k+·)]):=by
 have key:∀ k pre post,pre.length=k→Beg (pre++(ps k++ [ws.map (k+·)]++post)) (k+e.length) k:=by
  intro k pre post d
  have j:(pre++(ps k++ [ws.map (k+·)]++post))[k+e.length]? =some (ws.map (k+·)):=by
   rw [List.getElem?_append_right (by omega),List.append_assoc,List.getElem?_append_right (by rw [h.al];omega),h.al,d,Nat.add_sub_cancel_left,Nat.sub_self];rfl
  cases ws with
  |nil=>
   have p:=h.emp rfl
   subst p
   exact .z j
  |cons w c=>
   obtain ⟨f,g⟩:=h.top w c rfl
   refine .s j (by show k+w<_;omega) ?_
   rw [List.append_assoc]
   exact g k pre _ d
 refine ⟨by simp [h.len],fun k=>by simp [h.al],(fun q=>by cases q),fun r k st=> ?_,fun k pre post d i m=> ?_,fun w c q=> ?_⟩
 ·have f:(st++ws.map (k+·)).length - fG x.op=st.length:=by rw [List.length_append,List.length_map];omega
  rw [List.append_assoc,h.arg,List.singleton_append,uh,f,List.drop_left,List.take_left,h.len]
  simp [Nat.add_assoc]
 ·rw [List.length_append,List.length_singleton] at m
  rcases Nat.lt_or_ge i e.length with hl|hl
  ·obtain ⟨b,o,f,g⟩:=h.beg k pre ([ws.map (k+·)]++post) d i hl
   refine ⟨b,o,by rw [List.append_assoc];exact f, ?_⟩
   rw [List.drop_append_of_le_length (by omega),List.take_append_of_le_length (by rw [List.length_drop];omega),WC (by rw [h.len];exact hl)]
   exact g
  ·obtain rfl:i=e.length:=by omega
   refine ⟨0,Nat.zero_le _,key k pre post d, ?_⟩
   rw [List.drop_zero,List.take_of_length_le (by simp),List.getD_eq_getElem?_getD,List.getElem?_append_right (by rw [h.len];exact Nat.le_refl _),h.len,Nat.sub_self]
   exact n
 ·simp only [List.cons.injEq] at q
  rw [← q.1,h.len]
  exact ⟨by simp,key⟩
structure amf (l:List Sg) (e:List Nd) (t:Ty) (u:List Ty):Prop where
 len:e.length=u.length+1
 chk:∀ r d,iy (e++r) d=iy r (d+1)
 typ:∀ r k st ts,ts.length=k→BU l (e++r) k st ts=BU l r (k+e.length) (st++ [k+u.length]) (ts++(u++ [t]))
theorem Tm.runs {l:List Sg} {e:List Nd} {t:Ty} (h:Tm l e t):∃ u,amf l e t u∧∃ ps,Pf l e (u++ [t]) [u.length] ps:=by
 induction h with
 | @n0 x t hw ha ht=>
  refine ⟨[],⟨rfl,fun r d=> ?_,fun r k st ts i=> ?_⟩,_,(Pf.nil l).node (by rw [ha];rfl) (.n0 hw ha ht)⟩
  ·rw [List.singleton_append,uB hw (by omega),ha];rfl
  ·have:=zI (l:=l) (x:=x) (r:=r) (k:=k) (st:=st) (ws:= []) (ts:=ts) (own:= []) (t:=t) (by rw [ha];rfl) rfl ht
   rw [List.append_nil] at this
   simpa using this
 | @n1 x t ta a ma hw ha ht iha=>
  obtain ⟨f,⟨m,v,w⟩,_,p⟩:=iha
  refine ⟨f++ [ta],⟨by simp [m],fun r d=> ?_,fun r k st ts i=> ?_⟩,_,p.node (by rw [ha];rfl) (.n1 ma hw ha ht)⟩
  ·rw [List.append_assoc,v,List.singleton_append,uB hw (by omega),ha];rfl
  ·have:=zI (l:=l) (x:=x) (r:=r) (k:=k+a.length) (st:=st) (ws:= [k+f.length]) (ts:=ts++(f++ [ta])) (own:= [ta]) (t:=t) (by rw [ha];rfl) (by
    have:=wu ts f [] ta
    rw [List.append_nil,i] at this
    simp only [Fj,List.map_cons,List.map_nil]
    rw [this]) ht
   rw [List.append_assoc,w _ k st ts i,List.singleton_append,this]
   simp [m,Nat.add_assoc]
 | @n2 x t ta tb a b ma mb hw ha ht iha ihb=>
  obtain ⟨f,⟨m,v,w⟩,_,p⟩:=iha
  obtain ⟨g,⟨z,C,B⟩,_,A⟩:=ihb
  refine ⟨f++ [ta]++(g++ [tb]),⟨by simp [m,z];omega,fun r d=> ?_,fun r k st ts i=> ?_⟩,_,(p.app A).node (by rw [ha];rfl) (.n2 ma mb hw ha ht)⟩
  ·rw [List.append_assoc,List.append_assoc,v,C,List.singleton_append,uB hw (by omega),ha];rfl
  ·have j:(ts++(f++ [ta])).length=k+a.length:=by simp [i,m]
   have:=zI (l:=l) (x:=x) (r:=r) (k:=k+a.length+b.length) (st:=st) (ws:= [k+f.length,k+a.length+g.length]) (ts:=ts++(f++ [ta])++(g++ [tb])) (own:= [ta,tb]) (t:=t) (by rw [ha];rfl) (by
    have q:=wu ts f (g++ [tb]) ta
    have o:=wu (ts++(f++ [ta])) g [] tb
    rw [i] at q
    rw [List.append_nil,j] at o
    simp only [Fj,List.map_cons,List.map_nil]
    rw [q,o]) ht
   rw [List.append_assoc,List.append_assoc,w _ k st ts i,B _ _ _ _ j,List.singleton_append,List.append_assoc,List.singleton_append,this]
   refine congr (congr (congrArg (BU l r) ?_) ?_) ?_
   ·simp;omega
   ·congr 2;simp;omega
   ·simp
 | @n3 x t ta tb tc a b c ma mb mc hw ha ht iha ihb ihc=>
  obtain ⟨f,⟨m,v,w⟩,_,p⟩:=iha
  obtain ⟨g,⟨z,C,B⟩,_,A⟩:=ihb
  obtain ⟨n,⟨G,H,E⟩,_,F⟩:=ihc
  refine ⟨f++ [ta]++(g++ [tb])++(n++ [tc]),⟨by simp [m,z,G];omega,fun r d=> ?_,fun r k st ts i=> ?_⟩,_,((p.app A).app F).node (by rw [ha];rfl) (.n3 ma mb mc hw ha ht)⟩
  ·rw [List.append_assoc,List.append_assoc,List.append_assoc,v,C,H,List.singleton_append,uB hw (by omega),ha];rfl
  ·have j:(ts++(f++ [ta])).length=k+a.length:=by simp [i,m]
   have y:(ts++(f++ [ta])++(g++ [tb])).length=k+a.length+b.length:=by simp [i,m,z];omega
   have:=zI (l:=l) (x:=x) (r:=r) (k:=k+a.length+b.length+c.length) (st:=st) (ws:= [k+f.length,k+a.length+g.length,k+a.length+b.length+n.length]) (ts:=ts++(f++ [ta])++(g++ [tb])++(n++ [tc])) (own:= [ta,tb,tc]) (t:=t) (by rw [ha];rfl) (by
    have q:=wu ts f ((g++ [tb])++(n++ [tc])) ta
    have o:=wu (ts++(f++ [ta])) g (n++ [tc]) tb
    have D:=wu (ts++(f++ [ta])++(g++ [tb])) n [] tc
    rw [i,← List.append_assoc] at q
    rw [j] at o
    rw [List.append_nil,y] at D
    simp only [Fj,List.map_cons,List.map_nil]
    rw [q,o,D]) ht
   rw [List.append_assoc,List.append_assoc,List.append_assoc,w _ k st ts i,B _ _ _ _ j,E _ _ _ _ y,List.singleton_append,List.append_assoc,List.append_assoc,List.singleton_append,List.singleton_append,this]
   refine congr (congr (congrArg (BU l r) ?_) ?_) ?_
   ·simp;omega
   ·congr 2;simp;omega
   ·simp
theorem Tm.check {l:List Sg} {e:List Nd} {t:Ty} (h:Tm l e t) (d:e.length≤60):dE e=0:=by
 obtain ⟨u,⟨g,c,f⟩,_⟩:=h.runs
 have:=c [] 0
 rw [List.append_nil] at this
 unfold dE
 rw [if_neg (by omega),this]
 simp [iy]
end Go.Proofs.Tryz
