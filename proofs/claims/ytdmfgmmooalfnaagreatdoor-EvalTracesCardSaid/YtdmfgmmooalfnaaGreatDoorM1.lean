/- The machine and its soundness. -/
import Derived.WalkKit
import Derived.Deep.AppendSrc
import Derived.Deep.MidRow
import Derived.WalkLawsBesides
set_option linter.unusedSimpArgs false
set_option linter.unusedVariables false
open Nat renaming beq->Xqn,blt->Xjj,ble->Φ,le_refl->χ,le_trans->Xxg,add_zero->Xq1,add_assoc->Xxu,add_mul->Xxt,zero_add->Ψ
open List renaming replicate->μ,range->Xq7,cons_append->Xxf,take_succ_cons->Xja,map_cons->Xqg,getD_eq_getElem?_getD->ξ,headD_eq_head?_getD->Xwi,head?_drop->Xki,tail_drop->Xkp,getElem?_map->Xq5,getElem?_take->Xj7,getElem?_drop->Xzj,getElem?_eq_getElem->π,drop_eq_nil_of_le->Xzx,length_cons->ν,length_nil->Xqf
open BitVec renaming ofInt->Xqm
open Bool renaming and_eq_true->φ,not_eq_true'->Xqq
open Option renaming map_eq_some_iff->Xqs
namespace AM
open Go
inductive AV where
 |int (k:IntKind) (n:Int)
 |bool (b:Bool)
 |str (s:List UInt8)
 |agg (l:List AV)
 |tup (l:List AV)
 |nilS
 |sl (xs:List AV) (n:Nat) (nn:Bool)
 |ref (b ver i n:Nat)
 |own (xs:List AV) (n esz:Nat)
 |ptr (b ver off:Nat)
 |pp (xs:List AV) (off:Nat)
 |mr (b ver:Nat)
 |mp (ks vs:List AV)
 |nilP
 |fn (f:Nat) (first cap:List AV)
 |nilF
 |ifc (t:Nat) (v:AV)
 |nilI
 |dead
inductive LK where
 |int (k:IntKind)
 |bool
 |str
 |sl
 |oth
inductive TD where
 |struct (fs:List (Nat × Nat × Nat))
 |array (n elem:Nat)
 |slice (elem:Nat)
 |int (k:IntKind)
 |str
 |bool
 |iface
 |ptr
 |func
 |map (k e:Nat)
 |oth
structure TI where
 d:TD
 size:Nat
 bytes:Nat
 zero:List AV
 lks:List LK
 cmp:Bool
structure AF where
 fn:Func
 keep:List Nat
 shared:Bool
inductive Tr (α:Type) where
 |nil
 |node (v:Option α) (l r:Tr α)
def Tr.get {α:Type}:Tr α->Nat->Option α
 | .nil,_=>none
 | .node v l r,n=>match Xqn n 0 with
  |true=>v
  |false=>match Xqn (n % 2) 1 with
   |true=>l.get ((n - 1) / 2)
   |false=>r.get ((n - 1) / 2)
structure AP where
 nty:Nat
 ty:Tr TI
 nfn:Nat
 fn:Tr AF
 gl:List (Option (List AV))
def jf:Nat:=4611686018427387904
def ace:List AV->Option AV
 | [.agg ks,.agg vs]=>some (.mp ks vs)
 |_=>none
structure bu where
 cells:List AV
 ver:Nat
 fro:Bool
 fz:Nat
 esz:Nat
 pr:Bool
abbrev jq:=List (Nat × AV)
abbrev Hp:=List (Nat × bu)
def aF {α:Type}:List (Nat × α)->Nat->Option α
 | [],_=>none
 |(u,x)::r,t=>match Xqn u t with|true=>some x|false=>aF r t
def kX {α β:Type} (f:α->Option β):List α->Option (List β)
 | []=>some []
 |x::r=>match f x with
  |some y=>match kX f r with|some l=>some (y::l)|none=>none
  |none=>none
def jq.get (e:jq) (t:Nat):AV:=(aF e t).getD .dead
def AV.cells:AV->List AV
 | .agg l=>l
 |x=> [x]
def AV.toInt:AV->Int| .int _ n=>n|_=>0
def AV.toBool:AV->Bool| .bool b=>b|_=>false
def AV.toStr:AV->List UInt8| .str s=>s|_=> []
def AV.slX:AV->List AV| .sl xs _ _=>xs|_=> []
def AV.slN:AV->Nat| .sl _ n _=>n|_=>0
def Yb:IntKind->Nat
 | .i8=>0| .i16=>1| .i32=>2| .i64=>3| .u8=>4| .u16=>5| .u32=>6| .u64=>7
def jh (a b:IntKind):Bool:=Xqn (Yb a) (Yb b)
def chk:LK->AV->Bool
 | .int k,.int k' _=>jh k k'
 | .bool,.bool _=>true
 | .str,.str _=>true
 | .sl,.sl _ _ _=>true
 | .sl,.nilS=>true
 | .oth,.dead=>false
 | .oth,.agg _=>false
 | .oth,.tup _=>false
 | .oth,.own _ _ _=>false
 | .oth,_=>true
 |_,_=>false
def eta:LK->AV->AV
 | .int k,c=> .int k c.toInt
 | .bool,c=> .bool c.toBool
 | .str,c=> .str c.toStr
 | .sl,c=> .sl c.slX c.slN false
 | .oth,c=>c
def pO:AV->Bool
 | .dead| .agg _| .tup _| .own _ _ _=>false
 |_=>true
mutual
def eQ:AV->List Nat
 | .ref b _ _ _=> [b]
 | .ptr b _ _=> [b]
 | .mr b _=> [b]
 | .agg l=>bW l
 | .tup l=>bW l
 | .fn _ f c=>bW f++bW c
 | .ifc _ v=>eQ v
 |_=> []
def bW:List AV->List Nat
 | []=> []
 |x::r=>eQ x++bW r
end
mutual
def ren (ρ:Nat->Nat->Option (Nat × Nat)):AV->AV
 | .ref b v i n=>match ρ b v with|some (b',v')=> .ref b' v' i n|none=> .dead
 | .ptr b v o=>match ρ b v with|some (b',v')=> .ptr b' v' o|none=> .dead
 | .mr b v=>match ρ b v with|some (b',v')=> .mr b' v'|none=> .dead
 | .agg l=> .agg (nZ ρ l)
 | .tup l=> .tup (nZ ρ l)
 | .fn f a c=> .fn f (nZ ρ a) (nZ ρ c)
 | .ifc t v=> .ifc t (ren ρ v)
 |x=>x
def nZ (ρ:Nat->Nat->Option (Nat × Nat)):List AV->List AV
 | []=> []
 |x::r=>ren ρ x::nZ ρ r
end
def KQ:Value->AV
 | .int k n=> .int k n
 | .bool b=> .bool b
 | .string s=> .str s.data.toList
 | .pointer a=>match a with|none=> .nilP|some _=> .dead
 | .slice a n c=>match a,n,c with|none,0,0=> .nilS|_,_,_=> .dead
 | .nilFunc=> .nilF
 | .nilIface=> .nilI
 | .map a=>match a with|none=> .mp [] []|some _=> .dead
 |_=> .dead
def Gp:Value->AV
 | .agg cs=> .agg (cs.toList.map KQ)
 | .tuple vs=>match vs.toList with| []=> .tup []|_=> .dead
 |v=>KQ v
def AP.tyAt (ap:AP) (t:Nat):Option TI:=match Xjj t ap.nty with|true=>ap.ty.get t|false=>none
def AP.fnAt (ap:AP) (f:Nat):Option AF:=match Xjj f ap.nfn with|true=>ap.fn.get f|false=>none
def uh (l:List Nat) (a:Nat):Bool:=l.any (Xqn a)
def jG (l:List Nat):List Nat:=l.foldl (λacc b=>if uh acc b then acc else acc++ [b]) []
abbrev JJ:=Option (AV × List (Nat × bu) × List Bool)
def bF (v:AV) (bs:List Bool:= []):JJ:=some (v,[],bs)
def Ol (ty:Bool):List LK->List AV->List AV
 | [],_=> []
 |k::ks,ys=>(match ty with|true=>eta k (ys.headD .dead)|false=>ys.headD .dead)::Ol ty ks ys.tail
def WO (ty:Bool):List LK->List AV->List Bool
 | [],_=> []
 |k::ks,ys=>(match ty with|true=>chk k (ys.headD .dead)|false=>chk .oth (ys.headD .dead))::WO ty ks ys.tail
def ww (ty:Bool) (ks:List LK) (xs:List AV) (off:Nat):List AV:=Ol ty ks (xs.drop off)
def JV (ty:Bool) (ks:List LK) (xs:List AV) (off:Nat):List Bool:=WO ty ks (xs.drop off)
def KA:TD->Bool
 | .struct _=>true
 | .array _ _=>true
 |_=>false
def sN (ti:TI) (cs:List AV):Option AV:=
 match KA ti.d with
 |true=>some (.agg cs)
 |false=>match cs with| [c]=>some c|_=>none
def NK (ti:TI) (rd:Nat->Option bu) (p:AV):JJ:=
 match p with
 | .pp xs off=>(sN ti (ww true ti.lks xs off)).bind λv=>bF v (JV true ti.lks xs off)
 | .ptr b ver off=>(rd b).bind λB=>match Xqn B.ver ver && !(Xqn B.esz jf) with
  |true=>(sN ti (ww (Xjj 0 B.esz && B.pr) ti.lks B.cells off)).bind λv=>bF v (JV (Xjj 0 B.esz && B.pr) ti.lks B.cells off)
  |false=>none
 |_=>none
def ji (xs:List AV) (off:Nat) (vs:List AV):List AV:=xs.take off++vs++xs.drop (off+vs.length)
def QN (ti:TI) (rd:Nat->Option bu) (p v:AV):JJ:=
 match p with
 | .ptr b ver off=>(rd b).bind λB=>
  let vs:=v.cells
  let rs:=bW vs
  match Xqn B.ver ver && !B.fro && Xqn vs.length ti.size && vs.all pO && !(Xqn B.esz jf) with
  |true=>some (.dead,[(b,{B with cells:=ji B.cells off vs,pr:=B.pr && rs.isEmpty})],[Φ (off+vs.length) B.cells.length])
  |false=>none
 |_=>none
def jF (nid:Nat) (cells:List AV) (esz:Nat):Nat × bu:=(nid,{cells,ver:=0,fro:=false,fz:=0,esz,pr:=(bW cells).isEmpty})
def xU (cells:List AV):List (Nat × Nat × AV)->Option (List AV)
 | []=>some cells
 |(off,size,v)::r=>match Xqn v.cells.length size && Φ (off+size) cells.length && v.cells.all pO with
  |true=>xU (ji cells off v.cells) r
  |false=>none
def PD (ap:AP) (ti:TI) (parts:List (Nat × AV)):JJ:=
 match ti.d with
 | .struct fs=>(kX (λ(q:Nat × AV)=>(fs[q.1]?).map λ(x:Nat × Nat × Nat)=>(x.1,x.2.2,q.2)) parts).bind λps=>(xU ti.zero ps).bind λcs=>bF (.agg cs)
 | .array _ e=>(ap.tyAt e).bind λte=>(xU ti.zero (parts.map λ(i,v)=>(i*te.size,te.size,v))).bind λcs=>bF (.agg cs)
 |_=>none
def g_ (n:Nat) (z:List AV):List AV:=(μ n z).flatten
def uU (ap:AP) (nid:Nat) (ti:TI) (len:Nat) (parts:List (Nat × AV)):JJ:=
 match ti.d with
 | .slice e=>(ap.tyAt e).bind λte=>
  match Xjj 0 te.size && Φ (len*te.size) (2^24) && Xqn te.zero.length te.size with
  |true=>(xU (g_ len te.zero) (parts.map λ(i,v)=>(i*te.size,te.size,v))).bind λcs=>
   some (.ref nid 0 0 len,[jF nid cs te.size],[])
  |false=>none
 |_=>none
def YJ (p:AV) (o:Nat):Option AV:=
 match p with
 | .ptr b v off=>some (.ptr b v (off+o))
 | .pp xs off=>some (.pp xs (off+o))
 |_=>none
def Si (v:AV):Option Int:=match v with| .int _ n=>some n|_=>none
def yD (ap:AP) (ti:TI) (rd:Nat->Option bu) (x i:AV):JJ:=
 (Si i).bind λi=>
 match ti.d with
 | .slice e=>(ap.tyAt e).bind λte=>
  match x with
  | .sl xs n _=>bF (.pp xs (i.toNat*te.size)) [decide (0<=i),decide (i<n)]
  | .ref b ver j n=>(rd b).bind λB=>match Xqn B.ver ver && Xqn B.esz te.size with
   |true=>bF (.ptr b ver ((j+i.toNat)*te.size)) [decide (0<=i),decide (i<n)]
   |false=>none
  |_=>none
 | .array n e=>(ap.tyAt e).bind λte=>(YJ x (i.toNat*te.size)).bind λp=>bF p [decide (0<=i),decide (i<n)]
 |_=>none
def Qa (ap:AP) (ti:TI) (x i:AV):JJ:=
 (Si i).bind λi=>
 match ti.d,x with
 | .str,.str s=>bF (.int .u8 (s.getD i.toNat 0).toNat) [decide (0<=i),decide (i<s.length)]
 | .array n e,.agg cs=>(ap.tyAt e).bind λte=>
  (sN te (ww true te.lks cs (i.toNat*te.size))).bind λv=>bF v (decide (0<=i)::decide (i<n)::JV true te.lks cs (i.toNat*te.size))
 |_,_=>none
def pV (v:Option AV) (d:Int):Option Int:=match v with|none=>some d|some (.int _ n)=>some n|some _=>none
def QK (ap:AP) (ti:TI) (rd:Nat->Option bu) (x:AV) (lo hi mx:Option AV):JJ:=
 match ti.d,x,mx with
 | .str,.str s,none=>(pV lo 0).bind λl=>(pV hi s.length).bind λh=>
   bF (.str ((s.take h.toNat).drop l.toNat)) [decide (0<=l),decide (l<=h),decide (h<=s.length)]
 | .slice e,.sl xs n nn,none=>(ap.tyAt e).bind λte=>(pV lo 0).bind λl=>(pV hi n).bind λh=>
   bF (.sl ((xs.take (h.toNat*te.size)).drop (l.toNat*te.size)) (h.toNat - l.toNat) nn) [decide (0<=l),decide (l<=h),decide (h<=n)]
 | .slice e,.ref b ver j n,none=>(ap.tyAt e).bind λte=>(rd b).bind λB=>(pV lo 0).bind λl=>(pV hi n).bind λh=>
   match Xqn B.ver ver && Xqn B.esz te.size with
   |true=>bF (.ref b ver (j+l.toNat) (h.toNat - l.toNat)) [decide (0<=l),decide (l<=h),decide (h<=n)]
   |false=>none
 | .slice e,.nilS,none=>(ap.tyAt e).bind λ_=>(pV lo 0).bind λl=>(pV hi 0).bind λh=>bF .nilS [decide (l=0),decide (h=0)]
 |_,_,_=>none
def Yf (d:TD) (x:AV):JJ:=
 match d,x with
 | .array n _,_=>bF (.int .i64 n)
 | .str,.str s=>bF (.int .i64 s.length)
 | .slice _,.sl _ n _=>bF (.int .i64 n)
 | .slice _,.ref _ _ _ n=>bF (.int .i64 n)
 | .slice _,.nilS=>bF (.int .i64 0)
 |_,_=>none
def OO (size:Nat) (rd:Nat->Option bu) (x:AV):Option (List AV × Nat × Bool):=
 match x with
 | .sl xs n _=>some (xs,n,true)
 | .nilS=>some ([],0,true)
 | .str s=>some (s.map λb=> .int .u8 b.toNat,s.length,true)
 | .ref b ver j n=>(rd b).bind λB=>match Xqn B.ver ver && Xqn B.esz size && !(Xqn B.esz jf) with
  |true=>some ((B.cells.drop (j*size)).take (n*size),n,B.pr)
  |false=>none
 |_=>none
def JA:Nat:=2^40
def zu (nid:Nat) (te:TI) (rd:Nat->Option bu) (em:Bool) (s x:AV):JJ:=
 (OO te.size rd x).bind λ(xs,n,pr)=>
 match Xjj 0 te.size && Φ te.bytes 128 with
 |false=>none
 |true=>
 match s with
 | .nilS=>match em with
  |true=>bF .nilS [Xqn xs.length (n*te.size)]
  |false=>some (.ref nid 0 0 n,[(nid,⟨xs,0,false,0,te.size,pr⟩)],[Xqn xs.length (n*te.size),Φ n JA])
 | .ref b ver 0 m=>(rd b).bind λB=>match Xqn B.ver ver && Xqn B.esz te.size && !(Xqn B.esz jf) with
  | true=>some (.ref b (ver+1) 0 (m+n),[(b,{B with cells:=B.cells.take (m*te.size)++xs,ver:=ver+1,pr:=B.pr && pr})],
    [Xqn xs.length (n*te.size),Φ (m+n) JA,Φ (m*te.size) B.cells.length, !B.fro||Φ B.fz (m*te.size)])
  |false=>none
 |_=>none
def yu:AV->Option Nat
 | .sl _ n _=>some n
 | .nilS=>some 0
 | .str s=>some s.length
 | .ref _ _ _ n=>some n
 |_=>none
def zW (ρ:Operand->AV) (o:Op):Option Nat:=
 match o with
 | .call {callee:= .builtin .append,args,..}=>match args.toList with
  | [s,x]=>match ρ s with
   | .nilS=>yu (ρ x)
   |_=>none
  |_=>none
 |_=>none
def yG (ap:AP) (nid:Nat) (ti:TI) (l c:AV):JJ:=
 match ti.d,l,c with
 | .slice e,.int _ l,.int _ c=>(ap.tyAt e).bind λte=>
  match Xjj 0 te.size && Xqn te.zero.length te.size && Φ te.bytes 128 && (bW te.zero).isEmpty with
  |true=>some (.ref nid 0 0 l.toNat,[(nid,⟨g_ l.toNat te.zero,0,false,0,te.size,true⟩)],[decide (0<=l),decide (l=c),decide (l<=2^40)])
  |false=>none
 |_,_,_=>none
def EW (ap:AP) (ts td:TI) (rd:Nat->Option bu) (x:AV):JJ:=
 match ts.d,td.d,x with
 |_,.int k,.int _ n=>bF (.int k (k.wrap n))
 | .str,.str,.str s=>bF (.str s)
 | .slice e,.str,x=>(ap.tyAt e).bind λte=>match te.d,x with
  | .int .u8,.str _=>none
  | .int .u8,x=>(OO 1 rd x).bind λ(xs,n,_)=>bF (.str (xs.map λc=>UInt8.ofNat c.toInt.toNat)) [Xqn xs.length n,xs.all (chk (.int .u8))]
  |_,_=>none
 |_,_,_=>none
def PT:LK->AV->AV->Option Bool
 | .int k,.int k1 a,.int k2 b=>match jh k k1 && jh k k2 with|true=>some (a==b)|false=>none
 | .bool,.bool a,.bool b=>some (a==b)
 | .str,.str a,.str b=>some (a==b)
 |_,_,_=>none
def lC:List LK->List AV->List AV->Option Bool
 | [],[],[]=>some true
 |k::ks,a::as,b::bs=>(PT k a b).bind λc=>(lC ks as bs).map λd=>c && d
 |_,_,_=>none
def eqA (ti:TI) (a b:AV):Option Bool:=
 match ti.d,a,b with
 | .bool,.bool a,.bool b=>some (a==b)
 | .struct _,.agg xs,.agg ys=>match ti.cmp with|true=>lC ti.lks xs ys|false=>none
 | .ptr,.nilP,.nilP=>some true
 | .ptr,.nilP,.ptr _ _ _=>some false
 | .ptr,.nilP,.pp _ _=>some false
 | .ptr,.ptr _ _ _,.nilP=>some false
 | .ptr,.pp _ _,.nilP=>some false
 | .iface,.nilI,.ifc _ _=>some false
 | .iface,.ifc _ _,.nilI=>some false
 | .func,.nilF,.nilF=>some true
 | .func,.nilF,.fn _ _ _=>some false
 | .func,.fn _ _ _,.nilF=>some false
 | .slice _,.nilS,.nilS=>some true
 | .slice _,.ref _ _ _ _,.nilS=>some false
 | .slice _,.nilS,.ref _ _ _ _=>some false
 | .slice _,.sl _ _ _,.nilS=>some false
 | .slice _,.nilS,.sl _ _ _=>some false
 |_,_,_=>none
def Gl (a b:AV):List Bool:=
 match a,b with
 | .sl _ n false,.nilS=> [Xjj 0 n]
 | .nilS,.sl _ n false=> [Xjj 0 n]
 |_,_=> []
def iR:List UInt8->List UInt8->Bool
 |_,[]=>false
 | [],_::_=>true
 |a::x,b::y=>decide (a<b)||(a==b && iR x y)
def afO (op:BinOp) (ti:TI) (x y:AV):JJ:=
 match x,y with
 | .int k a,.int k' b=>
  match op with
  | .shl=>bF (.int k (k.wrap (a*2^(min b.toNat k.bits)))) [decide (0<=b)]
  | .shr=>bF (.int k (a.fdiv (2^(min b.toNat k.bits)))) [decide (0<=b)]
  | _=>match jh k k' with
   |false=>none
   |true=>match op with
    | .add=>bF (.int k (k.wrap (a+b)))
    | .sub=>bF (.int k (k.wrap (a - b)))
    | .mul=>bF (.int k (k.wrap (a*b)))
    | .quo=>bF (.int k (k.wrap (a.tdiv b))) [!(b==0)]
    | .rem=>bF (.int k (a.tmod b)) [!(b==0)]
    | .and=>bF (.int k (k.wrap (Xqm k.bits a &&& Xqm k.bits b).toNat))
    | .or=>bF (.int k (k.wrap (Xqm k.bits a|||Xqm k.bits b).toNat))
    | .xor=>bF (.int k (k.wrap (Xqm k.bits a^^^Xqm k.bits b).toNat))
    | .eql=>bF (.bool (a==b))
    | .neq=>bF (.bool (!(a==b)))
    | .lss=>bF (.bool (decide (a<b)))
    | .leq=>bF (.bool (decide (a<=b)))
    | .gtr=>bF (.bool (decide (b<a)))
    | .geq=>bF (.bool (decide (b<=a)))
    |_=>none
 | .str a,.str b=>
  match op with
  | .add=>bF (.str (a++b)) [Φ (a.length+b.length) 9223372036854775807]
  | .eql=>bF (.bool (a==b))
  | .neq=>bF (.bool (!(a==b)))
  | .lss=>bF (.bool (iR a b))
  | .leq=>bF (.bool (iR a b||a==b))
  | .gtr=>bF (.bool (!(iR a b||a==b)))
  | .geq=>bF (.bool (!iR a b))
  |_=>none
 |x,y=>
  match op with
  | .eql=>(eqA ti x y).bind λb=>bF (.bool b) (Gl x y)
  | .neq=>(eqA ti x y).bind λb=>bF (.bool (!b)) (Gl x y)
  |_=>none
def unA (op:UnOp) (x:AV):JJ:=
 match op,x with
 | .not,.bool b=>bF (.bool (!b))
 | .neg,.int k n=>bF (.int k (k.wrap (0 - n)))
 |_,_=>none
def min2 (a b:AV):Option AV:=match a,b with| .int k x,.int k' y=>(match jh k k' with|true=>some (.int k (if y<x then y else x))|false=>none)|_,_=>none
def max2 (a b:AV):Option AV:=match a,b with| .int k x,.int k' y=>(match jh k k' with|true=>some (.int k (if y>x then y else x))|false=>none)|_,_=>none
def Nr (f:AV->AV->Option AV):AV->List AV->Option AV
 |x,[]=>some x
 |x,y::r=>match f x y with|some z=>Nr f z r|none=>none
def Bh (f:AV->AV->Option AV):List AV->Option AV
 | []=>none
 |x::r=>Nr f x r
def JQ (ap:AP) (x:AV) (asserted:Nat) (commaOk:Bool):JJ:=
 (ap.tyAt asserted).bind λti=>
 match ti.d with
 | .iface=>none
 | _=>match x with
  | .ifc t v=>match Xqn t asserted with
   |true=>bF (match commaOk with|true=> .tup [v,.bool true]|false=>v)
   |false=>match commaOk with|true=>(sN ti ti.zero).bind λz=>bF (.tup [z,.bool false])|false=>none
  | .nilI=>match commaOk with|true=>(sN ti ti.zero).bind λz=>bF (.tup [z,.bool false])|false=>none
  |_=>none
def P7 (ap:AP) (ti:TI) (x:AV) (f:Nat):JJ:=
 match ti.d,x with
 | .struct fs,.agg cs=>(fs[f]?).bind λ(o,t,_)=>(ap.tyAt t).bind λtf=>
  (sN tf (ww false tf.lks cs o)).bind λv=>bF v (JV false tf.lks cs o)
 |_,_=>none
def zA:AV->List Nat
 | .ref b _ _ _=> [b]
 | .ptr b _ _=> [b]
 | .mr b _=> [b]
 |_=> []
def Y9 (ρ:Operand->AV):Op->List Nat
 | .load _ a=>zA (ρ a)
 | .store _ a _=>zA (ρ a)
 | .indexAddr _ x _=>zA (ρ x)
 | .slice _ x _ _ _=>zA (ρ x)
 | .convert _ _ x=>zA (ρ x)
 | .lookup _ x _ _=>zA (ρ x)
 | .mapUpdate _ x _ _=>zA (ρ x)
 | .insert _ x _ _=>zA (ρ x)
 | .call {callee:= .builtin .append,args,..}=>jG (args.toList.flatMap λx=>zA (ρ x))
 |_=> []
def Jg:LK->AV->Bool
 | .int k,.int k' _=>jh k k'
 | .bool,.bool _=>true
 | .str,.str _=>true
 |_,_=>false
def og:List LK->List AV->Bool
 | [],[]=>true
 |k::r,x::l=>Jg k x && og r l
 |_,_=>false
def lG (ti:TI) (x:AV):Bool:=match ti.d,x with
 | .int k,.int k' _=>jh k k'
 | .bool,.bool _=>true
 | .str,.str _=>true
 | .struct _,.agg l=>ti.cmp && og ti.lks l
 |_,_=>false
def Fa:AV->AV->Bool
 | .int _ a,.int _ b=>a==b
 | .bool a,.bool b=>a==b
 | .str a,.str b=>a==b
 |_,_=>false
def J8:List AV->List AV->Bool
 | [],[]=>true
 |a::r,b::q=>Fa a b && J8 r q
 |_,_=>false
def yz:AV->AV->Bool
 | .int _ a,.int _ b=>a==b
 | .bool a,.bool b=>a==b
 | .str a,.str b=>a==b
 | .agg a,.agg b=>J8 a b
 |_,_=>false
def eH:List AV->List AV->AV->Option AV
 |k0::ks,v0::vs,k=>match yz k k0 with|true=>some v0|false=>eH ks vs k
 |_,_,_=>none
def yJ (ks:List AV) (k:AV):List AV:=match ks.any (yz k) with|true=>ks|false=>ks++ [k]
def qw:List AV->List AV->AV->AV->List AV
 |k0::ks,v0::vs,k,v=>match yz k k0 with|true=>v::vs|false=>v0::qw ks vs k v
 |_,_,_,v=> [v]
def Yp (rd:Nat->Option bu) (x:AV):Option (List AV × List AV):=
 match x with
 | .mp ks vs=>some (ks,vs)
 | .mr b ver=>(rd b).bind λB=>match Xqn B.ver ver && Xqn B.esz jf with
  |true=>match B.cells with| [.agg ks,.agg vs]=>some (ks,vs)|_=>none
  |false=>none
 |_=>none
def SA (ok:Bool) (o:Option AV) (z:AV):AV:=match ok with|true=> .tup [o.getD z,.bool o.isSome]|false=>o.getD z
def KE (ap:AP) (ti:TI) (rd:Nat->Option bu) (x k:AV) (ok:Bool):JJ:=
 match ti.d with
 | .map kt et=>(ap.tyAt kt).bind λtk=>(ap.tyAt et).bind λte=>(Yp rd x).bind λq=>(sN te te.zero).bind λz=>
   bF (SA ok (eH q.1 q.2 k) z) [lG tk k,q.1.all (lG tk)]
 |_=>none
def Es (ap:AP) (ti:TI) (rd:Nat->Option bu) (x k v:AV):JJ:=
 match ti.d,x with
 | .map kt _,.mr b ver=>(ap.tyAt kt).bind λtk=>(rd b).bind λB=>match Xqn B.ver ver && Xqn B.esz jf && !B.fro with
  |true=>match B.cells with
   | [.agg ks,.agg vs]=>some (.dead,[(b,{B with cells:= [.agg (yJ ks k),.agg (qw ks vs k v)],pr:=B.pr && (eQ v).isEmpty})],[lG tk k,ks.all (lG tk)])
   |_=>none
  |false=>none
 |_,_=>none
def opA (ap:AP) (nid:Nat) (ρ:Operand->AV) (rd:Nat->Option bu) (dec:Operand->Option Bool) (em:Bool) (o:Op):JJ:=
 match o with
 | .move x=>bF (ρ x)
 | .assign x=>bF (ρ x)
 | .pick c a b=>match dec c with
  |some true=>bF (ρ a)
  |some false=>bF (ρ b)
  |none=>match ρ c,ρ a,ρ b with| .bool c,.bool x,.bool y=>bF (.bool (cond c x y))|_,_,_=>none
 | .alloc e=>(ap.tyAt e).bind λte=>match Xjj 0 te.size && te.zero.all pO with|true=>some (.ptr nid 0 0,[jF nid te.zero 0],[])|false=>none
 | .box e x=>(ap.tyAt e).bind λte=>let vs:=(ρ x).cells
  match Xjj 0 te.size && vs.all pO with|true=>some (.ptr nid 0 0,[jF nid vs 0],[])|false=>none
 | .build t parts=>(ap.tyAt t).bind λti=>PD ap ti (parts.toList.map λ(i,x)=>(i,ρ x))
 | .buildSlice t len parts=>(ap.tyAt t).bind λti=>uU ap nid ti len (parts.toList.map λ(i,x)=>(i,ρ x))
 | .load t a=>(ap.tyAt t).bind λti=>NK ti rd (ρ a)
 | .store t a x=>(ap.tyAt t).bind λti=>QN ti rd (ρ a) (ρ x)
 | .makeMap _ r=>match r with|none=>some (.mr nid 0,[(nid,⟨[.agg [],.agg []],0,false,0,jf,true⟩)],[])|some _=>none
 | .lookup t x k ok=>(ap.tyAt t).bind λti=>KE ap ti rd (ρ x) (ρ k) ok
 | .mapUpdate t x k v=>(ap.tyAt t).bind λti=>Es ap ti rd (ρ x) (ρ k) (ρ v)
 | .insert t x k v=>(ap.tyAt t).bind λti=>Es ap ti rd (ρ x) (ρ k) (ρ v)
 | .nilCheck x=>match ρ x with
  | .ptr b v o=>bF (.ptr b v o)
  | .pp xs o=>bF (.pp xs o)
  | .fn f a c=>bF (.fn f a c)
  |_=>none
 | .binOp op t x y _=>(ap.tyAt t).bind λti=>afO op ti (ρ x) (ρ y)
 | .unOp op _ x=>unA op (ρ x)
 | .convert s d x=>(ap.tyAt s).bind λts=>(ap.tyAt d).bind λtd=>EW ap ts td rd (ρ x)
 | .makeInterface t x=>(ap.tyAt t).bind λti=>match ti.d with| .iface=>none|_=>bF (.ifc t (ρ x))
 | .makeFunc (.func f) first cap=>bF (.fn f (first.toList.map ρ) (cap.toList.map ρ))
 | .makeSlice t l c=>(ap.tyAt t).bind λti=>yG ap nid ti (ρ l) (ρ c)
 | .slice t x lo hi mx=>(ap.tyAt t).bind λti=>QK ap ti rd (ρ x) (lo.map ρ) (hi.map ρ) (mx.map ρ)
 | .fieldAddr s x f=>(ap.tyAt s).bind λti=>match ti.d with
  | .struct fs=>(fs[f]?).bind λ(o,_,sz)=>match Xjj 0 sz with|true=>(YJ (ρ x) o).bind λp=>bF p|false=>none
  |_=>none
 | .field t x f=>(ap.tyAt t).bind λti=>P7 ap ti (ρ x) f
 | .indexAddr t x i=>(ap.tyAt t).bind λti=>yD ap ti rd (ρ x) (ρ i)
 | .index t x i=>(ap.tyAt t).bind λti=>Qa ap ti (ρ x) (ρ i)
 | .typeAssert x _ asserted ok=>JQ ap (ρ x) asserted ok
 | .extract t i=>match ρ t with| .tup l=>(l[i]?).bind λv=>bF v|_=>none
 | .call {callee:= .builtin b,args,argTypes}=>
  match b with
  | .len=>(args[0]?).bind λx=>(argTypes[0]?).bind λt=>(ap.tyAt t).bind λti=>Yf ti.d (ρ x)
  | .append=>match args.toList,argTypes.toList with
   | [s,x],[t,t1]=>(ap.tyAt t).bind λti=>(ap.tyAt t1).bind λti1=>match ti.d,ti1.d,ρ x with
    | .slice e,.str,.str y=>(ap.tyAt e).bind λte=>match Xqn te.size 1 with|true=>zu nid te rd em (ρ s) (.str y)|false=>none
    | .slice _,.slice _,.str _=>none
    | .slice e,.slice _,y=>(ap.tyAt e).bind λte=>zu nid te rd em (ρ s) y
    |_,_,_=>none
   |_,_=>none
  | .min=>(Bh min2 (args.toList.map ρ)).bind λv=>bF v
  | .max=>(Bh max2 (args.toList.map ρ)).bind λv=>bF v
  |_=>none
 |_=>none
def Jj (P:Program):Nat->TypeId->List LK
 |0,_=> [.oth]
 |n+1,t=>match P.underlying t with
  |some (.int k)=> [.int k]
  |some .bool=> [.bool]
  |some .string=> [.str]
  |some (.slice _)=> [.sl]
  |some (.struct fs)=>fs.toList.flatMap λf=>Jj P n f.type
  |some (.array m e)=>(μ m (Jj P n e)).flatten
  |_=> [.oth]
def kM (P:Program):Option TypeDesc->TD
 |some (.int k)=> .int k
 |some .bool=> .bool
 |some .string=> .str
 |some (.slice e)=> .slice e
 |some (.array n e)=> .array n e
 |some (.struct fs)=> .struct (fs.toList.map λf=>(f.offset,f.type,match P.info? f.type with|some i=>i.size|none=>0))
 |some (.interface _)=> .iface
 |some (.pointer _)=> .ptr
 |some (.func _ _ _)=> .func
 |some (.map k e)=> .map k e
 |_=> .oth
def zI (P:Program) (f:TypeId->Option (List LK)):List Field->Nat->Option (List LK)
 | [],_=>some []
 | x::r,off=>match f x.type with
  |some l=>match !(x.name== "_") && Xqn x.offset off && (match P.info? x.type with|some i=>Xqn i.size l.length|none=>false) with
   |true=>match zI P f r (off+l.length) with|some l'=>some (l++l')|none=>none
   |false=>none
  |none=>none
def jZ (P:Program):Nat->TypeId->Option (List LK)
 |0,_=>none
 |n+1,t=>match P.underlying t with
  |some (.int k)=>some [.int k]
  |some .bool=>some [.bool]
  |some .string=>some [.str]
  |some (.struct fs)=>match P.stoodInHeld t with|true=>none|false=>zI P (jZ P n) fs.toList 0
  |_=>none
def ai9 (i:TypeInfo) (d:TypeDesc):Bool:=match i.zero,d with
 |some (.agg _),.struct _=>true
 |some (.agg _),.array _ _=>true
 |some (.agg _),_=>false
 |some _,.struct _=>false
 |some _,.array _ _=>false
 |some _,_=>true
 |none,_=>false
def XR (P:Program) (d:TypeDesc):Bool:=match d with
 | .struct fs=>fs.toList.all λf=>(P.info? f.type).isSome
 |_=>true
def HY (i:TypeInfo):List AV:=match i.zero with|some z=>z.cells.toList.map Gp|none=> []
def ahf:LK->LK->Bool
 | .int a,.int b=>jh a b
 | .bool,.bool=>true
 | .str,.str=>true
 |_,_=>false
def Ji:List LK->List LK->Bool
 | [],[]=>true
 |a::r,b::q=>ahf a b && Ji r q
 |_,_=>false
def aaR (P:Program) (t:TypeId):Bool:=match jZ P 8 t with|some l=>Ji l (Jj P 8 t) && !P.eqGuardType P.depth t|none=>false
def ZU (P:Program) (t:TypeId):Option TI:=
 match P.info? t,P.underlying t with
 |some i,some d=>
  match Xqn (Jj P 8 t).length i.size && (ai9 i d && XR P d) && (HY i).all pO && Xqn (HY i).length i.size && Xjj 0 i.size && i.zero.isSome && Xjj i.size jf with
  |true=>some {d:=kM P (some d),size:=i.size,bytes:=i.bytes,zero:=HY i,lks:=Jj P 8 t,cmp:=aaR P t}
  |false=>none
 |_,_=>none
abbrev aY:=Nat->Nat->Option Value
def qj (S S':aY):Prop:=∀ k o v,S k o=some v->S' k o=some v
theorem qj.refl (S:aY):qj S S:=λ_ _ _ h=>h
theorem qj.trans {S S' S'':aY} (h:qj S S') (a:qj S' S''):qj S S'':=λk o v e=>a k o v (h k o v e)
def lh (S:aY) (b o:Nat) (vs:List Value):Prop:=∀ j u,vs[j]? =some u->S b (o+j)=some u/\u.oneCell'=true
mutual
def PR (S:aY):AV->Value->Prop
 | .int k n,v=>v= .int k n
 | .bool b,v=>v= .bool b
 | .str s,v=>v= .string ⟨s.toArray⟩
 | .agg l,v=> ∃ vs,v= .agg vs.toArray/\eY S l vs
 | .tup l,v=> ∃ vs,v= .tuple vs.toArray/\eY S l vs
 | .nilS,v=>v= .slice none 0 0
 | .sl xs n nn,v=> ∃ a cap,v= .slice a n cap/\n<=cap/\(((a=none->nn=false)/\xs= []/\n=0/\cap=0)\/∃ b o vs,a=some ⟨b,o,none⟩/\eY S xs vs/\lh S b o vs)
 | .pp xs off,v=> ∃ b o vs,v= .pointer (some ⟨b,o+off,none⟩)/\eY S xs vs/\lh S b o vs
 | .mp ks vs,v=>(v= .map none/\ks= []/\vs= [])\/∃ b kk vv,v= .map (some b)/\S b 0=some (.agg kk.toArray)/\S b 1=some (.agg vv.toArray)/\eY S ks kk/\eY S vs vv
 | .nilP,v=>v= .pointer none
 | .fn f a c,v=> ∃ va vc,v= .func (.func f) va.toArray vc.toArray/\eY S a va/\eY S c vc
 | .nilF,v=>v= .nilFunc
 | .ifc t x,v=> ∃ u,v= .iface t u/\PR S x u
 | .nilI,v=>v= .nilIface
 | .dead,_=>True
 | .ref _ _ _ _,_=>False
 | .ptr _ _ _,_=>False
 | .mr _ _,_=>False
 | .own _ _ _,_=>False
def eY (S:aY):List AV->List Value->Prop
 | [],[]=>True
 |x::r,v::vs=>PR S x v/\eY S r vs
 |_,_=>False
end
abbrev dO:=Nat->Option bu
abbrev bg:=Nat->Nat × Nat
mutual
def VR (g:dO) (m:bg) (S:aY):AV->Value->Prop
 | .ref b ver i n,v=> ∃ B,g b=some B/\ver<=B.ver/\(∃ k o c',v= .slice (some ⟨k,o,none⟩) n c')/\(B.ver=ver->∃ o,v= .slice (some ⟨(m b).1,o,none⟩) n ((m b).2 - i)/\i+n<=(m b).2/\(i<(m b).2->o=i*B.esz)/\0<B.esz/\B.esz ≠ jf)
 | .ptr b ver off,v=> ∃ B,g b=some B/\ver<=B.ver/\(∃ k o,v= .pointer (some ⟨k,o,none⟩))/\(B.ver=ver->v= .pointer (some ⟨(m b).1,off,none⟩))
 | .mr b ver,v=> ∃ B,g b=some B/\ver<=B.ver/\(∃ k,v= .map (some k))/\(B.ver=ver->v= .map (some (m b).1))
 | .agg l,v=> ∃ vs,v= .agg vs.toArray/\bC g m S l vs
 | .tup l,v=> ∃ vs,v= .tuple vs.toArray/\bC g m S l vs
 | .fn f a c,v=> ∃ va vc,v= .func (.func f) va.toArray vc.toArray/\bC g m S a va/\bC g m S c vc
 | .ifc t x,v=> ∃ u,v= .iface t u/\VR g m S x u
 | .int k n,v=>PR S (.int k n) v
 | .bool b,v=>PR S (.bool b) v
 | .str s,v=>PR S (.str s) v
 | .nilS,v=>PR S .nilS v
 | .sl xs n nn,v=>PR S (.sl xs n nn) v
 | .pp xs off,v=>PR S (.pp xs off) v
 | .mp ks vs,v=>PR S (.mp ks vs) v
 | .nilP,v=>PR S .nilP v
 | .nilF,v=>PR S .nilF v
 | .nilI,v=>PR S .nilI v
 | .dead,_=>True
 | .own _ _ _,_=>False
def bC (g:dO) (m:bg) (S:aY):List AV->List Value->Prop
 | [],[]=>True
 |x::r,v::vs=>VR g m S x v/\bC g m S r vs
 |_,_=>False
end
def aU (x y:AV):Prop:=∀ g m S v,VR g m S x v->VR g m S y v
inductive xF where
 |v (d:Nat) (x:AV)
 |b (d:Nat) (xs:List AV)
 |u (d:Nat)
inductive kW where
 |ret (v:AV)
 |pan (v:AV)
structure Cx where
 cl:Bool
 orc:List Bool
 bs:List Bool
 ps:List Prop
 ans:List (kW × List bu)
 hs:List xF
inductive R (α:Type) where
 |ok (a:α) (c:Cx)
 |need
 |bad (n:Nat)
def R.bind {α β:Type} (r:R α) (f:α->Cx->R β):R β:=
 match r with
 | .ok a c=>f a c
 | .need=> .need
 | .bad n=> .bad n
def lit (o b:Bool):Bool:=match o with|true=>b|false=> !b
def abf (c:Cx) (bs:List Bool):R Unit:=
 match c.cl with
 |true=>match bs.all id with|true=> .ok () c|false=> .bad 1
 |false=> .ok () {c with bs:=bs++c.bs}
def A8 (c:Cx) (b:Bool):R Bool:=
 match c.cl with
 |true=> .ok b c
 |false=>match c.orc with
  | []=> .need
  |o::r=> .ok o {c with orc:=r,bs:=lit o b::c.bs}
def FC (c:Cx) (dst:Option Nat) (v:AV):AV × Cx:=
 match c.hs,dst with
 | .v d x::r,some d'=>match Xqn d d' with
  |true=>(x,{c with hs:=r,ps:=aU v x::c.ps})
  |false=>(v,c)
 |_,_=>(v,c)
def FB (c:Cx) (dst:Option Nat) (ups:List (Nat × bu)):List (Nat × bu) × Cx:=
 match c.hs,dst,ups with
 | .b d xs::r,some d',[(b,B)]=>match Xqn d d' with
  |true=>([(b,{B with cells:=xs})],{c with hs:=r,ps:=(B.cells=xs)::c.ps})
  |false=>(ups,c)
 |_,_,_=>(ups,c)
def RV (c:Cx) (dst:Option Nat):Bool × Cx:=
 match c.hs,dst with
 | .u d::r,some d'=>match Xqn d d' with
  |true=>(true,{c with hs:=r})
  |false=>(false,c)
 |_,_=>(false,c)
abbrev dD:=Cx->AV->Nat->List AV->List bu->R (kW × List bu × AV)
def uN (rd:Nat->Option bu):Nat->List Nat->List Nat
 |0,l=>l
 |n+1,l=>
  let more:=l.flatMap λb=>match rd b with|some B=>(match B.pr with|true=> []|false=>bW B.cells)|none=> []
  let l':=more.foldl (λacc b=>if uh acc b then acc else acc++ [b]) l
  match Xqn l'.length l.length with|true=>l|false=>uN rd n l'
def frz (rd:Nat->Option bu):Nat->AV->Option AV
 |0,_=>none
 | fuel+1,x=>
  let frzL (l:List AV):Option (List AV):=kX (frz rd fuel) l
  match x with
  | .ref b ver i n=>(rd b).bind λB=>match Xqn B.ver ver with
   |true=>match B.pr with
    |true=>some (.sl ((B.cells.drop (i*B.esz)).take (n*B.esz)) n true)
    |false=>(frzL ((B.cells.drop (i*B.esz)).take (n*B.esz))).map λl=> .sl l n true
   |false=>none
  | .ptr b ver off=>(rd b).bind λB=>match Xqn B.ver ver && !(Xqn B.esz jf) with
   |true=>match B.pr with
    |true=>some (.pp B.cells off)
    |false=>(frzL B.cells).map λl=> .pp l off
   |false=>none
  | .mr b ver=>(rd b).bind λB=>match Xqn B.ver ver && Xqn B.esz jf with
   |true=>match B.pr with
    |true=>ace B.cells
    |false=>(frzL B.cells).bind ace
   |false=>none
  | .agg l=>(frzL l).map .agg
  | .tup l=>(frzL l).map .tup
  | .fn f a c=>(frzL a).bind λa=>(frzL c).map λc=> .fn f a c
  | .ifc t v=>(frz rd fuel v).map (.ifc t)
  | .own _ _ _=>none
  |x=>some x
def qX (l:List Nat) (b:Nat):Option Nat:=match l with
 | []=>none
 |c::r=>match Xqn c b with|true=>some 0|false=>(qX r b).map (· +1)
def KX (xs:List AV) (esz:Nat):bu:={cells:=xs,ver:=0,fro:=false,fz:=0,esz,pr:=true}
def gy (nid:Nat):List AV->List AV × List bu
 | []=>([],[])
 | .own xs n esz::r=>match gy (nid+1) r with|(l,bs)=>(.ref nid 0 0 n::l,KX xs esz::bs)
 |x::r=>match gy nid r with|(l,bs)=>(x::l,bs)
def mO (nid:Nat):AV->AV × List bu
 | .tup l=>match gy nid l with|(l,bs)=>(.tup l,bs)
 | .own xs n esz=>(.ref nid 0 0 n,[KX xs esz])
 |x=>(x,[])
def Gn:Nat->List bu->List (Nat × bu)
 |_,[]=> []
 |n,B::r=>(n,B)::Gn (n+1) r
def O7:List Nat->List bu->List (Nat × bu)
 |b::r,B::q=>(b,B)::O7 r q
 |_,_=> []
def uk:List Nat->Bool
 | []=>true
 |b::r=> !uh r b && uk r
def DL (ρ:Nat->Nat->Option (Nat × Nat)) (v:Nat) (B:bu):bu:={B with cells:=(match B.pr with|true=>B.cells|false=>nZ ρ B.cells),ver:=v+B.ver}
def Q5 (nid:Nat) (fp:List Nat) (vers:Nat->Nat) (n:Nat):Nat->Nat->Option (Nat × Nat):=λp v=>
 match fp[p]? with
 |some b=>some (b,vers b+v)
 |none=>match Xjj p n with|true=>some (nid+(p - fp.length),v)|false=>none
structure Wh where
 out:kW
 ups:List (Nat × bu)
 fp:List Nat
 md:AV
def uY (ap:AP) (H:dD) (rd:Nat->Option bu) (nid:Nat) (md:AV) (f:Nat) (args:List AV) (c:Cx):R Wh:=
 let fp:=uN rd 6 (jG (bW args))
 let rd:=λb=>match uh fp b with|true=>rd b|false=>none
 let shared:=match ap.fnAt f with|some F=>F.shared|none=>false
 match shared with
 | false=>
  match kX (frz rd 6) args with
  |none=> .bad 10
  |some args'=>
   (H c md f args' []).bind λ(out,h',md) c=>
   match h' with
   |_::_=> .bad 14
   | []=>
   let mark:=fp.filterMap λb=>(rd b).map λB=>(b,{B with fro:=true,fz:=B.cells.length})
   match out with
   | .ret v=>match mO nid v with|(v,bs)=>match Φ bs.length 4 with|true=> .ok {out:= .ret v,ups:=Gn nid bs++mark,fp,md} c|false=> .bad 13
   | .pan v=> .ok {out:= .pan v,ups:=mark,fp,md} c
 | true=>
  let vers:=λb=>match rd b with|some B=>B.ver|none=>0
  let ρ:Nat->Nat->Option (Nat × Nat):=λb v=>match Xqn v (vers b) with|true=>(qX fp b).map λp=>(p,0)|false=>none
  match kX rd fp with
  |none=> .bad 11
  | some bl=>
   (H c md f (nZ ρ args) (bl.map λB=> {B with cells:=(match B.pr with|true=>B.cells|false=>nZ ρ B.cells),ver:=0})).bind λ(out,h',md) c=>
   match Φ fp.length h'.length && uk fp with
   |false=> .bad 12
   |true=>
    let ρ':=Q5 nid fp vers h'.length
    let ups:=(O7 fp h').map λ(b,B)=>(b,DL ρ' (vers b) B)
    let ex:=(h'.drop fp.length).map (DL ρ' 0)
    match out with
    | .ret v=>match mO (nid+(h'.length - fp.length)) (ren ρ' v) with|(v,bs)=>match Φ ((h'.length - fp.length)+bs.length) 4 with|true=> .ok {out:= .ret v,ups:=Gn nid (ex++bs)++ups,fp,md} c|false=> .bad 13
    | .pan v=>match Φ (h'.length - fp.length) 4 with|true=> .ok {out:= .pan (ren ρ' v),ups:=Gn nid (ex++ [])++ups,fp,md} c|false=> .bad 13
inductive bI where
 |normal
 |exit (id:Nat)
 |ret
 |panic (v:AV)
structure St where
 env:jq
 hp:Hp
 md:AV
 dfs:List (Nat × List AV)
structure Ez where
 rt:List Nat
 wt:List Nat
 rb:List Nat
 wb:List Nat
structure RS where
 env:jq
 hp:Hp
 md:AV
 dfs:List (Nat × List AV)
 dec:List (Nat × Bool)
 feet:List Ez
def wG (l:List Operand):List Nat:=l.filterMap fun| .tmp t=>some t|_=>none
def J3 (o:Oper):List Nat:=match o.dst with|some d=> [d]|none=> []
def rq (env:jq) (dst:Option Nat) (v:AV):jq:=match dst with|some d=>(d,v)::env|none=>env
def rY (ap:AP) (env:jq):Operand->AV
 | .tmp t=>env.get t
 | .const v=>Gp v
 | .global g=>match (ap.gl[g]?).join with|some xs=> .pp xs 0|none=> .dead
 | .func f=> .fn f [] []
def P8 (ops:List Oper) (env:jq) (dec:List (Nat × Bool)) (o:Oper) (c:Cx):R (Bool × List (Nat × Bool)):=
 match o.guard with
 |none=> .ok (true,dec) c
 | some (j,want)=>
  match (ops[j]?).bind (·.dst) with
  |none=> .bad 20
  | some s=>match aF dec s with
   |some b=> .ok (lit want b,dec) c
   |none=>match env.get s with
    | .bool b=>(A8 c b).bind λb' c=> .ok (lit want b',(s,b')::dec) c
    | .tup []=> .ok (false,dec) c
    |_=> .bad 21
def jM (ops:List Oper) (o:Oper):List Nat:=
 match o.guard with
 |none=> []
 |some (j,_)=>match (ops[j]?).bind (·.dst) with|none=> []|some s=> [s]
def Xj (dec:List (Nat × Bool)) (o:Oper):Bool:=match o.dst with|none=>true|some d=>match aF dec d with|none=>true|some _=>false
def TS (ap:AP) (H:dD) (nid:Nat) (ops:List Oper) (o:Oper) (s:RS) (c:Cx):R (RS × Option AV):=
 (P8 ops s.env s.dec o c).bind λ(run,dec) c=>
 let rt:=wG o.op.operands.toList++jM ops o
 match Xj dec o with
 |false=> .bad 35
 |true=>
 match run with
 |false=> .ok ({s with env:=rq s.env o.dst (.tup []),dec,feet:={rt,wt:=J3 o,rb:= [],wb:= []}::s.feet},none) c
 | true=>
  let ρ:=rY ap s.env
  let rdAll:=aF s.hp
  match o.op with
  | .call {callee:= .value g,args,..}=>
   match ρ g with
   | .fn f first cap=>
    (uY ap H rdAll nid .dead f (first++args.toList.map ρ++cap) c).bind λr c=>
    let foot:Ez:={rt,wt:=J3 o,rb:=r.fp,wb:=r.ups.map λ(q:Nat × bu)=>q.1}
    match RV c o.dst with
    | (true,c)=>match r.out with
     | .ret v=>match r.ups.all (λ(q:Nat × bu)=>uh r.fp q.1) with
      |true=> .ok ({s with env:=rq s.env o.dst v,dec,feet:={rt,wt:=J3 o,rb:=r.fp,wb:= []}::s.feet},none) {c with ps:=(r.ups.map (λ(q:Nat × bu)=>some q.2)=r.ups.map (λ(q:Nat × bu)=>aF s.hp q.1))::c.ps}
      |false=> .bad 36
     | .pan _=> .bad 37
    |(false,c)=>match r.out with
     | .ret v=> .ok ({s with env:=rq s.env o.dst v,hp:=r.ups++s.hp,dec,feet:=foot::s.feet},none) c
     | .pan v=> .ok ({s with hp:=r.ups++s.hp,dec,feet:=foot::s.feet},some v) c
   |_=> .bad 30
  | .call {callee:= .builtin .recover,..}=>
   match s.md with
   | .nilI=> .ok ({s with env:=rq s.env o.dst .nilI,dec,feet:={rt,wt:=J3 o,rb:= [],wb:= []}::s.feet},none) c
   | .ifc t v=> .ok ({s with env:=rq s.env o.dst (.ifc t v),md:= .nilI,dec,feet:={rt,wt:=J3 o,rb:= [],wb:= []}::s.feet},none) c
   |_=> .bad 33
  | .defer {callee:= .value g,args,..}=>
   match ρ g with
   | .fn f first cap=> .ok ({s with env:=rq s.env o.dst .dead,dfs:=(f,first++args.toList.map ρ++cap)::s.dfs,dec,feet:={rt,wt:=J3 o,rb:= [],wb:= []}::s.feet},none) c
   |_=> .bad 34
  | .panic x=>
   match ρ x with
   | .ifc t v=> .ok ({s with dec},some (.ifc t v)) c
   |_=> .bad 31
  | op=>
   let fp:=Y9 ρ op
   let rd:=λb=>match uh fp b with|true=>rdAll b|false=>none
   let decs:Operand->Option Bool:=fun| .tmp t=>aF dec t|_=>none
   (match zW ρ op with|some n=>A8 c (Xqn n 0)|none=> .ok false c).bind λem c=>
   match opA ap nid ρ rd decs em op with
   |none=> .bad 32
   | some (v,ups,bs)=>(abf c bs).bind λ_ c=>
    match FC c o.dst v with
    |(v,c)=>match FB c o.dst ups with
     |(ups,c)=> .ok ({s with env:=rq s.env o.dst v,hp:=ups++s.hp,dec,feet:={rt,wt:=J3 o,rb:=fp,wb:=ups.map λ(q:Nat × bu)=>q.1}::s.feet},none) c
def yT (ap:AP) (H:dD) (ops:List Oper):List Oper->Nat->RS->Cx->R (RS × Option AV)
 | [],_,s,c=> .ok (s,none) c
 | o::r,nid,s,c=>(TS ap H nid ops o s c).bind λ(s,p) c=>
  match p with
  |some v=> .ok (s,some v) c
  |none=>match s.feet with
   |f::_=>match f.wb.all (λx=>Xjj x (nid+4)) with|true=>yT ap H ops r (nid+4) s c|false=> .bad 43
   | []=> .bad 44
def F8 (a b:List Nat):Bool:=a.any (uh b)
def kQ (a b:Ez):Bool:=F8 a.wt b.rt||F8 a.wt b.wt||F8 a.rt b.wt||F8 a.wb b.rb||F8 a.wb b.wb||F8 a.rb b.wb
def Gs (n:Nat) (bef:List Nat) (feet:List Ez):Bool:=
 let l:=feet.reverse.zipIdx
 l.all λ(a,i)=>l.all λ(b,j)=> !(Xjj i j)|| !(kQ a b||b.wb.any λx=>Φ (n+4*i) x && Xjj x (n+4*i+4))||(bef.getD j 0).testBit i
def E_ (keep:List Nat) (env:jq):List Nat:=keep.flatMap λt=>eQ (env.get t)
def norm (base:Nat) (keep:List Nat) (s:St):St:=
 let env:=s.env
 let hp:=s.hp
 let rd:=aF hp
 let ids:=uN rd 20 (jG (uN rd 20 (Xq7 base)++E_ keep env++s.dfs.flatMap λd=>bW d.2))
 let ids:=ids.filter λb=>(rd b).isSome
 let ρ:Nat->Nat->Option (Nat × Nat):=λb v=>match rd b with
  |some B=>match Xqn B.ver v with
   |true=>(qX ids b).map λp=>(p,match Xjj p base with|true=>v|false=>0)
   |false=>none
  |none=>none
 {env:=keep.map λt=>(t,ren ρ (env.get t))
  hp:=ids.zipIdx.filterMap λ(b,p)=>(rd b).map λB=>(p,{B with cells:=(match B.pr with|true=>B.cells|false=>nZ ρ B.cells),ver:=match Xjj p base with|true=>B.ver|false=>0})
  md:=s.md
  dfs:=s.dfs.map λd=>(d.1,nZ ρ d.2)}
def lK:Hp->Nat
 | []=>0
 |(b,_)::r=>match Xjj b (lK r) with|true=>lK r|false=>b+1
def zV (ops:List Oper):Bool:=ops.zipIdx.all λ(o,i)=>o.after.toList.all λe=> !Region.binds .any e||Xjj e.on i
def Lh (ap:AP) (H:dD) (base:Nat) (keep:List Nat) (ops:List Oper) (draw:Bool) (s:St) (c:Cx):R (bI × St):=
 (yT ap H ops ops (lK s.hp) {env:=s.env,hp:=s.hp,md:=s.md,dfs:=s.dfs,dec:= [],feet:= []} c).bind λ(s',p) c=>
 match p with
 | some v=>match draw with
  |true=> .bad 40
  |false=>match (eQ v).isEmpty with
   |true=> .ok (.panic v,norm base keep ⟨s'.env,s'.hp,s'.md,s'.dfs⟩) c
   |false=> .ok (.panic v,⟨s'.env,s'.hp,s'.md,s'.dfs⟩) c
 |none=>
  match !draw||(Gs (lK s.hp) (Region.before ops.toArray).toList s'.feet && zV ops && Xqn s'.dfs.length s.dfs.length) with
  |true=> .ok (.normal,norm base keep ⟨s'.env,s'.hp,s'.md,s'.dfs⟩) c
  |false=> .bad 41
def Sl (f:St->Cx->R (bI × St)):Nat->St->Cx->R (bI × St)
 |0,_,_=> .bad 50
 |n+1,s,c=>(f s c).bind λ(e,s) c=>match e with
  | .normal=>Sl f n s c
  |e=> .ok (e,s) c
def l_ (ap:AP) (H:dD) (base:Nat) (keep:List Nat) (lf:Nat):Code->St->Cx->R (bI × St)
 | .skip,s,c=> .ok (.normal,s) c
 | .label _,s,c=> .ok (.normal,s) c
 | .region _ ops draw,s,c=>Lh ap H base keep ops.toList draw s c
 | .seq a b,s,c=>(l_ ap H base keep lf a s c).bind λ(e,s) c=>match e with
  | .normal=>l_ ap H base keep lf b s c
  |e=> .ok (e,s) c
 | .cond t a b,s,c=>match rY ap s.env t with
  | .bool x=>(A8 c x).bind λx c=>match x with
   |true=>l_ ap H base keep lf a s c
   |false=>l_ ap H base keep lf b s c
  |_=> .bad 60
 | .block id b,s,c=>(l_ ap H base keep lf b s c).bind λ(e,s) c=>match e with
  | .exit id'=>match Xqn id' id with|true=> .ok (.normal,s) c|false=> .ok (.exit id',s) c
  |e=> .ok (e,s) c
 | .loop b,s,c=>Sl (l_ ap H base keep lf b) lf s c
 | .exit id,s,c=> .ok (.exit id,s) c
 | .ret,s,c=> .ok (.ret,s) c
 | .scope b,s,c=>l_ ap H base keep lf b s c
 |_,_,_=> .bad 61
def Aj (ap:AP) (env:jq) (hp:Hp):ResultVar->Option (AV × List Bool)
 | .tmp t=>some (env.get t,[])
 | .cell a t=>(ap.tyAt t).bind λti=>(NK ti (aF hp) (env.get a)).map λ(v,_,bs)=>(v,bs)
def gQ (l:List Nat) (b:Nat):Nat:=(l.filter (Xqn b)).length
def abH (base:Nat) (rd:Nat->Option bu) (v:AV):Option AV:=
 let fp:=uN rd 6 (jG (eQ v))
 match fp.all (λb=>Φ base b) with
 |true=>frz (λb=>match uh fp b with|true=>rd b|false=>none) 6 v
 |false=>none
def uf (base:Nat) (rd:Nat->Option bu) (all:List Nat) (v:AV):Option AV:=
 let frzO (v:AV):Option AV:=match (eQ v).all (λb=>Xjj b base) with|true=>some v|false=>abH base rd v
 match v with
 | .ref b ver 0 n=>match rd b with
  |some B=>match Φ base b && Xqn B.ver ver && !B.fro && B.pr && Xqn (gQ all b) 1 && Xjj 0 B.esz with
   |true=>some (.own (B.cells.take (n*B.esz)) n B.esz)
   |false=>frzO v
  |none=>none
 |v=>frzO v
def ah (f:Func):Code:=f.body.getD .skip
def pG (md:AV) (args:List AV) (h:List bu):St:=
 {env:=args.zipIdx.map λ(x,i)=>(i,x),hp:=h.zipIdx.map λ(B,i)=>(i,B),md,dfs:= []}
def ala:AV->Bool
 | .nilI=>true
 | .ifc _ _=>true
 |_=>false
def FN (ap:AP) (H:dD):List (Nat × List AV)->AV->Hp->Cx->R (AV × Hp)
 | [],mode,hp,c=> .ok (mode,hp) c
 |(f,args)::r,mode,hp,c=>
  match ala mode && (eQ mode).isEmpty with
  |false=> .bad 78
  |true=>
  (uY ap H (aF hp) (lK hp) mode f args c).bind λq c=>
  match q.out with
  | .ret _=>FN ap H r q.md (q.ups++hp) c
  | .pan _=> .bad 75
def VV (rd:Nat->Option bu) (base:Nat):Nat:=(uN rd 20 (Xq7 base)).length
def xn (ap:AP) (base:Nat) (F:Func) (env:jq) (hp:Hp) (c:Cx):R (kW × List bu):=
 let rd:=aF hp
 let n:=VV rd base
 match kX (Aj ap env hp) F.results.toList,kX rd (Xq7 n) with
 |some vs,some h'=>
  match h'.all (λB=>B.pr||(bW B.cells).all λb=>Xjj b n) with
  |false=> .bad 76
  |true=>
  (abf c (vs.flatMap λ(q:AV × List Bool)=>q.2)).bind λ_ c=>
  let all:=vs.flatMap λ(q:AV × List Bool)=>uN rd 6 (jG (eQ q.1))
  match kX (uf n rd all) (vs.map λ(q:AV × List Bool)=>q.1) with
  |some [v]=> .ok (.ret v,h') c
  |some l=> .ok (.ret (.tup l),h') c
  |none=> .bad 70
 |_,_=> .bad 71
def KZ (base:Nat) (v:AV) (hp:Hp) (c:Cx):R (kW × List bu):=
 let n:=VV (aF hp) base
 match uf n (aF hp) (uN (aF hp) 6 (jG (eQ v))) v,kX (aF hp) (Xq7 n) with
 |some v,some h'=>
  match h'.all (λB=>B.pr||(bW B.cells).all λb=>Xjj b n) with
  |false=> .bad 77
  |true=> .ok (.pan v,h') c
 |_,_=> .bad 72
def D9 (ap:AP) (H:dD) (base:Nat) (F:Func) (e:bI) (s:St) (c:Cx):R (kW × List bu × AV):=
 let go (mode:AV):R (kW × List bu × AV):=
  (FN ap H s.dfs mode s.hp c).bind λ(mode,hp) c=>
  match mode with
  | .nilI=>(xn ap base F s.env hp c).bind λ(o,h) c=> .ok (o,h,s.md) c
  | .ifc t v=>(KZ base (.ifc t v) hp c).bind λ(o,h) c=> .ok (o,h,s.md) c
  |_=> .bad 74
 match e with
 | .normal| .ret=>go .nilI
 | .panic (.ifc t v)=>match (eQ v).isEmpty with|true=>go (.ifc t v)|false=> .bad 79
 |_=> .bad 73
def WL (ap:AP) (H:dD) (lf:Nat) (md:AV) (F:AF) (args:List AV) (h:List bu) (c:Cx):R (kW × List bu × AV):=
 match ah F.fn with
 | .seq (.region _ ops false) rest=>
  match ops.toList with
  | o ::r=>
   match o.op,o.guard,o.dst with
   | .call {callee:= .builtin .recover,..},none,some d=>
    let s0:=pG .dead args h
    (yT ap H (o::r) r (lK s0.hp) {env:=(d,md)::s0.env,hp:=s0.hp,md:= .dead,dfs:= [],dec:= [],feet:= []} c).bind λ(s,p) c=>
    match p with
    |some _=> .bad 81
    | none=>(l_ ap H h.length F.keep lf rest (norm h.length F.keep ⟨s.env,s.hp,s.md,s.dfs⟩) c).bind λ(e,s) c=>
     match s.dfs with
     |_::_=> .bad 82
     | []=>match e with
      | .normal| .ret=>(xn ap h.length F.fn s.env s.hp c).bind λ(o,h) c=> .ok (o,h,.nilI) c
      |_=> .bad 83
   |_,_,_=> .bad 84
  | []=> .bad 85
 |_=> .bad 86
def uX (ap:AP) (H:dD) (lf:Nat) (md:AV) (f:Nat) (args:List AV) (h:List bu) (c:Cx):R (kW × List bu × AV):=
 match ap.fnAt f with
 |none=> .bad 80
 |some F=>match md with
  | .dead=>(l_ ap H h.length F.keep lf (ah F.fn) (pG .dead args h) c).bind λ(e,s) c=>D9 ap H h.length F.fn e s c
  |md=>match ala md && (eQ md).isEmpty with|true=>WL ap H lf md F args h c|false=> .bad 87
theorem yf {S:aY}:∀ {l:List AV} {vs:List Value},eY S l vs->l.length=vs.length
 | [],[],_=>rfl
 |_::_,_::_,h=>by simp only [eY] at h;simp [yf h.2]
 | [],_::_,h=>by simp [eY] at h
 |_::_,[],h=>by simp [eY] at h
theorem b_ {g:dO} {m:bg} {S:aY}:∀ {l:List AV} {vs:List Value},bC g m S l vs->l.length=vs.length
 | [],[],_=>rfl
 |_::_,_::_,h=>by simp only [bC] at h;simp [b_ h.2]
 | [],_::_,h=>by simp [bC] at h
 |_::_,[],h=>by simp [bC] at h
theorem tu {g:dO} {m:bg} {S:aY}:∀ {l:List AV} {vs:List Value} (_:bC g m S l vs) (i:Nat) {x:AV},l[i]? =some x->∃ v,vs[i]? =some v/\VR g m S x v
 | [],[],_,i,x,hx=>by simp at hx
 |a::l,v::vs,h,0,x,hx=>by simp only [bC] at h;simp at hx;subst hx;exact ⟨v,rfl,h.1⟩
 |a::l,v::vs,h,i+1,x,hx=>by simp only [bC] at h;simp at hx;simpa using tu h.2 i hx
 | [],_::_,h,_,_,_=>by simp [bC] at h
 |_::_,[],h,_,_,_=>by simp [bC] at h
theorem oV {S:aY}:∀ {l l':List AV} {vs vs':List Value},eY S l vs->eY S l' vs'->eY S (l++l') (vs++vs')
 | [],_,[],_,_,h'=>by simpa using h'
 |_::_,_,_::_,_,h,h'=>by simp only [eY] at h;simp only [Xxf,eY];exact ⟨h.1,oV h.2 h'⟩
 | [],_,_::_,_,h,_=>by simp [eY] at h
 |_::_,_,[],_,h,_=>by simp [eY] at h
theorem iI {g:dO} {m:bg} {S:aY}:∀ {l l':List AV} {vs vs':List Value},bC g m S l vs->bC g m S l' vs'->bC g m S (l++l') (vs++vs')
 | [],_,[],_,_,h'=>by simpa using h'
 |_::_,_,_::_,_,h,h'=>by simp only [bC] at h;simp only [Xxf,bC];exact ⟨h.1,iI h.2 h'⟩
 | [],_,_::_,_,h,_=>by simp [bC] at h
 |_::_,_,[],_,h,_=>by simp [bC] at h
theorem lg {S:aY}:∀ (n:Nat) {l:List AV} {vs:List Value},eY S l vs->eY S (l.take n) (vs.take n)
 |0,_,_,_=>by simp [eY]
 |n+1,[],[],_=>by simp [eY]
 |n+1,_::_,_::_,h=>by simp only [eY] at h;simp only [Xja,eY];exact ⟨h.1,lg n h.2⟩
 |_+1,[],_::_,h=>by simp [eY] at h
 |_+1,_::_,[],h=>by simp [eY] at h
theorem rH {S:aY}:∀ (n:Nat) {l:List AV} {vs:List Value},eY S l vs->eY S (l.drop n) (vs.drop n)
 |0,_,_,h=>by simpa using h
 |n+1,[],[],_=>by simp [eY]
 |n+1,_::_,_::_,h=>by simp only [eY] at h;simpa using rH n h.2
 |_+1,[],_::_,h=>by simp [eY] at h
 |_+1,_::_,[],h=>by simp [eY] at h
theorem rM {g:dO} {m:bg} {S:aY}:∀ (n:Nat) {l:List AV} {vs:List Value},bC g m S l vs->bC g m S (l.take n) (vs.take n)
 |0,_,_,_=>by simp [bC]
 |n+1,[],[],_=>by simp [bC]
 |n+1,_::_,_::_,h=>by simp only [bC] at h;simp only [Xja,bC];exact ⟨h.1,rM n h.2⟩
 |_+1,[],_::_,h=>by simp [bC] at h
 |_+1,_::_,[],h=>by simp [bC] at h
theorem uT {g:dO} {m:bg} {S:aY}:∀ (n:Nat) {l:List AV} {vs:List Value},bC g m S l vs->bC g m S (l.drop n) (vs.drop n)
 |0,_,_,h=>by simpa using h
 |n+1,[],[],_=>by simp [bC]
 |n+1,_::_,_::_,h=>by simp only [bC] at h;simpa using uT n h.2
 |_+1,[],_::_,h=>by simp [bC] at h
 |_+1,_::_,[],h=>by simp [bC] at h
theorem lh.mono {S S':aY} (h:qj S S') {b o:Nat} {vs:List Value} (hs:lh S b o vs):lh S' b o vs:=λj u a=> ⟨h _ _ _ (hs j u a).1,(hs j u a).2⟩
mutual
theorem dF {S S':aY} (h:qj S S'):∀ (x:AV) {v:Value},PR S x v->PR S' x v
 | .int _ _,_,p=>by simpa only [PR] using p
 | .bool _,_,p=>by simpa only [PR] using p
 | .str _,_,p=>by simpa only [PR] using p
 | .nilS,_,p=>by simpa only [PR] using p
 | .nilP,_,p=>by simpa only [PR] using p
 | .nilF,_,p=>by simpa only [PR] using p
 | .nilI,_,p=>by simpa only [PR] using p
 | .dead,_,_=>by simp only [PR]
 | .agg l,_,p=>by
  simp only [PR] at p ⊢;obtain ⟨vs,e,q⟩:=p;exact ⟨vs,e,dE h l q⟩
 | .tup l,_,p=>by
  simp only [PR] at p ⊢;obtain ⟨vs,e,q⟩:=p;exact ⟨vs,e,dE h l q⟩
 | .sl xs n nn,_,p=>by
  simp only [PR] at p ⊢;obtain ⟨a,i,e,d,q⟩:=p;refine ⟨a,i,e,d, ?_⟩;rcases q with q|⟨b,o,vs,D,q,hs⟩
  .exact .inl q
  .exact .inr ⟨b,o,vs,D,dE h xs q,hs.mono h⟩
 | .pp xs off,_,p=>by
  simp only [PR] at p ⊢;obtain ⟨b,o,vs,e,q,hs⟩:=p;exact ⟨b,o,vs,e,dE h xs q,hs.mono h⟩
 | .mp ks vs,_,p=>by
  simp only [PR] at p ⊢;rcases p with p|⟨b,B,k,e,j,s,y,z⟩
  .exact .inl p
  .exact .inr ⟨b,B,k,e,h _ _ _ j,h _ _ _ s,dE h ks y,dE h vs z⟩
 | .fn f a c,_,p=>by
  simp only [PR] at p ⊢;obtain ⟨C,A,e,q,r⟩:=p;exact ⟨C,A,e,dE h a q,dE h c r⟩
 | .ifc t x,_,p=>by
  simp only [PR] at p ⊢;obtain ⟨u,e,q⟩:=p;exact ⟨u,e,dF h x q⟩
 | .ref _ _ _ _,_,p=>by simp only [PR] at p
 | .ptr _ _ _,_,p=>by simp only [PR] at p
 | .mr _ _,_,p=>by simp only [PR] at p
 | .own _ _ _,_,p=>by simp only [PR] at p
theorem dE {S S':aY} (h:qj S S'):∀ (l:List AV) {vs:List Value},eY S l vs->eY S' l vs
 | [],[],_=>by simp only [eY]
 |x::r,v::vs,p=>by simp only [eY] at p ⊢;exact ⟨dF h x p.1,dE h r p.2⟩
 | [],_::_,p=>by simp [eY] at p
 |_::_,[],p=>by simp [eY] at p
end
mutual
theorem iU {g:dO} {m:bg} {S:aY}:∀ (x:AV) {v:Value},PR S x v->VR g m S x v
 | .int _ _,_,p=>by simpa only [VR] using p
 | .bool _,_,p=>by simpa only [VR] using p
 | .str _,_,p=>by simpa only [VR] using p
 | .nilS,_,p=>by simpa only [VR] using p
 | .nilP,_,p=>by simpa only [VR] using p
 | .nilF,_,p=>by simpa only [VR] using p
 | .nilI,_,p=>by simpa only [VR] using p
 | .sl _ _ _,_,p=>by simpa only [VR] using p
 | .pp _ _,_,p=>by simpa only [VR] using p
 | .mp _ _,_,p=>by simpa only [VR] using p
 | .dead,_,_=>by simp only [VR]
 | .agg l,_,p=>by
  simp only [PR] at p;simp only [VR];obtain ⟨vs,e,q⟩:=p;exact ⟨vs,e,cO l q⟩
 | .tup l,_,p=>by
  simp only [PR] at p;simp only [VR];obtain ⟨vs,e,q⟩:=p;exact ⟨vs,e,cO l q⟩
 | .fn f a c,_,p=>by
  simp only [PR] at p;simp only [VR];obtain ⟨d,b,e,q,r⟩:=p;exact ⟨d,b,e,cO a q,cO c r⟩
 | .ifc t x,_,p=>by
  simp only [PR] at p;simp only [VR];obtain ⟨u,e,q⟩:=p;exact ⟨u,e,iU x q⟩
 | .ref _ _ _ _,_,p=>by simp only [PR] at p
 | .ptr _ _ _,_,p=>by simp only [PR] at p
 | .mr _ _,_,p=>by simp only [PR] at p
 | .own _ _ _,_,p=>by simp only [PR] at p
theorem cO {g:dO} {m:bg} {S:aY}:∀ (l:List AV) {vs:List Value},eY S l vs->bC g m S l vs
 | [],[],_=>by simp only [bC]
 |x::r,v::vs,p=>by simp only [eY] at p;simp only [bC];exact ⟨iU x p.1,cO r p.2⟩
 | [],_::_,p=>by simp [eY] at p
 |_::_,[],p=>by simp [eY] at p
end
def uG (g:dO) (m:bg) (g':dO) (m':bg) (ρ:Nat->Nat->Option (Nat × Nat)):Prop:=
 ∀ b ver b' ver',ρ b ver=some (b',ver')->∀ B,g b=some B->ver<=B.ver->
  ∃ B',g' b'=some B'/\ver'<=B'.ver/\(B'.ver=ver'->B.ver=ver/\m' b'=m b/\B'.esz=B.esz)
mutual
theorem AZ {g g':dO} {m G:bg} {S S':aY} {ρ:Nat->Nat->Option (Nat × Nat)} (j:qj S S') (h:uG g m g' G ρ):∀ (x:AV) {v:Value},VR g m S x v->VR g' G S' (ren ρ x) v
 | .int k n,_,p=>by simp only [VR] at p;simp only [ren,VR];exact dF j _ p
 | .bool _,_,p=>by simp only [VR] at p;simp only [ren,VR];exact dF j _ p
 | .str _,_,p=>by simp only [VR] at p;simp only [ren,VR];exact dF j _ p
 | .nilS,_,p=>by simp only [VR] at p;simp only [ren,VR];exact dF j _ p
 | .nilP,_,p=>by simp only [VR] at p;simp only [ren,VR];exact dF j _ p
 | .nilF,_,p=>by simp only [VR] at p;simp only [ren,VR];exact dF j _ p
 | .nilI,_,p=>by simp only [VR] at p;simp only [ren,VR];exact dF j _ p
 | .sl _ _ _,_,p=>by simp only [VR] at p;simp only [ren,VR];exact dF j _ p
 | .pp _ _,_,p=>by simp only [VR] at p;simp only [ren,VR];exact dF j _ p
 | .mp _ _,_,p=>by simp only [VR] at p;simp only [ren,VR];exact dF j _ p
 | .dead,_,_=>by simp only [ren,VR]
 | .own _ _ _,_,p=>by simp only [VR] at p
 | .agg l,_,p=>by
  simp only [VR] at p;simp only [ren,VR];obtain ⟨vs,e,q⟩:=p;exact ⟨vs,e,lm j h l q⟩
 | .tup l,_,p=>by
  simp only [VR] at p;simp only [ren,VR];obtain ⟨vs,e,q⟩:=p;exact ⟨vs,e,lm j h l q⟩
 | .fn f a c,_,p=>by
  simp only [VR] at p;simp only [ren,VR];obtain ⟨J,H,e,q,r⟩:=p;exact ⟨J,H,e,lm j h a q,lm j h c r⟩
 | .ifc t x,_,p=>by
  simp only [VR] at p;simp only [ren,VR];obtain ⟨u,e,q⟩:=p;exact ⟨u,e,AZ j h x q⟩
 | .ref b ver i n,_,p=>by
  simp only [VR] at p;simp only [ren];obtain ⟨B,E,C,o,q⟩:=p;cases hρ:ρ b ver with
  |none=>simp only [VR]
  |some bv=>
   obtain ⟨D,d⟩:=bv;obtain ⟨B',s,y,z⟩:=h b ver D d hρ B E C;simp only [VR];refine ⟨B',s,y,o,λe=> ?_⟩;obtain ⟨F,A,I⟩:=z e;rw [A,I];exact q F
 | .ptr b ver off,_,p=>by
  simp only [VR] at p;simp only [ren];obtain ⟨B,E,C,o,q⟩:=p;cases hρ:ρ b ver with
  |none=>simp only [VR]
  |some bv=>
   obtain ⟨D,d⟩:=bv;obtain ⟨B',s,y,z⟩:=h b ver D d hρ B E C;simp only [VR];refine ⟨B',s,y,o,λe=> ?_⟩;obtain ⟨F,A,_⟩:=z e;rw [A];exact q F
 | .mr b ver,_,p=>by
  simp only [VR] at p;simp only [ren];obtain ⟨B,E,C,o,q⟩:=p;cases hρ:ρ b ver with
  |none=>simp only [VR]
  |some bv=>
   obtain ⟨D,d⟩:=bv;obtain ⟨B',s,y,z⟩:=h b ver D d hρ B E C;simp only [VR];refine ⟨B',s,y,o,λe=> ?_⟩;obtain ⟨F,A,_⟩:=z e;rw [A];exact q F
theorem lm {g g':dO} {m b:bg} {S S':aY} {ρ:Nat->Nat->Option (Nat × Nat)} (a:qj S S') (h:uG g m g' b ρ):∀ (l:List AV) {vs:List Value},bC g m S l vs->bC g' b S' (nZ ρ l) vs
 | [],[],_=>by simp only [nZ,bC]
 |x::r,v::vs,p=>by simp only [bC] at p;simp only [nZ,bC];exact ⟨AZ a h x p.1,lm a h r p.2⟩
 | [],_::_,p=>by simp [bC] at p
 |_::_,[],p=>by simp [bC] at p
end
def Ge (g:dO) (m:bg) (g':dO) (m':bg):Prop:=
 ∀ b B,g b=some B->∃ B',g' b=some B'/\B'.esz=B.esz/\((B'.ver=B.ver/\m' b=m b)\/B.ver<B'.ver)
theorem Ge.refl (g:dO) (m:bg):Ge g m g m:=λ_ B h=> ⟨B,h,rfl,.inl ⟨rfl,rfl⟩⟩
theorem Ge.trans {g g' f:dO} {m k i:bg} (h:Ge g m g' k) (p:Ge g' k f i):Ge g m f i:=by
 intro b B s;obtain ⟨B',j,e,c⟩:=h b B s;obtain ⟨B'',a,e',q⟩:=p b B' j;refine ⟨B'',a,e'.trans e, ?_⟩;rcases c with ⟨n,o⟩|c<;>rcases q with ⟨l,r⟩|d
 .exact .inl ⟨l.trans n,r.trans o⟩
 .exact .inr (by omega)
 .exact .inr (by omega)
 .exact .inr (by omega)
mutual
theorem qy {g g':dO} {m C:bg} {S S':aY} (o:qj S S') (h:Ge g m g' C):∀ (x:AV) {v:Value},VR g m S x v->VR g' C S' x v
 | .int k n,_,p=>by simp only [VR] at p ⊢;exact dF o _ p
 | .bool _,_,p=>by simp only [VR] at p ⊢;exact dF o _ p
 | .str _,_,p=>by simp only [VR] at p ⊢;exact dF o _ p
 | .nilS,_,p=>by simp only [VR] at p ⊢;exact dF o _ p
 | .nilP,_,p=>by simp only [VR] at p ⊢;exact dF o _ p
 | .nilF,_,p=>by simp only [VR] at p ⊢;exact dF o _ p
 | .nilI,_,p=>by simp only [VR] at p ⊢;exact dF o _ p
 | .sl _ _ _,_,p=>by simp only [VR] at p ⊢;exact dF o _ p
 | .pp _ _,_,p=>by simp only [VR] at p ⊢;exact dF o _ p
 | .mp _ _,_,p=>by simp only [VR] at p ⊢;exact dF o _ p
 | .dead,_,_=>by simp only [VR]
 | .own _ _ _,_,p=>by simp only [VR] at p
 | .agg l,_,p=>by
  simp only [VR] at p ⊢;obtain ⟨vs,e,q⟩:=p;exact ⟨vs,e,nH o h l q⟩
 | .tup l,_,p=>by
  simp only [VR] at p ⊢;obtain ⟨vs,e,q⟩:=p;exact ⟨vs,e,nH o h l q⟩
 | .fn f a c,_,p=>by
  simp only [VR] at p ⊢;obtain ⟨G,F,e,q,r⟩:=p;exact ⟨G,F,e,nH o h a q,nH o h c r⟩
 | .ifc t x,_,p=>by
  simp only [VR] at p ⊢;obtain ⟨u,e,q⟩:=p;exact ⟨u,e,qy o h x q⟩
 | .ref b ver i n,_,p=>by
  simp only [VR] at p ⊢;obtain ⟨B,z,E,d,q⟩:=p;obtain ⟨B',j,A,s⟩:=h b B z;rcases s with ⟨D,y⟩|c
  .refine ⟨B',j,by omega,d,λe=> ?_⟩;rw [y,A];exact q (by omega)
  .exact ⟨B',j,by omega,d,λe=>by omega⟩
 | .ptr b ver off,_,p=>by
  simp only [VR] at p ⊢;obtain ⟨B,z,E,d,q⟩:=p;obtain ⟨B',j,A,s⟩:=h b B z;rcases s with ⟨D,y⟩|c
  .refine ⟨B',j,by omega,d,λe=> ?_⟩;rw [y];exact q (by omega)
  .exact ⟨B',j,by omega,d,λe=>by omega⟩
 | .mr b ver,_,p=>by
  simp only [VR] at p ⊢;obtain ⟨B,z,E,d,q⟩:=p;obtain ⟨B',j,A,s⟩:=h b B z;rcases s with ⟨D,y⟩|c
  .refine ⟨B',j,by omega,d,λe=> ?_⟩;rw [y];exact q (by omega)
  .exact ⟨B',j,by omega,d,λe=>by omega⟩
theorem nH {g g':dO} {m b:bg} {S S':aY} (a:qj S S') (h:Ge g m g' b):∀ (l:List AV) {vs:List Value},bC g m S l vs->bC g' b S' l vs
 | [],[],_=>by simp only [bC]
 |x::r,v::vs,p=>by simp only [bC] at p ⊢;exact ⟨qy a h x p.1,nH a h r p.2⟩
 | [],_::_,p=>by simp [bC] at p
 |_::_,[],p=>by simp [bC] at p
end
def Wl (ap:AP) (S:aY):Prop:=∀ k xs,(ap.gl[k]?).join=some xs->∃ vs,eY S xs vs/\lh S k 0 vs
structure jm (P:Program) (ap:AP):Prop where
 ty:∀ t ti,ap.tyAt t=some ti->ZU P t=some ti
def yH (es:Array MapEntry):Array Value:=#[.agg (es.map (·.key)),.agg (es.map (·.val))]
def jX (w:World) (k z:Nat) (cur:Array Value) (e:TypeId):Prop:=
 (z ≠ jf/\w.heap[k]? =some (.cells cur e (0,0)))\/(z=jf/\∃ es clk,w.heap[k]? =some (.map es clk)/\cur=yH es)
def lu (w:World) (k o:Nat):Option Value:=match w.heap[k]? with
 |some (.map es _)=>(yH es)[o]?
 |_=>match w.cell? ⟨k,o,none⟩ with|some v=>if v.oneCell' then some v else none|none=>none
theorem jX.of {w:World} {k z:Nat} {cur:Array Value} {e:TypeId} (a:z ≠ jf) (h:w.heap[k]? =some (.cells cur e (0,0))):jX w k z cur e:= .inl ⟨a,h⟩
theorem jX.cells {w:World} {k z:Nat} {cur:Array Value} {e:TypeId} (h:jX w k z cur e) (a:z ≠ jf):w.heap[k]? =some (.cells cur e (0,0)):=by
 rcases h with h|h
 .exact h.2
 .exact absurd h.1 a
theorem jX.map {w:World} {k z:Nat} {cur:Array Value} {e:TypeId} (h:jX w k z cur e) (a:z=jf):∃ es clk,w.heap[k]? =some (.map es clk)/\cur=yH es:=by
 rcases h with h|h
 .exact absurd a h.1
 .exact h.2
theorem jX.same {w w':World} {k z:Nat} {cur:Array Value} {e:TypeId} (h:jX w k z cur e) (a:w'.heap[k]? =w.heap[k]?):jX w' k z cur e:=by
 unfold jX;rw [a];exact h
theorem jX.lt {w:World} {k z:Nat} {cur:Array Value} {e:TypeId} (h:jX w k z cur e):k<w.heap.size:=by
 rcases h with ⟨_,h⟩|⟨_,b,a,h,_⟩<;>exact (Array.getElem?_eq_some_iff.1 h).1
theorem PE {w w':World} {k o:Nat} (b:w'.heap[k]? =w.heap[k]?):lu w' k o=lu w k o:=by
 unfold lu;rw [b,World.cell?_of_block (w:=w) (a:=⟨k,o,none⟩) b]
theorem A_ {w:World} {k o:Nat} {v:Value} (h:lu w k o=some v) (a:v.oneCell'=true):w.cell? ⟨k,o,none⟩=some v:=by
 unfold lu at h;split at h
 .rename_i d b f;exfalso;unfold yH at h;rcases (show o=0\/o=1\/2<=o by omega) with rfl|rfl|ho
  .cases h;cases a
  .cases h;cases a
  .rw [Array.getElem?_eq_none (by simpa using ho)] at h;cases h
 .split at h
  .rename_i e c;split at h
   .cases h;exact c
   .cases h
  .cases h
theorem EO {w:World} {k o:Nat} {v:Value} (h:w.cell? ⟨k,o,none⟩=some v) (b:v.oneCell'=true):lu w k o=some v:=by
 unfold lu;split
 .rename_i d a c;unfold World.cell? at h;simp only [c] at h;cases h
 .rw [h];simp only;rw [if_pos b]
theorem wP {w:World} {k o:Nat} {v:Value} (h:lu w k o=some v) (d:v.oneCell'=false):∃ b a,w.heap[k]? =some (.map b a)/\(yH b)[o]? =some v:=by
 unfold lu at h;split at h
 .rename_i b a e;exact ⟨b,a,e,h⟩
 .split at h
  .split at h
   .rename_i c;cases h;rw [d] at c;cases c
   .cases h
  .cases h
theorem WN {w:World} {k o:Nat} {v:Value} (h:lu w k o=some v):k<w.heap.size:=by
 cases a:v.oneCell' with
 |true=>exact World.block_lt_of_cell? w _ (A_ h a)
 |false=>
  obtain ⟨_,_,b,_⟩:=wP h a;exact (Array.getElem?_eq_some_iff.1 b).1
structure Uh (g:dO) (m:bg) (S:aY) (w:World) (B:bu) (k c:Nat):Prop where
 lies:∃ cur e vs rest,jX w k B.esz cur e/\cur.toList=vs++rest/\(B.pr=true->eY S B.cells vs)/\bC g m S B.cells vs/\(B.esz ≠ jf->∀ u ∈ vs,u.oneCell'=true)/\(0<B.esz->B.esz ≠ jf->cur.size=c*B.esz/\c<=maxLen)
 fz0:B.fro=false->B.fz=0
 fzle:B.fz<=B.cells.length
structure bZ (ap:AP) (g:dO) (m:bg) (S:aY) (w:World):Prop where
 inj:∀ b b' B B',g b=some B->g b'=some B'->(m b).1=(m b').1->b=b'
 blk:∀ b B,g b=some B->Uh g m S w B (m b).1 (m b).2
 sealed:∀ k o v,S k o=some v->lu w k o=some v
 own:∀ b B,g b=some B->∀ o v,S (m b).1 o=some v->B.fro=true/\o<B.fz
 glob:Wl ap S
structure Fr (g:dO) (m:bg) (S:aY) (w:World) (g':dO) (m':bg) (S':aY) (w':World):Prop where
 ge:Ge g m g' m'
 sle:qj S S'
 os:w'.os=w.os
 tape:w'.tape=w.tape
 output:w'.output=w.output
 size:w.heap.size<=w'.heap.size
 rest:∀ k,k<w.heap.size->(∀ b B,g b=some B->(m b).1 ≠ k)->w'.heap[k]? =w.heap[k]?
 img:∀ b B,g' b=some B->w.heap.size<=(m' b).1\/(∃ B0,g b=some B0/\(m' b).1=(m b).1)
 sealN:∀ k o v,S' k o=some v->S k o=some v\/w.heap.size<=k\/∃ b B,g b=some B/\(m b).1=k
theorem Fr.refl (g:dO) (m:bg) (S:aY) (w:World):Fr g m S w g m S w:=
 ⟨Ge.refl g m,qj.refl S,rfl,rfl,rfl,χ _,λ_ _ _=>rfl,λ_ B h=> .inr ⟨B,h,rfl⟩,λ_ _ _ h=> .inl h⟩
theorem Fr.trans {g g' i:dO} {m r l:bg} {S S' S'':aY} {w w' j:World} (h:Fr g m S w g' r S' w') (d:Fr g' r S' w' i l S'' j):Fr g m S w i l S'' j:=by
 refine ⟨h.ge.trans d.ge,h.sle.trans d.sle,d.os.trans h.os,d.tape.trans h.tape,d.output.trans h.output,Xxg h.size d.size, ?_, ?_, ?_⟩
 .intro k s t;rw [d.rest k (Nat.lt_of_lt_of_le s h.size) ?_,h.rest k s t];intro b B n e;rcases h.img b B n with a|⟨B0,c,a⟩
  .omega
  .exact t b B0 c (a ▸ e)
 .intro b B n;rcases d.img b B n with a|⟨B0,c,a⟩
  .exact .inl (Xxg h.size a)
  .rcases h.img b B0 c with q|⟨B1,p,q⟩
   .exact .inl (a ▸ q)
   .exact .inr ⟨B1,p,a.trans q⟩
 .intro k o v u;rcases d.sealN k o v u with f|f|⟨b,B,n,f⟩
  .exact h.sealN k o v f
  .exact .inr (.inl (Xxg h.size f))
  .rcases h.img b B n with a|⟨B0,c,a⟩
   .exact .inr (.inl (f ▸ a))
   .exact .inr (.inr ⟨b,B0,c,by rw [<- f,a]⟩)
theorem bZ.lt {ap:AP} {g:dO} {m:bg} {S:aY} {w:World} (h:bZ ap g m S w) {b:Nat} {B:bu} (c:g b=some B):(m b).1<w.heap.size:=by
 obtain ⟨cur,e,vs,rest,a,_⟩:=(h.blk b B c).lies;exact a.lt
theorem bZ.one {ap:AP} {g:dO} {m:bg} {S:aY} {w:World} (h:bZ ap g m S w) {k o:Nat} {v:Value} (a:S k o=some v) (b:v.oneCell'=true):w.cell? ⟨k,o,none⟩=some v:=A_ (h.sealed k o v a) b
theorem uZ {w:World} {k j:Nat} {cur:Array Value} {e:TypeId} {a:Nat × Nat} (h:w.heap[k]? =some (.cells cur e a)):w.cell? ⟨k,j,none⟩=cur.toList[j]? :=by
 rw [cell_of_row w k j cur e a h];simp
theorem jX.get {w:World} {k z j:Nat} {cur:Array Value} {e:TypeId} {u:Value} (h:jX w k z cur e) (a:cur.toList[j]? =some u) (d:z ≠ jf->u.oneCell'=true):lu w k j=some u:=by
 rcases h with ⟨c,h⟩|⟨_,f,b,h,rfl⟩
 .exact EO (by rw [uZ h];exact a) (d c)
 .unfold lu;rw [h];simpa using a
theorem gU {a b:IntKind} (h:jh a b=true):a=b:=by cases a<;>cases b<;>first|rfl|(exact absurd h (by decide))
theorem aP {a b:Nat} (h:Xqn a b=true):a=b:=Nat.eq_of_beq_eq_true h
theorem gW {a b:Nat} (h:Φ a b=true):a<=b:=Nat.le_of_ble_eq_true h
theorem gX {a b:Nat} (h:Xjj a b=true):a<b:=by
 have:Φ (a+1) b=true:=h;exact gW this
theorem afn {S:aY} {x:AV} {v:Value} (h:PR S x v) (a:pO x=true):v.oneCell'=true:=by
 cases x<;>simp only [PR] at h<;>first
  |(subst h;rfl)
  |(rcases h with ⟨rfl,_⟩|⟨_,_,_,rfl,_⟩<;>rfl)
  |(obtain ⟨_,_,_,rfl,_⟩:=h;rfl)
  |(obtain ⟨_,_,rfl,_⟩:=h;rfl)
  |(obtain ⟨_,rfl,_⟩:=h;first|rfl|exact absurd a (by simp [pO]))
  |(exact absurd a (by simp [pO]))
theorem Ph {g:dO} {m:bg} {S:aY} {x:AV} {v:Value} (h:VR g m S x v) (a:pO x=true):v.oneCell'=true:=by
 cases x<;>simp only [VR] at h<;>first
  | (exact afn h a)
    |(obtain ⟨_,_,_,⟨_,_,rfl⟩,_⟩:=h;rfl)
  |(obtain ⟨_,_,_,⟨_,_,_,rfl⟩,_⟩:=h;rfl)
  |(obtain ⟨_,_,rfl,_⟩:=h;rfl)
  |(obtain ⟨_,rfl,_⟩:=h;first|rfl|exact absurd a (by simp [pO]))
  |(exact absurd a (by simp [pO]))
end AM
namespace AM
open Go
structure DX (P:Program) (t:Nat) (ti:TI) (i:TypeInfo) (d:TypeDesc) (z:Value):Prop where
 info:P.info? t=some i
 und:P.underlying t=some d
 d_eq:ti.d=kM P (some d)
 size:ti.size=i.size
 bytes:ti.bytes=i.bytes
 zero:i.zero=some z
 zcells:ti.zero=z.cells.toList.map Gp
 zleaf:∀ x ∈ ti.zero,pO x=true
 zsize:z.cells.size=i.size
 lks:ti.lks.length=i.size
 pos:0<i.size
 zagg:ai9 i d=true
 fld:XR P d=true
 small:i.size<jf
theorem eP {P:Program} {ap:AP} (e:jm P ap) {t:Nat} {c:TI} (h:ap.tyAt t=some c):∃ i d z,DX P t c i d z:=by
 have a:=e.ty t c h;unfold ZU at a;cases b:P.info? t with
 |none=>simp [b] at a
 | some i=>
  cases hd:P.underlying t with
  |none=>simp [b,hd] at a
  | some d=>
   simp only [b,hd] at a;split at a
   .rename_i j;simp only [φ] at j;obtain ⟨⟨⟨⟨⟨⟨p,l⟩,s⟩,o⟩,u⟩,q⟩,n⟩:=j;cases f:i.zero with
    |none=>simp [f] at q
    | some z=>
     cases a;have k:HY i=z.cells.toList.map Gp:=by simp [HY,f]
     refine ⟨i,d,z,b,hd,rfl,rfl,rfl,f,k, ?_, ?_,aP p,gX u,l.1,l.2,gX n⟩
     .intro x r;exact List.all_eq_true.1 s x r
     .have:=aP o;rw [k] at this;simpa using this
   .cases a
theorem iG {P:Program} {d:TypeDesc} {e:Nat} (h:kM P (some d)= .slice e):d= .slice e:=by cases d<;>simp [kM] at h;subst h;rfl
theorem Aw {P:Program} {d:TypeDesc} {n e:Nat} (h:kM P (some d)= .array n e):d= .array n e:=by cases d<;>simp [kM] at h;obtain ⟨rfl,rfl⟩:=h;rfl
theorem yX {P:Program} {d:TypeDesc} (h:kM P (some d)= .str):d= .string:=by cases d<;>simp [kM] at h;rfl
theorem ZQ {P:Program} {d:TypeDesc} {k:IntKind} (h:kM P (some d)= .int k):d= .int k:=by cases d<;>simp [kM] at h;subst h;rfl
theorem aef {P:Program} {d:TypeDesc} (h:kM P (some d)= .bool):d= .bool:=by cases d<;>simp [kM] at h;rfl
theorem xw {P:Program} {d:TypeDesc} {a:List (Nat × Nat × Nat)} (h:kM P (some d)= .struct a):
  ∃ fields:Array Field,d= .struct fields/\a=fields.toList.map λf=>(f.offset,f.type,match P.info? f.type with|some i=>i.size|none=>0):=by
 cases d<;>simp [kM] at h
 exact ⟨_,rfl,h.symm⟩
theorem Hg {P:Program} (d:TypeDesc):KA (kM P (some d))=d.isRow:=by cases d<;>simp [kM,KA,TypeDesc.isRow]
theorem IP (S:aY) (v:Value):PR S (KQ v) v:=by
 cases v<;>simp only [KQ,PR]
 case pointer a=>cases a<;>simp only [PR]
 case map a=>
  cases a with
  |none=>simp [PR]
  |some _=>simp only [PR]
 case slice a n c=>
  split<;>simp only [PR]
theorem Md (S:aY) (v:Value):PR S (Gp v) v:=by
 cases v<;>simp only [Gp]<;>try exact IP S _
 case agg cs=>
  simp only [PR];refine ⟨cs.toList,by simp, ?_⟩
  induction cs.toList with
  |nil=>simp [eY]
  |cons c r ih=>simp only [Xqg,eY];exact ⟨IP S c,ih⟩
 case tuple vs=>
  split
  .rename_i h;simp only [PR];exact ⟨[],by rw [<- h],by simp [eY]⟩
  .simp only [PR]
theorem xN (S:aY):∀ l:List Value,eY S (l.map Gp) l
 | []=>by simp [eY]
 |v::r=>by simp only [Xqg,eY];exact ⟨Md S v,xN S r⟩
theorem afo {g:dO} {m:bg} {S:aY} {k:LK} {c:AV} {v:Value} (h:VR g m S c v) (f:chk k c=true):VR g m S (eta k c) v:=by
 cases k<;>cases c<;>simp [chk] at f<;>simp only [eta,AV.toInt,AV.toBool,AV.toStr,AV.slX,AV.slN]<;>try exact h
 .rw [gU f];exact h
 .simp only [VR,PR] at h ⊢;subst h;exact ⟨none,0,rfl,χ _,.inl ⟨λ_=>trivial,trivial,trivial,rfl⟩⟩
 .simp only [VR,PR] at h ⊢;obtain ⟨a,d,e,b,q⟩:=h;refine ⟨a,d,e,b, ?_⟩;rcases q with ⟨n,i,j,l⟩|q
  .exact .inl ⟨λ_=>trivial,i,j,l⟩
  .exact .inr q
theorem CW {k:LK} {c:AV} (h:chk k c=true):c ≠ .dead:=by intro e;subst e;cases k<;>simp [chk] at h
theorem getD_some {xs:List AV} {i:Nat} (h:xs.getD i .dead ≠ .dead):xs[i]? =some (xs.getD i .dead):=by
 rw [ξ] at h ⊢;cases a:xs[i]? with
 |none=>simp [a] at h
 |some x=>simp
theorem pz (xs:List AV) (a:Nat):(xs.drop a).headD .dead=xs.getD a .dead:=by
 rw [Xwi,Xki,ξ]
theorem Vu (ty:Bool) (xs:List AV) (a:Nat):ww ty [] xs a= []:=rfl
theorem yL (ty:Bool) (k:LK) (ks:List LK) (xs:List AV) (a:Nat):ww ty (k::ks) xs a=(match ty with|true=>eta k (xs.getD a .dead)|false=>xs.getD a .dead)::ww ty ks xs (a+1):=by
 show _::Ol ty ks (xs.drop a).tail=_::Ol ty ks (xs.drop (a+1));rw [Xkp];cases ty<;>simp only [pz]
theorem Us (ty:Bool) (k:LK) (ks:List LK) (xs:List AV) (a:Nat):JV ty (k::ks) xs a=(match ty with|true=>chk k (xs.getD a .dead)|false=>chk .oth (xs.getD a .dead))::JV ty ks xs (a+1):=by
 show _::WO ty ks (xs.drop a).tail=_::WO ty ks (xs.drop (a+1));rw [Xkp];cases ty<;>simp only [pz]
theorem qM {g:dO} {m:bg} {S:aY} (ty:Bool) {xs:List AV} {vs:List Value} (i:bC g m S xs vs):∀ (lks:List LK) (a:Nat),(∀ b ∈ JV ty lks xs a,b=true)->
  ∃ e:List Value,e.length=lks.length/\(∀ j u,e[j]? =some u->vs[a+j]? =some u)/\bC g m S (ww ty lks xs a) e:=by
 intro lks
 induction lks with
 |nil=>exact λa _=> ⟨[],rfl,λ_ _ h=>by simp at h,by simp [Vu,bC]⟩
 | cons k ks ih=>
  intro a h;simp only [Us,List.mem_cons,forall_eq_or_imp] at h;obtain ⟨e,n,l,o⟩:=ih (a+1) h.2;have key:∃ v,vs[a]? =some v/\VR g m S ((ww ty (k::ks) xs a).headD .dead) v:=by
   rw [yL];cases ty with
   |true=>
    obtain ⟨v,d,c⟩:=tu i a (getD_some (CW h.1));exact ⟨v,d,afo c h.1⟩
   |false=>
    obtain ⟨v,d,c⟩:=tu i a (getD_some (CW h.1));exact ⟨v,d,c⟩
  obtain ⟨v,d,c⟩:=key;rw [yL] at c;refine ⟨v::e,by simp [n], ?_, ?_⟩
  .intro j u f;cases j with
   |zero=>simp at f;subst f;simpa using d
   |succ j=>simp at f;rw [show a+(j+1)=a+1+j from by omega];exact l j u f
  .simp only [yL,bC];exact ⟨c,o⟩
theorem FX {P:Program} {w:World} {t:Nat} {l:TI} {i:TypeInfo} {d:TypeDesc} {z:Value} (f:DX P t l i d z) {g:dO} {m:bg} {S:aY} {n:List AV} {e:List Value} {k a:Nat}
  (hl:e.length=l.lks.length) (hu:∀ j u,e[j]? =some u->w.cell? ⟨k,a+j,none⟩=some u) (hr:bC g m S n e) {v:AV} (hv:sN l n=some v):
  ∃ cv,(loadVar t ⟨k,a,none⟩).run P w= .ok cv w/\VR g m S v cv:=by
 unfold sN at hv;rw [f.d_eq,Hg] at hv;split at hv
 .rename_i b;cases hv;refine ⟨.agg e.toArray,run_loadVar_mid w k a t e d hu f.und b (by simp [f.info,hl,f.lks]), ?_⟩;simp only [VR];exact ⟨e,rfl,hr⟩
 .rename_i b;split at hv
  .rename_i c;cases hv;cases e with
   |nil=>simp [bC] at hr
   | cons u r=>
    simp only [bC] at hr;refine ⟨u, ?_,hr.1⟩;have h:(isAgg t).run P w= .ok false w:=by
     unfold isAgg;rw [Sem.run_bind,run_underlying f.und w];cases d<;>simp_all [TypeDesc.isRow]
    have o:=hu 0 u rfl;simp only [Xq1] at o;simp [loadVar,h,o]
  .cases hv
theorem bind_some {α β:Type} {x:Option α} {f:α->Option β} {b:β} (h:x.bind f=some b):∃ a,x=some a/\f a=some b:=by
 cases x with
 |none=>simp at h
 |some a=>exact ⟨a,rfl,h⟩
theorem aV {v b:AV} {bs a:List Bool} {ups:List (Nat × bu)} (h:bF v bs=some (b,ups,a)):b=v/\ups= []/\a=bs:=by
 unfold bF at h;cases h;exact ⟨rfl,rfl,rfl⟩
section
variable {P:Program} {ap:AP} {g:dO} {m:bg} {S:aY} {w:World}
theorem Dc (L:bZ ap g m S w) {rd:dO} (J:∀ b B,rd b=some B->g b=some B) {t:Nat} {x:TI} {i:TypeInfo} {d:TypeDesc} {z:Value} (K:DX P t x i d z)
  {p v:AV} {cp:Value} (hp:VR g m S p cp) {ups:List (Nat × bu)} {bs:List Bool} (h:NK x rd p=some (v,ups,bs)) (hbs:∀ b ∈ bs,b=true):
  ups= []/\∃ cv,(Instr.loadAt t cp).run P w= .ok cv w/\VR g m S v cv:=by
 unfold NK at h;split at h
 .rename_i xs f;obtain ⟨Q,l,h⟩:=bind_some h;obtain ⟨rfl,rfl,rfl⟩:=aV h;simp only [VR,PR] at hp;obtain ⟨b,o,vs,rfl,hp,hs⟩:=hp;obtain ⟨O,H,A,E⟩:=qM (g:=g) (m:=m) true (cO _ hp) x.lks f hbs;obtain ⟨cv,C,y⟩:=FX (w:=w) K (k:=b) (a:=o+f) H (λj u I=>by
   have M:=hs (f+j) u (A j u I);have:=L.one M.1 M.2;rw [Xxu];exact this) E l
  exact ⟨rfl,cv,by simpa [Instr.loadAt,Instr.sureAddr] using C,y⟩
 .rename_i b ver f;obtain ⟨B,R,h⟩:=bind_some h;split at h
  .rename_i c;obtain ⟨Q,l,h⟩:=bind_some h;obtain ⟨rfl,rfl,rfl⟩:=aV h;simp only [VR] at hp;obtain ⟨B',r,_,_,q⟩:=hp;have n:=J b B R;rw [n] at r;cases r;simp only [φ,Xqq] at c;have D:B.esz ≠ jf:=λe=>by rw [e] at c;exact absurd c.2 (by decide)
   have q:=q (aP c.1);subst q;obtain ⟨cur,e,vs,rest,F,N,_,G,_⟩:=(L.blk b B n).lies;have F:=F.cells D;obtain ⟨O,H,A,E⟩:=qM _ G x.lks f hbs;obtain ⟨cv,C,y⟩:=FX (w:=w) K (k:=(m b).1) (a:=f) H (λj u I=>by
    have s:=A j u I;rw [uZ F,N,List.getElem?_append_left (List.getElem?_eq_some_iff.1 s).1];exact s) E l
   exact ⟨rfl,cv,by simpa [Instr.loadAt,Instr.sureAddr] using C,y⟩
  .cases h
 .cases h
theorem Gq {p d:AV} {f:Value} (hp:VR g m S p f) {o:Nat} (h:YJ p o=some d):∃ a:Addr,f= .pointer (some a)/\VR g m S d (.pointer (some (a.add o))):=by
 unfold YJ at h;split at h<;>cases h
 .rename_i b ver c;simp only [VR] at hp;obtain ⟨B,r,n,⟨k,l,rfl⟩,q⟩:=hp;refine ⟨_,rfl, ?_⟩;simp only [VR];refine ⟨B,r,n,⟨k,l+o,by rw [Addr.add_mid]⟩,λe=> ?_⟩;have q:=q e;simp only [Value.pointer.injEq,Option.some.injEq,Addr.mk.injEq] at q;obtain ⟨i,j,_⟩:=q;rw [Addr.add_mid,i,j]
 .rename_i xs c;simp only [VR,PR] at hp;obtain ⟨b,k,vs,rfl,hp,hs⟩:=hp;refine ⟨_,rfl, ?_⟩;simp only [VR,PR];exact ⟨b,k,vs,by rw [Addr.add_mid,Xxu],hp,hs⟩
end
end AM
namespace AM
open Go
section
variable {P:Program} {ap:AP} {g:dO} {m:bg} {S:aY} {w:World}
theorem dw {b:Bool} {l:List Bool} (h:∀ x ∈ b::l,x=true):b=true/\∀ x ∈ l,x=true:=⟨h b (by simp),λx a=>h x (by simp [a])⟩
theorem kU {t:Nat} {a:TI} {i:TypeInfo} {d:TypeDesc} {z:Value} (b:DX P t a i d z) (w:World):(Go.sizeOf t).run P w= .ok a.size w:=by
 simp [Go.sizeOf,typeInfo,b.info,b.size]
theorem CZ {x:AV} {b:Value} (a:VR g m S x b) {n:Int} (h:Si x=some n):∃ k,b= .int k n:=by
 cases x<;>simp [Si] at h
 subst h;simp only [VR,PR] at a;exact ⟨_,a⟩
theorem DT {t:Nat} {n:TI} {i:TypeInfo} {d:TypeDesc} {z:Value} (q:DX P t n i d z) {u:List (Nat × Nat × Nat)} (hd:n.d= .struct u) {f o x sz:Nat} (s:u[f]? =some (o,x,sz)) (c:Xjj 0 sz=true)
  {p v:AV} {cp:Value} (hp:VR g m S p cp) (k:YJ p o=some v):∃ cv,(Instr.fieldAt t cp f).run P w= .ok cv w/\VR g m S v cv:=by
 rw [q.d_eq] at hd;obtain ⟨fields,rfl,rfl⟩:=xw hd;simp only [Xq5,Xqs] at s;obtain ⟨l,e,r⟩:=s;simp only [Prod.mk.injEq] at r;obtain ⟨rfl,rfl,hs⟩:=r;obtain ⟨a,rfl,k⟩:=Gq hp k;refine ⟨_, ?_,k⟩;have b:fields[f]? =some l:=by simpa using e
 cases h:P.info? l.type with
 |none=>rw [h] at hs;simp only at hs;subst hs;exact absurd (gX c) (by omega)
 |some j=>
  rw [h] at hs;have y:j.size ≠ 0:=by have:=gX c;simp only at hs;omega
  simp [Instr.fieldAt,run_underlying q.und,b,Instr.sureAddr,fieldPlace,Go.sizeOf,typeInfo,h,y]
theorem pU {i:Int} {n:Nat} (c:decide (0<=i)=true) (d:decide (i<n)=true):0<=i/\i<n/\i.toNat<n:=by
 have a:=of_decide_eq_true c;have b:=of_decide_eq_true d;omega
theorem Bv (C:jm P ap) {rd:dO} (G:∀ b B,rd b=some B->g b=some B) {t:Nat} {I:TI} {i:TypeInfo} {d:TypeDesc} {z:Value} (u:DX P t I i d z)
  {x ix v:AV} {cx ci:Value} (hx:VR g m S x cx) (hi:VR g m S ix ci) {ups:List (Nat × bu)} {bs:List Bool} (h:yD ap I rd x ix=some (v,ups,bs)) (hbs:∀ b ∈ bs,b=true):
  ups= []/\∃ cv,(Instr.indexAt t cx ci).run P w= .ok cv w/\VR g m S v cv:=by
 unfold yD at h;have l:=bind_some h;clear h;obtain ⟨n,U,h⟩:=l;obtain ⟨k,rfl⟩:=CZ hi U;split at h
 .rename_i e hd;have l:=bind_some h;clear h;obtain ⟨E,c,h⟩:=l;obtain ⟨L,O,Q,c⟩:=eP C c;rw [u.d_eq] at hd;have hd:=iG hd;subst hd;split at h
  .rename_i xs len nn;obtain ⟨rfl,rfl,rfl⟩:=aV h;obtain ⟨s,f⟩:=dw hbs;obtain ⟨f,_⟩:=dw f;obtain ⟨r,y,H⟩:=pU s f;simp only [VR,PR] at hx;obtain ⟨a,R,rfl,M,q⟩:=hx;rcases q with ⟨_,_,q,_⟩|⟨b,o,vs,rfl,hp,hs⟩
   .subst q;omega
   .refine ⟨rfl,.pointer (some ⟨b,o+n.toNat*E.size,none⟩), ?_, ?_⟩
    .simp [Instr.indexAt,asIntOf,run_underlying u.und,r,y,kU c,Addr.add_mid]
    .simp only [VR,PR];exact ⟨b,o,vs,rfl,hp,hs⟩
  .rename_i b ver j len;have l:=bind_some h;clear h;obtain ⟨B,V,h⟩:=l;split at h
   .rename_i D;simp only [φ] at D;obtain ⟨rfl,rfl,rfl⟩:=aV h;obtain ⟨s,f⟩:=dw hbs;obtain ⟨f,_⟩:=dw f;obtain ⟨r,y,H⟩:=pU s f;simp only [VR] at hx;obtain ⟨B',A,K,_,q⟩:=hx;have J:=G b B V;rw [J] at A;cases A;obtain ⟨o,rfl,W,N,X⟩:=q (aP D.1);have T:=N (by omega);have F:=aP D.2;refine ⟨rfl,.pointer (some ⟨(m b).1,(j+n.toNat)*E.size,none⟩), ?_, ?_⟩
    .rw [T,F];simp [Instr.indexAt,asIntOf,run_underlying u.und,r,y,kU c,Addr.add_mid,Xxt]
    .simp only [VR];exact ⟨B,J,by have:=aP D.1;omega,⟨_,_,rfl⟩,λ_=>trivial⟩
   .cases h
  .cases h
 .rename_i len e hd;have l:=bind_some h;clear h;obtain ⟨E,c,h⟩:=l;obtain ⟨L,O,Q,c⟩:=eP C c;have l:=bind_some h;clear h;obtain ⟨p,hp,h⟩:=l;obtain ⟨rfl,rfl,rfl⟩:=aV h;rw [u.d_eq] at hd;have hd:=Aw hd;subst hd;obtain ⟨s,f⟩:=dw hbs;obtain ⟨f,_⟩:=dw f;obtain ⟨r,y,H⟩:=pU s f;obtain ⟨a,rfl,K⟩:=Gq hx hp;refine ⟨rfl,_, ?_,K⟩;simp [Instr.indexAt,asIntOf,run_underlying u.und,r,y,kU c,Instr.sureAddr]
 .cases h
theorem Gv {t:Nat} {h:TI} {i:TypeInfo} {d:TypeDesc} {z:Value} (k:DX P t h i d z) {vs b:List Value} {n:List AV} {e:Nat}
  (hl:b.length=h.lks.length) (hu:∀ j u,b[j]? =some u->vs[e+j]? =some u) (hr:bC g m S n b) {v:AV} (hv:sN h n=some v):
  ∃ cv,(part t vs.toArray e).run P w= .ok cv w/\VR g m S v cv:=by
 have f:(isAgg t).run P w= .ok d.isRow w:=by
  unfold isAgg;rw [Sem.run_bind,run_underlying k.und w];cases d<;>simp [TypeDesc.isRow]
 unfold sN at hv;rw [k.d_eq,Hg] at hv;split at hv
 .rename_i a;cases hv;have q:(vs.drop e).take h.size=b:=by
   apply List.ext_getElem?;intro j;rw [Xj7,Xzj];have s:h.size=b.length:=by rw [hl,k.lks,k.size]
   split
   .rename_i p;have l:j<b.length:=by omega
    have:=hu j b[j] (π l);rw [this,π l]
   .rename_i p;rw [List.getElem?_eq_none (by omega)]
  refine ⟨.agg b.toArray, ?_, ?_⟩
  .simp [part,f,a,kU k,q]
  .simp only [VR];exact ⟨b,rfl,hr⟩
 .rename_i a;split at hv
  .rename_i c;cases hv;cases b with
   |nil=>simp [bC] at hr
   |cons u r=>
    simp only [bC] at hr;refine ⟨u, ?_,hr.1⟩;have o:=hu 0 u rfl;simp only [Xq1] at o;have a:d.isRow=false:=by simpa using a
    simp [part,f,a,o]
  .cases hv
theorem Ko (n:jm P ap) {t:Nat} {q:TI} {i:TypeInfo} {d:TypeDesc} {z:Value} (r:DX P t q i d z) {x v:AV} {y:Value} (j:VR g m S x y) {f:Nat} {ups:List (Nat × bu)} {bs:List Bool}
  (h:P7 ap q x f=some (v,ups,bs)) (hbs:∀ b ∈ bs,b=true):ups= []/\∃ cv,(Instr.field t y f).run P w= .ok cv w/\VR g m S v cv:=by
 unfold P7 at h;split at h
 .rename_i M L hd;have e:=bind_some h;clear h;obtain ⟨⟨o,G,sz⟩,u,h⟩:=e;have e:=bind_some h;clear h;obtain ⟨tf,a,h⟩:=e;have e:=bind_some h;clear h;obtain ⟨K,l,h⟩:=e;obtain ⟨rfl,rfl,rfl⟩:=aV h;obtain ⟨F,H,J,a⟩:=eP n a;rw [r.d_eq] at hd;obtain ⟨fields,rfl,rfl⟩:=xw hd;simp only [Xq5,Xqs] at u;obtain ⟨p,k,s⟩:=u;simp only [Prod.mk.injEq] at s;obtain ⟨rfl,rfl,hs⟩:=s;simp only [VR] at j;obtain ⟨vs,rfl,j⟩:=j;obtain ⟨I,E,B,D⟩:=qM false j tf.lks p.offset hbs;obtain ⟨cv,C,A⟩:=Gv (w:=w) a E B D l;have c:fields[f]? =some p:=by simpa using k
  refine ⟨rfl,cv, ?_,A⟩;simp [Instr.field,run_underlying r.und,c,asAgg,C]
 .cases h
theorem XY (s:List UInt8) (i:Nat) (h:i<s.length):(⟨s.toArray⟩:ByteArray)[i]? =some (s.getD i 0):=by
 have hs:i<(⟨s.toArray⟩:ByteArray).size:=by simpa [ByteArray.size] using h
 rw [getElem?_pos _ i hs];simp only [ByteArray.getElem_eq_getElem_data,List.getElem_toArray];rw [ξ,π h];rfl
theorem Ky (y:jm P ap) {t:Nat} {C:TI} {i:TypeInfo} {d:TypeDesc} {z:Value} (l:DX P t C i d z) {x F v:AV} {E ci:Value} (f:VR g m S x E) (K:VR g m S F ci) {ups:List (Nat × bu)} {bs:List Bool}
  (h:Qa ap C x F=some (v,ups,bs)) (hbs:∀ b ∈ bs,b=true):ups= []/\∃ cv,(Instr.index t E ci).run P w= .ok cv w/\VR g m S v cv:=by
 unfold Qa at h;have j:=bind_some h;clear h;obtain ⟨n,L,h⟩:=j;obtain ⟨k,rfl⟩:=CZ K L;split at h
 .rename_i s hd;obtain ⟨rfl,rfl,rfl⟩:=aV h;obtain ⟨p,c⟩:=dw hbs;obtain ⟨c,_⟩:=dw c;obtain ⟨o,D,A⟩:=pU p c;rw [l.d_eq] at hd;have hd:=yX hd;subst hd;simp only [VR,PR] at f;subst f;refine ⟨rfl,.int .u8 (s.getD n.toNat 0).toNat, ?_,by simp only [VR,PR]⟩;simp [Instr.index,asIntOf,run_underlying l.und,o,XY s n.toNat A]
 .rename_i len e T hd;have j:=bind_some h;clear h;obtain ⟨B,a,h⟩:=j;have j:=bind_some h;clear h;obtain ⟨R,q,h⟩:=j;obtain ⟨rfl,rfl,rfl⟩:=aV h;obtain ⟨M,N,Q,a⟩:=eP y a;obtain ⟨p,c⟩:=dw hbs;obtain ⟨c,I⟩:=dw c;obtain ⟨o,D,A⟩:=pU p c;rw [l.d_eq] at hd;have hd:=Aw hd;subst hd;simp only [VR] at f;obtain ⟨vs,rfl,f⟩:=f;obtain ⟨O,J,G,H⟩:=qM true f B.lks (n.toNat*B.size) I;obtain ⟨cv,u,r⟩:=Gv (w:=w) a J G H q;refine ⟨rfl,cv, ?_,r⟩;simp [Instr.index,asIntOf,run_underlying l.und,o,D,kU a,u]
 .cases h
end
end AM
namespace AM
open Go
section
variable {P:Program} {ap:AP} {g:dO} {m:bg} {S:aY} {w:World}
def Et (g:dO) (m:bg) (S:aY) (x:Option AV) (c:Option Value):Prop:=
 match x,c with
 |none,none=>True
 |some x,some c=>VR g m S x c
 |_,_=>False
theorem iD {x:Option AV} {c:Option Value} (h:Et g m S x c) {d n:Int} (a:pV x d=some n):(x=none/\c=none/\n=d)\/∃ k,c=some (.int k n):=by
 cases x with
 |none=>cases c with
  |none=>simp [pV] at a;exact .inl ⟨rfl,rfl,a.symm⟩
  |some c=>simp [Et] at h
 | some x=>cases c with
  |none=>simp [Et] at h
  |some c=>
   cases x<;>simp [pV] at a
   subst a;simp only [Et,VR,PR] at h;subst h;exact .inr ⟨_,rfl⟩
theorem uA (P:Program) (w:World) (d:Bool) (len a:Nat) (b c:Option Value) (l h:Int)
  (hl:(b=none/\l=0)\/∃ k,b=some (.int k l)) (i:(c=none/\h=len)\/∃ k,c=some (.int k h)) (h0:0<=l) (h1:l<=h) (h2:h<=a):
  (Instr.sliceBounds d len a b c none).run P w= .ok (l.toNat,h.toNat,a) w:=by
 have f:0<=h:=by omega
 rcases hl with ⟨rfl,rfl⟩|⟨k,rfl⟩<;>rcases i with ⟨rfl,rfl⟩|⟨j,rfl⟩
 .simp [Instr.sliceBounds]
 .simp [Instr.sliceBounds,Instr.sliceBound,asIntOf,h2,f]
 .have e:l<=(len:Int):=h1;simp [Instr.sliceBounds,Instr.sliceBound,asIntOf,h0,e]
 .simp [Instr.sliceBounds,Instr.sliceBound,asIntOf,h0,h2,f];intro n;omega
theorem Np (s:List UInt8) (l h:Nat):(⟨s.toArray⟩:ByteArray).extract l h=⟨((s.take h).drop l).toArray⟩:=by
 apply ByteArray.ext;rw [ByteArray.data_extract];apply Array.ext';simp [List.extract_eq_take_drop,List.drop_take]
theorem Au (s:List UInt8):(⟨s.toArray⟩:ByteArray).size=s.length:=by simp [ByteArray.size]
theorem lh.drop {b o:Nat} {vs:List Value} (h:lh S b o vs) (n:Nat):lh S b (o+n) (vs.drop n):=by
 intro j u a;rw [Xzj] at a;rw [Xxu];exact h _ _ a
theorem lh.take {b o:Nat} {vs:List Value} (h:lh S b o vs) (n:Nat):lh S b o (vs.take n):=by
 intro j u a;rw [Xj7] at a;split at a
 .exact h _ _ a
 .cases a
theorem afu {a b c:Bool} (h:∀ x ∈ [a,b,c],x=true):a=true/\b=true/\c=true:=⟨h a (by simp),h b (by simp),h c (by simp)⟩
theorem Ir {α:Type} (xs:List α) (n:Nat):(xs.take n).drop n= []:=by
 apply Xzx;simp;omega
theorem LG (H:jm P ap) {rd:dO} (L:∀ b B,rd b=some B->g b=some B) {t:Nat} {O:TI} {i:TypeInfo} {d:TypeDesc} {z:Value} (E:DX P t O i d z)
  {x v:AV} {cx:Value} (hx:VR g m S x cx) {lo hi mx:Option AV} {clo chi cmx:Option Value} (hlo:Et g m S lo clo) (hhi:Et g m S hi chi) (hmx:Et g m S mx cmx)
  {ups:List (Nat × bu)} {bs:List Bool} (h:QK ap O rd x lo hi mx=some (v,ups,bs)) (hbs:∀ b ∈ bs,b=true):
  ups= []/\∃ cv,(Instr.sliceAt t cx clo chi cmx).run P w= .ok cv w/\VR g m S v cv:=by
 have k:mx=none->cmx=none:=by intro e;subst e;cases cmx<;>simp [Et] at hmx ⊢
 unfold QK at h;split at h
 .rename_i s hd;have f:=bind_some h;clear h;obtain ⟨l,G,h⟩:=f;have f:=bind_some h;clear h;obtain ⟨u,F,h⟩:=f;obtain ⟨rfl,rfl,rfl⟩:=aV h;obtain ⟨p,r,A⟩:=afu hbs;have p:=of_decide_eq_true p;have r:=of_decide_eq_true r;have A:=of_decide_eq_true A;rw [E.d_eq] at hd;have hd:=yX hd;subst hd;simp only [VR,PR] at hx;subst hx;rw [k rfl];have D:=uA P w false s.length s.length clo chi l u ((iD hlo G).imp (λh=> ⟨h.2.1,h.2.2⟩) id) ((iD hhi F).imp (λh=> ⟨h.2.1,h.2.2⟩) id) p r A;refine ⟨rfl,.string ⟨((s.take u.toNat).drop l.toNat).toArray⟩, ?_,by simp only [VR,PR]⟩;rw [<- Np];simp [Instr.sliceAt,Instr.slice,run_underlying E.und,Au,D]
 .rename_i e xs n nn hd;have f:=bind_some h;clear h;obtain ⟨y,c,h⟩:=f;have f:=bind_some h;clear h;obtain ⟨l,G,h⟩:=f;have f:=bind_some h;clear h;obtain ⟨u,F,h⟩:=f;obtain ⟨rfl,rfl,rfl⟩:=aV h;obtain ⟨N,R,T,c⟩:=eP H c;obtain ⟨p,r,A⟩:=afu hbs;have p:=of_decide_eq_true p;have r:=of_decide_eq_true r;have A:=of_decide_eq_true A;rw [E.d_eq] at hd;have hd:=iG hd;subst hd;simp only [VR,PR] at hx;obtain ⟨a,C,rfl,V,q⟩:=hx;rw [k rfl];have D:=uA P w true n C clo chi l u ((iD hlo G).imp (λh=> ⟨h.2.1,h.2.2⟩) id) ((iD hhi F).imp (λh=> ⟨h.2.1,h.2.2⟩) id) p r (by omega);refine ⟨rfl,.slice (if C=l.toNat then a else a.map (·.add (l.toNat*y.size))) (u.toNat - l.toNat) (C - l.toNat), ?_, ?_⟩
  .simp [Instr.sliceAt,Instr.slice,run_underlying E.und,D,kU c]
  .simp only [VR,PR];refine ⟨_,_,rfl,by omega, ?_⟩;rcases q with ⟨M,rfl,rfl,rfl⟩|⟨b,o,vs,rfl,hp,hs⟩
   .refine .inl ⟨λh=>M ?_,by simp,by omega,by omega⟩;split at h
    .exact h
    .simpa using h
   .refine .inr ?_;by_cases I:C=l.toNat
    .refine ⟨b,o,[],by rw [if_pos I], ?_,λj u h=>by simp at h⟩;have e:(xs.take (u.toNat*y.size)).drop (l.toNat*y.size)= []:=by
      have:u.toNat=l.toNat:=by omega
      rw [this,Ir]
     rw [e];simp [eY]
    .exact ⟨b,o+l.toNat*y.size,(vs.take (u.toNat*y.size)).drop (l.toNat*y.size),by rw [if_neg I];simp [Addr.add_mid],rH _ (lg _ hp),(hs.take _).drop _⟩
 .rename_i e b ver j n hd;have f:=bind_some h;clear h;obtain ⟨y,c,h⟩:=f;have f:=bind_some h;clear h;obtain ⟨B,Y,h⟩:=f;have f:=bind_some h;clear h;obtain ⟨l,G,h⟩:=f;have f:=bind_some h;clear h;obtain ⟨u,F,h⟩:=f;split at h
  .rename_i I;simp only [φ] at I;obtain ⟨rfl,rfl,rfl⟩:=aV h;obtain ⟨N,R,T,c⟩:=eP H c;obtain ⟨p,r,A⟩:=afu hbs;have p:=of_decide_eq_true p;have r:=of_decide_eq_true r;have A:=of_decide_eq_true A;rw [E.d_eq] at hd;have hd:=iG hd;subst hd;simp only [VR] at hx;obtain ⟨B',J,X,_,q⟩:=hx;have Q:=L b B Y;rw [Q] at J;cases J;obtain ⟨o,rfl,M,W,U⟩:=q (aP I.1);have K:=aP I.2;rw [k rfl];have D:=uA P w true n ((m b).2 - j) clo chi l u ((iD hlo G).imp (λh=> ⟨h.2.1,h.2.2⟩) id) ((iD hhi F).imp (λh=> ⟨h.2.1,h.2.2⟩) id) p r (by omega);refine ⟨rfl,.slice (if (m b).2 - j=l.toNat then some ⟨(m b).1,o,none⟩ else some ⟨(m b).1,o+l.toNat*y.size,none⟩) (u.toNat - l.toNat) ((m b).2 - j - l.toNat), ?_, ?_⟩
   .simp [Instr.sliceAt,Instr.slice,run_underlying E.und,D,kU c,Addr.add_mid]
   .simp only [VR];refine ⟨B,Q,X,(by split<;>exact ⟨_,_,_,rfl⟩),λ_=> ?_⟩;by_cases hcl:(m b).2 - j=l.toNat
    .exact ⟨o,by rw [if_pos hcl];congr 1;omega,by omega,λh=>by omega,U⟩
    .refine ⟨o+l.toNat*y.size,by rw [if_neg hcl];congr 1;omega,by omega,λh=> ?_,U⟩;rw [W (by omega),K,Xxt]
  .cases h
 .rename_i e hd;have f:=bind_some h;clear h;obtain ⟨y,c,h⟩:=f;have f:=bind_some h;clear h;obtain ⟨l,G,h⟩:=f;have f:=bind_some h;clear h;obtain ⟨u,F,h⟩:=f;obtain ⟨rfl,rfl,rfl⟩:=aV h;obtain ⟨N,R,T,c⟩:=eP H c;have p:=of_decide_eq_true (hbs (decide (l=0)) (by simp));have r:=of_decide_eq_true (hbs (decide (u=0)) (by simp));subst p;subst r;rw [E.d_eq] at hd;have hd:=iG hd;subst hd;simp only [VR,PR] at hx;subst hx;rw [k rfl];have D:=uA P w true 0 0 clo chi 0 0 ((iD hlo G).imp (λh=> ⟨h.2.1,h.2.2⟩) id) ((iD hhi F).imp (λh=> ⟨h.2.1,h.2.2⟩) id) (by omega) (by omega) (by omega);refine ⟨rfl,.slice none 0 0, ?_,by simp only [VR,PR]⟩;simp at D;simp [Instr.sliceAt,Instr.slice,run_underlying E.und,D,kU c]
 .cases h
theorem Qe {x v:AV} {l:Value} (c:VR g m S x l) {t:Nat} {o:TI} {i:TypeInfo} {d:TypeDesc} {z:Value} (f:DX P t o i d z)
  {ups:List (Nat × bu)} {bs:List Bool} (h:Yf o.d x=some (v,ups,bs)) (ats:Array TypeId) (hat:ats[0]? =some t) (args:Array Value) (ha:args[0]? =some l) (ty:Nat):
  ups= []/\∃ cv,(Builtin.len_ ats ty args).run P w= .ok cv w/\VR g m S v cv:=by
 unfold Yf at h;rw [f.d_eq] at h;split at h
 .rename_i n e hd;obtain ⟨rfl,rfl,rfl⟩:=aV h;have hd:=Aw hd;subst hd;exact ⟨rfl,.int .i64 n,by simp [Builtin.len_,hat,ha,run_underlying f.und,goInt],by simp only [VR,PR]⟩
 .rename_i s hd;obtain ⟨rfl,rfl,rfl⟩:=aV h;have hd:=yX hd;subst hd;simp only [VR,PR] at c;subst c;exact ⟨rfl,.int .i64 s.length,by simp [Builtin.len_,hat,ha,run_underlying f.und,goInt,Au],by simp only [VR,PR]⟩
 .rename_i e xs n nn hd;obtain ⟨rfl,rfl,rfl⟩:=aV h;have hd:=iG hd;subst hd;simp only [VR,PR] at c;obtain ⟨a,k,rfl,_⟩:=c;exact ⟨rfl,.int .i64 n,by simp [Builtin.len_,hat,ha,run_underlying f.und,goInt],by simp only [VR,PR]⟩
 .rename_i e b ver j n hd;obtain ⟨rfl,rfl,rfl⟩:=aV h;have hd:=iG hd;subst hd;simp only [VR] at c;obtain ⟨_,_,_,⟨_,_,k,rfl⟩,_⟩:=c;exact ⟨rfl,.int .i64 n,by simp [Builtin.len_,hat,ha,run_underlying f.und,goInt],by simp only [VR,PR]⟩
 .rename_i e hd;obtain ⟨rfl,rfl,rfl⟩:=aV h;have hd:=iG hd;subst hd;simp only [VR,PR] at c;subst c;exact ⟨rfl,.int .i64 0,by simp [Builtin.len_,hat,ha,run_underlying f.und,goInt],by simp only [VR,PR]⟩
 .cases h
theorem yY (s:List UInt8):(⟨s.toArray⟩:ByteArray).toList=s:=by rw [ByteArray.toList_eq]
theorem zC:∀ a b:List UInt8,Op.bytesLess a b=iR a b
 |_,[]=>by simp [Op.bytesLess,iR]
 | [],_::_=>by simp [Op.bytesLess,iR]
 |a::x,b::y=>by simp only [Op.bytesLess,iR,zC x y]
def uI:LK->Value->Value->Option Bool
 | .int k,.int k1 a,.int k2 b=>match jh k k1 && jh k k2 with|true=>some (a==b)|false=>none
 | .bool,.bool a,.bool b=>some (a==b)
 | .str,.string a,.string b=>some (a.toList==b.toList)
 |_,_,_=>none
def dZ:List LK->List Value->List Value->Option Bool
 | [],[],[]=>some true
 |k::ks,a::as,b::bs=>(uI k a b).bind λc=>(dZ ks as bs).map λd=>c && d
 |_,_,_=>none
theorem tZ:∀ (l e:List LK) (xs f:List Value) (r:Bool),dZ (l++e) xs f=some r->
  ∃ a b,dZ l (xs.take l.length) (f.take l.length)=some a/\dZ e (xs.drop l.length) (f.drop l.length)=some b/\r=(a && b)
 | [],e,xs,f,r,h=> ⟨true,r,by simp [dZ],by simpa using h,by simp⟩
 |k::l,e,[],_,r,h=>by simp [dZ] at h
 |k::l,e,_::_,[],r,h=>by simp [dZ] at h
 |k::l,e,x::xs,y::f,r,h=>by
  simp only [Xxf,dZ] at h;obtain ⟨c,n,h⟩:=bind_some h;rw [Xqs] at h;obtain ⟨d,hd,rfl⟩:=h;obtain ⟨a,b,j,i,rfl⟩:=tZ l e xs f d hd;exact ⟨c && a,b,by simp [dZ,n,j],by simpa using i,by simp [Bool.and_assoc]⟩
theorem qW:∀ (l:List LK) (xs a:List Value) (r:Bool),dZ l xs a=some r->xs.length=l.length/\a.length=l.length
 | [],[],[],_,_=> ⟨rfl,rfl⟩
 |k::l,x::xs,y::a,r,h=>by
  simp only [dZ] at h;obtain ⟨c,_,h⟩:=bind_some h;rw [Xqs] at h;obtain ⟨d,hd,_⟩:=h;have:=qW l xs a d hd;simp [this.1,this.2]
 | [],_::_,_,_,h=>by simp [dZ] at h
 | [],[],_::_,_,h=>by simp [dZ] at h
 |_::_,[],_,_,h=>by simp [dZ] at h
 |_::_,_::_,[],_,h=>by simp [dZ] at h
def wJ (P:Program) (t:TypeId) (xs:List Value):Value:=match P.underlying t with
 |some (.struct _)=> .agg xs.toArray
 |_=>xs.headD undef
def zg (P:Program) (n:Nat) (t:TypeId) (lks:List LK):Prop:=
 ∀ (d:Nat) (w:World) (xs ys:List Value) (r:Bool),n<=d->dZ lks xs ys=some r->(Op.equalIn d t (wJ P t xs) (wJ P t ys)).run P w= .ok r w
theorem wB {t:TypeId} {lks:List LK} {n:Nat} (f:jZ P n t=some lks) {i:TypeInfo} (l:P.info? t=some i) (hs:i.size=lks.length) (xs:List Value) (a:Nat) (h:a+lks.length<=xs.length) (w:World):
  (part t xs.toArray a).run P w= .ok (wJ P t ((xs.drop a).take lks.length)) w:=by
 cases n with
 |zero=>simp [jZ] at f
 | succ n=>
  unfold jZ at f;cases c:P.underlying t with
  |none=>simp [c] at f
  | some d=>
   have b:(isAgg t).run P w= .ok d.isRow w:=by
    unfold isAgg;rw [Sem.run_bind,run_underlying c w];cases d<;>simp [TypeDesc.isRow]
   cases d<;>simp only [c] at f<;>try cases f
   case struct fs=>
    simp only [TypeDesc.isRow] at b;simp [part,b,Go.sizeOf,typeInfo,l,hs,wJ,c]
   all_goals
    simp only [TypeDesc.isRow] at b;simp only [ν,Xqf,Ψ] at h;have k:xs[a]? =some (xs[a]'(by omega)):=π (by omega);simp only [part,Sem.run_bind,b,Result.andThen_ok,Bool.false_eq_true,if_false,wJ,c];have e:((xs.drop a).take [LK.str].length).headD undef=xs[a]'(by omega):=by
     rw [Xwi,List.head?_take,Xki,k];simp
    have j:(xs.toArray)[a]? =some (xs[a]'(by omega)):=by simp
    rw [j]
    first|exact congrArg (λv=>Result.ok v w) e.symm|(simp only [ν,Xqf] at e ⊢;exact congrArg (λv=>Result.ok v w) e.symm)
theorem uJ {n:Nat} (s:∀ t lks,jZ P n t=some lks->zg P n t lks):∀ (fs:List Field) (off:Nat) (lks:List LK),zI P (jZ P n) fs off=some lks->
  ∀ (d:Nat) (w:World) (xs ys:List Value) (r:Bool),n<=d->xs.length=off+lks.length->ys.length=off+lks.length->dZ lks (xs.drop off) (ys.drop off)=some r->
   (Op.eqFields d xs.toArray ys.toArray fs).run P w= .ok r w
 | [],off,lks,hc,d,w,xs,ys,r,hd,hx,hy,h=>by
  simp [zI] at hc;subst hc;have C:xs.drop off= []:=Xzx (by simp at hx;omega);have A:ys.drop off= []:=Xzx (by simp at hy;omega);rw [C,A] at h;simp [dZ] at h;subst h;simp [Op.eqFields]
 | f ::fs,off,lks,hc,d,w,xs,ys,r,hd,hx,hy,h=>by
  simp only [zI] at hc;cases j:jZ P n f.type with
  |none=>simp [j] at hc
  | some l=>
   simp only [j] at hc;split at hc
   .rename_i hcond;simp only [φ,Xqq] at hcond;obtain ⟨⟨u,p⟩,c⟩:=hcond;cases q:zI P (jZ P n) fs (off+l.length) with
    |none=>simp [q] at hc
    | some l'=>
     simp only [q] at hc;cases hc;cases k:P.info? f.type with
     |none=>simp [k] at c
     |some i=>
      simp only [k] at c;have c:=aP c;have p:=aP p;have o:f.name ≠ "_" :=by intro e;rw [e] at u;exact absurd u (by decide)
      simp only [List.length_append] at hx hy;obtain ⟨a,b,x,v,rfl⟩:=tZ l l' _ _ r h;have y:=wB j k c xs off (by omega) w;have z:=wB j k c ys off (by omega) w;have B:=s f.type l j d w _ _ a hd x;have D:=uJ s fs (off+l.length) l' q d w xs ys b hd (by omega) (by omega) (by simpa [List.drop_drop,Nat.add_comm] using v);simp only [Op.eqFields,o,ne_eq,not_false_eq_true,if_true,Sem.run_bind,p,y,z,B,Result.andThen_ok];cases a
      .simp
      .simpa using D
   .cases hc
theorem ET : ∀ (n:Nat) (t:TypeId) (lks:List LK),jZ P n t=some lks->zg P n t lks
  |0,_,_,h=>by simp [jZ] at h
  | n + 1,t,lks,h=>by
    intro d w xs l r hd b;obtain ⟨d,rfl⟩:∃ k,d=k+1:=⟨d - 1,by omega⟩
    have j:=qW _ _ _ _ b;unfold jZ at h;cases a:P.underlying t with
    |none=>simp [a] at h
    | some ds=>
      cases ds<;>simp only [a] at h<;>try cases h
      case struct fs=>
        split at h
        · cases h
        · rename_i o;have i:P.fieldsOf t=fs:=by simp [Program.fieldsOf,a]
          have e:=run_equalIn_struct (P:=P) w d t xs.toArray l.toArray (by rw [i];exact a) o;simp only [wJ,a];rw [e,i];exact uJ (ET n) fs.toList 0 lks h d w xs l r (by omega) (by simp [j.1]) (by simp [j.2]) (by simpa using b)
      all_goals
        simp only [ν,Xqf,Ψ] at j
        match xs,l,j,b with
        | [x], [y],_,b=>
          simp only [dZ,Option.map_some,Bool.and_true] at b;obtain ⟨c,f,b⟩:=bind_some b;cases b;simp only [wJ,a,List.headD_cons];cases x<;>cases y<;>simp [uI] at f
          first
            | (split at f
               · rename_i p;simp only [φ] at p;obtain rfl:=gU p.1;obtain rfl:=gU p.2;cases f;exact run_equalIn_int (P:=P) w d t _ _ _ _ a
               · cases f)
            |(subst f;rw [run_equalIn_bool' (P:=P) w d t _ _ a])
            |(subst f;rw [run_equalIn_string (P:=P) w d t _ _ a])
end
end AM
namespace AM
open Go
section
variable {P:Program} {ap:AP} {g:dO} {m:bg} {S:aY} {w:World}
theorem ai2 {d:TypeDesc} (h:kM P (some d)= .ptr):∃ e,d= .pointer e:=by cases d<;>simp [kM] at h;exact ⟨_,rfl⟩
theorem aeg {d:TypeDesc} (h:kM P (some d)= .func):∃ a b c,d= .func a b c:=by cases d<;>simp [kM] at h;exact ⟨_,_,_,rfl⟩
theorem ZP {d:TypeDesc} (h:kM P (some d)= .iface):∃ e,d= .interface e:=by cases d<;>simp [kM] at h;exact ⟨_,rfl⟩
theorem ab3 {a b:LK} (h:ahf a b=true):a=b:=by
 cases a<;>cases b<;>simp [ahf] at h
 .rw [gU h]
 .rfl
 .rfl
theorem FW:∀ {a b:List LK},Ji a b=true->a=b
 | [],[],_=>rfl
 |_::_,_::_,h=>by simp only [Ji,φ] at h;rw [ab3 h.1,FW h.2]
 | [],_::_,h=>by simp [Ji] at h
 |_::_,[],h=>by simp [Ji] at h
theorem PU {k:LK} {a b:AV} {r:Bool} (h:PT k a b=some r) {x y:Value} (d:VR g m S a x) (c:VR g m S b y):uI k x y=some r:=by
 unfold PT at h;split at h
 .simp only [VR,PR] at d c;subst d;subst c;split at h
  .rename_i e;cases h;simp [uI,e]
  .cases h
 .simp only [VR,PR] at d c;subst d;subst c;simpa [uI] using h
 .simp only [VR,PR] at d c;subst d;subst c;simpa [uI,yY] using h
 .cases h
theorem xR:∀ {ks:List LK} {f bs:List AV} {r:Bool} {xs e:List Value},lC ks f bs=some r->bC g m S f xs->bC g m S bs e->dZ ks xs e=some r
 | [],[],[],r,xs,e,h,ha,hb=>by
  cases xs<;>cases e<;>simp [bC] at ha hb
  simpa [lC,dZ] using h
 |k::ks,a::f,b::bs,r,x::xs,y::e,h,ha,hb=>by
  simp only [lC] at h;obtain ⟨c,i,h⟩:=bind_some h;rw [Xqs] at h;obtain ⟨d,hd,rfl⟩:=h;simp only [bC] at ha hb;simp [dZ,PU i ha.1 hb.1,xR hd ha.2 hb.2]
 | [],_::_,_,_,_,_,h,_,_=>by simp [lC] at h
 | [],[],_::_,_,_,_,h,_,_=>by simp [lC] at h
 |_::_,[],_,_,_,_,h,_,_=>by simp [lC] at h
 |_::_,_::_,[],_,_,_,h,_,_=>by simp [lC] at h
 |_::_,_::_,_::_,_,[],_,_,ha,_=>by simp [bC] at ha
 |_::_,_::_,_::_,_,_::_,[],_,_,hb=>by simp [bC] at hb
theorem Az (c:jm P ap) {t:Nat} {b:TI} (h:ap.tyAt t=some b):b.cmp=aaR P t/\b.lks=Jj P 8 t:=by
 have a:=c.ty t b h;unfold ZU at a;split at a
 .split at a
  .cases a;exact ⟨rfl,rfl⟩
  .cases a
 .cases a
theorem kS (c:BinOp) (t:TypeId) (x y:Operand) (a b:Value) (e:¬ (a= .nilIface/\b= .nilIface)) (d:∀ xs ys,¬ (a= .agg xs/\b= .agg ys)):(eqGuard c t x y a b).run P w= .ok () w:=by
 unfold eqGuard;cases c<;>simp only [Sem.run_ite,Sem.run_pure]<;>try (simp;done)
 all_goals
  simp;split
  .exact absurd ⟨rfl,rfl⟩ e
  .exact absurd ⟨rfl,rfl⟩ (d _ _)
  .rfl
def SN (op:BinOp) (r:Bool):Bool:=match op with| .neq=> !r|_=>r
theorem wU {t:Nat} {a b:Value} {r:Bool} {x y:Operand} (e:∀ op,(eqGuard op t x y a b).run P w= .ok () w) (h:∀ d,(Op.equalIn (d+1) t a b).run P w= .ok r w)
  (h1:binOp .eql t a b=(do pure (.bool (<- Op.equal t a b)))) (h2:binOp .neq t a b=(do pure (.bool (!(<- Op.equal t a b))))) {op:BinOp} (hop:op=BinOp.eql\/op=BinOp.neq):
  (do eqGuard op t x y a b;binOp op t a b:Sem Value).run P w= .ok (.bool (SN op r)) w:=by
 have c:(Op.equal t a b).run P w= .ok r w:=h 9999;rcases hop with rfl|rfl
 .rw [Sem.run_bind,e,Result.andThen_ok,h1,Sem.run_bind,c];rfl
 .rw [Sem.run_bind,e,Result.andThen_ok,h2,Sem.run_bind,c];rfl
theorem I8 (A:jm P ap) {t:Nat} {K:TI} (v:ap.tyAt t=some K) {a b:AV} {F E:Value} (s:VR g m S a F) (k:VR g m S b E) {r:Bool} (h:eqA K a b=some r) (O:∀ x ∈ Gl a b,x=true) (x y:Operand):
  ∀ f,f=BinOp.eql\/f=BinOp.neq->(do eqGuard f t x y F E;binOp f t F E:Sem Value).run P w= .ok (.bool (SN f r)) w:=by
 obtain ⟨i,d,z,u⟩:=eP A v;intro f j;unfold eqA at h;split at h
 case h_2 fs xs ys hd=>
  split at h
  .rename_i c;rw [(Az A v).1] at c;rw [(Az A v).2] at h;simp only [VR] at s k;obtain ⟨vs,rfl,s⟩:=s;obtain ⟨M,rfl,k⟩:=k;have N:=xR h s k;unfold aaR at c;cases J:jZ P 8 t with
   |none=>simp [J] at c
   |some l=>
    simp only [J,φ,Xqq] at c;have G:=FW c.1;rw [<- G] at N;have I:=ET 8 t l J 10000 w vs M r (by omega) N;rw [u.d_eq] at hd;obtain ⟨fields,rfl,_⟩:=xw hd;simp only [wJ,u.und] at I;have L:=run_eqGuard_agg (P:=P) w f t x y vs.toArray M.toArray c.2;rcases j with rfl|rfl
    .simp [L,run_eql_struct,I,SN]
    .simp [L,run_neq_struct,I,SN]
  .cases h
 all_goals try (cases h;done)
 all_goals
  rename_i hd;rw [u.d_eq] at hd
  try simp only [VR,PR] at s k
 all_goals cases h
 case h_1=>
  have hd:=aef hd;subst hd;subst s;subst k
  (refine wU (λf=> ?_) (λB=> ?_) rfl rfl j<;>first|exact kS f t x y _ _ (by simp) (by simp)|exact run_equalIn_bool' (P:=P) w B t _ _ u.und)
 all_goals
  first
   |(obtain ⟨e,rfl⟩:=ai2 hd)
   |(obtain ⟨e,rfl⟩:=ZP hd)
   |(obtain ⟨T,Q,R,rfl⟩:=aeg hd)
   |(have hd:=iG hd;subst hd)
 case h_16 xs n nn=>
  subst k;obtain ⟨a,H,rfl,D,q⟩:=s;rcases q with ⟨C,rfl,rfl,rfl⟩|⟨b,o,vs,rfl,_⟩
  .cases a with
   |none=>
    cases C rfl;exact absurd (O _ (by simp [Gl];rfl)) (by decide)
   |some p=>(refine wU (λf=> ?_) (λB=> ?_) rfl rfl j<;>first|exact kS f t x y _ _ (by simp) (by simp)|simp [Op.equalIn,run_underlying u.und])
  ·(refine wU (λf=> ?_) (λB=> ?_) rfl rfl j<;>first|exact kS f t x y _ _ (by simp) (by simp)|simp [Op.equalIn,run_underlying u.und])
 case h_17 xs n nn=>
  subst s;obtain ⟨a,H,rfl,D,q⟩:=k;rcases q with ⟨C,rfl,rfl,rfl⟩|⟨b,o,vs,rfl,_⟩
  .cases a with
   |none=>
    cases C rfl;exact absurd (O _ (by simp [Gl];rfl)) (by decide)
   |some p=>(refine wU (λf=> ?_) (λB=> ?_) rfl rfl j<;>first|exact kS f t x y _ _ (by simp) (by simp)|simp [Op.equalIn,run_underlying u.und])
  ·(refine wU (λf=> ?_) (λB=> ?_) rfl rfl j<;>first|exact kS f t x y _ _ (by simp) (by simp)|simp [Op.equalIn,run_underlying u.und])
 all_goals
  try subst s
  try subst k
  try (obtain ⟨_,_,_,⟨_,_,rfl⟩,_⟩:=s)
  try (obtain ⟨_,_,_,⟨_,_,rfl⟩,_⟩:=k)
  try (obtain ⟨_,_,_,⟨_,_,_,rfl⟩,_⟩:=s)
  try (obtain ⟨_,_,_,⟨_,_,_,rfl⟩,_⟩:=k)
  try (obtain ⟨_,_,_,rfl,_⟩:=s)
  try (obtain ⟨_,_,_,rfl,_⟩:=k)
  try (obtain ⟨_,_,rfl,_⟩:=s)
  try (obtain ⟨_,_,rfl,_⟩:=k)
  try (obtain ⟨_,rfl,_⟩:=s)
  try (obtain ⟨_,rfl,_⟩:=k)
  (refine wU (λf=> ?_) (λB=> ?_) rfl rfl j<;>first|exact kS f t x y _ _ (by simp) (by simp)|simp [Op.equalIn,run_underlying u.und])
end
end AM
namespace AM
open Go
section
variable {P:Program} {ap:AP} {g:dO} {m:bg} {S:aY} {w:World}
theorem Pn (a b:List UInt8):(⟨a.toArray⟩:ByteArray)++⟨b.toArray⟩=⟨(a++b).toArray⟩:=by
 apply ByteArray.ext;rw [ByteArray.data_append];simp
theorem Pz (j:jm P ap) {t:Nat} {z:TI} (i:ap.tyAt t=some z) {a b v:AV} {o n:Value} (f:VR g m S a o) (e:VR g m S b n) {d:BinOp} {ups:List (Nat × bu)} {bs:List Bool}
  (h:afO d z a b=some (v,ups,bs)) (hbs:∀ x ∈ bs,x=true) (x y:Operand):
  ups= []/\∃ cv,(do eqGuard d t x y o n;binOp d t o n:Sem Value).run P w= .ok cv w/\VR g m S v cv:=by
 unfold afO at h;split at h
 .rename_i k p B q;simp only [VR,PR] at f e;subst f;subst e;have l:(eqGuard d t x y (.int k p) (.int B q)).run P w= .ok () w:=kS d t x y _ _ (by simp) (by simp);rw [Sem.run_bind,l,Result.andThen_ok];split at h
  .obtain ⟨rfl,rfl,rfl⟩:=aV h;have c:=of_decide_eq_true (hbs _ (List.mem_singleton.2 rfl));exact ⟨rfl,_,by simp [binOp,Op.shift,show ¬ q<0 by omega];rfl,by simp only [VR,PR]⟩
  .obtain ⟨rfl,rfl,rfl⟩:=aV h;have c:=of_decide_eq_true (hbs _ (List.mem_singleton.2 rfl));exact ⟨rfl,_,by simp [binOp,Op.shift,show ¬ q<0 by omega];rfl,by simp only [VR,PR]⟩
  .split at h
   .cases h
   .rename_i u;have u:=gU u;subst u;split at h
    all_goals try (cases h;done)
    all_goals obtain ⟨rfl,rfl,rfl⟩:=aV h
    case h_4=>
     have c:(q==0)=false:=by simpa using hbs _ (List.mem_singleton.2 rfl)
     have c:¬ q=0:=by simpa using c
     exact ⟨rfl,_,by simp [binOp,Op.intDiv,c];rfl,by simp only [VR,PR]⟩
    case h_5=>
     have c:(q==0)=false:=by simpa using hbs _ (List.mem_singleton.2 rfl)
     have c:¬ q=0:=by simpa using c
     exact ⟨rfl,_,by simp [binOp,Op.intDiv,c];rfl,by simp only [VR,PR]⟩
    all_goals exact ⟨rfl,_,by simp only [binOp,Op.intArith,Op.intBits,Op.intCmp,ne_eq,not_true_eq_false,if_false];rfl,by simp only [VR,PR];first|done|rfl⟩
 .rename_i p q;simp only [VR,PR] at f e;subst f;subst e;have l:(eqGuard d t x y (.string ⟨p.toArray⟩) (.string ⟨q.toArray⟩)).run P w= .ok () w:=kS d t x y _ _ (by simp) (by simp);rw [Sem.run_bind,l,Result.andThen_ok];split at h
  all_goals try (cases h;done)
  all_goals obtain ⟨rfl,rfl,rfl⟩:=aV h
  case h_1=>
   have c:=gW (hbs _ (List.mem_singleton.2 rfl));have A:¬ (IntKind.i64.max<((p.length+q.length:Nat):Int)):=by
    have:IntKind.i64.max=9223372036854775807:=by decide
    omega
   refine ⟨rfl,.string ⟨(p++q).toArray⟩, ?_,by simp only [VR,PR]⟩;simp only [binOp,Op.stringOp,Au,gt_iff_lt,A,if_false,Pn,Sem.run_pure]
  all_goals
   refine ⟨rfl,_,rfl, ?_⟩;simp only [VR,PR,yY,zC]
 .split at h
  .obtain ⟨r,s,h⟩:=bind_some h;obtain ⟨rfl,rfl,rfl⟩:=aV h;exact ⟨rfl,_,I8 j i f e s hbs x y _ (.inl rfl),by simp only [VR,PR];rfl⟩
  .obtain ⟨r,s,h⟩:=bind_some h;obtain ⟨rfl,rfl,rfl⟩:=aV h;exact ⟨rfl,_,I8 j i f e s hbs x y _ (.inr rfl),by simp only [VR,PR];rfl⟩
  .cases h
theorem VZ {x v:AV} {b:Value} (a:VR g m S x b) {c:UnOp} {ups:List (Nat × bu)} {bs:List Bool} (h:unA c x=some (v,ups,bs)):
  ups= []/\∃ cv,(Op.unary c b).run P w= .ok cv w/\VR g m S v cv:=by
 unfold unA at h;split at h
 .obtain ⟨rfl,rfl,rfl⟩:=aV h;simp only [VR,PR] at a;subst a;exact ⟨rfl,_,rfl,by simp only [VR,PR]⟩
 .obtain ⟨rfl,rfl,rfl⟩:=aV h;simp only [VR,PR] at a;subst a;exact ⟨rfl,_,rfl,by simp only [VR,PR]⟩
 .cases h
theorem vH {f:AV->AV->Option AV} {F:Value->Value->Sem Value} (d:∀ a b c ca cb,VR g m S a ca->VR g m S b cb->f a b=some c->∃ cc,(F ca cb).run P w= .ok cc w/\VR g m S c cc):
  ∀ (l:List AV) (cl:List Value) (x v:AV) (cx:Value),bC g m S l cl->VR g m S x cx->Nr f x l=some v->∃ cv,(cl.foldlM F cx).run P w= .ok cv w/\VR g m S v cv
 | [],[],x,v,cx,_,hx,h=>by simp [Nr] at h;subst h;exact ⟨cx,by simp,hx⟩
 | y::r,cy::cr,x,v,cx,hl,hx,h=>by
  simp only [bC] at hl;simp only [Nr] at h;split at h
  .rename_i z o;obtain ⟨i,n,e⟩:=d _ _ _ _ _ hx hl.1 o;obtain ⟨cv,j,k⟩:=vH d r cr z v i hl.2 e h;exact ⟨cv,by simp [List.foldlM_cons,n,j],k⟩
  .cases h
 | [],_::_,_,_,_,hl,_,_=>by simp [bC] at hl
 |_::_,[],_,_,_,hl,_,_=>by simp [bC] at hl
theorem Qk {a b c:AV} {d i:Value} (f:VR g m S a d) (e:VR g m S b i) (h:min2 a b=some c):∃ cc,(Builtin.min2 d i).run P w= .ok cc w/\VR g m S c cc:=by
 unfold min2 at h;split at h
 .split at h
  .cases h;simp only [VR,PR] at f e;subst f;subst e;exact ⟨_,rfl,by simp only [VR,PR]⟩
  .cases h
 .cases h
theorem Qh {a b c:AV} {d i:Value} (f:VR g m S a d) (e:VR g m S b i) (h:max2 a b=some c):∃ cc,(Builtin.max2 d i).run P w= .ok cc w/\VR g m S c cc:=by
 unfold max2 at h;split at h
 .split at h
  .cases h;simp only [VR,PR] at f e;subst f;subst e;exact ⟨_,rfl,by simp only [VR,PR]⟩
  .cases h
 .cases h
theorem U8 {l:List AV} {cl:List Value} (a:bC g m S l cl) {v:AV} (h:Bh min2 l=some v) (b:Array TypeId) (ty:Nat):∃ cv,(Builtin.min_ b ty cl.toArray).run P w= .ok cv w/\VR g m S v cv:=by
 cases l with
 |nil=>simp [Bh] at h
 | cons x r=>cases cl with
  |nil=>simp [bC] at a
  |cons cx cr=>
   simp only [bC] at a;obtain ⟨cv,d,c⟩:=vH (P:=P) (w:=w) (F:=Builtin.min2) (λ_ _ _ _ _=>Qk) r cr x v cx a.2 a.1 h;exact ⟨cv,by simpa [Builtin.min_] using d,c⟩
theorem U6 {l:List AV} {cl:List Value} (a:bC g m S l cl) {v:AV} (h:Bh max2 l=some v) (b:Array TypeId) (ty:Nat):∃ cv,(Builtin.max_ b ty cl.toArray).run P w= .ok cv w/\VR g m S v cv:=by
 cases l with
 |nil=>simp [Bh] at h
 | cons x r=>cases cl with
  |nil=>simp [bC] at a
  |cons cx cr=>
   simp only [bC] at a;obtain ⟨cv,d,c⟩:=vH (P:=P) (w:=w) (F:=Builtin.max2) (λ_ _ _ _ _=>Qh) r cr x v cx a.2 a.1 h;exact ⟨cv,by simpa [Builtin.max_] using d,c⟩
end
end AM
