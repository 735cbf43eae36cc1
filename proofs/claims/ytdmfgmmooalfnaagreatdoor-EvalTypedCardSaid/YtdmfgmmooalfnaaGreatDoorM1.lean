/- The abstract machine over the code of the model, and the proof that it is sound. No conditions. -/
import Derived.WalkKit
import Derived.Deep.AppendSrc
import Derived.Deep.MidRow
import Derived.WalkLawsBesides
set_option linter.unusedSimpArgs false
set_option linter.unusedVariables false
open Nat renaming beq→Xqn,blt→Xjh,ble→Xqc,le_refl→Δ,le_trans→Xxr,add_zero→Xq8,add_assoc→Xxy,add_mul→Xxw,zero_add→Xqd
open List renaming replicate→μ,range→Xq9,cons_append→Xxd,take_succ_cons→Xx6,map_cons→Xqb,getD_eq_getElem?_getD→κ,headD_eq_head?_getD→Xwj,head?_drop→Xkc,tail_drop→Xkk,getElem?_map→Xq6,getElem?_take→Xj7,getElem?_drop→Xzl,getElem?_eq_getElem→π,drop_eq_nil_of_le→Xzw,length_cons→ξ,length_nil→Xqa
open BitVec renaming ofInt→Xqj
open Bool renaming and_eq_true→ο,not_eq_true'→Xqw
open Option renaming map_eq_some_iff→Xqr
namespace AM
open Go
inductive AV where
 |int (k:IntKind) (n:Int)
 |bool (b:Bool)
 |str (s:List UInt8)
 |agg (l:List AV)
 |tup (l:List AV)
 |nilS
 |sl (xs:List AV) (n:Nat) (nn:Bool)
 |ref (b ver i n:Nat)
 |own (xs:List AV) (n esz:Nat)
 |ptr (b ver off:Nat)
 |pp (xs:List AV) (off:Nat)
 |mr (b ver:Nat)
 |mp (ks vs:List AV)
 |nilP
 |fn (f:Nat) (first cap:List AV)
 |nilF
 |ifc (t:Nat) (v:AV)
 |nilI
 |dead
inductive LK where
 |int (k:IntKind)
 |bool
 |str
 |sl
 |oth
inductive TD where
 |struct (fs:List (Nat × Nat × Nat))
 |array (n elem:Nat)
 |slice (elem:Nat)
 |int (k:IntKind)
 |str
 |bool
 |iface
 |ptr
 |func
 |map (k e:Nat)
 |oth
structure TI where
 d:TD
 size:Nat
 bytes:Nat
 zero:List AV
 lks:List LK
 cmp:Bool
structure AF where
 fn:Func
 keep:List Nat
 shared:Bool
inductive Tr (α:Type) where
 |nil
 |node (v:Option α) (l r:Tr α)
def Tr.get {α:Type}:Tr α→Nat→Option α
 | .nil,_=>none
 | .node v l r,n=>match Xqn n 0 with
  |true=>v
  |false=>match Xqn (n % 2) 1 with
   |true=>l.get ((n - 1) / 2)
   |false=>r.get ((n - 1) / 2)
structure AP where
 nty:Nat
 ty:Tr TI
 nfn:Nat
 fn:Tr AF
 gl:List (Option (List AV))
def iP:Nat:=4611686018427387904
def abW:List AV→Option AV
 | [.agg ks,.agg vs]=>some (.mp ks vs)
 |_=>none
structure bg where
 cells:List AV
 ver:Nat
 fro:Bool
 fz:Nat
 esz:Nat
 pr:Bool
abbrev iT:=List (Nat × AV)
abbrev Hp:=List (Nat × bg)
def aB {α:Type}:List (Nat × α)→Nat→Option α
 | [],_=>none
 |(u,x)::r,t=>match Xqn u t with|true=>some x|false=>aB r t
def kK {α β:Type} (f:α→Option β):List α→Option (List β)
 | []=>some []
 |x::r=>match f x with
  |some y=>match kK f r with|some l=>some (y::l)|none=>none
  |none=>none
def iT.get (e:iT) (t:Nat):AV:=(aB e t).getD .dead
def AV.cells:AV→List AV
 | .agg l=>l
 |x=> [x]
def AV.toInt:AV→Int| .int _ n=>n|_=>0
def AV.toBool:AV→Bool| .bool b=>b|_=>false
def AV.toStr:AV→List UInt8| .str s=>s|_=> []
def AV.slX:AV→List AV| .sl xs _ _=>xs|_=> []
def AV.slN:AV→Nat| .sl _ n _=>n|_=>0
def XZ:IntKind→Nat
 | .i8=>0| .i16=>1| .i32=>2| .i64=>3| .u8=>4| .u16=>5| .u32=>6| .u64=>7
def iQ (a b:IntKind):Bool:=Xqn (XZ a) (XZ b)
def chk:LK→AV→Bool
 | .int k,.int k' _=>iQ k k'
 | .bool,.bool _=>true
 | .str,.str _=>true
 | .sl,.sl _ _ _=>true
 | .sl,.nilS=>true
 | .oth,.dead=>false
 | .oth,.agg _=>false
 | .oth,.tup _=>false
 | .oth,.own _ _ _=>false
 | .oth,_=>true
 |_,_=>false
def eta:LK→AV→AV
 | .int k,c=> .int k c.toInt
 | .bool,c=> .bool c.toBool
 | .str,c=> .str c.toStr
 | .sl,c=> .sl c.slX c.slN false
 | .oth,c=>c
def oW:AV→Bool
 | .dead| .agg _| .tup _| .own _ _ _=>false
 |_=>true
mutual
def d_:AV→List Nat
 | .ref b _ _ _=> [b]
 | .ptr b _ _=> [b]
 | .mr b _=> [b]
 | .agg l=>bV l
 | .tup l=>bV l
 | .fn _ f c=>bV f++bV c
 | .ifc _ v=>d_ v
 |_=> []
def bV:List AV→List Nat
 | []=> []
 |x::r=>d_ x++bV r
end
mutual
def ren (ρ:Nat→Nat→Option (Nat × Nat)):AV→AV
 | .ref b v i n=>match ρ b v with|some (b',v')=> .ref b' v' i n|none=> .dead
 | .ptr b v o=>match ρ b v with|some (b',v')=> .ptr b' v' o|none=> .dead
 | .mr b v=>match ρ b v with|some (b',v')=> .mr b' v'|none=> .dead
 | .agg l=> .agg (nI ρ l)
 | .tup l=> .tup (nI ρ l)
 | .fn f a c=> .fn f (nI ρ a) (nI ρ c)
 | .ifc t v=> .ifc t (ren ρ v)
 |x=>x
def nI (ρ:Nat→Nat→Option (Nat × Nat)):List AV→List AV
 | []=> []
 |x::r=>ren ρ x::nI ρ r
end
def JV:Value→AV
 | .int k n=> .int k n
 | .bool b=> .bool b
 | .string s=> .str s.data.toList
 | .pointer a=>match a with|none=> .nilP|some _=> .dead
 | .slice a n c=>match a,n,c with|none,0,0=> .nilS|_,_,_=> .dead
 | .nilFunc=> .nilF
 | .nilIface=> .nilI
 | .map a=>match a with|none=> .mp [] []|some _=> .dead
 |_=> .dead
def FU:Value→AV
 | .agg cs=> .agg (cs.toList.map JV)
 | .tuple vs=>match vs.toList with| []=> .tup []|_=> .dead
 |v=>JV v
def AP.tyAt (ap:AP) (t:Nat):Option TI:=match Xjh t ap.nty with|true=>ap.ty.get t|false=>none
def AP.fnAt (ap:AP) (f:Nat):Option AF:=match Xjh f ap.nfn with|true=>ap.fn.get f|false=>none
def uf (l:List Nat) (a:Nat):Bool:=l.any (Xqn a)
def jl (l:List Nat):List Nat:=l.foldl (fun acc b=>if uf acc b then acc else acc++ [b]) []
abbrev Ja:=Option (AV × List (Nat × bg) × List Bool)
def bG (v:AV) (bs:List Bool:= []):Ja:=some (v,[],bs)
def Nk (ty:Bool):List LK→List AV→List AV
 | [],_=> []
 |k::ks,ys=>(match ty with|true=>eta k (ys.headD .dead)|false=>ys.headD .dead)::Nk ty ks ys.tail
def WC (ty:Bool):List LK→List AV→List Bool
 | [],_=> []
 |k::ks,ys=>(match ty with|true=>chk k (ys.headD .dead)|false=>chk .oth (ys.headD .dead))::WC ty ks ys.tail
def vV (ty:Bool) (ks:List LK) (xs:List AV) (off:Nat):List AV:=Nk ty ks (xs.drop off)
def Jk (ty:Bool) (ks:List LK) (xs:List AV) (off:Nat):List Bool:=WC ty ks (xs.drop off)
def JF:TD→Bool
 | .struct _=>true
 | .array _ _=>true
 |_=>false
def sF (ti:TI) (cs:List AV):Option AV:=
 match JF ti.d with
 |true=>some (.agg cs)
 |false=>match cs with| [c]=>some c|_=>none
def MI (ti:TI) (rd:Nat→Option bg) (p:AV):Ja:=
 match p with
 | .pp xs off=>(sF ti (vV true ti.lks xs off)).bind fun v=>bG v (Jk true ti.lks xs off)
 | .ptr b ver off=>(rd b).bind fun B=>match Xqn B.ver ver && !(Xqn B.esz iP) with
  |true=>(sF ti (vV (Xjh 0 B.esz && B.pr) ti.lks B.cells off)).bind fun v=>bG v (Jk (Xjh 0 B.esz && B.pr) ti.lks B.cells off)
  |false=>none
 |_=>none
def iR (xs:List AV) (off:Nat) (vs:List AV):List AV:=xs.take off++vs++xs.drop (off+vs.length)
def Qc (ti:TI) (rd:Nat→Option bg) (p v:AV):Ja:=
 match p with
 | .ptr b ver off=>(rd b).bind fun B=>
  let vs:=v.cells
  let rs:=bV vs
  match Xqn B.ver ver && !B.fro && Xqn vs.length ti.size && vs.all oW && !(Xqn B.esz iP) with
  |true=>some (.dead,[(b,{B with cells:=iR B.cells off vs,pr:=B.pr && rs.isEmpty})],[Xqc (off+vs.length) B.cells.length])
  |false=>none
 |_=>none
def jk (nid:Nat) (cells:List AV) (esz:Nat):Nat × bg:=(nid,{cells,ver:=0,fro:=false,fz:=0,esz,pr:=(bV cells).isEmpty})
def xx (cells:List AV):List (Nat × Nat × AV)→Option (List AV)
 | []=>some cells
 |(off,size,v)::r=>match Xqn v.cells.length size && Xqc (off+size) cells.length && v.cells.all oW with
  |true=>xx (iR cells off v.cells) r
  |false=>none
def OB (ap:AP) (ti:TI) (parts:List (Nat × AV)):Ja:=
 match ti.d with
 | .struct fs=>(kK (fun (q:Nat × AV)=>(fs[q.1]?).map fun (x:Nat × Nat × Nat)=>(x.1,x.2.2,q.2)) parts).bind fun ps=>(xx ti.zero ps).bind fun cs=>bG (.agg cs)
 | .array _ e=>(ap.tyAt e).bind fun te=>(xx ti.zero (parts.map fun (i,v)=>(i*te.size,te.size,v))).bind fun cs=>bG (.agg cs)
 |_=>none
def gQ (n:Nat) (z:List AV):List AV:=(μ n z).flatten
def uU (ap:AP) (nid:Nat) (ti:TI) (len:Nat) (parts:List (Nat × AV)):Ja:=
 match ti.d with
 | .slice e=>(ap.tyAt e).bind fun te=>
  match Xjh 0 te.size && Xqc (len*te.size) (2^24) && Xqn te.zero.length te.size with
  |true=>(xx (gQ len te.zero) (parts.map fun (i,v)=>(i*te.size,te.size,v))).bind fun cs=>
   some (.ref nid 0 0 len,[jk nid cs te.size],[])
  |false=>none
 |_=>none
def Yx (p:AV) (o:Nat):Option AV:=
 match p with
 | .ptr b v off=>some (.ptr b v (off+o))
 | .pp xs off=>some (.pp xs (off+o))
 |_=>none
def Rf (v:AV):Option Int:=match v with| .int _ n=>some n|_=>none
def xX (ap:AP) (ti:TI) (rd:Nat→Option bg) (x i:AV):Ja:=
 (Rf i).bind fun i=>
 match ti.d with
 | .slice e=>(ap.tyAt e).bind fun te=>
  match x with
  | .sl xs n _=>bG (.pp xs (i.toNat*te.size)) [decide (0≤i),decide (i<n)]
  | .ref b ver j n=>(rd b).bind fun B=>match Xqn B.ver ver && Xqn B.esz te.size with
   |true=>bG (.ptr b ver ((j+i.toNat)*te.size)) [decide (0≤i),decide (i<n)]
   |false=>none
  |_=>none
 | .array n e=>(ap.tyAt e).bind fun te=>(Yx x (i.toNat*te.size)).bind fun p=>bG p [decide (0≤i),decide (i<n)]
 |_=>none
def O9 (ap:AP) (ti:TI) (x i:AV):Ja:=
 (Rf i).bind fun i=>
 match ti.d,x with
 | .str,.str s=>bG (.int .u8 (s.getD i.toNat 0).toNat) [decide (0≤i),decide (i<s.length)]
 | .array n e,.agg cs=>(ap.tyAt e).bind fun te=>
  (sF te (vV true te.lks cs (i.toNat*te.size))).bind fun v=>bG v (decide (0≤i)::decide (i<n)::Jk true te.lks cs (i.toNat*te.size))
 |_,_=>none
def pI (v:Option AV) (d:Int):Option Int:=match v with|none=>some d|some (.int _ n)=>some n|some _=>none
def P9 (ap:AP) (ti:TI) (rd:Nat→Option bg) (x:AV) (lo hi mx:Option AV):Ja:=
 match ti.d,x,mx with
 | .str,.str s,none=>(pI lo 0).bind fun l=>(pI hi s.length).bind fun h=>
   bG (.str ((s.take h.toNat).drop l.toNat)) [decide (0≤l),decide (l≤h),decide (h≤s.length)]
 | .slice e,.sl xs n nn,none=>(ap.tyAt e).bind fun te=>(pI lo 0).bind fun l=>(pI hi n).bind fun h=>
   bG (.sl ((xs.take (h.toNat*te.size)).drop (l.toNat*te.size)) (h.toNat - l.toNat) nn) [decide (0≤l),decide (l≤h),decide (h≤n)]
 | .slice e,.ref b ver j n,none=>(ap.tyAt e).bind fun te=>(rd b).bind fun B=>(pI lo 0).bind fun l=>(pI hi n).bind fun h=>
   match Xqn B.ver ver && Xqn B.esz te.size with
   |true=>bG (.ref b ver (j+l.toNat) (h.toNat - l.toNat)) [decide (0≤l),decide (l≤h),decide (h≤n)]
   |false=>none
 | .slice e,.nilS,none=>(ap.tyAt e).bind fun _=>(pI lo 0).bind fun l=>(pI hi 0).bind fun h=>bG .nilS [decide (l=0),decide (h=0)]
 |_,_,_=>none
def X5 (d:TD) (x:AV):Ja:=
 match d,x with
 | .array n _,_=>bG (.int .i64 n)
 | .str,.str s=>bG (.int .i64 s.length)
 | .slice _,.sl _ n _=>bG (.int .i64 n)
 | .slice _,.ref _ _ _ n=>bG (.int .i64 n)
 | .slice _,.nilS=>bG (.int .i64 0)
 |_,_=>none
def NL (size:Nat) (rd:Nat→Option bg) (x:AV):Option (List AV × Nat × Bool):=
 match x with
 | .sl xs n _=>some (xs,n,true)
 | .nilS=>some ([],0,true)
 | .str s=>some (s.map fun b=> .int .u8 b.toNat,s.length,true)
 | .ref b ver j n=>(rd b).bind fun B=>match Xqn B.ver ver && Xqn B.esz size && !(Xqn B.esz iP) with
  |true=>some ((B.cells.drop (j*size)).take (n*size),n,B.pr)
  |false=>none
 |_=>none
def IY:Nat:=2^40
def yK (nid:Nat) (te:TI) (rd:Nat→Option bg) (em:Bool) (s x:AV):Ja:=
 (NL te.size rd x).bind fun (xs,n,pr)=>
 match Xjh 0 te.size && Xqc te.bytes 128 with
 |false=>none
 |true=>
 match s with
 | .nilS=>match em with
  |true=>bG .nilS [Xqn xs.length (n*te.size)]
  |false=>some (.ref nid 0 0 n,[(nid,⟨xs,0,false,0,te.size,pr⟩)],[Xqn xs.length (n*te.size),Xqc n IY])
 | .ref b ver 0 m=>(rd b).bind fun B=>match Xqn B.ver ver && Xqn B.esz te.size && !(Xqn B.esz iP) with
  | true=>some (.ref b (ver+1) 0 (m+n),[(b,{B with cells:=B.cells.take (m*te.size)++xs,ver:=ver+1,pr:=B.pr && pr})],
    [Xqn xs.length (n*te.size),Xqc (m+n) IY,Xqc (m*te.size) B.cells.length, !B.fro||Xqc B.fz (m*te.size)])
  |false=>none
 |_=>none
def xM:AV→Option Nat
 | .sl _ n _=>some n
 | .nilS=>some 0
 | .str s=>some s.length
 | .ref _ _ _ n=>some n
 |_=>none
def zi (ρ:Operand→AV) (o:Op):Option Nat:=
 match o with
 | .call {callee:= .builtin .append,args,..}=>match args.toList with
  | [s,x]=>match ρ s with
   | .nilS=>xM (ρ x)
   |_=>none
  |_=>none
 |_=>none
def x_ (ap:AP) (nid:Nat) (ti:TI) (l c:AV):Ja:=
 match ti.d,l,c with
 | .slice e,.int _ l,.int _ c=>(ap.tyAt e).bind fun te=>
  match Xjh 0 te.size && Xqn te.zero.length te.size && Xqc te.bytes 128 && (bV te.zero).isEmpty with
  |true=>some (.ref nid 0 0 l.toNat,[(nid,⟨gQ l.toNat te.zero,0,false,0,te.size,true⟩)],[decide (0≤l),decide (l=c),decide (l≤2^40)])
  |false=>none
 |_,_,_=>none
def EE (ap:AP) (ts td:TI) (rd:Nat→Option bg) (x:AV):Ja:=
 match ts.d,td.d,x with
 |_,.int k,.int _ n=>bG (.int k (k.wrap n))
 | .str,.str,.str s=>bG (.str s)
 | .slice e,.str,x=>(ap.tyAt e).bind fun te=>match te.d,x with
  | .int .u8,.str _=>none
  | .int .u8,x=>(NL 1 rd x).bind fun (xs,n,_)=>bG (.str (xs.map fun c=>UInt8.ofNat c.toInt.toNat)) [Xqn xs.length n,xs.all (chk (.int .u8))]
  |_,_=>none
 |_,_,_=>none
def OU:LK→AV→AV→Option Bool
 | .int k,.int k1 a,.int k2 b=>match iQ k k1 && iQ k k2 with|true=>some (a==b)|false=>none
 | .bool,.bool a,.bool b=>some (a==b)
 | .str,.str a,.str b=>some (a==b)
 |_,_,_=>none
def kU:List LK→List AV→List AV→Option Bool
 | [],[],[]=>some true
 |k::ks,a::as,b::bs=>(OU k a b).bind fun c=>(kU ks as bs).map fun d=>c && d
 |_,_,_=>none
def eqA (ti:TI) (a b:AV):Option Bool:=
 match ti.d,a,b with
 | .bool,.bool a,.bool b=>some (a==b)
 | .struct _,.agg xs,.agg ys=>match ti.cmp with|true=>kU ti.lks xs ys|false=>none
 | .ptr,.nilP,.nilP=>some true
 | .ptr,.nilP,.ptr _ _ _=>some false
 | .ptr,.nilP,.pp _ _=>some false
 | .ptr,.ptr _ _ _,.nilP=>some false
 | .ptr,.pp _ _,.nilP=>some false
 | .iface,.nilI,.ifc _ _=>some false
 | .iface,.ifc _ _,.nilI=>some false
 | .func,.nilF,.nilF=>some true
 | .func,.nilF,.fn _ _ _=>some false
 | .func,.fn _ _ _,.nilF=>some false
 | .slice _,.nilS,.nilS=>some true
 | .slice _,.ref _ _ _ _,.nilS=>some false
 | .slice _,.nilS,.ref _ _ _ _=>some false
 | .slice _,.sl _ _ _,.nilS=>some false
 | .slice _,.nilS,.sl _ _ _=>some false
 |_,_,_=>none
def FO (a b:AV):List Bool:=
 match a,b with
 | .sl _ n false,.nilS=> [Xjh 0 n]
 | .nilS,.sl _ n false=> [Xjh 0 n]
 |_,_=> []
def iF:List UInt8→List UInt8→Bool
 |_,[]=>false
 | [],_::_=>true
 |a::x,b::y=>decide (a<b)||(a==b && iF x y)
def aeJ (op:BinOp) (ti:TI) (x y:AV):Ja:=
 match x,y with
 | .int k a,.int k' b=>
  match op with
  | .shl=>bG (.int k (k.wrap (a*2^(min b.toNat k.bits)))) [decide (0≤b)]
  | .shr=>bG (.int k (a.fdiv (2^(min b.toNat k.bits)))) [decide (0≤b)]
  | _=>match iQ k k' with
   |false=>none
   |true=>match op with
    | .add=>bG (.int k (k.wrap (a+b)))
    | .sub=>bG (.int k (k.wrap (a - b)))
    | .mul=>bG (.int k (k.wrap (a*b)))
    | .quo=>bG (.int k (k.wrap (a.tdiv b))) [!(b==0)]
    | .rem=>bG (.int k (a.tmod b)) [!(b==0)]
    | .and=>bG (.int k (k.wrap (Xqj k.bits a &&& Xqj k.bits b).toNat))
    | .or=>bG (.int k (k.wrap (Xqj k.bits a|||Xqj k.bits b).toNat))
    | .xor=>bG (.int k (k.wrap (Xqj k.bits a^^^Xqj k.bits b).toNat))
    | .eql=>bG (.bool (a==b))
    | .neq=>bG (.bool (!(a==b)))
    | .lss=>bG (.bool (decide (a<b)))
    | .leq=>bG (.bool (decide (a≤b)))
    | .gtr=>bG (.bool (decide (b<a)))
    | .geq=>bG (.bool (decide (b≤a)))
    |_=>none
 | .str a,.str b=>
  match op with
  | .add=>bG (.str (a++b)) [Xqc (a.length+b.length) 9223372036854775807]
  | .eql=>bG (.bool (a==b))
  | .neq=>bG (.bool (!(a==b)))
  | .lss=>bG (.bool (iF a b))
  | .leq=>bG (.bool (iF a b||a==b))
  | .gtr=>bG (.bool (!(iF a b||a==b)))
  | .geq=>bG (.bool (!iF a b))
  |_=>none
 |x,y=>
  match op with
  | .eql=>(eqA ti x y).bind fun b=>bG (.bool b) (FO x y)
  | .neq=>(eqA ti x y).bind fun b=>bG (.bool (!b)) (FO x y)
  |_=>none
def unA (op:UnOp) (x:AV):Ja:=
 match op,x with
 | .not,.bool b=>bG (.bool (!b))
 | .neg,.int k n=>bG (.int k (k.wrap (0 - n)))
 |_,_=>none
def min2 (a b:AV):Option AV:=match a,b with| .int k x,.int k' y=>(match iQ k k' with|true=>some (.int k (if y<x then y else x))|false=>none)|_,_=>none
def max2 (a b:AV):Option AV:=match a,b with| .int k x,.int k' y=>(match iQ k k' with|true=>some (.int k (if y>x then y else x))|false=>none)|_,_=>none
def LY (f:AV→AV→Option AV):AV→List AV→Option AV
 |x,[]=>some x
 |x,y::r=>match f x y with|some z=>LY f z r|none=>none
def AX (f:AV→AV→Option AV):List AV→Option AV
 | []=>none
 |x::r=>LY f x r
def Jg (ap:AP) (x:AV) (asserted:Nat) (commaOk:Bool):Ja:=
 (ap.tyAt asserted).bind fun ti=>
 match ti.d with
 | .iface=>none
 | _=>match x with
  | .ifc t v=>match Xqn t asserted with
   |true=>bG (match commaOk with|true=> .tup [v,.bool true]|false=>v)
   |false=>match commaOk with|true=>(sF ti ti.zero).bind fun z=>bG (.tup [z,.bool false])|false=>none
  | .nilI=>match commaOk with|true=>(sF ti ti.zero).bind fun z=>bG (.tup [z,.bool false])|false=>none
  |_=>none
def O5 (ap:AP) (ti:TI) (x:AV) (f:Nat):Ja:=
 match ti.d,x with
 | .struct fs,.agg cs=>(fs[f]?).bind fun (o,t,_)=>(ap.tyAt t).bind fun tf=>
  (sF tf (vV false tf.lks cs o)).bind fun v=>bG v (Jk false tf.lks cs o)
 |_,_=>none
def yM:AV→List Nat
 | .ref b _ _ _=> [b]
 | .ptr b _ _=> [b]
 | .mr b _=> [b]
 |_=> []
def YP (ρ:Operand→AV):Op→List Nat
 | .load _ a=>yM (ρ a)
 | .store _ a _=>yM (ρ a)
 | .indexAddr _ x _=>yM (ρ x)
 | .slice _ x _ _ _=>yM (ρ x)
 | .convert _ _ x=>yM (ρ x)
 | .lookup _ x _ _=>yM (ρ x)
 | .mapUpdate _ x _ _=>yM (ρ x)
 | .insert _ x _ _=>yM (ρ x)
 | .call {callee:= .builtin .append,args,..}=>jl (args.toList.flatMap fun x=>yM (ρ x))
 |_=> []
def IB:LK→AV→Bool
 | .int k,.int k' _=>iQ k k'
 | .bool,.bool _=>true
 | .str,.str _=>true
 |_,_=>false
def nN:List LK→List AV→Bool
 | [],[]=>true
 |k::r,x::l=>IB k x && nN r l
 |_,_=>false
def kX (ti:TI) (x:AV):Bool:=match ti.d,x with
 | .int k,.int k' _=>iQ k k'
 | .bool,.bool _=>true
 | .str,.str _=>true
 | .struct _,.agg l=>ti.cmp && nN ti.lks l
 |_,_=>false
def EM:AV→AV→Bool
 | .int _ a,.int _ b=>a==b
 | .bool a,.bool b=>a==b
 | .str a,.str b=>a==b
 |_,_=>false
def Jt:List AV→List AV→Bool
 | [],[]=>true
 |a::r,b::q=>EM a b && Jt r q
 |_,_=>false
def xQ:AV→AV→Bool
 | .int _ a,.int _ b=>a==b
 | .bool a,.bool b=>a==b
 | .str a,.str b=>a==b
 | .agg a,.agg b=>Jt a b
 |_,_=>false
def dY:List AV→List AV→AV→Option AV
 |k0::ks,v0::vs,k=>match xQ k k0 with|true=>some v0|false=>dY ks vs k
 |_,_,_=>none
def yg (ks:List AV) (k:AV):List AV:=match ks.any (xQ k) with|true=>ks|false=>ks++ [k]
def qh:List AV→List AV→AV→AV→List AV
 |k0::ks,v0::vs,k,v=>match xQ k k0 with|true=>v::vs|false=>v0::qh ks vs k v
 |_,_,_,v=> [v]
def Ye (rd:Nat→Option bg) (x:AV):Option (List AV × List AV):=
 match x with
 | .mp ks vs=>some (ks,vs)
 | .mr b ver=>(rd b).bind fun B=>match Xqn B.ver ver && Xqn B.esz iP with
  |true=>match B.cells with| [.agg ks,.agg vs]=>some (ks,vs)|_=>none
  |false=>none
 |_=>none
def Ru (ok:Bool) (o:Option AV) (z:AV):AV:=match ok with|true=> .tup [o.getD z,.bool o.isSome]|false=>o.getD z
def JJ (ap:AP) (ti:TI) (rd:Nat→Option bg) (x k:AV) (ok:Bool):Ja:=
 match ti.d with
 | .map kt et=>(ap.tyAt kt).bind fun tk=>(ap.tyAt et).bind fun te=>(Ye rd x).bind fun q=>(sF te te.zero).bind fun z=>
   bG (Ru ok (dY q.1 q.2 k) z) [kX tk k,q.1.all (kX tk)]
 |_=>none
def Ea (ap:AP) (ti:TI) (rd:Nat→Option bg) (x k v:AV):Ja:=
 match ti.d,x with
 | .map kt _,.mr b ver=>(ap.tyAt kt).bind fun tk=>(rd b).bind fun B=>match Xqn B.ver ver && Xqn B.esz iP && !B.fro with
  |true=>match B.cells with
   | [.agg ks,.agg vs]=>some (.dead,[(b,{B with cells:= [.agg (yg ks k),.agg (qh ks vs k v)],pr:=B.pr && (d_ v).isEmpty})],[kX tk k,ks.all (kX tk)])
   |_=>none
  |false=>none
 |_,_=>none
def opA (ap:AP) (nid:Nat) (ρ:Operand→AV) (rd:Nat→Option bg) (dec:Operand→Option Bool) (em:Bool) (o:Op):Ja:=
 match o with
 | .move x=>bG (ρ x)
 | .assign x=>bG (ρ x)
 | .pick c a b=>match dec c with
  |some true=>bG (ρ a)
  |some false=>bG (ρ b)
  |none=>match ρ c,ρ a,ρ b with| .bool c,.bool x,.bool y=>bG (.bool (cond c x y))|_,_,_=>none
 | .alloc e=>(ap.tyAt e).bind fun te=>match Xjh 0 te.size && te.zero.all oW with|true=>some (.ptr nid 0 0,[jk nid te.zero 0],[])|false=>none
 | .box e x=>(ap.tyAt e).bind fun te=>let vs:=(ρ x).cells
  match Xjh 0 te.size && vs.all oW with|true=>some (.ptr nid 0 0,[jk nid vs 0],[])|false=>none
 | .build t parts=>(ap.tyAt t).bind fun ti=>OB ap ti (parts.toList.map fun (i,x)=>(i,ρ x))
 | .buildSlice t len parts=>(ap.tyAt t).bind fun ti=>uU ap nid ti len (parts.toList.map fun (i,x)=>(i,ρ x))
 | .load t a=>(ap.tyAt t).bind fun ti=>MI ti rd (ρ a)
 | .store t a x=>(ap.tyAt t).bind fun ti=>Qc ti rd (ρ a) (ρ x)
 | .makeMap _ r=>match r with|none=>some (.mr nid 0,[(nid,⟨[.agg [],.agg []],0,false,0,iP,true⟩)],[])|some _=>none
 | .lookup t x k ok=>(ap.tyAt t).bind fun ti=>JJ ap ti rd (ρ x) (ρ k) ok
 | .mapUpdate t x k v=>(ap.tyAt t).bind fun ti=>Ea ap ti rd (ρ x) (ρ k) (ρ v)
 | .insert t x k v=>(ap.tyAt t).bind fun ti=>Ea ap ti rd (ρ x) (ρ k) (ρ v)
 | .nilCheck x=>match ρ x with
  | .ptr b v o=>bG (.ptr b v o)
  | .pp xs o=>bG (.pp xs o)
  | .fn f a c=>bG (.fn f a c)
  |_=>none
 | .binOp op t x y _=>(ap.tyAt t).bind fun ti=>aeJ op ti (ρ x) (ρ y)
 | .unOp op _ x=>unA op (ρ x)
 | .convert s d x=>(ap.tyAt s).bind fun ts=>(ap.tyAt d).bind fun td=>EE ap ts td rd (ρ x)
 | .makeInterface t x=>(ap.tyAt t).bind fun ti=>match ti.d with| .iface=>none|_=>bG (.ifc t (ρ x))
 | .makeFunc (.func f) first cap=>bG (.fn f (first.toList.map ρ) (cap.toList.map ρ))
 | .makeSlice t l c=>(ap.tyAt t).bind fun ti=>x_ ap nid ti (ρ l) (ρ c)
 | .slice t x lo hi mx=>(ap.tyAt t).bind fun ti=>P9 ap ti rd (ρ x) (lo.map ρ) (hi.map ρ) (mx.map ρ)
 | .fieldAddr s x f=>(ap.tyAt s).bind fun ti=>match ti.d with
  | .struct fs=>(fs[f]?).bind fun (o,_,sz)=>match Xjh 0 sz with|true=>(Yx (ρ x) o).bind fun p=>bG p|false=>none
  |_=>none
 | .field t x f=>(ap.tyAt t).bind fun ti=>O5 ap ti (ρ x) f
 | .indexAddr t x i=>(ap.tyAt t).bind fun ti=>xX ap ti rd (ρ x) (ρ i)
 | .index t x i=>(ap.tyAt t).bind fun ti=>O9 ap ti (ρ x) (ρ i)
 | .typeAssert x _ asserted ok=>Jg ap (ρ x) asserted ok
 | .extract t i=>match ρ t with| .tup l=>(l[i]?).bind fun v=>bG v|_=>none
 | .call {callee:= .builtin b,args,argTypes}=>
  match b with
  | .len=>(args[0]?).bind fun x=>(argTypes[0]?).bind fun t=>(ap.tyAt t).bind fun ti=>X5 ti.d (ρ x)
  | .append=>match args.toList,argTypes.toList with
   | [s,x],[t,t1]=>(ap.tyAt t).bind fun ti=>(ap.tyAt t1).bind fun ti1=>match ti.d,ti1.d,ρ x with
    | .slice e,.str,.str y=>(ap.tyAt e).bind fun te=>match Xqn te.size 1 with|true=>yK nid te rd em (ρ s) (.str y)|false=>none
    | .slice _,.slice _,.str _=>none
    | .slice e,.slice _,y=>(ap.tyAt e).bind fun te=>yK nid te rd em (ρ s) y
    |_,_,_=>none
   |_,_=>none
  | .min=>(AX min2 (args.toList.map ρ)).bind fun v=>bG v
  | .max=>(AX max2 (args.toList.map ρ)).bind fun v=>bG v
  |_=>none
 |_=>none
def IG (P:Program):Nat→TypeId→List LK
 |0,_=> [.oth]
 |n+1,t=>match P.underlying t with
  |some (.int k)=> [.int k]
  |some .bool=> [.bool]
  |some .string=> [.str]
  |some (.slice _)=> [.sl]
  |some (.struct fs)=>fs.toList.flatMap fun f=>IG P n f.type
  |some (.array m e)=>(μ m (IG P n e)).flatten
  |_=> [.oth]
def jZ (P:Program):Option TypeDesc→TD
 |some (.int k)=> .int k
 |some .bool=> .bool
 |some .string=> .str
 |some (.slice e)=> .slice e
 |some (.array n e)=> .array n e
 |some (.struct fs)=> .struct (fs.toList.map fun f=>(f.offset,f.type,match P.info? f.type with|some i=>i.size|none=>0))
 |some (.interface _)=> .iface
 |some (.pointer _)=> .ptr
 |some (.func _ _ _)=> .func
 |some (.map k e)=> .map k e
 |_=> .oth
def yU (P:Program) (f:TypeId→Option (List LK)):List Field→Nat→Option (List LK)
 | [],_=>some []
 | x::r,off=>match f x.type with
  |some l=>match !(x.name== "_") && Xqn x.offset off && (match P.info? x.type with|some i=>Xqn i.size l.length|none=>false) with
   |true=>match yU P f r (off+l.length) with|some l'=>some (l++l')|none=>none
   |false=>none
  |none=>none
def jJ (P:Program):Nat→TypeId→Option (List LK)
 |0,_=>none
 |n+1,t=>match P.underlying t with
  |some (.int k)=>some [.int k]
  |some .bool=>some [.bool]
  |some .string=>some [.str]
  |some (.struct fs)=>match P.stoodInHeld t with|true=>none|false=>yU P (jJ P n) fs.toList 0
  |_=>none
def ahC (i:TypeInfo) (d:TypeDesc):Bool:=match i.zero,d with
 |some (.agg _),.struct _=>true
 |some (.agg _),.array _ _=>true
 |some (.agg _),_=>false
 |some _,.struct _=>false
 |some _,.array _ _=>false
 |some _,_=>true
 |none,_=>false
def XI (P:Program) (d:TypeDesc):Bool:=match d with
 | .struct fs=>fs.toList.all fun f=>(P.info? f.type).isSome
 |_=>true
def GM (i:TypeInfo):List AV:=match i.zero with|some z=>z.cells.toList.map FU|none=> []
def af_:LK→LK→Bool
 | .int a,.int b=>iQ a b
 | .bool,.bool=>true
 | .str,.str=>true
 |_,_=>false
def IE:List LK→List LK→Bool
 | [],[]=>true
 |a::r,b::q=>af_ a b && IE r q
 |_,_=>false
def aaw (P:Program) (t:TypeId):Bool:=match jJ P 8 t with|some l=>IE l (IG P 8 t) && !P.eqGuardType P.depth t|none=>false
def Zx (P:Program) (t:TypeId):Option TI:=
 match P.info? t,P.underlying t with
 |some i,some d=>
  match Xqn (IG P 8 t).length i.size && (ahC i d && XI P d) && (GM i).all oW && Xqn (GM i).length i.size && Xjh 0 i.size && i.zero.isSome && Xjh i.size iP with
  |true=>some {d:=jZ P (some d),size:=i.size,bytes:=i.bytes,zero:=GM i,lks:=IG P 8 t,cmp:=aaw P t}
  |false=>none
 |_,_=>none
abbrev aZ:=Nat→Nat→Option Value
def pY (S S':aZ):Prop:=∀ k o v,S k o=some v→S' k o=some v
theorem pY.refl (S:aZ):pY S S:=fun _ _ _ h=>h
theorem pY.trans {S S' S'':aZ} (h:pY S S') (a:pY S' S''):pY S S'':=fun k o v e=>a k o v (h k o v e)
def kP (S:aZ) (b o:Nat) (vs:List Value):Prop:=∀ j u,vs[j]? =some u→S b (o+j)=some u∧u.oneCell'=true
mutual
def PR (S:aZ):AV→Value→Prop
 | .int k n,v=>v= .int k n
 | .bool b,v=>v= .bool b
 | .str s,v=>v= .string ⟨s.toArray⟩
 | .agg l,v=> ∃ vs,v= .agg vs.toArray∧eG S l vs
 | .tup l,v=> ∃ vs,v= .tuple vs.toArray∧eG S l vs
 | .nilS,v=>v= .slice none 0 0
 | .sl xs n nn,v=> ∃ a cap,v= .slice a n cap∧n≤cap∧((a=none∧nn=false∧xs= []∧n=0∧cap=0)∨∃ b o vs,a=some ⟨b,o,none⟩∧eG S xs vs∧kP S b o vs)
 | .pp xs off,v=> ∃ b o vs,v= .pointer (some ⟨b,o+off,none⟩)∧eG S xs vs∧kP S b o vs
 | .mp ks vs,v=>(v= .map none∧ks= []∧vs= [])∨∃ b kk vv,v= .map (some b)∧S b 0=some (.agg kk.toArray)∧S b 1=some (.agg vv.toArray)∧eG S ks kk∧eG S vs vv
 | .nilP,v=>v= .pointer none
 | .fn f a c,v=> ∃ va vc,v= .func (.func f) va.toArray vc.toArray∧eG S a va∧eG S c vc
 | .nilF,v=>v= .nilFunc
 | .ifc t x,v=> ∃ u,v= .iface t u∧PR S x u
 | .nilI,v=>v= .nilIface
 | .dead,_=>True
 | .ref _ _ _ _,_=>False
 | .ptr _ _ _,_=>False
 | .mr _ _,_=>False
 | .own _ _ _,_=>False
def eG (S:aZ):List AV→List Value→Prop
 | [],[]=>True
 |x::r,v::vs=>PR S x v∧eG S r vs
 |_,_=>False
end
abbrev dJ:=Nat→Option bg
abbrev bf:=Nat→Nat × Nat
mutual
def VR (g:dJ) (m:bf) (S:aZ):AV→Value→Prop
 | .ref b ver i n,v=> ∃ B,g b=some B∧ver≤B.ver∧(∃ k o c',v= .slice (some ⟨k,o,none⟩) n c')∧(B.ver=ver→∃ o,v= .slice (some ⟨(m b).1,o,none⟩) n ((m b).2 - i)∧i+n≤(m b).2∧(i<(m b).2→o=i*B.esz)∧0<B.esz∧B.esz ≠ iP)
 | .ptr b ver off,v=> ∃ B,g b=some B∧ver≤B.ver∧(∃ k o,v= .pointer (some ⟨k,o,none⟩))∧(B.ver=ver→v= .pointer (some ⟨(m b).1,off,none⟩))
 | .mr b ver,v=> ∃ B,g b=some B∧ver≤B.ver∧(∃ k,v= .map (some k))∧(B.ver=ver→v= .map (some (m b).1))
 | .agg l,v=> ∃ vs,v= .agg vs.toArray∧bF g m S l vs
 | .tup l,v=> ∃ vs,v= .tuple vs.toArray∧bF g m S l vs
 | .fn f a c,v=> ∃ va vc,v= .func (.func f) va.toArray vc.toArray∧bF g m S a va∧bF g m S c vc
 | .ifc t x,v=> ∃ u,v= .iface t u∧VR g m S x u
 | .int k n,v=>PR S (.int k n) v
 | .bool b,v=>PR S (.bool b) v
 | .str s,v=>PR S (.str s) v
 | .nilS,v=>PR S .nilS v
 | .sl xs n nn,v=>PR S (.sl xs n nn) v
 | .pp xs off,v=>PR S (.pp xs off) v
 | .mp ks vs,v=>PR S (.mp ks vs) v
 | .nilP,v=>PR S .nilP v
 | .nilF,v=>PR S .nilF v
 | .nilI,v=>PR S .nilI v
 | .dead,_=>True
 | .own _ _ _,_=>False
def bF (g:dJ) (m:bf) (S:aZ):List AV→List Value→Prop
 | [],[]=>True
 |x::r,v::vs=>VR g m S x v∧bF g m S r vs
 |_,_=>False
end
def aQ (x y:AV):Prop:=∀ g m S v,VR g m S x v→VR g m S y v
inductive wZ where
 |v (d:Nat) (x:AV)
 |b (d:Nat) (xs:List AV)
 |u (d:Nat)
inductive kG where
 |ret (v:AV)
 |pan (v:AV)
structure Cx where
 cl:Bool
 orc:List Bool
 bs:List Bool
 ps:List Prop
 ans:List (kG × List bg)
 hs:List wZ
inductive R (α:Type) where
 |ok (a:α) (c:Cx)
 |need
 |bad (n:Nat)
def R.bind {α β:Type} (r:R α) (f:α→Cx→R β):R β:=
 match r with
 | .ok a c=>f a c
 | .need=> .need
 | .bad n=> .bad n
def lit (o b:Bool):Bool:=match o with|true=>b|false=> !b
def aaW (c:Cx) (bs:List Bool):R Unit:=
 match c.cl with
 |true=>match bs.all id with|true=> .ok () c|false=> .bad 1
 |false=> .ok () {c with bs:=bs++c.bs}
def Az (c:Cx) (b:Bool):R Bool:=
 match c.cl with
 |true=> .ok b c
 |false=>match c.orc with
  | []=> .need
  |o::r=> .ok o {c with orc:=r,bs:=lit o b::c.bs}
def EW (c:Cx) (dst:Option Nat) (v:AV):AV × Cx:=
 match c.hs,dst with
 | .v d x::r,some d'=>match Xqn d d' with
  |true=>(x,{c with hs:=r,ps:=aQ v x::c.ps})
  |false=>(v,c)
 |_,_=>(v,c)
def EU (c:Cx) (dst:Option Nat) (ups:List (Nat × bg)):List (Nat × bg) × Cx:=
 match c.hs,dst,ups with
 | .b d xs::r,some d',[(b,B)]=>match Xqn d d' with
  |true=>([(b,{B with cells:=xs})],{c with hs:=r,ps:=(B.cells=xs)::c.ps})
  |false=>(ups,c)
 |_,_,_=>(ups,c)
def Q7 (c:Cx) (dst:Option Nat):Bool × Cx:=
 match c.hs,dst with
 | .u d::r,some d'=>match Xqn d d' with
  |true=>(true,{c with hs:=r})
  |false=>(false,c)
 |_,_=>(false,c)
abbrev dD:=Cx→AV→Nat→List AV→List bg→R (kG × List bg × AV)
def uO (rd:Nat→Option bg):Nat→List Nat→List Nat
 |0,l=>l
 |n+1,l=>
  let more:=l.flatMap fun b=>match rd b with|some B=>(match B.pr with|true=> []|false=>bV B.cells)|none=> []
  let l':=more.foldl (fun acc b=>if uf acc b then acc else acc++ [b]) l
  match Xqn l'.length l.length with|true=>l|false=>uO rd n l'
def frz (rd:Nat→Option bg):Nat→AV→Option AV
 |0,_=>none
 | fuel+1,x=>
  let frzL (l:List AV):Option (List AV):=kK (frz rd fuel) l
  match x with
  | .ref b ver i n=>(rd b).bind fun B=>match Xqn B.ver ver with
   |true=>match B.pr with
    |true=>some (.sl ((B.cells.drop (i*B.esz)).take (n*B.esz)) n true)
    |false=>(frzL ((B.cells.drop (i*B.esz)).take (n*B.esz))).map fun l=> .sl l n true
   |false=>none
  | .ptr b ver off=>(rd b).bind fun B=>match Xqn B.ver ver && !(Xqn B.esz iP) with
   |true=>match B.pr with
    |true=>some (.pp B.cells off)
    |false=>(frzL B.cells).map fun l=> .pp l off
   |false=>none
  | .mr b ver=>(rd b).bind fun B=>match Xqn B.ver ver && Xqn B.esz iP with
   |true=>match B.pr with
    |true=>abW B.cells
    |false=>(frzL B.cells).bind abW
   |false=>none
  | .agg l=>(frzL l).map .agg
  | .tup l=>(frzL l).map .tup
  | .fn f a c=>(frzL a).bind fun a=>(frzL c).map fun c=> .fn f a c
  | .ifc t v=>(frz rd fuel v).map (.ifc t)
  | .own _ _ _=>none
  |x=>some x
def qO (l:List Nat) (b:Nat):Option Nat:=match l with
 | []=>none
 |c::r=>match Xqn c b with|true=>some 0|false=>(qO r b).map (· +1)
def JZ (xs:List AV) (esz:Nat):bg:={cells:=xs,ver:=0,fro:=false,fz:=0,esz,pr:=true}
def fU (nid:Nat):List AV→List AV × List bg
 | []=>([],[])
 | .own xs n esz::r=>match fU (nid+1) r with|(l,bs)=>(.ref nid 0 0 n::l,JZ xs esz::bs)
 |x::r=>match fU nid r with|(l,bs)=>(x::l,bs)
def lW (nid:Nat):AV→AV × List bg
 | .tup l=>match fU nid l with|(l,bs)=>(.tup l,bs)
 | .own xs n esz=>(.ref nid 0 0 n,[JZ xs esz])
 |x=>(x,[])
def FT:Nat→List bg→List (Nat × bg)
 |_,[]=> []
 |n,B::r=>(n,B)::FT (n+1) r
def Ob:List Nat→List bg→List (Nat × bg)
 |b::r,B::q=>(b,B)::Ob r q
 |_,_=> []
def ui:List Nat→Bool
 | []=>true
 |b::r=> !uf r b && ui r
def Dk (ρ:Nat→Nat→Option (Nat × Nat)) (v:Nat) (B:bg):bg:={B with cells:=(match B.pr with|true=>B.cells|false=>nI ρ B.cells),ver:=v+B.ver}
def Qx (nid:Nat) (fp:List Nat) (vers:Nat→Nat) (n:Nat):Nat→Nat→Option (Nat × Nat):=fun p v=>
 match fp[p]? with
 |some b=>some (b,vers b+v)
 |none=>match Xjh p n with|true=>some (nid+(p - fp.length),v)|false=>none
structure V5 where
 out:kG
 ups:List (Nat × bg)
 fp:List Nat
 md:AV
def uY (ap:AP) (H:dD) (rd:Nat→Option bg) (nid:Nat) (md:AV) (f:Nat) (args:List AV) (c:Cx):R V5:=
 let fp:=uO rd 6 (jl (bV args))
 let rd:=fun b=>match uf fp b with|true=>rd b|false=>none
 let shared:=match ap.fnAt f with|some F=>F.shared|none=>false
 match shared with
 | false=>
  match kK (frz rd 6) args with
  |none=> .bad 10
  |some args'=>
   (H c md f args' []).bind fun (out,h',md) c=>
   match h' with
   |_::_=> .bad 14
   | []=>
   let mark:=fp.filterMap fun b=>(rd b).map fun B=>(b,{B with fro:=true,fz:=B.cells.length})
   match out with
   | .ret v=>match lW nid v with|(v,bs)=>match Xqc bs.length 4 with|true=> .ok {out:= .ret v,ups:=FT nid bs++mark,fp,md} c|false=> .bad 13
   | .pan v=> .ok {out:= .pan v,ups:=mark,fp,md} c
 | true=>
  let vers:=fun b=>match rd b with|some B=>B.ver|none=>0
  let ρ:Nat→Nat→Option (Nat × Nat):=fun b v=>match Xqn v (vers b) with|true=>(qO fp b).map fun p=>(p,0)|false=>none
  match kK rd fp with
  |none=> .bad 11
  | some bl=>
   (H c md f (nI ρ args) (bl.map fun B=> {B with cells:=(match B.pr with|true=>B.cells|false=>nI ρ B.cells),ver:=0})).bind fun (out,h',md) c=>
   match Xqc fp.length h'.length && ui fp with
   |false=> .bad 12
   |true=>
    let ρ':=Qx nid fp vers h'.length
    let ups:=(Ob fp h').map fun (b,B)=>(b,Dk ρ' (vers b) B)
    let ex:=(h'.drop fp.length).map (Dk ρ' 0)
    match out with
    | .ret v=>match lW (nid+(h'.length - fp.length)) (ren ρ' v) with|(v,bs)=>match Xqc ((h'.length - fp.length)+bs.length) 4 with|true=> .ok {out:= .ret v,ups:=FT nid (ex++bs)++ups,fp,md} c|false=> .bad 13
    | .pan v=>match Xqc (h'.length - fp.length) 4 with|true=> .ok {out:= .pan (ren ρ' v),ups:=FT nid (ex++ [])++ups,fp,md} c|false=> .bad 13
inductive bM where
 |normal
 |exit (id:Nat)
 |ret
 |panic (v:AV)
structure St where
 env:iT
 hp:Hp
 md:AV
 dfs:List (Nat × List AV)
structure Ee where
 rt:List Nat
 wt:List Nat
 rb:List Nat
 wb:List Nat
structure RS where
 env:iT
 hp:Hp
 md:AV
 dfs:List (Nat × List AV)
 dec:List (Nat × Bool)
 feet:List Ee
def v_ (l:List Operand):List Nat:=l.filterMap fun| .tmp t=>some t|_=>none
def Jo (o:Oper):List Nat:=match o.dst with|some d=> [d]|none=> []
def qU (env:iT) (dst:Option Nat) (v:AV):iT:=match dst with|some d=>(d,v)::env|none=>env
def rQ (ap:AP) (env:iT):Operand→AV
 | .tmp t=>env.get t
 | .const v=>FU v
 | .global g=>match (ap.gl[g]?).join with|some xs=> .pp xs 0|none=> .dead
 | .func f=> .fn f [] []
def O6 (ops:List Oper) (env:iT) (dec:List (Nat × Bool)) (o:Oper) (c:Cx):R (Bool × List (Nat × Bool)):=
 match o.guard with
 |none=> .ok (true,dec) c
 | some (j,want)=>
  match (ops[j]?).bind (·.dst) with
  |none=> .bad 20
  | some s=>match aB dec s with
   |some b=> .ok (lit want b,dec) c
   |none=>match env.get s with
    | .bool b=>(Az c b).bind fun b' c=> .ok (lit want b',(s,b')::dec) c
    | .tup []=> .ok (false,dec) c
    |_=> .bad 21
def jy (ops:List Oper) (o:Oper):List Nat:=
 match o.guard with
 |none=> []
 |some (j,_)=>match (ops[j]?).bind (·.dst) with|none=> []|some s=> [s]
def Xa (dec:List (Nat × Bool)) (o:Oper):Bool:=match o.dst with|none=>true|some d=>match aB dec d with|none=>true|some _=>false
def TB (ap:AP) (H:dD) (nid:Nat) (ops:List Oper) (o:Oper) (s:RS) (c:Cx):R (RS × Option AV):=
 (O6 ops s.env s.dec o c).bind fun (run,dec) c=>
 let rt:=v_ o.op.operands.toList++jy ops o
 match Xa dec o with
 |false=> .bad 35
 |true=>
 match run with
 |false=> .ok ({s with env:=qU s.env o.dst (.tup []),dec,feet:={rt,wt:=Jo o,rb:= [],wb:= []}::s.feet},none) c
 | true=>
  let ρ:=rQ ap s.env
  let rdAll:=aB s.hp
  match o.op with
  | .call {callee:= .value g,args,..}=>
   match ρ g with
   | .fn f first cap=>
    (uY ap H rdAll nid .dead f (first++args.toList.map ρ++cap) c).bind fun r c=>
    let foot:Ee:={rt,wt:=Jo o,rb:=r.fp,wb:=r.ups.map fun (q:Nat × bg)=>q.1}
    match Q7 c o.dst with
    | (true,c)=>match r.out with
     | .ret v=>match r.ups.all (fun (q:Nat × bg)=>uf r.fp q.1) with
      |true=> .ok ({s with env:=qU s.env o.dst v,dec,feet:={rt,wt:=Jo o,rb:=r.fp,wb:= []}::s.feet},none) {c with ps:=(r.ups.map (fun (q:Nat × bg)=>some q.2)=r.ups.map (fun (q:Nat × bg)=>aB s.hp q.1))::c.ps}
      |false=> .bad 36
     | .pan _=> .bad 37
    |(false,c)=>match r.out with
     | .ret v=> .ok ({s with env:=qU s.env o.dst v,hp:=r.ups++s.hp,dec,feet:=foot::s.feet},none) c
     | .pan v=> .ok ({s with hp:=r.ups++s.hp,dec,feet:=foot::s.feet},some v) c
   |_=> .bad 30
  | .call {callee:= .builtin .recover,..}=>
   match s.md with
   | .nilI=> .ok ({s with env:=qU s.env o.dst .nilI,dec,feet:={rt,wt:=Jo o,rb:= [],wb:= []}::s.feet},none) c
   | .ifc t v=> .ok ({s with env:=qU s.env o.dst (.ifc t v),md:= .nilI,dec,feet:={rt,wt:=Jo o,rb:= [],wb:= []}::s.feet},none) c
   |_=> .bad 33
  | .defer {callee:= .value g,args,..}=>
   match ρ g with
   | .fn f first cap=> .ok ({s with env:=qU s.env o.dst .dead,dfs:=(f,first++args.toList.map ρ++cap)::s.dfs,dec,feet:={rt,wt:=Jo o,rb:= [],wb:= []}::s.feet},none) c
   |_=> .bad 34
  | .panic x=>
   match ρ x with
   | .ifc t v=> .ok ({s with dec},some (.ifc t v)) c
   |_=> .bad 31
  | op=>
   let fp:=YP ρ op
   let rd:=fun b=>match uf fp b with|true=>rdAll b|false=>none
   let decs:Operand→Option Bool:=fun| .tmp t=>aB dec t|_=>none
   (match zi ρ op with|some n=>Az c (Xqn n 0)|none=> .ok false c).bind fun em c=>
   match opA ap nid ρ rd decs em op with
   |none=> .bad 32
   | some (v,ups,bs)=>(aaW c bs).bind fun _ c=>
    match EW c o.dst v with
    |(v,c)=>match EU c o.dst ups with
     |(ups,c)=> .ok ({s with env:=qU s.env o.dst v,hp:=ups++s.hp,dec,feet:={rt,wt:=Jo o,rb:=fp,wb:=ups.map fun (q:Nat × bg)=>q.1}::s.feet},none) c
def yz (ap:AP) (H:dD) (ops:List Oper):List Oper→Nat→RS→Cx→R (RS × Option AV)
 | [],_,s,c=> .ok (s,none) c
 | o::r,nid,s,c=>(TB ap H nid ops o s c).bind fun (s,p) c=>
  match p with
  |some v=> .ok (s,some v) c
  |none=>match s.feet with
   |f::_=>match f.wb.all (fun x=>Xjh x (nid+4)) with|true=>yz ap H ops r (nid+4) s c|false=> .bad 43
   | []=> .bad 44
def FC (a b:List Nat):Bool:=a.any (uf b)
def kC (a b:Ee):Bool:=FC a.wt b.rt||FC a.wt b.wt||FC a.rt b.wt||FC a.wb b.rb||FC a.wb b.wb||FC a.rb b.wb
def FW (n:Nat) (bef:List Nat) (feet:List Ee):Bool:=
 let l:=feet.reverse.zipIdx
 l.all fun (a,i)=>l.all fun (b,j)=> !(Xjh i j)|| !(kC a b||b.wb.any fun x=>Xqc (n+4*i) x && Xjh x (n+4*i+4))||(bef.getD j 0).testBit i
def EL (keep:List Nat) (env:iT):List Nat:=keep.flatMap fun t=>d_ (env.get t)
def norm (base:Nat) (keep:List Nat) (s:St):St:=
 let env:=s.env
 let hp:=s.hp
 let rd:=aB hp
 let ids:=uO rd 20 (jl (uO rd 20 (Xq9 base)++EL keep env++s.dfs.flatMap fun d=>bV d.2))
 let ids:=ids.filter fun b=>(rd b).isSome
 let ρ:Nat→Nat→Option (Nat × Nat):=fun b v=>match rd b with
  |some B=>match Xqn B.ver v with
   |true=>(qO ids b).map fun p=>(p,match Xjh p base with|true=>v|false=>0)
   |false=>none
  |none=>none
 {env:=keep.map fun t=>(t,ren ρ (env.get t))
  hp:=ids.zipIdx.filterMap fun (b,p)=>(rd b).map fun B=>(p,{B with cells:=(match B.pr with|true=>B.cells|false=>nI ρ B.cells),ver:=match Xjh p base with|true=>B.ver|false=>0})
  md:=s.md
  dfs:=s.dfs.map fun d=>(d.1,nI ρ d.2)}
def kY:Hp→Nat
 | []=>0
 |(b,_)::r=>match Xjh b (kY r) with|true=>kY r|false=>b+1
def zh (ops:List Oper):Bool:=ops.zipIdx.all fun (o,i)=>o.after.toList.all fun e=> !Region.binds .any e||Xjh e.on i
def J9 (ap:AP) (H:dD) (base:Nat) (keep:List Nat) (ops:List Oper) (draw:Bool) (s:St) (c:Cx):R (bM × St):=
 (yz ap H ops ops (kY s.hp) {env:=s.env,hp:=s.hp,md:=s.md,dfs:=s.dfs,dec:= [],feet:= []} c).bind fun (s',p) c=>
 match p with
 | some v=>match draw with
  |true=> .bad 40
  |false=>match (d_ v).isEmpty with
   |true=> .ok (.panic v,norm base keep ⟨s'.env,s'.hp,s'.md,s'.dfs⟩) c
   |false=> .ok (.panic v,⟨s'.env,s'.hp,s'.md,s'.dfs⟩) c
 |none=>
  match !draw||(FW (kY s.hp) (Region.before ops.toArray).toList s'.feet && zh ops && Xqn s'.dfs.length s.dfs.length) with
  |true=> .ok (.normal,norm base keep ⟨s'.env,s'.hp,s'.md,s'.dfs⟩) c
  |false=> .bad 41
def Rj (f:St→Cx→R (bM × St)):Nat→St→Cx→R (bM × St)
 |0,_,_=> .bad 50
 |n+1,s,c=>(f s c).bind fun (e,s) c=>match e with
  | .normal=>Rj f n s c
  |e=> .ok (e,s) c
def lK (ap:AP) (H:dD) (base:Nat) (keep:List Nat) (lf:Nat):Code→St→Cx→R (bM × St)
 | .skip,s,c=> .ok (.normal,s) c
 | .label _,s,c=> .ok (.normal,s) c
 | .region _ ops draw,s,c=>J9 ap H base keep ops.toList draw s c
 | .seq a b,s,c=>(lK ap H base keep lf a s c).bind fun (e,s) c=>match e with
  | .normal=>lK ap H base keep lf b s c
  |e=> .ok (e,s) c
 | .cond t a b,s,c=>match rQ ap s.env t with
  | .bool x=>(Az c x).bind fun x c=>match x with
   |true=>lK ap H base keep lf a s c
   |false=>lK ap H base keep lf b s c
  |_=> .bad 60
 | .block id b,s,c=>(lK ap H base keep lf b s c).bind fun (e,s) c=>match e with
  | .exit id'=>match Xqn id' id with|true=> .ok (.normal,s) c|false=> .ok (.exit id',s) c
  |e=> .ok (e,s) c
 | .loop b,s,c=>Rj (lK ap H base keep lf b) lf s c
 | .exit id,s,c=> .ok (.exit id,s) c
 | .ret,s,c=> .ok (.ret,s) c
 | .scope b,s,c=>lK ap H base keep lf b s c
 |_,_,_=> .bad 61
def zX (ap:AP) (env:iT) (hp:Hp):ResultVar→Option (AV × List Bool)
 | .tmp t=>some (env.get t,[])
 | .cell a t=>(ap.tyAt t).bind fun ti=>(MI ti (aB hp) (env.get a)).map fun (v,_,bs)=>(v,bs)
def gq (l:List Nat) (b:Nat):Nat:=(l.filter (Xqn b)).length
def abm (base:Nat) (rd:Nat→Option bg) (v:AV):Option AV:=
 let fp:=uO rd 6 (jl (d_ v))
 match fp.all (fun b=>Xqc base b) with
 |true=>frz (fun b=>match uf fp b with|true=>rd b|false=>none) 6 v
 |false=>none
def tX (base:Nat) (rd:Nat→Option bg) (all:List Nat) (v:AV):Option AV:=
 let frzO (v:AV):Option AV:=match (d_ v).all (fun b=>Xjh b base) with|true=>some v|false=>abm base rd v
 match v with
 | .ref b ver 0 n=>match rd b with
  |some B=>match Xqc base b && Xqn B.ver ver && !B.fro && B.pr && Xqn (gq all b) 1 && Xjh 0 B.esz with
   |true=>some (.own (B.cells.take (n*B.esz)) n B.esz)
   |false=>frzO v
  |none=>none
 |v=>frzO v
def ai (f:Func):Code:=f.body.getD .skip
def oU (md:AV) (args:List AV) (h:List bg):St:=
 {env:=args.zipIdx.map fun (x,i)=>(i,x),hp:=h.zipIdx.map fun (B,i)=>(i,B),md,dfs:= []}
def akc:AV→Bool
 | .nilI=>true
 | .ifc _ _=>true
 |_=>false
def E9 (ap:AP) (H:dD):List (Nat × List AV)→AV→Hp→Cx→R (AV × Hp)
 | [],mode,hp,c=> .ok (mode,hp) c
 |(f,args)::r,mode,hp,c=>
  match akc mode && (d_ mode).isEmpty with
  |false=> .bad 78
  |true=>
  (uY ap H (aB hp) (kY hp) mode f args c).bind fun q c=>
  match q.out with
  | .ret _=>E9 ap H r q.md (q.ups++hp) c
  | .pan _=> .bad 75
def VJ (rd:Nat→Option bg) (base:Nat):Nat:=(uO rd 20 (Xq9 base)).length
def wQ (ap:AP) (base:Nat) (F:Func) (env:iT) (hp:Hp) (c:Cx):R (kG × List bg):=
 let rd:=aB hp
 let n:=VJ rd base
 match kK (zX ap env hp) F.results.toList,kK rd (Xq9 n) with
 |some vs,some h'=>
  match h'.all (fun B=>B.pr||(bV B.cells).all fun b=>Xjh b n) with
  |false=> .bad 76
  |true=>
  (aaW c (vs.flatMap fun (q:AV × List Bool)=>q.2)).bind fun _ c=>
  let all:=vs.flatMap fun (q:AV × List Bool)=>uO rd 6 (jl (d_ q.1))
  match kK (tX n rd all) (vs.map fun (q:AV × List Bool)=>q.1) with
  |some [v]=> .ok (.ret v,h') c
  |some l=> .ok (.ret (.tup l),h') c
  |none=> .bad 70
 |_,_=> .bad 71
def J4 (base:Nat) (v:AV) (hp:Hp) (c:Cx):R (kG × List bg):=
 let n:=VJ (aB hp) base
 match tX n (aB hp) (uO (aB hp) 6 (jl (d_ v))) v,kK (aB hp) (Xq9 n) with
 |some v,some h'=>
  match h'.all (fun B=>B.pr||(bV B.cells).all fun b=>Xjh b n) with
  |false=> .bad 77
  |true=> .ok (.pan v,h') c
 |_,_=> .bad 72
def DN (ap:AP) (H:dD) (base:Nat) (F:Func) (e:bM) (s:St) (c:Cx):R (kG × List bg × AV):=
 let go (mode:AV):R (kG × List bg × AV):=
  (E9 ap H s.dfs mode s.hp c).bind fun (mode,hp) c=>
  match mode with
  | .nilI=>(wQ ap base F s.env hp c).bind fun (o,h) c=> .ok (o,h,s.md) c
  | .ifc t v=>(J4 base (.ifc t v) hp c).bind fun (o,h) c=> .ok (o,h,s.md) c
  |_=> .bad 74
 match e with
 | .normal| .ret=>go .nilI
 | .panic (.ifc t v)=>match (d_ v).isEmpty with|true=>go (.ifc t v)|false=> .bad 79
 |_=> .bad 73
def Wy (ap:AP) (H:dD) (lf:Nat) (md:AV) (F:AF) (args:List AV) (h:List bg) (c:Cx):R (kG × List bg × AV):=
 match ai F.fn with
 | .seq (.region _ ops false) rest=>
  match ops.toList with
  | o ::r=>
   match o.op,o.guard,o.dst with
   | .call {callee:= .builtin .recover,..},none,some d=>
    let s0:=oU .dead args h
    (yz ap H (o::r) r (kY s0.hp) {env:=(d,md)::s0.env,hp:=s0.hp,md:= .dead,dfs:= [],dec:= [],feet:= []} c).bind fun (s,p) c=>
    match p with
    |some _=> .bad 81
    | none=>(lK ap H h.length F.keep lf rest (norm h.length F.keep ⟨s.env,s.hp,s.md,s.dfs⟩) c).bind fun (e,s) c=>
     match s.dfs with
     |_::_=> .bad 82
     | []=>match e with
      | .normal| .ret=>(wQ ap h.length F.fn s.env s.hp c).bind fun (o,h) c=> .ok (o,h,.nilI) c
      |_=> .bad 83
   |_,_,_=> .bad 84
  | []=> .bad 85
 |_=> .bad 86
def uX (ap:AP) (H:dD) (lf:Nat) (md:AV) (f:Nat) (args:List AV) (h:List bg) (c:Cx):R (kG × List bg × AV):=
 match ap.fnAt f with
 |none=> .bad 80
 |some F=>match md with
  | .dead=>(lK ap H h.length F.keep lf (ai F.fn) (oU .dead args h) c).bind fun (e,s) c=>DN ap H h.length F.fn e s c
  |md=>match akc md && (d_ md).isEmpty with|true=>Wy ap H lf md F args h c|false=> .bad 87
theorem xH {S:aZ}:∀ {l:List AV} {vs:List Value},eG S l vs→l.length=vs.length
 | [],[],_=>rfl
 |_::_,_::_,h=>by simp only [eG] at h;simp [xH h.2]
 | [],_::_,h=>by simp [eG] at h
 |_::_,[],h=>by simp [eG] at h
theorem bZ {g:dJ} {m:bf} {S:aZ}:∀ {l:List AV} {vs:List Value},bF g m S l vs→l.length=vs.length
 | [],[],_=>rfl
 |_::_,_::_,h=>by simp only [bF] at h;simp [bZ h.2]
 | [],_::_,h=>by simp [bF] at h
 |_::_,[],h=>by simp [bF] at h
theorem sZ {g:dJ} {m:bf} {S:aZ}:∀ {l:List AV} {vs:List Value} (_:bF g m S l vs) (i:Nat) {x:AV},l[i]? =some x→∃ v,vs[i]? =some v∧VR g m S x v
 | [],[],_,i,x,hx=>by simp at hx
 |a::l,v::vs,h,0,x,hx=>by simp only [bF] at h;simp at hx;subst hx;exact ⟨v,rfl,h.1⟩
 |a::l,v::vs,h,i+1,x,hx=>by simp only [bF] at h;simp at hx;simpa using sZ h.2 i hx
 | [],_::_,h,_,_,_=>by simp [bF] at h
 |_::_,[],h,_,_,_=>by simp [bF] at h
theorem oK {S:aZ}:∀ {l l':List AV} {vs vs':List Value},eG S l vs→eG S l' vs'→eG S (l++l') (vs++vs')
 | [],_,[],_,_,h'=>by simpa using h'
 |_::_,_,_::_,_,h,h'=>by simp only [eG] at h;simp only [Xxd,eG];exact ⟨h.1,oK h.2 h'⟩
 | [],_,_::_,_,h,_=>by simp [eG] at h
 |_::_,_,[],_,h,_=>by simp [eG] at h
theorem iC {g:dJ} {m:bf} {S:aZ}:∀ {l l':List AV} {vs vs':List Value},bF g m S l vs→bF g m S l' vs'→bF g m S (l++l') (vs++vs')
 | [],_,[],_,_,h'=>by simpa using h'
 |_::_,_,_::_,_,h,h'=>by simp only [bF] at h;simp only [Xxd,bF];exact ⟨h.1,iC h.2 h'⟩
 | [],_,_::_,_,h,_=>by simp [bF] at h
 |_::_,_,[],_,h,_=>by simp [bF] at h
theorem kN {S:aZ}:∀ (n:Nat) {l:List AV} {vs:List Value},eG S l vs→eG S (l.take n) (vs.take n)
 |0,_,_,_=>by simp [eG]
 |n+1,[],[],_=>by simp [eG]
 |n+1,_::_,_::_,h=>by simp only [eG] at h;simp only [Xx6,eG];exact ⟨h.1,kN n h.2⟩
 |_+1,[],_::_,h=>by simp [eG] at h
 |_+1,_::_,[],h=>by simp [eG] at h
theorem rq {S:aZ}:∀ (n:Nat) {l:List AV} {vs:List Value},eG S l vs→eG S (l.drop n) (vs.drop n)
 |0,_,_,h=>by simpa using h
 |n+1,[],[],_=>by simp [eG]
 |n+1,_::_,_::_,h=>by simp only [eG] at h;simpa using rq n h.2
 |_+1,[],_::_,h=>by simp [eG] at h
 |_+1,_::_,[],h=>by simp [eG] at h
theorem rE {g:dJ} {m:bf} {S:aZ}:∀ (n:Nat) {l:List AV} {vs:List Value},bF g m S l vs→bF g m S (l.take n) (vs.take n)
 |0,_,_,_=>by simp [bF]
 |n+1,[],[],_=>by simp [bF]
 |n+1,_::_,_::_,h=>by simp only [bF] at h;simp only [Xx6,bF];exact ⟨h.1,rE n h.2⟩
 |_+1,[],_::_,h=>by simp [bF] at h
 |_+1,_::_,[],h=>by simp [bF] at h
theorem uT {g:dJ} {m:bf} {S:aZ}:∀ (n:Nat) {l:List AV} {vs:List Value},bF g m S l vs→bF g m S (l.drop n) (vs.drop n)
 |0,_,_,h=>by simpa using h
 |n+1,[],[],_=>by simp [bF]
 |n+1,_::_,_::_,h=>by simp only [bF] at h;simpa using uT n h.2
 |_+1,[],_::_,h=>by simp [bF] at h
 |_+1,_::_,[],h=>by simp [bF] at h
theorem kP.mono {S S':aZ} (h:pY S S') {b o:Nat} {vs:List Value} (hs:kP S b o vs):kP S' b o vs:=fun j u a=> ⟨h _ _ _ (hs j u a).1,(hs j u a).2⟩
mutual
theorem dF {S S':aZ} (h:pY S S'):∀ (x:AV) {v:Value},PR S x v→PR S' x v
 | .int _ _,_,p=>by simpa only [PR] using p
 | .bool _,_,p=>by simpa only [PR] using p
 | .str _,_,p=>by simpa only [PR] using p
 | .nilS,_,p=>by simpa only [PR] using p
 | .nilP,_,p=>by simpa only [PR] using p
 | .nilF,_,p=>by simpa only [PR] using p
 | .nilI,_,p=>by simpa only [PR] using p
 | .dead,_,_=>by simp only [PR]
 | .agg l,_,p=>by
  simp only [PR] at p ⊢;obtain ⟨vs,e,q⟩:=p;exact ⟨vs,e,dE h l q⟩
 | .tup l,_,p=>by
  simp only [PR] at p ⊢;obtain ⟨vs,e,q⟩:=p;exact ⟨vs,e,dE h l q⟩
 | .sl xs n nn,_,p=>by
  simp only [PR] at p ⊢;obtain ⟨a,i,e,d,q⟩:=p;refine ⟨a,i,e,d, ?_⟩;rcases q with q|⟨b,o,vs,C,q,hs⟩
  ·exact .inl q
  ·exact .inr ⟨b,o,vs,C,dE h xs q,hs.mono h⟩
 | .pp xs off,_,p=>by
  simp only [PR] at p ⊢;obtain ⟨b,o,vs,e,q,hs⟩:=p;exact ⟨b,o,vs,e,dE h xs q,hs.mono h⟩
 | .mp ks vs,_,p=>by
  simp only [PR] at p ⊢;rcases p with p|⟨b,A,s,e,y,D,z,j⟩
  ·exact .inl p
  ·exact .inr ⟨b,A,s,e,h _ _ _ y,h _ _ _ D,dE h ks z,dE h vs j⟩
 | .fn f a c,_,p=>by
  simp only [PR] at p ⊢;obtain ⟨B,k,e,q,r⟩:=p;exact ⟨B,k,e,dE h a q,dE h c r⟩
 | .ifc t x,_,p=>by
  simp only [PR] at p ⊢;obtain ⟨u,e,q⟩:=p;exact ⟨u,e,dF h x q⟩
 | .ref _ _ _ _,_,p=>by simp only [PR] at p
 | .ptr _ _ _,_,p=>by simp only [PR] at p
 | .mr _ _,_,p=>by simp only [PR] at p
 | .own _ _ _,_,p=>by simp only [PR] at p
theorem dE {S S':aZ} (h:pY S S'):∀ (l:List AV) {vs:List Value},eG S l vs→eG S' l vs
 | [],[],_=>by simp only [eG]
 |x::r,v::vs,p=>by simp only [eG] at p ⊢;exact ⟨dF h x p.1,dE h r p.2⟩
 | [],_::_,p=>by simp [eG] at p
 |_::_,[],p=>by simp [eG] at p
end
mutual
theorem iG {g:dJ} {m:bf} {S:aZ}:∀ (x:AV) {v:Value},PR S x v→VR g m S x v
 | .int _ _,_,p=>by simpa only [VR] using p
 | .bool _,_,p=>by simpa only [VR] using p
 | .str _,_,p=>by simpa only [VR] using p
 | .nilS,_,p=>by simpa only [VR] using p
 | .nilP,_,p=>by simpa only [VR] using p
 | .nilF,_,p=>by simpa only [VR] using p
 | .nilI,_,p=>by simpa only [VR] using p
 | .sl _ _ _,_,p=>by simpa only [VR] using p
 | .pp _ _,_,p=>by simpa only [VR] using p
 | .mp _ _,_,p=>by simpa only [VR] using p
 | .dead,_,_=>by simp only [VR]
 | .agg l,_,p=>by
  simp only [PR] at p;simp only [VR];obtain ⟨vs,e,q⟩:=p;exact ⟨vs,e,b_ l q⟩
 | .tup l,_,p=>by
  simp only [PR] at p;simp only [VR];obtain ⟨vs,e,q⟩:=p;exact ⟨vs,e,b_ l q⟩
 | .fn f a c,_,p=>by
  simp only [PR] at p;simp only [VR];obtain ⟨b,d,e,q,r⟩:=p;exact ⟨b,d,e,b_ a q,b_ c r⟩
 | .ifc t x,_,p=>by
  simp only [PR] at p;simp only [VR];obtain ⟨u,e,q⟩:=p;exact ⟨u,e,iG x q⟩
 | .ref _ _ _ _,_,p=>by simp only [PR] at p
 | .ptr _ _ _,_,p=>by simp only [PR] at p
 | .mr _ _,_,p=>by simp only [PR] at p
 | .own _ _ _,_,p=>by simp only [PR] at p
theorem b_ {g:dJ} {m:bf} {S:aZ}:∀ (l:List AV) {vs:List Value},eG S l vs→bF g m S l vs
 | [],[],_=>by simp only [bF]
 |x::r,v::vs,p=>by simp only [eG] at p;simp only [bF];exact ⟨iG x p.1,b_ r p.2⟩
 | [],_::_,p=>by simp [eG] at p
 |_::_,[],p=>by simp [eG] at p
end
def uH (g:dJ) (m:bf) (g':dJ) (m':bf) (ρ:Nat→Nat→Option (Nat × Nat)):Prop:=
 ∀ b ver b' ver',ρ b ver=some (b',ver')→∀ B,g b=some B→ver≤B.ver→
  ∃ B',g' b'=some B'∧ver'≤B'.ver∧(B'.ver=ver'→B.ver=ver∧m' b'=m b∧B'.esz=B.esz)
mutual
theorem Au {g g':dJ} {m G:bf} {S S':aZ} {ρ:Nat→Nat→Option (Nat × Nat)} (j:pY S S') (h:uH g m g' G ρ):∀ (x:AV) {v:Value},VR g m S x v→VR g' G S' (ren ρ x) v
 | .int k n,_,p=>by simp only [VR] at p;simp only [ren,VR];exact dF j _ p
 | .bool _,_,p=>by simp only [VR] at p;simp only [ren,VR];exact dF j _ p
 | .str _,_,p=>by simp only [VR] at p;simp only [ren,VR];exact dF j _ p
 | .nilS,_,p=>by simp only [VR] at p;simp only [ren,VR];exact dF j _ p
 | .nilP,_,p=>by simp only [VR] at p;simp only [ren,VR];exact dF j _ p
 | .nilF,_,p=>by simp only [VR] at p;simp only [ren,VR];exact dF j _ p
 | .nilI,_,p=>by simp only [VR] at p;simp only [ren,VR];exact dF j _ p
 | .sl _ _ _,_,p=>by simp only [VR] at p;simp only [ren,VR];exact dF j _ p
 | .pp _ _,_,p=>by simp only [VR] at p;simp only [ren,VR];exact dF j _ p
 | .mp _ _,_,p=>by simp only [VR] at p;simp only [ren,VR];exact dF j _ p
 | .dead,_,_=>by simp only [ren,VR]
 | .own _ _ _,_,p=>by simp only [VR] at p
 | .agg l,_,p=>by
  simp only [VR] at p;simp only [ren,VR];obtain ⟨vs,e,q⟩:=p;exact ⟨vs,e,kQ j h l q⟩
 | .tup l,_,p=>by
  simp only [VR] at p;simp only [ren,VR];obtain ⟨vs,e,q⟩:=p;exact ⟨vs,e,kQ j h l q⟩
 | .fn f a c,_,p=>by
  simp only [VR] at p;simp only [ren,VR];obtain ⟨J,I,e,q,r⟩:=p;exact ⟨J,I,e,kQ j h a q,kQ j h c r⟩
 | .ifc t x,_,p=>by
  simp only [VR] at p;simp only [ren,VR];obtain ⟨u,e,q⟩:=p;exact ⟨u,e,Au j h x q⟩
 | .ref b ver i n,_,p=>by
  simp only [VR] at p;simp only [ren];obtain ⟨B,C,A,y,q⟩:=p;cases hρ:ρ b ver with
  |none=>simp only [VR]
  |some bv=>
   obtain ⟨F,d⟩:=bv;obtain ⟨B',o,s,z⟩:=h b ver F d hρ B C A;simp only [VR];refine ⟨B',o,s,y,fun e=> ?_⟩;obtain ⟨E,D,H⟩:=z e;rw [D,H];exact q E
 | .ptr b ver off,_,p=>by
  simp only [VR] at p;simp only [ren];obtain ⟨B,C,A,y,q⟩:=p;cases hρ:ρ b ver with
  |none=>simp only [VR]
  |some bv=>
   obtain ⟨F,d⟩:=bv;obtain ⟨B',o,s,z⟩:=h b ver F d hρ B C A;simp only [VR];refine ⟨B',o,s,y,fun e=> ?_⟩;obtain ⟨E,D,_⟩:=z e;rw [D];exact q E
 | .mr b ver,_,p=>by
  simp only [VR] at p;simp only [ren];obtain ⟨B,C,A,y,q⟩:=p;cases hρ:ρ b ver with
  |none=>simp only [VR]
  |some bv=>
   obtain ⟨F,d⟩:=bv;obtain ⟨B',o,s,z⟩:=h b ver F d hρ B C A;simp only [VR];refine ⟨B',o,s,y,fun e=> ?_⟩;obtain ⟨E,D,_⟩:=z e;rw [D];exact q E
theorem kQ {g g':dJ} {m b:bf} {S S':aZ} {ρ:Nat→Nat→Option (Nat × Nat)} (a:pY S S') (h:uH g m g' b ρ):∀ (l:List AV) {vs:List Value},bF g m S l vs→bF g' b S' (nI ρ l) vs
 | [],[],_=>by simp only [nI,bF]
 |x::r,v::vs,p=>by simp only [bF] at p;simp only [nI,bF];exact ⟨Au a h x p.1,kQ a h r p.2⟩
 | [],_::_,p=>by simp [bF] at p
 |_::_,[],p=>by simp [bF] at p
end
def Ge (g:dJ) (m:bf) (g':dJ) (m':bf):Prop:=
 ∀ b B,g b=some B→∃ B',g' b=some B'∧B'.esz=B.esz∧((B'.ver=B.ver∧m' b=m b)∨B.ver<B'.ver)
theorem Ge.refl (g:dJ) (m:bf):Ge g m g m:=fun _ B h=> ⟨B,h,rfl,.inl ⟨rfl,rfl⟩⟩
theorem Ge.trans {g g' i:dJ} {m k f:bf} (h:Ge g m g' k) (l:Ge g' k i f):Ge g m i f:=by
 intro b B q;obtain ⟨B',j,e,c⟩:=h b B q;obtain ⟨B'',a,e',s⟩:=l b B' j;refine ⟨B'',a,e'.trans e, ?_⟩;rcases c with ⟨r,o⟩|c<;>rcases s with ⟨p,n⟩|d
 ·exact .inl ⟨p.trans r,n.trans o⟩
 ·exact .inr (by omega)
 ·exact .inr (by omega)
 ·exact .inr (by omega)
mutual
theorem qj {g g':dJ} {m D:bf} {S S':aZ} (o:pY S S') (h:Ge g m g' D):∀ (x:AV) {v:Value},VR g m S x v→VR g' D S' x v
 | .int k n,_,p=>by simp only [VR] at p ⊢;exact dF o _ p
 | .bool _,_,p=>by simp only [VR] at p ⊢;exact dF o _ p
 | .str _,_,p=>by simp only [VR] at p ⊢;exact dF o _ p
 | .nilS,_,p=>by simp only [VR] at p ⊢;exact dF o _ p
 | .nilP,_,p=>by simp only [VR] at p ⊢;exact dF o _ p
 | .nilF,_,p=>by simp only [VR] at p ⊢;exact dF o _ p
 | .nilI,_,p=>by simp only [VR] at p ⊢;exact dF o _ p
 | .sl _ _ _,_,p=>by simp only [VR] at p ⊢;exact dF o _ p
 | .pp _ _,_,p=>by simp only [VR] at p ⊢;exact dF o _ p
 | .mp _ _,_,p=>by simp only [VR] at p ⊢;exact dF o _ p
 | .dead,_,_=>by simp only [VR]
 | .own _ _ _,_,p=>by simp only [VR] at p
 | .agg l,_,p=>by
  simp only [VR] at p ⊢;obtain ⟨vs,e,q⟩:=p;exact ⟨vs,e,mM o h l q⟩
 | .tup l,_,p=>by
  simp only [VR] at p ⊢;obtain ⟨vs,e,q⟩:=p;exact ⟨vs,e,mM o h l q⟩
 | .fn f a c,_,p=>by
  simp only [VR] at p ⊢;obtain ⟨G,F,e,q,r⟩:=p;exact ⟨G,F,e,mM o h a q,mM o h c r⟩
 | .ifc t x,_,p=>by
  simp only [VR] at p ⊢;obtain ⟨u,e,q⟩:=p;exact ⟨u,e,qj o h x q⟩
 | .ref b ver i n,_,p=>by
  simp only [VR] at p ⊢;obtain ⟨B,z,C,j,q⟩:=p;obtain ⟨B',d,A,s⟩:=h b B z;rcases s with ⟨E,y⟩|c
  ·refine ⟨B',d,by omega,j,fun e=> ?_⟩;rw [y,A];exact q (by omega)
  ·exact ⟨B',d,by omega,j,fun e=>by omega⟩
 | .ptr b ver off,_,p=>by
  simp only [VR] at p ⊢;obtain ⟨B,z,C,j,q⟩:=p;obtain ⟨B',d,A,s⟩:=h b B z;rcases s with ⟨E,y⟩|c
  ·refine ⟨B',d,by omega,j,fun e=> ?_⟩;rw [y];exact q (by omega)
  ·exact ⟨B',d,by omega,j,fun e=>by omega⟩
 | .mr b ver,_,p=>by
  simp only [VR] at p ⊢;obtain ⟨B,z,C,j,q⟩:=p;obtain ⟨B',d,A,s⟩:=h b B z;rcases s with ⟨E,y⟩|c
  ·refine ⟨B',d,by omega,j,fun e=> ?_⟩;rw [y];exact q (by omega)
  ·exact ⟨B',d,by omega,j,fun e=>by omega⟩
theorem mM {g g':dJ} {m b:bf} {S S':aZ} (a:pY S S') (h:Ge g m g' b):∀ (l:List AV) {vs:List Value},bF g m S l vs→bF g' b S' l vs
 | [],[],_=>by simp only [bF]
 |x::r,v::vs,p=>by simp only [bF] at p ⊢;exact ⟨qj a h x p.1,mM a h r p.2⟩
 | [],_::_,p=>by simp [bF] at p
 |_::_,[],p=>by simp [bF] at p
end
def V7 (ap:AP) (S:aZ):Prop:=∀ k xs,(ap.gl[k]?).join=some xs→∃ vs,eG S xs vs∧kP S k 0 vs
structure iU (P:Program) (ap:AP):Prop where
 ty:∀ t ti,ap.tyAt t=some ti→Zx P t=some ti
def yc (es:Array MapEntry):Array Value:=#[.agg (es.map (·.key)),.agg (es.map (·.val))]
def jI (w:World) (k z:Nat) (cur:Array Value) (e:TypeId):Prop:=
 (z ≠ iP∧w.heap[k]? =some (.cells cur e (0,0)))∨(z=iP∧∃ es clk,w.heap[k]? =some (.map es clk)∧cur=yc es)
def kR (w:World) (k o:Nat):Option Value:=match w.heap[k]? with
 |some (.map es _)=>(yc es)[o]?
 |_=>match w.cell? ⟨k,o,none⟩ with|some v=>if v.oneCell' then some v else none|none=>none
theorem jI.of {w:World} {k z:Nat} {cur:Array Value} {e:TypeId} (a:z ≠ iP) (h:w.heap[k]? =some (.cells cur e (0,0))):jI w k z cur e:= .inl ⟨a,h⟩
theorem jI.cells {w:World} {k z:Nat} {cur:Array Value} {e:TypeId} (h:jI w k z cur e) (a:z ≠ iP):w.heap[k]? =some (.cells cur e (0,0)):=by
 rcases h with h|h
 ·exact h.2
 ·exact absurd h.1 a
theorem jI.map {w:World} {k z:Nat} {cur:Array Value} {e:TypeId} (h:jI w k z cur e) (a:z=iP):∃ es clk,w.heap[k]? =some (.map es clk)∧cur=yc es:=by
 rcases h with h|h
 ·exact absurd a h.1
 ·exact h.2
theorem jI.same {w w':World} {k z:Nat} {cur:Array Value} {e:TypeId} (h:jI w k z cur e) (a:w'.heap[k]? =w.heap[k]?):jI w' k z cur e:=by
 unfold jI;rw [a];exact h
theorem jI.lt {w:World} {k z:Nat} {cur:Array Value} {e:TypeId} (h:jI w k z cur e):k<w.heap.size:=by
 rcases h with ⟨_,h⟩|⟨_,b,a,h,_⟩<;>exact (Array.getElem?_eq_some_iff.1 h).1
theorem OC {w w':World} {k o:Nat} (b:w'.heap[k]? =w.heap[k]?):kR w' k o=kR w k o:=by
 unfold kR;rw [b,World.cell?_of_block (w:=w) (a:=⟨k,o,none⟩) b]
theorem AA {w:World} {k o:Nat} {v:Value} (h:kR w k o=some v) (a:v.oneCell'=true):w.cell? ⟨k,o,none⟩=some v:=by
 unfold kR at h;split at h
 ·rename_i f b e;exfalso;unfold yc at h;rcases (show o=0∨o=1∨2≤o by omega) with rfl|rfl|ho
  ·cases h;cases a
  ·cases h;cases a
  ·rw [Array.getElem?_eq_none (by simpa using ho)] at h;cases h
 ·split at h
  ·rename_i d c;split at h
   ·cases h;exact c
   ·cases h
  ·cases h
theorem Ew {w:World} {k o:Nat} {v:Value} (h:w.cell? ⟨k,o,none⟩=some v) (b:v.oneCell'=true):kR w k o=some v:=by
 unfold kR;split
 ·rename_i d a c;unfold World.cell? at h;simp only [c] at h;cases h
 ·rw [h];simp only;rw [if_pos b]
theorem wE {w:World} {k o:Nat} {v:Value} (h:kR w k o=some v) (d:v.oneCell'=false):∃ b a,w.heap[k]? =some (.map b a)∧(yc b)[o]? =some v:=by
 unfold kR at h;split at h
 ·rename_i b a e;exact ⟨b,a,e,h⟩
 ·split at h
  ·split at h
   ·rename_i c;cases h;rw [d] at c;cases c
   ·cases h
  ·cases h
theorem WB {w:World} {k o:Nat} {v:Value} (h:kR w k o=some v):k<w.heap.size:=by
 cases a:v.oneCell' with
 |true=>exact World.block_lt_of_cell? w _ (AA h a)
 |false=>
  obtain ⟨_,_,b,_⟩:=wE h a;exact (Array.getElem?_eq_some_iff.1 b).1
structure TY (g:dJ) (m:bf) (S:aZ) (w:World) (B:bg) (k c:Nat):Prop where
 lies:∃ cur e vs rest,jI w k B.esz cur e∧cur.toList=vs++rest∧(B.pr=true→eG S B.cells vs)∧bF g m S B.cells vs∧(B.esz ≠ iP→∀ u ∈ vs,u.oneCell'=true)∧(0<B.esz→B.esz ≠ iP→cur.size=c*B.esz∧c≤maxLen)
 fz0:B.fro=false→B.fz=0
 fzle:B.fz≤B.cells.length
structure bY (ap:AP) (g:dJ) (m:bf) (S:aZ) (w:World):Prop where
 inj:∀ b b' B B',g b=some B→g b'=some B'→(m b).1=(m b').1→b=b'
 blk:∀ b B,g b=some B→TY g m S w B (m b).1 (m b).2
 sealed:∀ k o v,S k o=some v→kR w k o=some v
 own:∀ b B,g b=some B→∀ o v,S (m b).1 o=some v→B.fro=true∧o<B.fz
 glob:V7 ap S
structure Fr (g:dJ) (m:bf) (S:aZ) (w:World) (g':dJ) (m':bf) (S':aZ) (w':World):Prop where
 ge:Ge g m g' m'
 sle:pY S S'
 os:w'.os=w.os
 tape:w'.tape=w.tape
 output:w'.output=w.output
 size:w.heap.size≤w'.heap.size
 rest:∀ k,k<w.heap.size→(∀ b B,g b=some B→(m b).1 ≠ k)→w'.heap[k]? =w.heap[k]?
 img:∀ b B,g' b=some B→w.heap.size≤(m' b).1∨(∃ B0,g b=some B0∧(m' b).1=(m b).1)
 sealN:∀ k o v,S' k o=some v→S k o=some v∨w.heap.size≤k∨∃ b B,g b=some B∧(m b).1=k
theorem Fr.refl (g:dJ) (m:bf) (S:aZ) (w:World):Fr g m S w g m S w:=
 ⟨Ge.refl g m,pY.refl S,rfl,rfl,rfl,Δ _,fun _ _ _=>rfl,fun _ B h=> .inr ⟨B,h,rfl⟩,fun _ _ _ h=> .inl h⟩
theorem Fr.trans {g g' n:dJ} {m r j:bf} {S S' S'':aZ} {w w' l:World} (h:Fr g m S w g' r S' w') (d:Fr g' r S' w' n j S'' l):Fr g m S w n j S'' l:=by
 refine ⟨h.ge.trans d.ge,h.sle.trans d.sle,d.os.trans h.os,d.tape.trans h.tape,d.output.trans h.output,Xxr h.size d.size, ?_, ?_, ?_⟩
 ·intro k s t;rw [d.rest k (Nat.lt_of_lt_of_le s h.size) ?_,h.rest k s t];intro b B i e;rcases h.img b B i with c|⟨B0,a,c⟩
  ·omega
  ·exact t b B0 a (c ▸ e)
 ·intro b B i;rcases d.img b B i with c|⟨B0,a,c⟩
  ·exact .inl (Xxr h.size c)
  ·rcases h.img b B0 a with p|⟨B1,q,p⟩
   ·exact .inl (c ▸ p)
   ·exact .inr ⟨B1,q,c.trans p⟩
 ·intro k o v u;rcases d.sealN k o v u with f|f|⟨b,B,i,f⟩
  ·exact h.sealN k o v f
  ·exact .inr (.inl (Xxr h.size f))
  ·rcases h.img b B i with c|⟨B0,a,c⟩
   ·exact .inr (.inl (f ▸ c))
   ·exact .inr (.inr ⟨b,B0,a,by rw [← f,c]⟩)
theorem bY.lt {ap:AP} {g:dJ} {m:bf} {S:aZ} {w:World} (h:bY ap g m S w) {b:Nat} {B:bg} (c:g b=some B):(m b).1<w.heap.size:=by
 obtain ⟨cur,e,vs,rest,a,_⟩:=(h.blk b B c).lies;exact a.lt
theorem bY.one {ap:AP} {g:dJ} {m:bf} {S:aZ} {w:World} (h:bY ap g m S w) {k o:Nat} {v:Value} (a:S k o=some v) (b:v.oneCell'=true):w.cell? ⟨k,o,none⟩=some v:=AA (h.sealed k o v a) b
theorem uZ {w:World} {k j:Nat} {cur:Array Value} {e:TypeId} {a:Nat × Nat} (h:w.heap[k]? =some (.cells cur e a)):w.cell? ⟨k,j,none⟩=cur.toList[j]? :=by
 rw [cell_of_row w k j cur e a h];simp
theorem jI.get {w:World} {k z j:Nat} {cur:Array Value} {e:TypeId} {u:Value} (h:jI w k z cur e) (a:cur.toList[j]? =some u) (d:z ≠ iP→u.oneCell'=true):kR w k j=some u:=by
 rcases h with ⟨c,h⟩|⟨_,f,b,h,rfl⟩
 ·exact Ew (by rw [uZ h];exact a) (d c)
 ·unfold kR;rw [h];simpa using a
theorem gu {a b:IntKind} (h:iQ a b=true):a=b:=by cases a<;>cases b<;>first|rfl|(exact absurd h (by decide))
theorem aU {a b:Nat} (h:Xqn a b=true):a=b:=Nat.eq_of_beq_eq_true h
theorem gB {a b:Nat} (h:Xqc a b=true):a≤b:=Nat.le_of_ble_eq_true h
theorem gG {a b:Nat} (h:Xjh a b=true):a<b:=by
 have:Xqc (a+1) b=true:=h;exact gB this
theorem aes {S:aZ} {x:AV} {v:Value} (h:PR S x v) (a:oW x=true):v.oneCell'=true:=by
 cases x<;>simp only [PR] at h<;>first
  |(subst h;rfl)
  |(rcases h with ⟨rfl,_⟩|⟨_,_,_,rfl,_⟩<;>rfl)
  |(obtain ⟨_,_,_,rfl,_⟩:=h;rfl)
  |(obtain ⟨_,_,rfl,_⟩:=h;rfl)
  |(obtain ⟨_,rfl,_⟩:=h;first|rfl|exact absurd a (by simp [oW]))
  |(exact absurd a (by simp [oW]))
theorem Om {g:dJ} {m:bf} {S:aZ} {x:AV} {v:Value} (h:VR g m S x v) (a:oW x=true):v.oneCell'=true:=by
 cases x<;>simp only [VR] at h<;>first
  | (exact aes h a)
    |(obtain ⟨_,_,_,⟨_,_,rfl⟩,_⟩:=h;rfl)
  |(obtain ⟨_,_,_,⟨_,_,_,rfl⟩,_⟩:=h;rfl)
  |(obtain ⟨_,_,rfl,_⟩:=h;rfl)
  |(obtain ⟨_,rfl,_⟩:=h;first|rfl|exact absurd a (by simp [oW]))
  |(exact absurd a (by simp [oW]))
end AM
namespace AM
open Go
structure Dx (P:Program) (t:Nat) (ti:TI) (i:TypeInfo) (d:TypeDesc) (z:Value):Prop where
 info:P.info? t=some i
 und:P.underlying t=some d
 d_eq:ti.d=jZ P (some d)
 size:ti.size=i.size
 bytes:ti.bytes=i.bytes
 zero:i.zero=some z
 zcells:ti.zero=z.cells.toList.map FU
 zleaf:∀ x ∈ ti.zero,oW x=true
 zsize:z.cells.size=i.size
 lks:ti.lks.length=i.size
 pos:0<i.size
 zagg:ahC i d=true
 fld:XI P d=true
 small:i.size<iP
theorem dZ {P:Program} {ap:AP} (f:iU P ap) {t:Nat} {c:TI} (h:ap.tyAt t=some c):∃ i d z,Dx P t c i d z:=by
 have a:=f.ty t c h;unfold Zx at a;cases b:P.info? t with
 |none=>simp [b] at a
 | some i=>
  cases hd:P.underlying t with
  |none=>simp [b,hd] at a
  | some d=>
   simp only [b,hd] at a;split at a
   ·rename_i k;simp only [ο] at k;obtain ⟨⟨⟨⟨⟨⟨n,l⟩,o⟩,s⟩,r⟩,q⟩,u⟩:=k;cases e:i.zero with
    |none=>simp [e] at q
    | some z=>
     cases a;have j:GM i=z.cells.toList.map FU:=by simp [GM,e]
     refine ⟨i,d,z,b,hd,rfl,rfl,rfl,e,j, ?_, ?_,aU n,gG r,l.1,l.2,gG u⟩
     ·intro x p;exact List.all_eq_true.1 o x p
     ·have:=aU s;rw [j] at this;simpa using this
   ·cases a
theorem iw {P:Program} {d:TypeDesc} {e:Nat} (h:jZ P (some d)= .slice e):d= .slice e:=by cases d<;>simp [jZ] at h;subst h;rfl
theorem Ad {P:Program} {d:TypeDesc} {n e:Nat} (h:jZ P (some d)= .array n e):d= .array n e:=by cases d<;>simp [jZ] at h;obtain ⟨rfl,rfl⟩:=h;rfl
theorem yA {P:Program} {d:TypeDesc} (h:jZ P (some d)= .str):d= .string:=by cases d<;>simp [jZ] at h;rfl
theorem Zu {P:Program} {d:TypeDesc} {k:IntKind} (h:jZ P (some d)= .int k):d= .int k:=by cases d<;>simp [jZ] at h;subst h;rfl
theorem adl {P:Program} {d:TypeDesc} (h:jZ P (some d)= .bool):d= .bool:=by cases d<;>simp [jZ] at h;rfl
theorem wS {P:Program} {d:TypeDesc} {a:List (Nat × Nat × Nat)} (h:jZ P (some d)= .struct a):
  ∃ fields:Array Field,d= .struct fields∧a=fields.toList.map fun f=>(f.offset,f.type,match P.info? f.type with|some i=>i.size|none=>0):=by
 cases d<;>simp [jZ] at h
 exact ⟨_,rfl,h.symm⟩
theorem Gw {P:Program} (d:TypeDesc):JF (jZ P (some d))=d.isRow:=by cases d<;>simp [jZ,JF,TypeDesc.isRow]
theorem H_ (S:aZ) (v:Value):PR S (JV v) v:=by
 cases v<;>simp only [JV,PR]
 case pointer a=>cases a<;>simp only [PR]
 case map a=>
  cases a with
  |none=>simp [PR]
  |some _=>simp only [PR]
 case slice a n c=>
  split<;>simp only [PR]
theorem KQ (S:aZ) (v:Value):PR S (FU v) v:=by
 cases v<;>simp only [FU]<;>try exact H_ S _
 case agg cs=>
  simp only [PR];refine ⟨cs.toList,by simp, ?_⟩
  induction cs.toList with
  |nil=>simp [eG]
  |cons c r ih=>simp only [Xqb,eG];exact ⟨H_ S c,ih⟩
 case tuple vs=>
  split
  ·rename_i h;simp only [PR];exact ⟨[],by rw [← h],by simp [eG]⟩
  ·simp only [PR]
theorem xm (S:aZ):∀ l:List Value,eG S (l.map FU) l
 | []=>by simp [eG]
 |v::r=>by simp only [Xqb,eG];exact ⟨KQ S v,xm S r⟩
theorem aet {g:dJ} {m:bf} {S:aZ} {k:LK} {c:AV} {v:Value} (h:VR g m S c v) (f:chk k c=true):VR g m S (eta k c) v:=by
 cases k<;>cases c<;>simp [chk] at f<;>simp only [eta,AV.toInt,AV.toBool,AV.toStr,AV.slX,AV.slN]<;>try exact h
 ·rw [gu f];exact h
 ·simp only [VR,PR] at h ⊢;subst h;exact ⟨none,0,rfl,Δ _,.inl ⟨rfl,trivial,trivial,trivial,rfl⟩⟩
 ·simp only [VR,PR] at h ⊢;obtain ⟨a,d,e,b,q⟩:=h;refine ⟨a,d,e,b, ?_⟩;rcases q with ⟨j,_,n,l,i⟩|q
  ·exact .inl ⟨j,trivial,n,l,i⟩
  ·exact .inr q
theorem BZ {k:LK} {c:AV} (h:chk k c=true):c ≠ .dead:=by intro e;subst e;cases k<;>simp [chk] at h
theorem getD_some {xs:List AV} {i:Nat} (h:xs.getD i .dead ≠ .dead):xs[i]? =some (xs.getD i .dead):=by
 rw [κ] at h ⊢;cases a:xs[i]? with
 |none=>simp [a] at h
 |some x=>simp
theorem oQ (xs:List AV) (a:Nat):(xs.drop a).headD .dead=xs.getD a .dead:=by
 rw [Xwj,Xkc,κ]
theorem Vl (ty:Bool) (xs:List AV) (a:Nat):vV ty [] xs a= []:=rfl
theorem yl (ty:Bool) (k:LK) (ks:List LK) (xs:List AV) (a:Nat):vV ty (k::ks) xs a=(match ty with|true=>eta k (xs.getD a .dead)|false=>xs.getD a .dead)::vV ty ks xs (a+1):=by
 show _::Nk ty ks (xs.drop a).tail=_::Nk ty ks (xs.drop (a+1));rw [Xkk];cases ty<;>simp only [oQ]
theorem Uh (ty:Bool) (k:LK) (ks:List LK) (xs:List AV) (a:Nat):Jk ty (k::ks) xs a=(match ty with|true=>chk k (xs.getD a .dead)|false=>chk .oth (xs.getD a .dead))::Jk ty ks xs (a+1):=by
 show _::WC ty ks (xs.drop a).tail=_::WC ty ks (xs.drop (a+1));rw [Xkk];cases ty<;>simp only [oQ]
theorem qC {g:dJ} {m:bf} {S:aZ} (ty:Bool) {xs:List AV} {vs:List Value} (i:bF g m S xs vs):∀ (lks:List LK) (a:Nat),(∀ b ∈ Jk ty lks xs a,b=true)→
  ∃ e:List Value,e.length=lks.length∧(∀ j u,e[j]? =some u→vs[a+j]? =some u)∧bF g m S (vV ty lks xs a) e:=by
 intro lks
 induction lks with
 |nil=>exact fun a _=> ⟨[],rfl,fun _ _ h=>by simp at h,by simp [Vl,bF]⟩
 | cons k ks ih=>
  intro a h;simp only [Uh,List.mem_cons,forall_eq_or_imp] at h;obtain ⟨e,n,o,l⟩:=ih (a+1) h.2;have key:∃ v,vs[a]? =some v∧VR g m S ((vV ty (k::ks) xs a).headD .dead) v:=by
   rw [yl];cases ty with
   |true=>
    obtain ⟨v,d,c⟩:=sZ i a (getD_some (BZ h.1));exact ⟨v,d,aet c h.1⟩
   |false=>
    obtain ⟨v,d,c⟩:=sZ i a (getD_some (BZ h.1));exact ⟨v,d,c⟩
  obtain ⟨v,d,c⟩:=key;rw [yl] at c;refine ⟨v::e,by simp [n], ?_, ?_⟩
  ·intro j u f;cases j with
   |zero=>simp at f;subst f;simpa using d
   |succ j=>simp at f;rw [show a+(j+1)=a+1+j from by omega];exact o j u f
  ·simp only [yl,bF];exact ⟨c,l⟩
theorem Fh {P:Program} {w:World} {t:Nat} {h:TI} {i:TypeInfo} {d:TypeDesc} {z:Value} (f:Dx P t h i d z) {g:dJ} {m:bf} {S:aZ} {o:List AV} {e:List Value} {k a:Nat}
  (hl:e.length=h.lks.length) (hu:∀ j u,e[j]? =some u→w.cell? ⟨k,a+j,none⟩=some u) (hr:bF g m S o e) {v:AV} (hv:sF h o=some v):
  ∃ cv,(loadVar t ⟨k,a,none⟩).run P w= .ok cv w∧VR g m S v cv:=by
 unfold sF at hv;rw [f.d_eq,Gw] at hv;split at hv
 ·rename_i b;cases hv;refine ⟨.agg e.toArray,run_loadVar_mid w k a t e d hu f.und b (by simp [f.info,hl,f.lks]), ?_⟩;simp only [VR];exact ⟨e,rfl,hr⟩
 ·rename_i b;split at hv
  ·rename_i c;cases hv;cases e with
   |nil=>simp [bF] at hr
   | cons u r=>
    simp only [bF] at hr;refine ⟨u, ?_,hr.1⟩;have l:(isAgg t).run P w= .ok false w:=by
     unfold isAgg;rw [Sem.run_bind,run_underlying f.und w];cases d<;>simp_all [TypeDesc.isRow]
    have n:=hu 0 u rfl;simp only [Xq8] at n;simp [loadVar,l,n]
  ·cases hv
theorem bind_some {α β:Type} {x:Option α} {f:α→Option β} {b:β} (h:x.bind f=some b):∃ a,x=some a∧f a=some b:=by
 cases x with
 |none=>simp at h
 |some a=>exact ⟨a,rfl,h⟩
theorem aX {v b:AV} {bs a:List Bool} {ups:List (Nat × bg)} (h:bG v bs=some (b,ups,a)):b=v∧ups= []∧a=bs:=by
 unfold bG at h;cases h;exact ⟨rfl,rfl,rfl⟩
section
variable {P:Program} {ap:AP} {g:dJ} {m:bf} {S:aZ} {w:World}
theorem Ci (K:bY ap g m S w) {rd:dJ} (y:∀ b B,rd b=some B→g b=some B) {t:Nat} {x:TI} {i:TypeInfo} {d:TypeDesc} {z:Value} (L:Dx P t x i d z)
  {p v:AV} {cp:Value} (hp:VR g m S p cp) {ups:List (Nat × bg)} {bs:List Bool} (h:MI x rd p=some (v,ups,bs)) (hbs:∀ b ∈ bs,b=true):
  ups= []∧∃ cv,(Instr.loadAt t cp).run P w= .ok cv w∧VR g m S v cv:=by
 unfold MI at h;split at h
 ·rename_i xs f;obtain ⟨R,l,h⟩:=bind_some h;obtain ⟨rfl,rfl,rfl⟩:=aX h;simp only [VR,PR] at hp;obtain ⟨b,o,vs,rfl,hp,hs⟩:=hp;obtain ⟨O,C,J,I⟩:=qC (g:=g) (m:=m) true (b_ _ hp) x.lks f hbs;obtain ⟨cv,F,A⟩:=Fh (w:=w) L (k:=b) (a:=o+f) C (fun j u G=>by
   have M:=hs (f+j) u (J j u G);have:=K.one M.1 M.2;rw [Xxy];exact this) I l
  exact ⟨rfl,cv,by simpa [Instr.loadAt,Instr.sureAddr] using F,A⟩
 ·rename_i b ver f;obtain ⟨B,Q,h⟩:=bind_some h;split at h
  ·rename_i c;obtain ⟨R,l,h⟩:=bind_some h;obtain ⟨rfl,rfl,rfl⟩:=aX h;simp only [VR] at hp;obtain ⟨B',r,_,_,q⟩:=hp;have s:=y b B Q;rw [s] at r;cases r;simp only [ο,Xqw] at c;have H:B.esz ≠ iP:=fun e=>by rw [e] at c;exact absurd c.2 (by decide)
   have q:=q (aU c.1);subst q;obtain ⟨cur,e,vs,rest,E,N,_,D,_⟩:=(K.blk b B s).lies;have E:=E.cells H;obtain ⟨O,C,J,I⟩:=qC _ D x.lks f hbs;obtain ⟨cv,F,A⟩:=Fh (w:=w) L (k:=(m b).1) (a:=f) C (fun j u G=>by
    have n:=J j u G;rw [uZ E,N,List.getElem?_append_left (List.getElem?_eq_some_iff.1 n).1];exact n) I l
   exact ⟨rfl,cv,by simpa [Instr.loadAt,Instr.sureAddr] using F,A⟩
  ·cases h
 ·cases h
theorem FV {p d:AV} {f:Value} (hp:VR g m S p f) {o:Nat} (h:Yx p o=some d):∃ a:Addr,f= .pointer (some a)∧VR g m S d (.pointer (some (a.add o))):=by
 unfold Yx at h;split at h<;>cases h
 ·rename_i b ver c;simp only [VR] at hp;obtain ⟨B,n,j,⟨k,l,rfl⟩,q⟩:=hp;refine ⟨_,rfl, ?_⟩;simp only [VR];refine ⟨B,n,j,⟨k,l+o,by rw [Addr.add_mid]⟩,fun e=> ?_⟩;have q:=q e;simp only [Value.pointer.injEq,Option.some.injEq,Addr.mk.injEq] at q;obtain ⟨r,i,_⟩:=q;rw [Addr.add_mid,r,i]
 ·rename_i xs c;simp only [VR,PR] at hp;obtain ⟨b,k,vs,rfl,hp,hs⟩:=hp;refine ⟨_,rfl, ?_⟩;simp only [VR,PR];exact ⟨b,k,vs,by rw [Addr.add_mid,Xxy],hp,hs⟩
end
end AM
namespace AM
open Go
section
variable {P:Program} {ap:AP} {g:dJ} {m:bf} {S:aZ} {w:World}
theorem dC {b:Bool} {l:List Bool} (h:∀ x ∈ b::l,x=true):b=true∧∀ x ∈ l,x=true:=⟨h b (by simp),fun x a=>h x (by simp [a])⟩
theorem kE {t:Nat} {a:TI} {i:TypeInfo} {d:TypeDesc} {z:Value} (b:Dx P t a i d z) (w:World):(Go.sizeOf t).run P w= .ok a.size w:=by
 simp [Go.sizeOf,typeInfo,b.info,b.size]
theorem Cc {x:AV} {b:Value} (a:VR g m S x b) {n:Int} (h:Rf x=some n):∃ k,b= .int k n:=by
 cases x<;>simp [Rf] at h
 subst h;simp only [VR,PR] at a;exact ⟨_,a⟩
theorem Dp {t:Nat} {l:TI} {i:TypeInfo} {d:TypeDesc} {z:Value} (q:Dx P t l i d z) {u:List (Nat × Nat × Nat)} (hd:l.d= .struct u) {f o y sz:Nat} (s:u[f]? =some (o,y,sz)) (c:Xjh 0 sz=true)
  {p v:AV} {cp:Value} (hp:VR g m S p cp) (e:Yx p o=some v):∃ cv,(Instr.fieldAt t cp f).run P w= .ok cv w∧VR g m S v cv:=by
 rw [q.d_eq] at hd;obtain ⟨fields,rfl,rfl⟩:=wS hd;simp only [Xq6,Xqr] at s;obtain ⟨r,k,n⟩:=s;simp only [Prod.mk.injEq] at n;obtain ⟨rfl,rfl,hs⟩:=n;obtain ⟨a,rfl,e⟩:=FV hp e;refine ⟨_, ?_,e⟩;have b:fields[f]? =some r:=by simpa using k
 cases h:P.info? r.type with
 |none=>rw [h] at hs;simp only at hs;subst hs;exact absurd (gG c) (by omega)
 |some j=>
  rw [h] at hs;have x:j.size ≠ 0:=by have:=gG c;simp only at hs;omega
  simp [Instr.fieldAt,run_underlying q.und,b,Instr.sureAddr,fieldPlace,Go.sizeOf,typeInfo,h,x]
theorem pz {i:Int} {n:Nat} (c:decide (0≤i)=true) (d:decide (i<n)=true):0≤i∧i<n∧i.toNat<n:=by
 have a:=of_decide_eq_true c;have b:=of_decide_eq_true d;omega
theorem AZ (s:iU P ap) {rd:dJ} (F:∀ b B,rd b=some B→g b=some B) {t:Nat} {H:TI} {i:TypeInfo} {d:TypeDesc} {z:Value} (A:Dx P t H i d z)
  {x ix v:AV} {cx ci:Value} (hx:VR g m S x cx) (hi:VR g m S ix ci) {ups:List (Nat × bg)} {bs:List Bool} (h:xX ap H rd x ix=some (v,ups,bs)) (hbs:∀ b ∈ bs,b=true):
  ups= []∧∃ cv,(Instr.indexAt t cx ci).run P w= .ok cv w∧VR g m S v cv:=by
 unfold xX at h;have l:=bind_some h;clear h;obtain ⟨n,T,h⟩:=l;obtain ⟨k,rfl⟩:=Cc hi T;split at h
 ·rename_i e hd;have l:=bind_some h;clear h;obtain ⟨E,c,h⟩:=l;obtain ⟨L,M,R,c⟩:=dZ s c;rw [A.d_eq] at hd;have hd:=iw hd;subst hd;split at h
  ·rename_i xs len nn;obtain ⟨rfl,rfl,rfl⟩:=aX h;obtain ⟨C,f⟩:=dC hbs;obtain ⟨f,_⟩:=dC f;obtain ⟨r,u,I⟩:=pz C f;simp only [VR,PR] at hx;obtain ⟨a,Q,rfl,N,q⟩:=hx;rcases q with ⟨_,_,_,q,_⟩|⟨b,o,vs,rfl,hp,hs⟩
   ·subst q;omega
   ·refine ⟨rfl,.pointer (some ⟨b,o+n.toNat*E.size,none⟩), ?_, ?_⟩
    ·simp [Instr.indexAt,asIntOf,run_underlying A.und,r,u,kE c,Addr.add_mid]
    ·simp only [VR,PR];exact ⟨b,o,vs,rfl,hp,hs⟩
  ·rename_i b ver j len;have l:=bind_some h;clear h;obtain ⟨B,V,h⟩:=l;split at h
   ·rename_i D;simp only [ο] at D;obtain ⟨rfl,rfl,rfl⟩:=aX h;obtain ⟨C,f⟩:=dC hbs;obtain ⟨f,_⟩:=dC f;obtain ⟨r,u,I⟩:=pz C f;simp only [VR] at hx;obtain ⟨B',y,K,_,q⟩:=hx;have J:=F b B V;rw [J] at y;cases y;obtain ⟨o,rfl,X,O,W⟩:=q (aU D.1);have U:=O (by omega);have G:=aU D.2;refine ⟨rfl,.pointer (some ⟨(m b).1,(j+n.toNat)*E.size,none⟩), ?_, ?_⟩
    ·rw [U,G];simp [Instr.indexAt,asIntOf,run_underlying A.und,r,u,kE c,Addr.add_mid,Xxw]
    ·simp only [VR];exact ⟨B,J,by have:=aU D.1;omega,⟨_,_,rfl⟩,fun _=>trivial⟩
   ·cases h
  ·cases h
 ·rename_i len e hd;have l:=bind_some h;clear h;obtain ⟨E,c,h⟩:=l;obtain ⟨L,M,R,c⟩:=dZ s c;have l:=bind_some h;clear h;obtain ⟨p,hp,h⟩:=l;obtain ⟨rfl,rfl,rfl⟩:=aX h;rw [A.d_eq] at hd;have hd:=Ad hd;subst hd;obtain ⟨C,f⟩:=dC hbs;obtain ⟨f,_⟩:=dC f;obtain ⟨r,u,I⟩:=pz C f;obtain ⟨a,rfl,K⟩:=FV hx hp;refine ⟨rfl,_, ?_,K⟩;simp [Instr.indexAt,asIntOf,run_underlying A.und,r,u,kE c,Instr.sureAddr]
 ·cases h
theorem F5 {t:Nat} {f:TI} {i:TypeInfo} {d:TypeDesc} {z:Value} (h:Dx P t f i d z) {vs b:List Value} {o:List AV} {e:Nat}
  (hl:b.length=f.lks.length) (hu:∀ j u,b[j]? =some u→vs[e+j]? =some u) (hr:bF g m S o b) {v:AV} (hv:sF f o=some v):
  ∃ cv,(part t vs.toArray e).run P w= .ok cv w∧VR g m S v cv:=by
 have l:(isAgg t).run P w= .ok d.isRow w:=by
  unfold isAgg;rw [Sem.run_bind,run_underlying h.und w];cases d<;>simp [TypeDesc.isRow]
 unfold sF at hv;rw [h.d_eq,Gw] at hv;split at hv
 ·rename_i a;cases hv;have q:(vs.drop e).take f.size=b:=by
   apply List.ext_getElem?;intro j;rw [Xj7,Xzl];have s:f.size=b.length:=by rw [hl,h.lks,h.size]
   split
   ·rename_i p;have k:j<b.length:=by omega
    have:=hu j b[j] (π k);rw [this,π k]
   ·rename_i p;rw [List.getElem?_eq_none (by omega)]
  refine ⟨.agg b.toArray, ?_, ?_⟩
  ·simp [part,l,a,kE h,q]
  ·simp only [VR];exact ⟨b,rfl,hr⟩
 ·rename_i a;split at hv
  ·rename_i c;cases hv;cases b with
   |nil=>simp [bF] at hr
   |cons u r=>
    simp only [bF] at hr;refine ⟨u, ?_,hr.1⟩;have n:=hu 0 u rfl;simp only [Xq8] at n;have a:d.isRow=false:=by simpa using a
    simp [part,l,a,n]
  ·cases hv
theorem Jv (k:iU P ap) {t:Nat} {p:TI} {i:TypeInfo} {d:TypeDesc} {z:Value} (u:Dx P t p i d z) {x v:AV} {y:Value} (j:VR g m S x y) {f:Nat} {ups:List (Nat × bg)} {bs:List Bool}
  (h:O5 ap p x f=some (v,ups,bs)) (hbs:∀ b ∈ bs,b=true):ups= []∧∃ cv,(Instr.field t y f).run P w= .ok cv w∧VR g m S v cv:=by
 unfold O5 at h;split at h
 ·rename_i M K hd;have e:=bind_some h;clear h;obtain ⟨⟨o,L,sz⟩,s,h⟩:=e;have e:=bind_some h;clear h;obtain ⟨tf,a,h⟩:=e;have e:=bind_some h;clear h;obtain ⟨J,n,h⟩:=e;obtain ⟨rfl,rfl,rfl⟩:=aX h;obtain ⟨F,G,H,a⟩:=dZ k a;rw [u.d_eq] at hd;obtain ⟨fields,rfl,rfl⟩:=wS hd;simp only [Xq6,Xqr] at s;obtain ⟨r,l,q⟩:=s;simp only [Prod.mk.injEq] at q;obtain ⟨rfl,rfl,hs⟩:=q;simp only [VR] at j;obtain ⟨vs,rfl,j⟩:=j;obtain ⟨I,B,E,D⟩:=qC false j tf.lks r.offset hbs;obtain ⟨cv,C,A⟩:=F5 (w:=w) a B E D n;have c:fields[f]? =some r:=by simpa using l
  refine ⟨rfl,cv, ?_,A⟩;simp [Instr.field,run_underlying u.und,c,asAgg,C]
 ·cases h
theorem XN (s:List UInt8) (i:Nat) (h:i<s.length):(⟨s.toArray⟩:ByteArray)[i]? =some (s.getD i 0):=by
 have hs:i<(⟨s.toArray⟩:ByteArray).size:=by simpa [ByteArray.size] using h
 rw [getElem?_pos _ i hs];simp only [ByteArray.getElem_eq_getElem_data,List.getElem_toArray];rw [κ,π h];rfl
theorem JD (q:iU P ap) {t:Nat} {B:TI} {i:TypeInfo} {d:TypeDesc} {z:Value} (l:Dx P t B i d z) {x C v:AV} {F ci:Value} (f:VR g m S x F) (H:VR g m S C ci) {ups:List (Nat × bg)} {bs:List Bool}
  (h:O9 ap B x C=some (v,ups,bs)) (hbs:∀ b ∈ bs,b=true):ups= []∧∃ cv,(Instr.index t F ci).run P w= .ok cv w∧VR g m S v cv:=by
 unfold O9 at h;have j:=bind_some h;clear h;obtain ⟨n,J,h⟩:=j;obtain ⟨k,rfl⟩:=Cc H J;split at h
 ·rename_i s hd;obtain ⟨rfl,rfl,rfl⟩:=aX h;obtain ⟨y,c⟩:=dC hbs;obtain ⟨c,_⟩:=dC c;obtain ⟨p,E,D⟩:=pz y c;rw [l.d_eq] at hd;have hd:=yA hd;subst hd;simp only [VR,PR] at f;subst f;refine ⟨rfl,.int .u8 (s.getD n.toNat 0).toNat, ?_,by simp only [VR,PR]⟩;simp [Instr.index,asIntOf,run_underlying l.und,p,XN s n.toNat D]
 ·rename_i len e R hd;have j:=bind_some h;clear h;obtain ⟨A,a,h⟩:=j;have j:=bind_some h;clear h;obtain ⟨T,r,h⟩:=j;obtain ⟨rfl,rfl,rfl⟩:=aX h;obtain ⟨M,N,O,a⟩:=dZ q a;obtain ⟨y,c⟩:=dC hbs;obtain ⟨c,I⟩:=dC c;obtain ⟨p,E,D⟩:=pz y c;rw [l.d_eq] at hd;have hd:=Ad hd;subst hd;simp only [VR] at f;obtain ⟨vs,rfl,f⟩:=f;obtain ⟨Q,G,L,K⟩:=qC true f A.lks (n.toNat*A.size) I;obtain ⟨cv,u,o⟩:=F5 (w:=w) a G L K r;refine ⟨rfl,cv, ?_,o⟩;simp [Instr.index,asIntOf,run_underlying l.und,p,E,kE a,u]
 ·cases h
end
end AM
namespace AM
open Go
section
variable {P:Program} {ap:AP} {g:dJ} {m:bf} {S:aZ} {w:World}
def Eb (g:dJ) (m:bf) (S:aZ) (x:Option AV) (c:Option Value):Prop:=
 match x,c with
 |none,none=>True
 |some x,some c=>VR g m S x c
 |_,_=>False
theorem ig {x:Option AV} {c:Option Value} (h:Eb g m S x c) {d n:Int} (a:pI x d=some n):(x=none∧c=none∧n=d)∨∃ k,c=some (.int k n):=by
 cases x with
 |none=>cases c with
  |none=>simp [pI] at a;exact .inl ⟨rfl,rfl,a.symm⟩
  |some c=>simp [Eb] at h
 | some x=>cases c with
  |none=>simp [Eb] at h
  |some c=>
   cases x<;>simp [pI] at a
   subst a;simp only [Eb,VR,PR] at h;subst h;exact .inr ⟨_,rfl⟩
theorem uz (P:Program) (w:World) (b:Bool) (len a:Nat) (e d:Option Value) (l h:Int)
  (hl:(e=none∧l=0)∨∃ k,e=some (.int k l)) (i:(d=none∧h=len)∨∃ k,d=some (.int k h)) (h0:0≤l) (h1:l≤h) (h2:h≤a):
  (Instr.sliceBounds b len a e d none).run P w= .ok (l.toNat,h.toNat,a) w:=by
 have f:0≤h:=by omega
 rcases hl with ⟨rfl,rfl⟩|⟨k,rfl⟩<;>rcases i with ⟨rfl,rfl⟩|⟨n,rfl⟩
 ·simp [Instr.sliceBounds]
 ·simp [Instr.sliceBounds,Instr.sliceBound,asIntOf,h2,f]
 ·have c:l≤(len:Int):=h1;simp [Instr.sliceBounds,Instr.sliceBound,asIntOf,h0,c]
 ·simp [Instr.sliceBounds,Instr.sliceBound,asIntOf,h0,h2,f];intro j;omega
theorem LV (s:List UInt8) (l h:Nat):(⟨s.toArray⟩:ByteArray).extract l h=⟨((s.take h).drop l).toArray⟩:=by
 apply ByteArray.ext;rw [ByteArray.data_extract];apply Array.ext';simp [List.extract_eq_take_drop,List.drop_take]
theorem Ac (s:List UInt8):(⟨s.toArray⟩:ByteArray).size=s.length:=by simp [ByteArray.size]
theorem kP.drop {b o:Nat} {vs:List Value} (h:kP S b o vs) (n:Nat):kP S b (o+n) (vs.drop n):=by
 intro j u a;rw [Xzl] at a;rw [Xxy];exact h _ _ a
theorem kP.take {b o:Nat} {vs:List Value} (h:kP S b o vs) (n:Nat):kP S b o (vs.take n):=by
 intro j u a;rw [Xj7] at a;split at a
 ·exact h _ _ a
 ·cases a
theorem aeB {a b c:Bool} (h:∀ x ∈ [a,b,c],x=true):a=true∧b=true∧c=true:=⟨h a (by simp),h b (by simp),h c (by simp)⟩
theorem Hm {α:Type} (xs:List α) (n:Nat):(xs.take n).drop n= []:=by
 apply Xzw;simp;omega
theorem Kv (F:iU P ap) {rd:dJ} (K:∀ b B,rd b=some B→g b=some B) {t:Nat} {O:TI} {i:TypeInfo} {d:TypeDesc} {z:Value} (D:Dx P t O i d z)
  {x v:AV} {cx:Value} (hx:VR g m S x cx) {lo hi mx:Option AV} {clo chi cmx:Option Value} (hlo:Eb g m S lo clo) (hhi:Eb g m S hi chi) (hmx:Eb g m S mx cmx)
  {ups:List (Nat × bg)} {bs:List Bool} (h:P9 ap O rd x lo hi mx=some (v,ups,bs)) (hbs:∀ b ∈ bs,b=true):
  ups= []∧∃ cv,(Instr.sliceAt t cx clo chi cmx).run P w= .ok cv w∧VR g m S v cv:=by
 have k:mx=none→cmx=none:=by intro e;subst e;cases cmx<;>simp [Eb] at hmx ⊢
 unfold P9 at h;split at h
 ·rename_i s hd;have f:=bind_some h;clear h;obtain ⟨l,G,h⟩:=f;have f:=bind_some h;clear h;obtain ⟨u,H,h⟩:=f;obtain ⟨rfl,rfl,rfl⟩:=aX h;obtain ⟨r,p,C⟩:=aeB hbs;have r:=of_decide_eq_true r;have p:=of_decide_eq_true p;have C:=of_decide_eq_true C;rw [D.d_eq] at hd;have hd:=yA hd;subst hd;simp only [VR,PR] at hx;subst hx;rw [k rfl];have E:=uz P w false s.length s.length clo chi l u ((ig hlo G).imp (fun h=> ⟨h.2.1,h.2.2⟩) id) ((ig hhi H).imp (fun h=> ⟨h.2.1,h.2.2⟩) id) r p C;refine ⟨rfl,.string ⟨((s.take u.toNat).drop l.toNat).toArray⟩, ?_,by simp only [VR,PR]⟩;rw [← LV];simp [Instr.sliceAt,Instr.slice,run_underlying D.und,Ac,E]
 ·rename_i e xs n nn hd;have f:=bind_some h;clear h;obtain ⟨y,c,h⟩:=f;have f:=bind_some h;clear h;obtain ⟨l,G,h⟩:=f;have f:=bind_some h;clear h;obtain ⟨u,H,h⟩:=f;obtain ⟨rfl,rfl,rfl⟩:=aX h;obtain ⟨M,N,Q,c⟩:=dZ F c;obtain ⟨r,p,C⟩:=aeB hbs;have r:=of_decide_eq_true r;have p:=of_decide_eq_true p;have C:=of_decide_eq_true C;rw [D.d_eq] at hd;have hd:=iw hd;subst hd;simp only [VR,PR] at hx;obtain ⟨a,A,rfl,V,q⟩:=hx;rw [k rfl];have E:=uz P w true n A clo chi l u ((ig hlo G).imp (fun h=> ⟨h.2.1,h.2.2⟩) id) ((ig hhi H).imp (fun h=> ⟨h.2.1,h.2.2⟩) id) r p (by omega);refine ⟨rfl,.slice (if A=l.toNat then a else a.map (·.add (l.toNat*y.size))) (u.toNat - l.toNat) (A - l.toNat), ?_, ?_⟩
  ·simp [Instr.sliceAt,Instr.slice,run_underlying D.und,E,kE c]
  ·simp only [VR,PR];refine ⟨_,_,rfl,by omega, ?_⟩;rcases q with ⟨rfl,U,rfl,rfl,rfl⟩|⟨b,o,vs,rfl,hp,hs⟩
   ·refine .inl ⟨by simp,U,by simp,by omega,by omega⟩
   ·refine .inr ?_;by_cases I:A=l.toNat
    ·refine ⟨b,o,[],by rw [if_pos I], ?_,fun j u h=>by simp at h⟩;have e:(xs.take (u.toNat*y.size)).drop (l.toNat*y.size)= []:=by
      have:u.toNat=l.toNat:=by omega
      rw [this,Hm]
     rw [e];simp [eG]
    ·exact ⟨b,o+l.toNat*y.size,(vs.take (u.toNat*y.size)).drop (l.toNat*y.size),by rw [if_neg I];simp [Addr.add_mid],rq _ (kN _ hp),(hs.take _).drop _⟩
 ·rename_i e b ver j n hd;have f:=bind_some h;clear h;obtain ⟨y,c,h⟩:=f;have f:=bind_some h;clear h;obtain ⟨B,Y,h⟩:=f;have f:=bind_some h;clear h;obtain ⟨l,G,h⟩:=f;have f:=bind_some h;clear h;obtain ⟨u,H,h⟩:=f;split at h
  ·rename_i I;simp only [ο] at I;obtain ⟨rfl,rfl,rfl⟩:=aX h;obtain ⟨M,N,Q,c⟩:=dZ F c;obtain ⟨r,p,C⟩:=aeB hbs;have r:=of_decide_eq_true r;have p:=of_decide_eq_true p;have C:=of_decide_eq_true C;rw [D.d_eq] at hd;have hd:=iw hd;subst hd;simp only [VR] at hx;obtain ⟨B',J,X,_,q⟩:=hx;have T:=K b B Y;rw [T] at J;cases J;obtain ⟨o,rfl,U,W,R⟩:=q (aU I.1);have L:=aU I.2;rw [k rfl];have E:=uz P w true n ((m b).2 - j) clo chi l u ((ig hlo G).imp (fun h=> ⟨h.2.1,h.2.2⟩) id) ((ig hhi H).imp (fun h=> ⟨h.2.1,h.2.2⟩) id) r p (by omega);refine ⟨rfl,.slice (if (m b).2 - j=l.toNat then some ⟨(m b).1,o,none⟩ else some ⟨(m b).1,o+l.toNat*y.size,none⟩) (u.toNat - l.toNat) ((m b).2 - j - l.toNat), ?_, ?_⟩
   ·simp [Instr.sliceAt,Instr.slice,run_underlying D.und,E,kE c,Addr.add_mid]
   ·simp only [VR];refine ⟨B,T,X,(by split<;>exact ⟨_,_,_,rfl⟩),fun _=> ?_⟩;by_cases hcl:(m b).2 - j=l.toNat
    ·exact ⟨o,by rw [if_pos hcl];congr 1;omega,by omega,fun h=>by omega,R⟩
    ·refine ⟨o+l.toNat*y.size,by rw [if_neg hcl];congr 1;omega,by omega,fun h=> ?_,R⟩;rw [W (by omega),L,Xxw]
  ·cases h
 ·rename_i e hd;have f:=bind_some h;clear h;obtain ⟨y,c,h⟩:=f;have f:=bind_some h;clear h;obtain ⟨l,G,h⟩:=f;have f:=bind_some h;clear h;obtain ⟨u,H,h⟩:=f;obtain ⟨rfl,rfl,rfl⟩:=aX h;obtain ⟨M,N,Q,c⟩:=dZ F c;have r:=of_decide_eq_true (hbs (decide (l=0)) (by simp));have p:=of_decide_eq_true (hbs (decide (u=0)) (by simp));subst r;subst p;rw [D.d_eq] at hd;have hd:=iw hd;subst hd;simp only [VR,PR] at hx;subst hx;rw [k rfl];have E:=uz P w true 0 0 clo chi 0 0 ((ig hlo G).imp (fun h=> ⟨h.2.1,h.2.2⟩) id) ((ig hhi H).imp (fun h=> ⟨h.2.1,h.2.2⟩) id) (by omega) (by omega) (by omega);refine ⟨rfl,.slice none 0 0, ?_,by simp only [VR,PR]⟩;simp at E;simp [Instr.sliceAt,Instr.slice,run_underlying D.und,E,kE c]
 ·cases h
theorem Pi {x v:AV} {o:Value} (c:VR g m S x o) {t:Nat} {l:TI} {i:TypeInfo} {d:TypeDesc} {z:Value} (f:Dx P t l i d z)
  {ups:List (Nat × bg)} {bs:List Bool} (h:X5 l.d x=some (v,ups,bs)) (ats:Array TypeId) (hat:ats[0]? =some t) (args:Array Value) (ha:args[0]? =some o) (ty:Nat):
  ups= []∧∃ cv,(Builtin.len_ ats ty args).run P w= .ok cv w∧VR g m S v cv:=by
 unfold X5 at h;rw [f.d_eq] at h;split at h
 ·rename_i n e hd;obtain ⟨rfl,rfl,rfl⟩:=aX h;have hd:=Ad hd;subst hd;exact ⟨rfl,.int .i64 n,by simp [Builtin.len_,hat,ha,run_underlying f.und,goInt],by simp only [VR,PR]⟩
 ·rename_i s hd;obtain ⟨rfl,rfl,rfl⟩:=aX h;have hd:=yA hd;subst hd;simp only [VR,PR] at c;subst c;exact ⟨rfl,.int .i64 s.length,by simp [Builtin.len_,hat,ha,run_underlying f.und,goInt,Ac],by simp only [VR,PR]⟩
 ·rename_i e xs n nn hd;obtain ⟨rfl,rfl,rfl⟩:=aX h;have hd:=iw hd;subst hd;simp only [VR,PR] at c;obtain ⟨a,k,rfl,_⟩:=c;exact ⟨rfl,.int .i64 n,by simp [Builtin.len_,hat,ha,run_underlying f.und,goInt],by simp only [VR,PR]⟩
 ·rename_i e b ver j n hd;obtain ⟨rfl,rfl,rfl⟩:=aX h;have hd:=iw hd;subst hd;simp only [VR] at c;obtain ⟨_,_,_,⟨_,_,k,rfl⟩,_⟩:=c;exact ⟨rfl,.int .i64 n,by simp [Builtin.len_,hat,ha,run_underlying f.und,goInt],by simp only [VR,PR]⟩
 ·rename_i e hd;obtain ⟨rfl,rfl,rfl⟩:=aX h;have hd:=iw hd;subst hd;simp only [VR,PR] at c;subst c;exact ⟨rfl,.int .i64 0,by simp [Builtin.len_,hat,ha,run_underlying f.und,goInt],by simp only [VR,PR]⟩
 ·cases h
theorem yB (s:List UInt8):(⟨s.toArray⟩:ByteArray).toList=s:=by rw [ByteArray.toList_eq]
theorem yP:∀ a b:List UInt8,Op.bytesLess a b=iF a b
 |_,[]=>by simp [Op.bytesLess,iF]
 | [],_::_=>by simp [Op.bytesLess,iF]
 |a::x,b::y=>by simp only [Op.bytesLess,iF,yP x y]
def uJ:LK→Value→Value→Option Bool
 | .int k,.int k1 a,.int k2 b=>match iQ k k1 && iQ k k2 with|true=>some (a==b)|false=>none
 | .bool,.bool a,.bool b=>some (a==b)
 | .str,.string a,.string b=>some (a.toList==b.toList)
 |_,_,_=>none
def dW:List LK→List Value→List Value→Option Bool
 | [],[],[]=>some true
 |k::ks,a::as,b::bs=>(uJ k a b).bind fun c=>(dW ks as bs).map fun d=>c && d
 |_,_,_=>none
theorem tN:∀ (l e:List LK) (xs f:List Value) (r:Bool),dW (l++e) xs f=some r→
  ∃ a b,dW l (xs.take l.length) (f.take l.length)=some a∧dW e (xs.drop l.length) (f.drop l.length)=some b∧r=(a && b)
 | [],e,xs,f,r,h=> ⟨true,r,by simp [dW],by simpa using h,by simp⟩
 |k::l,e,[],_,r,h=>by simp [dW] at h
 |k::l,e,_::_,[],r,h=>by simp [dW] at h
 |k::l,e,x::xs,y::f,r,h=>by
  simp only [Xxd,dW] at h;obtain ⟨c,i,h⟩:=bind_some h;rw [Xqr] at h;obtain ⟨d,hd,rfl⟩:=h;obtain ⟨a,b,n,j,rfl⟩:=tN l e xs f d hd;exact ⟨c && a,b,by simp [dW,i,n],by simpa using j,by simp [Bool.and_assoc]⟩
theorem qM:∀ (l:List LK) (xs a:List Value) (r:Bool),dW l xs a=some r→xs.length=l.length∧a.length=l.length
 | [],[],[],_,_=> ⟨rfl,rfl⟩
 |k::l,x::xs,y::a,r,h=>by
  simp only [dW] at h;obtain ⟨c,_,h⟩:=bind_some h;rw [Xqr] at h;obtain ⟨d,hd,_⟩:=h;have:=qM l xs a d hd;simp [this.1,this.2]
 | [],_::_,_,_,h=>by simp [dW] at h
 | [],[],_::_,_,h=>by simp [dW] at h
 |_::_,[],_,_,h=>by simp [dW] at h
 |_::_,_::_,[],_,h=>by simp [dW] at h
def wu (P:Program) (t:TypeId) (xs:List Value):Value:=match P.underlying t with
 |some (.struct _)=> .agg xs.toArray
 |_=>xs.headD undef
def H6 (P:Program) (n:Nat) (t:TypeId) (lks:List LK):Prop:=
 ∀ (d:Nat) (w:World) (xs ys:List Value) (r:Bool),n≤d→dW lks xs ys=some r→(Op.equalIn d t (wu P t xs) (wu P t ys)).run P w= .ok r w
theorem vX {t:TypeId} {lks:List LK} {n:Nat} (c:jJ P n t=some lks) {i:TypeInfo} (l:P.info? t=some i) (hs:i.size=lks.length) (xs:List Value) (a:Nat) (k:a+lks.length≤xs.length) (w:World):
  (part t xs.toArray a).run P w= .ok (wu P t ((xs.drop a).take lks.length)) w:=by
 cases n with
 |zero=>simp [jJ] at c
 | succ n=>
  unfold jJ at c;cases f:P.underlying t with
  |none=>simp [f] at c
  | some d=>
   have b:(isAgg t).run P w= .ok d.isRow w:=by
    unfold isAgg;rw [Sem.run_bind,run_underlying f w];cases d<;>simp [TypeDesc.isRow]
   cases d<;>simp only [f] at c<;>try cases c
   case struct fs=>
    simp only [TypeDesc.isRow] at b;simp [part,b,Go.sizeOf,typeInfo,l,hs,wu,f]
   all_goals
    simp only [TypeDesc.isRow] at b;simp only [ξ,Xqa,Xqd] at k;have h:xs[a]? =some (xs[a]'(by omega)):=π (by omega);simp only [part,Sem.run_bind,b,Result.andThen_ok,Bool.false_eq_true,if_false,wu,f];have e:((xs.drop a).take [LK.str].length).headD undef=xs[a]'(by omega):=by
     rw [Xwj,List.head?_take,Xkc,h];simp
    have j:(xs.toArray)[a]? =some (xs[a]'(by omega)):=by simp
    rw [j]
    first|exact congrArg (fun v=>Result.ok v w) e.symm|(simp only [ξ,Xqa] at e ⊢;exact congrArg (fun v=>Result.ok v w) e.symm)
theorem uK {n:Nat} (s:∀ t lks,jJ P n t=some lks→H6 P n t lks):∀ (fs:List Field) (off:Nat) (lks:List LK),yU P (jJ P n) fs off=some lks→
  ∀ (d:Nat) (w:World) (xs ys:List Value) (r:Bool),n≤d→xs.length=off+lks.length→ys.length=off+lks.length→dW lks (xs.drop off) (ys.drop off)=some r→
   (Op.eqFields d xs.toArray ys.toArray fs).run P w= .ok r w
 | [],off,lks,hc,d,w,xs,ys,r,hd,hx,hy,h=>by
  simp [yU] at hc;subst hc;have D:xs.drop off= []:=Xzw (by simp at hx;omega);have C:ys.drop off= []:=Xzw (by simp at hy;omega);rw [D,C] at h;simp [dW] at h;subst h;simp [Op.eqFields]
 | f ::fs,off,lks,hc,d,w,xs,ys,r,hd,hx,hy,h=>by
  simp only [yU] at hc;cases j:jJ P n f.type with
  |none=>simp [j] at hc
  | some l=>
   simp only [j] at hc;split at hc
   ·rename_i hcond;simp only [ο,Xqw] at hcond;obtain ⟨⟨u,p⟩,c⟩:=hcond;cases o:yU P (jJ P n) fs (off+l.length) with
    |none=>simp [o] at hc
    | some l'=>
     simp only [o] at hc;cases hc;cases k:P.info? f.type with
     |none=>simp [k] at c
     |some i=>
      simp only [k] at c;have c:=aU c;have p:=aU p;have q:f.name ≠ "_" :=by intro e;rw [e] at u;exact absurd u (by decide)
      simp only [List.length_append] at hx hy;obtain ⟨a,b,x,A,rfl⟩:=tN l l' _ _ r h;have B:=vX j k c xs off (by omega) w;have y:=vX j k c ys off (by omega) w;have z:=s f.type l j d w _ _ a hd x;have v:=uK s fs (off+l.length) l' o d w xs ys b hd (by omega) (by omega) (by simpa [List.drop_drop,Nat.add_comm] using A);simp only [Op.eqFields,q,ne_eq,not_false_eq_true,if_true,Sem.run_bind,p,B,y,z,Result.andThen_ok];cases a
      ·simp
      ·simpa using v
   ·cases hc
theorem EC : ∀ (n:Nat) (t:TypeId) (lks:List LK),jJ P n t=some lks→H6 P n t lks
  |0,_,_,h=>by simp [jJ] at h
  | n + 1,t,lks,h=>by
    intro d w xs l r hd b;obtain ⟨d,rfl⟩:∃ k,d=k+1:=⟨d - 1,by omega⟩
    have j:=qM _ _ _ _ b;unfold jJ at h;cases a:P.underlying t with
    |none=>simp [a] at h
    | some ds=>
      cases ds<;>simp only [a] at h<;>try cases h
      case struct fs=>
        split at h
        · cases h
        · rename_i p;have i:P.fieldsOf t=fs:=by simp [Program.fieldsOf,a]
          have e:=run_equalIn_struct (P:=P) w d t xs.toArray l.toArray (by rw [i];exact a) p;simp only [wu,a];rw [e,i];exact uK (EC n) fs.toList 0 lks h d w xs l r (by omega) (by simp [j.1]) (by simp [j.2]) (by simpa using b)
      all_goals
        simp only [ξ,Xqa,Xqd] at j
        match xs,l,j,b with
        | [x], [y],_,b=>
          simp only [dW,Option.map_some,Bool.and_true] at b;obtain ⟨c,f,b⟩:=bind_some b;cases b;simp only [wu,a,List.headD_cons];cases x<;>cases y<;>simp [uJ] at f
          first
            | (split at f
               · rename_i o;simp only [ο] at o;obtain rfl:=gu o.1;obtain rfl:=gu o.2;cases f;exact run_equalIn_int (P:=P) w d t _ _ _ _ a
               · cases f)
            |(subst f;rw [run_equalIn_bool' (P:=P) w d t _ _ a])
            |(subst f;rw [run_equalIn_string (P:=P) w d t _ _ a])
end
end AM
namespace AM
open Go
section
variable {P:Program} {ap:AP} {g:dJ} {m:bf} {S:aZ} {w:World}
theorem ahw {d:TypeDesc} (h:jZ P (some d)= .ptr):∃ e,d= .pointer e:=by cases d<;>simp [jZ] at h;exact ⟨_,rfl⟩
theorem adm {d:TypeDesc} (h:jZ P (some d)= .func):∃ a b c,d= .func a b c:=by cases d<;>simp [jZ] at h;exact ⟨_,_,_,rfl⟩
theorem Zt {d:TypeDesc} (h:jZ P (some d)= .iface):∃ e,d= .interface e:=by cases d<;>simp [jZ] at h;exact ⟨_,rfl⟩
theorem abM {a b:LK} (h:af_ a b=true):a=b:=by
 cases a<;>cases b<;>simp [af_] at h
 ·rw [gu h]
 ·rfl
 ·rfl
theorem Fg:∀ {a b:List LK},IE a b=true→a=b
 | [],[],_=>rfl
 |_::_,_::_,h=>by simp only [IE,ο] at h;rw [abM h.1,Fg h.2]
 | [],_::_,h=>by simp [IE] at h
 |_::_,[],h=>by simp [IE] at h
theorem OV {k:LK} {a b:AV} {r:Bool} (h:OU k a b=some r) {x y:Value} (d:VR g m S a x) (c:VR g m S b y):uJ k x y=some r:=by
 unfold OU at h;split at h
 ·simp only [VR,PR] at d c;subst d;subst c;split at h
  ·rename_i e;cases h;simp [uJ,e]
  ·cases h
 ·simp only [VR,PR] at d c;subst d;subst c;simpa [uJ] using h
 ·simp only [VR,PR] at d c;subst d;subst c;simpa [uJ,yB] using h
 ·cases h
theorem xu:∀ {ks:List LK} {f bs:List AV} {r:Bool} {xs e:List Value},kU ks f bs=some r→bF g m S f xs→bF g m S bs e→dW ks xs e=some r
 | [],[],[],r,xs,e,h,ha,hb=>by
  cases xs<;>cases e<;>simp [bF] at ha hb
  simpa [kU,dW] using h
 |k::ks,a::f,b::bs,r,x::xs,y::e,h,ha,hb=>by
  simp only [kU] at h;obtain ⟨c,i,h⟩:=bind_some h;rw [Xqr] at h;obtain ⟨d,hd,rfl⟩:=h;simp only [bF] at ha hb;simp [dW,OV i ha.1 hb.1,xu hd ha.2 hb.2]
 | [],_::_,_,_,_,_,h,_,_=>by simp [kU] at h
 | [],[],_::_,_,_,_,h,_,_=>by simp [kU] at h
 |_::_,[],_,_,_,_,h,_,_=>by simp [kU] at h
 |_::_,_::_,[],_,_,_,h,_,_=>by simp [kU] at h
 |_::_,_::_,_::_,_,[],_,_,ha,_=>by simp [bF] at ha
 |_::_,_::_,_::_,_,_::_,[],_,_,hb=>by simp [bF] at hb
theorem Ae (c:iU P ap) {t:Nat} {b:TI} (h:ap.tyAt t=some b):b.cmp=aaw P t∧b.lks=IG P 8 t:=by
 have a:=c.ty t b h;unfold Zx at a;split at a
 ·split at a
  ·cases a;exact ⟨rfl,rfl⟩
  ·cases a
 ·cases a
theorem oD (op:BinOp) (t:TypeId) (x y:Operand) (a b:Value) (d:¬ (a= .nilIface∧b= .nilIface)) (c:∀ xs ys,¬ (a= .agg xs∧b= .agg ys)):(eqGuard op t x y a b).run P w= .ok () w:=by
 unfold eqGuard;cases op<;>simp only [Sem.run_ite,Sem.run_pure]<;>try (simp;done)
 all_goals
  simp;split
  ·exact absurd ⟨rfl,rfl⟩ d
  ·exact absurd ⟨rfl,rfl⟩ (c _ _)
  ·rfl
def RH (op:BinOp) (r:Bool):Bool:=match op with| .neq=> !r|_=>r
theorem DL {t:Nat} {a b:Value} {r:Bool} {x y:Operand} (e:∀ op,(eqGuard op t x y a b).run P w= .ok () w) (h:∀ d,(Op.equalIn (d+1) t a b).run P w= .ok r w)
  (h1:binOp .eql t a b=(do pure (.bool (← Op.equal t a b)))) (h2:binOp .neq t a b=(do pure (.bool (!(← Op.equal t a b))))) {op:BinOp} (hop:op=BinOp.eql∨op=BinOp.neq):
  (do eqGuard op t x y a b;binOp op t a b:Sem Value).run P w= .ok (.bool (RH op r)) w:=by
 have c:(Op.equal t a b).run P w= .ok r w:=h 9999;rcases hop with rfl|rfl
 ·rw [Sem.run_bind,e,Result.andThen_ok,h1,Sem.run_bind,c];rfl
 ·rw [Sem.run_bind,e,Result.andThen_ok,h2,Sem.run_bind,c];rfl
theorem Ip (s:iU P ap) {t:Nat} {H:TI} (p:ap.tyAt t=some H) {a b:AV} {F D:Value} (f:VR g m S a F) (j:VR g m S b D) {r:Bool} (h:eqA H a b=some r) (I:∀ x ∈ FO a b,x=true) (x y:Operand):
  ∀ op,op=BinOp.eql∨op=BinOp.neq→(do eqGuard op t x y F D;binOp op t F D:Sem Value).run P w= .ok (.bool (RH op r)) w:=by
 obtain ⟨i,d,z,u⟩:=dZ s p;intro op k;unfold eqA at h;split at h
 case h_2 fs xs ys hd=>
  split at h
  ·rename_i c;rw [(Ae s p).1] at c;rw [(Ae s p).2] at h;simp only [VR] at f j;obtain ⟨vs,rfl,f⟩:=f;obtain ⟨L,rfl,j⟩:=j;have K:=xu h f j;unfold aaw at c;cases E:jJ P 8 t with
   |none=>simp [E] at c
   |some l=>
    simp only [E,ο,Xqw] at c;have B:=Fg c.1;rw [← B] at K;have G:=EC 8 t l E 10000 w vs L r (by omega) K;rw [u.d_eq] at hd;obtain ⟨fields,rfl,_⟩:=wS hd;simp only [wu,u.und] at G;have J:=run_eqGuard_agg (P:=P) w op t x y vs.toArray L.toArray c.2;rcases k with rfl|rfl
    ·simp [J,run_eql_struct,G,RH]
    ·simp [J,run_neq_struct,G,RH]
  ·cases h
 all_goals try (cases h;done)
 all_goals
  rename_i hd;rw [u.d_eq] at hd
  try simp only [VR,PR] at f j
 all_goals cases h
 case h_1=>
  have hd:=adl hd;subst hd;subst f;subst j
  (refine DL (fun op=> ?_) (fun v=> ?_) rfl rfl k<;>first|exact oD op t x y _ _ (by simp) (by simp)|exact run_equalIn_bool' (P:=P) w v t _ _ u.und)
 all_goals
  first
   |(obtain ⟨e,rfl⟩:=ahw hd)
   |(obtain ⟨e,rfl⟩:=Zt hd)
   |(obtain ⟨O,M,N,rfl⟩:=adm hd)
   |(have hd:=iw hd;subst hd)
 case h_16 xs n nn=>
  subst j;obtain ⟨a,C,rfl,A,q⟩:=f;rcases q with ⟨rfl,rfl,rfl,rfl,rfl⟩|⟨b,o,vs,rfl,_⟩
  ·exact absurd (I _ (by simp [FO];rfl)) (by decide)
  ·(refine DL (fun op=> ?_) (fun v=> ?_) rfl rfl k<;>first|exact oD op t x y _ _ (by simp) (by simp)|simp [Op.equalIn,run_underlying u.und])
 case h_17 xs n nn=>
  subst f;obtain ⟨a,C,rfl,A,q⟩:=j;rcases q with ⟨rfl,rfl,rfl,rfl,rfl⟩|⟨b,o,vs,rfl,_⟩
  ·exact absurd (I _ (by simp [FO];rfl)) (by decide)
  ·(refine DL (fun op=> ?_) (fun v=> ?_) rfl rfl k<;>first|exact oD op t x y _ _ (by simp) (by simp)|simp [Op.equalIn,run_underlying u.und])
 all_goals
  try subst f
  try subst j
  try (obtain ⟨_,_,_,⟨_,_,rfl⟩,_⟩:=f)
  try (obtain ⟨_,_,_,⟨_,_,rfl⟩,_⟩:=j)
  try (obtain ⟨_,_,_,⟨_,_,_,rfl⟩,_⟩:=f)
  try (obtain ⟨_,_,_,⟨_,_,_,rfl⟩,_⟩:=j)
  try (obtain ⟨_,_,_,rfl,_⟩:=f)
  try (obtain ⟨_,_,_,rfl,_⟩:=j)
  try (obtain ⟨_,_,rfl,_⟩:=f)
  try (obtain ⟨_,_,rfl,_⟩:=j)
  try (obtain ⟨_,rfl,_⟩:=f)
  try (obtain ⟨_,rfl,_⟩:=j)
  (refine DL (fun op=> ?_) (fun v=> ?_) rfl rfl k<;>first|exact oD op t x y _ _ (by simp) (by simp)|simp [Op.equalIn,run_underlying u.und])
end
end AM
namespace AM
open Go
section
variable {P:Program} {ap:AP} {g:dJ} {m:bf} {S:aZ} {w:World}
theorem Ov (a b:List UInt8):(⟨a.toArray⟩:ByteArray)++⟨b.toArray⟩=⟨(a++b).toArray⟩:=by
 apply ByteArray.ext;rw [ByteArray.data_append];simp
theorem OA (i:iU P ap) {t:Nat} {u:TI} (f:ap.tyAt t=some u) {a b v:AV} {j o:Value} (e:VR g m S a j) (d:VR g m S b o) {op:BinOp} {ups:List (Nat × bg)} {bs:List Bool}
  (h:aeJ op u a b=some (v,ups,bs)) (hbs:∀ x ∈ bs,x=true) (x y:Operand):
  ups= []∧∃ cv,(do eqGuard op t x y j o;binOp op t j o:Sem Value).run P w= .ok cv w∧VR g m S v cv:=by
 unfold aeJ at h;split at h
 ·rename_i k p z q;simp only [VR,PR] at e d;subst e;subst d;have l:(eqGuard op t x y (.int k p) (.int z q)).run P w= .ok () w:=oD op t x y _ _ (by simp) (by simp);rw [Sem.run_bind,l,Result.andThen_ok];split at h
  ·obtain ⟨rfl,rfl,rfl⟩:=aX h;have c:=of_decide_eq_true (hbs _ (List.mem_singleton.2 rfl));exact ⟨rfl,_,by simp [binOp,Op.shift,show ¬ q<0 by omega];rfl,by simp only [VR,PR]⟩
  ·obtain ⟨rfl,rfl,rfl⟩:=aX h;have c:=of_decide_eq_true (hbs _ (List.mem_singleton.2 rfl));exact ⟨rfl,_,by simp [binOp,Op.shift,show ¬ q<0 by omega];rfl,by simp only [VR,PR]⟩
  ·split at h
   ·cases h
   ·rename_i s;have s:=gu s;subst s;split at h
    all_goals try (cases h;done)
    all_goals obtain ⟨rfl,rfl,rfl⟩:=aX h
    case h_4=>
     have c:(q==0)=false:=by simpa using hbs _ (List.mem_singleton.2 rfl)
     have c:¬ q=0:=by simpa using c
     exact ⟨rfl,_,by simp [binOp,Op.intDiv,c];rfl,by simp only [VR,PR]⟩
    case h_5=>
     have c:(q==0)=false:=by simpa using hbs _ (List.mem_singleton.2 rfl)
     have c:¬ q=0:=by simpa using c
     exact ⟨rfl,_,by simp [binOp,Op.intDiv,c];rfl,by simp only [VR,PR]⟩
    all_goals exact ⟨rfl,_,by simp only [binOp,Op.intArith,Op.intBits,Op.intCmp,ne_eq,not_true_eq_false,if_false];rfl,by simp only [VR,PR];first|done|rfl⟩
 ·rename_i p q;simp only [VR,PR] at e d;subst e;subst d;have l:(eqGuard op t x y (.string ⟨p.toArray⟩) (.string ⟨q.toArray⟩)).run P w= .ok () w:=oD op t x y _ _ (by simp) (by simp);rw [Sem.run_bind,l,Result.andThen_ok];split at h
  all_goals try (cases h;done)
  all_goals obtain ⟨rfl,rfl,rfl⟩:=aX h
  case h_1=>
   have c:=gB (hbs _ (List.mem_singleton.2 rfl));have A:¬ (IntKind.i64.max<((p.length+q.length:Nat):Int)):=by
    have:IntKind.i64.max=9223372036854775807:=by decide
    omega
   refine ⟨rfl,.string ⟨(p++q).toArray⟩, ?_,by simp only [VR,PR]⟩;simp only [binOp,Op.stringOp,Ac,gt_iff_lt,A,if_false,Ov,Sem.run_pure]
  all_goals
   refine ⟨rfl,_,rfl, ?_⟩;simp only [VR,PR,yB,yP]
 ·split at h
  ·obtain ⟨r,n,h⟩:=bind_some h;obtain ⟨rfl,rfl,rfl⟩:=aX h;exact ⟨rfl,_,Ip i f e d n hbs x y _ (.inl rfl),by simp only [VR,PR];rfl⟩
  ·obtain ⟨r,n,h⟩:=bind_some h;obtain ⟨rfl,rfl,rfl⟩:=aX h;exact ⟨rfl,_,Ip i f e d n hbs x y _ (.inr rfl),by simp only [VR,PR];rfl⟩
  ·cases h
theorem VQ {x v:AV} {b:Value} (a:VR g m S x b) {op:UnOp} {ups:List (Nat × bg)} {bs:List Bool} (h:unA op x=some (v,ups,bs)):
  ups= []∧∃ cv,(Op.unary op b).run P w= .ok cv w∧VR g m S v cv:=by
 unfold unA at h;split at h
 ·obtain ⟨rfl,rfl,rfl⟩:=aX h;simp only [VR,PR] at a;subst a;exact ⟨rfl,_,rfl,by simp only [VR,PR]⟩
 ·obtain ⟨rfl,rfl,rfl⟩:=aX h;simp only [VR,PR] at a;subst a;exact ⟨rfl,_,rfl,by simp only [VR,PR]⟩
 ·cases h
theorem vF {f:AV→AV→Option AV} {F:Value→Value→Sem Value} (d:∀ a b c ca cb,VR g m S a ca→VR g m S b cb→f a b=some c→∃ cc,(F ca cb).run P w= .ok cc w∧VR g m S c cc):
  ∀ (l:List AV) (cl:List Value) (x v:AV) (cx:Value),bF g m S l cl→VR g m S x cx→LY f x l=some v→∃ cv,(cl.foldlM F cx).run P w= .ok cv w∧VR g m S v cv
 | [],[],x,v,cx,_,hx,h=>by simp [LY] at h;subst h;exact ⟨cx,by simp,hx⟩
 | y::r,cy::cr,x,v,cx,hl,hx,h=>by
  simp only [bF] at hl;simp only [LY] at h;split at h
  ·rename_i z n;obtain ⟨e,o,j⟩:=d _ _ _ _ _ hx hl.1 n;obtain ⟨cv,i,k⟩:=vF d r cr z v e hl.2 j h;exact ⟨cv,by simp [List.foldlM_cons,o,i],k⟩
  ·cases h
 | [],_::_,_,_,_,hl,_,_=>by simp [bF] at hl
 |_::_,[],_,_,_,hl,_,_=>by simp [bF] at hl
theorem Py {a b c:AV} {d f:Value} (i:VR g m S a d) (e:VR g m S b f) (h:min2 a b=some c):∃ cc,(Builtin.min2 d f).run P w= .ok cc w∧VR g m S c cc:=by
 unfold min2 at h;split at h
 ·split at h
  ·cases h;simp only [VR,PR] at i e;subst i;subst e;exact ⟨_,rfl,by simp only [VR,PR]⟩
  ·cases h
 ·cases h
theorem Pq {a b c:AV} {d f:Value} (i:VR g m S a d) (e:VR g m S b f) (h:max2 a b=some c):∃ cc,(Builtin.max2 d f).run P w= .ok cc w∧VR g m S c cc:=by
 unfold max2 at h;split at h
 ·split at h
  ·cases h;simp only [VR,PR] at i e;subst i;subst e;exact ⟨_,rfl,by simp only [VR,PR]⟩
  ·cases h
 ·cases h
theorem UZ {l:List AV} {cl:List Value} (a:bF g m S l cl) {v:AV} (h:AX min2 l=some v) (b:Array TypeId) (ty:Nat):∃ cv,(Builtin.min_ b ty cl.toArray).run P w= .ok cv w∧VR g m S v cv:=by
 cases l with
 |nil=>simp [AX] at h
 | cons x r=>cases cl with
  |nil=>simp [bF] at a
  |cons cx cr=>
   simp only [bF] at a;obtain ⟨cv,c,d⟩:=vF (P:=P) (w:=w) (F:=Builtin.min2) (fun _ _ _ _ _=>Py) r cr x v cx a.2 a.1 h;exact ⟨cv,by simpa [Builtin.min_] using c,d⟩
theorem UX {l:List AV} {cl:List Value} (a:bF g m S l cl) {v:AV} (h:AX max2 l=some v) (b:Array TypeId) (ty:Nat):∃ cv,(Builtin.max_ b ty cl.toArray).run P w= .ok cv w∧VR g m S v cv:=by
 cases l with
 |nil=>simp [AX] at h
 | cons x r=>cases cl with
  |nil=>simp [bF] at a
  |cons cx cr=>
   simp only [bF] at a;obtain ⟨cv,c,d⟩:=vF (P:=P) (w:=w) (F:=Builtin.max2) (fun _ _ _ _ _=>Pq) r cr x v cx a.2 a.1 h;exact ⟨cv,by simpa [Builtin.max_] using c,d⟩
end
end AM
