/- The abstract machine over the code of the model, and the proof that it is sound. No conditions. -/
import Derived.WalkKit
import Derived.Deep.AppendSrc
import Derived.Deep.MidRow
import Derived.WalkLawsBesides
set_option linter.unusedSimpArgs false
set_option linter.unusedVariables false
open Nat renaming beq→Xqq,blt→Xja,ble→Xqg,le_refl→Δ,le_trans→Xq1,add_zero→Xq0,add_assoc→Xze,add_mul→Xxm,zero_add→Xqf
open List renaming replicate→κ,range→Xq6,cons_append→Xq9,take_succ_cons→Xxw,map_cons→Xqh,getD_eq_getElem?_getD→ο,headD_eq_head?_getD→Xwc,head?_drop→Xkb,tail_drop→Xki,getElem?_map→Xq3,getElem?_take→Xj0,getElem?_drop→Xzh,getElem?_eq_getElem→ξ,drop_eq_nil_of_le→Xzt,length_cons→μ,length_nil→Xqb
open BitVec renaming ofInt→Xqi
open Bool renaming and_eq_true→π,not_eq_true'→Xqo
open Option renaming map_eq_some_iff→Xqp
namespace AM
open Go
inductive AV where
 |int (k:IntKind) (n:Int)
 |bool (b:Bool)
 |str (s:List UInt8)
 |agg (l:List AV)
 |tup (l:List AV)
 |nilS
 |sl (xs:List AV) (n:Nat) (nn:Bool)
 |ref (b ver i n:Nat)
 |own (xs:List AV) (n esz:Nat)
 |ptr (b ver off:Nat)
 |pp (xs:List AV) (off:Nat)
 |mr (b ver:Nat)
 |mp (ks vs:List AV)
 |nilP
 |fn (f:Nat) (first cap:List AV)
 |nilF
 |ifc (t:Nat) (v:AV)
 |nilI
 |dead
inductive LK where
 |int (k:IntKind)
 |bool
 |str
 |sl
 |oth
inductive TD where
 |struct (fs:List (Nat × Nat × Nat))
 |array (n elem:Nat)
 |slice (elem:Nat)
 |int (k:IntKind)
 |str
 |bool
 |iface
 |ptr
 |func
 |map (k e:Nat)
 |oth
structure TI where
 d:TD
 size:Nat
 bytes:Nat
 zero:List AV
 lks:List LK
 cmp:Bool
structure AF where
 fn:Func
 keep:List Nat
 shared:Bool
inductive Tr (α:Type) where
 |nil
 |node (v:Option α) (l r:Tr α)
def Tr.get {α:Type}:Tr α→Nat→Option α
 | .nil,_=>none
 | .node v l r,n=>match Xqq n 0 with
  |true=>v
  |false=>match Xqq (n % 2) 1 with
   |true=>l.get ((n - 1) / 2)
   |false=>r.get ((n - 1) / 2)
structure AP where
 nty:Nat
 ty:Tr TI
 nfn:Nat
 fn:Tr AF
 gl:List (Option (List AV))
def iP:Nat:=4611686018427387904
def ZL:List AV→Option AV
 | [.agg ks,.agg vs]=>some (.mp ks vs)
 |_=>none
structure bg where
 cells:List AV
 ver:Nat
 fro:Bool
 fz:Nat
 esz:Nat
 pr:Bool
abbrev ja:=List (Nat × AV)
abbrev Hp:=List (Nat × bg)
def aA {α:Type}:List (Nat × α)→Nat→Option α
 | [],_=>none
 |(u,x)::r,t=>match Xqq u t with|true=>some x|false=>aA r t
def kG {α β:Type} (f:α→Option β):List α→Option (List β)
 | []=>some []
 |x::r=>match f x with
  |some y=>match kG f r with|some l=>some (y::l)|none=>none
  |none=>none
def ja.get (e:ja) (t:Nat):AV:=(aA e t).getD .dead
def AV.cells:AV→List AV
 | .agg l=>l
 |x=> [x]
def AV.toInt:AV→Int| .int _ n=>n|_=>0
def AV.toBool:AV→Bool| .bool b=>b|_=>false
def AV.toStr:AV→List UInt8| .str s=>s|_=> []
def AV.slX:AV→List AV| .sl xs _ _=>xs|_=> []
def AV.slN:AV→Nat| .sl _ n _=>n|_=>0
def VY:IntKind→Nat
 | .i8=>0| .i16=>1| .i32=>2| .i64=>3| .u8=>4| .u16=>5| .u32=>6| .u64=>7
def iR (a b:IntKind):Bool:=Xqq (VY a) (VY b)
def chk:LK→AV→Bool
 | .int k,.int k' _=>iR k k'
 | .bool,.bool _=>true
 | .str,.str _=>true
 | .sl,.sl _ _ _=>true
 | .sl,.nilS=>true
 | .oth,.dead=>false
 | .oth,.agg _=>false
 | .oth,.tup _=>false
 | .oth,.own _ _ _=>false
 | .oth,_=>true
 |_,_=>false
def eta:LK→AV→AV
 | .int k,c=> .int k c.toInt
 | .bool,c=> .bool c.toBool
 | .str,c=> .str c.toStr
 | .sl,c=> .sl c.slX c.slN false
 | .oth,c=>c
def oz:AV→Bool
 | .dead| .agg _| .tup _| .own _ _ _=>false
 |_=>true
mutual
def d_:AV→List Nat
 | .ref b _ _ _=> [b]
 | .ptr b _ _=> [b]
 | .mr b _=> [b]
 | .agg l=>bQ l
 | .tup l=>bQ l
 | .fn _ f c=>bQ f++bQ c
 | .ifc _ v=>d_ v
 |_=> []
def bQ:List AV→List Nat
 | []=> []
 |x::r=>d_ x++bQ r
end
mutual
def ren (ρ:Nat→Nat→Option (Nat × Nat)):AV→AV
 | .ref b v i n=>match ρ b v with|some (b',v')=> .ref b' v' i n|none=> .dead
 | .ptr b v o=>match ρ b v with|some (b',v')=> .ptr b' v' o|none=> .dead
 | .mr b v=>match ρ b v with|some (b',v')=> .mr b' v'|none=> .dead
 | .agg l=> .agg (mZ ρ l)
 | .tup l=> .tup (mZ ρ l)
 | .fn f a c=> .fn f (mZ ρ a) (mZ ρ c)
 | .ifc t v=> .ifc t (ren ρ v)
 |x=>x
def mZ (ρ:Nat→Nat→Option (Nat × Nat)):List AV→List AV
 | []=> []
 |x::r=>ren ρ x::mZ ρ r
end
def Je:Value→AV
 | .int k n=> .int k n
 | .bool b=> .bool b
 | .string s=> .str s.data.toList
 | .pointer a=>match a with|none=> .nilP|some _=> .dead
 | .slice a n c=>match a,n,c with|none,0,0=> .nilS|_,_,_=> .dead
 | .nilFunc=> .nilF
 | .nilIface=> .nilI
 | .map a=>match a with|none=> .mp [] []|some _=> .dead
 |_=> .dead
def ES:Value→AV
 | .agg cs=> .agg (cs.toList.map Je)
 | .tuple vs=>match vs.toList with| []=> .tup []|_=> .dead
 |v=>Je v
def AP.tyAt (ap:AP) (t:Nat):Option TI:=match Xja t ap.nty with|true=>ap.ty.get t|false=>none
def AP.fnAt (ap:AP) (f:Nat):Option AF:=match Xja f ap.nfn with|true=>ap.fn.get f|false=>none
def rQ (l:List Nat) (a:Nat):Bool:=l.any (Xqq a)
def jk (l:List Nat):List Nat:=l.foldl (fun acc b=>if rQ acc b then acc else acc++ [b]) []
abbrev Ie:=Option (AV × List (Nat × bg) × List Bool)
def bz (v:AV) (bs:List Bool:= []):Ie:=some (v,[],bs)
def LQ (ty:Bool):List LK→List AV→List AV
 | [],_=> []
 |k::ks,ys=>(match ty with|true=>eta k (ys.headD .dead)|false=>ys.headD .dead)::LQ ty ks ys.tail
def UL (ty:Bool):List LK→List AV→List Bool
 | [],_=> []
 |k::ks,ys=>(match ty with|true=>chk k (ys.headD .dead)|false=>chk .oth (ys.headD .dead))::UL ty ks ys.tail
def uI (ty:Bool) (ks:List LK) (xs:List AV) (off:Nat):List AV:=LQ ty ks (xs.drop off)
def Ir (ty:Bool) (ks:List LK) (xs:List AV) (off:Nat):List Bool:=UL ty ks (xs.drop off)
def IY:TD→Bool
 | .struct _=>true
 | .array _ _=>true
 |_=>false
def qW (ti:TI) (cs:List AV):Option AV:=
 match IY ti.d with
 |true=>some (.agg cs)
 |false=>match cs with| [c]=>some c|_=>none
def KZ (ti:TI) (rd:Nat→Option bg) (p:AV):Ie:=
 match p with
 | .pp xs off=>(qW ti (uI true ti.lks xs off)).bind fun v=>bz v (Ir true ti.lks xs off)
 | .ptr b ver off=>(rd b).bind fun B=>match Xqq B.ver ver && !(Xqq B.esz iP) with
  |true=>(qW ti (uI (Xja 0 B.esz && B.pr) ti.lks B.cells off)).bind fun v=>bz v (Ir (Xja 0 B.esz && B.pr) ti.lks B.cells off)
  |false=>none
 |_=>none
def iT (xs:List AV) (off:Nat) (vs:List AV):List AV:=xs.take off++vs++xs.drop (off+vs.length)
def O0 (ti:TI) (rd:Nat→Option bg) (p v:AV):Ie:=
 match p with
 | .ptr b ver off=>(rd b).bind fun B=>
  let vs:=v.cells
  let rs:=bQ vs
  match Xqq B.ver ver && !B.fro && Xqq vs.length ti.size && vs.all oz && !(Xqq B.esz iP) with
  |true=>some (.dead,[(b,{B with cells:=iT B.cells off vs,pr:=B.pr && rs.isEmpty})],[Xqg (off+vs.length) B.cells.length])
  |false=>none
 |_=>none
def ji (nid:Nat) (cells:List AV) (esz:Nat):Nat × bg:=(nid,{cells,ver:=0,fro:=false,fz:=0,esz,pr:=(bQ cells).isEmpty})
def wF (cells:List AV):List (Nat × Nat × AV)→Option (List AV)
 | []=>some cells
 |(off,size,v)::r=>match Xqq v.cells.length size && Xqg (off+size) cells.length && v.cells.all oz with
  |true=>wF (iT cells off v.cells) r
  |false=>none
def Nz (ap:AP) (ti:TI) (parts:List (Nat × AV)):Ie:=
 match ti.d with
 | .struct fs=>(kG (fun (q:Nat × AV)=>(fs[q.1]?).map fun (x:Nat × Nat × Nat)=>(x.1,x.2.2,q.2)) parts).bind fun ps=>(wF ti.zero ps).bind fun cs=>bz (.agg cs)
 | .array _ e=>(ap.tyAt e).bind fun te=>(wF ti.zero (parts.map fun (i,v)=>(i*te.size,te.size,v))).bind fun cs=>bz (.agg cs)
 |_=>none
def gz (n:Nat) (z:List AV):List AV:=(κ n z).flatten
def tK (ap:AP) (nid:Nat) (ti:TI) (len:Nat) (parts:List (Nat × AV)):Ie:=
 match ti.d with
 | .slice e=>(ap.tyAt e).bind fun te=>
  match Xja 0 te.size && Xqg (len*te.size) (2^24) && Xqq te.zero.length te.size with
  |true=>(wF (gz len te.zero) (parts.map fun (i,v)=>(i*te.size,te.size,v))).bind fun cs=>
   some (.ref nid 0 0 len,[ji nid cs te.size],[])
  |false=>none
 |_=>none
def WE (p:AV) (o:Nat):Option AV:=
 match p with
 | .ptr b v off=>some (.ptr b v (off+o))
 | .pp xs off=>some (.pp xs (off+o))
 |_=>none
def P7 (v:AV):Option Int:=match v with| .int _ n=>some n|_=>none
def xf (ap:AP) (ti:TI) (rd:Nat→Option bg) (x i:AV):Ie:=
 (P7 i).bind fun i=>
 match ti.d with
 | .slice e=>(ap.tyAt e).bind fun te=>
  match x with
  | .sl xs n _=>bz (.pp xs (i.toNat*te.size)) [decide (0≤i),decide (i<n)]
  | .ref b ver j n=>(rd b).bind fun B=>match Xqq B.ver ver && Xqq B.esz te.size with
   |true=>bz (.ptr b ver ((j+i.toNat)*te.size)) [decide (0≤i),decide (i<n)]
   |false=>none
  |_=>none
 | .array n e=>(ap.tyAt e).bind fun te=>(WE x (i.toNat*te.size)).bind fun p=>bz p [decide (0≤i),decide (i<n)]
 |_=>none
def Oa (ap:AP) (ti:TI) (x i:AV):Ie:=
 (P7 i).bind fun i=>
 match ti.d,x with
 | .str,.str s=>bz (.int .u8 (s.getD i.toNat 0).toNat) [decide (0≤i),decide (i<s.length)]
 | .array n e,.agg cs=>(ap.tyAt e).bind fun te=>
  (qW te (uI true te.lks cs (i.toNat*te.size))).bind fun v=>bz v (decide (0≤i)::decide (i<n)::Ir true te.lks cs (i.toNat*te.size))
 |_,_=>none
def oG (v:Option AV) (d:Int):Option Int:=match v with|none=>some d|some (.int _ n)=>some n|some _=>none
def OX (ap:AP) (ti:TI) (rd:Nat→Option bg) (x:AV) (lo hi mx:Option AV):Ie:=
 match ti.d,x,mx with
 | .str,.str s,none=>(oG lo 0).bind fun l=>(oG hi s.length).bind fun h=>
   bz (.str ((s.take h.toNat).drop l.toNat)) [decide (0≤l),decide (l≤h),decide (h≤s.length)]
 | .slice e,.sl xs n nn,none=>(ap.tyAt e).bind fun te=>(oG lo 0).bind fun l=>(oG hi n).bind fun h=>
   bz (.sl ((xs.take (h.toNat*te.size)).drop (l.toNat*te.size)) (h.toNat - l.toNat) nn) [decide (0≤l),decide (l≤h),decide (h≤n)]
 | .slice e,.ref b ver j n,none=>(ap.tyAt e).bind fun te=>(rd b).bind fun B=>(oG lo 0).bind fun l=>(oG hi n).bind fun h=>
   match Xqq B.ver ver && Xqq B.esz te.size with
   |true=>bz (.ref b ver (j+l.toNat) (h.toNat - l.toNat)) [decide (0≤l),decide (l≤h),decide (h≤n)]
   |false=>none
 | .slice e,.nilS,none=>(ap.tyAt e).bind fun _=>(oG lo 0).bind fun l=>(oG hi 0).bind fun h=>bz .nilS [decide (l=0),decide (h=0)]
 |_,_,_=>none
def V3 (d:TD) (x:AV):Ie:=
 match d,x with
 | .array n _,_=>bz (.int .i64 n)
 | .str,.str s=>bz (.int .i64 s.length)
 | .slice _,.sl _ n _=>bz (.int .i64 n)
 | .slice _,.ref _ _ _ n=>bz (.int .i64 n)
 | .slice _,.nilS=>bz (.int .i64 0)
 |_,_=>none
def MF (size:Nat) (rd:Nat→Option bg) (x:AV):Option (List AV × Nat × Bool):=
 match x with
 | .sl xs n _=>some (xs,n,true)
 | .nilS=>some ([],0,true)
 | .str s=>some (s.map fun b=> .int .u8 b.toNat,s.length,true)
 | .ref b ver j n=>(rd b).bind fun B=>match Xqq B.ver ver && Xqq B.esz size && !(Xqq B.esz iP) with
  |true=>some ((B.cells.drop (j*size)).take (n*size),n,B.pr)
  |false=>none
 |_=>none
def H7:Nat:=2^40
def xP (nid:Nat) (te:TI) (rd:Nat→Option bg) (em:Bool) (s x:AV):Ie:=
 (MF te.size rd x).bind fun (xs,n,pr)=>
 match Xja 0 te.size && Xqg te.bytes 128 with
 |false=>none
 |true=>
 match s with
 | .nilS=>match em with
  |true=>bz .nilS [Xqq xs.length (n*te.size)]
  |false=>some (.ref nid 0 0 n,[(nid,⟨xs,0,false,0,te.size,pr⟩)],[Xqq xs.length (n*te.size),Xqg n H7])
 | .ref b ver 0 m=>(rd b).bind fun B=>match Xqq B.ver ver && Xqq B.esz te.size && !(Xqq B.esz iP) with
  | true=>some (.ref b (ver+1) 0 (m+n),[(b,{B with cells:=B.cells.take (m*te.size)++xs,ver:=ver+1,pr:=B.pr && pr})],
    [Xqq xs.length (n*te.size),Xqg (m+n) H7,Xqg (m*te.size) B.cells.length, !B.fro||Xqg B.fz (m*te.size)])
  |false=>none
 |_=>none
def wW:AV→Option Nat
 | .sl _ n _=>some n
 | .nilS=>some 0
 | .str s=>some s.length
 | .ref _ _ _ n=>some n
 |_=>none
def yw (ρ:Operand→AV) (o:Op):Option Nat:=
 match o with
 | .call {callee:= .builtin .append,args,..}=>match args.toList with
  | [s,x]=>match ρ s with
   | .nilS=>wW (ρ x)
   |_=>none
  |_=>none
 |_=>none
def xk (ap:AP) (nid:Nat) (ti:TI) (l c:AV):Ie:=
 match ti.d,l,c with
 | .slice e,.int _ l,.int _ c=>(ap.tyAt e).bind fun te=>
  match Xja 0 te.size && Xqq te.zero.length te.size && Xqg te.bytes 128 && (bQ te.zero).isEmpty with
  |true=>some (.ref nid 0 0 l.toNat,[(nid,⟨gz l.toNat te.zero,0,false,0,te.size,true⟩)],[decide (0≤l),decide (l=c),decide (l≤2^40)])
  |false=>none
 |_,_,_=>none
def DT (ap:AP) (ts td:TI) (rd:Nat→Option bg) (x:AV):Ie:=
 match ts.d,td.d,x with
 |_,.int k,.int _ n=>bz (.int k (k.wrap n))
 | .str,.str,.str s=>bz (.str s)
 | .slice e,.str,x=>(ap.tyAt e).bind fun te=>match te.d,x with
  | .int .u8,.str _=>none
  | .int .u8,x=>(MF 1 rd x).bind fun (xs,n,_)=>bz (.str (xs.map fun c=>UInt8.ofNat c.toInt.toNat)) [Xqq xs.length n,xs.all (chk (.int .u8))]
  |_,_=>none
 |_,_,_=>none
def NP:LK→AV→AV→Option Bool
 | .int k,.int k1 a,.int k2 b=>match iR k k1 && iR k k2 with|true=>some (a==b)|false=>none
 | .bool,.bool a,.bool b=>some (a==b)
 | .str,.str a,.str b=>some (a==b)
 |_,_,_=>none
def kR:List LK→List AV→List AV→Option Bool
 | [],[],[]=>some true
 |k::ks,a::as,b::bs=>(NP k a b).bind fun c=>(kR ks as bs).map fun d=>c && d
 |_,_,_=>none
def eqA (ti:TI) (a b:AV):Option Bool:=
 match ti.d,a,b with
 | .bool,.bool a,.bool b=>some (a==b)
 | .struct _,.agg xs,.agg ys=>match ti.cmp with|true=>kR ti.lks xs ys|false=>none
 | .ptr,.nilP,.nilP=>some true
 | .ptr,.nilP,.ptr _ _ _=>some false
 | .ptr,.nilP,.pp _ _=>some false
 | .ptr,.ptr _ _ _,.nilP=>some false
 | .ptr,.pp _ _,.nilP=>some false
 | .iface,.nilI,.ifc _ _=>some false
 | .iface,.ifc _ _,.nilI=>some false
 | .func,.nilF,.nilF=>some true
 | .func,.nilF,.fn _ _ _=>some false
 | .func,.fn _ _ _,.nilF=>some false
 | .slice _,.nilS,.nilS=>some true
 | .slice _,.ref _ _ _ _,.nilS=>some false
 | .slice _,.nilS,.ref _ _ _ _=>some false
 | .slice _,.sl _ _ _,.nilS=>some false
 | .slice _,.nilS,.sl _ _ _=>some false
 |_,_,_=>none
def EP (a b:AV):List Bool:=
 match a,b with
 | .sl _ n false,.nilS=> [Xja 0 n]
 | .nilS,.sl _ n false=> [Xja 0 n]
 |_,_=> []
def iy:List UInt8→List UInt8→Bool
 |_,[]=>false
 | [],_::_=>true
 |a::x,b::y=>decide (a<b)||(a==b && iy x y)
def adg (op:BinOp) (ti:TI) (x y:AV):Ie:=
 match x,y with
 | .int k a,.int k' b=>
  match op with
  | .shl=>bz (.int k (k.wrap (a*2^(min b.toNat k.bits)))) [decide (0≤b)]
  | .shr=>bz (.int k (a.fdiv (2^(min b.toNat k.bits)))) [decide (0≤b)]
  | _=>match iR k k' with
   |false=>none
   |true=>match op with
    | .add=>bz (.int k (k.wrap (a+b)))
    | .sub=>bz (.int k (k.wrap (a - b)))
    | .mul=>bz (.int k (k.wrap (a*b)))
    | .quo=>bz (.int k (k.wrap (a.tdiv b))) [!(b==0)]
    | .rem=>bz (.int k (a.tmod b)) [!(b==0)]
    | .and=>bz (.int k (k.wrap (Xqi k.bits a &&& Xqi k.bits b).toNat))
    | .or=>bz (.int k (k.wrap (Xqi k.bits a|||Xqi k.bits b).toNat))
    | .xor=>bz (.int k (k.wrap (Xqi k.bits a^^^Xqi k.bits b).toNat))
    | .eql=>bz (.bool (a==b))
    | .neq=>bz (.bool (!(a==b)))
    | .lss=>bz (.bool (decide (a<b)))
    | .leq=>bz (.bool (decide (a≤b)))
    | .gtr=>bz (.bool (decide (b<a)))
    | .geq=>bz (.bool (decide (b≤a)))
    |_=>none
 | .str a,.str b=>
  match op with
  | .add=>bz (.str (a++b)) [Xqg (a.length+b.length) 9223372036854775807]
  | .eql=>bz (.bool (a==b))
  | .neq=>bz (.bool (!(a==b)))
  | .lss=>bz (.bool (iy a b))
  | .leq=>bz (.bool (iy a b||a==b))
  | .gtr=>bz (.bool (!(iy a b||a==b)))
  | .geq=>bz (.bool (!iy a b))
  |_=>none
 |x,y=>
  match op with
  | .eql=>(eqA ti x y).bind fun b=>bz (.bool b) (EP x y)
  | .neq=>(eqA ti x y).bind fun b=>bz (.bool (!b)) (EP x y)
  |_=>none
def unA (op:UnOp) (x:AV):Ie:=
 match op,x with
 | .not,.bool b=>bz (.bool (!b))
 | .neg,.int k n=>bz (.int k (k.wrap (0 - n)))
 |_,_=>none
def min2 (a b:AV):Option AV:=match a,b with| .int k x,.int k' y=>(match iR k k' with|true=>some (.int k (if y<x then y else x))|false=>none)|_,_=>none
def max2 (a b:AV):Option AV:=match a,b with| .int k x,.int k' y=>(match iR k k' with|true=>some (.int k (if y>x then y else x))|false=>none)|_,_=>none
def KI (f:AV→AV→Option AV):AV→List AV→Option AV
 |x,[]=>some x
 |x,y::r=>match f x y with|some z=>KI f z r|none=>none
def zK (f:AV→AV→Option AV):List AV→Option AV
 | []=>none
 |x::r=>KI f x r
def Il (ap:AP) (x:AV) (asserted:Nat) (commaOk:Bool):Ie:=
 (ap.tyAt asserted).bind fun ti=>
 match ti.d with
 | .iface=>none
 | _=>match x with
  | .ifc t v=>match Xqq t asserted with
   |true=>bz (match commaOk with|true=> .tup [v,.bool true]|false=>v)
   |false=>match commaOk with|true=>(qW ti ti.zero).bind fun z=>bz (.tup [z,.bool false])|false=>none
  | .nilI=>match commaOk with|true=>(qW ti ti.zero).bind fun z=>bz (.tup [z,.bool false])|false=>none
  |_=>none
def N7 (ap:AP) (ti:TI) (x:AV) (f:Nat):Ie:=
 match ti.d,x with
 | .struct fs,.agg cs=>(fs[f]?).bind fun (o,t,_)=>(ap.tyAt t).bind fun tf=>
  (qW tf (uI false tf.lks cs o)).bind fun v=>bz v (Ir false tf.lks cs o)
 |_,_=>none
def xR:AV→List Nat
 | .ref b _ _ _=> [b]
 | .ptr b _ _=> [b]
 | .mr b _=> [b]
 |_=> []
def W_ (ρ:Operand→AV):Op→List Nat
 | .load _ a=>xR (ρ a)
 | .store _ a _=>xR (ρ a)
 | .indexAddr _ x _=>xR (ρ x)
 | .slice _ x _ _ _=>xR (ρ x)
 | .convert _ _ x=>xR (ρ x)
 | .lookup _ x _ _=>xR (ρ x)
 | .mapUpdate _ x _ _=>xR (ρ x)
 | .insert _ x _ _=>xR (ρ x)
 | .call {callee:= .builtin .append,args,..}=>jk (args.toList.flatMap fun x=>xR (ρ x))
 |_=> []
def He:LK→AV→Bool
 | .int k,.int k' _=>iR k k'
 | .bool,.bool _=>true
 | .str,.str _=>true
 |_,_=>false
def ni:List LK→List AV→Bool
 | [],[]=>true
 |k::r,x::l=>He k x && ni r l
 |_,_=>false
def kU (ti:TI) (x:AV):Bool:=match ti.d,x with
 | .int k,.int k' _=>iR k k'
 | .bool,.bool _=>true
 | .str,.str _=>true
 | .struct _,.agg l=>ti.cmp && ni ti.lks l
 |_,_=>false
def D8:AV→AV→Bool
 | .int _ a,.int _ b=>a==b
 | .bool a,.bool b=>a==b
 | .str a,.str b=>a==b
 |_,_=>false
def II:List AV→List AV→Bool
 | [],[]=>true
 |a::r,b::q=>D8 a b && II r q
 |_,_=>false
def wZ:AV→AV→Bool
 | .int _ a,.int _ b=>a==b
 | .bool a,.bool b=>a==b
 | .str a,.str b=>a==b
 | .agg a,.agg b=>II a b
 |_,_=>false
def dV:List AV→List AV→AV→Option AV
 |k0::ks,v0::vs,k=>match wZ k k0 with|true=>some v0|false=>dV ks vs k
 |_,_,_=>none
def xq (ks:List AV) (k:AV):List AV:=match ks.any (wZ k) with|true=>ks|false=>ks++ [k]
def oW:List AV→List AV→AV→AV→List AV
 |k0::ks,v0::vs,k,v=>match wZ k k0 with|true=>v::vs|false=>v0::oW ks vs k v
 |_,_,_,v=> [v]
def V_ (rd:Nat→Option bg) (x:AV):Option (List AV × List AV):=
 match x with
 | .mp ks vs=>some (ks,vs)
 | .mr b ver=>(rd b).bind fun B=>match Xqq B.ver ver && Xqq B.esz iP with
  |true=>match B.cells with| [.agg ks,.agg vs]=>some (ks,vs)|_=>none
  |false=>none
 |_=>none
def Qe (ok:Bool) (o:Option AV) (z:AV):AV:=match ok with|true=> .tup [o.getD z,.bool o.isSome]|false=>o.getD z
def I5 (ap:AP) (ti:TI) (rd:Nat→Option bg) (x k:AV) (ok:Bool):Ie:=
 match ti.d with
 | .map kt et=>(ap.tyAt kt).bind fun tk=>(ap.tyAt et).bind fun te=>(V_ rd x).bind fun q=>(qW te te.zero).bind fun z=>
   bz (Qe ok (dV q.1 q.2 k) z) [kU tk k,q.1.all (kU tk)]
 |_=>none
def Df (ap:AP) (ti:TI) (rd:Nat→Option bg) (x k v:AV):Ie:=
 match ti.d,x with
 | .map kt _,.mr b ver=>(ap.tyAt kt).bind fun tk=>(rd b).bind fun B=>match Xqq B.ver ver && Xqq B.esz iP && !B.fro with
  |true=>match B.cells with
   | [.agg ks,.agg vs]=>some (.dead,[(b,{B with cells:= [.agg (xq ks k),.agg (oW ks vs k v)],pr:=B.pr && (d_ v).isEmpty})],[kU tk k,ks.all (kU tk)])
   |_=>none
  |false=>none
 |_,_=>none
def opA (ap:AP) (nid:Nat) (ρ:Operand→AV) (rd:Nat→Option bg) (dec:Operand→Option Bool) (em:Bool) (o:Op):Ie:=
 match o with
 | .move x=>bz (ρ x)
 | .assign x=>bz (ρ x)
 | .pick c a b=>match dec c with
  |some true=>bz (ρ a)
  |some false=>bz (ρ b)
  |none=>match ρ c,ρ a,ρ b with| .bool c,.bool x,.bool y=>bz (.bool (cond c x y))|_,_,_=>none
 | .alloc e=>(ap.tyAt e).bind fun te=>match Xja 0 te.size && te.zero.all oz with|true=>some (.ptr nid 0 0,[ji nid te.zero 0],[])|false=>none
 | .box e x=>(ap.tyAt e).bind fun te=>let vs:=(ρ x).cells
  match Xja 0 te.size && vs.all oz with|true=>some (.ptr nid 0 0,[ji nid vs 0],[])|false=>none
 | .build t parts=>(ap.tyAt t).bind fun ti=>Nz ap ti (parts.toList.map fun (i,x)=>(i,ρ x))
 | .buildSlice t len parts=>(ap.tyAt t).bind fun ti=>tK ap nid ti len (parts.toList.map fun (i,x)=>(i,ρ x))
 | .load t a=>(ap.tyAt t).bind fun ti=>KZ ti rd (ρ a)
 | .store t a x=>(ap.tyAt t).bind fun ti=>O0 ti rd (ρ a) (ρ x)
 | .makeMap _ r=>match r with|none=>some (.mr nid 0,[(nid,⟨[.agg [],.agg []],0,false,0,iP,true⟩)],[])|some _=>none
 | .lookup t x k ok=>(ap.tyAt t).bind fun ti=>I5 ap ti rd (ρ x) (ρ k) ok
 | .mapUpdate t x k v=>(ap.tyAt t).bind fun ti=>Df ap ti rd (ρ x) (ρ k) (ρ v)
 | .insert t x k v=>(ap.tyAt t).bind fun ti=>Df ap ti rd (ρ x) (ρ k) (ρ v)
 | .nilCheck x=>match ρ x with
  | .ptr b v o=>bz (.ptr b v o)
  | .pp xs o=>bz (.pp xs o)
  | .fn f a c=>bz (.fn f a c)
  |_=>none
 | .binOp op t x y _=>(ap.tyAt t).bind fun ti=>adg op ti (ρ x) (ρ y)
 | .unOp op _ x=>unA op (ρ x)
 | .convert s d x=>(ap.tyAt s).bind fun ts=>(ap.tyAt d).bind fun td=>DT ap ts td rd (ρ x)
 | .makeInterface t x=>(ap.tyAt t).bind fun ti=>match ti.d with| .iface=>none|_=>bz (.ifc t (ρ x))
 | .makeFunc (.func f) first cap=>bz (.fn f (first.toList.map ρ) (cap.toList.map ρ))
 | .makeSlice t l c=>(ap.tyAt t).bind fun ti=>xk ap nid ti (ρ l) (ρ c)
 | .slice t x lo hi mx=>(ap.tyAt t).bind fun ti=>OX ap ti rd (ρ x) (lo.map ρ) (hi.map ρ) (mx.map ρ)
 | .fieldAddr s x f=>(ap.tyAt s).bind fun ti=>match ti.d with
  | .struct fs=>(fs[f]?).bind fun (o,_,sz)=>match Xja 0 sz with|true=>(WE (ρ x) o).bind fun p=>bz p|false=>none
  |_=>none
 | .field t x f=>(ap.tyAt t).bind fun ti=>N7 ap ti (ρ x) f
 | .indexAddr t x i=>(ap.tyAt t).bind fun ti=>xf ap ti rd (ρ x) (ρ i)
 | .index t x i=>(ap.tyAt t).bind fun ti=>Oa ap ti (ρ x) (ρ i)
 | .typeAssert x _ asserted ok=>Il ap (ρ x) asserted ok
 | .extract t i=>match ρ t with| .tup l=>(l[i]?).bind fun v=>bz v|_=>none
 | .call {callee:= .builtin b,args,argTypes}=>
  match b with
  | .len=>(args[0]?).bind fun x=>(argTypes[0]?).bind fun t=>(ap.tyAt t).bind fun ti=>V3 ti.d (ρ x)
  | .append=>match args.toList,argTypes.toList with
   | [s,x],[t,t1]=>(ap.tyAt t).bind fun ti=>(ap.tyAt t1).bind fun ti1=>match ti.d,ti1.d,ρ x with
    | .slice e,.str,.str y=>(ap.tyAt e).bind fun te=>match Xqq te.size 1 with|true=>xP nid te rd em (ρ s) (.str y)|false=>none
    | .slice _,.slice _,.str _=>none
    | .slice e,.slice _,y=>(ap.tyAt e).bind fun te=>xP nid te rd em (ρ s) y
    |_,_,_=>none
   |_,_=>none
  | .min=>(zK min2 (args.toList.map ρ)).bind fun v=>bz v
  | .max=>(zK max2 (args.toList.map ρ)).bind fun v=>bz v
  |_=>none
 |_=>none
def Hl (P:Program):Nat→TypeId→List LK
 |0,_=> [.oth]
 |n+1,t=>match P.underlying t with
  |some (.int k)=> [.int k]
  |some .bool=> [.bool]
  |some .string=> [.str]
  |some (.slice _)=> [.sl]
  |some (.struct fs)=>fs.toList.flatMap fun f=>Hl P n f.type
  |some (.array m e)=>(κ m (Hl P n e)).flatten
  |_=> [.oth]
def jY (P:Program):Option TypeDesc→TD
 |some (.int k)=> .int k
 |some .bool=> .bool
 |some .string=> .str
 |some (.slice e)=> .slice e
 |some (.array n e)=> .array n e
 |some (.struct fs)=> .struct (fs.toList.map fun f=>(f.offset,f.type,match P.info? f.type with|some i=>i.size|none=>0))
 |some (.interface _)=> .iface
 |some (.pointer _)=> .ptr
 |some (.func _ _ _)=> .func
 |some (.map k e)=> .map k e
 |_=> .oth
def xZ (P:Program) (f:TypeId→Option (List LK)):List Field→Nat→Option (List LK)
 | [],_=>some []
 | x::r,off=>match f x.type with
  |some l=>match !(x.name== "_") && Xqq x.offset off && (match P.info? x.type with|some i=>Xqq i.size l.length|none=>false) with
   |true=>match xZ P f r (off+l.length) with|some l'=>some (l++l')|none=>none
   |false=>none
  |none=>none
def jH (P:Program):Nat→TypeId→Option (List LK)
 |0,_=>none
 |n+1,t=>match P.underlying t with
  |some (.int k)=>some [.int k]
  |some .bool=>some [.bool]
  |some .string=>some [.str]
  |some (.struct fs)=>match P.stoodInHeld t with|true=>none|false=>xZ P (jH P n) fs.toList 0
  |_=>none
def agl (i:TypeInfo) (d:TypeDesc):Bool:=match i.zero,d with
 |some (.agg _),.struct _=>true
 |some (.agg _),.array _ _=>true
 |some (.agg _),_=>false
 |some _,.struct _=>false
 |some _,.array _ _=>false
 |some _,_=>true
 |none,_=>false
def VH (P:Program) (d:TypeDesc):Bool:=match d with
 | .struct fs=>fs.toList.all fun f=>(P.info? f.type).isSome
 |_=>true
def F5 (i:TypeInfo):List AV:=match i.zero with|some z=>z.cells.toList.map ES|none=> []
def aex:LK→LK→Bool
 | .int a,.int b=>iR a b
 | .bool,.bool=>true
 | .str,.str=>true
 |_,_=>false
def Hg:List LK→List LK→Bool
 | [],[]=>true
 |a::r,b::q=>aex a b && Hg r q
 |_,_=>false
def YF (P:Program) (t:TypeId):Bool:=match jH P 8 t with|some l=>Hg l (Hl P 8 t) && !P.eqGuardType P.depth t|none=>false
def XP (P:Program) (t:TypeId):Option TI:=
 match P.info? t,P.underlying t with
 |some i,some d=>
  match Xqq (Hl P 8 t).length i.size && (agl i d && VH P d) && (F5 i).all oz && Xqq (F5 i).length i.size && Xja 0 i.size && i.zero.isSome && Xja i.size iP with
  |true=>some {d:=jY P (some d),size:=i.size,bytes:=i.bytes,zero:=F5 i,lks:=Hl P 8 t,cmp:=YF P t}
  |false=>none
 |_,_=>none
abbrev aT:=Nat→Nat→Option Value
def oQ (S S':aT):Prop:=∀ k o v,S k o=some v→S' k o=some v
theorem oQ.refl (S:aT):oQ S S:=fun _ _ _ h=>h
theorem oQ.trans {S S' S'':aT} (h:oQ S S') (a:oQ S' S''):oQ S S'':=fun k o v e=>a k o v (h k o v e)
def kM (S:aT) (b o:Nat) (vs:List Value):Prop:=∀ j u,vs[j]? =some u→S b (o+j)=some u∧u.oneCell'=true
mutual
def PR (S:aT):AV→Value→Prop
 | .int k n,v=>v= .int k n
 | .bool b,v=>v= .bool b
 | .str s,v=>v= .string ⟨s.toArray⟩
 | .agg l,v=> ∃ vs,v= .agg vs.toArray∧dY S l vs
 | .tup l,v=> ∃ vs,v= .tuple vs.toArray∧dY S l vs
 | .nilS,v=>v= .slice none 0 0
 | .sl xs n nn,v=> ∃ a cap,v= .slice a n cap∧n≤cap∧(((a=none→nn=false)∧xs= []∧n=0∧cap=0)∨∃ b o vs,a=some ⟨b,o,none⟩∧dY S xs vs∧kM S b o vs)
 | .pp xs off,v=> ∃ b o vs,v= .pointer (some ⟨b,o+off,none⟩)∧dY S xs vs∧kM S b o vs
 | .mp ks vs,v=>(v= .map none∧ks= []∧vs= [])∨∃ b kk vv,v= .map (some b)∧S b 0=some (.agg kk.toArray)∧S b 1=some (.agg vv.toArray)∧dY S ks kk∧dY S vs vv
 | .nilP,v=>v= .pointer none
 | .fn f a c,v=> ∃ va vc,v= .func (.func f) va.toArray vc.toArray∧dY S a va∧dY S c vc
 | .nilF,v=>v= .nilFunc
 | .ifc t x,v=> ∃ u,v= .iface t u∧PR S x u
 | .nilI,v=>v= .nilIface
 | .dead,_=>True
 | .ref _ _ _ _,_=>False
 | .ptr _ _ _,_=>False
 | .mr _ _,_=>False
 | .own _ _ _,_=>False
def dY (S:aT):List AV→List Value→Prop
 | [],[]=>True
 |x::r,v::vs=>PR S x v∧dY S r vs
 |_,_=>False
end
abbrev dG:=Nat→Option bg
abbrev aZ:=Nat→Nat × Nat
mutual
def VR (g:dG) (m:aZ) (S:aT):AV→Value→Prop
 | .ref b ver i n,v=> ∃ B,g b=some B∧ver≤B.ver∧(∃ k o c',v= .slice (some ⟨k,o,none⟩) n c')∧(B.ver=ver→∃ o,v= .slice (some ⟨(m b).1,o,none⟩) n ((m b).2 - i)∧i+n≤(m b).2∧(i<(m b).2→o=i*B.esz)∧0<B.esz∧B.esz ≠ iP)
 | .ptr b ver off,v=> ∃ B,g b=some B∧ver≤B.ver∧(∃ k o,v= .pointer (some ⟨k,o,none⟩))∧(B.ver=ver→v= .pointer (some ⟨(m b).1,off,none⟩))
 | .mr b ver,v=> ∃ B,g b=some B∧ver≤B.ver∧(∃ k,v= .map (some k))∧(B.ver=ver→v= .map (some (m b).1))
 | .agg l,v=> ∃ vs,v= .agg vs.toArray∧bi g m S l vs
 | .tup l,v=> ∃ vs,v= .tuple vs.toArray∧bi g m S l vs
 | .fn f a c,v=> ∃ va vc,v= .func (.func f) va.toArray vc.toArray∧bi g m S a va∧bi g m S c vc
 | .ifc t x,v=> ∃ u,v= .iface t u∧VR g m S x u
 | .int k n,v=>PR S (.int k n) v
 | .bool b,v=>PR S (.bool b) v
 | .str s,v=>PR S (.str s) v
 | .nilS,v=>PR S .nilS v
 | .sl xs n nn,v=>PR S (.sl xs n nn) v
 | .pp xs off,v=>PR S (.pp xs off) v
 | .mp ks vs,v=>PR S (.mp ks vs) v
 | .nilP,v=>PR S .nilP v
 | .nilF,v=>PR S .nilF v
 | .nilI,v=>PR S .nilI v
 | .dead,_=>True
 | .own _ _ _,_=>False
def bi (g:dG) (m:aZ) (S:aT):List AV→List Value→Prop
 | [],[]=>True
 |x::r,v::vs=>VR g m S x v∧bi g m S r vs
 |_,_=>False
end
def aS (x y:AV):Prop:=∀ g m S v,VR g m S x v→VR g m S y v
inductive vW where
 |v (d:Nat) (x:AV)
 |b (d:Nat) (xs:List AV)
 |u (d:Nat)
inductive kJ where
 |ret (v:AV)
 |pan (v:AV)
structure Cx where
 cl:Bool
 orc:List Bool
 bs:List Bool
 ps:List Prop
 ans:List (kJ × List bg)
 hs:List vW
inductive R (α:Type) where
 |ok (a:α) (c:Cx)
 |need
 |bad (n:Nat)
def R.bind {α β:Type} (r:R α) (f:α→Cx→R β):R β:=
 match r with
 | .ok a c=>f a c
 | .need=> .need
 | .bad n=> .bad n
def lit (o b:Bool):Bool:=match o with|true=>b|false=> !b
def Y1 (c:Cx) (bs:List Bool):R Unit:=
 match c.cl with
 |true=>match bs.all id with|true=> .ok () c|false=> .bad 1
 |false=> .ok () {c with bs:=bs++c.bs}
def zx (c:Cx) (b:Bool):R Bool:=
 match c.cl with
 |true=> .ok b c
 |false=>match c.orc with
  | []=> .need
  |o::r=> .ok o {c with orc:=r,bs:=lit o b::c.bs}
def Eh (c:Cx) (dst:Option Nat) (v:AV):AV × Cx:=
 match c.hs,dst with
 | .v d x::r,some d'=>match Xqq d d' with
  |true=>(x,{c with hs:=r,ps:=aS v x::c.ps})
  |false=>(v,c)
 |_,_=>(v,c)
def Eg (c:Cx) (dst:Option Nat) (ups:List (Nat × bg)):List (Nat × bg) × Cx:=
 match c.hs,dst,ups with
 | .b d xs::r,some d',[(b,B)]=>match Xqq d d' with
  |true=>([(b,{B with cells:=xs})],{c with hs:=r,ps:=(B.cells=xs)::c.ps})
  |false=>(ups,c)
 |_,_,_=>(ups,c)
def PX (c:Cx) (dst:Option Nat):Bool × Cx:=
 match c.hs,dst with
 | .u d::r,some d'=>match Xqq d d' with
  |true=>(true,{c with hs:=r})
  |false=>(false,c)
 |_,_=>(false,c)
abbrev di:=Cx→AV→Nat→List AV→List bg→R (kJ × List bg × AV)
def tq (rd:Nat→Option bg):Nat→List Nat→List Nat
 |0,l=>l
 |n+1,l=>
  let more:=l.flatMap fun b=>match rd b with|some B=>(match B.pr with|true=> []|false=>bQ B.cells)|none=> []
  let l':=more.foldl (fun acc b=>if rQ acc b then acc else acc++ [b]) l
  match Xqq l'.length l.length with|true=>l|false=>tq rd n l'
def frz (rd:Nat→Option bg):Nat→AV→Option AV
 |0,_=>none
 | fuel+1,x=>
  let frzL (l:List AV):Option (List AV):=kG (frz rd fuel) l
  match x with
  | .ref b ver i n=>(rd b).bind fun B=>match Xqq B.ver ver with
   |true=>match B.pr with
    |true=>some (.sl ((B.cells.drop (i*B.esz)).take (n*B.esz)) n true)
    |false=>(frzL ((B.cells.drop (i*B.esz)).take (n*B.esz))).map fun l=> .sl l n true
   |false=>none
  | .ptr b ver off=>(rd b).bind fun B=>match Xqq B.ver ver && !(Xqq B.esz iP) with
   |true=>match B.pr with
    |true=>some (.pp B.cells off)
    |false=>(frzL B.cells).map fun l=> .pp l off
   |false=>none
  | .mr b ver=>(rd b).bind fun B=>match Xqq B.ver ver && Xqq B.esz iP with
   |true=>match B.pr with
    |true=>ZL B.cells
    |false=>(frzL B.cells).bind ZL
   |false=>none
  | .agg l=>(frzL l).map .agg
  | .tup l=>(frzL l).map .tup
  | .fn f a c=>(frzL a).bind fun a=>(frzL c).map fun c=> .fn f a c
  | .ifc t v=>(frz rd fuel v).map (.ifc t)
  | .own _ _ _=>none
  |x=>some x
def qi (l:List Nat) (b:Nat):Option Nat:=match l with
 | []=>none
 |c::r=>match Xqq c b with|true=>some 0|false=>(qi r b).map (· +1)
def Ji (xs:List AV) (esz:Nat):bg:={cells:=xs,ver:=0,fro:=false,fz:=0,esz,pr:=true}
def fM (nid:Nat):List AV→List AV × List bg
 | []=>([],[])
 | .own xs n esz::r=>match fM (nid+1) r with|(l,bs)=>(.ref nid 0 0 n::l,Ji xs esz::bs)
 |x::r=>match fM nid r with|(l,bs)=>(x::l,bs)
def lM (nid:Nat):AV→AV × List bg
 | .tup l=>match fM nid l with|(l,bs)=>(.tup l,bs)
 | .own xs n esz=>(.ref nid 0 0 n,[Ji xs esz])
 |x=>(x,[])
def ER:Nat→List bg→List (Nat × bg)
 |_,[]=> []
 |n,B::r=>(n,B)::ER (n+1) r
def MV:List Nat→List bg→List (Nat × bg)
 |b::r,B::q=>(b,B)::MV r q
 |_,_=> []
def rW:List Nat→Bool
 | []=>true
 |b::r=> !rQ r b && rW r
def B_ (ρ:Nat→Nat→Option (Nat × Nat)) (v:Nat) (B:bg):bg:={B with cells:=(match B.pr with|true=>B.cells|false=>mZ ρ B.cells),ver:=v+B.ver}
def Pn (nid:Nat) (fp:List Nat) (vers:Nat→Nat) (n:Nat):Nat→Nat→Option (Nat × Nat):=fun p v=>
 match fp[p]? with
 |some b=>some (b,vers b+v)
 |none=>match Xja p n with|true=>some (nid+(p - fp.length),v)|false=>none
structure Un where
 out:kJ
 ups:List (Nat × bg)
 fp:List Nat
 md:AV
def tV (ap:AP) (H:di) (rd:Nat→Option bg) (nid:Nat) (md:AV) (f:Nat) (args:List AV) (c:Cx):R Un:=
 let fp:=tq rd 6 (jk (bQ args))
 let rd:=fun b=>match rQ fp b with|true=>rd b|false=>none
 let shared:=match ap.fnAt f with|some F=>F.shared|none=>false
 match shared with
 | false=>
  match kG (frz rd 6) args with
  |none=> .bad 10
  |some args'=>
   (H c md f args' []).bind fun (out,h',md) c=>
   match h' with
   |_::_=> .bad 14
   | []=>
   let mark:=fp.filterMap fun b=>(rd b).map fun B=>(b,{B with fro:=true,fz:=B.cells.length})
   match out with
   | .ret v=>match lM nid v with|(v,bs)=>match Xqg bs.length 4 with|true=> .ok {out:= .ret v,ups:=ER nid bs++mark,fp,md} c|false=> .bad 13
   | .pan v=> .ok {out:= .pan v,ups:=mark,fp,md} c
 | true=>
  let vers:=fun b=>match rd b with|some B=>B.ver|none=>0
  let ρ:Nat→Nat→Option (Nat × Nat):=fun b v=>match Xqq v (vers b) with|true=>(qi fp b).map fun p=>(p,0)|false=>none
  match kG rd fp with
  |none=> .bad 11
  | some bl=>
   (H c md f (mZ ρ args) (bl.map fun B=> {B with cells:=(match B.pr with|true=>B.cells|false=>mZ ρ B.cells),ver:=0})).bind fun (out,h',md) c=>
   match Xqg fp.length h'.length && rW fp with
   |false=> .bad 12
   |true=>
    let ρ':=Pn nid fp vers h'.length
    let ups:=(MV fp h').map fun (b,B)=>(b,B_ ρ' (vers b) B)
    let ex:=(h'.drop fp.length).map (B_ ρ' 0)
    match out with
    | .ret v=>match lM (nid+(h'.length - fp.length)) (ren ρ' v) with|(v,bs)=>match Xqg ((h'.length - fp.length)+bs.length) 4 with|true=> .ok {out:= .ret v,ups:=ER nid (ex++bs)++ups,fp,md} c|false=> .bad 13
    | .pan v=>match Xqg (h'.length - fp.length) 4 with|true=> .ok {out:= .pan (ren ρ' v),ups:=ER nid (ex++ [])++ups,fp,md} c|false=> .bad 13
inductive bG where
 |normal
 |exit (id:Nat)
 |ret
 |panic (v:AV)
structure St where
 env:ja
 hp:Hp
 md:AV
 dfs:List (Nat × List AV)
structure Dl where
 rt:List Nat
 wt:List Nat
 rb:List Nat
 wb:List Nat
structure RS where
 env:ja
 hp:Hp
 md:AV
 dfs:List (Nat × List AV)
 dec:List (Nat × Bool)
 feet:List Dl
def uM (l:List Operand):List Nat:=l.filterMap fun| .tmp t=>some t|_=>none
def IA (o:Oper):List Nat:=match o.dst with|some d=> [d]|none=> []
def qm (env:ja) (dst:Option Nat) (v:AV):ja:=match dst with|some d=>(d,v)::env|none=>env
def qM (ap:AP) (env:ja):Operand→AV
 | .tmp t=>env.get t
 | .const v=>ES v
 | .global g=>match (ap.gl[g]?).join with|some xs=> .pp xs 0|none=> .dead
 | .func f=> .fn f [] []
def N8 (ops:List Oper) (env:ja) (dec:List (Nat × Bool)) (o:Oper) (c:Cx):R (Bool × List (Nat × Bool)):=
 match o.guard with
 |none=> .ok (true,dec) c
 | some (j,want)=>
  match (ops[j]?).bind (·.dst) with
  |none=> .bad 20
  | some s=>match aA dec s with
   |some b=> .ok (lit want b,dec) c
   |none=>match env.get s with
    | .bool b=>(zx c b).bind fun b' c=> .ok (lit want b',(s,b')::dec) c
    | .tup []=> .ok (false,dec) c
    |_=> .bad 21
def jv (ops:List Oper) (o:Oper):List Nat:=
 match o.guard with
 |none=> []
 |some (j,_)=>match (ops[j]?).bind (·.dst) with|none=> []|some s=> [s]
def Va (dec:List (Nat × Bool)) (o:Oper):Bool:=match o.dst with|none=>true|some d=>match aA dec d with|none=>true|some _=>false
def QT (ap:AP) (H:di) (nid:Nat) (ops:List Oper) (o:Oper) (s:RS) (c:Cx):R (RS × Option AV):=
 (N8 ops s.env s.dec o c).bind fun (run,dec) c=>
 let rt:=uM o.op.operands.toList++jv ops o
 match Va dec o with
 |false=> .bad 35
 |true=>
 match run with
 |false=> .ok ({s with env:=qm s.env o.dst (.tup []),dec,feet:={rt,wt:=IA o,rb:= [],wb:= []}::s.feet},none) c
 | true=>
  let ρ:=qM ap s.env
  let rdAll:=aA s.hp
  match o.op with
  | .call {callee:= .value g,args,..}=>
   match ρ g with
   | .fn f first cap=>
    (tV ap H rdAll nid .dead f (first++args.toList.map ρ++cap) c).bind fun r c=>
    let foot:Dl:={rt,wt:=IA o,rb:=r.fp,wb:=r.ups.map fun (q:Nat × bg)=>q.1}
    match PX c o.dst with
    | (true,c)=>match r.out with
     | .ret v=>match r.ups.all (fun (q:Nat × bg)=>rQ r.fp q.1) with
      |true=> .ok ({s with env:=qm s.env o.dst v,dec,feet:={rt,wt:=IA o,rb:=r.fp,wb:= []}::s.feet},none) {c with ps:=(r.ups.map (fun (q:Nat × bg)=>some q.2)=r.ups.map (fun (q:Nat × bg)=>aA s.hp q.1))::c.ps}
      |false=> .bad 36
     | .pan _=> .bad 37
    |(false,c)=>match r.out with
     | .ret v=> .ok ({s with env:=qm s.env o.dst v,hp:=r.ups++s.hp,dec,feet:=foot::s.feet},none) c
     | .pan v=> .ok ({s with hp:=r.ups++s.hp,dec,feet:=foot::s.feet},some v) c
   |_=> .bad 30
  | .call {callee:= .builtin .recover,..}=>
   match s.md with
   | .nilI=> .ok ({s with env:=qm s.env o.dst .nilI,dec,feet:={rt,wt:=IA o,rb:= [],wb:= []}::s.feet},none) c
   | .ifc t v=> .ok ({s with env:=qm s.env o.dst (.ifc t v),md:= .nilI,dec,feet:={rt,wt:=IA o,rb:= [],wb:= []}::s.feet},none) c
   |_=> .bad 33
  | .defer {callee:= .value g,args,..}=>
   match ρ g with
   | .fn f first cap=> .ok ({s with env:=qm s.env o.dst .dead,dfs:=(f,first++args.toList.map ρ++cap)::s.dfs,dec,feet:={rt,wt:=IA o,rb:= [],wb:= []}::s.feet},none) c
   |_=> .bad 34
  | .panic x=>
   match ρ x with
   | .ifc t v=> .ok ({s with dec},some (.ifc t v)) c
   |_=> .bad 31
  | op=>
   let fp:=W_ ρ op
   let rd:=fun b=>match rQ fp b with|true=>rdAll b|false=>none
   let decs:Operand→Option Bool:=fun| .tmp t=>aA dec t|_=>none
   (match yw ρ op with|some n=>zx c (Xqq n 0)|none=> .ok false c).bind fun em c=>
   match opA ap nid ρ rd decs em op with
   |none=> .bad 32
   | some (v,ups,bs)=>(Y1 c bs).bind fun _ c=>
    match Eh c o.dst v with
    |(v,c)=>match Eg c o.dst ups with
     |(ups,c)=> .ok ({s with env:=qm s.env o.dst v,hp:=ups++s.hp,dec,feet:={rt,wt:=IA o,rb:=fp,wb:=ups.map fun (q:Nat × bg)=>q.1}::s.feet},none) c
def xC (ap:AP) (H:di) (ops:List Oper):List Oper→Nat→RS→Cx→R (RS × Option AV)
 | [],_,s,c=> .ok (s,none) c
 | o::r,nid,s,c=>(QT ap H nid ops o s c).bind fun (s,p) c=>
  match p with
  |some v=> .ok (s,some v) c
  |none=>match s.feet with
   |f::_=>match f.wb.all (fun x=>Xja x (nid+4)) with|true=>xC ap H ops r (nid+4) s c|false=> .bad 43
   | []=> .bad 44
def EI (a b:List Nat):Bool:=a.any (rQ b)
def kz (a b:Dl):Bool:=EI a.wt b.rt||EI a.wt b.wt||EI a.rt b.wt||EI a.wb b.rb||EI a.wb b.wb||EI a.rb b.wb
def EU (n:Nat) (bef:List Nat) (feet:List Dl):Bool:=
 let l:=feet.reverse.zipIdx
 l.all fun (a,i)=>l.all fun (b,j)=> !(Xja i j)|| !(kz a b||b.wb.any fun x=>Xqg (n+4*i) x && Xja x (n+4*i+4))||(bef.getD j 0).testBit i
def D7 (keep:List Nat) (env:ja):List Nat:=keep.flatMap fun t=>d_ (env.get t)
def norm (base:Nat) (keep:List Nat) (s:St):St:=
 let env:=s.env
 let hp:=s.hp
 let rd:=aA hp
 let ids:=tq rd 20 (jk (tq rd 20 (Xq6 base)++D7 keep env++s.dfs.flatMap fun d=>bQ d.2))
 let ids:=ids.filter fun b=>(rd b).isSome
 let ρ:Nat→Nat→Option (Nat × Nat):=fun b v=>match rd b with
  |some B=>match Xqq B.ver v with
   |true=>(qi ids b).map fun p=>(p,match Xja p base with|true=>v|false=>0)
   |false=>none
  |none=>none
 {env:=keep.map fun t=>(t,ren ρ (env.get t))
  hp:=ids.zipIdx.filterMap fun (b,p)=>(rd b).map fun B=>(p,{B with cells:=(match B.pr with|true=>B.cells|false=>mZ ρ B.cells),ver:=match Xja p base with|true=>B.ver|false=>0})
  md:=s.md
  dfs:=s.dfs.map fun d=>(d.1,mZ ρ d.2)}
def kX:Hp→Nat
 | []=>0
 |(b,_)::r=>match Xja b (kX r) with|true=>kX r|false=>b+1
def yu (ops:List Oper):Bool:=ops.zipIdx.all fun (o,i)=>o.after.toList.all fun e=> !Region.binds .any e||Xja e.on i
def Jp (ap:AP) (H:di) (base:Nat) (keep:List Nat) (ops:List Oper) (draw:Bool) (s:St) (c:Cx):R (bG × St):=
 (xC ap H ops ops (kX s.hp) {env:=s.env,hp:=s.hp,md:=s.md,dfs:=s.dfs,dec:= [],feet:= []} c).bind fun (s',p) c=>
 match p with
 | some v=>match draw with
  |true=> .bad 40
  |false=>match (d_ v).isEmpty with
   |true=> .ok (.panic v,norm base keep ⟨s'.env,s'.hp,s'.md,s'.dfs⟩) c
   |false=> .ok (.panic v,⟨s'.env,s'.hp,s'.md,s'.dfs⟩) c
 |none=>
  match !draw||(EU (kX s.hp) (Region.before ops.toArray).toList s'.feet && yu ops && Xqq s'.dfs.length s.dfs.length) with
  |true=> .ok (.normal,norm base keep ⟨s'.env,s'.hp,s'.md,s'.dfs⟩) c
  |false=> .bad 41
def P_ (f:St→Cx→R (bG × St)):Nat→St→Cx→R (bG × St)
 |0,_,_=> .bad 50
 |n+1,s,c=>(f s c).bind fun (e,s) c=>match e with
  | .normal=>P_ f n s c
  |e=> .ok (e,s) c
def lF (ap:AP) (H:di) (base:Nat) (keep:List Nat) (lf:Nat):Code→St→Cx→R (bG × St)
 | .skip,s,c=> .ok (.normal,s) c
 | .label _,s,c=> .ok (.normal,s) c
 | .region _ ops draw,s,c=>Jp ap H base keep ops.toList draw s c
 | .seq a b,s,c=>(lF ap H base keep lf a s c).bind fun (e,s) c=>match e with
  | .normal=>lF ap H base keep lf b s c
  |e=> .ok (e,s) c
 | .cond t a b,s,c=>match qM ap s.env t with
  | .bool x=>(zx c x).bind fun x c=>match x with
   |true=>lF ap H base keep lf a s c
   |false=>lF ap H base keep lf b s c
  |_=> .bad 60
 | .block id b,s,c=>(lF ap H base keep lf b s c).bind fun (e,s) c=>match e with
  | .exit id'=>match Xqq id' id with|true=> .ok (.normal,s) c|false=> .ok (.exit id',s) c
  |e=> .ok (e,s) c
 | .loop b,s,c=>P_ (lF ap H base keep lf b) lf s c
 | .exit id,s,c=> .ok (.exit id,s) c
 | .ret,s,c=> .ok (.ret,s) c
 | .scope b,s,c=>lF ap H base keep lf b s c
 |_,_,_=> .bad 61
def yM (ap:AP) (env:ja) (hp:Hp):ResultVar→Option (AV × List Bool)
 | .tmp t=>some (env.get t,[])
 | .cell a t=>(ap.tyAt t).bind fun ti=>(KZ ti (aA hp) (env.get a)).map fun (v,_,bs)=>(v,bs)
def f_ (l:List Nat) (b:Nat):Nat:=(l.filter (Xqq b)).length
def Zn (base:Nat) (rd:Nat→Option bg) (v:AV):Option AV:=
 let fp:=tq rd 6 (jk (d_ v))
 match fp.all (fun b=>Xqg base b) with
 |true=>frz (fun b=>match rQ fp b with|true=>rd b|false=>none) 6 v
 |false=>none
def rO (base:Nat) (rd:Nat→Option bg) (all:List Nat) (v:AV):Option AV:=
 let frzO (v:AV):Option AV:=match (d_ v).all (fun b=>Xja b base) with|true=>some v|false=>Zn base rd v
 match v with
 | .ref b ver 0 n=>match rd b with
  |some B=>match Xqg base b && Xqq B.ver ver && !B.fro && B.pr && Xqq (f_ all b) 1 && Xja 0 B.esz with
   |true=>some (.own (B.cells.take (n*B.esz)) n B.esz)
   |false=>frzO v
  |none=>none
 |v=>frzO v
def ah (f:Func):Code:=f.body.getD .skip
def oh (md:AV) (args:List AV) (h:List bg):St:=
 {env:=args.zipIdx.map fun (x,i)=>(i,x),hp:=h.zipIdx.map fun (B,i)=>(i,B),md,dfs:= []}
def aie:AV→Bool
 | .nilI=>true
 | .ifc _ _=>true
 |_=>false
def Ep (ap:AP) (H:di):List (Nat × List AV)→AV→Hp→Cx→R (AV × Hp)
 | [],mode,hp,c=> .ok (mode,hp) c
 |(f,args)::r,mode,hp,c=>
  match aie mode && (d_ mode).isEmpty with
  |false=> .bad 78
  |true=>
  (tV ap H (aA hp) (kX hp) mode f args c).bind fun q c=>
  match q.out with
  | .ret _=>Ep ap H r q.md (q.ups++hp) c
  | .pan _=> .bad 75
def TZ (rd:Nat→Option bg) (base:Nat):Nat:=(tq rd 20 (Xq6 base)).length
def vM (ap:AP) (base:Nat) (F:Func) (env:ja) (hp:Hp) (c:Cx):R (kJ × List bg):=
 let rd:=aA hp
 let n:=TZ rd base
 match kG (yM ap env hp) F.results.toList,kG rd (Xq6 n) with
 |some vs,some h'=>
  match h'.all (fun B=>B.pr||(bQ B.cells).all fun b=>Xja b n) with
  |false=> .bad 76
  |true=>
  (Y1 c (vs.flatMap fun (q:AV × List Bool)=>q.2)).bind fun _ c=>
  let all:=vs.flatMap fun (q:AV × List Bool)=>tq rd 6 (jk (d_ q.1))
  match kG (rO n rd all) (vs.map fun (q:AV × List Bool)=>q.1) with
  |some [v]=> .ok (.ret v,h') c
  |some l=> .ok (.ret (.tup l),h') c
  |none=> .bad 70
 |_,_=> .bad 71
def Jk (base:Nat) (v:AV) (hp:Hp) (c:Cx):R (kJ × List bg):=
 let n:=TZ (aA hp) base
 match rO n (aA hp) (tq (aA hp) 6 (jk (d_ v))) v,kG (aA hp) (Xq6 n) with
 |some v,some h'=>
  match h'.all (fun B=>B.pr||(bQ B.cells).all fun b=>Xja b n) with
  |false=> .bad 77
  |true=> .ok (.pan v,h') c
 |_,_=> .bad 72
def CQ (ap:AP) (H:di) (base:Nat) (F:Func) (e:bG) (s:St) (c:Cx):R (kJ × List bg × AV):=
 let go (mode:AV):R (kJ × List bg × AV):=
  (Ep ap H s.dfs mode s.hp c).bind fun (mode,hp) c=>
  match mode with
  | .nilI=>(vM ap base F s.env hp c).bind fun (o,h) c=> .ok (o,h,s.md) c
  | .ifc t v=>(Jk base (.ifc t v) hp c).bind fun (o,h) c=> .ok (o,h,s.md) c
  |_=> .bad 74
 match e with
 | .normal| .ret=>go .nilI
 | .panic (.ifc t v)=>match (d_ v).isEmpty with|true=>go (.ifc t v)|false=> .bad 79
 |_=> .bad 73
def UH (ap:AP) (H:di) (lf:Nat) (md:AV) (F:AF) (args:List AV) (h:List bg) (c:Cx):R (kJ × List bg × AV):=
 match ah F.fn with
 | .seq (.region _ ops false) rest=>
  match ops.toList with
  | o ::r=>
   match o.op,o.guard,o.dst with
   | .call {callee:= .builtin .recover,..},none,some d=>
    let s0:=oh .dead args h
    (xC ap H (o::r) r (kX s0.hp) {env:=(d,md)::s0.env,hp:=s0.hp,md:= .dead,dfs:= [],dec:= [],feet:= []} c).bind fun (s,p) c=>
    match p with
    |some _=> .bad 81
    | none=>(lF ap H h.length F.keep lf rest (norm h.length F.keep ⟨s.env,s.hp,s.md,s.dfs⟩) c).bind fun (e,s) c=>
     match s.dfs with
     |_::_=> .bad 82
     | []=>match e with
      | .normal| .ret=>(vM ap h.length F.fn s.env s.hp c).bind fun (o,h) c=> .ok (o,h,.nilI) c
      |_=> .bad 83
   |_,_,_=> .bad 84
  | []=> .bad 85
 |_=> .bad 86
def tN (ap:AP) (H:di) (lf:Nat) (md:AV) (f:Nat) (args:List AV) (h:List bg) (c:Cx):R (kJ × List bg × AV):=
 match ap.fnAt f with
 |none=> .bad 80
 |some F=>match md with
  | .dead=>(lF ap H h.length F.keep lf (ah F.fn) (oh .dead args h) c).bind fun (e,s) c=>CQ ap H h.length F.fn e s c
  |md=>match aie md && (d_ md).isEmpty with|true=>UH ap H lf md F args h c|false=> .bad 87
theorem wP {S:aT}:∀ {l:List AV} {vs:List Value},dY S l vs→l.length=vs.length
 | [],[],_=>rfl
 |_::_,_::_,h=>by simp only [dY] at h;simp [wP h.2]
 | [],_::_,h=>by simp [dY] at h
 |_::_,[],h=>by simp [dY] at h
theorem bV {g:dG} {m:aZ} {S:aT}:∀ {l:List AV} {vs:List Value},bi g m S l vs→l.length=vs.length
 | [],[],_=>rfl
 |_::_,_::_,h=>by simp only [bi] at h;simp [bV h.2]
 | [],_::_,h=>by simp [bi] at h
 |_::_,[],h=>by simp [bi] at h
theorem rE {g:dG} {m:aZ} {S:aT}:∀ {l:List AV} {vs:List Value} (_:bi g m S l vs) (i:Nat) {x:AV},l[i]? =some x→∃ v,vs[i]? =some v∧VR g m S x v
 | [],[],_,i,x,hx=>by simp at hx
 |a::l,v::vs,h,0,x,hx=>by simp only [bi] at h;simp at hx;subst hx;exact ⟨v,rfl,h.1⟩
 |a::l,v::vs,h,i+1,x,hx=>by simp only [bi] at h;simp at hx;simpa using rE h.2 i hx
 | [],_::_,h,_,_,_=>by simp [bi] at h
 |_::_,[],h,_,_,_=>by simp [bi] at h
theorem lH {S:aT}:∀ {l l':List AV} {vs vs':List Value},dY S l vs→dY S l' vs'→dY S (l++l') (vs++vs')
 | [],_,[],_,_,h'=>by simpa using h'
 |_::_,_,_::_,_,h,h'=>by simp only [dY] at h;simp only [Xq9,dY];exact ⟨h.1,lH h.2 h'⟩
 | [],_,_::_,_,h,_=>by simp [dY] at h
 |_::_,_,[],_,h,_=>by simp [dY] at h
theorem ig {g:dG} {m:aZ} {S:aT}:∀ {l l':List AV} {vs vs':List Value},bi g m S l vs→bi g m S l' vs'→bi g m S (l++l') (vs++vs')
 | [],_,[],_,_,h'=>by simpa using h'
 |_::_,_,_::_,_,h,h'=>by simp only [bi] at h;simp only [Xq9,bi];exact ⟨h.1,ig h.2 h'⟩
 | [],_,_::_,_,h,_=>by simp [bi] at h
 |_::_,_,[],_,h,_=>by simp [bi] at h
theorem kK {S:aT}:∀ (n:Nat) {l:List AV} {vs:List Value},dY S l vs→dY S (l.take n) (vs.take n)
 |0,_,_,_=>by simp [dY]
 |n+1,[],[],_=>by simp [dY]
 |n+1,_::_,_::_,h=>by simp only [dY] at h;simp only [Xxw,dY];exact ⟨h.1,kK n h.2⟩
 |_+1,[],_::_,h=>by simp [dY] at h
 |_+1,_::_,[],h=>by simp [dY] at h
theorem qy {S:aT}:∀ (n:Nat) {l:List AV} {vs:List Value},dY S l vs→dY S (l.drop n) (vs.drop n)
 |0,_,_,h=>by simpa using h
 |n+1,[],[],_=>by simp [dY]
 |n+1,_::_,_::_,h=>by simp only [dY] at h;simpa using qy n h.2
 |_+1,[],_::_,h=>by simp [dY] at h
 |_+1,_::_,[],h=>by simp [dY] at h
theorem qC {g:dG} {m:aZ} {S:aT}:∀ (n:Nat) {l:List AV} {vs:List Value},bi g m S l vs→bi g m S (l.take n) (vs.take n)
 |0,_,_,_=>by simp [bi]
 |n+1,[],[],_=>by simp [bi]
 |n+1,_::_,_::_,h=>by simp only [bi] at h;simp only [Xxw,bi];exact ⟨h.1,qC n h.2⟩
 |_+1,[],_::_,h=>by simp [bi] at h
 |_+1,_::_,[],h=>by simp [bi] at h
theorem tJ {g:dG} {m:aZ} {S:aT}:∀ (n:Nat) {l:List AV} {vs:List Value},bi g m S l vs→bi g m S (l.drop n) (vs.drop n)
 |0,_,_,h=>by simpa using h
 |n+1,[],[],_=>by simp [bi]
 |n+1,_::_,_::_,h=>by simp only [bi] at h;simpa using tJ n h.2
 |_+1,[],_::_,h=>by simp [bi] at h
 |_+1,_::_,[],h=>by simp [bi] at h
theorem kM.mono {S S':aT} (h:oQ S S') {b o:Nat} {vs:List Value} (hs:kM S b o vs):kM S' b o vs:=fun j u a=> ⟨h _ _ _ (hs j u a).1,(hs j u a).2⟩
mutual
theorem dn {S S':aT} (h:oQ S S'):∀ (x:AV) {v:Value},PR S x v→PR S' x v
 | .int _ _,_,p=>by simpa only [PR] using p
 | .bool _,_,p=>by simpa only [PR] using p
 | .str _,_,p=>by simpa only [PR] using p
 | .nilS,_,p=>by simpa only [PR] using p
 | .nilP,_,p=>by simpa only [PR] using p
 | .nilF,_,p=>by simpa only [PR] using p
 | .nilI,_,p=>by simpa only [PR] using p
 | .dead,_,_=>by simp only [PR]
 | .agg l,_,p=>by
  simp only [PR] at p ⊢;obtain ⟨vs,e,q⟩:=p;exact ⟨vs,e,dm h l q⟩
 | .tup l,_,p=>by
  simp only [PR] at p ⊢;obtain ⟨vs,e,q⟩:=p;exact ⟨vs,e,dm h l q⟩
 | .sl xs n nn,_,p=>by
  simp only [PR] at p ⊢;obtain ⟨a,d,e,i,q⟩:=p;refine ⟨a,d,e,i, ?_⟩;rcases q with q|⟨b,o,vs,D,q,hs⟩
  ·exact .inl q
  ·exact .inr ⟨b,o,vs,D,dm h xs q,hs.mono h⟩
 | .pp xs off,_,p=>by
  simp only [PR] at p ⊢;obtain ⟨b,o,vs,e,q,hs⟩:=p;exact ⟨b,o,vs,e,dm h xs q,hs.mono h⟩
 | .mp ks vs,_,p=>by
  simp only [PR] at p ⊢;rcases p with p|⟨b,k,j,e,B,z,A,s⟩
  ·exact .inl p
  ·exact .inr ⟨b,k,j,e,h _ _ _ B,h _ _ _ z,dm h ks A,dm h vs s⟩
 | .fn f a c,_,p=>by
  simp only [PR] at p ⊢;obtain ⟨y,C,e,q,r⟩:=p;exact ⟨y,C,e,dm h a q,dm h c r⟩
 | .ifc t x,_,p=>by
  simp only [PR] at p ⊢;obtain ⟨u,e,q⟩:=p;exact ⟨u,e,dn h x q⟩
 | .ref _ _ _ _,_,p=>by simp only [PR] at p
 | .ptr _ _ _,_,p=>by simp only [PR] at p
 | .mr _ _,_,p=>by simp only [PR] at p
 | .own _ _ _,_,p=>by simp only [PR] at p
theorem dm {S S':aT} (h:oQ S S'):∀ (l:List AV) {vs:List Value},dY S l vs→dY S' l vs
 | [],[],_=>by simp only [dY]
 |x::r,v::vs,p=>by simp only [dY] at p ⊢;exact ⟨dn h x p.1,dm h r p.2⟩
 | [],_::_,p=>by simp [dY] at p
 |_::_,[],p=>by simp [dY] at p
end
mutual
theorem iD {g:dG} {m:aZ} {S:aT}:∀ (x:AV) {v:Value},PR S x v→VR g m S x v
 | .int _ _,_,p=>by simpa only [VR] using p
 | .bool _,_,p=>by simpa only [VR] using p
 | .str _,_,p=>by simpa only [VR] using p
 | .nilS,_,p=>by simpa only [VR] using p
 | .nilP,_,p=>by simpa only [VR] using p
 | .nilF,_,p=>by simpa only [VR] using p
 | .nilI,_,p=>by simpa only [VR] using p
 | .sl _ _ _,_,p=>by simpa only [VR] using p
 | .pp _ _,_,p=>by simpa only [VR] using p
 | .mp _ _,_,p=>by simpa only [VR] using p
 | .dead,_,_=>by simp only [VR]
 | .agg l,_,p=>by
  simp only [PR] at p;simp only [VR];obtain ⟨vs,e,q⟩:=p;exact ⟨vs,e,bW l q⟩
 | .tup l,_,p=>by
  simp only [PR] at p;simp only [VR];obtain ⟨vs,e,q⟩:=p;exact ⟨vs,e,bW l q⟩
 | .fn f a c,_,p=>by
  simp only [PR] at p;simp only [VR];obtain ⟨b,d,e,q,r⟩:=p;exact ⟨b,d,e,bW a q,bW c r⟩
 | .ifc t x,_,p=>by
  simp only [PR] at p;simp only [VR];obtain ⟨u,e,q⟩:=p;exact ⟨u,e,iD x q⟩
 | .ref _ _ _ _,_,p=>by simp only [PR] at p
 | .ptr _ _ _,_,p=>by simp only [PR] at p
 | .mr _ _,_,p=>by simp only [PR] at p
 | .own _ _ _,_,p=>by simp only [PR] at p
theorem bW {g:dG} {m:aZ} {S:aT}:∀ (l:List AV) {vs:List Value},dY S l vs→bi g m S l vs
 | [],[],_=>by simp only [bi]
 |x::r,v::vs,p=>by simp only [dY] at p;simp only [bi];exact ⟨iD x p.1,bW r p.2⟩
 | [],_::_,p=>by simp [dY] at p
 |_::_,[],p=>by simp [dY] at p
end
def sO (g:dG) (m:aZ) (g':dG) (m':aZ) (ρ:Nat→Nat→Option (Nat × Nat)):Prop:=
 ∀ b ver b' ver',ρ b ver=some (b',ver')→∀ B,g b=some B→ver≤B.ver→
  ∃ B',g' b'=some B'∧ver'≤B'.ver∧(B'.ver=ver'→B.ver=ver∧m' b'=m b∧B'.esz=B.esz)
mutual
theorem zt {g g':dG} {m G:aZ} {S S':aT} {ρ:Nat→Nat→Option (Nat × Nat)} (j:oQ S S') (h:sO g m g' G ρ):∀ (x:AV) {v:Value},VR g m S x v→VR g' G S' (ren ρ x) v
 | .int k n,_,p=>by simp only [VR] at p;simp only [ren,VR];exact dn j _ p
 | .bool _,_,p=>by simp only [VR] at p;simp only [ren,VR];exact dn j _ p
 | .str _,_,p=>by simp only [VR] at p;simp only [ren,VR];exact dn j _ p
 | .nilS,_,p=>by simp only [VR] at p;simp only [ren,VR];exact dn j _ p
 | .nilP,_,p=>by simp only [VR] at p;simp only [ren,VR];exact dn j _ p
 | .nilF,_,p=>by simp only [VR] at p;simp only [ren,VR];exact dn j _ p
 | .nilI,_,p=>by simp only [VR] at p;simp only [ren,VR];exact dn j _ p
 | .sl _ _ _,_,p=>by simp only [VR] at p;simp only [ren,VR];exact dn j _ p
 | .pp _ _,_,p=>by simp only [VR] at p;simp only [ren,VR];exact dn j _ p
 | .mp _ _,_,p=>by simp only [VR] at p;simp only [ren,VR];exact dn j _ p
 | .dead,_,_=>by simp only [ren,VR]
 | .own _ _ _,_,p=>by simp only [VR] at p
 | .agg l,_,p=>by
  simp only [VR] at p;simp only [ren,VR];obtain ⟨vs,e,q⟩:=p;exact ⟨vs,e,kP j h l q⟩
 | .tup l,_,p=>by
  simp only [VR] at p;simp only [ren,VR];obtain ⟨vs,e,q⟩:=p;exact ⟨vs,e,kP j h l q⟩
 | .fn f a c,_,p=>by
  simp only [VR] at p;simp only [ren,VR];obtain ⟨I,J,e,q,r⟩:=p;exact ⟨I,J,e,kP j h a q,kP j h c r⟩
 | .ifc t x,_,p=>by
  simp only [VR] at p;simp only [ren,VR];obtain ⟨u,e,q⟩:=p;exact ⟨u,e,zt j h x q⟩
 | .ref b ver i n,_,p=>by
  simp only [VR] at p;simp only [ren];obtain ⟨B,z,D,s,q⟩:=p;cases hρ:ρ b ver with
  |none=>simp only [VR]
  |some bv=>
   obtain ⟨A,d⟩:=bv;obtain ⟨B',o,y,C⟩:=h b ver A d hρ B z D;simp only [VR];refine ⟨B',o,y,s,fun e=> ?_⟩;obtain ⟨F,E,H⟩:=C e;rw [E,H];exact q F
 | .ptr b ver off,_,p=>by
  simp only [VR] at p;simp only [ren];obtain ⟨B,z,D,s,q⟩:=p;cases hρ:ρ b ver with
  |none=>simp only [VR]
  |some bv=>
   obtain ⟨A,d⟩:=bv;obtain ⟨B',o,y,C⟩:=h b ver A d hρ B z D;simp only [VR];refine ⟨B',o,y,s,fun e=> ?_⟩;obtain ⟨F,E,_⟩:=C e;rw [E];exact q F
 | .mr b ver,_,p=>by
  simp only [VR] at p;simp only [ren];obtain ⟨B,z,D,s,q⟩:=p;cases hρ:ρ b ver with
  |none=>simp only [VR]
  |some bv=>
   obtain ⟨A,d⟩:=bv;obtain ⟨B',o,y,C⟩:=h b ver A d hρ B z D;simp only [VR];refine ⟨B',o,y,s,fun e=> ?_⟩;obtain ⟨F,E,_⟩:=C e;rw [E];exact q F
theorem kP {g g':dG} {m b:aZ} {S S':aT} {ρ:Nat→Nat→Option (Nat × Nat)} (a:oQ S S') (h:sO g m g' b ρ):∀ (l:List AV) {vs:List Value},bi g m S l vs→bi g' b S' (mZ ρ l) vs
 | [],[],_=>by simp only [mZ,bi]
 |x::r,v::vs,p=>by simp only [bi] at p;simp only [mZ,bi];exact ⟨zt a h x p.1,kP a h r p.2⟩
 | [],_::_,p=>by simp [bi] at p
 |_::_,[],p=>by simp [bi] at p
end
def Ge (g:dG) (m:aZ) (g':dG) (m':aZ):Prop:=
 ∀ b B,g b=some B→∃ B',g' b=some B'∧B'.esz=B.esz∧((B'.ver=B.ver∧m' b=m b)∨B.ver<B'.ver)
theorem Ge.refl (g:dG) (m:aZ):Ge g m g m:=fun _ B h=> ⟨B,h,rfl,.inl ⟨rfl,rfl⟩⟩
theorem Ge.trans {g g' f:dG} {m k i:aZ} (h:Ge g m g' k) (q:Ge g' k f i):Ge g m f i:=by
 intro b B l;obtain ⟨B',j,e,c⟩:=h b B l;obtain ⟨B'',a,e',p⟩:=q b B' j;refine ⟨B'',a,e'.trans e, ?_⟩;rcases c with ⟨o,s⟩|c<;>rcases p with ⟨n,r⟩|d
 ·exact .inl ⟨n.trans o,r.trans s⟩
 ·exact .inr (by omega)
 ·exact .inr (by omega)
 ·exact .inr (by omega)
mutual
theorem o_ {g g':dG} {m C:aZ} {S S':aT} (o:oQ S S') (h:Ge g m g' C):∀ (x:AV) {v:Value},VR g m S x v→VR g' C S' x v
 | .int k n,_,p=>by simp only [VR] at p ⊢;exact dn o _ p
 | .bool _,_,p=>by simp only [VR] at p ⊢;exact dn o _ p
 | .str _,_,p=>by simp only [VR] at p ⊢;exact dn o _ p
 | .nilS,_,p=>by simp only [VR] at p ⊢;exact dn o _ p
 | .nilP,_,p=>by simp only [VR] at p ⊢;exact dn o _ p
 | .nilF,_,p=>by simp only [VR] at p ⊢;exact dn o _ p
 | .nilI,_,p=>by simp only [VR] at p ⊢;exact dn o _ p
 | .sl _ _ _,_,p=>by simp only [VR] at p ⊢;exact dn o _ p
 | .pp _ _,_,p=>by simp only [VR] at p ⊢;exact dn o _ p
 | .mp _ _,_,p=>by simp only [VR] at p ⊢;exact dn o _ p
 | .dead,_,_=>by simp only [VR]
 | .own _ _ _,_,p=>by simp only [VR] at p
 | .agg l,_,p=>by
  simp only [VR] at p ⊢;obtain ⟨vs,e,q⟩:=p;exact ⟨vs,e,mg o h l q⟩
 | .tup l,_,p=>by
  simp only [VR] at p ⊢;obtain ⟨vs,e,q⟩:=p;exact ⟨vs,e,mg o h l q⟩
 | .fn f a c,_,p=>by
  simp only [VR] at p ⊢;obtain ⟨F,G,e,q,r⟩:=p;exact ⟨F,G,e,mg o h a q,mg o h c r⟩
 | .ifc t x,_,p=>by
  simp only [VR] at p ⊢;obtain ⟨u,e,q⟩:=p;exact ⟨u,e,o_ o h x q⟩
 | .ref b ver i n,_,p=>by
  simp only [VR] at p ⊢;obtain ⟨B,s,E,j,q⟩:=p;obtain ⟨B',d,A,y⟩:=h b B s;rcases y with ⟨D,z⟩|c
  ·refine ⟨B',d,by omega,j,fun e=> ?_⟩;rw [z,A];exact q (by omega)
  ·exact ⟨B',d,by omega,j,fun e=>by omega⟩
 | .ptr b ver off,_,p=>by
  simp only [VR] at p ⊢;obtain ⟨B,s,E,j,q⟩:=p;obtain ⟨B',d,A,y⟩:=h b B s;rcases y with ⟨D,z⟩|c
  ·refine ⟨B',d,by omega,j,fun e=> ?_⟩;rw [z];exact q (by omega)
  ·exact ⟨B',d,by omega,j,fun e=>by omega⟩
 | .mr b ver,_,p=>by
  simp only [VR] at p ⊢;obtain ⟨B,s,E,j,q⟩:=p;obtain ⟨B',d,A,y⟩:=h b B s;rcases y with ⟨D,z⟩|c
  ·refine ⟨B',d,by omega,j,fun e=> ?_⟩;rw [z];exact q (by omega)
  ·exact ⟨B',d,by omega,j,fun e=>by omega⟩
theorem mg {g g':dG} {m b:aZ} {S S':aT} (a:oQ S S') (h:Ge g m g' b):∀ (l:List AV) {vs:List Value},bi g m S l vs→bi g' b S' l vs
 | [],[],_=>by simp only [bi]
 |x::r,v::vs,p=>by simp only [bi] at p ⊢;exact ⟨o_ a h x p.1,mg a h r p.2⟩
 | [],_::_,p=>by simp [bi] at p
 |_::_,[],p=>by simp [bi] at p
end
def Ur (ap:AP) (S:aT):Prop:=∀ k xs,(ap.gl[k]?).join=some xs→∃ vs,dY S xs vs∧kM S k 0 vs
structure iY (P:Program) (ap:AP):Prop where
 ty:∀ t ti,ap.tyAt t=some ti→XP P t=some ti
def xm (es:Array MapEntry):Array Value:=#[.agg (es.map (·.key)),.agg (es.map (·.val))]
def jF (w:World) (k z:Nat) (cur:Array Value) (e:TypeId):Prop:=
 (z ≠ iP∧w.heap[k]? =some (.cells cur e (0,0)))∨(z=iP∧∃ es clk,w.heap[k]? =some (.map es clk)∧cur=xm es)
def kQ (w:World) (k o:Nat):Option Value:=match w.heap[k]? with
 |some (.map es _)=>(xm es)[o]?
 |_=>match w.cell? ⟨k,o,none⟩ with|some v=>if v.oneCell' then some v else none|none=>none
theorem jF.of {w:World} {k z:Nat} {cur:Array Value} {e:TypeId} (a:z ≠ iP) (h:w.heap[k]? =some (.cells cur e (0,0))):jF w k z cur e:= .inl ⟨a,h⟩
theorem jF.cells {w:World} {k z:Nat} {cur:Array Value} {e:TypeId} (h:jF w k z cur e) (a:z ≠ iP):w.heap[k]? =some (.cells cur e (0,0)):=by
 rcases h with h|h
 ·exact h.2
 ·exact absurd h.1 a
theorem jF.map {w:World} {k z:Nat} {cur:Array Value} {e:TypeId} (h:jF w k z cur e) (a:z=iP):∃ es clk,w.heap[k]? =some (.map es clk)∧cur=xm es:=by
 rcases h with h|h
 ·exact absurd a h.1
 ·exact h.2
theorem jF.same {w w':World} {k z:Nat} {cur:Array Value} {e:TypeId} (h:jF w k z cur e) (a:w'.heap[k]? =w.heap[k]?):jF w' k z cur e:=by
 unfold jF;rw [a];exact h
theorem jF.lt {w:World} {k z:Nat} {cur:Array Value} {e:TypeId} (h:jF w k z cur e):k<w.heap.size:=by
 rcases h with ⟨_,h⟩|⟨_,b,a,h,_⟩<;>exact (Array.getElem?_eq_some_iff.1 h).1
theorem NC {w w':World} {k o:Nat} (b:w'.heap[k]? =w.heap[k]?):kQ w' k o=kQ w k o:=by
 unfold kQ;rw [b,World.cell?_of_block (w:=w) (a:=⟨k,o,none⟩) b]
theorem zA {w:World} {k o:Nat} {v:Value} (h:kQ w k o=some v) (a:v.oneCell'=true):w.cell? ⟨k,o,none⟩=some v:=by
 unfold kQ at h;split at h
 ·rename_i d c e;exfalso;unfold xm at h;rcases (show o=0∨o=1∨2≤o by omega) with rfl|rfl|ho
  ·cases h;cases a
  ·cases h;cases a
  ·rw [Array.getElem?_eq_none (by simpa using ho)] at h;cases h
 ·split at h
  ·rename_i f b;split at h
   ·cases h;exact b
   ·cases h
  ·cases h
theorem DD {w:World} {k o:Nat} {v:Value} (h:w.cell? ⟨k,o,none⟩=some v) (b:v.oneCell'=true):kQ w k o=some v:=by
 unfold kQ;split
 ·rename_i d c a;unfold World.cell? at h;simp only [a] at h;cases h
 ·rw [h];simp only;rw [if_pos b]
theorem uU {w:World} {k o:Nat} {v:Value} (h:kQ w k o=some v) (e:v.oneCell'=false):∃ b a,w.heap[k]? =some (.map b a)∧(xm b)[o]? =some v:=by
 unfold kQ at h;split at h
 ·rename_i b a d;exact ⟨b,a,d,h⟩
 ·split at h
  ·split at h
   ·rename_i c;cases h;rw [e] at c;cases c
   ·cases h
  ·cases h
theorem UK {w:World} {k o:Nat} {v:Value} (h:kQ w k o=some v):k<w.heap.size:=by
 cases a:v.oneCell' with
 |true=>exact World.block_lt_of_cell? w _ (zA h a)
 |false=>
  obtain ⟨_,_,b,_⟩:=uU h a;exact (Array.getElem?_eq_some_iff.1 b).1
structure Rf (g:dG) (m:aZ) (S:aT) (w:World) (B:bg) (k c:Nat):Prop where
 lies:∃ cur e vs rest,jF w k B.esz cur e∧cur.toList=vs++rest∧(B.pr=true→dY S B.cells vs)∧bi g m S B.cells vs∧(B.esz ≠ iP→∀ u ∈ vs,u.oneCell'=true)∧(0<B.esz→B.esz ≠ iP→cur.size=c*B.esz∧c≤maxLen)
 fz0:B.fro=false→B.fz=0
 fzle:B.fz≤B.cells.length
structure bU (ap:AP) (g:dG) (m:aZ) (S:aT) (w:World):Prop where
 inj:∀ b b' B B',g b=some B→g b'=some B'→(m b).1=(m b').1→b=b'
 blk:∀ b B,g b=some B→Rf g m S w B (m b).1 (m b).2
 sealed:∀ k o v,S k o=some v→kQ w k o=some v
 own:∀ b B,g b=some B→∀ o v,S (m b).1 o=some v→B.fro=true∧o<B.fz
 glob:Ur ap S
structure Fr (g:dG) (m:aZ) (S:aT) (w:World) (g':dG) (m':aZ) (S':aT) (w':World):Prop where
 ge:Ge g m g' m'
 sle:oQ S S'
 os:w'.os=w.os
 tape:w'.tape=w.tape
 output:w'.output=w.output
 size:w.heap.size≤w'.heap.size
 rest:∀ k,k<w.heap.size→(∀ b B,g b=some B→(m b).1 ≠ k)→w'.heap[k]? =w.heap[k]?
 img:∀ b B,g' b=some B→w.heap.size≤(m' b).1∨(∃ B0,g b=some B0∧(m' b).1=(m b).1)
 sealN:∀ k o v,S' k o=some v→S k o=some v∨w.heap.size≤k∨∃ b B,g b=some B∧(m b).1=k
theorem Fr.refl (g:dG) (m:aZ) (S:aT) (w:World):Fr g m S w g m S w:=
 ⟨Ge.refl g m,oQ.refl S,rfl,rfl,rfl,Δ _,fun _ _ _=>rfl,fun _ B h=> .inr ⟨B,h,rfl⟩,fun _ _ _ h=> .inl h⟩
theorem Fr.trans {g g' j:dG} {m s n:aZ} {S S' S'':aT} {w w' l:World} (h:Fr g m S w g' s S' w') (d:Fr g' s S' w' j n S'' l):Fr g m S w j n S'' l:=by
 refine ⟨h.ge.trans d.ge,h.sle.trans d.sle,d.os.trans h.os,d.tape.trans h.tape,d.output.trans h.output,Xq1 h.size d.size, ?_, ?_, ?_⟩
 ·intro k r t;rw [d.rest k (Nat.lt_of_lt_of_le r h.size) ?_,h.rest k r t];intro b B i e;rcases h.img b B i with c|⟨B0,a,c⟩
  ·omega
  ·exact t b B0 a (c ▸ e)
 ·intro b B i;rcases d.img b B i with c|⟨B0,a,c⟩
  ·exact .inl (Xq1 h.size c)
  ·rcases h.img b B0 a with p|⟨B1,q,p⟩
   ·exact .inl (c ▸ p)
   ·exact .inr ⟨B1,q,c.trans p⟩
 ·intro k o v u;rcases d.sealN k o v u with f|f|⟨b,B,i,f⟩
  ·exact h.sealN k o v f
  ·exact .inr (.inl (Xq1 h.size f))
  ·rcases h.img b B i with c|⟨B0,a,c⟩
   ·exact .inr (.inl (f ▸ c))
   ·exact .inr (.inr ⟨b,B0,a,by rw [← f,c]⟩)
theorem bU.lt {ap:AP} {g:dG} {m:aZ} {S:aT} {w:World} (h:bU ap g m S w) {b:Nat} {B:bg} (a:g b=some B):(m b).1<w.heap.size:=by
 obtain ⟨cur,e,vs,rest,c,_⟩:=(h.blk b B a).lies;exact c.lt
theorem bU.one {ap:AP} {g:dG} {m:aZ} {S:aT} {w:World} (h:bU ap g m S w) {k o:Nat} {v:Value} (b:S k o=some v) (a:v.oneCell'=true):w.cell? ⟨k,o,none⟩=some v:=zA (h.sealed k o v b) a
theorem tX {w:World} {k j:Nat} {cur:Array Value} {e:TypeId} {a:Nat × Nat} (h:w.heap[k]? =some (.cells cur e a)):w.cell? ⟨k,j,none⟩=cur.toList[j]? :=by
 rw [cell_of_row w k j cur e a h];simp
theorem jF.get {w:World} {k z j:Nat} {cur:Array Value} {e:TypeId} {u:Value} (h:jF w k z cur e) (a:cur.toList[j]? =some u) (c:z ≠ iP→u.oneCell'=true):kQ w k j=some u:=by
 rcases h with ⟨b,h⟩|⟨_,f,d,h,rfl⟩
 ·exact DD (by rw [tX h];exact a) (c b)
 ·unfold kQ;rw [h];simpa using a
theorem gm {a b:IntKind} (h:iR a b=true):a=b:=by cases a<;>cases b<;>first|rfl|(exact absurd h (by decide))
theorem aJ {a b:Nat} (h:Xqq a b=true):a=b:=Nat.eq_of_beq_eq_true h
theorem gp {a b:Nat} (h:Xqg a b=true):a≤b:=Nat.le_of_ble_eq_true h
theorem gq {a b:Nat} (h:Xja a b=true):a<b:=by
 have:Xqg (a+1) b=true:=h;exact gp this
theorem acT {S:aT} {x:AV} {v:Value} (h:PR S x v) (a:oz x=true):v.oneCell'=true:=by
 cases x<;>simp only [PR] at h<;>first
  |(subst h;rfl)
  |(rcases h with ⟨rfl,_⟩|⟨_,_,_,rfl,_⟩<;>rfl)
  |(obtain ⟨_,_,_,rfl,_⟩:=h;rfl)
  |(obtain ⟨_,_,rfl,_⟩:=h;rfl)
  |(obtain ⟨_,rfl,_⟩:=h;first|rfl|exact absurd a (by simp [oz]))
  |(exact absurd a (by simp [oz]))
theorem Nc {g:dG} {m:aZ} {S:aT} {x:AV} {v:Value} (h:VR g m S x v) (a:oz x=true):v.oneCell'=true:=by
 cases x<;>simp only [VR] at h<;>first
  | (exact acT h a)
    |(obtain ⟨_,_,_,⟨_,_,rfl⟩,_⟩:=h;rfl)
  |(obtain ⟨_,_,_,⟨_,_,_,rfl⟩,_⟩:=h;rfl)
  |(obtain ⟨_,_,rfl,_⟩:=h;rfl)
  |(obtain ⟨_,rfl,_⟩:=h;first|rfl|exact absurd a (by simp [oz]))
  |(exact absurd a (by simp [oz]))
end AM
namespace AM
open Go
structure Cm (P:Program) (t:Nat) (ti:TI) (i:TypeInfo) (d:TypeDesc) (z:Value):Prop where
 info:P.info? t=some i
 und:P.underlying t=some d
 d_eq:ti.d=jY P (some d)
 size:ti.size=i.size
 bytes:ti.bytes=i.bytes
 zero:i.zero=some z
 zcells:ti.zero=z.cells.toList.map ES
 zleaf:∀ x ∈ ti.zero,oz x=true
 zsize:z.cells.size=i.size
 lks:ti.lks.length=i.size
 pos:0<i.size
 zagg:agl i d=true
 fld:VH P d=true
 small:i.size<iP
theorem dX {P:Program} {ap:AP} (f:iY P ap) {t:Nat} {e:TI} (h:ap.tyAt t=some e):∃ i d z,Cm P t e i d z:=by
 have a:=f.ty t e h;unfold XP at a;cases b:P.info? t with
 |none=>simp [b] at a
 | some i=>
  cases hd:P.underlying t with
  |none=>simp [b,hd] at a
  | some d=>
   simp only [b,hd] at a;split at a
   ·rename_i k;simp only [π] at k;obtain ⟨⟨⟨⟨⟨⟨r,l⟩,u⟩,n⟩,s⟩,o⟩,q⟩:=k;cases c:i.zero with
    |none=>simp [c] at o
    | some z=>
     cases a;have j:F5 i=z.cells.toList.map ES:=by simp [F5,c]
     refine ⟨i,d,z,b,hd,rfl,rfl,rfl,c,j, ?_, ?_,aJ r,gq s,l.1,l.2,gq q⟩
     ·intro x p;exact List.all_eq_true.1 u x p
     ·have:=aJ n;rw [j] at this;simpa using this
   ·cases a
theorem gZ {P:Program} {d:TypeDesc} {e:Nat} (h:jY P (some d)= .slice e):d= .slice e:=by cases d<;>simp [jY] at h;subst h;rfl
theorem yV {P:Program} {d:TypeDesc} {n e:Nat} (h:jY P (some d)= .array n e):d= .array n e:=by cases d<;>simp [jY] at h;obtain ⟨rfl,rfl⟩:=h;rfl
theorem xG {P:Program} {d:TypeDesc} (h:jY P (some d)= .str):d= .string:=by cases d<;>simp [jY] at h;rfl
theorem XM {P:Program} {d:TypeDesc} {k:IntKind} (h:jY P (some d)= .int k):d= .int k:=by cases d<;>simp [jY] at h;subst h;rfl
theorem abI {P:Program} {d:TypeDesc} (h:jY P (some d)= .bool):d= .bool:=by cases d<;>simp [jY] at h;rfl
theorem vO {P:Program} {d:TypeDesc} {a:List (Nat × Nat × Nat)} (h:jY P (some d)= .struct a):
  ∃ fields:Array Field,d= .struct fields∧a=fields.toList.map fun f=>(f.offset,f.type,match P.info? f.type with|some i=>i.size|none=>0):=by
 cases d<;>simp [jY] at h
 exact ⟨_,rfl,h.symm⟩
theorem FO {P:Program} (d:TypeDesc):IY (jY P (some d))=d.isRow:=by cases d<;>simp [jY,IY,TypeDesc.isRow]
theorem Gx (S:aT) (v:Value):PR S (Je v) v:=by
 cases v<;>simp only [Je,PR]
 case pointer a=>cases a<;>simp only [PR]
 case map a=>
  cases a with
  |none=>simp [PR]
  |some _=>simp only [PR]
 case slice a n c=>
  split<;>simp only [PR]
theorem JS (S:aT) (v:Value):PR S (ES v) v:=by
 cases v<;>simp only [ES]<;>try exact Gx S _
 case agg cs=>
  simp only [PR];refine ⟨cs.toList,by simp, ?_⟩
  induction cs.toList with
  |nil=>simp [dY]
  |cons c r ih=>simp only [Xqh,dY];exact ⟨Gx S c,ih⟩
 case tuple vs=>
  split
  ·rename_i h;simp only [PR];exact ⟨[],by rw [← h],by simp [dY]⟩
  ·simp only [PR]
theorem wz (S:aT):∀ l:List Value,dY S (l.map ES) l
 | []=>by simp [dY]
 |v::r=>by simp only [Xqh,dY];exact ⟨JS S v,wz S r⟩
theorem acU {g:dG} {m:aZ} {S:aT} {k:LK} {c:AV} {v:Value} (h:VR g m S c v) (f:chk k c=true):VR g m S (eta k c) v:=by
 cases k<;>cases c<;>simp [chk] at f<;>simp only [eta,AV.toInt,AV.toBool,AV.toStr,AV.slX,AV.slN]<;>try exact h
 ·rw [gm f];exact h
 ·simp only [VR,PR] at h ⊢;subst h;exact ⟨none,0,rfl,Δ _,.inl ⟨fun _=>trivial,trivial,trivial,rfl⟩⟩
 ·simp only [VR,PR] at h ⊢;obtain ⟨a,d,e,b,q⟩:=h;refine ⟨a,d,e,b, ?_⟩;rcases q with ⟨n,j,l,i⟩|q
  ·exact .inl ⟨fun _=>trivial,j,l,i⟩
  ·exact .inr q
theorem Bd {k:LK} {c:AV} (h:chk k c=true):c ≠ .dead:=by intro e;subst e;cases k<;>simp [chk] at h
theorem getD_some {a:List AV} {i:Nat} (h:a.getD i .dead ≠ .dead):a[i]? =some (a.getD i .dead):=by
 rw [ο] at h ⊢;cases b:a[i]? with
 |none=>simp [b] at h
 |some x=>simp
theorem og (b:List AV) (a:Nat):(b.drop a).headD .dead=b.getD a .dead:=by
 rw [Xwc,Xkb,ο]
theorem Tq (ty:Bool) (b:List AV) (a:Nat):uI ty [] b a= []:=rfl
theorem xw (ty:Bool) (k:LK) (ks:List LK) (b:List AV) (a:Nat):uI ty (k::ks) b a=(match ty with|true=>eta k (b.getD a .dead)|false=>b.getD a .dead)::uI ty ks b (a+1):=by
 show _::LQ ty ks (b.drop a).tail=_::LQ ty ks (b.drop (a+1));rw [Xki];cases ty<;>simp only [og]
theorem Ru (ty:Bool) (k:LK) (ks:List LK) (b:List AV) (a:Nat):Ir ty (k::ks) b a=(match ty with|true=>chk k (b.getD a .dead)|false=>chk .oth (b.getD a .dead))::Ir ty ks b (a+1):=by
 show _::UL ty ks (b.drop a).tail=_::UL ty ks (b.drop (a+1));rw [Xki];cases ty<;>simp only [og]
theorem pW {g:dG} {m:aZ} {S:aT} (ty:Bool) {f:List AV} {vs:List Value} (l:bi g m S f vs):∀ (lks:List LK) (a:Nat),(∀ b ∈ Ir ty lks f a,b=true)→
  ∃ e:List Value,e.length=lks.length∧(∀ j u,e[j]? =some u→vs[a+j]? =some u)∧bi g m S (uI ty lks f a) e:=by
 intro lks
 induction lks with
 |nil=>exact fun a _=> ⟨[],rfl,fun _ _ h=>by simp at h,by simp [Tq,bi]⟩
 | cons k ks ih=>
  intro a h;simp only [Ru,List.mem_cons,forall_eq_or_imp] at h;obtain ⟨e,n,p,o⟩:=ih (a+1) h.2;have key:∃ v,vs[a]? =some v∧VR g m S ((uI ty (k::ks) f a).headD .dead) v:=by
   rw [xw];cases ty with
   |true=>
    obtain ⟨v,d,c⟩:=rE l a (getD_some (Bd h.1));exact ⟨v,d,acU c h.1⟩
   |false=>
    obtain ⟨v,d,c⟩:=rE l a (getD_some (Bd h.1));exact ⟨v,d,c⟩
  obtain ⟨v,d,c⟩:=key;rw [xw] at c;refine ⟨v::e,by simp [n], ?_, ?_⟩
  ·intro j u i;cases j with
   |zero=>simp at i;subst i;simpa using d
   |succ j=>simp at i;rw [show a+(j+1)=a+1+j from by omega];exact p j u i
  ·simp only [xw,bi];exact ⟨c,o⟩
theorem ED {P:Program} {w:World} {t:Nat} {l:TI} {i:TypeInfo} {d:TypeDesc} {z:Value} (f:Cm P t l i d z) {g:dG} {m:aZ} {S:aT} {cs:List AV} {e:List Value} {k a:Nat}
  (hl:e.length=l.lks.length) (hu:∀ j u,e[j]? =some u→w.cell? ⟨k,a+j,none⟩=some u) (hr:bi g m S cs e) {v:AV} (hv:qW l cs=some v):
  ∃ cv,(loadVar t ⟨k,a,none⟩).run P w= .ok cv w∧VR g m S v cv:=by
 unfold qW at hv;rw [f.d_eq,FO] at hv;split at hv
 ·rename_i b;cases hv;refine ⟨.agg e.toArray,run_loadVar_mid w k a t e d hu f.und b (by simp [f.info,hl,f.lks]), ?_⟩;simp only [VR];exact ⟨e,rfl,hr⟩
 ·rename_i b;split at hv
  ·rename_i c;cases hv;cases e with
   |nil=>simp [bi] at hr
   | cons u r=>
    simp only [bi] at hr;refine ⟨u, ?_,hr.1⟩;have h:(isAgg t).run P w= .ok false w:=by
     unfold isAgg;rw [Sem.run_bind,run_underlying f.und w];cases d<;>simp_all [TypeDesc.isRow]
    have n:=hu 0 u rfl;simp only [Xq0] at n;simp [loadVar,h,n]
  ·cases hv
theorem bind_some {α β:Type} {x:Option α} {f:α→Option β} {b:β} (h:x.bind f=some b):∃ a,x=some a∧f a=some b:=by
 cases x with
 |none=>simp at h
 |some a=>exact ⟨a,rfl,h⟩
theorem aP {v b:AV} {bs a:List Bool} {ups:List (Nat × bg)} (h:bz v bs=some (b,ups,a)):b=v∧ups= []∧a=bs:=by
 unfold bz at h;cases h;exact ⟨rfl,rfl,rfl⟩
section
variable {P:Program} {ap:AP} {g:dG} {m:aZ} {S:aT} {w:World}
theorem Bz (K:bU ap g m S w) {rd:dG} (E:∀ b B,rd b=some B→g b=some B) {t:Nat} {x:TI} {i:TypeInfo} {d:TypeDesc} {z:Value} (M:Cm P t x i d z)
  {p v:AV} {cp:Value} (hp:VR g m S p cp) {ups:List (Nat × bg)} {bs:List Bool} (h:KZ x rd p=some (v,ups,bs)) (hbs:∀ b ∈ bs,b=true):
  ups= []∧∃ cv,(Instr.loadAt t cp).run P w= .ok cv w∧VR g m S v cv:=by
 unfold KZ at h;split at h
 ·rename_i T f;obtain ⟨R,l,h⟩:=bind_some h;obtain ⟨rfl,rfl,rfl⟩:=aP h;simp only [VR,PR] at hp;obtain ⟨b,o,vs,rfl,hp,hs⟩:=hp;obtain ⟨N,y,J,H⟩:=pW (g:=g) (m:=m) true (bW _ hp) x.lks f hbs;obtain ⟨cv,G,A⟩:=ED (w:=w) M (k:=b) (a:=o+f) y (fun j u C=>by
   have L:=hs (f+j) u (J j u C);have:=K.one L.1 L.2;rw [Xze];exact this) H l
  exact ⟨rfl,cv,by simpa [Instr.loadAt,Instr.sureAddr] using G,A⟩
 ·rename_i b ver f;obtain ⟨B,Q,h⟩:=bind_some h;split at h
  ·rename_i c;obtain ⟨R,l,h⟩:=bind_some h;obtain ⟨rfl,rfl,rfl⟩:=aP h;simp only [VR] at hp;obtain ⟨B',n,_,_,q⟩:=hp;have s:=E b B Q;rw [s] at n;cases n;simp only [π,Xqo] at c;have F:B.esz ≠ iP:=fun e=>by rw [e] at c;exact absurd c.2 (by decide)
   have q:=q (aJ c.1);subst q;obtain ⟨cur,e,vs,rest,D,O,_,I,_⟩:=(K.blk b B s).lies;have D:=D.cells F;obtain ⟨N,y,J,H⟩:=pW _ I x.lks f hbs;obtain ⟨cv,G,A⟩:=ED (w:=w) M (k:=(m b).1) (a:=f) y (fun j u C=>by
    have r:=J j u C;rw [tX D,O,List.getElem?_append_left (List.getElem?_eq_some_iff.1 r).1];exact r) H l
   exact ⟨rfl,cv,by simpa [Instr.loadAt,Instr.sureAddr] using G,A⟩
  ·cases h
 ·cases h
theorem ET {p d:AV} {f:Value} (hp:VR g m S p f) {o:Nat} (h:WE p o=some d):∃ a:Addr,f= .pointer (some a)∧VR g m S d (.pointer (some (a.add o))):=by
 unfold WE at h;split at h<;>cases h
 ·rename_i b ver c;simp only [VR] at hp;obtain ⟨B,i,n,⟨k,r,rfl⟩,q⟩:=hp;refine ⟨_,rfl, ?_⟩;simp only [VR];refine ⟨B,i,n,⟨k,r+o,by rw [Addr.add_mid]⟩,fun e=> ?_⟩;have q:=q e;simp only [Value.pointer.injEq,Option.some.injEq,Addr.mk.injEq] at q;obtain ⟨j,l,_⟩:=q;rw [Addr.add_mid,j,l]
 ·rename_i s c;simp only [VR,PR] at hp;obtain ⟨b,k,vs,rfl,hp,hs⟩:=hp;refine ⟨_,rfl, ?_⟩;simp only [VR,PR];exact ⟨b,k,vs,by rw [Addr.add_mid,Xze],hp,hs⟩
end
end AM
namespace AM
open Go
section
variable {P:Program} {ap:AP} {g:dG} {m:aZ} {S:aT} {w:World}
theorem cZ {b:Bool} {l:List Bool} (h:∀ x ∈ b::l,x=true):b=true∧∀ x ∈ l,x=true:=⟨h b (by simp),fun x a=>h x (by simp [a])⟩
theorem kE {t:Nat} {b:TI} {i:TypeInfo} {d:TypeDesc} {z:Value} (a:Cm P t b i d z) (w:World):(Go.sizeOf t).run P w= .ok b.size w:=by
 simp [Go.sizeOf,typeInfo,a.info,a.size]
theorem Bh {x:AV} {b:Value} (a:VR g m S x b) {n:Int} (h:P7 x=some n):∃ k,b= .int k n:=by
 cases x<;>simp [P7] at h
 subst h;simp only [VR,PR] at a;exact ⟨_,a⟩
theorem Cc {t:Nat} {u:TI} {i:TypeInfo} {d:TypeDesc} {z:Value} (x:Cm P t u i d z) {r:List (Nat × Nat × Nat)} (hd:u.d= .struct r) {f o y l:Nat} (n:r[f]? =some (o,y,l)) (b:Xja 0 l=true)
  {p v:AV} {cp:Value} (hp:VR g m S p cp) (k:WE p o=some v):∃ cv,(Instr.fieldAt t cp f).run P w= .ok cv w∧VR g m S v cv:=by
 rw [x.d_eq] at hd;obtain ⟨fields,rfl,rfl⟩:=vO hd;simp only [Xq3,Xqp] at n;obtain ⟨s,h,q⟩:=n;simp only [Prod.mk.injEq] at q;obtain ⟨rfl,rfl,hs⟩:=q;obtain ⟨a,rfl,k⟩:=ET hp k;refine ⟨_, ?_,k⟩;have c:fields[f]? =some s:=by simpa using h
 cases e:P.info? s.type with
 |none=>rw [e] at hs;simp only at hs;subst hs;exact absurd (gq b) (by omega)
 |some j=>
  rw [e] at hs;have A:j.size ≠ 0:=by have:=gq b;simp only at hs;omega
  simp [Instr.fieldAt,run_underlying x.und,c,Instr.sureAddr,fieldPlace,Go.sizeOf,typeInfo,e,A]
theorem oD {i:Int} {n:Nat} (d:decide (0≤i)=true) (c:decide (i<n)=true):0≤i∧i<n∧i.toNat<n:=by
 have a:=of_decide_eq_true d;have b:=of_decide_eq_true c;omega
theorem zM (u:iY P ap) {rd:dG} (G:∀ b B,rd b=some B→g b=some B) {t:Nat} {L:TI} {i:TypeInfo} {d:TypeDesc} {z:Value} (y:Cm P t L i d z)
  {x ix v:AV} {cx ci:Value} (hx:VR g m S x cx) (hi:VR g m S ix ci) {ups:List (Nat × bg)} {bs:List Bool} (h:xf ap L rd x ix=some (v,ups,bs)) (hbs:∀ b ∈ bs,b=true):
  ups= []∧∃ cv,(Instr.indexAt t cx ci).run P w= .ok cv w∧VR g m S v cv:=by
 unfold xf at h;have l:=bind_some h;clear h;obtain ⟨n,W,h⟩:=l;obtain ⟨k,rfl⟩:=Bh hi W;split at h
 ·rename_i e hd;have l:=bind_some h;clear h;obtain ⟨H,c,h⟩:=l;obtain ⟨M,R,U,c⟩:=dX u c;rw [y.d_eq] at hd;have hd:=gZ hd;subst hd;split at h
  ·rename_i Y s nn;obtain ⟨rfl,rfl,rfl⟩:=aP h;obtain ⟨D,f⟩:=cZ hbs;obtain ⟨f,_⟩:=cZ f;obtain ⟨A,C,K⟩:=oD D f;simp only [VR,PR] at hx;obtain ⟨a,N,rfl,T,q⟩:=hx;rcases q with ⟨_,_,q,_⟩|⟨b,o,vs,rfl,hp,hs⟩
   ·subst q;omega
   ·refine ⟨rfl,.pointer (some ⟨b,o+n.toNat*H.size,none⟩), ?_, ?_⟩
    ·simp [Instr.indexAt,asIntOf,run_underlying y.und,A,C,kE c,Addr.add_mid]
    ·simp only [VR,PR];exact ⟨b,o,vs,rfl,hp,hs⟩
  ·rename_i b ver j s;have l:=bind_some h;clear h;obtain ⟨B,V,h⟩:=l;split at h
   ·rename_i E;simp only [π] at E;obtain ⟨rfl,rfl,rfl⟩:=aP h;obtain ⟨D,f⟩:=cZ hbs;obtain ⟨f,_⟩:=cZ f;obtain ⟨A,C,K⟩:=oD D f;simp only [VR] at hx;obtain ⟨B',r,J,_,q⟩:=hx;have I:=G b B V;rw [I] at r;cases r;obtain ⟨o,rfl,X,Q,Z⟩:=q (aJ E.1);have O:=Q (by omega);have F:=aJ E.2;refine ⟨rfl,.pointer (some ⟨(m b).1,(j+n.toNat)*H.size,none⟩), ?_, ?_⟩
    ·rw [O,F];simp [Instr.indexAt,asIntOf,run_underlying y.und,A,C,kE c,Addr.add_mid,Xxm]
    ·simp only [VR];exact ⟨B,I,by have:=aJ E.1;omega,⟨_,_,rfl⟩,fun _=>trivial⟩
   ·cases h
  ·cases h
 ·rename_i s e hd;have l:=bind_some h;clear h;obtain ⟨H,c,h⟩:=l;obtain ⟨M,R,U,c⟩:=dX u c;have l:=bind_some h;clear h;obtain ⟨p,hp,h⟩:=l;obtain ⟨rfl,rfl,rfl⟩:=aP h;rw [y.d_eq] at hd;have hd:=yV hd;subst hd;obtain ⟨D,f⟩:=cZ hbs;obtain ⟨f,_⟩:=cZ f;obtain ⟨A,C,K⟩:=oD D f;obtain ⟨a,rfl,J⟩:=ET hx hp;refine ⟨rfl,_, ?_,J⟩;simp [Instr.indexAt,asIntOf,run_underlying y.und,A,C,kE c,Instr.sureAddr]
 ·cases h
theorem EY {t:Nat} {h:TI} {i:TypeInfo} {d:TypeDesc} {z:Value} (l:Cm P t h i d z) {vs b:List Value} {cs:List AV} {e:Nat}
  (hl:b.length=h.lks.length) (hu:∀ j u,b[j]? =some u→vs[e+j]? =some u) (hr:bi g m S cs b) {v:AV} (hv:qW h cs=some v):
  ∃ cv,(part t vs.toArray e).run P w= .ok cv w∧VR g m S v cv:=by
 have f:(isAgg t).run P w= .ok d.isRow w:=by
  unfold isAgg;rw [Sem.run_bind,run_underlying l.und w];cases d<;>simp [TypeDesc.isRow]
 unfold qW at hv;rw [l.d_eq,FO] at hv;split at hv
 ·rename_i a;cases hv;have o:(vs.drop e).take h.size=b:=by
   apply List.ext_getElem?;intro j;rw [Xj0,Xzh];have q:h.size=b.length:=by rw [hl,l.lks,l.size]
   split
   ·rename_i p;have k:j<b.length:=by omega
    have:=hu j b[j] (ξ k);rw [this,ξ k]
   ·rename_i p;rw [List.getElem?_eq_none (by omega)]
  refine ⟨.agg b.toArray, ?_, ?_⟩
  ·simp [part,f,a,kE l,o]
  ·simp only [VR];exact ⟨b,rfl,hr⟩
 ·rename_i a;split at hv
  ·rename_i c;cases hv;cases b with
   |nil=>simp [bi] at hr
   |cons u r=>
    simp only [bi] at hr;refine ⟨u, ?_,hr.1⟩;have n:=hu 0 u rfl;simp only [Xq0] at n;have a:d.isRow=false:=by simpa using a
    simp [part,f,a,n]
  ·cases hv
theorem IL (k:iY P ap) {t:Nat} {u:TI} {i:TypeInfo} {d:TypeDesc} {z:Value} (q:Cm P t u i d z) {x v:AV} {y:Value} (j:VR g m S x y) {f:Nat} {ups:List (Nat × bg)} {bs:List Bool}
  (h:N7 ap u x f=some (v,ups,bs)) (hbs:∀ b ∈ bs,b=true):ups= []∧∃ cv,(Instr.field t y f).run P w= .ok cv w∧VR g m S v cv:=by
 unfold N7 at h;split at h
 ·rename_i K cs hd;have c:=bind_some h;clear h;obtain ⟨⟨o,M,F⟩,p,h⟩:=c;have c:=bind_some h;clear h;obtain ⟨tf,a,h⟩:=c;have c:=bind_some h;clear h;obtain ⟨L,n,h⟩:=c;obtain ⟨rfl,rfl,rfl⟩:=aP h;obtain ⟨G,I,J,a⟩:=dX k a;rw [q.d_eq] at hd;obtain ⟨fields,rfl,rfl⟩:=vO hd;simp only [Xq3,Xqp] at p;obtain ⟨s,l,r⟩:=p;simp only [Prod.mk.injEq] at r;obtain ⟨rfl,rfl,hs⟩:=r;simp only [VR] at j;obtain ⟨vs,rfl,j⟩:=j;obtain ⟨H,A,E,D⟩:=pW false j tf.lks s.offset hbs;obtain ⟨cv,C,B⟩:=EY (w:=w) a A E D n;have e:fields[f]? =some s:=by simpa using l
  refine ⟨rfl,cv, ?_,B⟩;simp [Instr.field,run_underlying q.und,e,asAgg,C]
 ·cases h
theorem VL (s:List UInt8) (i:Nat) (h:i<s.length):(⟨s.toArray⟩:ByteArray)[i]? =some (s.getD i 0):=by
 have hs:i<(⟨s.toArray⟩:ByteArray).size:=by simpa [ByteArray.size] using h
 rw [getElem?_pos _ i hs];simp only [ByteArray.getElem_eq_getElem_data,List.getElem_toArray];rw [ο,ξ h];rfl
theorem IW (q:iY P ap) {t:Nat} {D:TI} {i:TypeInfo} {d:TypeDesc} {z:Value} (l:Cm P t D i d z) {x B v:AV} {E ci:Value} (f:VR g m S x E) (J:VR g m S B ci) {ups:List (Nat × bg)} {bs:List Bool}
  (h:Oa ap D x B=some (v,ups,bs)) (hbs:∀ b ∈ bs,b=true):ups= []∧∃ cv,(Instr.index t E ci).run P w= .ok cv w∧VR g m S v cv:=by
 unfold Oa at h;have j:=bind_some h;clear h;obtain ⟨n,L,h⟩:=j;obtain ⟨k,rfl⟩:=Bh J L;split at h
 ·rename_i s hd;obtain ⟨rfl,rfl,rfl⟩:=aP h;obtain ⟨u,c⟩:=cZ hbs;obtain ⟨c,_⟩:=cZ c;obtain ⟨r,F,A⟩:=oD u c;rw [l.d_eq] at hd;have hd:=xG hd;subst hd;simp only [VR,PR] at f;subst f;refine ⟨rfl,.int .u8 (s.getD n.toNat 0).toNat, ?_,by simp only [VR,PR]⟩;simp [Instr.index,asIntOf,run_underlying l.und,r,VL s n.toNat A]
 ·rename_i H e cs hd;have j:=bind_some h;clear h;obtain ⟨C,a,h⟩:=j;have j:=bind_some h;clear h;obtain ⟨T,y,h⟩:=j;obtain ⟨rfl,rfl,rfl⟩:=aP h;obtain ⟨O,Q,R,a⟩:=dX q a;obtain ⟨u,c⟩:=cZ hbs;obtain ⟨c,I⟩:=cZ c;obtain ⟨r,F,A⟩:=oD u c;rw [l.d_eq] at hd;have hd:=yV hd;subst hd;simp only [VR] at f;obtain ⟨vs,rfl,f⟩:=f;obtain ⟨N,G,M,K⟩:=pW true f C.lks (n.toNat*C.size) I;obtain ⟨cv,p,o⟩:=EY (w:=w) a G M K y;refine ⟨rfl,cv, ?_,o⟩;simp [Instr.index,asIntOf,run_underlying l.und,r,F,kE a,p]
 ·cases h
end
end AM
namespace AM
open Go
section
variable {P:Program} {ap:AP} {g:dG} {m:aZ} {S:aT} {w:World}
def Dh (g:dG) (m:aZ) (S:aT) (x:Option AV) (c:Option Value):Prop:=
 match x,c with
 |none,none=>True
 |some x,some c=>VR g m S x c
 |_,_=>False
theorem gW {x:Option AV} {c:Option Value} (h:Dh g m S x c) {d n:Int} (a:oG x d=some n):(x=none∧c=none∧n=d)∨∃ k,c=some (.int k n):=by
 cases x with
 |none=>cases c with
  |none=>simp [oG] at a;exact .inl ⟨rfl,rfl,a.symm⟩
  |some c=>simp [Dh] at h
 | some x=>cases c with
  |none=>simp [Dh] at h
  |some c=>
   cases x<;>simp [oG] at a
   subst a;simp only [Dh,VR,PR] at h;subst h;exact .inr ⟨_,rfl⟩
theorem sG (P:Program) (w:World) (e:Bool) (a b:Nat) (c f:Option Value) (l h:Int)
  (hl:(c=none∧l=0)∨∃ k,c=some (.int k l)) (j:(f=none∧h=a)∨∃ k,f=some (.int k h)) (h0:0≤l) (h1:l≤h) (h2:h≤b):
  (Instr.sliceBounds e a b c f none).run P w= .ok (l.toNat,h.toNat,b) w:=by
 have i:0≤h:=by omega
 rcases hl with ⟨rfl,rfl⟩|⟨k,rfl⟩<;>rcases j with ⟨rfl,rfl⟩|⟨o,rfl⟩
 ·simp [Instr.sliceBounds]
 ·simp [Instr.sliceBounds,Instr.sliceBound,asIntOf,h2,i]
 ·have d:l≤(a:Int):=h1;simp [Instr.sliceBounds,Instr.sliceBound,asIntOf,h0,d]
 ·simp [Instr.sliceBounds,Instr.sliceBound,asIntOf,h0,h2,i];intro n;omega
theorem KH (s:List UInt8) (l h:Nat):(⟨s.toArray⟩:ByteArray).extract l h=⟨((s.take h).drop l).toArray⟩:=by
 apply ByteArray.ext;rw [ByteArray.data_extract];apply Array.ext';simp [List.extract_eq_take_drop,List.drop_take]
theorem yU (s:List UInt8):(⟨s.toArray⟩:ByteArray).size=s.length:=by simp [ByteArray.size]
theorem kM.drop {b o:Nat} {vs:List Value} (h:kM S b o vs) (n:Nat):kM S b (o+n) (vs.drop n):=by
 intro j u a;rw [Xzh] at a;rw [Xze];exact h _ _ a
theorem kM.take {b o:Nat} {vs:List Value} (h:kM S b o vs) (n:Nat):kM S b o (vs.take n):=by
 intro j u a;rw [Xj0] at a;split at a
 ·exact h _ _ a
 ·cases a
theorem acW {a b c:Bool} (h:∀ x ∈ [a,b,c],x=true):a=true∧b=true∧c=true:=⟨h a (by simp),h b (by simp),h c (by simp)⟩
theorem Gh {α:Type} (a:List α) (n:Nat):(a.take n).drop n= []:=by
 apply Xzt;simp;omega
theorem JC (G:iY P ap) {rd:dG} (L:∀ b B,rd b=some B→g b=some B) {t:Nat} {U:TI} {i:TypeInfo} {d:TypeDesc} {z:Value} (D:Cm P t U i d z)
  {x v:AV} {cx:Value} (hx:VR g m S x cx) {lo hi mx:Option AV} {clo chi cmx:Option Value} (hlo:Dh g m S lo clo) (hhi:Dh g m S hi chi) (hmx:Dh g m S mx cmx)
  {ups:List (Nat × bg)} {bs:List Bool} (h:OX ap U rd x lo hi mx=some (v,ups,bs)) (hbs:∀ b ∈ bs,b=true):
  ups= []∧∃ cv,(Instr.sliceAt t cx clo chi cmx).run P w= .ok cv w∧VR g m S v cv:=by
 have k:mx=none→cmx=none:=by intro e;subst e;cases cmx<;>simp [Dh] at hmx ⊢
 unfold OX at h;split at h
 ·rename_i s hd;have c:=bind_some h;clear h;obtain ⟨l,F,h⟩:=c;have c:=bind_some h;clear h;obtain ⟨u,H,h⟩:=c;obtain ⟨rfl,rfl,rfl⟩:=aP h;obtain ⟨r,p,C⟩:=acW hbs;have r:=of_decide_eq_true r;have p:=of_decide_eq_true p;have C:=of_decide_eq_true C;rw [D.d_eq] at hd;have hd:=xG hd;subst hd;simp only [VR,PR] at hx;subst hx;rw [k rfl];have E:=sG P w false s.length s.length clo chi l u ((gW hlo F).imp (fun h=> ⟨h.2.1,h.2.2⟩) id) ((gW hhi H).imp (fun h=> ⟨h.2.1,h.2.2⟩) id) r p C;refine ⟨rfl,.string ⟨((s.take u.toNat).drop l.toNat).toArray⟩, ?_,by simp only [VR,PR]⟩;rw [← KH];simp [Instr.sliceAt,Instr.slice,run_underlying D.und,yU,E]
 ·rename_i e W n nn hd;have c:=bind_some h;clear h;obtain ⟨y,f,h⟩:=c;have c:=bind_some h;clear h;obtain ⟨l,F,h⟩:=c;have c:=bind_some h;clear h;obtain ⟨u,H,h⟩:=c;obtain ⟨rfl,rfl,rfl⟩:=aP h;obtain ⟨M,Q,R,f⟩:=dX G f;obtain ⟨r,p,C⟩:=acW hbs;have r:=of_decide_eq_true r;have p:=of_decide_eq_true p;have C:=of_decide_eq_true C;rw [D.d_eq] at hd;have hd:=gZ hd;subst hd;simp only [VR,PR] at hx;obtain ⟨a,A,rfl,X,q⟩:=hx;rw [k rfl];have E:=sG P w true n A clo chi l u ((gW hlo F).imp (fun h=> ⟨h.2.1,h.2.2⟩) id) ((gW hhi H).imp (fun h=> ⟨h.2.1,h.2.2⟩) id) r p (by omega);refine ⟨rfl,.slice (if A=l.toNat then a else a.map (·.add (l.toNat*y.size))) (u.toNat - l.toNat) (A - l.toNat), ?_, ?_⟩
  ·simp [Instr.sliceAt,Instr.slice,run_underlying D.und,E,kE f]
  ·simp only [VR,PR];refine ⟨_,_,rfl,by omega, ?_⟩;rcases q with ⟨N,rfl,rfl,rfl⟩|⟨b,o,vs,rfl,hp,hs⟩
   ·refine .inl ⟨fun h=>N ?_,by simp,by omega,by omega⟩;split at h
    ·exact h
    ·simpa using h
   ·refine .inr ?_;by_cases I:A=l.toNat
    ·refine ⟨b,o,[],by rw [if_pos I], ?_,fun j u h=>by simp at h⟩;have e:(W.take (u.toNat*y.size)).drop (l.toNat*y.size)= []:=by
      have:u.toNat=l.toNat:=by omega
      rw [this,Gh]
     rw [e];simp [dY]
    ·exact ⟨b,o+l.toNat*y.size,(vs.take (u.toNat*y.size)).drop (l.toNat*y.size),by rw [if_neg I];simp [Addr.add_mid],qy _ (kK _ hp),(hs.take _).drop _⟩
 ·rename_i e b ver j n hd;have c:=bind_some h;clear h;obtain ⟨y,f,h⟩:=c;have c:=bind_some h;clear h;obtain ⟨B,Z,h⟩:=c;have c:=bind_some h;clear h;obtain ⟨l,F,h⟩:=c;have c:=bind_some h;clear h;obtain ⟨u,H,h⟩:=c;split at h
  ·rename_i I;simp only [π] at I;obtain ⟨rfl,rfl,rfl⟩:=aP h;obtain ⟨M,Q,R,f⟩:=dX G f;obtain ⟨r,p,C⟩:=acW hbs;have r:=of_decide_eq_true r;have p:=of_decide_eq_true p;have C:=of_decide_eq_true C;rw [D.d_eq] at hd;have hd:=gZ hd;subst hd;simp only [VR] at hx;obtain ⟨B',J,Y,_,q⟩:=hx;have O:=L b B Z;rw [O] at J;cases J;obtain ⟨o,rfl,N,V,T⟩:=q (aJ I.1);have K:=aJ I.2;rw [k rfl];have E:=sG P w true n ((m b).2 - j) clo chi l u ((gW hlo F).imp (fun h=> ⟨h.2.1,h.2.2⟩) id) ((gW hhi H).imp (fun h=> ⟨h.2.1,h.2.2⟩) id) r p (by omega);refine ⟨rfl,.slice (if (m b).2 - j=l.toNat then some ⟨(m b).1,o,none⟩ else some ⟨(m b).1,o+l.toNat*y.size,none⟩) (u.toNat - l.toNat) ((m b).2 - j - l.toNat), ?_, ?_⟩
   ·simp [Instr.sliceAt,Instr.slice,run_underlying D.und,E,kE f,Addr.add_mid]
   ·simp only [VR];refine ⟨B,O,Y,(by split<;>exact ⟨_,_,_,rfl⟩),fun _=> ?_⟩;by_cases hcl:(m b).2 - j=l.toNat
    ·exact ⟨o,by rw [if_pos hcl];congr 1;omega,by omega,fun h=>by omega,T⟩
    ·refine ⟨o+l.toNat*y.size,by rw [if_neg hcl];congr 1;omega,by omega,fun h=> ?_,T⟩;rw [V (by omega),K,Xxm]
  ·cases h
 ·rename_i e hd;have c:=bind_some h;clear h;obtain ⟨y,f,h⟩:=c;have c:=bind_some h;clear h;obtain ⟨l,F,h⟩:=c;have c:=bind_some h;clear h;obtain ⟨u,H,h⟩:=c;obtain ⟨rfl,rfl,rfl⟩:=aP h;obtain ⟨M,Q,R,f⟩:=dX G f;have r:=of_decide_eq_true (hbs (decide (l=0)) (by simp));have p:=of_decide_eq_true (hbs (decide (u=0)) (by simp));subst r;subst p;rw [D.d_eq] at hd;have hd:=gZ hd;subst hd;simp only [VR,PR] at hx;subst hx;rw [k rfl];have E:=sG P w true 0 0 clo chi 0 0 ((gW hlo F).imp (fun h=> ⟨h.2.1,h.2.2⟩) id) ((gW hhi H).imp (fun h=> ⟨h.2.1,h.2.2⟩) id) (by omega) (by omega) (by omega);refine ⟨rfl,.slice none 0 0, ?_,by simp only [VR,PR]⟩;simp at E;simp [Instr.sliceAt,Instr.slice,run_underlying D.und,E,kE f]
 ·cases h
theorem Og {x v:AV} {o:Value} (c:VR g m S x o) {t:Nat} {l:TI} {i:TypeInfo} {d:TypeDesc} {z:Value} (f:Cm P t l i d z)
  {ups:List (Nat × bg)} {bs:List Bool} (h:V3 l.d x=some (v,ups,bs)) (ats:Array TypeId) (hat:ats[0]? =some t) (args:Array Value) (ha:args[0]? =some o) (ty:Nat):
  ups= []∧∃ cv,(Builtin.len_ ats ty args).run P w= .ok cv w∧VR g m S v cv:=by
 unfold V3 at h;rw [f.d_eq] at h;split at h
 ·rename_i n e hd;obtain ⟨rfl,rfl,rfl⟩:=aP h;have hd:=yV hd;subst hd;exact ⟨rfl,.int .i64 n,by simp [Builtin.len_,hat,ha,run_underlying f.und,goInt],by simp only [VR,PR]⟩
 ·rename_i s hd;obtain ⟨rfl,rfl,rfl⟩:=aP h;have hd:=xG hd;subst hd;simp only [VR,PR] at c;subst c;exact ⟨rfl,.int .i64 s.length,by simp [Builtin.len_,hat,ha,run_underlying f.und,goInt,yU],by simp only [VR,PR]⟩
 ·rename_i e p n q hd;obtain ⟨rfl,rfl,rfl⟩:=aP h;have hd:=gZ hd;subst hd;simp only [VR,PR] at c;obtain ⟨a,k,rfl,_⟩:=c;exact ⟨rfl,.int .i64 n,by simp [Builtin.len_,hat,ha,run_underlying f.und,goInt],by simp only [VR,PR]⟩
 ·rename_i e b ver j n hd;obtain ⟨rfl,rfl,rfl⟩:=aP h;have hd:=gZ hd;subst hd;simp only [VR] at c;obtain ⟨_,_,_,⟨_,_,k,rfl⟩,_⟩:=c;exact ⟨rfl,.int .i64 n,by simp [Builtin.len_,hat,ha,run_underlying f.und,goInt],by simp only [VR,PR]⟩
 ·rename_i e hd;obtain ⟨rfl,rfl,rfl⟩:=aP h;have hd:=gZ hd;subst hd;simp only [VR,PR] at c;subst c;exact ⟨rfl,.int .i64 0,by simp [Builtin.len_,hat,ha,run_underlying f.und,goInt],by simp only [VR,PR]⟩
 ·cases h
theorem xH (s:List UInt8):(⟨s.toArray⟩:ByteArray).toList=s:=by rw [ByteArray.toList_eq]
theorem xW:∀ a b:List UInt8,Op.bytesLess a b=iy a b
 |_,[]=>by simp [Op.bytesLess,iy]
 | [],_::_=>by simp [Op.bytesLess,iy]
 |a::x,b::y=>by simp only [Op.bytesLess,iy,xW x y]
def sU:LK→Value→Value→Option Bool
 | .int k,.int k1 a,.int k2 b=>match iR k k1 && iR k k2 with|true=>some (a==b)|false=>none
 | .bool,.bool a,.bool b=>some (a==b)
 | .str,.string a,.string b=>some (a.toList==b.toList)
 |_,_,_=>none
def dR:List LK→List Value→List Value→Option Bool
 | [],[],[]=>some true
 |k::ks,a::as,b::bs=>(sU k a b).bind fun c=>(dR ks as bs).map fun d=>c && d
 |_,_,_=>none
theorem rM:∀ (l e:List LK) (i f:List Value) (r:Bool),dR (l++e) i f=some r→
  ∃ a b,dR l (i.take l.length) (f.take l.length)=some a∧dR e (i.drop l.length) (f.drop l.length)=some b∧r=(a && b)
 | [],e,i,f,r,h=> ⟨true,r,by simp [dR],by simpa using h,by simp⟩
 |k::l,e,[],_,r,h=>by simp [dR] at h
 |k::l,e,_::_,[],r,h=>by simp [dR] at h
 |k::l,e,x::i,y::f,r,h=>by
  simp only [Xq9,dR] at h;obtain ⟨c,j,h⟩:=bind_some h;rw [Xqp] at h;obtain ⟨d,hd,rfl⟩:=h;obtain ⟨a,b,n,o,rfl⟩:=rM l e i f d hd;exact ⟨c && a,b,by simp [dR,j,n],by simpa using o,by simp [Bool.and_assoc]⟩
theorem qh:∀ (l:List LK) (b a:List Value) (r:Bool),dR l b a=some r→b.length=l.length∧a.length=l.length
 | [],[],[],_,_=> ⟨rfl,rfl⟩
 |k::l,x::b,y::a,r,h=>by
  simp only [dR] at h;obtain ⟨c,_,h⟩:=bind_some h;rw [Xqp] at h;obtain ⟨d,hd,_⟩:=h;have:=qh l b a d hd;simp [this.1,this.2]
 | [],_::_,_,_,h=>by simp [dR] at h
 | [],[],_::_,_,h=>by simp [dR] at h
 |_::_,[],_,_,h=>by simp [dR] at h
 |_::_,_::_,[],_,h=>by simp [dR] at h
def uO (P:Program) (t:TypeId) (xs:List Value):Value:=match P.underlying t with
 |some (.struct _)=> .agg xs.toArray
 |_=>xs.headD undef
def xJ (P:Program) (n:Nat) (t:TypeId) (lks:List LK):Prop:=
 ∀ (d:Nat) (w:World) (xs ys:List Value) (r:Bool),n≤d→dR lks xs ys=some r→(Op.equalIn d t (uO P t xs) (uO P t ys)).run P w= .ok r w
theorem uK {t:TypeId} {lks:List LK} {n:Nat} (f:jH P n t=some lks) {i:TypeInfo} (l:P.info? t=some i) (hs:i.size=lks.length) (c:List Value) (a:Nat) (o:a+lks.length≤c.length) (w:World):
  (part t c.toArray a).run P w= .ok (uO P t ((c.drop a).take lks.length)) w:=by
 cases n with
 |zero=>simp [jH] at f
 | succ n=>
  unfold jH at f;cases h:P.underlying t with
  |none=>simp [h] at f
  | some d=>
   have b:(isAgg t).run P w= .ok d.isRow w:=by
    unfold isAgg;rw [Sem.run_bind,run_underlying h w];cases d<;>simp [TypeDesc.isRow]
   cases d<;>simp only [h] at f<;>try cases f
   case struct fs=>
    simp only [TypeDesc.isRow] at b;simp [part,b,Go.sizeOf,typeInfo,l,hs,uO,h]
   all_goals
    simp only [TypeDesc.isRow] at b;simp only [μ,Xqb,Xqf] at o;have k:c[a]? =some (c[a]'(by omega)):=ξ (by omega);simp only [part,Sem.run_bind,b,Result.andThen_ok,Bool.false_eq_true,if_false,uO,h];have e:((c.drop a).take [LK.str].length).headD undef=c[a]'(by omega):=by
     rw [Xwc,List.head?_take,Xkb,k];simp
    have j:(c.toArray)[a]? =some (c[a]'(by omega)):=by simp
    rw [j]
    first|exact congrArg (fun v=>Result.ok v w) e.symm|(simp only [μ,Xqb] at e ⊢;exact congrArg (fun v=>Result.ok v w) e.symm)
theorem sV {n:Nat} (u:∀ t lks,jH P n t=some lks→xJ P n t lks):∀ (fs:List Field) (off:Nat) (lks:List LK),xZ P (jH P n) fs off=some lks→
  ∀ (d:Nat) (w:World) (xs ys:List Value) (r:Bool),n≤d→xs.length=off+lks.length→ys.length=off+lks.length→dR lks (xs.drop off) (ys.drop off)=some r→
   (Op.eqFields d xs.toArray ys.toArray fs).run P w= .ok r w
 | [],off,lks,hc,d,w,xs,ys,r,hd,hx,hy,h=>by
  simp [xZ] at hc;subst hc;have C:xs.drop off= []:=Xzt (by simp at hx;omega);have z:ys.drop off= []:=Xzt (by simp at hy;omega);rw [C,z] at h;simp [dR] at h;subst h;simp [Op.eqFields]
 | f ::fs,off,lks,hc,d,w,xs,ys,r,hd,hx,hy,h=>by
  simp only [xZ] at hc;cases j:jH P n f.type with
  |none=>simp [j] at hc
  | some l=>
   simp only [j] at hc;split at hc
   ·rename_i hcond;simp only [π,Xqo] at hcond;obtain ⟨⟨s,q⟩,c⟩:=hcond;cases p:xZ P (jH P n) fs (off+l.length) with
    |none=>simp [p] at hc
    | some l'=>
     simp only [p] at hc;cases hc;cases k:P.info? f.type with
     |none=>simp [k] at c
     |some i=>
      simp only [k] at c;have c:=aJ c;have q:=aJ q;have o:f.name ≠ "_" :=by intro e;rw [e] at s;exact absurd s (by decide)
      simp only [List.length_append] at hx hy;obtain ⟨a,b,y,B,rfl⟩:=rM l l' _ _ r h;have A:=uK j k c xs off (by omega) w;have x:=uK j k c ys off (by omega) w;have v:=u f.type l j d w _ _ a hd y;have D:=sV u fs (off+l.length) l' p d w xs ys b hd (by omega) (by omega) (by simpa [List.drop_drop,Nat.add_comm] using B);simp only [Op.eqFields,o,ne_eq,not_false_eq_true,if_true,Sem.run_bind,q,A,x,v,Result.andThen_ok];cases a
      ·simp
      ·simpa using D
   ·cases hc
theorem DN : ∀ (n:Nat) (t:TypeId) (lks:List LK),jH P n t=some lks→xJ P n t lks
  |0,_,_,h=>by simp [jH] at h
  | n + 1,t,lks,h=>by
    intro d w q o r hd b;obtain ⟨d,rfl⟩:∃ k,d=k+1:=⟨d - 1,by omega⟩
    have j:=qh _ _ _ _ b;unfold jH at h;cases a:P.underlying t with
    |none=>simp [a] at h
    | some ds=>
      cases ds<;>simp only [a] at h<;>try cases h
      case struct fs=>
        split at h
        · cases h
        · rename_i p;have i:P.fieldsOf t=fs:=by simp [Program.fieldsOf,a]
          have e:=run_equalIn_struct (P:=P) w d t q.toArray o.toArray (by rw [i];exact a) p;simp only [uO,a];rw [e,i];exact sV (DN n) fs.toList 0 lks h d w q o r (by omega) (by simp [j.1]) (by simp [j.2]) (by simpa using b)
      all_goals
        simp only [μ,Xqb,Xqf] at j
        match q,o,j,b with
        | [x], [y],_,b=>
          simp only [dR,Option.map_some,Bool.and_true] at b;obtain ⟨c,f,b⟩:=bind_some b;cases b;simp only [uO,a,List.headD_cons];cases x<;>cases y<;>simp [sU] at f
          first
            | (split at f
               · rename_i l;simp only [π] at l;obtain rfl:=gm l.1;obtain rfl:=gm l.2;cases f;exact run_equalIn_int (P:=P) w d t _ _ _ _ a
               · cases f)
            |(subst f;rw [run_equalIn_bool' (P:=P) w d t _ _ a])
            |(subst f;rw [run_equalIn_string (P:=P) w d t _ _ a])
end
end AM
namespace AM
open Go
section
variable {P:Program} {ap:AP} {g:dG} {m:aZ} {S:aT} {w:World}
theorem agd {d:TypeDesc} (h:jY P (some d)= .ptr):∃ e,d= .pointer e:=by cases d<;>simp [jY] at h;exact ⟨_,rfl⟩
theorem abJ {d:TypeDesc} (h:jY P (some d)= .func):∃ a b c,d= .func a b c:=by cases d<;>simp [jY] at h;exact ⟨_,_,_,rfl⟩
theorem XL {d:TypeDesc} (h:jY P (some d)= .iface):∃ e,d= .interface e:=by cases d<;>simp [jY] at h;exact ⟨_,rfl⟩
theorem ZB {a b:LK} (h:aex a b=true):a=b:=by
 cases a<;>cases b<;>simp [aex] at h
 ·rw [gm h]
 ·rfl
 ·rfl
theorem EC:∀ {a b:List LK},Hg a b=true→a=b
 | [],[],_=>rfl
 |_::_,_::_,h=>by simp only [Hg,π] at h;rw [ZB h.1,EC h.2]
 | [],_::_,h=>by simp [Hg] at h
 |_::_,[],h=>by simp [Hg] at h
theorem NQ {k:LK} {a b:AV} {r:Bool} (h:NP k a b=some r) {x y:Value} (c:VR g m S a x) (d:VR g m S b y):sU k x y=some r:=by
 unfold NP at h;split at h
 ·simp only [VR,PR] at c d;subst c;subst d;split at h
  ·rename_i e;cases h;simp [sU,e]
  ·cases h
 ·simp only [VR,PR] at c d;subst c;subst d;simpa [sU] using h
 ·simp only [VR,PR] at c d;subst c;subst d;simpa [sU,xH] using h
 ·cases h
theorem wE:∀ {ks:List LK} {i bs:List AV} {r:Bool} {f e:List Value},kR ks i bs=some r→bi g m S i f→bi g m S bs e→dR ks f e=some r
 | [],[],[],r,f,e,h,ha,hb=>by
  cases f<;>cases e<;>simp [bi] at ha hb
  simpa [kR,dR] using h
 |k::ks,a::i,b::bs,r,x::f,y::e,h,ha,hb=>by
  simp only [kR] at h;obtain ⟨c,j,h⟩:=bind_some h;rw [Xqp] at h;obtain ⟨d,hd,rfl⟩:=h;simp only [bi] at ha hb;simp [dR,NQ j ha.1 hb.1,wE hd ha.2 hb.2]
 | [],_::_,_,_,_,_,h,_,_=>by simp [kR] at h
 | [],[],_::_,_,_,_,h,_,_=>by simp [kR] at h
 |_::_,[],_,_,_,_,h,_,_=>by simp [kR] at h
 |_::_,_::_,[],_,_,_,h,_,_=>by simp [kR] at h
 |_::_,_::_,_::_,_,[],_,_,ha,_=>by simp [bi] at ha
 |_::_,_::_,_::_,_,_::_,[],_,_,hb=>by simp [bi] at hb
theorem yX (c:iY P ap) {t:Nat} {b:TI} (h:ap.tyAt t=some b):b.cmp=YF P t∧b.lks=Hl P 8 t:=by
 have a:=c.ty t b h;unfold XP at a;split at a
 ·split at a
  ·cases a;exact ⟨rfl,rfl⟩
  ·cases a
 ·cases a
theorem kD (c:BinOp) (t:TypeId) (x y:Operand) (a b:Value) (d:¬ (a= .nilIface∧b= .nilIface)) (e:∀ xs ys,¬ (a= .agg xs∧b= .agg ys)):(eqGuard c t x y a b).run P w= .ok () w:=by
 unfold eqGuard;cases c<;>simp only [Sem.run_ite,Sem.run_pure]<;>try (simp;done)
 all_goals
  simp;split
  ·exact absurd ⟨rfl,rfl⟩ d
  ·exact absurd ⟨rfl,rfl⟩ (e _ _)
  ·rfl
def Qm (op:BinOp) (r:Bool):Bool:=match op with| .neq=> !r|_=>r
theorem uZ {t:Nat} {b a:Value} {r:Bool} {x y:Operand} (e:∀ op,(eqGuard op t x y b a).run P w= .ok () w) (h:∀ d,(Op.equalIn (d+1) t b a).run P w= .ok r w)
  (h1:binOp .eql t b a=(do pure (.bool (← Op.equal t b a)))) (h2:binOp .neq t b a=(do pure (.bool (!(← Op.equal t b a))))) {op:BinOp} (hop:op=BinOp.eql∨op=BinOp.neq):
  (do eqGuard op t x y b a;binOp op t b a:Sem Value).run P w= .ok (.bool (Qm op r)) w:=by
 have c:(Op.equal t b a).run P w= .ok r w:=h 9999;rcases hop with rfl|rfl
 ·rw [Sem.run_bind,e,Result.andThen_ok,h1,Sem.run_bind,c];rfl
 ·rw [Sem.run_bind,e,Result.andThen_ok,h2,Sem.run_bind,c];rfl
theorem GZ (v:iY P ap) {t:Nat} {N:TI} (A:ap.tyAt t=some N) {a b:AV} {H C:Value} (s:VR g m S a H) (k:VR g m S b C) {r:Bool} (h:eqA N a b=some r) (O:∀ x ∈ EP a b,x=true) (x y:Operand):
  ∀ f,f=BinOp.eql∨f=BinOp.neq→(do eqGuard f t x y H C;binOp f t H C:Sem Value).run P w= .ok (.bool (Qm f r)) w:=by
 obtain ⟨i,d,z,u⟩:=dX v A;intro f j;unfold eqA at h;split at h
 case h_2 fs xs ys hd=>
  split at h
  ·rename_i c;rw [(yX v A).1] at c;rw [(yX v A).2] at h;simp only [VR] at s k;obtain ⟨vs,rfl,s⟩:=s;obtain ⟨K,rfl,k⟩:=k;have M:=wE h s k;unfold YF at c;cases F:jH P 8 t with
   |none=>simp [F] at c
   |some l=>
    simp only [F,π,Xqo] at c;have J:=EC c.1;rw [← J] at M;have I:=DN 8 t l F 10000 w vs K r (by omega) M;rw [u.d_eq] at hd;obtain ⟨fields,rfl,_⟩:=vO hd;simp only [uO,u.und] at I;have L:=run_eqGuard_agg (P:=P) w f t x y vs.toArray K.toArray c.2;rcases j with rfl|rfl
    ·simp [L,run_eql_struct,I,Qm]
    ·simp [L,run_neq_struct,I,Qm]
  ·cases h
 all_goals try (cases h;done)
 all_goals
  rename_i hd;rw [u.d_eq] at hd
  try simp only [VR,PR] at s k
 all_goals cases h
 case h_1=>
  have hd:=abI hd;subst hd;subst s;subst k
  (refine uZ (fun f=> ?_) (fun B=> ?_) rfl rfl j<;>first|exact kD f t x y _ _ (by simp) (by simp)|exact run_equalIn_bool' (P:=P) w B t _ _ u.und)
 all_goals
  first
   |(obtain ⟨e,rfl⟩:=agd hd)
   |(obtain ⟨e,rfl⟩:=XL hd)
   |(obtain ⟨T,Q,R,rfl⟩:=abJ hd)
   |(have hd:=gZ hd;subst hd)
 case h_16 xs n nn=>
  subst k;obtain ⟨a,E,rfl,G,q⟩:=s;rcases q with ⟨D,rfl,rfl,rfl⟩|⟨b,o,vs,rfl,_⟩
  ·cases a with
   |none=>
    cases D rfl;exact absurd (O _ (by simp [EP];rfl)) (by decide)
   |some p=>(refine uZ (fun f=> ?_) (fun B=> ?_) rfl rfl j<;>first|exact kD f t x y _ _ (by simp) (by simp)|simp [Op.equalIn,run_underlying u.und])
  ·(refine uZ (fun f=> ?_) (fun B=> ?_) rfl rfl j<;>first|exact kD f t x y _ _ (by simp) (by simp)|simp [Op.equalIn,run_underlying u.und])
 case h_17 xs n nn=>
  subst s;obtain ⟨a,E,rfl,G,q⟩:=k;rcases q with ⟨D,rfl,rfl,rfl⟩|⟨b,o,vs,rfl,_⟩
  ·cases a with
   |none=>
    cases D rfl;exact absurd (O _ (by simp [EP];rfl)) (by decide)
   |some p=>(refine uZ (fun f=> ?_) (fun B=> ?_) rfl rfl j<;>first|exact kD f t x y _ _ (by simp) (by simp)|simp [Op.equalIn,run_underlying u.und])
  ·(refine uZ (fun f=> ?_) (fun B=> ?_) rfl rfl j<;>first|exact kD f t x y _ _ (by simp) (by simp)|simp [Op.equalIn,run_underlying u.und])
 all_goals
  try subst s
  try subst k
  try (obtain ⟨_,_,_,⟨_,_,rfl⟩,_⟩:=s)
  try (obtain ⟨_,_,_,⟨_,_,rfl⟩,_⟩:=k)
  try (obtain ⟨_,_,_,⟨_,_,_,rfl⟩,_⟩:=s)
  try (obtain ⟨_,_,_,⟨_,_,_,rfl⟩,_⟩:=k)
  try (obtain ⟨_,_,_,rfl,_⟩:=s)
  try (obtain ⟨_,_,_,rfl,_⟩:=k)
  try (obtain ⟨_,_,rfl,_⟩:=s)
  try (obtain ⟨_,_,rfl,_⟩:=k)
  try (obtain ⟨_,rfl,_⟩:=s)
  try (obtain ⟨_,rfl,_⟩:=k)
  (refine uZ (fun f=> ?_) (fun B=> ?_) rfl rfl j<;>first|exact kD f t x y _ _ (by simp) (by simp)|simp [Op.equalIn,run_underlying u.und])
end
end AM
namespace AM
open Go
section
variable {P:Program} {ap:AP} {g:dG} {m:aZ} {S:aT} {w:World}
theorem Nl (a b:List UInt8):(⟨a.toArray⟩:ByteArray)++⟨b.toArray⟩=⟨(a++b).toArray⟩:=by
 apply ByteArray.ext;rw [ByteArray.data_append];simp
theorem Ny (i:iY P ap) {t:Nat} {z:TI} (j:ap.tyAt t=some z) {a b v:AV} {s l:Value} (e:VR g m S a s) (f:VR g m S b l) {d:BinOp} {ups:List (Nat × bg)} {bs:List Bool}
  (h:adg d z a b=some (v,ups,bs)) (hbs:∀ x ∈ bs,x=true) (x y:Operand):
  ups= []∧∃ cv,(do eqGuard d t x y s l;binOp d t s l:Sem Value).run P w= .ok cv w∧VR g m S v cv:=by
 unfold adg at h;split at h
 ·rename_i k p A q;simp only [VR,PR] at e f;subst e;subst f;have o:(eqGuard d t x y (.int k p) (.int A q)).run P w= .ok () w:=kD d t x y _ _ (by simp) (by simp);rw [Sem.run_bind,o,Result.andThen_ok];split at h
  ·obtain ⟨rfl,rfl,rfl⟩:=aP h;have c:=of_decide_eq_true (hbs _ (List.mem_singleton.2 rfl));exact ⟨rfl,_,by simp [binOp,Op.shift,show ¬ q<0 by omega];rfl,by simp only [VR,PR]⟩
  ·obtain ⟨rfl,rfl,rfl⟩:=aP h;have c:=of_decide_eq_true (hbs _ (List.mem_singleton.2 rfl));exact ⟨rfl,_,by simp [binOp,Op.shift,show ¬ q<0 by omega];rfl,by simp only [VR,PR]⟩
  ·split at h
   ·cases h
   ·rename_i n;have n:=gm n;subst n;split at h
    all_goals try (cases h;done)
    all_goals obtain ⟨rfl,rfl,rfl⟩:=aP h
    case h_4=>
     have c:(q==0)=false:=by simpa using hbs _ (List.mem_singleton.2 rfl)
     have c:¬ q=0:=by simpa using c
     exact ⟨rfl,_,by simp [binOp,Op.intDiv,c];rfl,by simp only [VR,PR]⟩
    case h_5=>
     have c:(q==0)=false:=by simpa using hbs _ (List.mem_singleton.2 rfl)
     have c:¬ q=0:=by simpa using c
     exact ⟨rfl,_,by simp [binOp,Op.intDiv,c];rfl,by simp only [VR,PR]⟩
    all_goals exact ⟨rfl,_,by simp only [binOp,Op.intArith,Op.intBits,Op.intCmp,ne_eq,not_true_eq_false,if_false];rfl,by simp only [VR,PR];first|done|rfl⟩
 ·rename_i p q;simp only [VR,PR] at e f;subst e;subst f;have o:(eqGuard d t x y (.string ⟨p.toArray⟩) (.string ⟨q.toArray⟩)).run P w= .ok () w:=kD d t x y _ _ (by simp) (by simp);rw [Sem.run_bind,o,Result.andThen_ok];split at h
  all_goals try (cases h;done)
  all_goals obtain ⟨rfl,rfl,rfl⟩:=aP h
  case h_1=>
   have c:=gp (hbs _ (List.mem_singleton.2 rfl));have B:¬ (IntKind.i64.max<((p.length+q.length:Nat):Int)):=by
    have:IntKind.i64.max=9223372036854775807:=by decide
    omega
   refine ⟨rfl,.string ⟨(p++q).toArray⟩, ?_,by simp only [VR,PR]⟩;simp only [binOp,Op.stringOp,yU,gt_iff_lt,B,if_false,Nl,Sem.run_pure]
  all_goals
   refine ⟨rfl,_,rfl, ?_⟩;simp only [VR,PR,xH,xW]
 ·split at h
  ·obtain ⟨r,u,h⟩:=bind_some h;obtain ⟨rfl,rfl,rfl⟩:=aP h;exact ⟨rfl,_,GZ i j e f u hbs x y _ (.inl rfl),by simp only [VR,PR];rfl⟩
  ·obtain ⟨r,u,h⟩:=bind_some h;obtain ⟨rfl,rfl,rfl⟩:=aP h;exact ⟨rfl,_,GZ i j e f u hbs x y _ (.inr rfl),by simp only [VR,PR];rfl⟩
  ·cases h
theorem Uc {x v:AV} {c:Value} (a:VR g m S x c) {b:UnOp} {ups:List (Nat × bg)} {bs:List Bool} (h:unA b x=some (v,ups,bs)):
  ups= []∧∃ cv,(Op.unary b c).run P w= .ok cv w∧VR g m S v cv:=by
 unfold unA at h;split at h
 ·obtain ⟨rfl,rfl,rfl⟩:=aP h;simp only [VR,PR] at a;subst a;exact ⟨rfl,_,rfl,by simp only [VR,PR]⟩
 ·obtain ⟨rfl,rfl,rfl⟩:=aP h;simp only [VR,PR] at a;subst a;exact ⟨rfl,_,rfl,by simp only [VR,PR]⟩
 ·cases h
theorem um {f:AV→AV→Option AV} {F:Value→Value→Sem Value} (d:∀ a b c ca cb,VR g m S a ca→VR g m S b cb→f a b=some c→∃ cc,(F ca cb).run P w= .ok cc w∧VR g m S c cc):
  ∀ (l:List AV) (cl:List Value) (x v:AV) (cx:Value),bi g m S l cl→VR g m S x cx→KI f x l=some v→∃ cv,(cl.foldlM F cx).run P w= .ok cv w∧VR g m S v cv
 | [],[],x,v,cx,_,hx,h=>by simp [KI] at h;subst h;exact ⟨cx,by simp,hx⟩
 | y::r,cy::cr,x,v,cx,hl,hx,h=>by
  simp only [bi] at hl;simp only [KI] at h;split at h
  ·rename_i z e;obtain ⟨o,i,n⟩:=d _ _ _ _ _ hx hl.1 e;obtain ⟨cv,j,k⟩:=um d r cr z v o hl.2 n h;exact ⟨cv,by simp [List.foldlM_cons,i,j],k⟩
  ·cases h
 | [],_::_,_,_,_,hl,_,_=>by simp [bi] at hl
 |_::_,[],_,_,_,hl,_,_=>by simp [bi] at hl
theorem Om {a b c:AV} {f d:Value} (e:VR g m S a f) (i:VR g m S b d) (h:min2 a b=some c):∃ cc,(Builtin.min2 f d).run P w= .ok cc w∧VR g m S c cc:=by
 unfold min2 at h;split at h
 ·split at h
  ·cases h;simp only [VR,PR] at e i;subst e;subst i;exact ⟨_,rfl,by simp only [VR,PR]⟩
  ·cases h
 ·cases h
theorem Oi {a b c:AV} {f d:Value} (e:VR g m S a f) (i:VR g m S b d) (h:max2 a b=some c):∃ cc,(Builtin.max2 f d).run P w= .ok cc w∧VR g m S c cc:=by
 unfold max2 at h;split at h
 ·split at h
  ·cases h;simp only [VR,PR] at e i;subst e;subst i;exact ⟨_,rfl,by simp only [VR,PR]⟩
  ·cases h
 ·cases h
theorem SH {l:List AV} {cl:List Value} (a:bi g m S l cl) {v:AV} (h:zK min2 l=some v) (b:Array TypeId) (ty:Nat):∃ cv,(Builtin.min_ b ty cl.toArray).run P w= .ok cv w∧VR g m S v cv:=by
 cases l with
 |nil=>simp [zK] at h
 | cons x r=>cases cl with
  |nil=>simp [bi] at a
  |cons cx cr=>
   simp only [bi] at a;obtain ⟨cv,c,d⟩:=um (P:=P) (w:=w) (F:=Builtin.min2) (fun _ _ _ _ _=>Om) r cr x v cx a.2 a.1 h;exact ⟨cv,by simpa [Builtin.min_] using c,d⟩
theorem SE {l:List AV} {cl:List Value} (a:bi g m S l cl) {v:AV} (h:zK max2 l=some v) (b:Array TypeId) (ty:Nat):∃ cv,(Builtin.max_ b ty cl.toArray).run P w= .ok cv w∧VR g m S v cv:=by
 cases l with
 |nil=>simp [zK] at h
 | cons x r=>cases cl with
  |nil=>simp [bi] at a
  |cons cx cr=>
   simp only [bi] at a;obtain ⟨cv,c,d⟩:=um (P:=P) (w:=w) (F:=Builtin.max2) (fun _ _ _ _ _=>Oi) r cr x v cx a.2 a.1 h;exact ⟨cv,by simpa [Builtin.max_] using c,d⟩
end
end AM
