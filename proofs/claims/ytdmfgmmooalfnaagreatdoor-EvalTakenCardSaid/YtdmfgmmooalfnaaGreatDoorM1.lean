/- The abstract machine over the code of the model, and the proof that it is sound. No conditions. -/
import Derived.WalkKit
import Derived.Deep.AppendSrc
import Derived.Deep.MidRow
import Derived.WalkLawsBesides
set_option linter.unusedSimpArgs false
set_option linter.unusedVariables false
namespace AM
open Go
inductive AV where
 |int (k:IntKind) (n:Int)
 |bool (b:Bool)
 |str (s:List UInt8)
 |agg (l:List AV)
 |tup (l:List AV)
 |nilS
 |sl (xs:List AV) (n:Nat) (nn:Bool)
 |ref (b ver i n:Nat)
 |own (xs:List AV) (n esz:Nat)
 |ptr (b ver off:Nat)
 |pp (xs:List AV) (off:Nat)
 |mr (b ver:Nat)
 |mp (ks vs:List AV)
 |nilP
 |fn (f:Nat) (first cap:List AV)
 |nilF
 |ifc (t:Nat) (v:AV)
 |nilI
 |dead
inductive LK where
 |int (k:IntKind)
 |bool
 |str
 |sl
 |oth
inductive TD where
 |struct (fs:List (Nat × Nat × Nat))
 |array (n elem:Nat)
 |slice (elem:Nat)
 |int (k:IntKind)
 |str
 |bool
 |iface
 |ptr
 |func
 |map (k e:Nat)
 |oth
structure TI where
 d:TD
 size:Nat
 bytes:Nat
 zero:List AV
 lks:List LK
 cmp:Bool
structure AF where
 fn:Func
 keep:List Nat
 shared:Bool
inductive Tr (α:Type) where
 |nil
 |node (v:Option α) (l r:Tr α)
def Tr.get {α:Type}:Tr α→Nat→Option α
 | .nil,_=>none
 | .node v l r,n=>match Nat.beq n 0 with
  |true=>v
  |false=>match Nat.beq (n % 2) 1 with
   |true=>l.get ((n - 1) / 2)
   |false=>r.get ((n - 1) / 2)
structure AP where
 nty:Nat
 ty:Tr TI
 nfn:Nat
 fn:Tr AF
 gl:List (Option (List AV))
def iG:Nat:=4611686018427387904
def aaP:List AV→Option AV
 | [.agg ks,.agg vs]=>some (.mp ks vs)
 |_=>none
structure bi where
 cells:List AV
 ver:Nat
 fro:Bool
 fz:Nat
 esz:Nat
 pr:Bool
abbrev iP:=List (Nat × AV)
abbrev Hp:=List (Nat × bi)
def aA {α:Type}:List (Nat × α)→Nat→Option α
 | [],_=>none
 |(u,x)::r,t=>match Nat.beq u t with|true=>some x|false=>aA r t
def jP {α β:Type} (f:α→Option β):List α→Option (List β)
 | []=>some []
 |x::r=>match f x with
  |some y=>match jP f r with|some l=>some (y::l)|none=>none
  |none=>none
def iP.get (e:iP) (t:Nat):AV:=(aA e t).getD .dead
def AV.cells:AV→List AV
 | .agg l=>l
 |x=> [x]
def AV.toInt:AV→Int| .int _ n=>n|_=>0
def AV.toBool:AV→Bool| .bool b=>b|_=>false
def AV.toStr:AV→List UInt8| .str s=>s|_=> []
def AV.slX:AV→List AV| .sl xs _ _=>xs|_=> []
def AV.slN:AV→Nat| .sl _ n _=>n|_=>0
def WQ:IntKind→Nat
 | .i8=>0| .i16=>1| .i32=>2| .i64=>3| .u8=>4| .u16=>5| .u32=>6| .u64=>7
def iH (a b:IntKind):Bool:=Nat.beq (WQ a) (WQ b)
def chk:LK→AV→Bool
 | .int k,.int k' _=>iH k k'
 | .bool,.bool _=>true
 | .str,.str _=>true
 | .sl,.sl _ _ _=>true
 | .sl,.nilS=>true
 | .oth,.dead=>false
 | .oth,.agg _=>false
 | .oth,.tup _=>false
 | .oth,.own _ _ _=>false
 | .oth,_=>true
 |_,_=>false
def eta:LK→AV→AV
 | .int k,c=> .int k c.toInt
 | .bool,c=> .bool c.toBool
 | .str,c=> .str c.toStr
 | .sl,c=> .sl c.slX c.slN false
 | .oth,c=>c
def oH:AV→Bool
 | .dead| .agg _| .tup _| .own _ _ _=>false
 |_=>true
mutual
def dO:AV→List Nat
 | .ref b _ _ _=> [b]
 | .ptr b _ _=> [b]
 | .mr b _=> [b]
 | .agg l=>bT l
 | .tup l=>bT l
 | .fn _ f c=>bT f++bT c
 | .ifc _ v=>dO v
 |_=> []
def bT:List AV→List Nat
 | []=> []
 |x::r=>dO x++bT r
end
mutual
def ren (ρ:Nat→Nat→Option (Nat × Nat)):AV→AV
 | .ref b v i n=>match ρ b v with|some (b',v')=> .ref b' v' i n|none=> .dead
 | .ptr b v o=>match ρ b v with|some (b',v')=> .ptr b' v' o|none=> .dead
 | .mr b v=>match ρ b v with|some (b',v')=> .mr b' v'|none=> .dead
 | .agg l=> .agg (mP ρ l)
 | .tup l=> .tup (mP ρ l)
 | .fn f a c=> .fn f (mP ρ a) (mP ρ c)
 | .ifc t v=> .ifc t (ren ρ v)
 |x=>x
def mP (ρ:Nat→Nat→Option (Nat × Nat)):List AV→List AV
 | []=> []
 |x::r=>ren ρ x::mP ρ r
end
def JA:Value→AV
 | .int k n=> .int k n
 | .bool b=> .bool b
 | .string s=> .str s.data.toList
 | .pointer a=>match a with|none=> .nilP|some _=> .dead
 | .slice a n c=>match a,n,c with|none,0,0=> .nilS|_,_,_=> .dead
 | .nilFunc=> .nilF
 | .nilIface=> .nilI
 | .map a=>match a with|none=> .mp [] []|some _=> .dead
 |_=> .dead
def E_:Value→AV
 | .agg cs=> .agg (cs.toList.map JA)
 | .tuple vs=>match vs.toList with| []=> .tup []|_=> .dead
 |v=>JA v
def AP.tyAt (ap:AP) (t:Nat):Option TI:=match Nat.blt t ap.nty with|true=>ap.ty.get t|false=>none
def AP.fnAt (ap:AP) (f:Nat):Option AF:=match Nat.blt f ap.nfn with|true=>ap.fn.get f|false=>none
def rE (l:List Nat) (a:Nat):Bool:=l.any (Nat.beq a)
def iO (l:List Nat):List Nat:=l.foldl (fun acc b=>if rE acc b then acc else acc++ [b]) []
abbrev II:=Option (AV × List (Nat × bi) × List Bool)
def bC (v:AV) (bs:List Bool:= []):II:=some (v,[],bs)
def MF (ty:Bool):List LK→List AV→List AV
 | [],_=> []
 |k::ks,ys=>(match ty with|true=>eta k (ys.headD .dead)|false=>ys.headD .dead)::MF ty ks ys.tail
def Vs (ty:Bool):List LK→List AV→List Bool
 | [],_=> []
 |k::ks,ys=>(match ty with|true=>chk k (ys.headD .dead)|false=>chk .oth (ys.headD .dead))::Vs ty ks ys.tail
def vk (ty:Bool) (ks:List LK) (xs:List AV) (off:Nat):List AV:=MF ty ks (xs.drop off)
def IX (ty:Bool) (ks:List LK) (xs:List AV) (off:Nat):List Bool:=Vs ty ks (xs.drop off)
def Jl:TD→Bool
 | .struct _=>true
 | .array _ _=>true
 |_=>false
def rG (ti:TI) (cs:List AV):Option AV:=
 match Jl ti.d with
 |true=>some (.agg cs)
 |false=>match cs with| [c]=>some c|_=>none
def LH (ti:TI) (rd:Nat→Option bi) (p:AV):II:=
 match p with
 | .pp xs off=>(rG ti (vk true ti.lks xs off)).bind fun v=>bC v (IX true ti.lks xs off)
 | .ptr b ver off=>(rd b).bind fun B=>match Nat.beq B.ver ver && !(Nat.beq B.esz iG) with
  |true=>(rG ti (vk (Nat.blt 0 B.esz && B.pr) ti.lks B.cells off)).bind fun v=>bC v (IX (Nat.blt 0 B.esz && B.pr) ti.lks B.cells off)
  |false=>none
 |_=>none
def iI (xs:List AV) (off:Nat) (vs:List AV):List AV:=xs.take off++vs++xs.drop (off+vs.length)
def Px (ti:TI) (rd:Nat→Option bi) (p v:AV):II:=
 match p with
 | .ptr b ver off=>(rd b).bind fun B=>
  let vs:=v.cells
  let rs:=bT vs
  match Nat.beq B.ver ver && !B.fro && Nat.beq vs.length ti.size && vs.all oH && !(Nat.beq B.esz iG) with
  |true=>some (.dead,[(b,{B with cells:=iI B.cells off vs,pr:=B.pr && rs.isEmpty})],[Nat.ble (off+vs.length) B.cells.length])
  |false=>none
 |_=>none
def iY (nid:Nat) (cells:List AV) (esz:Nat):Nat × bi:=(nid,{cells,ver:=0,fro:=false,fz:=0,esz,pr:=(bT cells).isEmpty})
def wV (cells:List AV):List (Nat × Nat × AV)→Option (List AV)
 | []=>some cells
 |(off,size,v)::r=>match Nat.beq v.cells.length size && Nat.ble (off+size) cells.length && v.cells.all oH with
  |true=>wV (iI cells off v.cells) r
  |false=>none
def NS (ap:AP) (ti:TI) (parts:List (Nat × AV)):II:=
 match ti.d with
 | .struct fs=>(jP (fun (q:Nat × AV)=>(fs[q.1]?).map fun (x:Nat × Nat × Nat)=>(x.1,x.2.2,q.2)) parts).bind fun ps=>(wV ti.zero ps).bind fun cs=>bC (.agg cs)
 | .array _ e=>(ap.tyAt e).bind fun te=>(wV ti.zero (parts.map fun (i,v)=>(i*te.size,te.size,v))).bind fun cs=>bC (.agg cs)
 |_=>none
def gu (n:Nat) (z:List AV):List AV:=(List.replicate n z).flatten
def ut (ap:AP) (nid:Nat) (ti:TI) (len:Nat) (parts:List (Nat × AV)):II:=
 match ti.d with
 | .slice e=>(ap.tyAt e).bind fun te=>
  match Nat.blt 0 te.size && Nat.ble (len*te.size) (2^24) && Nat.beq te.zero.length te.size with
  |true=>(wV (gu len te.zero) (parts.map fun (i,v)=>(i*te.size,te.size,v))).bind fun cs=>
   some (.ref nid 0 0 len,[iY nid cs te.size],[])
  |false=>none
 |_=>none
def Xy (p:AV) (o:Nat):Option AV:=
 match p with
 | .ptr b v off=>some (.ptr b v (off+o))
 | .pp xs off=>some (.pp xs (off+o))
 |_=>none
def QA (v:AV):Option Int:=match v with| .int _ n=>some n|_=>none
def xC (ap:AP) (ti:TI) (rd:Nat→Option bi) (x i:AV):II:=
 (QA i).bind fun i=>
 match ti.d with
 | .slice e=>(ap.tyAt e).bind fun te=>
  match x with
  | .sl xs n _=>bC (.pp xs (i.toNat*te.size)) [decide (0≤i),decide (i<n)]
  | .ref b ver j n=>(rd b).bind fun B=>match Nat.beq B.ver ver && Nat.beq B.esz te.size with
   |true=>bC (.ptr b ver ((j+i.toNat)*te.size)) [decide (0≤i),decide (i<n)]
   |false=>none
  |_=>none
 | .array n e=>(ap.tyAt e).bind fun te=>(Xy x (i.toNat*te.size)).bind fun p=>bC p [decide (0≤i),decide (i<n)]
 |_=>none
def OA (ap:AP) (ti:TI) (x i:AV):II:=
 (QA i).bind fun i=>
 match ti.d,x with
 | .str,.str s=>bC (.int .u8 (s.getD i.toNat 0).toNat) [decide (0≤i),decide (i<s.length)]
 | .array n e,.agg cs=>(ap.tyAt e).bind fun te=>
  (rG te (vk true te.lks cs (i.toNat*te.size))).bind fun v=>bC v (decide (0≤i)::decide (i<n)::IX true te.lks cs (i.toNat*te.size))
 |_,_=>none
def oN (v:Option AV) (d:Int):Option Int:=match v with|none=>some d|some (.int _ n)=>some n|some _=>none
def Pn (ap:AP) (ti:TI) (rd:Nat→Option bi) (x:AV) (lo hi mx:Option AV):II:=
 match ti.d,x,mx with
 | .str,.str s,none=>(oN lo 0).bind fun l=>(oN hi s.length).bind fun h=>
   bC (.str ((s.take h.toNat).drop l.toNat)) [decide (0≤l),decide (l≤h),decide (h≤s.length)]
 | .slice e,.sl xs n nn,none=>(ap.tyAt e).bind fun te=>(oN lo 0).bind fun l=>(oN hi n).bind fun h=>
   bC (.sl ((xs.take (h.toNat*te.size)).drop (l.toNat*te.size)) (h.toNat - l.toNat) nn) [decide (0≤l),decide (l≤h),decide (h≤n)]
 | .slice e,.ref b ver j n,none=>(ap.tyAt e).bind fun te=>(rd b).bind fun B=>(oN lo 0).bind fun l=>(oN hi n).bind fun h=>
   match Nat.beq B.ver ver && Nat.beq B.esz te.size with
   |true=>bC (.ref b ver (j+l.toNat) (h.toNat - l.toNat)) [decide (0≤l),decide (l≤h),decide (h≤n)]
   |false=>none
 | .slice e,.nilS,none=>(ap.tyAt e).bind fun _=>(oN lo 0).bind fun l=>(oN hi 0).bind fun h=>bC .nilS [decide (l=0),decide (h=0)]
 |_,_,_=>none
def WU (d:TD) (x:AV):II:=
 match d,x with
 | .array n _,_=>bC (.int .i64 n)
 | .str,.str s=>bC (.int .i64 s.length)
 | .slice _,.sl _ n _=>bC (.int .i64 n)
 | .slice _,.ref _ _ _ n=>bC (.int .i64 n)
 | .slice _,.nilS=>bC (.int .i64 0)
 |_,_=>none
def MZ (size:Nat) (rd:Nat→Option bi) (x:AV):Option (List AV × Nat × Bool):=
 match x with
 | .sl xs n _=>some (xs,n,true)
 | .nilS=>some ([],0,true)
 | .str s=>some (s.map fun b=> .int .u8 b.toNat,s.length,true)
 | .ref b ver j n=>(rd b).bind fun B=>match Nat.beq B.ver ver && Nat.beq B.esz size && !(Nat.beq B.esz iG) with
  |true=>some ((B.cells.drop (j*size)).take (n*size),n,B.pr)
  |false=>none
 |_=>none
def Ir:Nat:=2^40
def yj (nid:Nat) (te:TI) (rd:Nat→Option bi) (em:Bool) (s x:AV):II:=
 (MZ te.size rd x).bind fun (xs,n,pr)=>
 match Nat.blt 0 te.size && Nat.ble te.bytes 128 with
 |false=>none
 |true=>
 match s with
 | .nilS=>match em with
  |true=>bC .nilS [Nat.beq xs.length (n*te.size)]
  |false=>some (.ref nid 0 0 n,[(nid,⟨xs,0,false,0,te.size,pr⟩)],[Nat.beq xs.length (n*te.size),Nat.ble n Ir])
 | .ref b ver 0 m=>(rd b).bind fun B=>match Nat.beq B.ver ver && Nat.beq B.esz te.size && !(Nat.beq B.esz iG) with
  | true=>some (.ref b (ver+1) 0 (m+n),[(b,{B with cells:=B.cells.take (m*te.size)++xs,ver:=ver+1,pr:=B.pr && pr})],
    [Nat.beq xs.length (n*te.size),Nat.ble (m+n) Ir,Nat.ble (m*te.size) B.cells.length, !B.fro||Nat.ble B.fz (m*te.size)])
  |false=>none
 |_=>none
def xu:AV→Option Nat
 | .sl _ n _=>some n
 | .nilS=>some 0
 | .str s=>some s.length
 | .ref _ _ _ n=>some n
 |_=>none
def yK (ρ:Operand→AV) (o:Op):Option Nat:=
 match o with
 | .call {callee:= .builtin .append,args,..}=>match args.toList with
  | [s,x]=>match ρ s with
   | .nilS=>xu (ρ x)
   |_=>none
  |_=>none
 |_=>none
def xG (ap:AP) (nid:Nat) (ti:TI) (l c:AV):II:=
 match ti.d,l,c with
 | .slice e,.int _ l,.int _ c=>(ap.tyAt e).bind fun te=>
  match Nat.blt 0 te.size && Nat.beq te.zero.length te.size && Nat.ble te.bytes 128 && (bT te.zero).isEmpty with
  |true=>some (.ref nid 0 0 l.toNat,[(nid,⟨gu l.toNat te.zero,0,false,0,te.size,true⟩)],[decide (0≤l),decide (l=c),decide (l≤2^40)])
  |false=>none
 |_,_,_=>none
def D9 (ap:AP) (ts td:TI) (rd:Nat→Option bi) (x:AV):II:=
 match ts.d,td.d,x with
 |_,.int k,.int _ n=>bC (.int k (k.wrap n))
 | .str,.str,.str s=>bC (.str s)
 | .slice e,.str,x=>(ap.tyAt e).bind fun te=>match te.d,x with
  | .int .u8,.str _=>none
  | .int .u8,x=>(MZ 1 rd x).bind fun (xs,n,_)=>bC (.str (xs.map fun c=>UInt8.ofNat c.toInt.toNat)) [Nat.beq xs.length n,xs.all (chk (.int .u8))]
  |_,_=>none
 |_,_,_=>none
def Oc:LK→AV→AV→Option Bool
 | .int k,.int k1 a,.int k2 b=>match iH k k1 && iH k k2 with|true=>some (a==b)|false=>none
 | .bool,.bool a,.bool b=>some (a==b)
 | .str,.str a,.str b=>some (a==b)
 |_,_,_=>none
def kH:List LK→List AV→List AV→Option Bool
 | [],[],[]=>some true
 |k::ks,a::as,b::bs=>(Oc k a b).bind fun c=>(kH ks as bs).map fun d=>c && d
 |_,_,_=>none
def eqA (ti:TI) (a b:AV):Option Bool:=
 match ti.d,a,b with
 | .bool,.bool a,.bool b=>some (a==b)
 | .struct _,.agg xs,.agg ys=>match ti.cmp with|true=>kH ti.lks xs ys|false=>none
 | .ptr,.nilP,.nilP=>some true
 | .ptr,.nilP,.ptr _ _ _=>some false
 | .ptr,.nilP,.pp _ _=>some false
 | .ptr,.ptr _ _ _,.nilP=>some false
 | .ptr,.pp _ _,.nilP=>some false
 | .iface,.nilI,.ifc _ _=>some false
 | .iface,.ifc _ _,.nilI=>some false
 | .func,.nilF,.nilF=>some true
 | .func,.nilF,.fn _ _ _=>some false
 | .func,.fn _ _ _,.nilF=>some false
 | .slice _,.nilS,.nilS=>some true
 | .slice _,.ref _ _ _ _,.nilS=>some false
 | .slice _,.nilS,.ref _ _ _ _=>some false
 | .slice _,.sl _ _ _,.nilS=>some false
 | .slice _,.nilS,.sl _ _ _=>some false
 |_,_,_=>none
def E5 (a b:AV):List Bool:=
 match a,b with
 | .sl _ n false,.nilS=> [Nat.blt 0 n]
 | .nilS,.sl _ n false=> [Nat.blt 0 n]
 |_,_=> []
def ig:List UInt8→List UInt8→Bool
 |_,[]=>false
 | [],_::_=>true
 |a::x,b::y=>decide (a<b)||(a==b && ig x y)
def aeh (op:BinOp) (ti:TI) (x y:AV):II:=
 match x,y with
 | .int k a,.int k' b=>
  match op with
  | .shl=>bC (.int k (k.wrap (a*2^(min b.toNat k.bits)))) [decide (0≤b)]
  | .shr=>bC (.int k (a.fdiv (2^(min b.toNat k.bits)))) [decide (0≤b)]
  | _=>match iH k k' with
   |false=>none
   |true=>match op with
    | .add=>bC (.int k (k.wrap (a+b)))
    | .sub=>bC (.int k (k.wrap (a - b)))
    | .mul=>bC (.int k (k.wrap (a*b)))
    | .quo=>bC (.int k (k.wrap (a.tdiv b))) [!(b==0)]
    | .rem=>bC (.int k (a.tmod b)) [!(b==0)]
    | .and=>bC (.int k (k.wrap (BitVec.ofInt k.bits a &&& BitVec.ofInt k.bits b).toNat))
    | .or=>bC (.int k (k.wrap (BitVec.ofInt k.bits a|||BitVec.ofInt k.bits b).toNat))
    | .xor=>bC (.int k (k.wrap (BitVec.ofInt k.bits a^^^BitVec.ofInt k.bits b).toNat))
    | .eql=>bC (.bool (a==b))
    | .neq=>bC (.bool (!(a==b)))
    | .lss=>bC (.bool (decide (a<b)))
    | .leq=>bC (.bool (decide (a≤b)))
    | .gtr=>bC (.bool (decide (b<a)))
    | .geq=>bC (.bool (decide (b≤a)))
    |_=>none
 | .str a,.str b=>
  match op with
  | .add=>bC (.str (a++b)) [Nat.ble (a.length+b.length) 9223372036854775807]
  | .eql=>bC (.bool (a==b))
  | .neq=>bC (.bool (!(a==b)))
  | .lss=>bC (.bool (ig a b))
  | .leq=>bC (.bool (ig a b||a==b))
  | .gtr=>bC (.bool (!(ig a b||a==b)))
  | .geq=>bC (.bool (!ig a b))
  |_=>none
 |x,y=>
  match op with
  | .eql=>(eqA ti x y).bind fun b=>bC (.bool b) (E5 x y)
  | .neq=>(eqA ti x y).bind fun b=>bC (.bool (!b)) (E5 x y)
  |_=>none
def unA (op:UnOp) (x:AV):II:=
 match op,x with
 | .not,.bool b=>bC (.bool (!b))
 | .neg,.int k n=>bC (.int k (k.wrap (0 - n)))
 |_,_=>none
def min2 (a b:AV):Option AV:=match a,b with| .int k x,.int k' y=>(match iH k k' with|true=>some (.int k (if y<x then y else x))|false=>none)|_,_=>none
def max2 (a b:AV):Option AV:=match a,b with| .int k x,.int k' y=>(match iH k k' with|true=>some (.int k (if y>x then y else x))|false=>none)|_,_=>none
def Lj (f:AV→AV→Option AV):AV→List AV→Option AV
 |x,[]=>some x
 |x,y::r=>match f x y with|some z=>Lj f z r|none=>none
def Ad (f:AV→AV→Option AV):List AV→Option AV
 | []=>none
 |x::r=>Lj f x r
def IQ (ap:AP) (x:AV) (asserted:Nat) (commaOk:Bool):II:=
 (ap.tyAt asserted).bind fun ti=>
 match ti.d with
 | .iface=>none
 | _=>match x with
  | .ifc t v=>match Nat.beq t asserted with
   |true=>bC (match commaOk with|true=> .tup [v,.bool true]|false=>v)
   |false=>match commaOk with|true=>(rG ti ti.zero).bind fun z=>bC (.tup [z,.bool false])|false=>none
  | .nilI=>match commaOk with|true=>(rG ti ti.zero).bind fun z=>bC (.tup [z,.bool false])|false=>none
  |_=>none
def Ov (ap:AP) (ti:TI) (x:AV) (f:Nat):II:=
 match ti.d,x with
 | .struct fs,.agg cs=>(fs[f]?).bind fun (o,t,_)=>(ap.tyAt t).bind fun tf=>
  (rG tf (vk false tf.lks cs o)).bind fun v=>bC v (IX false tf.lks cs o)
 |_,_=>none
def yt:AV→List Nat
 | .ref b _ _ _=> [b]
 | .ptr b _ _=> [b]
 | .mr b _=> [b]
 |_=> []
def XP (ρ:Operand→AV):Op→List Nat
 | .load _ a=>yt (ρ a)
 | .store _ a _=>yt (ρ a)
 | .indexAddr _ x _=>yt (ρ x)
 | .slice _ x _ _ _=>yt (ρ x)
 | .convert _ _ x=>yt (ρ x)
 | .lookup _ x _ _=>yt (ρ x)
 | .mapUpdate _ x _ _=>yt (ρ x)
 | .insert _ x _ _=>yt (ρ x)
 | .call {callee:= .builtin .append,args,..}=>iO (args.toList.flatMap fun x=>yt (ρ x))
 |_=> []
def H7:LK→AV→Bool
 | .int k,.int k' _=>iH k k'
 | .bool,.bool _=>true
 | .str,.str _=>true
 |_,_=>false
def mX:List LK→List AV→Bool
 | [],[]=>true
 |k::r,x::l=>H7 k x && mX r l
 |_,_=>false
def kL (ti:TI) (x:AV):Bool:=match ti.d,x with
 | .int k,.int k' _=>iH k k'
 | .bool,.bool _=>true
 | .str,.str _=>true
 | .struct _,.agg l=>ti.cmp && mX ti.lks l
 |_,_=>false
def Eg:AV→AV→Bool
 | .int _ a,.int _ b=>a==b
 | .bool a,.bool b=>a==b
 | .str a,.str b=>a==b
 |_,_=>false
def Ja:List AV→List AV→Bool
 | [],[]=>true
 |a::r,b::q=>Eg a b && Ja r q
 |_,_=>false
def xA:AV→AV→Bool
 | .int _ a,.int _ b=>a==b
 | .bool a,.bool b=>a==b
 | .str a,.str b=>a==b
 | .agg a,.agg b=>Ja a b
 |_,_=>false
def dP:List AV→List AV→AV→Option AV
 |k0::ks,v0::vs,k=>match xA k k0 with|true=>some v0|false=>dP ks vs k
 |_,_,_=>none
def xJ (ks:List AV) (k:AV):List AV:=match ks.any (xA k) with|true=>ks|false=>ks++ [k]
def pI:List AV→List AV→AV→AV→List AV
 |k0::ks,v0::vs,k,v=>match xA k k0 with|true=>v::vs|false=>v0::pI ks vs k v
 |_,_,_,v=> [v]
def Xd (rd:Nat→Option bi) (x:AV):Option (List AV × List AV):=
 match x with
 | .mp ks vs=>some (ks,vs)
 | .mr b ver=>(rd b).bind fun B=>match Nat.beq B.ver ver && Nat.beq B.esz iG with
  |true=>match B.cells with| [.agg ks,.agg vs]=>some (ks,vs)|_=>none
  |false=>none
 |_=>none
def QJ (ok:Bool) (o:Option AV) (z:AV):AV:=match ok with|true=> .tup [o.getD z,.bool o.isSome]|false=>o.getD z
def Jo (ap:AP) (ti:TI) (rd:Nat→Option bi) (x k:AV) (ok:Bool):II:=
 match ti.d with
 | .map kt et=>(ap.tyAt kt).bind fun tk=>(ap.tyAt et).bind fun te=>(Xd rd x).bind fun q=>(rG te te.zero).bind fun z=>
   bC (QJ ok (dP q.1 q.2 k) z) [kL tk k,q.1.all (kL tk)]
 |_=>none
def Dy (ap:AP) (ti:TI) (rd:Nat→Option bi) (x k v:AV):II:=
 match ti.d,x with
 | .map kt _,.mr b ver=>(ap.tyAt kt).bind fun tk=>(rd b).bind fun B=>match Nat.beq B.ver ver && Nat.beq B.esz iG && !B.fro with
  |true=>match B.cells with
   | [.agg ks,.agg vs]=>some (.dead,[(b,{B with cells:= [.agg (xJ ks k),.agg (pI ks vs k v)],pr:=B.pr && (dO v).isEmpty})],[kL tk k,ks.all (kL tk)])
   |_=>none
  |false=>none
 |_,_=>none
def opA (ap:AP) (nid:Nat) (ρ:Operand→AV) (rd:Nat→Option bi) (dec:Operand→Option Bool) (em:Bool) (o:Op):II:=
 match o with
 | .move x=>bC (ρ x)
 | .assign x=>bC (ρ x)
 | .pick c a b=>match dec c with
  |some true=>bC (ρ a)
  |some false=>bC (ρ b)
  |none=>match ρ c,ρ a,ρ b with| .bool c,.bool x,.bool y=>bC (.bool (cond c x y))|_,_,_=>none
 | .alloc e=>(ap.tyAt e).bind fun te=>match Nat.blt 0 te.size && te.zero.all oH with|true=>some (.ptr nid 0 0,[iY nid te.zero 0],[])|false=>none
 | .box e x=>(ap.tyAt e).bind fun te=>let vs:=(ρ x).cells
  match Nat.blt 0 te.size && vs.all oH with|true=>some (.ptr nid 0 0,[iY nid vs 0],[])|false=>none
 | .build t parts=>(ap.tyAt t).bind fun ti=>NS ap ti (parts.toList.map fun (i,x)=>(i,ρ x))
 | .buildSlice t len parts=>(ap.tyAt t).bind fun ti=>ut ap nid ti len (parts.toList.map fun (i,x)=>(i,ρ x))
 | .load t a=>(ap.tyAt t).bind fun ti=>LH ti rd (ρ a)
 | .store t a x=>(ap.tyAt t).bind fun ti=>Px ti rd (ρ a) (ρ x)
 | .makeMap _ r=>match r with|none=>some (.mr nid 0,[(nid,⟨[.agg [],.agg []],0,false,0,iG,true⟩)],[])|some _=>none
 | .lookup t x k ok=>(ap.tyAt t).bind fun ti=>Jo ap ti rd (ρ x) (ρ k) ok
 | .mapUpdate t x k v=>(ap.tyAt t).bind fun ti=>Dy ap ti rd (ρ x) (ρ k) (ρ v)
 | .insert t x k v=>(ap.tyAt t).bind fun ti=>Dy ap ti rd (ρ x) (ρ k) (ρ v)
 | .nilCheck x=>match ρ x with
  | .ptr b v o=>bC (.ptr b v o)
  | .pp xs o=>bC (.pp xs o)
  | .fn f a c=>bC (.fn f a c)
  |_=>none
 | .binOp op t x y _=>(ap.tyAt t).bind fun ti=>aeh op ti (ρ x) (ρ y)
 | .unOp op _ x=>unA op (ρ x)
 | .convert s d x=>(ap.tyAt s).bind fun ts=>(ap.tyAt d).bind fun td=>D9 ap ts td rd (ρ x)
 | .makeInterface t x=>(ap.tyAt t).bind fun ti=>match ti.d with| .iface=>none|_=>bC (.ifc t (ρ x))
 | .makeFunc (.func f) first cap=>bC (.fn f (first.toList.map ρ) (cap.toList.map ρ))
 | .makeSlice t l c=>(ap.tyAt t).bind fun ti=>xG ap nid ti (ρ l) (ρ c)
 | .slice t x lo hi mx=>(ap.tyAt t).bind fun ti=>Pn ap ti rd (ρ x) (lo.map ρ) (hi.map ρ) (mx.map ρ)
 | .fieldAddr s x f=>(ap.tyAt s).bind fun ti=>match ti.d with
  | .struct fs=>(fs[f]?).bind fun (o,_,sz)=>match Nat.blt 0 sz with|true=>(Xy (ρ x) o).bind fun p=>bC p|false=>none
  |_=>none
 | .field t x f=>(ap.tyAt t).bind fun ti=>Ov ap ti (ρ x) f
 | .indexAddr t x i=>(ap.tyAt t).bind fun ti=>xC ap ti rd (ρ x) (ρ i)
 | .index t x i=>(ap.tyAt t).bind fun ti=>OA ap ti (ρ x) (ρ i)
 | .typeAssert x _ asserted ok=>IQ ap (ρ x) asserted ok
 | .extract t i=>match ρ t with| .tup l=>(l[i]?).bind fun v=>bC v|_=>none
 | .call {callee:= .builtin b,args,argTypes}=>
  match b with
  | .len=>(args[0]?).bind fun x=>(argTypes[0]?).bind fun t=>(ap.tyAt t).bind fun ti=>WU ti.d (ρ x)
  | .append=>match args.toList,argTypes.toList with
   | [s,x],[t,t1]=>(ap.tyAt t).bind fun ti=>(ap.tyAt t1).bind fun ti1=>match ti.d,ti1.d,ρ x with
    | .slice e,.str,.str y=>(ap.tyAt e).bind fun te=>match Nat.beq te.size 1 with|true=>yj nid te rd em (ρ s) (.str y)|false=>none
    | .slice _,.slice _,.str _=>none
    | .slice e,.slice _,y=>(ap.tyAt e).bind fun te=>yj nid te rd em (ρ s) y
    |_,_,_=>none
   |_,_=>none
  | .min=>(Ad min2 (args.toList.map ρ)).bind fun v=>bC v
  | .max=>(Ad max2 (args.toList.map ρ)).bind fun v=>bC v
  |_=>none
 |_=>none
def H_ (P:Program):Nat→TypeId→List LK
 |0,_=> [.oth]
 |n+1,t=>match P.underlying t with
  |some (.int k)=> [.int k]
  |some .bool=> [.bool]
  |some .string=> [.str]
  |some (.slice _)=> [.sl]
  |some (.struct fs)=>fs.toList.flatMap fun f=>H_ P n f.type
  |some (.array m e)=>(List.replicate m (H_ P n e)).flatten
  |_=> [.oth]
def jR (P:Program):Option TypeDesc→TD
 |some (.int k)=> .int k
 |some .bool=> .bool
 |some .string=> .str
 |some (.slice e)=> .slice e
 |some (.array n e)=> .array n e
 |some (.struct fs)=> .struct (fs.toList.map fun f=>(f.offset,f.type,match P.info? f.type with|some i=>i.size|none=>0))
 |some (.interface _)=> .iface
 |some (.pointer _)=> .ptr
 |some (.func _ _ _)=> .func
 |some (.map k e)=> .map k e
 |_=> .oth
def yB (P:Program) (f:TypeId→Option (List LK)):List Field→Nat→Option (List LK)
 | [],_=>some []
 | x::r,off=>match f x.type with
  |some l=>match !(x.name== "_") && Nat.beq x.offset off && (match P.info? x.type with|some i=>Nat.beq i.size l.length|none=>false) with
   |true=>match yB P f r (off+l.length) with|some l'=>some (l++l')|none=>none
   |false=>none
  |none=>none
def jy (P:Program):Nat→TypeId→Option (List LK)
 |0,_=>none
 |n+1,t=>match P.underlying t with
  |some (.int k)=>some [.int k]
  |some .bool=>some [.bool]
  |some .string=>some [.str]
  |some (.struct fs)=>match P.stoodInHeld t with|true=>none|false=>yB P (jy P n) fs.toList 0
  |_=>none
def ag9 (i:TypeInfo) (d:TypeDesc):Bool:=match i.zero,d with
 |some (.agg _),.struct _=>true
 |some (.agg _),.array _ _=>true
 |some (.agg _),_=>false
 |some _,.struct _=>false
 |some _,.array _ _=>false
 |some _,_=>true
 |none,_=>false
def Wx (P:Program) (d:TypeDesc):Bool:=match d with
 | .struct fs=>fs.toList.all fun f=>(P.info? f.type).isSome
 |_=>true
def F_ (i:TypeInfo):List AV:=match i.zero with|some z=>z.cells.toList.map E_|none=> []
def afF:LK→LK→Bool
 | .int a,.int b=>iH a b
 | .bool,.bool=>true
 | .str,.str=>true
 |_,_=>false
def H9:List LK→List LK→Bool
 | [],[]=>true
 |a::r,b::q=>afF a b && H9 r q
 |_,_=>false
def Zk (P:Program) (t:TypeId):Bool:=match jy P 8 t with|some l=>H9 l (H_ P 8 t) && !P.eqGuardType P.depth t|none=>false
def Yx (P:Program) (t:TypeId):Option TI:=
 match P.info? t,P.underlying t with
 |some i,some d=>
  match Nat.beq (H_ P 8 t).length i.size && (ag9 i d && Wx P d) && (F_ i).all oH && Nat.beq (F_ i).length i.size && Nat.blt 0 i.size && i.zero.isSome && Nat.blt i.size iG with
  |true=>some {d:=jR P (some d),size:=i.size,bytes:=i.bytes,zero:=F_ i,lks:=H_ P 8 t,cmp:=Zk P t}
  |false=>none
 |_,_=>none
abbrev aU:=Nat→Nat→Option Value
def oW (S S':aU):Prop:=∀ k o v,S k o=some v→S' k o=some v
theorem oW.refl (S:aU):oW S S:=fun _ _ _ h=>h
theorem oW.trans {S S' S'':aU} (h:oW S S') (a:oW S' S''):oW S S'':=fun k o v e=>a k o v (h k o v e)
def kE (S:aU) (b o:Nat) (vs:List Value):Prop:=∀ j u,vs[j]? =some u→S b (o+j)=some u∧u.oneCell'=true
mutual
def PR (S:aU):AV→Value→Prop
 | .int k n,v=>v= .int k n
 | .bool b,v=>v= .bool b
 | .str s,v=>v= .string ⟨s.toArray⟩
 | .agg l,v=> ∃ vs,v= .agg vs.toArray∧dV S l vs
 | .tup l,v=> ∃ vs,v= .tuple vs.toArray∧dV S l vs
 | .nilS,v=>v= .slice none 0 0
 | .sl xs n nn,v=> ∃ a cap,v= .slice a n cap∧n≤cap∧(((a=none→nn=false)∧xs= []∧n=0∧cap=0)∨∃ b o vs,a=some ⟨b,o,none⟩∧dV S xs vs∧kE S b o vs)
 | .pp xs off,v=> ∃ b o vs,v= .pointer (some ⟨b,o+off,none⟩)∧dV S xs vs∧kE S b o vs
 | .mp ks vs,v=>(v= .map none∧ks= []∧vs= [])∨∃ b kk vv,v= .map (some b)∧S b 0=some (.agg kk.toArray)∧S b 1=some (.agg vv.toArray)∧dV S ks kk∧dV S vs vv
 | .nilP,v=>v= .pointer none
 | .fn f a c,v=> ∃ va vc,v= .func (.func f) va.toArray vc.toArray∧dV S a va∧dV S c vc
 | .nilF,v=>v= .nilFunc
 | .ifc t x,v=> ∃ u,v= .iface t u∧PR S x u
 | .nilI,v=>v= .nilIface
 | .dead,_=>True
 | .ref _ _ _ _,_=>False
 | .ptr _ _ _,_=>False
 | .mr _ _,_=>False
 | .own _ _ _,_=>False
def dV (S:aU):List AV→List Value→Prop
 | [],[]=>True
 |x::r,v::vs=>PR S x v∧dV S r vs
 |_,_=>False
end
abbrev dF:=Nat→Option bi
abbrev aX:=Nat→Nat × Nat
mutual
def VR (g:dF) (m:aX) (S:aU):AV→Value→Prop
 | .ref b ver i n,v=> ∃ B,g b=some B∧ver≤B.ver∧(∃ k o c',v= .slice (some ⟨k,o,none⟩) n c')∧(B.ver=ver→∃ o,v= .slice (some ⟨(m b).1,o,none⟩) n ((m b).2 - i)∧i+n≤(m b).2∧(i<(m b).2→o=i*B.esz)∧0<B.esz∧B.esz ≠ iG)
 | .ptr b ver off,v=> ∃ B,g b=some B∧ver≤B.ver∧(∃ k o,v= .pointer (some ⟨k,o,none⟩))∧(B.ver=ver→v= .pointer (some ⟨(m b).1,off,none⟩))
 | .mr b ver,v=> ∃ B,g b=some B∧ver≤B.ver∧(∃ k,v= .map (some k))∧(B.ver=ver→v= .map (some (m b).1))
 | .agg l,v=> ∃ vs,v= .agg vs.toArray∧aY g m S l vs
 | .tup l,v=> ∃ vs,v= .tuple vs.toArray∧aY g m S l vs
 | .fn f a c,v=> ∃ va vc,v= .func (.func f) va.toArray vc.toArray∧aY g m S a va∧aY g m S c vc
 | .ifc t x,v=> ∃ u,v= .iface t u∧VR g m S x u
 | .int k n,v=>PR S (.int k n) v
 | .bool b,v=>PR S (.bool b) v
 | .str s,v=>PR S (.str s) v
 | .nilS,v=>PR S .nilS v
 | .sl xs n nn,v=>PR S (.sl xs n nn) v
 | .pp xs off,v=>PR S (.pp xs off) v
 | .mp ks vs,v=>PR S (.mp ks vs) v
 | .nilP,v=>PR S .nilP v
 | .nilF,v=>PR S .nilF v
 | .nilI,v=>PR S .nilI v
 | .dead,_=>True
 | .own _ _ _,_=>False
def aY (g:dF) (m:aX) (S:aU):List AV→List Value→Prop
 | [],[]=>True
 |x::r,v::vs=>VR g m S x v∧aY g m S r vs
 |_,_=>False
end
def aW (x y:AV):Prop:=∀ g m S v,VR g m S x v→VR g m S y v
inductive wJ where
 |v (d:Nat) (x:AV)
 |b (d:Nat) (xs:List AV)
 |u (d:Nat)
inductive jT where
 |ret (v:AV)
 |pan (v:AV)
 |retS (one:Bool) (sh:List (Option Nat)) (l:List AV)
structure Cx where
 cl:Bool
 orc:List Bool
 bs:List Bool
 ps:List Prop
 ans:List (jT × List bi)
 hs:List wJ
inductive R (α:Type) where
 |ok (a:α) (c:Cx)
 |need
 |bad (n:Nat)
def R.bind {α β:Type} (r:R α) (f:α→Cx→R β):R β:=
 match r with
 | .ok a c=>f a c
 | .need=> .need
 | .bad n=> .bad n
def lit (o b:Bool):Bool:=match o with|true=>b|false=> !b
def ZL (c:Cx) (bs:List Bool):R Unit:=
 match c.cl with
 |true=>match bs.all id with|true=> .ok () c|false=> .bad 1
 |false=> .ok () {c with bs:=bs++c.bs}
def zV (c:Cx) (b:Bool):R Bool:=
 match c.cl with
 |true=> .ok b c
 |false=>match c.orc with
  | []=> .need
  |o::r=> .ok o {c with orc:=r,bs:=lit o b::c.bs}
def Eu (c:Cx) (dst:Option Nat) (v:AV):AV × Cx:=
 match c.hs,dst with
 | .v d x::r,some d'=>match Nat.beq d d' with
  |true=>(x,{c with hs:=r,ps:=aW v x::c.ps})
  |false=>(v,c)
 |_,_=>(v,c)
def Et (c:Cx) (dst:Option Nat) (ups:List (Nat × bi)):List (Nat × bi) × Cx:=
 match c.hs,dst,ups with
 | .b d xs::r,some d',[(b,B)]=>match Nat.beq d d' with
  |true=>([(b,{B with cells:=xs})],{c with hs:=r,ps:=(B.cells=xs)::c.ps})
  |false=>(ups,c)
 |_,_,_=>(ups,c)
def Qw (c:Cx) (dst:Option Nat):Bool × Cx:=
 match c.hs,dst with
 | .u d::r,some d'=>match Nat.beq d d' with
  |true=>(true,{c with hs:=r})
  |false=>(false,c)
 |_,_=>(false,c)
abbrev di:=Cx→AV→Nat→List AV→List bi→R (jT × List bi × AV)
def sG (rd:Nat→Option bi):Nat→List Nat→List Nat
 |0,l=>l
 |n+1,l=>
  let more:=l.flatMap fun b=>match rd b with|some B=>(match B.pr with|true=> []|false=>bT B.cells)|none=> []
  let l':=more.foldl (fun acc b=>if rE acc b then acc else acc++ [b]) l
  match Nat.beq l'.length l.length with|true=>l|false=>sG rd n l'
def frz (rd:Nat→Option bi):Nat→AV→Option AV
 |0,_=>none
 | fuel+1,x=>
  let frzL (l:List AV):Option (List AV):=jP (frz rd fuel) l
  match x with
  | .ref b ver i n=>(rd b).bind fun B=>match Nat.beq B.ver ver with
   |true=>match B.pr with
    |true=>some (.sl ((B.cells.drop (i*B.esz)).take (n*B.esz)) n true)
    |false=>(frzL ((B.cells.drop (i*B.esz)).take (n*B.esz))).map fun l=> .sl l n true
   |false=>none
  | .ptr b ver off=>(rd b).bind fun B=>match Nat.beq B.ver ver && !(Nat.beq B.esz iG) with
   |true=>match B.pr with
    |true=>some (.pp B.cells off)
    |false=>(frzL B.cells).map fun l=> .pp l off
   |false=>none
  | .mr b ver=>(rd b).bind fun B=>match Nat.beq B.ver ver && Nat.beq B.esz iG with
   |true=>match B.pr with
    |true=>aaP B.cells
    |false=>(frzL B.cells).bind aaP
   |false=>none
  | .agg l=>(frzL l).map .agg
  | .tup l=>(frzL l).map .tup
  | .fn f a c=>(frzL a).bind fun a=>(frzL c).map fun c=> .fn f a c
  | .ifc t v=>(frz rd fuel v).map (.ifc t)
  | .own _ _ _=>none
  |x=>some x
def qy (l:List Nat) (b:Nat):Option Nat:=match l with
 | []=>none
 |c::r=>match Nat.beq c b with|true=>some 0|false=>(qy r b).map (· +1)
def JE (xs:List AV) (esz:Nat):bi:={cells:=xs,ver:=0,fro:=false,fz:=0,esz,pr:=true}
def dU (nid:Nat):List AV→List AV × List bi
 | []=>([],[])
 | .own xs n esz::r=>match dU (nid+1) r with|(l,bs)=>(.ref nid 0 0 n::l,JE xs esz::bs)
 |x::r=>match dU nid r with|(l,bs)=>(x::l,bs)
def lJ (nid:Nat):AV→AV × List bi
 | .tup l=>match dU nid l with|(l,bs)=>(.tup l,bs)
 | .own xs n esz=>(.ref nid 0 0 n,[JE xs esz])
 |x=>(x,[])
def zh:List (Option Nat)→List AV→List AV
 | [],_=> []
 |some k::r,l=> .agg (l.take k)::zh r (l.drop k)
 |none::r,x::l=>x::zh r l
 |none::_,[]=> []
def QT (one:Bool) (sh:List (Option Nat)) (l:List AV):AV:=match one with
 |true=>(zh sh l).headD .dead
 |false=> .tup (zh sh l)
def Cj:Nat→List bi→List (Nat × bi)
 |_,[]=> []
 |n,B::r=>(n,B)::Cj (n+1) r
def Nz:List Nat→List bi→List (Nat × bi)
 |b::r,B::q=>(b,B)::Nz r q
 |_,_=> []
def sU:List Nat→Bool
 | []=>true
 |b::r=> !rE r b && sU r
def Bf (ρ:Nat→Nat→Option (Nat × Nat)) (v:Nat) (B:bi):bi:={B with cells:=(match B.pr with|true=>B.cells|false=>mP ρ B.cells),ver:=v+B.ver}
def PX (nid:Nat) (fp:List Nat) (vers:Nat→Nat) (n:Nat):Nat→Nat→Option (Nat × Nat):=fun p v=>
 match fp[p]? with
 |some b=>some (b,vers b+v)
 |none=>match Nat.blt p n with|true=>some (nid+(p - fp.length),v)|false=>none
structure U4 where
 out:jT
 ups:List (Nat × bi)
 fp:List Nat
 md:AV
def uy (ap:AP) (H:di) (rd:Nat→Option bi) (nid:Nat) (md:AV) (f:Nat) (args:List AV) (c:Cx):R U4:=
 let fp:=sG rd 6 (iO (bT args))
 let rd:=fun b=>match rE fp b with|true=>rd b|false=>none
 let shared:=match ap.fnAt f with|some F=>F.shared|none=>false
 match shared with
 | false=>
  match jP (frz rd 6) args with
  |none=> .bad 10
  |some args'=>
   (H c md f args' []).bind fun (out,h',md) c=>
   match h' with
   |_::_=> .bad 14
   | []=>
   let mark:=fp.filterMap fun b=>(rd b).map fun B=>(b,{B with fro:=true,fz:=B.cells.length})
   match out with
   | .ret v=>match lJ nid v with|(v,bs)=>match Nat.ble bs.length 4 with|true=> .ok {out:= .ret v,ups:=Cj nid bs++mark,fp,md} c|false=> .bad 13
   | .retS one sh l=>match dU nid l with|(l',bs)=>match Nat.ble bs.length 4 with|true=> .ok {out:= .ret (QT one sh l'),ups:=Cj nid bs++mark,fp,md} c|false=> .bad 13
   | .pan v=> .ok {out:= .pan v,ups:=mark,fp,md} c
 | true=>
  let vers:=fun b=>match rd b with|some B=>B.ver|none=>0
  let ρ:Nat→Nat→Option (Nat × Nat):=fun b v=>match Nat.beq v (vers b) with|true=>(qy fp b).map fun p=>(p,0)|false=>none
  match jP rd fp with
  |none=> .bad 11
  | some bl=>
   (H c md f (mP ρ args) (bl.map fun B=> {B with cells:=(match B.pr with|true=>B.cells|false=>mP ρ B.cells),ver:=0})).bind fun (out,h',md) c=>
   match Nat.ble fp.length h'.length && sU fp with
   |false=> .bad 12
   |true=>
    let ρ':=PX nid fp vers h'.length
    let ups:=(Nz fp h').map fun (b,B)=>(b,Bf ρ' (vers b) B)
    let ex:=(h'.drop fp.length).map (Bf ρ' 0)
    match out with
    | .retS _ _ _=> .bad 15
    | .ret v=>match lJ (nid+(h'.length - fp.length)) (ren ρ' v) with|(v,bs)=>match Nat.ble ((h'.length - fp.length)+bs.length) 4 with|true=> .ok {out:= .ret v,ups:=Cj nid (ex++bs)++ups,fp,md} c|false=> .bad 13
    | .pan v=>match Nat.ble (h'.length - fp.length) 4 with|true=> .ok {out:= .pan (ren ρ' v),ups:=Cj nid (ex++ [])++ups,fp,md} c|false=> .bad 13
inductive bJ where
 |normal
 |exit (id:Nat)
 |ret
 |panic (v:AV)
structure St where
 env:iP
 hp:Hp
 md:AV
 dfs:List (Nat × List AV)
structure DI where
 rt:List Nat
 wt:List Nat
 rb:List Nat
 wb:List Nat
structure RS where
 env:iP
 hp:Hp
 md:AV
 dfs:List (Nat × List AV)
 dec:List (Nat × Bool)
 feet:List DI
def vC (l:List Operand):List Nat:=l.filterMap fun| .tmp t=>some t|_=>none
def I7 (o:Oper):List Nat:=match o.dst with|some d=> [d]|none=> []
def qE (env:iP) (dst:Option Nat) (v:AV):iP:=match dst with|some d=>(d,v)::env|none=>env
def qW (ap:AP) (env:iP):Operand→AV
 | .tmp t=>env.get t
 | .const v=>E_ v
 | .global g=>match (ap.gl[g]?).join with|some xs=> .pp xs 0|none=> .dead
 | .func f=> .fn f [] []
def Ox (ops:List Oper) (env:iP) (dec:List (Nat × Bool)) (o:Oper) (c:Cx):R (Bool × List (Nat × Bool)):=
 match o.guard with
 |none=> .ok (true,dec) c
 | some (j,want)=>
  match (ops[j]?).bind (·.dst) with
  |none=> .bad 20
  | some s=>match aA dec s with
   |some b=> .ok (lit want b,dec) c
   |none=>match env.get s with
    | .bool b=>(zV c b).bind fun b' c=> .ok (lit want b',(s,b')::dec) c
    | .tup []=> .ok (false,dec) c
    |_=> .bad 21
def je (ops:List Oper) (o:Oper):List Nat:=
 match o.guard with
 |none=> []
 |some (j,_)=>match (ops[j]?).bind (·.dst) with|none=> []|some s=> [s]
def VL (dec:List (Nat × Bool)) (o:Oper):Bool:=match o.dst with|none=>true|some d=>match aA dec d with|none=>true|some _=>false
def RN (ap:AP) (H:di) (nid:Nat) (ops:List Oper) (o:Oper) (s:RS) (c:Cx):R (RS × Option AV):=
 (Ox ops s.env s.dec o c).bind fun (run,dec) c=>
 let rt:=vC o.op.operands.toList++je ops o
 match VL dec o with
 |false=> .bad 35
 |true=>
 match run with
 |false=> .ok ({s with env:=qE s.env o.dst (.tup []),dec,feet:={rt,wt:=I7 o,rb:= [],wb:= []}::s.feet},none) c
 | true=>
  let ρ:=qW ap s.env
  let rdAll:=aA s.hp
  match o.op with
  | .call {callee:= .value g,args,..}=>
   match ρ g with
   | .fn f first cap=>
    (uy ap H rdAll nid .dead f (first++args.toList.map ρ++cap) c).bind fun r c=>
    let foot:DI:={rt,wt:=I7 o,rb:=r.fp,wb:=r.ups.map fun (q:Nat × bi)=>q.1}
    match Qw c o.dst with
    | (true,c)=>match r.out with
     | .retS _ _ _=> .bad 16
     | .ret v=>match r.ups.all (fun (q:Nat × bi)=>rE r.fp q.1) with
      |true=> .ok ({s with env:=qE s.env o.dst v,dec,feet:={rt,wt:=I7 o,rb:=r.fp,wb:= []}::s.feet},none) {c with ps:=(r.ups.map (fun (q:Nat × bi)=>some q.2)=r.ups.map (fun (q:Nat × bi)=>aA s.hp q.1))::c.ps}
      |false=> .bad 36
     | .pan _=> .bad 37
    |(false,c)=>match r.out with
     | .retS _ _ _=> .bad 16
     | .ret v=> .ok ({s with env:=qE s.env o.dst v,hp:=r.ups++s.hp,dec,feet:=foot::s.feet},none) c
     | .pan v=> .ok ({s with hp:=r.ups++s.hp,dec,feet:=foot::s.feet},some v) c
   |_=> .bad 30
  | .call {callee:= .builtin .recover,..}=>
   match s.md with
   | .nilI=> .ok ({s with env:=qE s.env o.dst .nilI,dec,feet:={rt,wt:=I7 o,rb:= [],wb:= []}::s.feet},none) c
   | .ifc t v=> .ok ({s with env:=qE s.env o.dst (.ifc t v),md:= .nilI,dec,feet:={rt,wt:=I7 o,rb:= [],wb:= []}::s.feet},none) c
   |_=> .bad 33
  | .defer {callee:= .value g,args,..}=>
   match ρ g with
   | .fn f first cap=> .ok ({s with env:=qE s.env o.dst .dead,dfs:=(f,first++args.toList.map ρ++cap)::s.dfs,dec,feet:={rt,wt:=I7 o,rb:= [],wb:= []}::s.feet},none) c
   |_=> .bad 34
  | .panic x=>
   match ρ x with
   | .ifc t v=> .ok ({s with dec},some (.ifc t v)) c
   |_=> .bad 31
  | op=>
   let fp:=XP ρ op
   let rd:=fun b=>match rE fp b with|true=>rdAll b|false=>none
   let decs:Operand→Option Bool:=fun| .tmp t=>aA dec t|_=>none
   (match yK ρ op with|some n=>zV c (Nat.beq n 0)|none=> .ok false c).bind fun em c=>
   match opA ap nid ρ rd decs em op with
   |none=> .bad 32
   | some (v,ups,bs)=>(ZL c bs).bind fun _ c=>
    match Eu c o.dst v with
    |(v,c)=>match Et c o.dst ups with
     |(ups,c)=> .ok ({s with env:=qE s.env o.dst v,hp:=ups++s.hp,dec,feet:={rt,wt:=I7 o,rb:=fp,wb:=ups.map fun (q:Nat × bi)=>q.1}::s.feet},none) c
def xR (ap:AP) (H:di) (ops:List Oper):List Oper→Nat→RS→Cx→R (RS × Option AV)
 | [],_,s,c=> .ok (s,none) c
 | o::r,nid,s,c=>(RN ap H nid ops o s c).bind fun (s,p) c=>
  match p with
  |some v=> .ok (s,some v) c
  |none=>match s.feet with
   |f::_=>match f.wb.all (fun x=>Nat.blt x (nid+4)) with|true=>xR ap H ops r (nid+4) s c|false=> .bad 43
   | []=> .bad 44
def ES (a b:List Nat):Bool:=a.any (rE b)
def jW (a b:DI):Bool:=ES a.wt b.rt||ES a.wt b.wt||ES a.rt b.wt||ES a.wb b.rb||ES a.wb b.wb||ES a.rb b.wb
def Fb (n:Nat) (bef:List Nat) (feet:List DI):Bool:=
 let l:=feet.reverse.zipIdx
 l.all fun (a,i)=>l.all fun (b,j)=> !(Nat.blt i j)|| !(jW a b||b.wb.any fun x=>Nat.ble (n+4*i) x && Nat.blt x (n+4*i+4))||(bef.getD j 0).testBit i
def Ef (keep:List Nat) (env:iP):List Nat:=keep.flatMap fun t=>dO (env.get t)
def norm (base:Nat) (keep:List Nat) (s:St):St:=
 let env:=s.env
 let hp:=s.hp
 let rd:=aA hp
 let ids:=sG rd 20 (iO (sG rd 20 (List.range base)++Ef keep env++s.dfs.flatMap fun d=>bT d.2))
 let ids:=ids.filter fun b=>(rd b).isSome
 let ρ:Nat→Nat→Option (Nat × Nat):=fun b v=>match rd b with
  |some B=>match Nat.beq B.ver v with
   |true=>(qy ids b).map fun p=>(p,match Nat.blt p base with|true=>v|false=>0)
   |false=>none
  |none=>none
 {env:=keep.map fun t=>(t,ren ρ (env.get t))
  hp:=ids.zipIdx.filterMap fun (b,p)=>(rd b).map fun B=>(p,{B with cells:=(match B.pr with|true=>B.cells|false=>mP ρ B.cells),ver:=match Nat.blt p base with|true=>B.ver|false=>0})
  md:=s.md
  dfs:=s.dfs.map fun d=>(d.1,mP ρ d.2)}
def kM:Hp→Nat
 | []=>0
 |(b,_)::r=>match Nat.blt b (kM r) with|true=>kM r|false=>b+1
def yJ (ops:List Oper):Bool:=ops.zipIdx.all fun (o,i)=>o.after.toList.all fun e=> !Region.binds .any e||Nat.blt e.on i
def JJ (ap:AP) (H:di) (base:Nat) (keep:List Nat) (ops:List Oper) (draw:Bool) (s:St) (c:Cx):R (bJ × St):=
 (xR ap H ops ops (kM s.hp) {env:=s.env,hp:=s.hp,md:=s.md,dfs:=s.dfs,dec:= [],feet:= []} c).bind fun (s',p) c=>
 match p with
 | some v=>match draw with
  |true=> .bad 40
  |false=>match (dO v).isEmpty with
   |true=> .ok (.panic v,norm base keep ⟨s'.env,s'.hp,s'.md,s'.dfs⟩) c
   |false=> .ok (.panic v,⟨s'.env,s'.hp,s'.md,s'.dfs⟩) c
 |none=>
  match !draw||(Fb (kM s.hp) (Region.before ops.toArray).toList s'.feet && yJ ops && Nat.beq s'.dfs.length s.dfs.length) with
  |true=> .ok (.normal,norm base keep ⟨s'.env,s'.hp,s'.md,s'.dfs⟩) c
  |false=> .bad 41
def QD (f:St→Cx→R (bJ × St)):Nat→St→Cx→R (bJ × St)
 |0,_,_=> .bad 50
 |n+1,s,c=>(f s c).bind fun (e,s) c=>match e with
  | .normal=>QD f n s c
  |e=> .ok (e,s) c
def kZ (ap:AP) (H:di) (base:Nat) (keep:List Nat) (lf:Nat):Code→St→Cx→R (bJ × St)
 | .skip,s,c=> .ok (.normal,s) c
 | .label _,s,c=> .ok (.normal,s) c
 | .region _ ops draw,s,c=>JJ ap H base keep ops.toList draw s c
 | .seq a b,s,c=>(kZ ap H base keep lf a s c).bind fun (e,s) c=>match e with
  | .normal=>kZ ap H base keep lf b s c
  |e=> .ok (e,s) c
 | .cond t a b,s,c=>match qW ap s.env t with
  | .bool x=>(zV c x).bind fun x c=>match x with
   |true=>kZ ap H base keep lf a s c
   |false=>kZ ap H base keep lf b s c
  |_=> .bad 60
 | .block id b,s,c=>(kZ ap H base keep lf b s c).bind fun (e,s) c=>match e with
  | .exit id'=>match Nat.beq id' id with|true=> .ok (.normal,s) c|false=> .ok (.exit id',s) c
  |e=> .ok (e,s) c
 | .loop b,s,c=>QD (kZ ap H base keep lf b) lf s c
 | .exit id,s,c=> .ok (.exit id,s) c
 | .ret,s,c=> .ok (.ret,s) c
 | .scope b,s,c=>kZ ap H base keep lf b s c
 |_,_,_=> .bad 61
def zq (ap:AP) (env:iP) (hp:Hp):ResultVar→Option (AV × List Bool)
 | .tmp t=>some (env.get t,[])
 | .cell a t=>(ap.tyAt t).bind fun ti=>(LH ti (aA hp) (env.get a)).map fun (v,_,bs)=>(v,bs)
def fU (l:List Nat) (b:Nat):Nat:=(l.filter (Nat.beq b)).length
def aag (base:Nat) (rd:Nat→Option bi) (v:AV):Option AV:=
 let fp:=sG rd 6 (iO (dO v))
 match fp.all (fun b=>Nat.ble base b) with
 |true=>frz (fun b=>match rE fp b with|true=>rd b|false=>none) 6 v
 |false=>none
def qc (base:Nat) (rd:Nat→Option bi) (all:List Nat) (v:AV):Option AV:=
 let frzO (v:AV):Option AV:=match (dO v).all (fun b=>Nat.blt b base) with|true=>some v|false=>aag base rd v
 match v with
 | .ref b ver 0 n=>match rd b with
  |some B=>match Nat.ble base b && Nat.beq B.ver ver && !B.fro && B.pr && Nat.beq (fU all b) 1 && Nat.blt 0 B.esz with
   |true=>some (.own (B.cells.take (n*B.esz)) n B.esz)
   |false=>frzO v
  |none=>none
 |v=>frzO v
def ai (f:Func):Code:=f.body.getD .skip
def oC (md:AV) (args:List AV) (h:List bi):St:=
 {env:=args.zipIdx.map fun (x,i)=>(i,x),hp:=h.zipIdx.map fun (B,i)=>(i,B),md,dfs:= []}
def ai6:AV→Bool
 | .nilI=>true
 | .ifc _ _=>true
 |_=>false
def EE (ap:AP) (H:di):List (Nat × List AV)→AV→Hp→Cx→R (AV × Hp)
 | [],mode,hp,c=> .ok (mode,hp) c
 |(f,args)::r,mode,hp,c=>
  match ai6 mode && (dO mode).isEmpty with
  |false=> .bad 78
  |true=>
  (uy ap H (aA hp) (kM hp) mode f args c).bind fun q c=>
  match q.out with
  | .retS _ _ _=> .bad 75
  | .ret _=>EE ap H r q.md (q.ups++hp) c
  | .pan _=> .bad 75
def UL (rd:Nat→Option bi) (base:Nat):Nat:=(sG rd 20 (List.range base)).length
def flD:List AV→List AV
 | []=> []
 | .agg ys::r=>ys++flD r
 |x::r=>x::flD r
def Yh:List AV→List (Option Nat)
 | []=> []
 | .agg ys::r=>some ys.length::Yh r
 |_::r=>none::Yh r
def ajN:List AV→Bool
 | [_]=>true
 |_=>false
def Qe (keep:List Nat):Bool:=rE keep 9999
def wB (ap:AP) (dp:Bool) (base:Nat) (F:Func) (env:iP) (hp:Hp) (c:Cx):R (jT × List bi):=
 let rd:=aA hp
 let n:=UL rd base
 match jP (zq ap env hp) F.results.toList,jP rd (List.range n) with
 | some vs,some h'=>
  match h'.all (fun B=>B.pr||(bT B.cells).all fun b=>Nat.blt b n) with
  |false=> .bad 76
  |true=>
  (ZL c (vs.flatMap fun (q:AV × List Bool)=>q.2)).bind fun _ c=>
  match dp with
  |false=>
   let all:=vs.flatMap fun (q:AV × List Bool)=>sG rd 6 (iO (dO q.1))
   match jP (qc n rd all) (vs.map fun (q:AV × List Bool)=>q.1) with
   |some [v]=> .ok (.ret v,h') c
   |some l=> .ok (.ret (.tup l),h') c
   |none=> .bad 70
  |true=>
   let v0:=vs.map fun (q:AV × List Bool)=>q.1
   let ws:=flD v0
   match jP (qc n rd (ws.flatMap fun v=>sG rd 6 (iO (dO v)))) ws with
   |some l=> .ok (.retS (ajN v0) (Yh v0) l,h') c
   |none=> .bad 70
 |_,_=> .bad 71
def JF (base:Nat) (v:AV) (hp:Hp) (c:Cx):R (jT × List bi):=
 let n:=UL (aA hp) base
 match qc n (aA hp) (sG (aA hp) 6 (iO (dO v))) v,jP (aA hp) (List.range n) with
 |some v,some h'=>
  match h'.all (fun B=>B.pr||(bT B.cells).all fun b=>Nat.blt b n) with
  |false=> .bad 77
  |true=> .ok (.pan v,h') c
 |_,_=> .bad 72
def Dc (ap:AP) (H:di) (dp:Bool) (base:Nat) (F:Func) (e:bJ) (s:St) (c:Cx):R (jT × List bi × AV):=
 let go (mode:AV):R (jT × List bi × AV):=
  (EE ap H s.dfs mode s.hp c).bind fun (mode,hp) c=>
  match mode with
  | .nilI=>(wB ap dp base F s.env hp c).bind fun (o,h) c=> .ok (o,h,s.md) c
  | .ifc t v=>(JF base (.ifc t v) hp c).bind fun (o,h) c=> .ok (o,h,s.md) c
  |_=> .bad 74
 match e with
 | .normal| .ret=>go .nilI
 | .panic (.ifc t v)=>match (dO v).isEmpty with|true=>go (.ifc t v)|false=> .bad 79
 |_=> .bad 73
def Vp (ap:AP) (H:di) (lf:Nat) (md:AV) (F:AF) (args:List AV) (h:List bi) (c:Cx):R (jT × List bi × AV):=
 match ai F.fn with
 | .seq (.region _ ops false) rest=>
  match ops.toList with
  | o ::r=>
   match o.op,o.guard,o.dst with
   | .call {callee:= .builtin .recover,..},none,some d=>
    let s0:=oC .dead args h
    (xR ap H (o::r) r (kM s0.hp) {env:=(d,md)::s0.env,hp:=s0.hp,md:= .dead,dfs:= [],dec:= [],feet:= []} c).bind fun (s,p) c=>
    match p with
    |some _=> .bad 81
    | none=>(kZ ap H h.length F.keep lf rest (norm h.length F.keep ⟨s.env,s.hp,s.md,s.dfs⟩) c).bind fun (e,s) c=>
     match s.dfs with
     |_::_=> .bad 82
     | []=>match e with
      | .normal| .ret=>(wB ap (Qe F.keep) h.length F.fn s.env s.hp c).bind fun (o,h) c=> .ok (o,h,.nilI) c
      |_=> .bad 83
   |_,_,_=> .bad 84
  | []=> .bad 85
 |_=> .bad 86
def uw (ap:AP) (H:di) (lf:Nat) (md:AV) (f:Nat) (args:List AV) (h:List bi) (c:Cx):R (jT × List bi × AV):=
 match ap.fnAt f with
 |none=> .bad 80
 |some F=>match md with
  | .dead=>(kZ ap H h.length F.keep lf (ai F.fn) (oC .dead args h) c).bind fun (e,s) c=>Dc ap H (Qe F.keep) h.length F.fn e s c
  |md=>match ai6 md && (dO md).isEmpty with|true=>Vp ap H lf md F args h c|false=> .bad 87
theorem xh {S:aU}:∀ {l:List AV} {vs:List Value},dV S l vs→l.length=vs.length
 | [],[],_=>rfl
 |_::_,_::_,h=>by simp only [dV] at h;simp [xh h.2]
 | [],_::_,h=>by simp [dV] at h
 |_::_,[],h=>by simp [dV] at h
theorem bK {g:dF} {m:aX} {S:aU}:∀ {l:List AV} {vs:List Value},aY g m S l vs→l.length=vs.length
 | [],[],_=>rfl
 |_::_,_::_,h=>by simp only [aY] at h;simp [bK h.2]
 | [],_::_,h=>by simp [aY] at h
 |_::_,[],h=>by simp [aY] at h
theorem rY {g:dF} {m:aX} {S:aU}:∀ {l:List AV} {vs:List Value} (_:aY g m S l vs) (i:Nat) {x:AV},l[i]? =some x→∃ v,vs[i]? =some v∧VR g m S x v
 | [],[],_,i,x,hx=>by simp at hx
 |a::l,v::vs,h,0,x,hx=>by simp only [aY] at h;simp at hx;subst hx;exact ⟨v,rfl,h.1⟩
 |a::l,v::vs,h,i+1,x,hx=>by simp only [aY] at h;simp at hx;simpa using rY h.2 i hx
 | [],_::_,h,_,_,_=>by simp [aY] at h
 |_::_,[],h,_,_,_=>by simp [aY] at h
theorem nY {S:aU}:∀ {l l':List AV} {vs vs':List Value},dV S l vs→dV S l' vs'→dV S (l++l') (vs++vs')
 | [],_,[],_,_,h'=>by simpa using h'
 |_::_,_,_::_,_,h,h'=>by simp only [dV] at h;simp only [List.cons_append,dV];exact ⟨h.1,nY h.2 h'⟩
 | [],_,_::_,_,h,_=>by simp [dV] at h
 |_::_,_,[],_,h,_=>by simp [dV] at h
theorem fQ {g:dF} {m:aX} {S:aU}:∀ {l l':List AV} {vs vs':List Value},aY g m S l vs→aY g m S l' vs'→aY g m S (l++l') (vs++vs')
 | [],_,[],_,_,h'=>by simpa using h'
 |_::_,_,_::_,_,h,h'=>by simp only [aY] at h;simp only [List.cons_append,aY];exact ⟨h.1,fQ h.2 h'⟩
 | [],_,_::_,_,h,_=>by simp [aY] at h
 |_::_,_,[],_,h,_=>by simp [aY] at h
theorem kD {S:aU}:∀ (n:Nat) {l:List AV} {vs:List Value},dV S l vs→dV S (l.take n) (vs.take n)
 |0,_,_,_=>by simp [dV]
 |n+1,[],[],_=>by simp [dV]
 |n+1,_::_,_::_,h=>by simp only [dV] at h;simp only [List.take_succ_cons,dV];exact ⟨h.1,kD n h.2⟩
 |_+1,[],_::_,h=>by simp [dV] at h
 |_+1,_::_,[],h=>by simp [dV] at h
theorem qJ {S:aU}:∀ (n:Nat) {l:List AV} {vs:List Value},dV S l vs→dV S (l.drop n) (vs.drop n)
 |0,_,_,h=>by simpa using h
 |n+1,[],[],_=>by simp [dV]
 |n+1,_::_,_::_,h=>by simp only [dV] at h;simpa using qJ n h.2
 |_+1,[],_::_,h=>by simp [dV] at h
 |_+1,_::_,[],h=>by simp [dV] at h
theorem qL {g:dF} {m:aX} {S:aU}:∀ (n:Nat) {l:List AV} {vs:List Value},aY g m S l vs→aY g m S (l.take n) (vs.take n)
 |0,_,_,_=>by simp [aY]
 |n+1,[],[],_=>by simp [aY]
 |n+1,_::_,_::_,h=>by simp only [aY] at h;simp only [List.take_succ_cons,aY];exact ⟨h.1,qL n h.2⟩
 |_+1,[],_::_,h=>by simp [aY] at h
 |_+1,_::_,[],h=>by simp [aY] at h
theorem uq {g:dF} {m:aX} {S:aU}:∀ (n:Nat) {l:List AV} {vs:List Value},aY g m S l vs→aY g m S (l.drop n) (vs.drop n)
 |0,_,_,h=>by simpa using h
 |n+1,[],[],_=>by simp [aY]
 |n+1,_::_,_::_,h=>by simp only [aY] at h;simpa using uq n h.2
 |_+1,[],_::_,h=>by simp [aY] at h
 |_+1,_::_,[],h=>by simp [aY] at h
theorem kE.mono {S S':aU} (h:oW S S') {b o:Nat} {vs:List Value} (hs:kE S b o vs):kE S' b o vs:=fun j u a=> ⟨h _ _ _ (hs j u a).1,(hs j u a).2⟩
mutual
theorem dn {S S':aU} (h:oW S S'):∀ (x:AV) {v:Value},PR S x v→PR S' x v
 | .int _ _,_,p=>by simpa only [PR] using p
 | .bool _,_,p=>by simpa only [PR] using p
 | .str _,_,p=>by simpa only [PR] using p
 | .nilS,_,p=>by simpa only [PR] using p
 | .nilP,_,p=>by simpa only [PR] using p
 | .nilF,_,p=>by simpa only [PR] using p
 | .nilI,_,p=>by simpa only [PR] using p
 | .dead,_,_=>by simp only [PR]
 | .agg l,_,p=>by
  simp only [PR] at p ⊢
  obtain ⟨vs,e,q⟩:=p
  exact ⟨vs,e,dm h l q⟩
 | .tup l,_,p=>by
  simp only [PR] at p ⊢
  obtain ⟨vs,e,q⟩:=p
  exact ⟨vs,e,dm h l q⟩
 | .sl xs n nn,_,p=>by
  simp only [PR] at p ⊢
  obtain ⟨a,d,e,i,q⟩:=p
  refine ⟨a,d,e,i, ?_⟩
  rcases q with q|⟨b,o,vs,C,q,hs⟩
  ·exact .inl q
  ·exact .inr ⟨b,o,vs,C,dm h xs q,hs.mono h⟩
 | .pp xs off,_,p=>by
  simp only [PR] at p ⊢
  obtain ⟨b,o,vs,e,q,hs⟩:=p
  exact ⟨b,o,vs,e,dm h xs q,hs.mono h⟩
 | .mp ks vs,_,p=>by
  simp only [PR] at p ⊢
  rcases p with p|⟨b,B,y,e,D,k,A,j⟩
  ·exact .inl p
  ·exact .inr ⟨b,B,y,e,h _ _ _ D,h _ _ _ k,dm h ks A,dm h vs j⟩
 | .fn f a c,_,p=>by
  simp only [PR] at p ⊢
  obtain ⟨s,z,e,q,r⟩:=p
  exact ⟨s,z,e,dm h a q,dm h c r⟩
 | .ifc t x,_,p=>by
  simp only [PR] at p ⊢
  obtain ⟨u,e,q⟩:=p
  exact ⟨u,e,dn h x q⟩
 | .ref _ _ _ _,_,p=>by simp only [PR] at p
 | .ptr _ _ _,_,p=>by simp only [PR] at p
 | .mr _ _,_,p=>by simp only [PR] at p
 | .own _ _ _,_,p=>by simp only [PR] at p
theorem dm {S S':aU} (h:oW S S'):∀ (l:List AV) {vs:List Value},dV S l vs→dV S' l vs
 | [],[],_=>by simp only [dV]
 |x::r,v::vs,p=>by simp only [dV] at p ⊢;exact ⟨dn h x p.1,dm h r p.2⟩
 | [],_::_,p=>by simp [dV] at p
 |_::_,[],p=>by simp [dV] at p
end
mutual
theorem gG {g:dF} {m:aX} {S:aU}:∀ (x:AV) {v:Value},PR S x v→VR g m S x v
 | .int _ _,_,p=>by simpa only [VR] using p
 | .bool _,_,p=>by simpa only [VR] using p
 | .str _,_,p=>by simpa only [VR] using p
 | .nilS,_,p=>by simpa only [VR] using p
 | .nilP,_,p=>by simpa only [VR] using p
 | .nilF,_,p=>by simpa only [VR] using p
 | .nilI,_,p=>by simpa only [VR] using p
 | .sl _ _ _,_,p=>by simpa only [VR] using p
 | .pp _ _,_,p=>by simpa only [VR] using p
 | .mp _ _,_,p=>by simpa only [VR] using p
 | .dead,_,_=>by simp only [VR]
 | .agg l,_,p=>by
  simp only [PR] at p;simp only [VR]
  obtain ⟨vs,e,q⟩:=p
  exact ⟨vs,e,bW l q⟩
 | .tup l,_,p=>by
  simp only [PR] at p;simp only [VR]
  obtain ⟨vs,e,q⟩:=p
  exact ⟨vs,e,bW l q⟩
 | .fn f a c,_,p=>by
  simp only [PR] at p;simp only [VR]
  obtain ⟨b,d,e,q,r⟩:=p
  exact ⟨b,d,e,bW a q,bW c r⟩
 | .ifc t x,_,p=>by
  simp only [PR] at p;simp only [VR]
  obtain ⟨u,e,q⟩:=p
  exact ⟨u,e,gG x q⟩
 | .ref _ _ _ _,_,p=>by simp only [PR] at p
 | .ptr _ _ _,_,p=>by simp only [PR] at p
 | .mr _ _,_,p=>by simp only [PR] at p
 | .own _ _ _,_,p=>by simp only [PR] at p
theorem bW {g:dF} {m:aX} {S:aU}:∀ (l:List AV) {vs:List Value},dV S l vs→aY g m S l vs
 | [],[],_=>by simp only [aY]
 |x::r,v::vs,p=>by simp only [dV] at p;simp only [aY];exact ⟨gG x p.1,bW r p.2⟩
 | [],_::_,p=>by simp [dV] at p
 |_::_,[],p=>by simp [dV] at p
end
def tX (g:dF) (m:aX) (g':dF) (m':aX) (ρ:Nat→Nat→Option (Nat × Nat)):Prop:=
 ∀ b ver b' ver',ρ b ver=some (b',ver')→∀ B,g b=some B→ver≤B.ver→
  ∃ B',g' b'=some B'∧ver'≤B'.ver∧(B'.ver=ver'→B.ver=ver∧m' b'=m b∧B'.esz=B.esz)
mutual
theorem xm {g g':dF} {m G:aX} {S S':aU} {ρ:Nat→Nat→Option (Nat × Nat)} (j:oW S S') (h:tX g m g' G ρ):∀ (x:AV) {v:Value},VR g m S x v→VR g' G S' (ren ρ x) v
 | .int k n,_,p=>by simp only [VR] at p;simp only [ren,VR];exact dn j _ p
 | .bool _,_,p=>by simp only [VR] at p;simp only [ren,VR];exact dn j _ p
 | .str _,_,p=>by simp only [VR] at p;simp only [ren,VR];exact dn j _ p
 | .nilS,_,p=>by simp only [VR] at p;simp only [ren,VR];exact dn j _ p
 | .nilP,_,p=>by simp only [VR] at p;simp only [ren,VR];exact dn j _ p
 | .nilF,_,p=>by simp only [VR] at p;simp only [ren,VR];exact dn j _ p
 | .nilI,_,p=>by simp only [VR] at p;simp only [ren,VR];exact dn j _ p
 | .sl _ _ _,_,p=>by simp only [VR] at p;simp only [ren,VR];exact dn j _ p
 | .pp _ _,_,p=>by simp only [VR] at p;simp only [ren,VR];exact dn j _ p
 | .mp _ _,_,p=>by simp only [VR] at p;simp only [ren,VR];exact dn j _ p
 | .dead,_,_=>by simp only [ren,VR]
 | .own _ _ _,_,p=>by simp only [VR] at p
 | .agg l,_,p=>by
  simp only [VR] at p;simp only [ren,VR]
  obtain ⟨vs,e,q⟩:=p
  exact ⟨vs,e,kF j h l q⟩
 | .tup l,_,p=>by
  simp only [VR] at p;simp only [ren,VR]
  obtain ⟨vs,e,q⟩:=p
  exact ⟨vs,e,kF j h l q⟩
 | .fn f a c,_,p=>by
  simp only [VR] at p;simp only [ren,VR]
  obtain ⟨H,I,e,q,r⟩:=p
  exact ⟨H,I,e,kF j h a q,kF j h c r⟩
 | .ifc t x,_,p=>by
  simp only [VR] at p;simp only [ren,VR]
  obtain ⟨u,e,q⟩:=p
  exact ⟨u,e,xm j h x q⟩
 | .ref b ver i n,_,p=>by
  simp only [VR] at p;simp only [ren]
  obtain ⟨B,E,C,s,q⟩:=p
  cases hρ:ρ b ver with
  |none=>simp only [VR]
  |some bv=>
   obtain ⟨D,d⟩:=bv
   obtain ⟨B',y,o,A⟩:=h b ver D d hρ B E C
   simp only [VR]
   refine ⟨B',y,o,s,fun e=> ?_⟩
   obtain ⟨F,z,J⟩:=A e
   rw [z,J]
   exact q F
 | .ptr b ver off,_,p=>by
  simp only [VR] at p;simp only [ren]
  obtain ⟨B,E,C,s,q⟩:=p
  cases hρ:ρ b ver with
  |none=>simp only [VR]
  |some bv=>
   obtain ⟨D,d⟩:=bv
   obtain ⟨B',y,o,A⟩:=h b ver D d hρ B E C
   simp only [VR]
   refine ⟨B',y,o,s,fun e=> ?_⟩
   obtain ⟨F,z,_⟩:=A e
   rw [z]
   exact q F
 | .mr b ver,_,p=>by
  simp only [VR] at p;simp only [ren]
  obtain ⟨B,E,C,s,q⟩:=p
  cases hρ:ρ b ver with
  |none=>simp only [VR]
  |some bv=>
   obtain ⟨D,d⟩:=bv
   obtain ⟨B',y,o,A⟩:=h b ver D d hρ B E C
   simp only [VR]
   refine ⟨B',y,o,s,fun e=> ?_⟩
   obtain ⟨F,z,_⟩:=A e
   rw [z]
   exact q F
theorem kF {g g':dF} {m b:aX} {S S':aU} {ρ:Nat→Nat→Option (Nat × Nat)} (a:oW S S') (h:tX g m g' b ρ):∀ (l:List AV) {vs:List Value},aY g m S l vs→aY g' b S' (mP ρ l) vs
 | [],[],_=>by simp only [mP,aY]
 |x::r,v::vs,p=>by simp only [aY] at p;simp only [mP,aY];exact ⟨xm a h x p.1,kF a h r p.2⟩
 | [],_::_,p=>by simp [aY] at p
 |_::_,[],p=>by simp [aY] at p
end
def Ge (g:dF) (m:aX) (g':dF) (m':aX):Prop:=
 ∀ b B,g b=some B→∃ B',g' b=some B'∧B'.esz=B.esz∧((B'.ver=B.ver∧m' b=m b)∨B.ver<B'.ver)
theorem Ge.refl (g:dF) (m:aX):Ge g m g m:=fun _ B h=> ⟨B,h,rfl,.inl ⟨rfl,rfl⟩⟩
theorem Ge.trans {g g' i:dF} {m k a:aX} (h:Ge g m g' k) (o:Ge g' k i a):Ge g m i a:=by
 intro b B p
 obtain ⟨B',j,e,c⟩:=h b B p
 obtain ⟨B'',f,e',r⟩:=o b B' j
 refine ⟨B'',f,e'.trans e, ?_⟩
 rcases c with ⟨s,q⟩|c<;>rcases r with ⟨l,n⟩|d
 ·exact .inl ⟨l.trans s,n.trans q⟩
 ·exact .inr (by omega)
 ·exact .inr (by omega)
 ·exact .inr (by omega)
mutual
theorem pR {g g':dF} {m D:aX} {S S':aU} (o:oW S S') (h:Ge g m g' D):∀ (x:AV) {v:Value},VR g m S x v→VR g' D S' x v
 | .int k n,_,p=>by simp only [VR] at p ⊢;exact dn o _ p
 | .bool _,_,p=>by simp only [VR] at p ⊢;exact dn o _ p
 | .str _,_,p=>by simp only [VR] at p ⊢;exact dn o _ p
 | .nilS,_,p=>by simp only [VR] at p ⊢;exact dn o _ p
 | .nilP,_,p=>by simp only [VR] at p ⊢;exact dn o _ p
 | .nilF,_,p=>by simp only [VR] at p ⊢;exact dn o _ p
 | .nilI,_,p=>by simp only [VR] at p ⊢;exact dn o _ p
 | .sl _ _ _,_,p=>by simp only [VR] at p ⊢;exact dn o _ p
 | .pp _ _,_,p=>by simp only [VR] at p ⊢;exact dn o _ p
 | .mp _ _,_,p=>by simp only [VR] at p ⊢;exact dn o _ p
 | .dead,_,_=>by simp only [VR]
 | .own _ _ _,_,p=>by simp only [VR] at p
 | .agg l,_,p=>by
  simp only [VR] at p ⊢
  obtain ⟨vs,e,q⟩:=p
  exact ⟨vs,e,lX o h l q⟩
 | .tup l,_,p=>by
  simp only [VR] at p ⊢
  obtain ⟨vs,e,q⟩:=p
  exact ⟨vs,e,lX o h l q⟩
 | .fn f a c,_,p=>by
  simp only [VR] at p ⊢
  obtain ⟨F,G,e,q,r⟩:=p
  exact ⟨F,G,e,lX o h a q,lX o h c r⟩
 | .ifc t x,_,p=>by
  simp only [VR] at p ⊢
  obtain ⟨u,e,q⟩:=p
  exact ⟨u,e,pR o h x q⟩
 | .ref b ver i n,_,p=>by
  simp only [VR] at p ⊢
  obtain ⟨B,y,C,d,q⟩:=p
  obtain ⟨B',j,A,s⟩:=h b B y
  rcases s with ⟨E,z⟩|c
  ·refine ⟨B',j,by omega,d,fun e=> ?_⟩
   rw [z,A]
   exact q (by omega)
  ·exact ⟨B',j,by omega,d,fun e=>by omega⟩
 | .ptr b ver off,_,p=>by
  simp only [VR] at p ⊢
  obtain ⟨B,y,C,d,q⟩:=p
  obtain ⟨B',j,A,s⟩:=h b B y
  rcases s with ⟨E,z⟩|c
  ·refine ⟨B',j,by omega,d,fun e=> ?_⟩
   rw [z]
   exact q (by omega)
  ·exact ⟨B',j,by omega,d,fun e=>by omega⟩
 | .mr b ver,_,p=>by
  simp only [VR] at p ⊢
  obtain ⟨B,y,C,d,q⟩:=p
  obtain ⟨B',j,A,s⟩:=h b B y
  rcases s with ⟨E,z⟩|c
  ·refine ⟨B',j,by omega,d,fun e=> ?_⟩
   rw [z]
   exact q (by omega)
  ·exact ⟨B',j,by omega,d,fun e=>by omega⟩
theorem lX {g g':dF} {m b:aX} {S S':aU} (a:oW S S') (h:Ge g m g' b):∀ (l:List AV) {vs:List Value},aY g m S l vs→aY g' b S' l vs
 | [],[],_=>by simp only [aY]
 |x::r,v::vs,p=>by simp only [aY] at p ⊢;exact ⟨pR a h x p.1,lX a h r p.2⟩
 | [],_::_,p=>by simp [aY] at p
 |_::_,[],p=>by simp [aY] at p
end
def U6 (ap:AP) (S:aU):Prop:=∀ k xs,(ap.gl[k]?).join=some xs→∃ vs,dV S xs vs∧kE S k 0 vs
structure iJ (P:Program) (ap:AP):Prop where
 ty:∀ t ti,ap.tyAt t=some ti→Yx P t=some ti
def xH (es:Array MapEntry):Array Value:=#[.agg (es.map (·.key)),.agg (es.map (·.val))]
def jr (w:World) (k z:Nat) (cur:Array Value) (e:TypeId):Prop:=
 (z ≠ iG∧w.heap[k]? =some (.cells cur e (0,0)))∨(z=iG∧∃ es clk,w.heap[k]? =some (.map es clk)∧cur=xH es)
def kG (w:World) (k o:Nat):Option Value:=match w.heap[k]? with
 |some (.map es _)=>(xH es)[o]?
 |_=>match w.cell? ⟨k,o,none⟩ with|some v=>if v.oneCell' then some v else none|none=>none
theorem jr.of {w:World} {k z:Nat} {cur:Array Value} {e:TypeId} (a:z ≠ iG) (h:w.heap[k]? =some (.cells cur e (0,0))):jr w k z cur e:= .inl ⟨a,h⟩
theorem jr.cells {w:World} {k z:Nat} {cur:Array Value} {e:TypeId} (h:jr w k z cur e) (a:z ≠ iG):w.heap[k]? =some (.cells cur e (0,0)):=by
 rcases h with h|h
 ·exact h.2
 ·exact absurd h.1 a
theorem jr.map {w:World} {k z:Nat} {cur:Array Value} {e:TypeId} (h:jr w k z cur e) (a:z=iG):∃ es clk,w.heap[k]? =some (.map es clk)∧cur=xH es:=by
 rcases h with h|h
 ·exact absurd a h.1
 ·exact h.2
theorem jr.same {w w':World} {k z:Nat} {cur:Array Value} {e:TypeId} (h:jr w k z cur e) (a:w'.heap[k]? =w.heap[k]?):jr w' k z cur e:=by
 unfold jr;rw [a];exact h
theorem jr.lt {w:World} {k z:Nat} {cur:Array Value} {e:TypeId} (h:jr w k z cur e):k<w.heap.size:=by
 rcases h with ⟨_,h⟩|⟨_,b,a,h,_⟩<;>exact (Array.getElem?_eq_some_iff.1 h).1
theorem NT {w w':World} {k o:Nat} (b:w'.heap[k]? =w.heap[k]?):kG w' k o=kG w k o:=by
 unfold kG;rw [b,World.cell?_of_block (w:=w) (a:=⟨k,o,none⟩) b]
theorem zX {w:World} {k o:Nat} {v:Value} (h:kG w k o=some v) (a:v.oneCell'=true):w.cell? ⟨k,o,none⟩=some v:=by
 unfold kG at h
 split at h
 ·rename_i d c f
  exfalso
  unfold xH at h
  rcases (show o=0∨o=1∨2≤o by omega) with rfl|rfl|ho
  ·cases h;cases a
  ·cases h;cases a
  ·rw [Array.getElem?_eq_none (by simpa using ho)] at h;cases h
 ·split at h
  ·rename_i e b
   split at h
   ·cases h;exact b
   ·cases h
  ·cases h
theorem DZ {w:World} {k o:Nat} {v:Value} (h:w.cell? ⟨k,o,none⟩=some v) (a:v.oneCell'=true):kG w k o=some v:=by
 unfold kG
 split
 ·rename_i d c b
  unfold World.cell? at h
  simp only [b] at h
  cases h
 ·rw [h];simp only;rw [if_pos a]
theorem vO {w:World} {k o:Nat} {v:Value} (h:kG w k o=some v) (d:v.oneCell'=false):∃ b a,w.heap[k]? =some (.map b a)∧(xH b)[o]? =some v:=by
 unfold kG at h
 split at h
 ·rename_i b a e;exact ⟨b,a,e,h⟩
 ·split at h
  ·split at h
   ·rename_i c;cases h;rw [d] at c;cases c
   ·cases h
  ·cases h
theorem Vr {w:World} {k o:Nat} {v:Value} (h:kG w k o=some v):k<w.heap.size:=by
 cases a:v.oneCell' with
 |true=>exact World.block_lt_of_cell? w _ (zX h a)
 |false=>
  obtain ⟨_,_,b,_⟩:=vO h a
  exact (Array.getElem?_eq_some_iff.1 b).1
structure Sz (g:dF) (m:aX) (S:aU) (w:World) (B:bi) (k c:Nat):Prop where
 lies:∃ cur e vs rest,jr w k B.esz cur e∧cur.toList=vs++rest∧(B.pr=true→dV S B.cells vs)∧aY g m S B.cells vs∧(B.esz ≠ iG→∀ u ∈ vs,u.oneCell'=true)∧(0<B.esz→B.esz ≠ iG→cur.size=c*B.esz∧c≤maxLen)
 fz0:B.fro=false→B.fz=0
 fzle:B.fz≤B.cells.length
structure bV (ap:AP) (g:dF) (m:aX) (S:aU) (w:World):Prop where
 inj:∀ b b' B B',g b=some B→g b'=some B'→(m b).1=(m b').1→b=b'
 blk:∀ b B,g b=some B→Sz g m S w B (m b).1 (m b).2
 sealed:∀ k o v,S k o=some v→kG w k o=some v
 own:∀ b B,g b=some B→∀ o v,S (m b).1 o=some v→B.fro=true∧o<B.fz
 glob:U6 ap S
structure Fr (g:dF) (m:aX) (S:aU) (w:World) (g':dF) (m':aX) (S':aU) (w':World):Prop where
 ge:Ge g m g' m'
 sle:oW S S'
 os:w'.os=w.os
 tape:w'.tape=w.tape
 output:w'.output=w.output
 size:w.heap.size≤w'.heap.size
 rest:∀ k,k<w.heap.size→(∀ b B,g b=some B→(m b).1 ≠ k)→w'.heap[k]? =w.heap[k]?
 img:∀ b B,g' b=some B→w.heap.size≤(m' b).1∨(∃ B0,g b=some B0∧(m' b).1=(m b).1)
 sealN:∀ k o v,S' k o=some v→S k o=some v∨w.heap.size≤k∨∃ b B,g b=some B∧(m b).1=k
theorem Fr.refl (g:dF) (m:aX) (S:aU) (w:World):Fr g m S w g m S w:=
 ⟨Ge.refl g m,oW.refl S,rfl,rfl,rfl,Nat.le_refl _,fun _ _ _=>rfl,fun _ B h=> .inr ⟨B,h,rfl⟩,fun _ _ _ h=> .inl h⟩
theorem Fr.trans {g g' n:dF} {m s i:aX} {S S' S'':aU} {w w' j:World} (h:Fr g m S w g' s S' w') (d:Fr g' s S' w' n i S'' j):Fr g m S w n i S'' j:=by
 refine ⟨h.ge.trans d.ge,h.sle.trans d.sle,d.os.trans h.os,d.tape.trans h.tape,d.output.trans h.output,Nat.le_trans h.size d.size, ?_, ?_, ?_⟩
 ·intro k t r
  rw [d.rest k (Nat.lt_of_lt_of_le t h.size) ?_,h.rest k t r]
  intro b B l e
  rcases h.img b B l with a|⟨B0,c,a⟩
  ·omega
  ·exact r b B0 c (a ▸ e)
 ·intro b B l
  rcases d.img b B l with a|⟨B0,c,a⟩
  ·exact .inl (Nat.le_trans h.size a)
  ·rcases h.img b B0 c with p|⟨B1,q,p⟩
   ·exact .inl (a ▸ p)
   ·exact .inr ⟨B1,q,a.trans p⟩
 ·intro k o v u
  rcases d.sealN k o v u with f|f|⟨b,B,l,f⟩
  ·exact h.sealN k o v f
  ·exact .inr (.inl (Nat.le_trans h.size f))
  ·rcases h.img b B l with a|⟨B0,c,a⟩
   ·exact .inr (.inl (f ▸ a))
   ·exact .inr (.inr ⟨b,B0,c,by rw [← f,a]⟩)
theorem bV.lt {ap:AP} {g:dF} {m:aX} {S:aU} {w:World} (h:bV ap g m S w) {b:Nat} {B:bi} (a:g b=some B):(m b).1<w.heap.size:=by
 obtain ⟨cur,e,vs,rest,c,_⟩:=(h.blk b B a).lies
 exact c.lt
theorem bV.one {ap:AP} {g:dF} {m:aX} {S:aU} {w:World} (h:bV ap g m S w) {k o:Nat} {v:Value} (a:S k o=some v) (b:v.oneCell'=true):w.cell? ⟨k,o,none⟩=some v:=zX (h.sealed k o v a) b
theorem uA {w:World} {k j:Nat} {cur:Array Value} {e:TypeId} {a:Nat × Nat} (h:w.heap[k]? =some (.cells cur e a)):w.cell? ⟨k,j,none⟩=cur.toList[j]? :=by
 rw [cell_of_row w k j cur e a h];simp
theorem jr.get {w:World} {k z j:Nat} {cur:Array Value} {e:TypeId} {u:Value} (h:jr w k z cur e) (a:cur.toList[j]? =some u) (c:z ≠ iG→u.oneCell'=true):kG w k j=some u:=by
 rcases h with ⟨b,h⟩|⟨_,f,d,h,rfl⟩
 ·exact DZ (by rw [uA h];exact a) (c b)
 ·unfold kG;rw [h];simpa using a
theorem fV {a b:IntKind} (h:iH a b=true):a=b:=by cases a<;>cases b<;>first|rfl|(exact absurd h (by decide))
theorem aP {a b:Nat} (h:Nat.beq a b=true):a=b:=Nat.eq_of_beq_eq_true h
theorem fH {a b:Nat} (h:Nat.ble a b=true):a≤b:=Nat.le_of_ble_eq_true h
theorem f_ {a b:Nat} (h:Nat.blt a b=true):a<b:=by
 have:Nat.ble (a+1) b=true:=h
 exact fH this
theorem adV {S:aU} {x:AV} {v:Value} (h:PR S x v) (a:oH x=true):v.oneCell'=true:=by
 cases x<;>simp only [PR] at h<;>first
  |(subst h;rfl)
  |(rcases h with ⟨rfl,_⟩|⟨_,_,_,rfl,_⟩<;>rfl)
  |(obtain ⟨_,_,_,rfl,_⟩:=h;rfl)
  |(obtain ⟨_,_,rfl,_⟩:=h;rfl)
  |(obtain ⟨_,rfl,_⟩:=h;first|rfl|exact absurd a (by simp [oH]))
  |(exact absurd a (by simp [oH]))
theorem NI {g:dF} {m:aX} {S:aU} {x:AV} {v:Value} (h:VR g m S x v) (a:oH x=true):v.oneCell'=true:=by
 cases x<;>simp only [VR] at h<;>first
  | (exact adV h a)
    |(obtain ⟨_,_,_,⟨_,_,rfl⟩,_⟩:=h;rfl)
  |(obtain ⟨_,_,_,⟨_,_,_,rfl⟩,_⟩:=h;rfl)
  |(obtain ⟨_,_,rfl,_⟩:=h;rfl)
  |(obtain ⟨_,rfl,_⟩:=h;first|rfl|exact absurd a (by simp [oH]))
  |(exact absurd a (by simp [oH]))
end AM
namespace AM
open Go
structure CP (P:Program) (t:Nat) (ti:TI) (i:TypeInfo) (d:TypeDesc) (z:Value):Prop where
 info:P.info? t=some i
 und:P.underlying t=some d
 d_eq:ti.d=jR P (some d)
 size:ti.size=i.size
 bytes:ti.bytes=i.bytes
 zero:i.zero=some z
 zcells:ti.zero=z.cells.toList.map E_
 zleaf:∀ x ∈ ti.zero,oH x=true
 zsize:z.cells.size=i.size
 lks:ti.lks.length=i.size
 pos:0<i.size
 zagg:ag9 i d=true
 fld:Wx P d=true
 small:i.size<iG
theorem dQ {P:Program} {ap:AP} (f:iJ P ap) {t:Nat} {e:TI} (h:ap.tyAt t=some e):∃ i d z,CP P t e i d z:=by
 have a:=f.ty t e h
 unfold Yx at a
 cases b:P.info? t with
 |none=>simp [b] at a
 | some i=>
  cases hd:P.underlying t with
  |none=>simp [b,hd] at a
  | some d=>
   simp only [b,hd] at a
   split at a
   ·rename_i j
    simp only [Bool.and_eq_true] at j
    obtain ⟨⟨⟨⟨⟨⟨u,l⟩,s⟩,p⟩,q⟩,n⟩,o⟩:=j
    cases c:i.zero with
    |none=>simp [c] at n
    | some z=>
     cases a
     have k:F_ i=z.cells.toList.map E_:=by simp [F_,c]
     refine ⟨i,d,z,b,hd,rfl,rfl,rfl,c,k, ?_, ?_,aP u,f_ q,l.1,l.2,f_ o⟩
     ·intro x r;exact List.all_eq_true.1 s x r
     ·have:=aP p
      rw [k] at this
      simpa using this
   ·cases a
theorem gV {P:Program} {d:TypeDesc} {e:Nat} (h:jR P (some d)= .slice e):d= .slice e:=by cases d<;>simp [jR] at h;subst h;rfl
theorem zC {P:Program} {d:TypeDesc} {n e:Nat} (h:jR P (some d)= .array n e):d= .array n e:=by cases d<;>simp [jR] at h;obtain ⟨rfl,rfl⟩:=h;rfl
theorem xU {P:Program} {d:TypeDesc} (h:jR P (some d)= .str):d= .string:=by cases d<;>simp [jR] at h;rfl
theorem Yu {P:Program} {d:TypeDesc} {k:IntKind} (h:jR P (some d)= .int k):d= .int k:=by cases d<;>simp [jR] at h;subst h;rfl
theorem acA {P:Program} {d:TypeDesc} (h:jR P (some d)= .bool):d= .bool:=by cases d<;>simp [jR] at h;rfl
theorem wF {P:Program} {d:TypeDesc} {a:List (Nat × Nat × Nat)} (h:jR P (some d)= .struct a):
  ∃ fields:Array Field,d= .struct fields∧a=fields.toList.map fun f=>(f.offset,f.type,match P.info? f.type with|some i=>i.size|none=>0):=by
 cases d<;>simp [jR] at h
 exact ⟨_,rfl,h.symm⟩
theorem FY {P:Program} (d:TypeDesc):Jl (jR P (some d))=d.isRow:=by cases d<;>simp [jR,Jl,TypeDesc.isRow]
theorem G7 (S:aU) (v:Value):PR S (JA v) v:=by
 cases v<;>simp only [JA,PR]
 case pointer a=>cases a<;>simp only [PR]
 case map a=>
  cases a with
  |none=>simp [PR]
  |some _=>simp only [PR]
 case slice a n c=>
  split<;>simp only [PR]
theorem J8 (S:aU) (v:Value):PR S (E_ v) v:=by
 cases v<;>simp only [E_]<;>try exact G7 S _
 case agg cs=>
  simp only [PR]
  refine ⟨cs.toList,by simp, ?_⟩
  induction cs.toList with
  |nil=>simp [dV]
  |cons c r ih=>simp only [List.map_cons,dV];exact ⟨G7 S c,ih⟩
 case tuple vs=>
  split
  ·rename_i h
   simp only [PR]
   exact ⟨[],by rw [← h],by simp [dV]⟩
  ·simp only [PR]
theorem wP (S:aU):∀ l:List Value,dV S (l.map E_) l
 | []=>by simp [dV]
 |v::r=>by simp only [List.map_cons,dV];exact ⟨J8 S v,wP S r⟩
theorem adX {g:dF} {m:aX} {S:aU} {k:LK} {c:AV} {v:Value} (h:VR g m S c v) (f:chk k c=true):VR g m S (eta k c) v:=by
 cases k<;>cases c<;>simp [chk] at f<;>simp only [eta,AV.toInt,AV.toBool,AV.toStr,AV.slX,AV.slN]<;>try exact h
 ·rw [fV f];exact h
 ·simp only [VR,PR] at h ⊢
  subst h
  exact ⟨none,0,rfl,Nat.le_refl _,.inl ⟨fun _=>trivial,trivial,trivial,rfl⟩⟩
 ·simp only [VR,PR] at h ⊢
  obtain ⟨a,b,e,d,q⟩:=h
  refine ⟨a,b,e,d, ?_⟩
  rcases q with ⟨n,l,j,i⟩|q
  ·exact .inl ⟨fun _=>trivial,l,j,i⟩
  ·exact .inr q
theorem Bl {k:LK} {c:AV} (h:chk k c=true):c ≠ .dead:=by intro e;subst e;cases k<;>simp [chk] at h
theorem getD_some {xs:List AV} {i:Nat} (h:xs.getD i .dead ≠ .dead):xs[i]? =some (xs.getD i .dead):=by
 rw [List.getD_eq_getElem?_getD] at h ⊢
 cases a:xs[i]? with
 |none=>simp [a] at h
 |some x=>simp
theorem ou (xs:List AV) (a:Nat):(xs.drop a).headD .dead=xs.getD a .dead:=by
 rw [List.headD_eq_head?_getD,List.head?_drop,List.getD_eq_getElem?_getD]
theorem Uo (ty:Bool) (xs:List AV) (a:Nat):vk ty [] xs a= []:=rfl
theorem xM (ty:Bool) (k:LK) (ks:List LK) (xs:List AV) (a:Nat):vk ty (k::ks) xs a=(match ty with|true=>eta k (xs.getD a .dead)|false=>xs.getD a .dead)::vk ty ks xs (a+1):=by
 show _::MF ty ks (xs.drop a).tail=_::MF ty ks (xs.drop (a+1))
 rw [List.tail_drop]
 cases ty<;>simp only [ou]
theorem SS (ty:Bool) (k:LK) (ks:List LK) (xs:List AV) (a:Nat):IX ty (k::ks) xs a=(match ty with|true=>chk k (xs.getD a .dead)|false=>chk .oth (xs.getD a .dead))::IX ty ks xs (a+1):=by
 show _::Vs ty ks (xs.drop a).tail=_::Vs ty ks (xs.drop (a+1))
 rw [List.tail_drop]
 cases ty<;>simp only [ou]
theorem qg {g:dF} {m:aX} {S:aU} (ty:Bool) {xs:List AV} {vs:List Value} (i:aY g m S xs vs):∀ (lks:List LK) (a:Nat),(∀ b ∈ IX ty lks xs a,b=true)→
  ∃ e:List Value,e.length=lks.length∧(∀ j u,e[j]? =some u→vs[a+j]? =some u)∧aY g m S (vk ty lks xs a) e:=by
 intro lks
 induction lks with
 |nil=>exact fun a _=> ⟨[],rfl,fun _ _ h=>by simp at h,by simp [Uo,aY]⟩
 | cons k ks ih=>
  intro a h
  simp only [SS,List.mem_cons,forall_eq_or_imp] at h
  obtain ⟨e,o,l,n⟩:=ih (a+1) h.2
  have key:∃ v,vs[a]? =some v∧VR g m S ((vk ty (k::ks) xs a).headD .dead) v:=by
   rw [xM]
   cases ty with
   |true=>
    obtain ⟨v,d,c⟩:=rY i a (getD_some (Bl h.1))
    exact ⟨v,d,adX c h.1⟩
   |false=>
    obtain ⟨v,d,c⟩:=rY i a (getD_some (Bl h.1))
    exact ⟨v,d,c⟩
  obtain ⟨v,d,c⟩:=key
  rw [xM] at c
  refine ⟨v::e,by simp [o], ?_, ?_⟩
  ·intro j u f
   cases j with
   |zero=>simp at f;subst f;simpa using d
   |succ j=>simp at f;rw [show a+(j+1)=a+1+j from by omega];exact l j u f
  ·simp only [xM,aY];exact ⟨c,n⟩
theorem EM {P:Program} {w:World} {t:Nat} {h:TI} {i:TypeInfo} {d:TypeDesc} {z:Value} (f:CP P t h i d z) {g:dF} {m:aX} {S:aU} {o:List AV} {e:List Value} {k a:Nat}
  (hl:e.length=h.lks.length) (hu:∀ j u,e[j]? =some u→w.cell? ⟨k,a+j,none⟩=some u) (hr:aY g m S o e) {v:AV} (hv:rG h o=some v):
  ∃ cv,(loadVar t ⟨k,a,none⟩).run P w= .ok cv w∧VR g m S v cv:=by
 unfold rG at hv
 rw [f.d_eq,FY] at hv
 split at hv
 ·rename_i b
  cases hv
  refine ⟨.agg e.toArray,run_loadVar_mid w k a t e d hu f.und b (by simp [f.info,hl,f.lks]), ?_⟩
  simp only [VR];exact ⟨e,rfl,hr⟩
 ·rename_i b
  split at hv
  ·rename_i c
   cases hv
   cases e with
   |nil=>simp [aY] at hr
   | cons u r=>
    simp only [aY] at hr
    refine ⟨u, ?_,hr.1⟩
    have l:(isAgg t).run P w= .ok false w:=by
     unfold isAgg;rw [Sem.run_bind,run_underlying f.und w]
     cases d<;>simp_all [TypeDesc.isRow]
    have n:=hu 0 u rfl
    simp only [Nat.add_zero] at n
    simp [loadVar,l,n]
  ·cases hv
theorem bind_some {α β:Type} {x:Option α} {f:α→Option β} {b:β} (h:x.bind f=some b):∃ a,x=some a∧f a=some b:=by
 cases x with
 |none=>simp at h
 |some a=>exact ⟨a,rfl,h⟩
theorem aT {v b:AV} {bs a:List Bool} {ups:List (Nat × bi)} (h:bC v bs=some (b,ups,a)):b=v∧ups= []∧a=bs:=by
 unfold bC at h;cases h;exact ⟨rfl,rfl,rfl⟩
section
variable {P:Program} {ap:AP} {g:dF} {m:aX} {S:aU} {w:World}
theorem BC (L:bV ap g m S w) {rd:dF} (I:∀ b B,rd b=some B→g b=some B) {t:Nat} {x:TI} {i:TypeInfo} {d:TypeDesc} {z:Value} (K:CP P t x i d z)
  {p v:AV} {cp:Value} (hp:VR g m S p cp) {ups:List (Nat × bi)} {bs:List Bool} (h:LH x rd p=some (v,ups,bs)) (hbs:∀ b ∈ bs,b=true):
  ups= []∧∃ cv,(Instr.loadAt t cp).run P w= .ok cv w∧VR g m S v cv:=by
 unfold LH at h
 split at h
 ·rename_i xs f
  obtain ⟨O,l,h⟩:=bind_some h
  obtain ⟨rfl,rfl,rfl⟩:=aT h
  simp only [VR,PR] at hp
  obtain ⟨b,o,vs,rfl,hp,hs⟩:=hp
  obtain ⟨N,C,F,G⟩:=qg (g:=g) (m:=m) true (bW _ hp) x.lks f hbs
  obtain ⟨cv,E,H⟩:=EM (w:=w) K (k:=b) (a:=o+f) C (fun j u y=>by
   have M:=hs (f+j) u (F j u y);have:=L.one M.1 M.2;rw [Nat.add_assoc];exact this) G l
  exact ⟨rfl,cv,by simpa [Instr.loadAt,Instr.sureAddr] using E,H⟩
 ·rename_i b ver f
  obtain ⟨B,R,h⟩:=bind_some h
  split at h
  ·rename_i c
   obtain ⟨O,l,h⟩:=bind_some h
   obtain ⟨rfl,rfl,rfl⟩:=aT h
   simp only [VR] at hp
   obtain ⟨B',n,_,_,q⟩:=hp
   have r:=I b B R
   rw [r] at n;cases n
   simp only [Bool.and_eq_true,Bool.not_eq_true'] at c
   have J:B.esz ≠ iG:=fun e=>by rw [e] at c;exact absurd c.2 (by decide)
   have q:=q (aP c.1)
   subst q
   obtain ⟨cur,e,vs,rest,D,Q,_,A,_⟩:=(L.blk b B r).lies
   have D:=D.cells J
   obtain ⟨N,C,F,G⟩:=qg _ A x.lks f hbs
   obtain ⟨cv,E,H⟩:=EM (w:=w) K (k:=(m b).1) (a:=f) C (fun j u y=>by
    have s:=F j u y
    rw [uA D,Q,List.getElem?_append_left (List.getElem?_eq_some_iff.1 s).1]
    exact s) G l
   exact ⟨rfl,cv,by simpa [Instr.loadAt,Instr.sureAddr] using E,H⟩
  ·cases h
 ·cases h
theorem Fa {p d:AV} {f:Value} (hp:VR g m S p f) {o:Nat} (h:Xy p o=some d):∃ a:Addr,f= .pointer (some a)∧VR g m S d (.pointer (some (a.add o))):=by
 unfold Xy at h
 split at h<;>cases h
 ·rename_i b ver c
  simp only [VR] at hp
  obtain ⟨B,n,l,⟨k,j,rfl⟩,q⟩:=hp
  refine ⟨_,rfl, ?_⟩
  simp only [VR]
  refine ⟨B,n,l,⟨k,j+o,by rw [Addr.add_mid]⟩,fun e=> ?_⟩
  have q:=q e
  simp only [Value.pointer.injEq,Option.some.injEq,Addr.mk.injEq] at q
  obtain ⟨i,r,_⟩:=q
  rw [Addr.add_mid,i,r]
 ·rename_i xs c
  simp only [VR,PR] at hp
  obtain ⟨b,k,vs,rfl,hp,hs⟩:=hp
  refine ⟨_,rfl, ?_⟩
  simp only [VR,PR]
  exact ⟨b,k,vs,by rw [Addr.add_mid,Nat.add_assoc],hp,hs⟩
end
end AM
namespace AM
open Go
section
variable {P:Program} {ap:AP} {g:dF} {m:aX} {S:aU} {w:World}
theorem cZ {b:Bool} {l:List Bool} (h:∀ x ∈ b::l,x=true):b=true∧∀ x ∈ l,x=true:=⟨h b (by simp),fun x a=>h x (by simp [a])⟩
theorem ku {t:Nat} {b:TI} {i:TypeInfo} {d:TypeDesc} {z:Value} (a:CP P t b i d z) (w:World):(Go.sizeOf t).run P w= .ok b.size w:=by
 simp [Go.sizeOf,typeInfo,a.info,a.size]
theorem Bz {x:AV} {a:Value} (b:VR g m S x a) {n:Int} (h:QA x=some n):∃ k,a= .int k n:=by
 cases x<;>simp [QA] at h
 subst h
 simp only [VR,PR] at b
 exact ⟨_,b⟩
theorem Cf {t:Nat} {r:TI} {i:TypeInfo} {d:TypeDesc} {z:Value} (q:CP P t r i d z) {n:List (Nat × Nat × Nat)} (hd:r.d= .struct n) {f o y sz:Nat} (l:n[f]? =some (o,y,sz)) (c:Nat.blt 0 sz=true)
  {p v:AV} {cp:Value} (hp:VR g m S p cp) (k:Xy p o=some v):∃ cv,(Instr.fieldAt t cp f).run P w= .ok cv w∧VR g m S v cv:=by
 rw [q.d_eq] at hd
 obtain ⟨fields,rfl,rfl⟩:=wF hd
 simp only [List.getElem?_map,Option.map_eq_some_iff] at l
 obtain ⟨u,h,s⟩:=l
 simp only [Prod.mk.injEq] at s
 obtain ⟨rfl,rfl,hs⟩:=s
 obtain ⟨a,rfl,k⟩:=Fa hp k
 refine ⟨_, ?_,k⟩
 have b:fields[f]? =some u:=by simpa using h
 cases e:P.info? u.type with
 |none=>rw [e] at hs;simp only at hs;subst hs;exact absurd (f_ c) (by omega)
 |some j=>
  rw [e] at hs
  have x:j.size ≠ 0:=by have:=f_ c;simp only at hs;omega
  simp [Instr.fieldAt,run_underlying q.und,b,Instr.sureAddr,fieldPlace,Go.sizeOf,typeInfo,e,x]
theorem oL {i:Int} {n:Nat} (c:decide (0≤i)=true) (d:decide (i<n)=true):0≤i∧i<n∧i.toNat<n:=by
 have a:=of_decide_eq_true c
 have b:=of_decide_eq_true d
 omega
theorem Af (s:iJ P ap) {rd:dF} (G:∀ b B,rd b=some B→g b=some B) {t:Nat} {H:TI} {i:TypeInfo} {d:TypeDesc} {z:Value} (A:CP P t H i d z)
  {x ix v:AV} {cx ci:Value} (hx:VR g m S x cx) (hi:VR g m S ix ci) {ups:List (Nat × bi)} {bs:List Bool} (h:xC ap H rd x ix=some (v,ups,bs)) (hbs:∀ b ∈ bs,b=true):
  ups= []∧∃ cv,(Instr.indexAt t cx ci).run P w= .ok cv w∧VR g m S v cv:=by
 unfold xC at h
 have l:=bind_some h;clear h;obtain ⟨n,M,h⟩:=l
 obtain ⟨k,rfl⟩:=Bz hi M
 split at h
 ·rename_i e hd
  have l:=bind_some h;clear h;obtain ⟨F,c,h⟩:=l
  obtain ⟨N,L,T,c⟩:=dQ s c
  rw [A.d_eq] at hd
  have hd:=gV hd
  subst hd
  split at h
  ·rename_i xs len nn
   obtain ⟨rfl,rfl,rfl⟩:=aT h
   obtain ⟨r,f⟩:=cZ hbs
   obtain ⟨f,_⟩:=cZ f
   obtain ⟨C,y,K⟩:=oL r f
   simp only [VR,PR] at hx
   obtain ⟨a,Q,rfl,R,q⟩:=hx
   rcases q with ⟨_,_,q,_⟩|⟨b,o,vs,rfl,hp,hs⟩
   ·subst q;omega
   ·refine ⟨rfl,.pointer (some ⟨b,o+n.toNat*F.size,none⟩), ?_, ?_⟩
    ·simp [Instr.indexAt,asIntOf,run_underlying A.und,C,y,ku c,Addr.add_mid]
    ·simp only [VR,PR];exact ⟨b,o,vs,rfl,hp,hs⟩
  ·rename_i b ver j len
   have l:=bind_some h;clear h;obtain ⟨B,U,h⟩:=l
   split at h
   ·rename_i D
    simp only [Bool.and_eq_true] at D
    obtain ⟨rfl,rfl,rfl⟩:=aT h
    obtain ⟨r,f⟩:=cZ hbs
    obtain ⟨f,_⟩:=cZ f
    obtain ⟨C,y,K⟩:=oL r f
    simp only [VR] at hx
    obtain ⟨B',u,I,_,q⟩:=hx
    have J:=G b B U
    rw [J] at u;cases u
    obtain ⟨o,rfl,W,V,X⟩:=q (aP D.1)
    have O:=V (by omega)
    have E:=aP D.2
    refine ⟨rfl,.pointer (some ⟨(m b).1,(j+n.toNat)*F.size,none⟩), ?_, ?_⟩
    ·rw [O,E]
     simp [Instr.indexAt,asIntOf,run_underlying A.und,C,y,ku c,Addr.add_mid,Nat.add_mul]
    ·simp only [VR];exact ⟨B,J,by have:=aP D.1;omega,⟨_,_,rfl⟩,fun _=>trivial⟩
   ·cases h
  ·cases h
 ·rename_i len e hd
  have l:=bind_some h;clear h;obtain ⟨F,c,h⟩:=l
  obtain ⟨N,L,T,c⟩:=dQ s c
  have l:=bind_some h;clear h;obtain ⟨p,hp,h⟩:=l
  obtain ⟨rfl,rfl,rfl⟩:=aT h
  rw [A.d_eq] at hd
  have hd:=zC hd
  subst hd
  obtain ⟨r,f⟩:=cZ hbs
  obtain ⟨f,_⟩:=cZ f
  obtain ⟨C,y,K⟩:=oL r f
  obtain ⟨a,rfl,I⟩:=Fa hx hp
  refine ⟨rfl,_, ?_,I⟩
  simp [Instr.indexAt,asIntOf,run_underlying A.und,C,y,ku c,Instr.sureAddr]
 ·cases h
theorem Fh {t:Nat} {h:TI} {i:TypeInfo} {d:TypeDesc} {z:Value} (f:CP P t h i d z) {vs b:List Value} {o:List AV} {e:Nat}
  (hl:b.length=h.lks.length) (hu:∀ j u,b[j]? =some u→vs[e+j]? =some u) (hr:aY g m S o b) {v:AV} (hv:rG h o=some v):
  ∃ cv,(part t vs.toArray e).run P w= .ok cv w∧VR g m S v cv:=by
 have k:(isAgg t).run P w= .ok d.isRow w:=by
  unfold isAgg;rw [Sem.run_bind,run_underlying f.und w]
  cases d<;>simp [TypeDesc.isRow]
 unfold rG at hv
 rw [f.d_eq,FY] at hv
 split at hv
 ·rename_i a
  cases hv
  have q:(vs.drop e).take h.size=b:=by
   apply List.ext_getElem?
   intro j
   rw [List.getElem?_take,List.getElem?_drop]
   have s:h.size=b.length:=by rw [hl,f.lks,f.size]
   split
   ·rename_i p
    have l:j<b.length:=by omega
    have:=hu j b[j] (List.getElem?_eq_getElem l)
    rw [this,List.getElem?_eq_getElem l]
   ·rename_i p
    rw [List.getElem?_eq_none (by omega)]
  refine ⟨.agg b.toArray, ?_, ?_⟩
  ·simp [part,k,a,ku f,q]
  ·simp only [VR];exact ⟨b,rfl,hr⟩
 ·rename_i a
  split at hv
  ·rename_i c
   cases hv
   cases b with
   |nil=>simp [aY] at hr
   |cons u r=>
    simp only [aY] at hr
    refine ⟨u, ?_,hr.1⟩
    have n:=hu 0 u rfl
    simp only [Nat.add_zero] at n
    have a:d.isRow=false:=by simpa using a
    simp [part,k,a,n]
  ·cases hv
theorem Jc (k:iJ P ap) {t:Nat} {q:TI} {i:TypeInfo} {d:TypeDesc} {z:Value} (u:CP P t q i d z) {x v:AV} {s:Value} (j:VR g m S x s) {f:Nat} {ups:List (Nat × bi)} {bs:List Bool}
  (h:Ov ap q x f=some (v,ups,bs)) (hbs:∀ b ∈ bs,b=true):ups= []∧∃ cv,(Instr.field t s f).run P w= .ok cv w∧VR g m S v cv:=by
 unfold Ov at h
 split at h
 ·rename_i M H hd
  have e:=bind_some h;clear h;obtain ⟨⟨o,I,sz⟩,p,h⟩:=e
  have e:=bind_some h;clear h;obtain ⟨tf,a,h⟩:=e
  have e:=bind_some h;clear h;obtain ⟨K,l,h⟩:=e
  obtain ⟨rfl,rfl,rfl⟩:=aT h
  obtain ⟨G,F,L,a⟩:=dQ k a
  rw [u.d_eq] at hd
  obtain ⟨fields,rfl,rfl⟩:=wF hd
  simp only [List.getElem?_map,Option.map_eq_some_iff] at p
  obtain ⟨r,n,y⟩:=p
  simp only [Prod.mk.injEq] at y
  obtain ⟨rfl,rfl,hs⟩:=y
  simp only [VR] at j
  obtain ⟨vs,rfl,j⟩:=j
  obtain ⟨J,A,C,D⟩:=qg false j tf.lks r.offset hbs
  obtain ⟨cv,B,E⟩:=Fh (w:=w) a A C D l
  have c:fields[f]? =some r:=by simpa using n
  refine ⟨rfl,cv, ?_,E⟩
  simp [Instr.field,run_underlying u.und,c,asAgg,B]
 ·cases h
theorem WE (s:List UInt8) (i:Nat) (h:i<s.length):(⟨s.toArray⟩:ByteArray)[i]? =some (s.getD i 0):=by
 have hs:i<(⟨s.toArray⟩:ByteArray).size:=by simpa [ByteArray.size] using h
 rw [getElem?_pos _ i hs]
 simp only [ByteArray.getElem_eq_getElem_data,List.getElem_toArray]
 rw [List.getD_eq_getElem?_getD,List.getElem?_eq_getElem h]
 rfl
theorem Jj (p:iJ P ap) {t:Nat} {A:TI} {i:TypeInfo} {d:TypeDesc} {z:Value} (l:CP P t A i d z) {x C v:AV} {E ci:Value} (f:VR g m S x E) (G:VR g m S C ci) {ups:List (Nat × bi)} {bs:List Bool}
  (h:OA ap A x C=some (v,ups,bs)) (hbs:∀ b ∈ bs,b=true):ups= []∧∃ cv,(Instr.index t E ci).run P w= .ok cv w∧VR g m S v cv:=by
 unfold OA at h
 have j:=bind_some h;clear h;obtain ⟨n,H,h⟩:=j
 obtain ⟨k,rfl⟩:=Bz G H
 split at h
 ·rename_i s hd
  obtain ⟨rfl,rfl,rfl⟩:=aT h
  obtain ⟨o,c⟩:=cZ hbs
  obtain ⟨c,_⟩:=cZ c
  obtain ⟨y,D,F⟩:=oL o c
  rw [l.d_eq] at hd
  have hd:=xU hd
  subst hd
  simp only [VR,PR] at f
  subst f
  refine ⟨rfl,.int .u8 (s.getD n.toNat 0).toNat, ?_,by simp only [VR,PR]⟩
  simp [Instr.index,asIntOf,run_underlying l.und,y,WE s n.toNat F]
 ·rename_i len e T hd
  have j:=bind_some h;clear h;obtain ⟨B,a,h⟩:=j
  have j:=bind_some h;clear h;obtain ⟨Q,q,h⟩:=j
  obtain ⟨rfl,rfl,rfl⟩:=aT h
  obtain ⟨N,M,R,a⟩:=dQ p a
  obtain ⟨o,c⟩:=cZ hbs
  obtain ⟨c,I⟩:=cZ c
  obtain ⟨y,D,F⟩:=oL o c
  rw [l.d_eq] at hd
  have hd:=zC hd
  subst hd
  simp only [VR] at f
  obtain ⟨vs,rfl,f⟩:=f
  obtain ⟨O,J,K,L⟩:=qg true f B.lks (n.toNat*B.size) I
  obtain ⟨cv,r,u⟩:=Fh (w:=w) a J K L q
  refine ⟨rfl,cv, ?_,u⟩
  simp [Instr.index,asIntOf,run_underlying l.und,y,D,ku a,r]
 ·cases h
end
end AM
namespace AM
open Go
section
variable {P:Program} {ap:AP} {g:dF} {m:aX} {S:aU} {w:World}
def DC (g:dF) (m:aX) (S:aU) (x:Option AV) (c:Option Value):Prop:=
 match x,c with
 |none,none=>True
 |some x,some c=>VR g m S x c
 |_,_=>False
theorem gQ {x:Option AV} {c:Option Value} (h:DC g m S x c) {d n:Int} (a:oN x d=some n):(x=none∧c=none∧n=d)∨∃ k,c=some (.int k n):=by
 cases x with
 |none=>cases c with
  |none=>simp [oN] at a;exact .inl ⟨rfl,rfl,a.symm⟩
  |some c=>simp [DC] at h
 | some x=>cases c with
  |none=>simp [DC] at h
  |some c=>
   cases x<;>simp [oN] at a
   subst a
   simp only [DC,VR,PR] at h
   subst h
   exact .inr ⟨_,rfl⟩
theorem tH (P:Program) (w:World) (e:Bool) (len a:Nat) (c b:Option Value) (l h:Int)
  (hl:(c=none∧l=0)∨∃ k,c=some (.int k l)) (i:(b=none∧h=len)∨∃ k,b=some (.int k h)) (h0:0≤l) (h1:l≤h) (h2:h≤a):
  (Instr.sliceBounds e len a c b none).run P w= .ok (l.toNat,h.toNat,a) w:=by
 have f:0≤h:=by omega
 rcases hl with ⟨rfl,rfl⟩|⟨k,rfl⟩<;>rcases i with ⟨rfl,rfl⟩|⟨j,rfl⟩
 ·simp [Instr.sliceBounds]
 ·simp [Instr.sliceBounds,Instr.sliceBound,asIntOf,h2,f]
 ·have d:l≤(len:Int):=h1
  simp [Instr.sliceBounds,Instr.sliceBound,asIntOf,h0,d]
 ·simp [Instr.sliceBounds,Instr.sliceBound,asIntOf,h0,h2,f]
  intro n;omega
theorem Ld (s:List UInt8) (l h:Nat):(⟨s.toArray⟩:ByteArray).extract l h=⟨((s.take h).drop l).toArray⟩:=by
 apply ByteArray.ext
 rw [ByteArray.data_extract]
 apply Array.ext'
 simp [List.extract_eq_take_drop,List.drop_take]
theorem zB (s:List UInt8):(⟨s.toArray⟩:ByteArray).size=s.length:=by simp [ByteArray.size]
theorem kE.drop {b o:Nat} {vs:List Value} (h:kE S b o vs) (n:Nat):kE S b (o+n) (vs.drop n):=by
 intro j u a
 rw [List.getElem?_drop] at a
 rw [Nat.add_assoc]
 exact h _ _ a
theorem kE.take {b o:Nat} {vs:List Value} (h:kE S b o vs) (n:Nat):kE S b o (vs.take n):=by
 intro j u a
 rw [List.getElem?_take] at a
 split at a
 ·exact h _ _ a
 ·cases a
theorem ad9 {a b c:Bool} (h:∀ x ∈ [a,b,c],x=true):a=true∧b=true∧c=true:=⟨h a (by simp),h b (by simp),h c (by simp)⟩
theorem GH {α:Type} (xs:List α) (n:Nat):(xs.take n).drop n= []:=by
 apply List.drop_eq_nil_of_le;simp;omega
theorem JQ (G:iJ P ap) {rd:dF} (L:∀ b B,rd b=some B→g b=some B) {t:Nat} {O:TI} {i:TypeInfo} {d:TypeDesc} {z:Value} (D:CP P t O i d z)
  {x v:AV} {cx:Value} (hx:VR g m S x cx) {lo hi mx:Option AV} {clo chi cmx:Option Value} (hlo:DC g m S lo clo) (hhi:DC g m S hi chi) (hmx:DC g m S mx cmx)
  {ups:List (Nat × bi)} {bs:List Bool} (h:Pn ap O rd x lo hi mx=some (v,ups,bs)) (hbs:∀ b ∈ bs,b=true):
  ups= []∧∃ cv,(Instr.sliceAt t cx clo chi cmx).run P w= .ok cv w∧VR g m S v cv:=by
 have k:mx=none→cmx=none:=by intro e;subst e;cases cmx<;>simp [DC] at hmx ⊢
 unfold Pn at h
 split at h
 ·rename_i s hd
  have f:=bind_some h;clear h;obtain ⟨l,F,h⟩:=f
  have f:=bind_some h;clear h;obtain ⟨u,H,h⟩:=f
  obtain ⟨rfl,rfl,rfl⟩:=aT h
  obtain ⟨p,r,A⟩:=ad9 hbs
  have p:=of_decide_eq_true p
  have r:=of_decide_eq_true r
  have A:=of_decide_eq_true A
  rw [D.d_eq] at hd
  have hd:=xU hd
  subst hd
  simp only [VR,PR] at hx
  subst hx
  rw [k rfl]
  have E:=tH P w false s.length s.length clo chi l u ((gQ hlo F).imp (fun h=> ⟨h.2.1,h.2.2⟩) id) ((gQ hhi H).imp (fun h=> ⟨h.2.1,h.2.2⟩) id) p r A
  refine ⟨rfl,.string ⟨((s.take u.toNat).drop l.toNat).toArray⟩, ?_,by simp only [VR,PR]⟩
  rw [← Ld]
  simp [Instr.sliceAt,Instr.slice,run_underlying D.und,zB,E]
 ·rename_i e xs n nn hd
  have f:=bind_some h;clear h;obtain ⟨y,c,h⟩:=f
  have f:=bind_some h;clear h;obtain ⟨l,F,h⟩:=f
  have f:=bind_some h;clear h;obtain ⟨u,H,h⟩:=f
  obtain ⟨rfl,rfl,rfl⟩:=aT h
  obtain ⟨N,M,T,c⟩:=dQ G c
  obtain ⟨p,r,A⟩:=ad9 hbs
  have p:=of_decide_eq_true p
  have r:=of_decide_eq_true r
  have A:=of_decide_eq_true A
  rw [D.d_eq] at hd
  have hd:=gV hd
  subst hd
  simp only [VR,PR] at hx
  obtain ⟨a,C,rfl,W,q⟩:=hx
  rw [k rfl]
  have E:=tH P w true n C clo chi l u ((gQ hlo F).imp (fun h=> ⟨h.2.1,h.2.2⟩) id) ((gQ hhi H).imp (fun h=> ⟨h.2.1,h.2.2⟩) id) p r (by omega)
  refine ⟨rfl,.slice (if C=l.toNat then a else a.map (·.add (l.toNat*y.size))) (u.toNat - l.toNat) (C - l.toNat), ?_, ?_⟩
  ·simp [Instr.sliceAt,Instr.slice,run_underlying D.und,E,ku c]
  ·simp only [VR,PR]
   refine ⟨_,_,rfl,by omega, ?_⟩
   rcases q with ⟨Q,rfl,rfl,rfl⟩|⟨b,o,vs,rfl,hp,hs⟩
   ·refine .inl ⟨fun h=>Q ?_,by simp,by omega,by omega⟩
    split at h
    ·exact h
    ·simpa using h
   ·refine .inr ?_
    by_cases I:C=l.toNat
    ·refine ⟨b,o,[],by rw [if_pos I], ?_,fun j u h=>by simp at h⟩
     have e:(xs.take (u.toNat*y.size)).drop (l.toNat*y.size)= []:=by
      have:u.toNat=l.toNat:=by omega
      rw [this,GH]
     rw [e];simp [dV]
    ·exact ⟨b,o+l.toNat*y.size,(vs.take (u.toNat*y.size)).drop (l.toNat*y.size),by rw [if_neg I];simp [Addr.add_mid],qJ _ (kD _ hp),(hs.take _).drop _⟩
 ·rename_i e b ver j n hd
  have f:=bind_some h;clear h;obtain ⟨y,c,h⟩:=f
  have f:=bind_some h;clear h;obtain ⟨B,X,h⟩:=f
  have f:=bind_some h;clear h;obtain ⟨l,F,h⟩:=f
  have f:=bind_some h;clear h;obtain ⟨u,H,h⟩:=f
  split at h
  ·rename_i I
   simp only [Bool.and_eq_true] at I
   obtain ⟨rfl,rfl,rfl⟩:=aT h
   obtain ⟨N,M,T,c⟩:=dQ G c
   obtain ⟨p,r,A⟩:=ad9 hbs
   have p:=of_decide_eq_true p
   have r:=of_decide_eq_true r
   have A:=of_decide_eq_true A
   rw [D.d_eq] at hd
   have hd:=gV hd
   subst hd
   simp only [VR] at hx
   obtain ⟨B',J,V,_,q⟩:=hx
   have R:=L b B X
   rw [R] at J;cases J
   obtain ⟨o,rfl,Q,Y,U⟩:=q (aP I.1)
   have K:=aP I.2
   rw [k rfl]
   have E:=tH P w true n ((m b).2 - j) clo chi l u ((gQ hlo F).imp (fun h=> ⟨h.2.1,h.2.2⟩) id) ((gQ hhi H).imp (fun h=> ⟨h.2.1,h.2.2⟩) id) p r (by omega)
   refine ⟨rfl,.slice (if (m b).2 - j=l.toNat then some ⟨(m b).1,o,none⟩ else some ⟨(m b).1,o+l.toNat*y.size,none⟩) (u.toNat - l.toNat) ((m b).2 - j - l.toNat), ?_, ?_⟩
   ·simp [Instr.sliceAt,Instr.slice,run_underlying D.und,E,ku c,Addr.add_mid]
   ·simp only [VR]
    refine ⟨B,R,V,(by split<;>exact ⟨_,_,_,rfl⟩),fun _=> ?_⟩
    by_cases hcl:(m b).2 - j=l.toNat
    ·exact ⟨o,by rw [if_pos hcl];congr 1;omega,by omega,fun h=>by omega,U⟩
    ·refine ⟨o+l.toNat*y.size,by rw [if_neg hcl];congr 1;omega,by omega,fun h=> ?_,U⟩
     rw [Y (by omega),K,Nat.add_mul]
  ·cases h
 ·rename_i e hd
  have f:=bind_some h;clear h;obtain ⟨y,c,h⟩:=f
  have f:=bind_some h;clear h;obtain ⟨l,F,h⟩:=f
  have f:=bind_some h;clear h;obtain ⟨u,H,h⟩:=f
  obtain ⟨rfl,rfl,rfl⟩:=aT h
  obtain ⟨N,M,T,c⟩:=dQ G c
  have p:=of_decide_eq_true (hbs (decide (l=0)) (by simp))
  have r:=of_decide_eq_true (hbs (decide (u=0)) (by simp))
  subst p
  subst r
  rw [D.d_eq] at hd
  have hd:=gV hd
  subst hd
  simp only [VR,PR] at hx
  subst hx
  rw [k rfl]
  have E:=tH P w true 0 0 clo chi 0 0 ((gQ hlo F).imp (fun h=> ⟨h.2.1,h.2.2⟩) id) ((gQ hhi H).imp (fun h=> ⟨h.2.1,h.2.2⟩) id) (by omega) (by omega) (by omega)
  refine ⟨rfl,.slice none 0 0, ?_,by simp only [VR,PR]⟩
  simp at E
  simp [Instr.sliceAt,Instr.slice,run_underlying D.und,E,ku c]
 ·cases h
theorem OG {x v:AV} {l:Value} (c:VR g m S x l) {t:Nat} {o:TI} {i:TypeInfo} {d:TypeDesc} {z:Value} (f:CP P t o i d z)
  {ups:List (Nat × bi)} {bs:List Bool} (h:WU o.d x=some (v,ups,bs)) (ats:Array TypeId) (hat:ats[0]? =some t) (args:Array Value) (ha:args[0]? =some l) (ty:Nat):
  ups= []∧∃ cv,(Builtin.len_ ats ty args).run P w= .ok cv w∧VR g m S v cv:=by
 unfold WU at h
 rw [f.d_eq] at h
 split at h
 ·rename_i n e hd
  obtain ⟨rfl,rfl,rfl⟩:=aT h
  have hd:=zC hd
  subst hd
  exact ⟨rfl,.int .i64 n,by simp [Builtin.len_,hat,ha,run_underlying f.und,goInt],by simp only [VR,PR]⟩
 ·rename_i s hd
  obtain ⟨rfl,rfl,rfl⟩:=aT h
  have hd:=xU hd
  subst hd
  simp only [VR,PR] at c
  subst c
  exact ⟨rfl,.int .i64 s.length,by simp [Builtin.len_,hat,ha,run_underlying f.und,goInt,zB],by simp only [VR,PR]⟩
 ·rename_i e xs n nn hd
  obtain ⟨rfl,rfl,rfl⟩:=aT h
  have hd:=gV hd
  subst hd
  simp only [VR,PR] at c
  obtain ⟨a,k,rfl,_⟩:=c
  exact ⟨rfl,.int .i64 n,by simp [Builtin.len_,hat,ha,run_underlying f.und,goInt],by simp only [VR,PR]⟩
 ·rename_i e b ver j n hd
  obtain ⟨rfl,rfl,rfl⟩:=aT h
  have hd:=gV hd
  subst hd
  simp only [VR] at c
  obtain ⟨_,_,_,⟨_,_,k,rfl⟩,_⟩:=c
  exact ⟨rfl,.int .i64 n,by simp [Builtin.len_,hat,ha,run_underlying f.und,goInt],by simp only [VR,PR]⟩
 ·rename_i e hd
  obtain ⟨rfl,rfl,rfl⟩:=aT h
  have hd:=gV hd
  subst hd
  simp only [VR,PR] at c
  subst c
  exact ⟨rfl,.int .i64 0,by simp [Builtin.len_,hat,ha,run_underlying f.und,goInt],by simp only [VR,PR]⟩
 ·cases h
theorem xW (s:List UInt8):(⟨s.toArray⟩:ByteArray).toList=s:=by rw [ByteArray.toList_eq]
theorem yx:∀ a b:List UInt8,Op.bytesLess a b=ig a b
 |_,[]=>by simp [Op.bytesLess,ig]
 | [],_::_=>by simp [Op.bytesLess,ig]
 |a::x,b::y=>by simp only [Op.bytesLess,ig,yx x y]
def t_:LK→Value→Value→Option Bool
 | .int k,.int k1 a,.int k2 b=>match iH k k1 && iH k k2 with|true=>some (a==b)|false=>none
 | .bool,.bool a,.bool b=>some (a==b)
 | .str,.string a,.string b=>some (a.toList==b.toList)
 |_,_,_=>none
def dM:List LK→List Value→List Value→Option Bool
 | [],[],[]=>some true
 |k::ks,a::as,b::bs=>(t_ k a b).bind fun c=>(dM ks as bs).map fun d=>c && d
 |_,_,_=>none
theorem sK:∀ (l e:List LK) (xs f:List Value) (r:Bool),dM (l++e) xs f=some r→
  ∃ a b,dM l (xs.take l.length) (f.take l.length)=some a∧dM e (xs.drop l.length) (f.drop l.length)=some b∧r=(a && b)
 | [],e,xs,f,r,h=> ⟨true,r,by simp [dM],by simpa using h,by simp⟩
 |k::l,e,[],_,r,h=>by simp [dM] at h
 |k::l,e,_::_,[],r,h=>by simp [dM] at h
 |k::l,e,x::xs,y::f,r,h=>by
  simp only [List.cons_append,dM] at h
  obtain ⟨c,n,h⟩:=bind_some h
  rw [Option.map_eq_some_iff] at h
  obtain ⟨d,hd,rfl⟩:=h
  obtain ⟨a,b,j,i,rfl⟩:=sK l e xs f d hd
  exact ⟨c && a,b,by simp [dM,n,j],by simpa using i,by simp [Bool.and_assoc]⟩
theorem qx:∀ (l:List LK) (xs a:List Value) (r:Bool),dM l xs a=some r→xs.length=l.length∧a.length=l.length
 | [],[],[],_,_=> ⟨rfl,rfl⟩
 |k::l,x::xs,y::a,r,h=>by
  simp only [dM] at h
  obtain ⟨c,_,h⟩:=bind_some h
  rw [Option.map_eq_some_iff] at h
  obtain ⟨d,hd,_⟩:=h
  have:=qx l xs a d hd
  simp [this.1,this.2]
 | [],_::_,_,_,h=>by simp [dM] at h
 | [],[],_::_,_,h=>by simp [dM] at h
 |_::_,[],_,_,h=>by simp [dM] at h
 |_::_,_::_,[],_,h=>by simp [dM] at h
def vH (P:Program) (t:TypeId) (xs:List Value):Value:=match P.underlying t with
 |some (.struct _)=> .agg xs.toArray
 |_=>xs.headD undef
def GY (P:Program) (n:Nat) (t:TypeId) (lks:List LK):Prop:=
 ∀ (d:Nat) (w:World) (xs ys:List Value) (r:Bool),n≤d→dM lks xs ys=some r→(Op.equalIn d t (vH P t xs) (vH P t ys)).run P w= .ok r w
theorem vw {t:TypeId} {lks:List LK} {n:Nat} (c:jy P n t=some lks) {i:TypeInfo} (j:P.info? t=some i) (hs:i.size=lks.length) (xs:List Value) (a:Nat) (h:a+lks.length≤xs.length) (w:World):
  (part t xs.toArray a).run P w= .ok (vH P t ((xs.drop a).take lks.length)) w:=by
 cases n with
 |zero=>simp [jy] at c
 | succ n=>
  unfold jy at c
  cases f:P.underlying t with
  |none=>simp [f] at c
  | some d=>
   have b:(isAgg t).run P w= .ok d.isRow w:=by
    unfold isAgg;rw [Sem.run_bind,run_underlying f w]
    cases d<;>simp [TypeDesc.isRow]
   cases d<;>simp only [f] at c<;>try cases c
   case struct fs=>
    simp only [TypeDesc.isRow] at b
    simp [part,b,Go.sizeOf,typeInfo,j,hs,vH,f]
   all_goals
    simp only [TypeDesc.isRow] at b
    simp only [List.length_cons,List.length_nil,Nat.zero_add] at h
    have l:xs[a]? =some (xs[a]'(by omega)):=List.getElem?_eq_getElem (by omega)
    simp only [part,Sem.run_bind,b,Result.andThen_ok,Bool.false_eq_true,if_false,vH,f]
    have e:((xs.drop a).take [LK.str].length).headD undef=xs[a]'(by omega):=by
     rw [List.headD_eq_head?_getD,List.head?_take,List.head?_drop,l];simp
    have k:(xs.toArray)[a]? =some (xs[a]'(by omega)):=by simp
    rw [k]
    first|exact congrArg (fun v=>Result.ok v w) e.symm|(simp only [List.length_cons,List.length_nil] at e ⊢;exact congrArg (fun v=>Result.ok v w) e.symm)
theorem uf {n:Nat} (s:∀ t lks,jy P n t=some lks→GY P n t lks):∀ (fs:List Field) (off:Nat) (lks:List LK),yB P (jy P n) fs off=some lks→
  ∀ (d:Nat) (w:World) (xs ys:List Value) (r:Bool),n≤d→xs.length=off+lks.length→ys.length=off+lks.length→dM lks (xs.drop off) (ys.drop off)=some r→
   (Op.eqFields d xs.toArray ys.toArray fs).run P w= .ok r w
 | [],off,lks,hc,d,w,xs,ys,r,hd,hx,hy,h=>by
  simp [yB] at hc;subst hc
  have C:xs.drop off= []:=List.drop_eq_nil_of_le (by simp at hx;omega)
  have v:ys.drop off= []:=List.drop_eq_nil_of_le (by simp at hy;omega)
  rw [C,v] at h
  simp [dM] at h;subst h
  simp [Op.eqFields]
 | f ::fs,off,lks,hc,d,w,xs,ys,r,hd,hx,hy,h=>by
  simp only [yB] at hc
  cases j:jy P n f.type with
  |none=>simp [j] at hc
  | some l=>
   simp only [j] at hc
   split at hc
   ·rename_i hcond
    simp only [Bool.and_eq_true,Bool.not_eq_true'] at hcond
    obtain ⟨⟨u,q⟩,c⟩:=hcond
    cases p:yB P (jy P n) fs (off+l.length) with
    |none=>simp [p] at hc
    | some l'=>
     simp only [p] at hc
     cases hc
     cases k:P.info? f.type with
     |none=>simp [k] at c
     |some i=>
      simp only [k] at c
      have c:=aP c
      have q:=aP q
      have o:f.name ≠ "_" :=by intro e;rw [e] at u;exact absurd u (by decide)
      simp only [List.length_append] at hx hy
      obtain ⟨a,b,y,B,rfl⟩:=sK l l' _ _ r h
      have A:=vw j k c xs off (by omega) w
      have x:=vw j k c ys off (by omega) w
      have D:=s f.type l j d w _ _ a hd y
      have z:=uf s fs (off+l.length) l' p d w xs ys b hd (by omega) (by omega) (by simpa [List.drop_drop,Nat.add_comm] using B)
      simp only [Op.eqFields,o,ne_eq,not_false_eq_true,if_true,Sem.run_bind,q,A,x,D,Result.andThen_ok]
      cases a
      ·simp
      ·simpa using z
   ·cases hc
theorem D7 : ∀ (n:Nat) (t:TypeId) (lks:List LK),jy P n t=some lks→GY P n t lks
  |0,_,_,h=>by simp [jy] at h
  | n + 1,t,lks,h=>by
    intro d w xs o r hd b
    obtain ⟨d,rfl⟩:∃ k,d=k+1:=⟨d - 1,by omega⟩
    have j:=qx _ _ _ _ b
    unfold jy at h
    cases a:P.underlying t with
    |none=>simp [a] at h
    | some ds=>
      cases ds<;>simp only [a] at h<;>try cases h
      case struct fs=>
        split at h
        · cases h
        · rename_i l
          have i:P.fieldsOf t=fs:=by simp [Program.fieldsOf,a]
          have e:=run_equalIn_struct (P:=P) w d t xs.toArray o.toArray (by rw [i];exact a) l
          simp only [vH,a]
          rw [e,i]
          exact uf (D7 n) fs.toList 0 lks h d w xs o r (by omega) (by simp [j.1]) (by simp [j.2]) (by simpa using b)
      all_goals
        simp only [List.length_cons,List.length_nil,Nat.zero_add] at j
        match xs,o,j,b with
        | [x], [y],_,b=>
          simp only [dM,Option.map_some,Bool.and_true] at b
          obtain ⟨c,f,b⟩:=bind_some b
          cases b
          simp only [vH,a,List.headD_cons]
          cases x<;>cases y<;>simp [t_] at f
          first
            | (split at f
               · rename_i p
                 simp only [Bool.and_eq_true] at p
                 obtain rfl:=fV p.1
                 obtain rfl:=fV p.2
                 cases f
                 exact run_equalIn_int (P:=P) w d t _ _ _ _ a
               · cases f)
            |(subst f;rw [run_equalIn_bool' (P:=P) w d t _ _ a])
            |(subst f;rw [run_equalIn_string (P:=P) w d t _ _ a])
end
end AM
namespace AM
open Go
section
variable {P:Program} {ap:AP} {g:dF} {m:aX} {S:aU} {w:World}
theorem ag4 {d:TypeDesc} (h:jR P (some d)= .ptr):∃ e,d= .pointer e:=by cases d<;>simp [jR] at h;exact ⟨_,rfl⟩
theorem acB {d:TypeDesc} (h:jR P (some d)= .func):∃ a b c,d= .func a b c:=by cases d<;>simp [jR] at h;exact ⟨_,_,_,rfl⟩
theorem Yt {d:TypeDesc} (h:jR P (some d)= .iface):∃ e,d= .interface e:=by cases d<;>simp [jR] at h;exact ⟨_,rfl⟩
theorem aaE {a b:LK} (h:afF a b=true):a=b:=by
 cases a<;>cases b<;>simp [afF] at h
 ·rw [fV h]
 ·rfl
 ·rfl
theorem EL:∀ {a b:List LK},H9 a b=true→a=b
 | [],[],_=>rfl
 |_::_,_::_,h=>by simp only [H9,Bool.and_eq_true] at h;rw [aaE h.1,EL h.2]
 | [],_::_,h=>by simp [H9] at h
 |_::_,[],h=>by simp [H9] at h
theorem Oe {k:LK} {a b:AV} {r:Bool} (h:Oc k a b=some r) {x y:Value} (c:VR g m S a x) (d:VR g m S b y):t_ k x y=some r:=by
 unfold Oc at h
 split at h
 ·simp only [VR,PR] at c d;subst c;subst d
  split at h
  ·rename_i e;cases h;simp [t_,e]
  ·cases h
 ·simp only [VR,PR] at c d;subst c;subst d;simpa [t_] using h
 ·simp only [VR,PR] at c d;subst c;subst d
  simpa [t_,xW] using h
 ·cases h
theorem wU:∀ {ks:List LK} {f bs:List AV} {r:Bool} {xs e:List Value},kH ks f bs=some r→aY g m S f xs→aY g m S bs e→dM ks xs e=some r
 | [],[],[],r,xs,e,h,ha,hb=>by
  cases xs<;>cases e<;>simp [aY] at ha hb
  simpa [kH,dM] using h
 |k::ks,a::f,b::bs,r,x::xs,y::e,h,ha,hb=>by
  simp only [kH] at h
  obtain ⟨c,i,h⟩:=bind_some h
  rw [Option.map_eq_some_iff] at h
  obtain ⟨d,hd,rfl⟩:=h
  simp only [aY] at ha hb
  simp [dM,Oe i ha.1 hb.1,wU hd ha.2 hb.2]
 | [],_::_,_,_,_,_,h,_,_=>by simp [kH] at h
 | [],[],_::_,_,_,_,h,_,_=>by simp [kH] at h
 |_::_,[],_,_,_,_,h,_,_=>by simp [kH] at h
 |_::_,_::_,[],_,_,_,h,_,_=>by simp [kH] at h
 |_::_,_::_,_::_,_,[],_,_,ha,_=>by simp [aY] at ha
 |_::_,_::_,_::_,_,_::_,[],_,_,hb=>by simp [aY] at hb
theorem zG (c:iJ P ap) {t:Nat} {b:TI} (h:ap.tyAt t=some b):b.cmp=Zk P t∧b.lks=H_ P 8 t:=by
 have a:=c.ty t b h
 unfold Yx at a
 split at a
 ·split at a
  ·cases a;exact ⟨rfl,rfl⟩
  ·cases a
 ·cases a
theorem j_ (c:BinOp) (t:TypeId) (x y:Operand) (a b:Value) (e:¬ (a= .nilIface∧b= .nilIface)) (d:∀ xs ys,¬ (a= .agg xs∧b= .agg ys)):(eqGuard c t x y a b).run P w= .ok () w:=by
 unfold eqGuard
 cases c<;>simp only [Sem.run_ite,Sem.run_pure]<;>try (simp;done)
 all_goals
  simp
  split
  ·exact absurd ⟨rfl,rfl⟩ e
  ·exact absurd ⟨rfl,rfl⟩ (d _ _)
  ·rfl
def QS (op:BinOp) (r:Bool):Bool:=match op with| .neq=> !r|_=>r
theorem vU {t:Nat} {a b:Value} {r:Bool} {x y:Operand} (c:∀ op,(eqGuard op t x y a b).run P w= .ok () w) (h:∀ d,(Op.equalIn (d+1) t a b).run P w= .ok r w)
  (h1:binOp .eql t a b=(do pure (.bool (← Op.equal t a b)))) (h2:binOp .neq t a b=(do pure (.bool (!(← Op.equal t a b))))) {op:BinOp} (hop:op=BinOp.eql∨op=BinOp.neq):
  (do eqGuard op t x y a b;binOp op t a b:Sem Value).run P w= .ok (.bool (QS op r)) w:=by
 have e:(Op.equal t a b).run P w= .ok r w:=h 9999
 rcases hop with rfl|rfl
 ·rw [Sem.run_bind,c,Result.andThen_ok,h1,Sem.run_bind,e];rfl
 ·rw [Sem.run_bind,c,Result.andThen_ok,h2,Sem.run_bind,e];rfl
theorem Ht (v:iJ P ap) {t:Nat} {L:TI} (A:ap.tyAt t=some L) {a b:AV} {F J:Value} (k:VR g m S a F) (s:VR g m S b J) {r:Bool} (h:eqA L a b=some r) (K:∀ x ∈ E5 a b,x=true) (x y:Operand):
  ∀ f,f=BinOp.eql∨f=BinOp.neq→(do eqGuard f t x y F J;binOp f t F J:Sem Value).run P w= .ok (.bool (QS f r)) w:=by
 obtain ⟨i,d,z,u⟩:=dQ v A
 intro f j
 unfold eqA at h
 split at h
 case h_2 fs xs ys hd=>
  split at h
  ·rename_i c
   rw [(zG v A).1] at c
   rw [(zG v A).2] at h
   simp only [VR] at k s
   obtain ⟨vs,rfl,k⟩:=k
   obtain ⟨N,rfl,s⟩:=s
   have M:=wU h k s
   unfold Zk at c
   cases C:jy P 8 t with
   |none=>simp [C] at c
   |some l=>
    simp only [C,Bool.and_eq_true,Bool.not_eq_true'] at c
    have I:=EL c.1
    rw [← I] at M
    have H:=D7 8 t l C 10000 w vs N r (by omega) M
    rw [u.d_eq] at hd
    obtain ⟨fields,rfl,_⟩:=wF hd
    simp only [vH,u.und] at H
    have O:=run_eqGuard_agg (P:=P) w f t x y vs.toArray N.toArray c.2
    rcases j with rfl|rfl
    ·simp [O,run_eql_struct,H,QS]
    ·simp [O,run_neq_struct,H,QS]
  ·cases h
 all_goals try (cases h;done)
 all_goals
  rename_i hd
  rw [u.d_eq] at hd
  try simp only [VR,PR] at k s
 all_goals cases h
 case h_1=>
  have hd:=acA hd
  subst hd
  subst k;subst s
  (refine vU (fun f=> ?_) (fun B=> ?_) rfl rfl j<;>first|exact j_ f t x y _ _ (by simp) (by simp)|exact run_equalIn_bool' (P:=P) w B t _ _ u.und)
 all_goals
  first
   |(obtain ⟨e,rfl⟩:=ag4 hd)
   |(obtain ⟨e,rfl⟩:=Yt hd)
   |(obtain ⟨T,R,Q,rfl⟩:=acB hd)
   |(have hd:=gV hd;subst hd)
 case h_16 xs n nn=>
  subst s
  obtain ⟨a,E,rfl,G,q⟩:=k
  rcases q with ⟨D,rfl,rfl,rfl⟩|⟨b,o,vs,rfl,_⟩
  ·cases a with
   |none=>
    cases D rfl
    exact absurd (K _ (by simp [E5];rfl)) (by decide)
   |some p=>(refine vU (fun f=> ?_) (fun B=> ?_) rfl rfl j<;>first|exact j_ f t x y _ _ (by simp) (by simp)|simp [Op.equalIn,run_underlying u.und])
  ·(refine vU (fun f=> ?_) (fun B=> ?_) rfl rfl j<;>first|exact j_ f t x y _ _ (by simp) (by simp)|simp [Op.equalIn,run_underlying u.und])
 case h_17 xs n nn=>
  subst k
  obtain ⟨a,E,rfl,G,q⟩:=s
  rcases q with ⟨D,rfl,rfl,rfl⟩|⟨b,o,vs,rfl,_⟩
  ·cases a with
   |none=>
    cases D rfl
    exact absurd (K _ (by simp [E5];rfl)) (by decide)
   |some p=>(refine vU (fun f=> ?_) (fun B=> ?_) rfl rfl j<;>first|exact j_ f t x y _ _ (by simp) (by simp)|simp [Op.equalIn,run_underlying u.und])
  ·(refine vU (fun f=> ?_) (fun B=> ?_) rfl rfl j<;>first|exact j_ f t x y _ _ (by simp) (by simp)|simp [Op.equalIn,run_underlying u.und])
 all_goals
  try subst k
  try subst s
  try (obtain ⟨_,_,_,⟨_,_,rfl⟩,_⟩:=k)
  try (obtain ⟨_,_,_,⟨_,_,rfl⟩,_⟩:=s)
  try (obtain ⟨_,_,_,⟨_,_,_,rfl⟩,_⟩:=k)
  try (obtain ⟨_,_,_,⟨_,_,_,rfl⟩,_⟩:=s)
  try (obtain ⟨_,_,_,rfl,_⟩:=k)
  try (obtain ⟨_,_,_,rfl,_⟩:=s)
  try (obtain ⟨_,_,rfl,_⟩:=k)
  try (obtain ⟨_,_,rfl,_⟩:=s)
  try (obtain ⟨_,rfl,_⟩:=k)
  try (obtain ⟨_,rfl,_⟩:=s)
  (refine vU (fun f=> ?_) (fun B=> ?_) rfl rfl j<;>first|exact j_ f t x y _ _ (by simp) (by simp)|simp [Op.equalIn,run_underlying u.und])
end
end AM
namespace AM
open Go
section
variable {P:Program} {ap:AP} {g:dF} {m:aX} {S:aU} {w:World}
theorem NM (a b:List UInt8):(⟨a.toArray⟩:ByteArray)++⟨b.toArray⟩=⟨(a++b).toArray⟩:=by
 apply ByteArray.ext
 rw [ByteArray.data_append]
 simp
theorem NR (i:iJ P ap) {t:Nat} {z:TI} (j:ap.tyAt t=some z) {a b v:AV} {l s:Value} (f:VR g m S a l) (e:VR g m S b s) {d:BinOp} {ups:List (Nat × bi)} {bs:List Bool}
  (h:aeh d z a b=some (v,ups,bs)) (hbs:∀ x ∈ bs,x=true) (x y:Operand):
  ups= []∧∃ cv,(do eqGuard d t x y l s;binOp d t l s:Sem Value).run P w= .ok cv w∧VR g m S v cv:=by
 unfold aeh at h
 split at h
 ·rename_i k p B q
  simp only [VR,PR] at f e
  subst f;subst e
  have n:(eqGuard d t x y (.int k p) (.int B q)).run P w= .ok () w:=j_ d t x y _ _ (by simp) (by simp)
  rw [Sem.run_bind,n,Result.andThen_ok]
  split at h
  ·obtain ⟨rfl,rfl,rfl⟩:=aT h
   have c:=of_decide_eq_true (hbs _ (List.mem_singleton.2 rfl))
   exact ⟨rfl,_,by simp [binOp,Op.shift,show ¬ q<0 by omega];rfl,by simp only [VR,PR]⟩
  ·obtain ⟨rfl,rfl,rfl⟩:=aT h
   have c:=of_decide_eq_true (hbs _ (List.mem_singleton.2 rfl))
   exact ⟨rfl,_,by simp [binOp,Op.shift,show ¬ q<0 by omega];rfl,by simp only [VR,PR]⟩
  ·split at h
   ·cases h
   ·rename_i u
    have u:=fV u
    subst u
    split at h
    all_goals try (cases h;done)
    all_goals obtain ⟨rfl,rfl,rfl⟩:=aT h
    case h_4=>
     have c:(q==0)=false:=by simpa using hbs _ (List.mem_singleton.2 rfl)
     have c:¬ q=0:=by simpa using c
     exact ⟨rfl,_,by simp [binOp,Op.intDiv,c];rfl,by simp only [VR,PR]⟩
    case h_5=>
     have c:(q==0)=false:=by simpa using hbs _ (List.mem_singleton.2 rfl)
     have c:¬ q=0:=by simpa using c
     exact ⟨rfl,_,by simp [binOp,Op.intDiv,c];rfl,by simp only [VR,PR]⟩
    all_goals exact ⟨rfl,_,by simp only [binOp,Op.intArith,Op.intBits,Op.intCmp,ne_eq,not_true_eq_false,if_false];rfl,by simp only [VR,PR];first|done|rfl⟩
 ·rename_i p q
  simp only [VR,PR] at f e
  subst f;subst e
  have n:(eqGuard d t x y (.string ⟨p.toArray⟩) (.string ⟨q.toArray⟩)).run P w= .ok () w:=j_ d t x y _ _ (by simp) (by simp)
  rw [Sem.run_bind,n,Result.andThen_ok]
  split at h
  all_goals try (cases h;done)
  all_goals obtain ⟨rfl,rfl,rfl⟩:=aT h
  case h_1=>
   have c:=fH (hbs _ (List.mem_singleton.2 rfl))
   have A:¬ (IntKind.i64.max<((p.length+q.length:Nat):Int)):=by
    have:IntKind.i64.max=9223372036854775807:=by decide
    omega
   refine ⟨rfl,.string ⟨(p++q).toArray⟩, ?_,by simp only [VR,PR]⟩
   simp only [binOp,Op.stringOp,zB,gt_iff_lt,A,if_false,NM,Sem.run_pure]
  all_goals
   refine ⟨rfl,_,rfl, ?_⟩
   simp only [VR,PR,xW,yx]
 ·split at h
  ·obtain ⟨r,o,h⟩:=bind_some h
   obtain ⟨rfl,rfl,rfl⟩:=aT h
   exact ⟨rfl,_,Ht i j f e o hbs x y _ (.inl rfl),by simp only [VR,PR];rfl⟩
  ·obtain ⟨r,o,h⟩:=bind_some h
   obtain ⟨rfl,rfl,rfl⟩:=aT h
   exact ⟨rfl,_,Ht i j f e o hbs x y _ (.inr rfl),by simp only [VR,PR];rfl⟩
  ·cases h
theorem UQ {x v:AV} {b:Value} (a:VR g m S x b) {c:UnOp} {ups:List (Nat × bi)} {bs:List Bool} (h:unA c x=some (v,ups,bs)):
  ups= []∧∃ cv,(Op.unary c b).run P w= .ok cv w∧VR g m S v cv:=by
 unfold unA at h
 split at h
 ·obtain ⟨rfl,rfl,rfl⟩:=aT h
  simp only [VR,PR] at a;subst a
  exact ⟨rfl,_,rfl,by simp only [VR,PR]⟩
 ·obtain ⟨rfl,rfl,rfl⟩:=aT h
  simp only [VR,PR] at a;subst a
  exact ⟨rfl,_,rfl,by simp only [VR,PR]⟩
 ·cases h
theorem uK {f:AV→AV→Option AV} {F:Value→Value→Sem Value} (d:∀ a b c ca cb,VR g m S a ca→VR g m S b cb→f a b=some c→∃ cc,(F ca cb).run P w= .ok cc w∧VR g m S c cc):
  ∀ (l:List AV) (cl:List Value) (x v:AV) (cx:Value),aY g m S l cl→VR g m S x cx→Lj f x l=some v→∃ cv,(cl.foldlM F cx).run P w= .ok cv w∧VR g m S v cv
 | [],[],x,v,cx,_,hx,h=>by simp [Lj] at h;subst h;exact ⟨cx,by simp,hx⟩
 | y::r,cy::cr,x,v,cx,hl,hx,h=>by
  simp only [aY] at hl
  simp only [Lj] at h
  split at h
  ·rename_i z e
   obtain ⟨i,o,j⟩:=d _ _ _ _ _ hx hl.1 e
   obtain ⟨cv,k,n⟩:=uK d r cr z v i hl.2 j h
   exact ⟨cv,by simp [List.foldlM_cons,o,k],n⟩
  ·cases h
 | [],_::_,_,_,_,hl,_,_=>by simp [aY] at hl
 |_::_,[],_,_,_,hl,_,_=>by simp [aY] at hl
theorem OQ {a b c:AV} {d e:Value} (f:VR g m S a d) (i:VR g m S b e) (h:min2 a b=some c):∃ cc,(Builtin.min2 d e).run P w= .ok cc w∧VR g m S c cc:=by
 unfold min2 at h
 split at h
 ·split at h
  ·cases h
   simp only [VR,PR] at f i;subst f;subst i
   exact ⟨_,rfl,by simp only [VR,PR]⟩
  ·cases h
 ·cases h
theorem OL {a b c:AV} {d e:Value} (f:VR g m S a d) (i:VR g m S b e) (h:max2 a b=some c):∃ cc,(Builtin.max2 d e).run P w= .ok cc w∧VR g m S c cc:=by
 unfold max2 at h
 split at h
 ·split at h
  ·cases h
   simp only [VR,PR] at f i;subst f;subst i
   exact ⟨_,rfl,by simp only [VR,PR]⟩
  ·cases h
 ·cases h
theorem TZ {l:List AV} {cl:List Value} (a:aY g m S l cl) {v:AV} (h:Ad min2 l=some v) (b:Array TypeId) (ty:Nat):∃ cv,(Builtin.min_ b ty cl.toArray).run P w= .ok cv w∧VR g m S v cv:=by
 cases l with
 |nil=>simp [Ad] at h
 | cons x r=>cases cl with
  |nil=>simp [aY] at a
  |cons cx cr=>
   simp only [aY] at a
   obtain ⟨cv,d,c⟩:=uK (P:=P) (w:=w) (F:=Builtin.min2) (fun _ _ _ _ _=>OQ) r cr x v cx a.2 a.1 h
   exact ⟨cv,by simpa [Builtin.min_] using d,c⟩
theorem TW {l:List AV} {cl:List Value} (a:aY g m S l cl) {v:AV} (h:Ad max2 l=some v) (b:Array TypeId) (ty:Nat):∃ cv,(Builtin.max_ b ty cl.toArray).run P w= .ok cv w∧VR g m S v cv:=by
 cases l with
 |nil=>simp [Ad] at h
 | cons x r=>cases cl with
  |nil=>simp [aY] at a
  |cons cx cr=>
   simp only [aY] at a
   obtain ⟨cv,d,c⟩:=uK (P:=P) (w:=w) (F:=Builtin.max2) (fun _ _ _ _ _=>OL) r cr x v cx a.2 a.1 h
   exact ⟨cv,by simpa [Builtin.max_] using d,c⟩
end
end AM
