/- The abstract machine over the code of the model, and the proof that it is sound. No conditions. -/
import Derived.WalkKit
import Derived.Deep.AppendSrc
import Derived.Deep.MidRow
import Derived.WalkLawsBesides
set_option linter.unusedSimpArgs false
set_option linter.unusedVariables false
namespace AM
open Go
inductive AV where
 |int (k:IntKind) (n:Int)
 |bool (b:Bool)
 |str (s:List UInt8)
 |agg (l:List AV)
 |tup (l:List AV)
 |nilS
 |sl (xs:List AV) (n:Nat) (nn:Bool)
 |ref (b ver i n:Nat)
 |own (xs:List AV) (n esz:Nat)
 |ptr (b ver off:Nat)
 |pp (xs:List AV) (off:Nat)
 |mr (b ver:Nat)
 |mp (ks vs:List AV)
 |nilP
 |fn (f:Nat) (first cap:List AV)
 |nilF
 |ifc (t:Nat) (v:AV)
 |nilI
 |dead
inductive LK where
 |int (k:IntKind)
 |bool
 |str
 |sl
 |oth
inductive TD where
 |struct (fs:List (Nat × Nat × Nat))
 |array (n elem:Nat)
 |slice (elem:Nat)
 |int (k:IntKind)
 |str
 |bool
 |iface
 |ptr
 |func
 |map (k e:Nat)
 |oth
structure TI where
 d:TD
 size:Nat
 bytes:Nat
 zero:List AV
 lks:List LK
 cmp:Bool
structure AF where
 fn:Func
 keep:List Nat
 shared:Bool
inductive Tr (α:Type) where
 |nil
 |node (v:Option α) (l r:Tr α)
def Tr.get {α:Type}:Tr α→Nat→Option α
 | .nil,_=>none
 | .node v l r,n=>match Nat.beq n 0 with
  |true=>v
  |false=>match Nat.beq (n % 2) 1 with
   |true=>l.get ((n - 1) / 2)
   |false=>r.get ((n - 1) / 2)
structure AP where
 nty:Nat
 ty:Tr TI
 nfn:Nat
 fn:Tr AF
 gl:List (Option (List AV))
def eD:Nat:=4611686018427387904
def LJ:List AV→Option AV
 | [.agg ks,.agg vs]=>some (.mp ks vs)
 |_=>none
structure aL where
 cells:List AV
 ver:Nat
 fro:Bool
 fz:Nat
 esz:Nat
 pr:Bool
abbrev dY:=List (Nat × AV)
abbrev Hp:=List (Nat × aL)
def look {α:Type}:List (Nat × α)→Nat→Option α
 | [],_=>none
 |(u,x)::r,t=>match Nat.beq u t with|true=>some x|false=>look r t
def fZ {α β:Type} (f:α→Option β):List α→Option (List β)
 | []=>some []
 |x::r=>match f x with
  |some y=>match fZ f r with|some l=>some (y::l)|none=>none
  |none=>none
def dY.get (e:dY) (t:Nat):AV:=(look e t).getD .dead
def AV.cells:AV→List AV
 | .agg l=>l
 |x=> [x]
def AV.toInt:AV→Int| .int _ n=>n|_=>0
def AV.toBool:AV→Bool| .bool b=>b|_=>false
def AV.toStr:AV→List UInt8| .str s=>s|_=> []
def AV.slX:AV→List AV| .sl xs _ _=>xs|_=> []
def AV.slN:AV→Nat| .sl _ n _=>n|_=>0
def Im:IntKind→Nat
 | .i8=>0| .i16=>1| .i32=>2| .i64=>3| .u8=>4| .u16=>5| .u32=>6| .u64=>7
def eH (a b:IntKind):Bool:=Nat.beq (Im a) (Im b)
def chk:LK→AV→Bool
 | .int k,.int k' _=>eH k k'
 | .bool,.bool _=>true
 | .str,.str _=>true
 | .sl,.sl _ _ _=>true
 | .sl,.nilS=>true
 | .oth,.dead=>false
 | .oth,.agg _=>false
 | .oth,.tup _=>false
 | .oth,.own _ _ _=>false
 | .oth,_=>true
 |_,_=>false
def eta:LK→AV→AV
 | .int k,c=> .int k c.toInt
 | .bool,c=> .bool c.toBool
 | .str,c=> .str c.toStr
 | .sl,c=> .sl c.slX c.slN false
 | .oth,c=>c
def ja:AV→Bool
 | .dead| .agg _| .tup _| .own _ _ _=>false
 |_=>true
mutual
def ct:AV→List Nat
 | .ref b _ _ _=> [b]
 | .ptr b _ _=> [b]
 | .mr b _=> [b]
 | .agg l=>bq l
 | .tup l=>bq l
 | .fn _ f c=>bq f++bq c
 | .ifc _ v=>ct v
 |_=> []
def bq:List AV→List Nat
 | []=> []
 |x::r=>ct x++bq r
end
mutual
def ren (ρ:Nat→Nat→Option (Nat × Nat)):AV→AV
 | .ref b v i n=>match ρ b v with|some (b',v')=> .ref b' v' i n|none=> .dead
 | .ptr b v o=>match ρ b v with|some (b',v')=> .ptr b' v' o|none=> .dead
 | .mr b v=>match ρ b v with|some (b',v')=> .mr b' v'|none=> .dead
 | .agg l=> .agg (ic ρ l)
 | .tup l=> .tup (ic ρ l)
 | .fn f a c=> .fn f (ic ρ a) (ic ρ c)
 | .ifc t v=> .ifc t (ren ρ v)
 |x=>x
def ic (ρ:Nat→Nat→Option (Nat × Nat)):List AV→List AV
 | []=> []
 |x::r=>ren ρ x::ic ρ r
end
def zO:Value→AV
 | .int k n=> .int k n
 | .bool b=> .bool b
 | .string s=> .str s.data.toList
 | .pointer a=>match a with|none=> .nilP|some _=> .dead
 | .slice a n c=>match a,n,c with|none,0,0=> .nilS|_,_,_=> .dead
 | .nilFunc=> .nilF
 | .nilIface=> .nilI
 | .map a=>match a with|none=> .mp [] []|some _=> .dead
 |_=> .dead
def vJ:Value→AV
 | .agg cs=> .agg (cs.toList.map zO)
 | .tuple vs=>match vs.toList with| []=> .tup []|_=> .dead
 |v=>zO v
def AP.tyAt (ap:AP) (t:Nat):Option TI:=match Nat.blt t ap.nty with|true=>ap.ty.get t|false=>none
def AP.fnAt (ap:AP) (f:Nat):Option AF:=match Nat.blt f ap.nfn with|true=>ap.fn.get f|false=>none
def jN (l:List Nat) (a:Nat):Bool:=l.any (Nat.beq a)
def eU (l:List Nat):List Nat:=l.foldl (fun acc b=>if jN acc b then acc else acc++ [b]) []
abbrev yH:=Option (AV × List (Nat × aL) × List Bool)
def aR (v:AV) (bs:List Bool:= []):yH:=some (v,[],bs)
def EH (ty:Bool):List LK→List AV→List AV
 | [],_=> []
 |k::ks,ys=>(match ty with|true=>eta k (ys.headD .dead)|false=>ys.headD .dead)::EH ty ks ys.tail
def Hj (ty:Bool):List LK→List AV→List Bool
 | [],_=> []
 |k::ks,ys=>(match ty with|true=>chk k (ys.headD .dead)|false=>chk .oth (ys.headD .dead))::Hj ty ks ys.tail
def qt (ty:Bool) (ks:List LK) (xs:List AV) (off:Nat):List AV:=EH ty ks (xs.drop off)
def yT (ty:Bool) (ks:List LK) (xs:List AV) (off:Nat):List Bool:=Hj ty ks (xs.drop off)
def zA:TD→Bool
 | .struct _=>true
 | .array _ _=>true
 |_=>false
def kz (ti:TI) (cs:List AV):Option AV:=
 match zA ti.d with
 |true=>some (.agg cs)
 |false=>match cs with| [c]=>some c|_=>none
def Bk (ti:TI) (rd:Nat→Option aL) (p:AV):yH:=
 match p with
 | .pp xs off=>(kz ti (qt true ti.lks xs off)).bind fun v=>aR v (yT true ti.lks xs off)
 | .ptr b ver off=>(rd b).bind fun B=>match Nat.beq B.ver ver && !(Nat.beq B.esz eD) with
  |true=>(kz ti (qt (Nat.blt 0 B.esz && B.pr) ti.lks B.cells off)).bind fun v=>aR v (yT (Nat.blt 0 B.esz && B.pr) ti.lks B.cells off)
  |false=>none
 |_=>none
def eI (xs:List AV) (off:Nat) (vs:List AV):List AV:=xs.take off++vs++xs.drop (off+vs.length)
def DJ (ti:TI) (rd:Nat→Option aL) (p v:AV):yH:=
 match p with
 | .ptr b ver off=>(rd b).bind fun B=>
  let vs:=v.cells
  let rs:=bq vs
  match Nat.beq B.ver ver && !B.fro && Nat.beq vs.length ti.size && vs.all ja && !(Nat.beq B.esz eD) with
  |true=>some (.dead,[(b,{B with cells:=eI B.cells off vs,pr:=B.pr && rs.isEmpty})],[Nat.ble (off+vs.length) B.cells.length])
  |false=>none
 |_=>none
def eT (nid:Nat) (cells:List AV) (esz:Nat):Nat × aL:=(nid,{cells,ver:=0,fro:=false,fz:=0,esz,pr:=(bq cells).isEmpty})
def nX (cells:List AV):List (Nat × Nat × AV)→Option (List AV)
 | []=>some cells
 |(off,size,v)::r=>match Nat.beq v.cells.length size && Nat.ble (off+size) cells.length && v.cells.all ja with
  |true=>nX (eI cells off v.cells) r
  |false=>none
def CE (ap:AP) (ti:TI) (parts:List (Nat × AV)):yH:=
 match ti.d with
 | .struct fs=>(fZ (fun (q:Nat × AV)=>(fs[q.1]?).map fun (x:Nat × Nat × Nat)=>(x.1,x.2.2,q.2)) parts).bind fun ps=>(nX ti.zero ps).bind fun cs=>aR (.agg cs)
 | .array _ e=>(ap.tyAt e).bind fun te=>(nX ti.zero (parts.map fun (i,v)=>(i*te.size,te.size,v))).bind fun cs=>aR (.agg cs)
 |_=>none
def dV (n:Nat) (z:List AV):List AV:=(List.replicate n z).flatten
def lW (ap:AP) (nid:Nat) (ti:TI) (len:Nat) (parts:List (Nat × AV)):yH:=
 match ti.d with
 | .slice e=>(ap.tyAt e).bind fun te=>
  match Nat.blt 0 te.size && Nat.ble (len*te.size) (2^24) && Nat.beq te.zero.length te.size with
  |true=>(nX (dV len te.zero) (parts.map fun (i,v)=>(i*te.size,te.size,v))).bind fun cs=>
   some (.ref nid 0 0 len,[eT nid cs te.size],[])
  |false=>none
 |_=>none
def I1 (p:AV) (o:Nat):Option AV:=
 match p with
 | .ptr b v off=>some (.ptr b v (off+o))
 | .pp xs off=>some (.pp xs (off+o))
 |_=>none
def En (v:AV):Option Int:=match v with| .int _ n=>some n|_=>none
def oM (ap:AP) (ti:TI) (rd:Nat→Option aL) (x i:AV):yH:=
 (En i).bind fun i=>
 match ti.d with
 | .slice e=>(ap.tyAt e).bind fun te=>
  match x with
  | .sl xs n _=>aR (.pp xs (i.toNat*te.size)) [decide (0≤i),decide (i<n)]
  | .ref b ver j n=>(rd b).bind fun B=>match Nat.beq B.ver ver && Nat.beq B.esz te.size with
   |true=>aR (.ptr b ver ((j+i.toNat)*te.size)) [decide (0≤i),decide (i<n)]
   |false=>none
  |_=>none
 | .array n e=>(ap.tyAt e).bind fun te=>(I1 x (i.toNat*te.size)).bind fun p=>aR p [decide (0≤i),decide (i<n)]
 |_=>none
def C9 (ap:AP) (ti:TI) (x i:AV):yH:=
 (En i).bind fun i=>
 match ti.d,x with
 | .str,.str s=>aR (.int .u8 (s.getD i.toNat 0).toNat) [decide (0≤i),decide (i<s.length)]
 | .array n e,.agg cs=>(ap.tyAt e).bind fun te=>
  (kz te (qt true te.lks cs (i.toNat*te.size))).bind fun v=>aR v (decide (0≤i)::decide (i<n)::yT true te.lks cs (i.toNat*te.size))
 |_,_=>none
def jd (v:Option AV) (d:Int):Option Int:=match v with|none=>some d|some (.int _ n)=>some n|some _=>none
def DG (ap:AP) (ti:TI) (rd:Nat→Option aL) (x:AV) (lo hi mx:Option AV):yH:=
 match ti.d,x,mx with
 | .str,.str s,none=>(jd lo 0).bind fun l=>(jd hi s.length).bind fun h=>
   aR (.str ((s.take h.toNat).drop l.toNat)) [decide (0≤l),decide (l≤h),decide (h≤s.length)]
 | .slice e,.sl xs n nn,none=>(ap.tyAt e).bind fun te=>(jd lo 0).bind fun l=>(jd hi n).bind fun h=>
   aR (.sl ((xs.take (h.toNat*te.size)).drop (l.toNat*te.size)) (h.toNat - l.toNat) nn) [decide (0≤l),decide (l≤h),decide (h≤n)]
 | .slice e,.ref b ver j n,none=>(ap.tyAt e).bind fun te=>(rd b).bind fun B=>(jd lo 0).bind fun l=>(jd hi n).bind fun h=>
   match Nat.beq B.ver ver && Nat.beq B.esz te.size with
   |true=>aR (.ref b ver (j+l.toNat) (h.toNat - l.toNat)) [decide (0≤l),decide (l≤h),decide (h≤n)]
   |false=>none
 | .slice e,.nilS,none=>(ap.tyAt e).bind fun _=>(jd lo 0).bind fun l=>(jd hi 0).bind fun h=>aR .nilS [decide (l=0),decide (h=0)]
 |_,_,_=>none
def Ip (d:TD) (x:AV):yH:=
 match d,x with
 | .array n _,_=>aR (.int .i64 n)
 | .str,.str s=>aR (.int .i64 s.length)
 | .slice _,.sl _ n _=>aR (.int .i64 n)
 | .slice _,.ref _ _ _ n=>aR (.int .i64 n)
 | .slice _,.nilS=>aR (.int .i64 0)
 |_,_=>none
def BQ (size:Nat) (rd:Nat→Option aL) (x:AV):Option (List AV × Nat × Bool):=
 match x with
 | .sl xs n _=>some (xs,n,true)
 | .nilS=>some ([],0,true)
 | .str s=>some (s.map fun b=> .int .u8 b.toNat,s.length,true)
 | .ref b ver j n=>(rd b).bind fun B=>match Nat.beq B.ver ver && Nat.beq B.esz size && !(Nat.beq B.esz eD) with
  |true=>some ((B.cells.drop (j*size)).take (n*size),n,B.pr)
  |false=>none
 |_=>none
def yu:Nat:=2^40
def pF (nid:Nat) (te:TI) (rd:Nat→Option aL) (em:Bool) (s x:AV):yH:=
 (BQ te.size rd x).bind fun (xs,n,pr)=>
 match Nat.blt 0 te.size && Nat.ble te.bytes 128 with
 |false=>none
 |true=>
 match s with
 | .nilS=>match em with
  |true=>aR .nilS [Nat.beq xs.length (n*te.size)]
  |false=>some (.ref nid 0 0 n,[(nid,⟨xs,0,false,0,te.size,pr⟩)],[Nat.beq xs.length (n*te.size),Nat.ble n yu])
 | .ref b ver 0 m=>(rd b).bind fun B=>match Nat.beq B.ver ver && Nat.beq B.esz te.size && !(Nat.beq B.esz eD) with
  | true=>some (.ref b (ver+1) 0 (m+n),[(b,{B with cells:=B.cells.take (m*te.size)++xs,ver:=ver+1,pr:=B.pr && pr})],
    [Nat.beq xs.length (n*te.size),Nat.ble (m+n) yu,Nat.ble (m*te.size) B.cells.length, !B.fro||Nat.ble B.fz (m*te.size)])
  |false=>none
 |_=>none
def oH:AV→Option Nat
 | .sl _ n _=>some n
 | .nilS=>some 0
 | .str s=>some s.length
 | .ref _ _ _ n=>some n
 |_=>none
def pY (ρ:Operand→AV) (o:Op):Option Nat:=
 match o with
 | .call {callee:= .builtin .append,args,..}=>match args.toList with
  | [s,x]=>match ρ s with
   | .nilS=>oH (ρ x)
   |_=>none
  |_=>none
 |_=>none
def oO (ap:AP) (nid:Nat) (ti:TI) (l c:AV):yH:=
 match ti.d,l,c with
 | .slice e,.int _ l,.int _ c=>(ap.tyAt e).bind fun te=>
  match Nat.blt 0 te.size && Nat.beq te.zero.length te.size && Nat.ble te.bytes 128 && (bq te.zero).isEmpty with
  |true=>some (.ref nid 0 0 l.toNat,[(nid,⟨dV l.toNat te.zero,0,false,0,te.size,true⟩)],[decide (0≤l),decide (l=c),decide (l≤2^40)])
  |false=>none
 |_,_,_=>none
def uu (ap:AP) (ts td:TI) (rd:Nat→Option aL) (x:AV):yH:=
 match ts.d,td.d,x with
 |_,.int k,.int _ n=>aR (.int k (k.wrap n))
 | .str,.str,.str s=>aR (.str s)
 | .slice e,.str,x=>(ap.tyAt e).bind fun te=>match te.d,x with
  | .int .u8,.str _=>none
  | .int .u8,x=>(BQ 1 rd x).bind fun (xs,n,_)=>aR (.str (xs.map fun c=>UInt8.ofNat c.toInt.toNat)) [Nat.beq xs.length n,xs.all (chk (.int .u8))]
  |_,_=>none
 |_,_,_=>none
def CU:LK→AV→AV→Option Bool
 | .int k,.int k1 a,.int k2 b=>match eH k k1 && eH k k2 with|true=>some (a==b)|false=>none
 | .bool,.bool a,.bool b=>some (a==b)
 | .str,.str a,.str b=>some (a==b)
 |_,_,_=>none
def gy:List LK→List AV→List AV→Option Bool
 | [],[],[]=>some true
 |k::ks,a::as,b::bs=>(CU k a b).bind fun c=>(gy ks as bs).map fun d=>c && d
 |_,_,_=>none
def XQ (ti:TI) (a b:AV):Option Bool:=
 match ti.d,a,b with
 | .bool,.bool a,.bool b=>some (a==b)
 | .struct _,.agg xs,.agg ys=>match ti.cmp with|true=>gy ti.lks xs ys|false=>none
 | .ptr,.nilP,.nilP=>some true
 | .ptr,.nilP,.ptr _ _ _=>some false
 | .ptr,.nilP,.pp _ _=>some false
 | .ptr,.ptr _ _ _,.nilP=>some false
 | .ptr,.pp _ _,.nilP=>some false
 | .iface,.nilI,.ifc _ _=>some false
 | .iface,.ifc _ _,.nilI=>some false
 | .func,.nilF,.nilF=>some true
 | .func,.nilF,.fn _ _ _=>some false
 | .func,.fn _ _ _,.nilF=>some false
 | .slice _,.nilS,.nilS=>some true
 | .slice _,.ref _ _ _ _,.nilS=>some false
 | .slice _,.nilS,.ref _ _ _ _=>some false
 | .slice _,.sl _ _ _,.nilS=>some false
 | .slice _,.nilS,.sl _ _ _=>some false
 |_,_,_=>none
def vG (a b:AV):List Bool:=
 match a,b with
 | .sl _ n false,.nilS=> [Nat.blt 0 n]
 | .nilS,.sl _ n false=> [Nat.blt 0 n]
 |_,_=> []
def dZ:List UInt8→List UInt8→Bool
 |_,[]=>false
 | [],_::_=>true
 |a::x,b::y=>decide (a<b)||(a==b && dZ x y)
def Ou (op:BinOp) (ti:TI) (x y:AV):yH:=
 match x,y with
 | .int k a,.int k' b=>
  match op with
  | .shl=>aR (.int k (k.wrap (a*2^(min b.toNat k.bits)))) [decide (0≤b)]
  | .shr=>aR (.int k (a.fdiv (2^(min b.toNat k.bits)))) [decide (0≤b)]
  | _=>match eH k k' with
   |false=>none
   |true=>match op with
    | .add=>aR (.int k (k.wrap (a+b)))
    | .sub=>aR (.int k (k.wrap (a - b)))
    | .mul=>aR (.int k (k.wrap (a*b)))
    | .quo=>aR (.int k (k.wrap (a.tdiv b))) [!(b==0)]
    | .rem=>aR (.int k (a.tmod b)) [!(b==0)]
    | .and=>aR (.int k (k.wrap (BitVec.ofInt k.bits a &&& BitVec.ofInt k.bits b).toNat))
    | .or=>aR (.int k (k.wrap (BitVec.ofInt k.bits a|||BitVec.ofInt k.bits b).toNat))
    | .xor=>aR (.int k (k.wrap (BitVec.ofInt k.bits a^^^BitVec.ofInt k.bits b).toNat))
    | .eql=>aR (.bool (a==b))
    | .neq=>aR (.bool (!(a==b)))
    | .lss=>aR (.bool (decide (a<b)))
    | .leq=>aR (.bool (decide (a≤b)))
    | .gtr=>aR (.bool (decide (b<a)))
    | .geq=>aR (.bool (decide (b≤a)))
    |_=>none
 | .str a,.str b=>
  match op with
  | .add=>aR (.str (a++b)) [Nat.ble (a.length+b.length) 9223372036854775807]
  | .eql=>aR (.bool (a==b))
  | .neq=>aR (.bool (!(a==b)))
  | .lss=>aR (.bool (dZ a b))
  | .leq=>aR (.bool (dZ a b||a==b))
  | .gtr=>aR (.bool (!(dZ a b||a==b)))
  | .geq=>aR (.bool (!dZ a b))
  |_=>none
 |x,y=>
  match op with
  | .eql=>(XQ ti x y).bind fun b=>aR (.bool b) (vG x y)
  | .neq=>(XQ ti x y).bind fun b=>aR (.bool (!b)) (vG x y)
  |_=>none
def unA (op:UnOp) (x:AV):yH:=
 match op,x with
 | .not,.bool b=>aR (.bool (!b))
 | .neg,.int k n=>aR (.int k (k.wrap (0 - n)))
 |_,_=>none
def min2 (a b:AV):Option AV:=match a,b with| .int k x,.int k' y=>(match eH k k' with|true=>some (.int k (if y<x then y else x))|false=>none)|_,_=>none
def max2 (a b:AV):Option AV:=match a,b with| .int k x,.int k' y=>(match eH k k' with|true=>some (.int k (if y>x then y else x))|false=>none)|_,_=>none
def AY (f:AV→AV→Option AV):AV→List AV→Option AV
 |x,[]=>some x
 |x,y::r=>match f x y with|some z=>AY f z r|none=>none
def qR (f:AV→AV→Option AV):List AV→Option AV
 | []=>none
 |x::r=>AY f x r
def yP (ap:AP) (x:AV) (asserted:Nat) (commaOk:Bool):yH:=
 (ap.tyAt asserted).bind fun ti=>
 match ti.d with
 | .iface=>none
 | _=>match x with
  | .ifc t v=>match Nat.beq t asserted with
   |true=>aR (match commaOk with|true=> .tup [v,.bool true]|false=>v)
   |false=>match commaOk with|true=>(kz ti ti.zero).bind fun z=>aR (.tup [z,.bool false])|false=>none
  | .nilI=>match commaOk with|true=>(kz ti ti.zero).bind fun z=>aR (.tup [z,.bool false])|false=>none
  |_=>none
def C4 (ap:AP) (ti:TI) (x:AV) (f:Nat):yH:=
 match ti.d,x with
 | .struct fs,.agg cs=>(fs[f]?).bind fun (o,t,_)=>(ap.tyAt t).bind fun tf=>
  (kz tf (qt false tf.lks cs o)).bind fun v=>aR v (yT false tf.lks cs o)
 |_,_=>none
def pH:AV→List Nat
 | .ref b _ _ _=> [b]
 | .ptr b _ _=> [b]
 | .mr b _=> [b]
 |_=> []
def Jc (ρ:Operand→AV):Op→List Nat
 | .load _ a=>pH (ρ a)
 | .store _ a _=>pH (ρ a)
 | .indexAddr _ x _=>pH (ρ x)
 | .slice _ x _ _ _=>pH (ρ x)
 | .convert _ _ x=>pH (ρ x)
 | .lookup _ x _ _=>pH (ρ x)
 | .mapUpdate _ x _ _=>pH (ρ x)
 | .insert _ x _ _=>pH (ρ x)
 | .call {callee:= .builtin .append,args,..}=>eU (args.toList.flatMap fun x=>pH (ρ x))
 |_=> []
def xW:LK→AV→Bool
 | .int k,.int k' _=>eH k k'
 | .bool,.bool _=>true
 | .str,.str _=>true
 |_,_=>false
def iq:List LK→List AV→Bool
 | [],[]=>true
 |k::r,x::l=>xW k x && iq r l
 |_,_=>false
def gD (ti:TI) (x:AV):Bool:=match ti.d,x with
 | .int k,.int k' _=>eH k k'
 | .bool,.bool _=>true
 | .str,.str _=>true
 | .struct _,.agg l=>ti.cmp && iq ti.lks l
 |_,_=>false
def zl:AV→AV→Bool
 | .int _ a,.int _ b=>a==b
 | .bool a,.bool b=>a==b
 | .str a,.str b=>a==b
 |_,_=>false
def CT:List AV→List AV→Bool
 | [],[]=>true
 |a::r,b::q=>zl a b && CT r q
 |_,_=>false
def Eg:AV→AV→Bool
 | .int _ a,.int _ b=>a==b
 | .bool a,.bool b=>a==b
 | .str a,.str b=>a==b
 | .agg a,.agg b=>CT a b
 |_,_=>false
def qa:List AV→List AV→AV→Option AV
 |k0::ks,v0::vs,k=>match Eg k k0 with|true=>some v0|false=>qa ks vs k
 |_,_,_=>none
def zV (ks:List AV) (k:AV):List AV:=match ks.any (Eg k) with|true=>ks|false=>ks++ [k]
def nN:List AV→List AV→AV→AV→List AV
 |k0::ks,v0::vs,k,v=>match Eg k k0 with|true=>v::vs|false=>v0::nN ks vs k v
 |_,_,_,v=> [v]
def IA (rd:Nat→Option aL) (x:AV):Option (List AV × List AV):=
 match x with
 | .mp ks vs=>some (ks,vs)
 | .mr b ver=>(rd b).bind fun B=>match Nat.beq B.ver ver && Nat.beq B.esz eD with
  |true=>match B.cells with| [.agg ks,.agg vs]=>some (ks,vs)|_=>none
  |false=>none
 |_=>none
def Bh (ok:Bool) (o:Option AV) (z:AV):AV:=match ok with|true=> .tup [o.getD z,.bool o.isSome]|false=>o.getD z
def zD (ap:AP) (ti:TI) (rd:Nat→Option aL) (x k:AV) (ok:Bool):yH:=
 match ti.d with
 | .map kt et=>(ap.tyAt kt).bind fun tk=>(ap.tyAt et).bind fun te=>(IA rd x).bind fun q=>(kz te te.zero).bind fun z=>
   aR (Bh ok (qa q.1 q.2 k) z) [gD tk k,q.1.all (gD tk)]
 |_=>none
def tO (ap:AP) (ti:TI) (rd:Nat→Option aL) (x k v:AV):yH:=
 match ti.d,x with
 | .map kt _,.mr b ver=>(ap.tyAt kt).bind fun tk=>(rd b).bind fun B=>match Nat.beq B.ver ver && Nat.beq B.esz eD && !B.fro with
  |true=>match B.cells with
   | [.agg ks,.agg vs]=>some (.dead,[(b,{B with cells:= [.agg (zV ks k),.agg (nN ks vs k v)],pr:=B.pr && (ct v).isEmpty})],[gD tk k,ks.all (gD tk)])
   |_=>none
  |false=>none
 |_,_=>none
def opA (ap:AP) (nid:Nat) (ρ:Operand→AV) (rd:Nat→Option aL) (dec:Operand→Option Bool) (em:Bool) (o:Op):yH:=
 match o with
 | .move x=>aR (ρ x)
 | .assign x=>aR (ρ x)
 | .pick c a b=>match dec c with
  |some true=>aR (ρ a)
  |some false=>aR (ρ b)
  |none=>match ρ c,ρ a,ρ b with| .bool c,.bool x,.bool y=>aR (.bool (cond c x y))|_,_,_=>none
 | .alloc e=>(ap.tyAt e).bind fun te=>match Nat.blt 0 te.size && te.zero.all ja with|true=>some (.ptr nid 0 0,[eT nid te.zero 0],[])|false=>none
 | .box e x=>(ap.tyAt e).bind fun te=>let vs:=(ρ x).cells
  match Nat.blt 0 te.size && vs.all ja with|true=>some (.ptr nid 0 0,[eT nid vs 0],[])|false=>none
 | .build t parts=>(ap.tyAt t).bind fun ti=>CE ap ti (parts.toList.map fun (i,x)=>(i,ρ x))
 | .buildSlice t len parts=>(ap.tyAt t).bind fun ti=>lW ap nid ti len (parts.toList.map fun (i,x)=>(i,ρ x))
 | .load t a=>(ap.tyAt t).bind fun ti=>Bk ti rd (ρ a)
 | .store t a x=>(ap.tyAt t).bind fun ti=>DJ ti rd (ρ a) (ρ x)
 | .makeMap _ r=>match r with|none=>some (.mr nid 0,[(nid,⟨[.agg [],.agg []],0,false,0,eD,true⟩)],[])|some _=>none
 | .lookup t x k ok=>(ap.tyAt t).bind fun ti=>zD ap ti rd (ρ x) (ρ k) ok
 | .mapUpdate t x k v=>(ap.tyAt t).bind fun ti=>tO ap ti rd (ρ x) (ρ k) (ρ v)
 | .insert t x k v=>(ap.tyAt t).bind fun ti=>tO ap ti rd (ρ x) (ρ k) (ρ v)
 | .nilCheck x=>match ρ x with
  | .ptr b v o=>aR (.ptr b v o)
  | .pp xs o=>aR (.pp xs o)
  | .fn f a c=>aR (.fn f a c)
  |_=>none
 | .binOp op t x y _=>(ap.tyAt t).bind fun ti=>Ou op ti (ρ x) (ρ y)
 | .unOp op _ x=>unA op (ρ x)
 | .convert s d x=>(ap.tyAt s).bind fun ts=>(ap.tyAt d).bind fun td=>uu ap ts td rd (ρ x)
 | .makeInterface t x=>(ap.tyAt t).bind fun ti=>match ti.d with| .iface=>none|_=>aR (.ifc t (ρ x))
 | .makeFunc (.func f) first cap=>aR (.fn f (first.toList.map ρ) (cap.toList.map ρ))
 | .makeSlice t l c=>(ap.tyAt t).bind fun ti=>oO ap nid ti (ρ l) (ρ c)
 | .slice t x lo hi mx=>(ap.tyAt t).bind fun ti=>DG ap ti rd (ρ x) (lo.map ρ) (hi.map ρ) (mx.map ρ)
 | .fieldAddr s x f=>(ap.tyAt s).bind fun ti=>match ti.d with
  | .struct fs=>(fs[f]?).bind fun (o,_,sz)=>match Nat.blt 0 sz with|true=>(I1 (ρ x) o).bind fun p=>aR p|false=>none
  |_=>none
 | .field t x f=>(ap.tyAt t).bind fun ti=>C4 ap ti (ρ x) f
 | .indexAddr t x i=>(ap.tyAt t).bind fun ti=>oM ap ti rd (ρ x) (ρ i)
 | .index t x i=>(ap.tyAt t).bind fun ti=>C9 ap ti (ρ x) (ρ i)
 | .typeAssert x _ asserted ok=>yP ap (ρ x) asserted ok
 | .extract t i=>match ρ t with| .tup l=>(l[i]?).bind fun v=>aR v|_=>none
 | .call {callee:= .builtin b,args,argTypes}=>
  match b with
  | .len=>(args[0]?).bind fun x=>(argTypes[0]?).bind fun t=>(ap.tyAt t).bind fun ti=>Ip ti.d (ρ x)
  | .append=>match args.toList,argTypes.toList with
   | [s,x],[t,t1]=>(ap.tyAt t).bind fun ti=>(ap.tyAt t1).bind fun ti1=>match ti.d,ti1.d,ρ x with
    | .slice e,.str,.str y=>(ap.tyAt e).bind fun te=>match Nat.beq te.size 1 with|true=>pF nid te rd em (ρ s) (.str y)|false=>none
    | .slice _,.slice _,.str _=>none
    | .slice e,.slice _,y=>(ap.tyAt e).bind fun te=>pF nid te rd em (ρ s) y
    |_,_,_=>none
   |_,_=>none
  | .min=>(qR min2 (args.toList.map ρ)).bind fun v=>aR v
  | .max=>(qR max2 (args.toList.map ρ)).bind fun v=>aR v
  |_=>none
 |_=>none
def xZ (P:Program):Nat→TypeId→List LK
 |0,_=> [.oth]
 |n+1,t=>match P.underlying t with
  |some (.int k)=> [.int k]
  |some .bool=> [.bool]
  |some .string=> [.str]
  |some (.slice _)=> [.sl]
  |some (.struct fs)=>fs.toList.flatMap fun f=>xZ P n f.type
  |some (.array m e)=>(List.replicate m (xZ P n e)).flatten
  |_=> [.oth]
def fM (P:Program):Option TypeDesc→TD
 |some (.int k)=> .int k
 |some .bool=> .bool
 |some .string=> .str
 |some (.slice e)=> .slice e
 |some (.array n e)=> .array n e
 |some (.struct fs)=> .struct (fs.toList.map fun f=>(f.offset,f.type,match P.info? f.type with|some i=>i.size|none=>0))
 |some (.interface _)=> .iface
 |some (.pointer _)=> .ptr
 |some (.func _ _ _)=> .func
 |some (.map k e)=> .map k e
 |_=> .oth
def pR (P:Program) (f:TypeId→Option (List LK)):List Field→Nat→Option (List LK)
 | [],_=>some []
 | x::r,off=>match f x.type with
  |some l=>match !(x.name== "_") && Nat.beq x.offset off && (match P.info? x.type with|some i=>Nat.beq i.size l.length|none=>false) with
   |true=>match pR P f r (off+l.length) with|some l'=>some (l++l')|none=>none
   |false=>none
  |none=>none
def fA (P:Program):Nat→TypeId→Option (List LK)
 |0,_=>none
 |n+1,t=>match P.underlying t with
  |some (.int k)=>some [.int k]
  |some .bool=>some [.bool]
  |some .string=>some [.str]
  |some (.struct fs)=>match P.stoodInHeld t with|true=>none|false=>pR P (fA P n) fs.toList 0
  |_=>none
def QH (i:TypeInfo) (d:TypeDesc):Bool:=match i.zero,d with
 |some (.agg _),.struct _=>true
 |some (.agg _),.array _ _=>true
 |some (.agg _),_=>false
 |some _,.struct _=>false
 |some _,.array _ _=>false
 |some _,_=>true
 |none,_=>false
def HW (P:Program) (d:TypeDesc):Bool:=match d with
 | .struct fs=>fs.toList.all fun f=>(P.info? f.type).isSome
 |_=>true
def wN (i:TypeInfo):List AV:=match i.zero with|some z=>z.cells.toList.map vJ|none=> []
def Pn:LK→LK→Bool
 | .int a,.int b=>eH a b
 | .bool,.bool=>true
 | .str,.str=>true
 |_,_=>false
def xY:List LK→List LK→Bool
 | [],[]=>true
 |a::r,b::q=>Pn a b && xY r q
 |_,_=>false
def KF (P:Program) (t:TypeId):Bool:=match fA P 8 t with|some l=>xY l (xZ P 8 t) && !P.eqGuardType P.depth t|none=>false
def JG (P:Program) (t:TypeId):Option TI:=
 match P.info? t,P.underlying t with
 |some i,some d=>
  match Nat.beq (xZ P 8 t).length i.size && (QH i d && HW P d) && (wN i).all ja && Nat.beq (wN i).length i.size && Nat.blt 0 i.size && i.zero.isSome && Nat.blt i.size eD with
  |true=>some {d:=fM P (some d),size:=i.size,bytes:=i.bytes,zero:=wN i,lks:=xZ P 8 t,cmp:=KF P t}
  |false=>none
 |_,_=>none
abbrev aJ:=Nat→Nat→Option Value
def iC (S S':aJ):Prop:=∀ k o v,S k o=some v→S' k o=some v
theorem iC.refl (S:aJ):iC S S:=fun _ _ _ h=>h
theorem iC.trans {S S' S'':aJ} (h:iC S S') (h':iC S' S''):iC S S'':=fun k o v e=>h' k o v (h k o v e)
def gj (S:aJ) (b o:Nat) (vs:List Value):Prop:=∀ j u,vs[j]? =some u→S b (o+j)=some u∧u.oneCell'=true
mutual
def PR (S:aJ):AV→Value→Prop
 | .int k n,v=>v= .int k n
 | .bool b,v=>v= .bool b
 | .str s,v=>v= .string ⟨s.toArray⟩
 | .agg l,v=> ∃ vs,v= .agg vs.toArray∧bP S l vs
 | .tup l,v=> ∃ vs,v= .tuple vs.toArray∧bP S l vs
 | .nilS,v=>v= .slice none 0 0
 | .sl xs n nn,v=> ∃ a cap,v= .slice a n cap∧n≤cap∧((a=none∧nn=false∧xs= []∧n=0∧cap=0)∨∃ b o vs,a=some ⟨b,o,none⟩∧bP S xs vs∧gj S b o vs)
 | .pp xs off,v=> ∃ b o vs,v= .pointer (some ⟨b,o+off,none⟩)∧bP S xs vs∧gj S b o vs
 | .mp ks vs,v=>(v= .map none∧ks= []∧vs= [])∨∃ b kk vv,v= .map (some b)∧S b 0=some (.agg kk.toArray)∧S b 1=some (.agg vv.toArray)∧bP S ks kk∧bP S vs vv
 | .nilP,v=>v= .pointer none
 | .fn f a c,v=> ∃ va vc,v= .func (.func f) va.toArray vc.toArray∧bP S a va∧bP S c vc
 | .nilF,v=>v= .nilFunc
 | .ifc t x,v=> ∃ u,v= .iface t u∧PR S x u
 | .nilI,v=>v= .nilIface
 | .dead,_=>True
 | .ref _ _ _ _,_=>False
 | .ptr _ _ _,_=>False
 | .mr _ _,_=>False
 | .own _ _ _,_=>False
def bP (S:aJ):List AV→List Value→Prop
 | [],[]=>True
 |x::r,v::vs=>PR S x v∧bP S r vs
 |_,_=>False
end
abbrev bL:=Nat→Option aL
abbrev aN:=Nat→Nat × Nat
mutual
def VR (g:bL) (m:aN) (S:aJ):AV→Value→Prop
 | .ref b ver i n,v=> ∃ B,g b=some B∧ver≤B.ver∧(∃ k o c',v= .slice (some ⟨k,o,none⟩) n c')∧(B.ver=ver→∃ o,v= .slice (some ⟨(m b).1,o,none⟩) n ((m b).2 - i)∧i+n≤(m b).2∧(i<(m b).2→o=i*B.esz)∧0<B.esz∧B.esz ≠ eD)
 | .ptr b ver off,v=> ∃ B,g b=some B∧ver≤B.ver∧(∃ k o,v= .pointer (some ⟨k,o,none⟩))∧(B.ver=ver→v= .pointer (some ⟨(m b).1,off,none⟩))
 | .mr b ver,v=> ∃ B,g b=some B∧ver≤B.ver∧(∃ k,v= .map (some k))∧(B.ver=ver→v= .map (some (m b).1))
 | .agg l,v=> ∃ vs,v= .agg vs.toArray∧aQ g m S l vs
 | .tup l,v=> ∃ vs,v= .tuple vs.toArray∧aQ g m S l vs
 | .fn f a c,v=> ∃ va vc,v= .func (.func f) va.toArray vc.toArray∧aQ g m S a va∧aQ g m S c vc
 | .ifc t x,v=> ∃ u,v= .iface t u∧VR g m S x u
 | .int k n,v=>PR S (.int k n) v
 | .bool b,v=>PR S (.bool b) v
 | .str s,v=>PR S (.str s) v
 | .nilS,v=>PR S .nilS v
 | .sl xs n nn,v=>PR S (.sl xs n nn) v
 | .pp xs off,v=>PR S (.pp xs off) v
 | .mp ks vs,v=>PR S (.mp ks vs) v
 | .nilP,v=>PR S .nilP v
 | .nilF,v=>PR S .nilF v
 | .nilI,v=>PR S .nilI v
 | .dead,_=>True
 | .own _ _ _,_=>False
def aQ (g:bL) (m:aN) (S:aJ):List AV→List Value→Prop
 | [],[]=>True
 |x::r,v::vs=>VR g m S x v∧aQ g m S r vs
 |_,_=>False
end
def aM (x y:AV):Prop:=∀ g m S v,VR g m S x v→VR g m S y v
inductive nL where
 |v (d:Nat) (x:AV)
 |b (d:Nat) (xs:List AV)
 |u (d:Nat)
inductive gb where
 |ret (v:AV)
 |pan (v:AV)
structure Cx where
 cl:Bool
 orc:List Bool
 bs:List Bool
 ps:List Prop
 ans:List (gb × List aL)
 hs:List nL
inductive R (α:Type) where
 |ok (a:α) (c:Cx)
 |need
 |bad (n:Nat)
def R.bind {α β:Type} (r:R α) (f:α→Cx→R β):R β:=
 match r with
 | .ok a c=>f a c
 | .need=> .need
 | .bad n=> .bad n
def lit (o b:Bool):Bool:=match o with|true=>b|false=> !b
def KX (c:Cx) (bs:List Bool):R Unit:=
 match c.cl with
 |true=>match bs.all id with|true=> .ok () c|false=> .bad 1
 |false=> .ok () {c with bs:=bs++c.bs}
def qM (c:Cx) (b:Bool):R Bool:=
 match c.cl with
 |true=> .ok b c
 |false=>match c.orc with
  | []=> .need
  |o::r=> .ok o {c with orc:=r,bs:=lit o b::c.bs}
def uP (c:Cx) (dst:Option Nat) (v:AV):AV × Cx:=
 match c.hs,dst with
 | .v d x::r,some d'=>match Nat.beq d d' with
  |true=>(x,{c with hs:=r,ps:=aM v x::c.ps})
  |false=>(v,c)
 |_,_=>(v,c)
def uO (c:Cx) (dst:Option Nat) (ups:List (Nat × aL)):List (Nat × aL) × Cx:=
 match c.hs,dst,ups with
 | .b d xs::r,some d',[(b,B)]=>match Nat.beq d d' with
  |true=>([(b,{B with cells:=xs})],{c with hs:=r,ps:=(B.cells=xs)::c.ps})
  |false=>(ups,c)
 |_,_,_=>(ups,c)
def Ej (c:Cx) (dst:Option Nat):Bool × Cx:=
 match c.hs,dst with
 | .u d::r,some d'=>match Nat.beq d d' with
  |true=>(true,{c with hs:=r})
  |false=>(false,c)
 |_,_=>(false,c)
abbrev bA:=Cx→AV→Nat→List AV→List aL→R (gb × List aL × AV)
def lN (rd:Nat→Option aL):Nat→List Nat→List Nat
 |0,l=>l
 |n+1,l=>
  let more:=l.flatMap fun b=>match rd b with|some B=>(match B.pr with|true=> []|false=>bq B.cells)|none=> []
  let l':=more.foldl (fun acc b=>if jN acc b then acc else acc++ [b]) l
  match Nat.beq l'.length l.length with|true=>l|false=>lN rd n l'
def frz (rd:Nat→Option aL):Nat→AV→Option AV
 |0,_=>none
 | fuel+1,x=>
  let frzL (l:List AV):Option (List AV):=fZ (frz rd fuel) l
  match x with
  | .ref b ver i n=>(rd b).bind fun B=>match Nat.beq B.ver ver with
   |true=>match B.pr with
    |true=>some (.sl ((B.cells.drop (i*B.esz)).take (n*B.esz)) n true)
    |false=>(frzL ((B.cells.drop (i*B.esz)).take (n*B.esz))).map fun l=> .sl l n true
   |false=>none
  | .ptr b ver off=>(rd b).bind fun B=>match Nat.beq B.ver ver && !(Nat.beq B.esz eD) with
   |true=>match B.pr with
    |true=>some (.pp B.cells off)
    |false=>(frzL B.cells).map fun l=> .pp l off
   |false=>none
  | .mr b ver=>(rd b).bind fun B=>match Nat.beq B.ver ver && Nat.beq B.esz eD with
   |true=>match B.pr with
    |true=>LJ B.cells
    |false=>(frzL B.cells).bind LJ
   |false=>none
  | .agg l=>(frzL l).map .agg
  | .tup l=>(frzL l).map .tup
  | .fn f a c=>(frzL a).bind fun a=>(frzL c).map fun c=> .fn f a c
  | .ifc t v=>(frz rd fuel v).map (.ifc t)
  | .own _ _ _=>none
  |x=>some x
def jK (l:List Nat) (b:Nat):Option Nat:=match l with
 | []=>none
 |c::r=>match Nat.beq c b with|true=>some 0|false=>(jK r b).map (· +1)
def zR (xs:List AV) (esz:Nat):aL:={cells:=xs,ver:=0,fro:=false,fz:=0,esz,pr:=true}
def dc (nid:Nat):List AV→List AV × List aL
 | []=>([],[])
 | .own xs n esz::r=>match dc (nid+1) r with|(l,bs)=>(.ref nid 0 0 n::l,zR xs esz::bs)
 |x::r=>match dc nid r with|(l,bs)=>(x::l,bs)
def fL (nid:Nat):AV→AV × List aL
 | .tup l=>match dc nid l with|(l,bs)=>(.tup l,bs)
 | .own xs n esz=>(.ref nid 0 0 n,[zR xs esz])
 |x=>(x,[])
def vH:Nat→List aL→List (Nat × aL)
 |_,[]=> []
 |n,B::r=>(n,B)::vH (n+1) r
def Ci:List Nat→List aL→List (Nat × aL)
 |b::r,B::q=>(b,B)::Ci r q
 |_,_=> []
def k_:List Nat→Bool
 | []=>true
 |b::r=> !jN r b && k_ r
def sK (ρ:Nat→Nat→Option (Nat × Nat)) (v:Nat) (B:aL):aL:={B with cells:=(match B.pr with|true=>B.cells|false=>ic ρ B.cells),ver:=v+B.ver}
def D5 (nid:Nat) (fp:List Nat) (vers:Nat→Nat) (n:Nat):Nat→Nat→Option (Nat × Nat):=fun p v=>
 match fp[p]? with
 |some b=>some (b,vers b+v)
 |none=>match Nat.blt p n with|true=>some (nid+(p - fp.length),v)|false=>none
structure G8 where
 out:gb
 ups:List (Nat × aL)
 fp:List Nat
 md:AV
def lZ (ap:AP) (H:bA) (rd:Nat→Option aL) (nid:Nat) (md:AV) (f:Nat) (args:List AV) (c:Cx):R G8:=
 let fp:=lN rd 6 (eU (bq args))
 let rd:=fun b=>match jN fp b with|true=>rd b|false=>none
 let shared:=match ap.fnAt f with|some F=>F.shared|none=>false
 match shared with
 | false=>
  match fZ (frz rd 6) args with
  |none=> .bad 10
  |some args'=>
   (H c md f args' []).bind fun (out,h',md) c=>
   match h' with
   |_::_=> .bad 14
   | []=>
   let mark:=fp.filterMap fun b=>(rd b).map fun B=>(b,{B with fro:=true,fz:=B.cells.length})
   match out with
   | .ret v=>match fL nid v with|(v,bs)=>match Nat.ble bs.length 4 with|true=> .ok {out:= .ret v,ups:=vH nid bs++mark,fp,md} c|false=> .bad 13
   | .pan v=> .ok {out:= .pan v,ups:=mark,fp,md} c
 | true=>
  let vers:=fun b=>match rd b with|some B=>B.ver|none=>0
  let ρ:Nat→Nat→Option (Nat × Nat):=fun b v=>match Nat.beq v (vers b) with|true=>(jK fp b).map fun p=>(p,0)|false=>none
  match fZ rd fp with
  |none=> .bad 11
  | some bl=>
   (H c md f (ic ρ args) (bl.map fun B=> {B with cells:=(match B.pr with|true=>B.cells|false=>ic ρ B.cells),ver:=0})).bind fun (out,h',md) c=>
   match Nat.ble fp.length h'.length && k_ fp with
   |false=> .bad 12
   |true=>
    let ρ':=D5 nid fp vers h'.length
    let ups:=(Ci fp h').map fun (b,B)=>(b,sK ρ' (vers b) B)
    let ex:=(h'.drop fp.length).map (sK ρ' 0)
    match out with
    | .ret v=>match fL (nid+(h'.length - fp.length)) (ren ρ' v) with|(v,bs)=>match Nat.ble ((h'.length - fp.length)+bs.length) 4 with|true=> .ok {out:= .ret v,ups:=vH nid (ex++bs)++ups,fp,md} c|false=> .bad 13
    | .pan v=>match Nat.ble (h'.length - fp.length) 4 with|true=> .ok {out:= .pan (ren ρ' v),ups:=vH nid (ex++ [])++ups,fp,md} c|false=> .bad 13
inductive a_ where
 |normal
 |exit (id:Nat)
 |ret
 |panic (v:AV)
structure St where
 env:dY
 hp:Hp
 md:AV
 dfs:List (Nat × List AV)
structure ou where
 rt:List Nat
 wt:List Nat
 rb:List Nat
 wb:List Nat
structure RS where
 env:dY
 hp:Hp
 md:AV
 dfs:List (Nat × List AV)
 dec:List (Nat × Bool)
 feet:List ou
def mS (l:List Operand):List Nat:=l.filterMap fun| .tmp t=>some t|_=>none
def zg (o:Oper):List Nat:=match o.dst with|some d=> [d]|none=> []
def jQ (env:dY) (dst:Option Nat) (v:AV):dY:=match dst with|some d=>(d,v)::env|none=>env
def kr (ap:AP) (env:dY):Operand→AV
 | .tmp t=>env.get t
 | .const v=>vJ v
 | .global g=>match (ap.gl[g]?).join with|some xs=> .pp xs 0|none=> .dead
 | .func f=> .fn f [] []
def C5 (ops:List Oper) (env:dY) (dec:List (Nat × Bool)) (o:Oper) (c:Cx):R (Bool × List (Nat × Bool)):=
 match o.guard with
 |none=> .ok (true,dec) c
 | some (j,want)=>
  match (ops[j]?).bind (·.dst) with
  |none=> .bad 20
  | some s=>match look dec s with
   |some b=> .ok (lit want b,dec) c
   |none=>match env.get s with
    | .bool b=>(qM c b).bind fun b' c=> .ok (lit want b',(s,b')::dec) c
    | .tup []=> .ok (false,dec) c
    |_=> .bad 21
def eZ (ops:List Oper) (o:Oper):List Nat:=
 match o.guard with
 |none=> []
 |some (j,_)=>match (ops[j]?).bind (·.dst) with|none=> []|some s=> [s]
def HR (dec:List (Nat × Bool)) (o:Oper):Bool:=match o.dst with|none=>true|some d=>match look dec d with|none=>true|some _=>false
def BU (ap:AP) (H:bA) (nid:Nat) (ops:List Oper) (o:Oper) (s:RS) (c:Cx):R (RS × Option AV):=
 (C5 ops s.env s.dec o c).bind fun (run,dec) c=>
 let rt:=mS o.op.operands.toList++eZ ops o
 match HR dec o with
 |false=> .bad 35
 |true=>
 match run with
 |false=> .ok ({s with env:=jQ s.env o.dst (.tup []),dec,feet:={rt,wt:=zg o,rb:= [],wb:= []}::s.feet},none) c
 | true=>
  let ρ:=kr ap s.env
  let rdAll:=look s.hp
  match o.op with
  | .call {callee:= .value g,args,..}=>
   match ρ g with
   | .fn f first cap=>
    (lZ ap H rdAll nid .dead f (first++args.toList.map ρ++cap) c).bind fun r c=>
    let foot:ou:={rt,wt:=zg o,rb:=r.fp,wb:=r.ups.map fun (q:Nat × aL)=>q.1}
    match Ej c o.dst with
    | (true,c)=>match r.out with
     | .ret v=>match r.ups.all (fun (q:Nat × aL)=>jN r.fp q.1) with
      |true=> .ok ({s with env:=jQ s.env o.dst v,dec,feet:={rt,wt:=zg o,rb:=r.fp,wb:= []}::s.feet},none) {c with ps:=(r.ups.map (fun (q:Nat × aL)=>some q.2)=r.ups.map (fun (q:Nat × aL)=>look s.hp q.1))::c.ps}
      |false=> .bad 36
     | .pan _=> .bad 37
    |(false,c)=>match r.out with
     | .ret v=> .ok ({s with env:=jQ s.env o.dst v,hp:=r.ups++s.hp,dec,feet:=foot::s.feet},none) c
     | .pan v=> .ok ({s with hp:=r.ups++s.hp,dec,feet:=foot::s.feet},some v) c
   |_=> .bad 30
  | .call {callee:= .builtin .recover,..}=>
   match s.md with
   | .nilI=> .ok ({s with env:=jQ s.env o.dst .nilI,dec,feet:={rt,wt:=zg o,rb:= [],wb:= []}::s.feet},none) c
   | .ifc t v=> .ok ({s with env:=jQ s.env o.dst (.ifc t v),md:= .nilI,dec,feet:={rt,wt:=zg o,rb:= [],wb:= []}::s.feet},none) c
   |_=> .bad 33
  | .defer {callee:= .value g,args,..}=>
   match ρ g with
   | .fn f first cap=> .ok ({s with env:=jQ s.env o.dst .dead,dfs:=(f,first++args.toList.map ρ++cap)::s.dfs,dec,feet:={rt,wt:=zg o,rb:= [],wb:= []}::s.feet},none) c
   |_=> .bad 34
  | .panic x=>
   match ρ x with
   | .ifc t v=> .ok ({s with dec},some (.ifc t v)) c
   |_=> .bad 31
  | op=>
   let fp:=Jc ρ op
   let rd:=fun b=>match jN fp b with|true=>rdAll b|false=>none
   let decs:Operand→Option Bool:=fun| .tmp t=>look dec t|_=>none
   (match pY ρ op with|some n=>qM c (Nat.beq n 0)|none=> .ok false c).bind fun em c=>
   match opA ap nid ρ rd decs em op with
   |none=> .bad 32
   | some (v,ups,bs)=>(KX c bs).bind fun _ c=>
    match uP c o.dst v with
    |(v,c)=>match uO c o.dst ups with
     |(ups,c)=> .ok ({s with env:=jQ s.env o.dst v,hp:=ups++s.hp,dec,feet:={rt,wt:=zg o,rb:=fp,wb:=ups.map fun (q:Nat × aL)=>q.1}::s.feet},none) c
def lw (ap:AP) (H:bA) (ops:List Oper):List Oper→Nat→RS→Cx→R (RS × Option AV)
 | [],_,s,c=> .ok (s,none) c
 | o::r,nid,s,c=>(BU ap H nid ops o s c).bind fun (s,p) c=>
  match p with
  |some v=> .ok (s,some v) c
  |none=>match s.feet with
   |f::_=>match f.wb.all (fun x=>Nat.blt x (nid+4)) with|true=>lw ap H ops r (nid+4) s c|false=> .bad 43
   | []=> .bad 44
def vB (a b:List Nat):Bool:=a.any (jN b)
def fS (a b:ou):Bool:=vB a.wt b.rt||vB a.wt b.wt||vB a.rt b.wt||vB a.wb b.rb||vB a.wb b.wb||vB a.rb b.wb
def mJ (n:Nat) (bef:List Nat) (feet:List ou):Bool:=
 let l:=feet.reverse.zipIdx
 l.all fun (a,i)=>l.all fun (b,j)=> !(Nat.blt i j)|| !(fS a b||b.wb.any fun x=>Nat.ble (n+4*i) x && Nat.blt x (n+4*i+4))||(bef.getD j 0).testBit i
def uD (keep:List Nat) (env:dY):List Nat:=keep.flatMap fun t=>ct (env.get t)
def norm (base:Nat) (keep:List Nat) (s:St):St:=
 let env:=s.env
 let hp:=s.hp
 let rd:=look hp
 let ids:=lN rd 20 (eU (lN rd 20 (List.range base)++uD keep env++s.dfs.flatMap fun d=>bq d.2))
 let ids:=ids.filter fun b=>(rd b).isSome
 let ρ:Nat→Nat→Option (Nat × Nat):=fun b v=>match rd b with
  |some B=>match Nat.beq B.ver v with
   |true=>(jK ids b).map fun p=>(p,match Nat.blt p base with|true=>v|false=>0)
   |false=>none
  |none=>none
 {env:=keep.map fun t=>(t,ren ρ (env.get t))
  hp:=ids.zipIdx.filterMap fun (b,p)=>(rd b).map fun B=>(p,{B with cells:=(match B.pr with|true=>B.cells|false=>ic ρ B.cells),ver:=match Nat.blt p base with|true=>B.ver|false=>0})
  md:=s.md
  dfs:=s.dfs.map fun d=>(d.1,ic ρ d.2)}
def dU:Hp→Nat
 | []=>0
 |(b,_)::r=>match Nat.blt b (dU r) with|true=>dU r|false=>b+1
def kU (ops:List Oper):Bool:=ops.zipIdx.all fun (o,i)=>o.after.toList.all fun e=> !Region.binds .any e||Nat.blt e.on i
def zW (ap:AP) (H:bA) (base:Nat) (keep:List Nat) (ops:List Oper) (draw:Bool) (s:St) (c:Cx):R (a_ × St):=
 (lw ap H ops ops (dU s.hp) {env:=s.env,hp:=s.hp,md:=s.md,dfs:=s.dfs,dec:= [],feet:= []} c).bind fun (s',p) c=>
 match p with
 | some v=>match draw with
  |true=> .bad 40
  |false=>match (ct v).isEmpty with
   |true=> .ok (.panic v,norm base keep ⟨s'.env,s'.hp,s'.md,s'.dfs⟩) c
   |false=> .ok (.panic v,⟨s'.env,s'.hp,s'.md,s'.dfs⟩) c
 |none=>
  match !draw||(mJ (dU s.hp) (Region.before ops.toArray).toList s'.feet && kU ops && Nat.beq s'.dfs.length s.dfs.length) with
  |true=> .ok (.normal,norm base keep ⟨s'.env,s'.hp,s'.md,s'.dfs⟩) c
  |false=> .bad 41
def Eo (f:St→Cx→R (a_ × St)):Nat→St→Cx→R (a_ × St)
 |0,_,_=> .bad 50
 |n+1,s,c=>(f s c).bind fun (e,s) c=>match e with
  | .normal=>Eo f n s c
  |e=> .ok (e,s) c
def gC (ap:AP) (H:bA) (base:Nat) (keep:List Nat) (lf:Nat):Code→St→Cx→R (a_ × St)
 | .skip,s,c=> .ok (.normal,s) c
 | .label _,s,c=> .ok (.normal,s) c
 | .region _ ops draw,s,c=>zW ap H base keep ops.toList draw s c
 | .seq a b,s,c=>(gC ap H base keep lf a s c).bind fun (e,s) c=>match e with
  | .normal=>gC ap H base keep lf b s c
  |e=> .ok (e,s) c
 | .cond t a b,s,c=>match kr ap s.env t with
  | .bool x=>(qM c x).bind fun x c=>match x with
   |true=>gC ap H base keep lf a s c
   |false=>gC ap H base keep lf b s c
  |_=> .bad 60
 | .block id b,s,c=>(gC ap H base keep lf b s c).bind fun (e,s) c=>match e with
  | .exit id'=>match Nat.beq id' id with|true=> .ok (.normal,s) c|false=> .ok (.exit id',s) c
  |e=> .ok (e,s) c
 | .loop b,s,c=>Eo (gC ap H base keep lf b) lf s c
 | .exit id,s,c=> .ok (.exit id,s) c
 | .ret,s,c=> .ok (.ret,s) c
 | .scope b,s,c=>gC ap H base keep lf b s c
 |_,_,_=> .bad 61
def qu (ap:AP) (env:dY) (hp:Hp):ResultVar→Option (AV × List Bool)
 | .tmp t=>some (env.get t,[])
 | .cell a t=>(ap.tyAt t).bind fun ti=>(Bk ti (look hp) (env.get a)).map fun (v,_,bs)=>(v,bs)
def dq (l:List Nat) (b:Nat):Nat:=(l.filter (Nat.beq b)).length
def K2 (base:Nat) (rd:Nat→Option aL) (v:AV):Option AV:=
 let fp:=lN rd 6 (eU (ct v))
 match fp.all (fun b=>Nat.ble base b) with
 |true=>frz (fun b=>match jN fp b with|true=>rd b|false=>none) 6 v
 |false=>none
def kW (base:Nat) (rd:Nat→Option aL) (all:List Nat) (v:AV):Option AV:=
 let frzO (v:AV):Option AV:=match (ct v).all (fun b=>Nat.blt b base) with|true=>some v|false=>K2 base rd v
 match v with
 | .ref b ver 0 n=>match rd b with
  |some B=>match Nat.ble base b && Nat.beq B.ver ver && !B.fro && B.pr && Nat.beq (dq all b) 1 && Nat.blt 0 B.esz with
   |true=>some (.own (B.cells.take (n*B.esz)) n B.esz)
   |false=>frzO v
  |none=>none
 |v=>frzO v
def af (f:Func):Code:=f.body.getD .skip
def iZ (md:AV) (args:List AV) (h:List aL):St:=
 {env:=args.zipIdx.map fun (x,i)=>(i,x),hp:=h.zipIdx.map fun (B,i)=>(i,B),md,dfs:= []}
def Uq:AV→Bool
 | .nilI=>true
 | .ifc _ _=>true
 |_=>false
def u_ (ap:AP) (H:bA):List (Nat × List AV)→AV→Hp→Cx→R (AV × Hp)
 | [],mode,hp,c=> .ok (mode,hp) c
 |(f,args)::r,mode,hp,c=>
  match Uq mode && (ct mode).isEmpty with
  |false=> .bad 78
  |true=>
  (lZ ap H (look hp) (dU hp) mode f args c).bind fun q c=>
  match q.out with
  | .ret _=>u_ ap H r q.md (q.ups++hp) c
  | .pan _=> .bad 75
def Gu (rd:Nat→Option aL) (base:Nat):Nat:=(lN rd 20 (List.range base)).length
def nD (ap:AP) (base:Nat) (F:Func) (env:dY) (hp:Hp) (c:Cx):R (gb × List aL):=
 let rd:=look hp
 let n:=Gu rd base
 match fZ (qu ap env hp) F.results.toList,fZ rd (List.range n) with
 |some vs,some h'=>
  match h'.all (fun B=>B.pr||(bq B.cells).all fun b=>Nat.blt b n) with
  |false=> .bad 76
  |true=>
  (KX c (vs.flatMap fun (q:AV × List Bool)=>q.2)).bind fun _ c=>
  let all:=vs.flatMap fun (q:AV × List Bool)=>lN rd 6 (eU (ct q.1))
  match fZ (kW n rd all) (vs.map fun (q:AV × List Bool)=>q.1) with
  |some [v]=> .ok (.ret v,h') c
  |some l=> .ok (.ret (.tup l),h') c
  |none=> .bad 70
 |_,_=> .bad 71
def zT (base:Nat) (v:AV) (hp:Hp) (c:Cx):R (gb × List aL):=
 let n:=Gu (look hp) base
 match kW n (look hp) (lN (look hp) 6 (eU (ct v))) v,fZ (look hp) (List.range n) with
 |some v,some h'=>
  match h'.all (fun B=>B.pr||(bq B.cells).all fun b=>Nat.blt b n) with
  |false=> .bad 77
  |true=> .ok (.pan v,h') c
 |_,_=> .bad 72
def tz (ap:AP) (H:bA) (base:Nat) (F:Func) (e:a_) (s:St) (c:Cx):R (gb × List aL × AV):=
 let go (mode:AV):R (gb × List aL × AV):=
  (u_ ap H s.dfs mode s.hp c).bind fun (mode,hp) c=>
  match mode with
  | .nilI=>(nD ap base F s.env hp c).bind fun (o,h) c=> .ok (o,h,s.md) c
  | .ifc t v=>(zT base (.ifc t v) hp c).bind fun (o,h) c=> .ok (o,h,s.md) c
  |_=> .bad 74
 match e with
 | .normal| .ret=>go .nilI
 | .panic (.ifc t v)=>match (ct v).isEmpty with|true=>go (.ifc t v)|false=> .bad 79
 |_=> .bad 73
def Hf (ap:AP) (H:bA) (lf:Nat) (md:AV) (F:AF) (args:List AV) (h:List aL) (c:Cx):R (gb × List aL × AV):=
 match af F.fn with
 | .seq (.region _ ops false) rest=>
  match ops.toList with
  | o ::r=>
   match o.op,o.guard,o.dst with
   | .call {callee:= .builtin .recover,..},none,some d=>
    let s0:=iZ .dead args h
    (lw ap H (o::r) r (dU s0.hp) {env:=(d,md)::s0.env,hp:=s0.hp,md:= .dead,dfs:= [],dec:= [],feet:= []} c).bind fun (s,p) c=>
    match p with
    |some _=> .bad 81
    | none=>(gC ap H h.length F.keep lf rest (norm h.length F.keep ⟨s.env,s.hp,s.md,s.dfs⟩) c).bind fun (e,s) c=>
     match s.dfs with
     |_::_=> .bad 82
     | []=>match e with
      | .normal| .ret=>(nD ap h.length F.fn s.env s.hp c).bind fun (o,h) c=> .ok (o,h,.nilI) c
      |_=> .bad 83
   |_,_,_=> .bad 84
  | []=> .bad 85
 |_=> .bad 86
def lX (ap:AP) (H:bA) (lf:Nat) (md:AV) (f:Nat) (args:List AV) (h:List aL) (c:Cx):R (gb × List aL × AV):=
 match ap.fnAt f with
 |none=> .bad 80
 |some F=>match md with
  | .dead=>(gC ap H h.length F.keep lf (af F.fn) (iZ .dead args h) c).bind fun (e,s) c=>tz ap H h.length F.fn e s c
  |md=>match Uq md && (ct md).isEmpty with|true=>Hf ap H lf md F args h c|false=> .bad 87
theorem ow {S:aJ}:∀ {l:List AV} {vs:List Value},bP S l vs→l.length=vs.length
 | [],[],_=>rfl
 |_::_,_::_,h=>by simp only [bP] at h;simp [ow h.2]
 | [],_::_,h=>by simp [bP] at h
 |_::_,[],h=>by simp [bP] at h
theorem bw {g:bL} {m:aN} {S:aJ}:∀ {l:List AV} {vs:List Value},aQ g m S l vs→l.length=vs.length
 | [],[],_=>rfl
 |_::_,_::_,h=>by simp only [aQ] at h;simp [bw h.2]
 | [],_::_,h=>by simp [aQ] at h
 |_::_,[],h=>by simp [aQ] at h
theorem DZ {S:aJ}:∀ {l:List AV} {vs:List Value} (_:bP S l vs) (i:Nat) {x:AV},l[i]? =some x→∃ v,vs[i]? =some v∧PR S x v
 | [],[],_,i,x,hx=>by simp at hx
 |a::l,v::vs,h,0,x,hx=>by simp only [bP] at h;simp at hx;subst hx;exact ⟨v,rfl,h.1⟩
 |a::l,v::vs,h,i+1,x,hx=>by simp only [bP] at h;simp at hx;simpa using DZ h.2 i hx
 | [],_::_,h,_,_,_=>by simp [bP] at h
 |_::_,[],h,_,_,_=>by simp [bP] at h
theorem kP {g:bL} {m:aN} {S:aJ}:∀ {l:List AV} {vs:List Value} (_:aQ g m S l vs) (i:Nat) {x:AV},l[i]? =some x→∃ v,vs[i]? =some v∧VR g m S x v
 | [],[],_,i,x,hx=>by simp at hx
 |a::l,v::vs,h,0,x,hx=>by simp only [aQ] at h;simp at hx;subst hx;exact ⟨v,rfl,h.1⟩
 |a::l,v::vs,h,i+1,x,hx=>by simp only [aQ] at h;simp at hx;simpa using kP h.2 i hx
 | [],_::_,h,_,_,_=>by simp [aQ] at h
 |_::_,[],h,_,_,_=>by simp [aQ] at h
theorem iP {S:aJ}:∀ {l l':List AV} {vs vs':List Value},bP S l vs→bP S l' vs'→bP S (l++l') (vs++vs')
 | [],_,[],_,_,h'=>by simpa using h'
 |_::_,_,_::_,_,h,h'=>by simp only [bP] at h;simp only [List.cons_append,bP];exact ⟨h.1,iP h.2 h'⟩
 | [],_,_::_,_,h,_=>by simp [bP] at h
 |_::_,_,[],_,h,_=>by simp [bP] at h
theorem dR {g:bL} {m:aN} {S:aJ}:∀ {l l':List AV} {vs vs':List Value},aQ g m S l vs→aQ g m S l' vs'→aQ g m S (l++l') (vs++vs')
 | [],_,[],_,_,h'=>by simpa using h'
 |_::_,_,_::_,_,h,h'=>by simp only [aQ] at h;simp only [List.cons_append,aQ];exact ⟨h.1,dR h.2 h'⟩
 | [],_,_::_,_,h,_=>by simp [aQ] at h
 |_::_,_,[],_,h,_=>by simp [aQ] at h
theorem gi {S:aJ}:∀ (n:Nat) {l:List AV} {vs:List Value},bP S l vs→bP S (l.take n) (vs.take n)
 |0,_,_,_=>by simp [bP]
 |n+1,[],[],_=>by simp [bP]
 |n+1,_::_,_::_,h=>by simp only [bP] at h;simp only [List.take_succ_cons,bP];exact ⟨h.1,gi n h.2⟩
 |_+1,[],_::_,h=>by simp [bP] at h
 |_+1,_::_,[],h=>by simp [bP] at h
theorem jV {S:aJ}:∀ (n:Nat) {l:List AV} {vs:List Value},bP S l vs→bP S (l.drop n) (vs.drop n)
 |0,_,_,h=>by simpa using h
 |n+1,[],[],_=>by simp [bP]
 |n+1,_::_,_::_,h=>by simp only [bP] at h;simpa using jV n h.2
 |_+1,[],_::_,h=>by simp [bP] at h
 |_+1,_::_,[],h=>by simp [bP] at h
theorem jX {g:bL} {m:aN} {S:aJ}:∀ (n:Nat) {l:List AV} {vs:List Value},aQ g m S l vs→aQ g m S (l.take n) (vs.take n)
 |0,_,_,_=>by simp [aQ]
 |n+1,[],[],_=>by simp [aQ]
 |n+1,_::_,_::_,h=>by simp only [aQ] at h;simp only [List.take_succ_cons,aQ];exact ⟨h.1,jX n h.2⟩
 |_+1,[],_::_,h=>by simp [aQ] at h
 |_+1,_::_,[],h=>by simp [aQ] at h
theorem lV {g:bL} {m:aN} {S:aJ}:∀ (n:Nat) {l:List AV} {vs:List Value},aQ g m S l vs→aQ g m S (l.drop n) (vs.drop n)
 |0,_,_,h=>by simpa using h
 |n+1,[],[],_=>by simp [aQ]
 |n+1,_::_,_::_,h=>by simp only [aQ] at h;simpa using lV n h.2
 |_+1,[],_::_,h=>by simp [aQ] at h
 |_+1,_::_,[],h=>by simp [aQ] at h
theorem gj.mono {S S':aJ} (h:iC S S') {b o:Nat} {vs:List Value} (hs:gj S b o vs):gj S' b o vs:=fun j u hu=> ⟨h _ _ _ (hs j u hu).1,(hs j u hu).2⟩
mutual
theorem bF {S S':aJ} (h:iC S S'):∀ (x:AV) {v:Value},PR S x v→PR S' x v
 | .int _ _,_,p=>by simpa only [PR] using p
 | .bool _,_,p=>by simpa only [PR] using p
 | .str _,_,p=>by simpa only [PR] using p
 | .nilS,_,p=>by simpa only [PR] using p
 | .nilP,_,p=>by simpa only [PR] using p
 | .nilF,_,p=>by simpa only [PR] using p
 | .nilI,_,p=>by simpa only [PR] using p
 | .dead,_,_=>by simp only [PR]
 | .agg l,_,p=>by
  simp only [PR] at p ⊢
  obtain ⟨vs,e,q⟩:=p
  exact ⟨vs,e,aX h l q⟩
 | .tup l,_,p=>by
  simp only [PR] at p ⊢
  obtain ⟨vs,e,q⟩:=p
  exact ⟨vs,e,aX h l q⟩
 | .sl xs n nn,_,p=>by
  simp only [PR] at p ⊢
  obtain ⟨a,cap,e,hle,q⟩:=p
  refine ⟨a,cap,e,hle, ?_⟩
  rcases q with q|⟨b,o,vs,e1,q,hs⟩
  ·exact .inl q
  ·exact .inr ⟨b,o,vs,e1,aX h xs q,hs.mono h⟩
 | .pp xs off,_,p=>by
  simp only [PR] at p ⊢
  obtain ⟨b,o,vs,e,q,hs⟩:=p
  exact ⟨b,o,vs,e,aX h xs q,hs.mono h⟩
 | .mp ks vs,_,p=>by
  simp only [PR] at p ⊢
  rcases p with p|⟨b,kk,vv,e,h0,h1,p1,p2⟩
  ·exact .inl p
  ·exact .inr ⟨b,kk,vv,e,h _ _ _ h0,h _ _ _ h1,aX h ks p1,aX h vs p2⟩
 | .fn f a c,_,p=>by
  simp only [PR] at p ⊢
  obtain ⟨va,vc,e,q,r⟩:=p
  exact ⟨va,vc,e,aX h a q,aX h c r⟩
 | .ifc t x,_,p=>by
  simp only [PR] at p ⊢
  obtain ⟨u,e,q⟩:=p
  exact ⟨u,e,bF h x q⟩
 | .ref _ _ _ _,_,p=>by simp only [PR] at p
 | .ptr _ _ _,_,p=>by simp only [PR] at p
 | .mr _ _,_,p=>by simp only [PR] at p
 | .own _ _ _,_,p=>by simp only [PR] at p
theorem aX {S S':aJ} (h:iC S S'):∀ (l:List AV) {vs:List Value},bP S l vs→bP S' l vs
 | [],[],_=>by simp only [bP]
 |x::r,v::vs,p=>by simp only [bP] at p ⊢;exact ⟨bF h x p.1,aX h r p.2⟩
 | [],_::_,p=>by simp [bP] at p
 |_::_,[],p=>by simp [bP] at p
end
mutual
theorem d_ {g:bL} {m:aN} {S:aJ}:∀ (x:AV) {v:Value},PR S x v→VR g m S x v
 | .int _ _,_,p=>by simpa only [VR] using p
 | .bool _,_,p=>by simpa only [VR] using p
 | .str _,_,p=>by simpa only [VR] using p
 | .nilS,_,p=>by simpa only [VR] using p
 | .nilP,_,p=>by simpa only [VR] using p
 | .nilF,_,p=>by simpa only [VR] using p
 | .nilI,_,p=>by simpa only [VR] using p
 | .sl _ _ _,_,p=>by simpa only [VR] using p
 | .pp _ _,_,p=>by simpa only [VR] using p
 | .mp _ _,_,p=>by simpa only [VR] using p
 | .dead,_,_=>by simp only [VR]
 | .agg l,_,p=>by
  simp only [PR] at p;simp only [VR]
  obtain ⟨vs,e,q⟩:=p
  exact ⟨vs,e,bh l q⟩
 | .tup l,_,p=>by
  simp only [PR] at p;simp only [VR]
  obtain ⟨vs,e,q⟩:=p
  exact ⟨vs,e,bh l q⟩
 | .fn f a c,_,p=>by
  simp only [PR] at p;simp only [VR]
  obtain ⟨va,vc,e,q,r⟩:=p
  exact ⟨va,vc,e,bh a q,bh c r⟩
 | .ifc t x,_,p=>by
  simp only [PR] at p;simp only [VR]
  obtain ⟨u,e,q⟩:=p
  exact ⟨u,e,d_ x q⟩
 | .ref _ _ _ _,_,p=>by simp only [PR] at p
 | .ptr _ _ _,_,p=>by simp only [PR] at p
 | .mr _ _,_,p=>by simp only [PR] at p
 | .own _ _ _,_,p=>by simp only [PR] at p
theorem bh {g:bL} {m:aN} {S:aJ}:∀ (l:List AV) {vs:List Value},bP S l vs→aQ g m S l vs
 | [],[],_=>by simp only [aQ]
 |x::r,v::vs,p=>by simp only [bP] at p;simp only [aQ];exact ⟨d_ x p.1,bh r p.2⟩
 | [],_::_,p=>by simp [bP] at p
 |_::_,[],p=>by simp [bP] at p
end
def lH (g:bL) (m:aN) (g':bL) (m':aN) (ρ:Nat→Nat→Option (Nat × Nat)):Prop:=
 ∀ b ver b' ver',ρ b ver=some (b',ver')→∀ B,g b=some B→ver≤B.ver→
  ∃ B',g' b'=some B'∧ver'≤B'.ver∧(B'.ver=ver'→B.ver=ver∧m' b'=m b∧B'.esz=B.esz)
mutual
theorem qK {g g':bL} {m m':aN} {S S':aJ} {ρ:Nat→Nat→Option (Nat × Nat)} (hS:iC S S') (h:lH g m g' m' ρ):∀ (x:AV) {v:Value},VR g m S x v→VR g' m' S' (ren ρ x) v
 | .int k n,_,p=>by simp only [VR] at p;simp only [ren,VR];exact bF hS _ p
 | .bool _,_,p=>by simp only [VR] at p;simp only [ren,VR];exact bF hS _ p
 | .str _,_,p=>by simp only [VR] at p;simp only [ren,VR];exact bF hS _ p
 | .nilS,_,p=>by simp only [VR] at p;simp only [ren,VR];exact bF hS _ p
 | .nilP,_,p=>by simp only [VR] at p;simp only [ren,VR];exact bF hS _ p
 | .nilF,_,p=>by simp only [VR] at p;simp only [ren,VR];exact bF hS _ p
 | .nilI,_,p=>by simp only [VR] at p;simp only [ren,VR];exact bF hS _ p
 | .sl _ _ _,_,p=>by simp only [VR] at p;simp only [ren,VR];exact bF hS _ p
 | .pp _ _,_,p=>by simp only [VR] at p;simp only [ren,VR];exact bF hS _ p
 | .mp _ _,_,p=>by simp only [VR] at p;simp only [ren,VR];exact bF hS _ p
 | .dead,_,_=>by simp only [ren,VR]
 | .own _ _ _,_,p=>by simp only [VR] at p
 | .agg l,_,p=>by
  simp only [VR] at p;simp only [ren,VR]
  obtain ⟨vs,e,q⟩:=p
  exact ⟨vs,e,gm hS h l q⟩
 | .tup l,_,p=>by
  simp only [VR] at p;simp only [ren,VR]
  obtain ⟨vs,e,q⟩:=p
  exact ⟨vs,e,gm hS h l q⟩
 | .fn f a c,_,p=>by
  simp only [VR] at p;simp only [ren,VR]
  obtain ⟨va,vc,e,q,r⟩:=p
  exact ⟨va,vc,e,gm hS h a q,gm hS h c r⟩
 | .ifc t x,_,p=>by
  simp only [VR] at p;simp only [ren,VR]
  obtain ⟨u,e,q⟩:=p
  exact ⟨u,e,qK hS h x q⟩
 | .ref b ver i n,_,p=>by
  simp only [VR] at p;simp only [ren]
  obtain ⟨B,hB,hv,hsh,q⟩:=p
  cases hρ:ρ b ver with
  |none=>simp only [VR]
  |some bv=>
   obtain ⟨b',ver'⟩:=bv
   obtain ⟨B',hB',hv',hc⟩:=h b ver b' ver' hρ B hB hv
   simp only [VR]
   refine ⟨B',hB',hv',hsh,fun e=> ?_⟩
   obtain ⟨e1,e2,e3⟩:=hc e
   rw [e2,e3]
   exact q e1
 | .ptr b ver off,_,p=>by
  simp only [VR] at p;simp only [ren]
  obtain ⟨B,hB,hv,hsh,q⟩:=p
  cases hρ:ρ b ver with
  |none=>simp only [VR]
  |some bv=>
   obtain ⟨b',ver'⟩:=bv
   obtain ⟨B',hB',hv',hc⟩:=h b ver b' ver' hρ B hB hv
   simp only [VR]
   refine ⟨B',hB',hv',hsh,fun e=> ?_⟩
   obtain ⟨e1,e2,_⟩:=hc e
   rw [e2]
   exact q e1
 | .mr b ver,_,p=>by
  simp only [VR] at p;simp only [ren]
  obtain ⟨B,hB,hv,hsh,q⟩:=p
  cases hρ:ρ b ver with
  |none=>simp only [VR]
  |some bv=>
   obtain ⟨b',ver'⟩:=bv
   obtain ⟨B',hB',hv',hc⟩:=h b ver b' ver' hρ B hB hv
   simp only [VR]
   refine ⟨B',hB',hv',hsh,fun e=> ?_⟩
   obtain ⟨e1,e2,_⟩:=hc e
   rw [e2]
   exact q e1
theorem gm {g g':bL} {m m':aN} {S S':aJ} {ρ:Nat→Nat→Option (Nat × Nat)} (hS:iC S S') (h:lH g m g' m' ρ):∀ (l:List AV) {vs:List Value},aQ g m S l vs→aQ g' m' S' (ic ρ l) vs
 | [],[],_=>by simp only [ic,aQ]
 |x::r,v::vs,p=>by simp only [aQ] at p;simp only [ic,aQ];exact ⟨qK hS h x p.1,gm hS h r p.2⟩
 | [],_::_,p=>by simp [aQ] at p
 |_::_,[],p=>by simp [aQ] at p
end
def Ge (g:bL) (m:aN) (g':bL) (m':aN):Prop:=
 ∀ b B,g b=some B→∃ B',g' b=some B'∧B'.esz=B.esz∧((B'.ver=B.ver∧m' b=m b)∨B.ver<B'.ver)
theorem Ge.refl (g:bL) (m:aN):Ge g m g m:=fun _ B h=> ⟨B,h,rfl,.inl ⟨rfl,rfl⟩⟩
theorem Ge.trans {g g' g'':bL} {m m' m'':aN} (h:Ge g m g' m') (h':Ge g' m' g'' m''):Ge g m g'' m'':=by
 intro b B hB
 obtain ⟨B',hB',e,c⟩:=h b B hB
 obtain ⟨B'',hB'',e',c'⟩:=h' b B' hB'
 refine ⟨B'',hB'',e'.trans e, ?_⟩
 rcases c with ⟨c1,c2⟩|c<;>rcases c' with ⟨d1,d2⟩|d
 ·exact .inl ⟨d1.trans c1,d2.trans c2⟩
 ·exact .inr (by omega)
 ·exact .inr (by omega)
 ·exact .inr (by omega)
mutual
theorem jt {g g':bL} {m m':aN} {S S':aJ} (hS:iC S S') (h:Ge g m g' m'):∀ (x:AV) {v:Value},VR g m S x v→VR g' m' S' x v
 | .int k n,_,p=>by simp only [VR] at p ⊢;exact bF hS _ p
 | .bool _,_,p=>by simp only [VR] at p ⊢;exact bF hS _ p
 | .str _,_,p=>by simp only [VR] at p ⊢;exact bF hS _ p
 | .nilS,_,p=>by simp only [VR] at p ⊢;exact bF hS _ p
 | .nilP,_,p=>by simp only [VR] at p ⊢;exact bF hS _ p
 | .nilF,_,p=>by simp only [VR] at p ⊢;exact bF hS _ p
 | .nilI,_,p=>by simp only [VR] at p ⊢;exact bF hS _ p
 | .sl _ _ _,_,p=>by simp only [VR] at p ⊢;exact bF hS _ p
 | .pp _ _,_,p=>by simp only [VR] at p ⊢;exact bF hS _ p
 | .mp _ _,_,p=>by simp only [VR] at p ⊢;exact bF hS _ p
 | .dead,_,_=>by simp only [VR]
 | .own _ _ _,_,p=>by simp only [VR] at p
 | .agg l,_,p=>by
  simp only [VR] at p ⊢
  obtain ⟨vs,e,q⟩:=p
  exact ⟨vs,e,gT hS h l q⟩
 | .tup l,_,p=>by
  simp only [VR] at p ⊢
  obtain ⟨vs,e,q⟩:=p
  exact ⟨vs,e,gT hS h l q⟩
 | .fn f a c,_,p=>by
  simp only [VR] at p ⊢
  obtain ⟨va,vc,e,q,r⟩:=p
  exact ⟨va,vc,e,gT hS h a q,gT hS h c r⟩
 | .ifc t x,_,p=>by
  simp only [VR] at p ⊢
  obtain ⟨u,e,q⟩:=p
  exact ⟨u,e,jt hS h x q⟩
 | .ref b ver i n,_,p=>by
  simp only [VR] at p ⊢
  obtain ⟨B,hB,hv,hsh,q⟩:=p
  obtain ⟨B',hB',he,hc⟩:=h b B hB
  rcases hc with ⟨c1,c2⟩|c
  ·refine ⟨B',hB',by omega,hsh,fun e=> ?_⟩
   rw [c2,he]
   exact q (by omega)
  ·exact ⟨B',hB',by omega,hsh,fun e=>by omega⟩
 | .ptr b ver off,_,p=>by
  simp only [VR] at p ⊢
  obtain ⟨B,hB,hv,hsh,q⟩:=p
  obtain ⟨B',hB',he,hc⟩:=h b B hB
  rcases hc with ⟨c1,c2⟩|c
  ·refine ⟨B',hB',by omega,hsh,fun e=> ?_⟩
   rw [c2]
   exact q (by omega)
  ·exact ⟨B',hB',by omega,hsh,fun e=>by omega⟩
 | .mr b ver,_,p=>by
  simp only [VR] at p ⊢
  obtain ⟨B,hB,hv,hsh,q⟩:=p
  obtain ⟨B',hB',he,hc⟩:=h b B hB
  rcases hc with ⟨c1,c2⟩|c
  ·refine ⟨B',hB',by omega,hsh,fun e=> ?_⟩
   rw [c2]
   exact q (by omega)
  ·exact ⟨B',hB',by omega,hsh,fun e=>by omega⟩
theorem gT {g g':bL} {m m':aN} {S S':aJ} (hS:iC S S') (h:Ge g m g' m'):∀ (l:List AV) {vs:List Value},aQ g m S l vs→aQ g' m' S' l vs
 | [],[],_=>by simp only [aQ]
 |x::r,v::vs,p=>by simp only [aQ] at p ⊢;exact ⟨jt hS h x p.1,gT hS h r p.2⟩
 | [],_::_,p=>by simp [aQ] at p
 |_::_,[],p=>by simp [aQ] at p
end
def h_ (ap:AP) (S:aJ):Prop:=∀ k xs,(ap.gl[k]?).join=some xs→∃ vs,bP S xs vs∧gj S k 0 vs
structure eB (P:Program) (ap:AP):Prop where
 ty:∀ t ti,ap.tyAt t=some ti→JG P t=some ti
def oP (es:Array MapEntry):Array Value:=#[.agg (es.map (·.key)),.agg (es.map (·.val))]
def fw (w:World) (k z:Nat) (cur:Array Value) (e:TypeId):Prop:=
 (z ≠ eD∧w.heap[k]? =some (.cells cur e (0,0)))∨(z=eD∧∃ es clk,w.heap[k]? =some (.map es clk)∧cur=oP es)
def bQ (w:World) (k o:Nat):Option Value:=match w.heap[k]? with
 |some (.map es _)=>(oP es)[o]?
 |_=>match w.cell? ⟨k,o,none⟩ with|some v=>if v.oneCell' then some v else none|none=>none
theorem fw.of {w:World} {k z:Nat} {cur:Array Value} {e:TypeId} (hz:z ≠ eD) (h:w.heap[k]? =some (.cells cur e (0,0))):fw w k z cur e:= .inl ⟨hz,h⟩
theorem fw.cells {w:World} {k z:Nat} {cur:Array Value} {e:TypeId} (h:fw w k z cur e) (hz:z ≠ eD):w.heap[k]? =some (.cells cur e (0,0)):=by
 rcases h with h|h
 ·exact h.2
 ·exact absurd h.1 hz
theorem fw.map {w:World} {k z:Nat} {cur:Array Value} {e:TypeId} (h:fw w k z cur e) (hz:z=eD):∃ es clk,w.heap[k]? =some (.map es clk)∧cur=oP es:=by
 rcases h with h|h
 ·exact absurd hz h.1
 ·exact h.2
theorem fw.same {w w':World} {k z:Nat} {cur:Array Value} {e:TypeId} (h:fw w k z cur e) (hw:w'.heap[k]? =w.heap[k]?):fw w' k z cur e:=by
 unfold fw;rw [hw];exact h
theorem fw.lt {w:World} {k z:Nat} {cur:Array Value} {e:TypeId} (h:fw w k z cur e):k<w.heap.size:=by
 rcases h with ⟨_,h⟩|⟨_,es,clk,h,_⟩<;>exact (Array.getElem?_eq_some_iff.1 h).1
theorem CF {w w':World} {k o:Nat} (hw:w'.heap[k]? =w.heap[k]?):bQ w' k o=bQ w k o:=by
 unfold bQ;rw [hw,World.cell?_of_block (w:=w) (a:=⟨k,o,none⟩) hw]
theorem m_ {w:World} {k o:Nat} {v:Value} (h:bQ w k o=some v) (hv:v.oneCell'=true):w.cell? ⟨k,o,none⟩=some v:=by
 unfold bQ at h
 split at h
 ·rename_i es clk hk
  exfalso
  unfold oP at h
  rcases (show o=0∨o=1∨2≤o by omega) with rfl|rfl|ho
  ·cases h;cases hv
  ·cases h;cases hv
  ·rw [Array.getElem?_eq_none (by simpa using ho)] at h;cases h
 ·split at h
  ·rename_i v' hc
   split at h
   ·cases h;exact hc
   ·cases h
  ·cases h
theorem ul {w:World} {k o:Nat} {v:Value} (h:w.cell? ⟨k,o,none⟩=some v) (hv:v.oneCell'=true):bQ w k o=some v:=by
 unfold bQ
 split
 ·rename_i es clk he
  unfold World.cell? at h
  simp only [he] at h
  cases h
 ·rw [h];simp only;rw [if_pos hv]
theorem mZ {w:World} {k o:Nat} {v:Value} (h:bQ w k o=some v) (hv:v.oneCell'=false):∃ es clk,w.heap[k]? =some (.map es clk)∧(oP es)[o]? =some v:=by
 unfold bQ at h
 split at h
 ·rename_i es clk he;exact ⟨es,clk,he,h⟩
 ·split at h
  ·split at h
   ·rename_i h1;cases h;rw [hv] at h1;cases h1
   ·cases h
  ·cases h
theorem AC {w:World} {k o:Nat} {v:Value} (h:bQ w k o=some v):k<w.heap.size:=by
 cases hv:v.oneCell' with
 |true=>exact World.block_lt_of_cell? w _ (m_ h hv)
 |false=>
  obtain ⟨_,_,hk,_⟩:=mZ h hv
  exact (Array.getElem?_eq_some_iff.1 hk).1
structure Fa (g:bL) (m:aN) (S:aJ) (w:World) (B:aL) (k c:Nat):Prop where
 lies:∃ cur e vs rest,fw w k B.esz cur e∧cur.toList=vs++rest∧(B.pr=true→bP S B.cells vs)∧aQ g m S B.cells vs∧(B.esz ≠ eD→∀ u ∈ vs,u.oneCell'=true)∧(0<B.esz→B.esz ≠ eD→cur.size=c*B.esz∧c≤maxLen)
 fz0:B.fro=false→B.fz=0
 fzle:B.fz≤B.cells.length
structure br (ap:AP) (g:bL) (m:aN) (S:aJ) (w:World):Prop where
 inj:∀ b b' B B',g b=some B→g b'=some B'→(m b).1=(m b').1→b=b'
 blk:∀ b B,g b=some B→Fa g m S w B (m b).1 (m b).2
 sealed:∀ k o v,S k o=some v→bQ w k o=some v
 own:∀ b B,g b=some B→∀ o v,S (m b).1 o=some v→B.fro=true∧o<B.fz
 glob:h_ ap S
structure Fr (g:bL) (m:aN) (S:aJ) (w:World) (g':bL) (m':aN) (S':aJ) (w':World):Prop where
 ge:Ge g m g' m'
 sle:iC S S'
 os:w'.os=w.os
 tape:w'.tape=w.tape
 output:w'.output=w.output
 size:w.heap.size≤w'.heap.size
 rest:∀ k,k<w.heap.size→(∀ b B,g b=some B→(m b).1 ≠ k)→w'.heap[k]? =w.heap[k]?
 img:∀ b B,g' b=some B→w.heap.size≤(m' b).1∨(∃ B0,g b=some B0∧(m' b).1=(m b).1)
 sealN:∀ k o v,S' k o=some v→S k o=some v∨w.heap.size≤k∨∃ b B,g b=some B∧(m b).1=k
theorem Fr.refl (g:bL) (m:aN) (S:aJ) (w:World):Fr g m S w g m S w:=
 ⟨Ge.refl g m,iC.refl S,rfl,rfl,rfl,Nat.le_refl _,fun _ _ _=>rfl,fun _ B h=> .inr ⟨B,h,rfl⟩,fun _ _ _ h=> .inl h⟩
theorem Fr.trans {g g' g'':bL} {m m' m'':aN} {S S' S'':aJ} {w w' w'':World} (h:Fr g m S w g' m' S' w') (h':Fr g' m' S' w' g'' m'' S'' w''):Fr g m S w g'' m'' S'' w'':=by
 refine ⟨h.ge.trans h'.ge,h.sle.trans h'.sle,h'.os.trans h.os,h'.tape.trans h.tape,h'.output.trans h.output,Nat.le_trans h.size h'.size, ?_, ?_, ?_⟩
 ·intro k hk hn
  rw [h'.rest k (Nat.lt_of_lt_of_le hk h.size) ?_,h.rest k hk hn]
  intro b B hB e
  rcases h.img b B hB with hi|⟨B0,hB0,hi⟩
  ·omega
  ·exact hn b B0 hB0 (hi ▸ e)
 ·intro b B hB
  rcases h'.img b B hB with hi|⟨B0,hB0,hi⟩
  ·exact .inl (Nat.le_trans h.size hi)
  ·rcases h.img b B0 hB0 with hj|⟨B1,hB1,hj⟩
   ·exact .inl (hi ▸ hj)
   ·exact .inr ⟨B1,hB1,hi.trans hj⟩
 ·intro k o v hv
  rcases h'.sealN k o v hv with h1|h1|⟨b,B,hB,h1⟩
  ·exact h.sealN k o v h1
  ·exact .inr (.inl (Nat.le_trans h.size h1))
  ·rcases h.img b B hB with hi|⟨B0,hB0,hi⟩
   ·exact .inr (.inl (h1 ▸ hi))
   ·exact .inr (.inr ⟨b,B0,hB0,by rw [← h1,hi]⟩)
theorem br.lt {ap:AP} {g:bL} {m:aN} {S:aJ} {w:World} (h:br ap g m S w) {b:Nat} {B:aL} (hB:g b=some B):(m b).1<w.heap.size:=by
 obtain ⟨cur,e,vs,rest,hk,_⟩:=(h.blk b B hB).lies
 exact hk.lt
theorem br.one {ap:AP} {g:bL} {m:aN} {S:aJ} {w:World} (h:br ap g m S w) {k o:Nat} {v:Value} (hv:S k o=some v) (h1:v.oneCell'=true):w.cell? ⟨k,o,none⟩=some v:=m_ (h.sealed k o v hv) h1
theorem l_ {w:World} {k j:Nat} {cur:Array Value} {e:TypeId} {fr:Nat × Nat} (h:w.heap[k]? =some (.cells cur e fr)):w.cell? ⟨k,j,none⟩=cur.toList[j]? :=by
 rw [cell_of_row w k j cur e fr h];simp
theorem fw.get {w:World} {k z j:Nat} {cur:Array Value} {e:TypeId} {u:Value} (h:fw w k z cur e) (hu:cur.toList[j]? =some u) (h1:z ≠ eD→u.oneCell'=true):bQ w k j=some u:=by
 rcases h with ⟨hz,h⟩|⟨_,es,clk,h,rfl⟩
 ·exact ul (by rw [l_ h];exact hu) (h1 hz)
 ·unfold bQ;rw [h];simpa using hu
theorem du {a b:IntKind} (h:eH a b=true):a=b:=by cases a<;>cases b<;>first|rfl|(exact absurd h (by decide))
theorem ax {a b:Nat} (h:Nat.beq a b=true):a=b:=Nat.eq_of_beq_eq_true h
theorem dz {a b:Nat} (h:Nat.ble a b=true):a≤b:=Nat.le_of_ble_eq_true h
theorem cZ {a b:Nat} (h:Nat.blt a b=true):a<b:=by
 have:Nat.ble (a+1) b=true:=h
 exact dz this
theorem N0 {S:aJ} {x:AV} {v:Value} (h:PR S x v) (hl:ja x=true):v.oneCell'=true:=by
 cases x<;>simp only [PR] at h<;>first
  |(subst h;rfl)
  |(rcases h with ⟨rfl,_⟩|⟨_,_,_,rfl,_⟩<;>rfl)
  |(obtain ⟨_,_,_,rfl,_⟩:=h;rfl)
  |(obtain ⟨_,_,rfl,_⟩:=h;rfl)
  |(obtain ⟨_,rfl,_⟩:=h;first|rfl|exact absurd hl (by simp [ja]))
  |(exact absurd hl (by simp [ja]))
theorem Ct {g:bL} {m:aN} {S:aJ} {x:AV} {v:Value} (h:VR g m S x v) (hl:ja x=true):v.oneCell'=true:=by
 cases x<;>simp only [VR] at h<;>first
  | (exact N0 h hl)
    |(obtain ⟨_,_,_,⟨_,_,rfl⟩,_⟩:=h;rfl)
  |(obtain ⟨_,_,_,⟨_,_,_,rfl⟩,_⟩:=h;rfl)
  |(obtain ⟨_,_,rfl,_⟩:=h;rfl)
  |(obtain ⟨_,rfl,_⟩:=h;first|rfl|exact absurd hl (by simp [ja]))
  |(exact absurd hl (by simp [ja]))
end AM
namespace AM
open Go
structure sW (P:Program) (t:Nat) (ti:TI) (i:TypeInfo) (d:TypeDesc) (z:Value):Prop where
 info:P.info? t=some i
 und:P.underlying t=some d
 d_eq:ti.d=fM P (some d)
 size:ti.size=i.size
 bytes:ti.bytes=i.bytes
 zero:i.zero=some z
 zcells:ti.zero=z.cells.toList.map vJ
 zleaf:∀ x ∈ ti.zero,ja x=true
 zsize:z.cells.size=i.size
 lks:ti.lks.length=i.size
 pos:0<i.size
 zagg:QH i d=true
 fld:HW P d=true
 small:i.size<eD
theorem cj {P:Program} {ap:AP} (hap:eB P ap) {t:Nat} {ti:TI} (h:ap.tyAt t=some ti):∃ i d z,sW P t ti i d z:=by
 have h1:=hap.ty t ti h
 unfold JG at h1
 cases hi:P.info? t with
 |none=>simp [hi] at h1
 | some i=>
  cases hd:P.underlying t with
  |none=>simp [hi,hd] at h1
  | some d=>
   simp only [hi,hd] at h1
   split at h1
   ·rename_i hc
    simp only [Bool.and_eq_true] at hc
    obtain ⟨⟨⟨⟨⟨⟨c1,c0⟩,c2⟩,c3⟩,c4⟩,c5⟩,c6⟩:=hc
    cases hz:i.zero with
    |none=>simp [hz] at c5
    | some z=>
     cases h1
     have ez:wN i=z.cells.toList.map vJ:=by simp [wN,hz]
     refine ⟨i,d,z,hi,hd,rfl,rfl,rfl,hz,ez, ?_, ?_,ax c1,cZ c4,c0.1,c0.2,cZ c6⟩
     ·intro x hx;exact List.all_eq_true.1 c2 x hx
     ·have:=ax c3
      rw [ez] at this
      simpa using this
   ·cases h1
theorem dO {P:Program} {d:TypeDesc} {e:Nat} (h:fM P (some d)= .slice e):d= .slice e:=by cases d<;>simp [fM] at h;subst h;rfl
theorem qB {P:Program} {d:TypeDesc} {n e:Nat} (h:fM P (some d)= .array n e):d= .array n e:=by cases d<;>simp [fM] at h;obtain ⟨rfl,rfl⟩:=h;rfl
theorem pg {P:Program} {d:TypeDesc} (h:fM P (some d)= .str):d= .string:=by cases d<;>simp [fM] at h;rfl
theorem JE {P:Program} {d:TypeDesc} {k:IntKind} (h:fM P (some d)= .int k):d= .int k:=by cases d<;>simp [fM] at h;subst h;rfl
theorem MJ {P:Program} {d:TypeDesc} (h:fM P (some d)= .bool):d= .bool:=by cases d<;>simp [fM] at h;rfl
theorem nH {P:Program} {d:TypeDesc} {fs:List (Nat × Nat × Nat)} (h:fM P (some d)= .struct fs):
  ∃ fields:Array Field,d= .struct fields∧fs=fields.toList.map fun f=>(f.offset,f.type,match P.info? f.type with|some i=>i.size|none=>0):=by
 cases d<;>simp [fM] at h
 exact ⟨_,rfl,h.symm⟩
theorem wE {P:Program} (d:TypeDesc):zA (fM P (some d))=d.isRow:=by cases d<;>simp [fM,zA,TypeDesc.isRow]
theorem xw (S:aJ) (v:Value):PR S (zO v) v:=by
 cases v<;>simp only [zO,PR]
 case pointer a=>cases a<;>simp only [PR]
 case map a=>
  cases a with
  |none=>simp [PR]
  |some _=>simp only [PR]
 case slice a n c=>
  split<;>simp only [PR]
theorem Ap (S:aJ) (v:Value):PR S (vJ v) v:=by
 cases v<;>simp only [vJ]<;>try exact xw S _
 case agg cs=>
  simp only [PR]
  refine ⟨cs.toList,by simp, ?_⟩
  induction cs.toList with
  |nil=>simp [bP]
  |cons c r ih=>simp only [List.map_cons,bP];exact ⟨xw S c,ih⟩
 case tuple vs=>
  split
  ·rename_i h
   simp only [PR]
   exact ⟨[],by rw [← h],by simp [bP]⟩
  ·simp only [PR]
theorem nT (S:aJ):∀ l:List Value,bP S (l.map vJ) l
 | []=>by simp [bP]
 |v::r=>by simp only [List.map_cons,bP];exact ⟨Ap S v,nT S r⟩
theorem N7 {g:bL} {m:aN} {S:aJ} {k:LK} {c:AV} {v:Value} (h:VR g m S c v) (hc:chk k c=true):VR g m S (eta k c) v:=by
 cases k<;>cases c<;>simp [chk] at hc<;>simp only [eta,AV.toInt,AV.toBool,AV.toStr,AV.slX,AV.slN]<;>try exact h
 ·rw [du hc];exact h
 ·simp only [VR,PR] at h ⊢
  subst h
  exact ⟨none,0,rfl,Nat.le_refl _,.inl ⟨rfl,trivial,trivial,trivial,rfl⟩⟩
 ·simp only [VR,PR] at h ⊢
  obtain ⟨a,cap,e,hle,q⟩:=h
  refine ⟨a,cap,e,hle, ?_⟩
  rcases q with ⟨q1,_,q2,q3,q4⟩|q
  ·exact .inl ⟨q1,trivial,q2,q3,q4⟩
  ·exact .inr q
theorem rU {k:LK} {c:AV} (h:chk k c=true):c ≠ .dead:=by intro e;subst e;cases k<;>simp [chk] at h
theorem getD_some {xs:List AV} {i:Nat} (h:xs.getD i .dead ≠ .dead):xs[i]? =some (xs.getD i .dead):=by
 rw [List.getD_eq_getElem?_getD] at h ⊢
 cases hx:xs[i]? with
 |none=>simp [hx] at h
 |some x=>simp
theorem iX (xs:List AV) (off:Nat):(xs.drop off).headD .dead=xs.getD off .dead:=by
 rw [List.headD_eq_head?_getD,List.head?_drop,List.getD_eq_getElem?_getD]
theorem Ga (ty:Bool) (xs:List AV) (off:Nat):qt ty [] xs off= []:=rfl
theorem oV (ty:Bool) (k:LK) (ks:List LK) (xs:List AV) (off:Nat):qt ty (k::ks) xs off=(match ty with|true=>eta k (xs.getD off .dead)|false=>xs.getD off .dead)::qt ty ks xs (off+1):=by
 show _::EH ty ks (xs.drop off).tail=_::EH ty ks (xs.drop (off+1))
 rw [List.tail_drop]
 cases ty<;>simp only [iX]
theorem Fm (ty:Bool) (k:LK) (ks:List LK) (xs:List AV) (off:Nat):yT ty (k::ks) xs off=(match ty with|true=>chk k (xs.getD off .dead)|false=>chk .oth (xs.getD off .dead))::yT ty ks xs (off+1):=by
 show _::Hj ty ks (xs.drop off).tail=_::Hj ty ks (xs.drop (off+1))
 rw [List.tail_drop]
 cases ty<;>simp only [iX]
theorem jE {g:bL} {m:aN} {S:aJ} (ty:Bool) {xs:List AV} {vs:List Value} (hv:aQ g m S xs vs):∀ (lks:List LK) (off:Nat),(∀ b ∈ yT ty lks xs off,b=true)→
  ∃ us:List Value,us.length=lks.length∧(∀ j u,us[j]? =some u→vs[off+j]? =some u)∧aQ g m S (qt ty lks xs off) us:=by
 intro lks
 induction lks with
 |nil=>exact fun off _=> ⟨[],rfl,fun _ _ h=>by simp at h,by simp [Ga,aQ]⟩
 | cons k ks ih=>
  intro off h
  simp only [Fm,List.mem_cons,forall_eq_or_imp] at h
  obtain ⟨us,hl,hu,hr⟩:=ih (off+1) h.2
  have key:∃ v,vs[off]? =some v∧VR g m S ((qt ty (k::ks) xs off).headD .dead) v:=by
   rw [oV]
   cases ty with
   |true=>
    obtain ⟨v,hv1,hv2⟩:=kP hv off (getD_some (rU h.1))
    exact ⟨v,hv1,N7 hv2 h.1⟩
   |false=>
    obtain ⟨v,hv1,hv2⟩:=kP hv off (getD_some (rU h.1))
    exact ⟨v,hv1,hv2⟩
  obtain ⟨v,hv1,hv2⟩:=key
  rw [oV] at hv2
  refine ⟨v::us,by simp [hl], ?_, ?_⟩
  ·intro j u hj
   cases j with
   |zero=>simp at hj;subst hj;simpa using hv1
   |succ j=>simp at hj;rw [show off+(j+1)=off+1+j from by omega];exact hu j u hj
  ·simp only [oV,aQ];exact ⟨hv2,hr⟩
theorem vq {P:Program} {w:World} {t:Nat} {ti:TI} {i:TypeInfo} {d:TypeDesc} {z:Value} (ht:sW P t ti i d z) {g:bL} {m:aN} {S:aJ} {cs:List AV} {us:List Value} {k a:Nat}
  (hl:us.length=ti.lks.length) (hu:∀ j u,us[j]? =some u→w.cell? ⟨k,a+j,none⟩=some u) (hr:aQ g m S cs us) {v:AV} (hv:kz ti cs=some v):
  ∃ cv,(loadVar t ⟨k,a,none⟩).run P w= .ok cv w∧VR g m S v cv:=by
 unfold kz at hv
 rw [ht.d_eq,wE] at hv
 split at hv
 ·rename_i hrow
  cases hv
  refine ⟨.agg us.toArray,run_loadVar_mid w k a t us d hu ht.und hrow (by simp [ht.info,hl,ht.lks]), ?_⟩
  simp only [VR];exact ⟨us,rfl,hr⟩
 ·rename_i hrow
  split at hv
  ·rename_i c
   cases hv
   cases us with
   |nil=>simp [aQ] at hr
   | cons u r=>
    simp only [aQ] at hr
    refine ⟨u, ?_,hr.1⟩
    have hag:(isAgg t).run P w= .ok false w:=by
     unfold isAgg;rw [Sem.run_bind,run_underlying ht.und w]
     cases d<;>simp_all [TypeDesc.isRow]
    have hc:=hu 0 u rfl
    simp only [Nat.add_zero] at hc
    simp [loadVar,hag,hc]
  ·cases hv
theorem bind_some {α β:Type} {x:Option α} {f:α→Option β} {b:β} (h:x.bind f=some b):∃ a,x=some a∧f a=some b:=by
 cases x with
 |none=>simp at h
 |some a=>exact ⟨a,rfl,h⟩
theorem aH {v v':AV} {bs bs':List Bool} {ups:List (Nat × aL)} (h:aR v bs=some (v',ups,bs')):v'=v∧ups= []∧bs'=bs:=by
 unfold aR at h;cases h;exact ⟨rfl,rfl,rfl⟩
section
variable {P:Program} {ap:AP} {g:bL} {m:aN} {S:aJ} {w:World}
theorem rZ (hS:br ap g m S w) {rd:bL} (hrd:∀ b B,rd b=some B→g b=some B) {t:Nat} {ti:TI} {i:TypeInfo} {d:TypeDesc} {z:Value} (ht:sW P t ti i d z)
  {p v:AV} {cp:Value} (hp:VR g m S p cp) {ups:List (Nat × aL)} {bs:List Bool} (h:Bk ti rd p=some (v,ups,bs)) (hbs:∀ b ∈ bs,b=true):
  ups= []∧∃ cv,(Instr.loadAt t cp).run P w= .ok cv w∧VR g m S v cv:=by
 unfold Bk at h
 split at h
 ·rename_i xs off
  obtain ⟨v',hv',h⟩:=bind_some h
  obtain ⟨rfl,rfl,rfl⟩:=aH h
  simp only [VR,PR] at hp
  obtain ⟨b,o,vs,rfl,hp,hs⟩:=hp
  obtain ⟨us,hl,hu,hr⟩:=jE (g:=g) (m:=m) true (bh _ hp) ti.lks off hbs
  obtain ⟨cv,h1,h2⟩:=vq (w:=w) ht (k:=b) (a:=o+off) hl (fun j u hj=>by
   have hq:=hs (off+j) u (hu j u hj);have:=hS.one hq.1 hq.2;rw [Nat.add_assoc];exact this) hr hv'
  exact ⟨rfl,cv,by simpa [Instr.loadAt,Instr.sureAddr] using h1,h2⟩
 ·rename_i b ver off
  obtain ⟨B,hB,h⟩:=bind_some h
  split at h
  ·rename_i hver
   obtain ⟨v',hv',h⟩:=bind_some h
   obtain ⟨rfl,rfl,rfl⟩:=aH h
   simp only [VR] at hp
   obtain ⟨B',hB',_,_,q⟩:=hp
   have hgB:=hrd b B hB
   rw [hgB] at hB';cases hB'
   simp only [Bool.and_eq_true,Bool.not_eq_true'] at hver
   have hnz:B.esz ≠ eD:=fun e=>by rw [e] at hver;exact absurd hver.2 (by decide)
   have q:=q (ax hver.1)
   subst q
   obtain ⟨cur,e,vs,rest,hk,hc,_,hvs,_⟩:=(hS.blk b B hgB).lies
   have hk:=hk.cells hnz
   obtain ⟨us,hl,hu,hr⟩:=jE _ hvs ti.lks off hbs
   obtain ⟨cv,h1,h2⟩:=vq (w:=w) ht (k:=(m b).1) (a:=off) hl (fun j u hj=>by
    have hj':=hu j u hj
    rw [l_ hk,hc,List.getElem?_append_left (List.getElem?_eq_some_iff.1 hj').1]
    exact hj') hr hv'
   exact ⟨rfl,cv,by simpa [Instr.loadAt,Instr.sureAddr] using h1,h2⟩
  ·cases h
 ·cases h
theorem vK {p p':AV} {cp:Value} (hp:VR g m S p cp) {o:Nat} (h:I1 p o=some p'):∃ a:Addr,cp= .pointer (some a)∧VR g m S p' (.pointer (some (a.add o))):=by
 unfold I1 at h
 split at h<;>cases h
 ·rename_i b ver off
  simp only [VR] at hp
  obtain ⟨B,hB,hv,⟨k,o',rfl⟩,q⟩:=hp
  refine ⟨_,rfl, ?_⟩
  simp only [VR]
  refine ⟨B,hB,hv,⟨k,o'+o,by rw [Addr.add_mid]⟩,fun e=> ?_⟩
  have q:=q e
  simp only [Value.pointer.injEq,Option.some.injEq,Addr.mk.injEq] at q
  obtain ⟨q1,q2,_⟩:=q
  rw [Addr.add_mid,q1,q2]
 ·rename_i xs off
  simp only [VR,PR] at hp
  obtain ⟨b,k,vs,rfl,hp,hs⟩:=hp
  refine ⟨_,rfl, ?_⟩
  simp only [VR,PR]
  exact ⟨b,k,vs,by rw [Addr.add_mid,Nat.add_assoc],hp,hs⟩
end
end AM
namespace AM
open Go
section
variable {P:Program} {ap:AP} {g:bL} {m:aN} {S:aJ} {w:World}
theorem bB {b:Bool} {l:List Bool} (h:∀ x ∈ b::l,x=true):b=true∧∀ x ∈ l,x=true:=⟨h b (by simp),fun x hx=>h x (by simp [hx])⟩
theorem fV {t:Nat} {ti:TI} {i:TypeInfo} {d:TypeDesc} {z:Value} (ht:sW P t ti i d z) (w:World):(Go.sizeOf t).run P w= .ok ti.size w:=by
 simp [Go.sizeOf,typeInfo,ht.info,ht.size]
theorem rW {x:AV} {cx:Value} (hx:VR g m S x cx) {n:Int} (h:En x=some n):∃ k,cx= .int k n:=by
 cases x<;>simp [En] at h
 subst h
 simp only [VR,PR] at hx
 exact ⟨_,hx⟩
theorem sM {t:Nat} {ti:TI} {i:TypeInfo} {d:TypeDesc} {z:Value} (ht:sW P t ti i d z) {fs:List (Nat × Nat × Nat)} (hd:ti.d= .struct fs) {f o ft sz:Nat} (hf:fs[f]? =some (o,ft,sz)) (hsz:Nat.blt 0 sz=true)
  {p v:AV} {cp:Value} (hp:VR g m S p cp) (hv:I1 p o=some v):∃ cv,(Instr.fieldAt t cp f).run P w= .ok cv w∧VR g m S v cv:=by
 rw [ht.d_eq] at hd
 obtain ⟨fields,rfl,rfl⟩:=nH hd
 simp only [List.getElem?_map,Option.map_eq_some_iff] at hf
 obtain ⟨fl,hfl,he⟩:=hf
 simp only [Prod.mk.injEq] at he
 obtain ⟨rfl,rfl,hs⟩:=he
 obtain ⟨a,rfl,hv⟩:=vK hp hv
 refine ⟨_, ?_,hv⟩
 have hfl':fields[f]? =some fl:=by simpa using hfl
 cases hi:P.info? fl.type with
 |none=>rw [hi] at hs;simp only at hs;subst hs;exact absurd (cZ hsz) (by omega)
 |some j=>
  rw [hi] at hs
  have hj:j.size ≠ 0:=by have:=cZ hsz;simp only at hs;omega
  simp [Instr.fieldAt,run_underlying ht.und,hfl',Instr.sureAddr,fieldPlace,Go.sizeOf,typeInfo,hi,hj]
theorem jc {i:Int} {n:Nat} (h0:decide (0≤i)=true) (h1:decide (i<n)=true):0≤i∧i<n∧i.toNat<n:=by
 have a:=of_decide_eq_true h0
 have b:=of_decide_eq_true h1
 omega
theorem qV (hap:eB P ap) {rd:bL} (hrd:∀ b B,rd b=some B→g b=some B) {t:Nat} {ti:TI} {i:TypeInfo} {d:TypeDesc} {z:Value} (ht:sW P t ti i d z)
  {x ix v:AV} {cx ci:Value} (hx:VR g m S x cx) (hi:VR g m S ix ci) {ups:List (Nat × aL)} {bs:List Bool} (h:oM ap ti rd x ix=some (v,ups,bs)) (hbs:∀ b ∈ bs,b=true):
  ups= []∧∃ cv,(Instr.indexAt t cx ci).run P w= .ok cv w∧VR g m S v cv:=by
 unfold oM at h
 have hq:=bind_some h;clear h;obtain ⟨n,hn,h⟩:=hq
 obtain ⟨k,rfl⟩:=rW hi hn
 split at h
 ·rename_i e hd
  have hq:=bind_some h;clear h;obtain ⟨te,hte,h⟩:=hq
  obtain ⟨ie,de,ze,hte⟩:=cj hap hte
  rw [ht.d_eq] at hd
  have hd:=dO hd
  subst hd
  split at h
  ·rename_i xs len nn
   obtain ⟨rfl,rfl,rfl⟩:=aH h
   obtain ⟨b1,b2⟩:=bB hbs
   obtain ⟨b2,_⟩:=bB b2
   obtain ⟨h0,h1,h2⟩:=jc b1 b2
   simp only [VR,PR] at hx
   obtain ⟨a,cap,rfl,hle,q⟩:=hx
   rcases q with ⟨_,_,_,q,_⟩|⟨b,o,vs,rfl,hp,hs⟩
   ·subst q;omega
   ·refine ⟨rfl,.pointer (some ⟨b,o+n.toNat*te.size,none⟩), ?_, ?_⟩
    ·simp [Instr.indexAt,asIntOf,run_underlying ht.und,h0,h1,fV hte,Addr.add_mid]
    ·simp only [VR,PR];exact ⟨b,o,vs,rfl,hp,hs⟩
  ·rename_i b ver j len
   have hq:=bind_some h;clear h;obtain ⟨B,hB,h⟩:=hq
   split at h
   ·rename_i hc
    simp only [Bool.and_eq_true] at hc
    obtain ⟨rfl,rfl,rfl⟩:=aH h
    obtain ⟨b1,b2⟩:=bB hbs
    obtain ⟨b2,_⟩:=bB b2
    obtain ⟨h0,h1,h2⟩:=jc b1 b2
    simp only [VR] at hx
    obtain ⟨B',hB',hv,_,q⟩:=hx
    have hg:=hrd b B hB
    rw [hg] at hB';cases hB'
    obtain ⟨o,rfl,q1,q2,q3⟩:=q (ax hc.1)
    have ho:=q2 (by omega)
    have hes:=ax hc.2
    refine ⟨rfl,.pointer (some ⟨(m b).1,(j+n.toNat)*te.size,none⟩), ?_, ?_⟩
    ·rw [ho,hes]
     simp [Instr.indexAt,asIntOf,run_underlying ht.und,h0,h1,fV hte,Addr.add_mid,Nat.add_mul]
    ·simp only [VR];exact ⟨B,hg,by have:=ax hc.1;omega,⟨_,_,rfl⟩,fun _=>trivial⟩
   ·cases h
  ·cases h
 ·rename_i len e hd
  have hq:=bind_some h;clear h;obtain ⟨te,hte,h⟩:=hq
  obtain ⟨ie,de,ze,hte⟩:=cj hap hte
  have hq:=bind_some h;clear h;obtain ⟨p,hp,h⟩:=hq
  obtain ⟨rfl,rfl,rfl⟩:=aH h
  rw [ht.d_eq] at hd
  have hd:=qB hd
  subst hd
  obtain ⟨b1,b2⟩:=bB hbs
  obtain ⟨b2,_⟩:=bB b2
  obtain ⟨h0,h1,h2⟩:=jc b1 b2
  obtain ⟨a,rfl,hv⟩:=vK hx hp
  refine ⟨rfl,_, ?_,hv⟩
  simp [Instr.indexAt,asIntOf,run_underlying ht.und,h0,h1,fV hte,Instr.sureAddr]
 ·cases h
theorem vO {t:Nat} {ti:TI} {i:TypeInfo} {d:TypeDesc} {z:Value} (ht:sW P t ti i d z) {vs us:List Value} {cs:List AV} {off:Nat}
  (hl:us.length=ti.lks.length) (hu:∀ j u,us[j]? =some u→vs[off+j]? =some u) (hr:aQ g m S cs us) {v:AV} (hv:kz ti cs=some v):
  ∃ cv,(part t vs.toArray off).run P w= .ok cv w∧VR g m S v cv:=by
 have hag:(isAgg t).run P w= .ok d.isRow w:=by
  unfold isAgg;rw [Sem.run_bind,run_underlying ht.und w]
  cases d<;>simp [TypeDesc.isRow]
 unfold kz at hv
 rw [ht.d_eq,wE] at hv
 split at hv
 ·rename_i hrow
  cases hv
  have hx:(vs.drop off).take ti.size=us:=by
   apply List.ext_getElem?
   intro j
   rw [List.getElem?_take,List.getElem?_drop]
   have hsz:ti.size=us.length:=by rw [hl,ht.lks,ht.size]
   split
   ·rename_i hj
    have hj':j<us.length:=by omega
    have:=hu j us[j] (List.getElem?_eq_getElem hj')
    rw [this,List.getElem?_eq_getElem hj']
   ·rename_i hj
    rw [List.getElem?_eq_none (by omega)]
  refine ⟨.agg us.toArray, ?_, ?_⟩
  ·simp [part,hag,hrow,fV ht,hx]
  ·simp only [VR];exact ⟨us,rfl,hr⟩
 ·rename_i hrow
  split at hv
  ·rename_i c
   cases hv
   cases us with
   |nil=>simp [aQ] at hr
   |cons u r=>
    simp only [aQ] at hr
    refine ⟨u, ?_,hr.1⟩
    have hc:=hu 0 u rfl
    simp only [Nat.add_zero] at hc
    have hrow:d.isRow=false:=by simpa using hrow
    simp [part,hag,hrow,hc]
  ·cases hv
theorem zn (hap:eB P ap) {t:Nat} {ti:TI} {i:TypeInfo} {d:TypeDesc} {z:Value} (ht:sW P t ti i d z) {x v:AV} {cx:Value} (hx:VR g m S x cx) {f:Nat} {ups:List (Nat × aL)} {bs:List Bool}
  (h:C4 ap ti x f=some (v,ups,bs)) (hbs:∀ b ∈ bs,b=true):ups= []∧∃ cv,(Instr.field t cx f).run P w= .ok cv w∧VR g m S v cv:=by
 unfold C4 at h
 split at h
 ·rename_i fs cs hd
  have hq:=bind_some h;clear h;obtain ⟨⟨o,ft,sz⟩,hf,h⟩:=hq
  have hq:=bind_some h;clear h;obtain ⟨tf,htf,h⟩:=hq
  have hq:=bind_some h;clear h;obtain ⟨v',hv',h⟩:=hq
  obtain ⟨rfl,rfl,rfl⟩:=aH h
  obtain ⟨ie,de,ze,htf⟩:=cj hap htf
  rw [ht.d_eq] at hd
  obtain ⟨fields,rfl,rfl⟩:=nH hd
  simp only [List.getElem?_map,Option.map_eq_some_iff] at hf
  obtain ⟨fl,hfl,he⟩:=hf
  simp only [Prod.mk.injEq] at he
  obtain ⟨rfl,rfl,hs⟩:=he
  simp only [VR] at hx
  obtain ⟨vs,rfl,hx⟩:=hx
  obtain ⟨us,hl,hu,hr⟩:=jE false hx tf.lks fl.offset hbs
  obtain ⟨cv,h1,h2⟩:=vO (w:=w) htf hl hu hr hv'
  have hfl':fields[f]? =some fl:=by simpa using hfl
  refine ⟨rfl,cv, ?_,h2⟩
  simp [Instr.field,run_underlying ht.und,hfl',asAgg,h1]
 ·cases h
theorem HZ (s:List UInt8) (i:Nat) (h:i<s.length):(⟨s.toArray⟩:ByteArray)[i]? =some (s.getD i 0):=by
 have hs:i<(⟨s.toArray⟩:ByteArray).size:=by simpa [ByteArray.size] using h
 rw [getElem?_pos _ i hs]
 simp only [ByteArray.getElem_eq_getElem_data,List.getElem_toArray]
 rw [List.getD_eq_getElem?_getD,List.getElem?_eq_getElem h]
 rfl
theorem zw (hap:eB P ap) {t:Nat} {ti:TI} {i:TypeInfo} {d:TypeDesc} {z:Value} (ht:sW P t ti i d z) {x ix v:AV} {cx ci:Value} (hx:VR g m S x cx) (hi:VR g m S ix ci) {ups:List (Nat × aL)} {bs:List Bool}
  (h:C9 ap ti x ix=some (v,ups,bs)) (hbs:∀ b ∈ bs,b=true):ups= []∧∃ cv,(Instr.index t cx ci).run P w= .ok cv w∧VR g m S v cv:=by
 unfold C9 at h
 have hq:=bind_some h;clear h;obtain ⟨n,hn,h⟩:=hq
 obtain ⟨k,rfl⟩:=rW hi hn
 split at h
 ·rename_i s hd
  obtain ⟨rfl,rfl,rfl⟩:=aH h
  obtain ⟨b1,b2⟩:=bB hbs
  obtain ⟨b2,_⟩:=bB b2
  obtain ⟨h0,h1,h2⟩:=jc b1 b2
  rw [ht.d_eq] at hd
  have hd:=pg hd
  subst hd
  simp only [VR,PR] at hx
  subst hx
  refine ⟨rfl,.int .u8 (s.getD n.toNat 0).toNat, ?_,by simp only [VR,PR]⟩
  simp [Instr.index,asIntOf,run_underlying ht.und,h0,HZ s n.toNat h2]
 ·rename_i len e cs hd
  have hq:=bind_some h;clear h;obtain ⟨te,hte,h⟩:=hq
  have hq:=bind_some h;clear h;obtain ⟨v',hv',h⟩:=hq
  obtain ⟨rfl,rfl,rfl⟩:=aH h
  obtain ⟨ie,de,ze,hte⟩:=cj hap hte
  obtain ⟨b1,b2⟩:=bB hbs
  obtain ⟨b2,b3⟩:=bB b2
  obtain ⟨h0,h1,h2⟩:=jc b1 b2
  rw [ht.d_eq] at hd
  have hd:=qB hd
  subst hd
  simp only [VR] at hx
  obtain ⟨vs,rfl,hx⟩:=hx
  obtain ⟨us,hl,hu,hr⟩:=jE true hx te.lks (n.toNat*te.size) b3
  obtain ⟨cv,h1',h2'⟩:=vO (w:=w) hte hl hu hr hv'
  refine ⟨rfl,cv, ?_,h2'⟩
  simp [Instr.index,asIntOf,run_underlying ht.und,h0,h1,fV hte,h1']
 ·cases h
end
end AM
namespace AM
open Go
section
variable {P:Program} {ap:AP} {g:bL} {m:aN} {S:aJ} {w:World}
def tV (g:bL) (m:aN) (S:aJ) (x:Option AV) (c:Option Value):Prop:=
 match x,c with
 |none,none=>True
 |some x,some c=>VR g m S x c
 |_,_=>False
theorem dL {x:Option AV} {c:Option Value} (h:tV g m S x c) {d n:Int} (hn:jd x d=some n):(x=none∧c=none∧n=d)∨∃ k,c=some (.int k n):=by
 cases x with
 |none=>cases c with
  |none=>simp [jd] at hn;exact .inl ⟨rfl,rfl,hn.symm⟩
  |some c=>simp [tV] at h
 | some x=>cases c with
  |none=>simp [tV] at h
  |some c=>
   cases x<;>simp [jd] at hn
   subst hn
   simp only [tV,VR,PR] at h
   subst h
   exact .inr ⟨_,rfl⟩
theorem lm (P:Program) (w:World) (isS:Bool) (len cap:Nat) (lo hi:Option Value) (l h:Int)
  (hl:(lo=none∧l=0)∨∃ k,lo=some (.int k l)) (hh:(hi=none∧h=len)∨∃ k,hi=some (.int k h)) (h0:0≤l) (h1:l≤h) (h2:h≤cap):
  (Instr.sliceBounds isS len cap lo hi none).run P w= .ok (l.toNat,h.toNat,cap) w:=by
 have h4:0≤h:=by omega
 rcases hl with ⟨rfl,rfl⟩|⟨k,rfl⟩<;>rcases hh with ⟨rfl,rfl⟩|⟨k',rfl⟩
 ·simp [Instr.sliceBounds]
 ·simp [Instr.sliceBounds,Instr.sliceBound,asIntOf,h2,h4]
 ·have h3':l≤(len:Int):=h1
  simp [Instr.sliceBounds,Instr.sliceBound,asIntOf,h0,h3']
 ·simp [Instr.sliceBounds,Instr.sliceBound,asIntOf,h0,h2,h4]
  intro hc;omega
theorem AW (s:List UInt8) (l h:Nat):(⟨s.toArray⟩:ByteArray).extract l h=⟨((s.take h).drop l).toArray⟩:=by
 apply ByteArray.ext
 rw [ByteArray.data_extract]
 apply Array.ext'
 simp [List.extract_eq_take_drop,List.drop_take]
theorem qz (s:List UInt8):(⟨s.toArray⟩:ByteArray).size=s.length:=by simp [ByteArray.size]
theorem gj.drop {b o:Nat} {vs:List Value} (h:gj S b o vs) (n:Nat):gj S b (o+n) (vs.drop n):=by
 intro j u hj
 rw [List.getElem?_drop] at hj
 rw [Nat.add_assoc]
 exact h _ _ hj
theorem gj.take {b o:Nat} {vs:List Value} (h:gj S b o vs) (n:Nat):gj S b o (vs.take n):=by
 intro j u hj
 rw [List.getElem?_take] at hj
 split at hj
 ·exact h _ _ hj
 ·cases hj
theorem Ke {a b c:Bool} (h:∀ x ∈ [a,b,c],x=true):a=true∧b=true∧c=true:=⟨h a (by simp),h b (by simp),h c (by simp)⟩
theorem xe {α:Type} (xs:List α) (n:Nat):(xs.take n).drop n= []:=by
 apply List.drop_eq_nil_of_le;simp;omega
theorem z_ (hap:eB P ap) {rd:bL} (hrd:∀ b B,rd b=some B→g b=some B) {t:Nat} {ti:TI} {i:TypeInfo} {d:TypeDesc} {z:Value} (ht:sW P t ti i d z)
  {x v:AV} {cx:Value} (hx:VR g m S x cx) {lo hi mx:Option AV} {clo chi cmx:Option Value} (hlo:tV g m S lo clo) (hhi:tV g m S hi chi) (hmx:tV g m S mx cmx)
  {ups:List (Nat × aL)} {bs:List Bool} (h:DG ap ti rd x lo hi mx=some (v,ups,bs)) (hbs:∀ b ∈ bs,b=true):
  ups= []∧∃ cv,(Instr.sliceAt t cx clo chi cmx).run P w= .ok cv w∧VR g m S v cv:=by
 have hmx0:mx=none→cmx=none:=by intro e;subst e;cases cmx<;>simp [tV] at hmx ⊢
 unfold DG at h
 split at h
 ·rename_i s hd
  have hq:=bind_some h;clear h;obtain ⟨l,hl,h⟩:=hq
  have hq:=bind_some h;clear h;obtain ⟨u,hu,h⟩:=hq
  obtain ⟨rfl,rfl,rfl⟩:=aH h
  obtain ⟨b1,b2,b3⟩:=Ke hbs
  have b1:=of_decide_eq_true b1
  have b2:=of_decide_eq_true b2
  have b3:=of_decide_eq_true b3
  rw [ht.d_eq] at hd
  have hd:=pg hd
  subst hd
  simp only [VR,PR] at hx
  subst hx
  rw [hmx0 rfl]
  have hb:=lm P w false s.length s.length clo chi l u ((dL hlo hl).imp (fun h=> ⟨h.2.1,h.2.2⟩) id) ((dL hhi hu).imp (fun h=> ⟨h.2.1,h.2.2⟩) id) b1 b2 b3
  refine ⟨rfl,.string ⟨((s.take u.toNat).drop l.toNat).toArray⟩, ?_,by simp only [VR,PR]⟩
  rw [← AW]
  simp [Instr.sliceAt,Instr.slice,run_underlying ht.und,qz,hb]
 ·rename_i e xs n nn hd
  have hq:=bind_some h;clear h;obtain ⟨te,hte,h⟩:=hq
  have hq:=bind_some h;clear h;obtain ⟨l,hl,h⟩:=hq
  have hq:=bind_some h;clear h;obtain ⟨u,hu,h⟩:=hq
  obtain ⟨rfl,rfl,rfl⟩:=aH h
  obtain ⟨ie,de,ze,hte⟩:=cj hap hte
  obtain ⟨b1,b2,b3⟩:=Ke hbs
  have b1:=of_decide_eq_true b1
  have b2:=of_decide_eq_true b2
  have b3:=of_decide_eq_true b3
  rw [ht.d_eq] at hd
  have hd:=dO hd
  subst hd
  simp only [VR,PR] at hx
  obtain ⟨a,cap,rfl,hle,q⟩:=hx
  rw [hmx0 rfl]
  have hb:=lm P w true n cap clo chi l u ((dL hlo hl).imp (fun h=> ⟨h.2.1,h.2.2⟩) id) ((dL hhi hu).imp (fun h=> ⟨h.2.1,h.2.2⟩) id) b1 b2 (by omega)
  refine ⟨rfl,.slice (if cap=l.toNat then a else a.map (·.add (l.toNat*te.size))) (u.toNat - l.toNat) (cap - l.toNat), ?_, ?_⟩
  ·simp [Instr.sliceAt,Instr.slice,run_underlying ht.und,hb,fV hte]
  ·simp only [VR,PR]
   refine ⟨_,_,rfl,by omega, ?_⟩
   rcases q with ⟨rfl,q1,rfl,rfl,rfl⟩|⟨b,o,vs,rfl,hp,hs⟩
   ·refine .inl ⟨by simp,q1,by simp,by omega,by omega⟩
   ·refine .inr ?_
    by_cases hc:cap=l.toNat
    ·refine ⟨b,o,[],by rw [if_pos hc], ?_,fun j u h=>by simp at h⟩
     have e:(xs.take (u.toNat*te.size)).drop (l.toNat*te.size)= []:=by
      have:u.toNat=l.toNat:=by omega
      rw [this,xe]
     rw [e];simp [bP]
    ·exact ⟨b,o+l.toNat*te.size,(vs.take (u.toNat*te.size)).drop (l.toNat*te.size),by rw [if_neg hc];simp [Addr.add_mid],jV _ (gi _ hp),(hs.take _).drop _⟩
 ·rename_i e b ver j n hd
  have hq:=bind_some h;clear h;obtain ⟨te,hte,h⟩:=hq
  have hq:=bind_some h;clear h;obtain ⟨B,hB,h⟩:=hq
  have hq:=bind_some h;clear h;obtain ⟨l,hl,h⟩:=hq
  have hq:=bind_some h;clear h;obtain ⟨u,hu,h⟩:=hq
  split at h
  ·rename_i hc
   simp only [Bool.and_eq_true] at hc
   obtain ⟨rfl,rfl,rfl⟩:=aH h
   obtain ⟨ie,de,ze,hte⟩:=cj hap hte
   obtain ⟨b1,b2,b3⟩:=Ke hbs
   have b1:=of_decide_eq_true b1
   have b2:=of_decide_eq_true b2
   have b3:=of_decide_eq_true b3
   rw [ht.d_eq] at hd
   have hd:=dO hd
   subst hd
   simp only [VR] at hx
   obtain ⟨B',hB',hv,_,q⟩:=hx
   have hg:=hrd b B hB
   rw [hg] at hB';cases hB'
   obtain ⟨o,rfl,q1,q2,q3⟩:=q (ax hc.1)
   have hes:=ax hc.2
   rw [hmx0 rfl]
   have hb:=lm P w true n ((m b).2 - j) clo chi l u ((dL hlo hl).imp (fun h=> ⟨h.2.1,h.2.2⟩) id) ((dL hhi hu).imp (fun h=> ⟨h.2.1,h.2.2⟩) id) b1 b2 (by omega)
   refine ⟨rfl,.slice (if (m b).2 - j=l.toNat then some ⟨(m b).1,o,none⟩ else some ⟨(m b).1,o+l.toNat*te.size,none⟩) (u.toNat - l.toNat) ((m b).2 - j - l.toNat), ?_, ?_⟩
   ·simp [Instr.sliceAt,Instr.slice,run_underlying ht.und,hb,fV hte,Addr.add_mid]
   ·simp only [VR]
    refine ⟨B,hg,hv,(by split<;>exact ⟨_,_,_,rfl⟩),fun _=> ?_⟩
    by_cases hcl:(m b).2 - j=l.toNat
    ·exact ⟨o,by rw [if_pos hcl];congr 1;omega,by omega,fun h=>by omega,q3⟩
    ·refine ⟨o+l.toNat*te.size,by rw [if_neg hcl];congr 1;omega,by omega,fun h=> ?_,q3⟩
     rw [q2 (by omega),hes,Nat.add_mul]
  ·cases h
 ·rename_i e hd
  have hq:=bind_some h;clear h;obtain ⟨te,hte,h⟩:=hq
  have hq:=bind_some h;clear h;obtain ⟨l,hl,h⟩:=hq
  have hq:=bind_some h;clear h;obtain ⟨u,hu,h⟩:=hq
  obtain ⟨rfl,rfl,rfl⟩:=aH h
  obtain ⟨ie,de,ze,hte⟩:=cj hap hte
  have b1:=of_decide_eq_true (hbs (decide (l=0)) (by simp))
  have b2:=of_decide_eq_true (hbs (decide (u=0)) (by simp))
  subst b1
  subst b2
  rw [ht.d_eq] at hd
  have hd:=dO hd
  subst hd
  simp only [VR,PR] at hx
  subst hx
  rw [hmx0 rfl]
  have hb:=lm P w true 0 0 clo chi 0 0 ((dL hlo hl).imp (fun h=> ⟨h.2.1,h.2.2⟩) id) ((dL hhi hu).imp (fun h=> ⟨h.2.1,h.2.2⟩) id) (by omega) (by omega) (by omega)
  refine ⟨rfl,.slice none 0 0, ?_,by simp only [VR,PR]⟩
  simp at hb
  simp [Instr.sliceAt,Instr.slice,run_underlying ht.und,hb,fV hte]
 ·cases h
theorem Di {x v:AV} {cx:Value} (hx:VR g m S x cx) {t:Nat} {ti:TI} {i:TypeInfo} {d:TypeDesc} {z:Value} (ht:sW P t ti i d z)
  {ups:List (Nat × aL)} {bs:List Bool} (h:Ip ti.d x=some (v,ups,bs)) (ats:Array TypeId) (hat:ats[0]? =some t) (args:Array Value) (ha:args[0]? =some cx) (ty:Nat):
  ups= []∧∃ cv,(Builtin.len_ ats ty args).run P w= .ok cv w∧VR g m S v cv:=by
 unfold Ip at h
 rw [ht.d_eq] at h
 split at h
 ·rename_i n e hd
  obtain ⟨rfl,rfl,rfl⟩:=aH h
  have hd:=qB hd
  subst hd
  exact ⟨rfl,.int .i64 n,by simp [Builtin.len_,hat,ha,run_underlying ht.und,goInt],by simp only [VR,PR]⟩
 ·rename_i s hd
  obtain ⟨rfl,rfl,rfl⟩:=aH h
  have hd:=pg hd
  subst hd
  simp only [VR,PR] at hx
  subst hx
  exact ⟨rfl,.int .i64 s.length,by simp [Builtin.len_,hat,ha,run_underlying ht.und,goInt,qz],by simp only [VR,PR]⟩
 ·rename_i e xs n nn hd
  obtain ⟨rfl,rfl,rfl⟩:=aH h
  have hd:=dO hd
  subst hd
  simp only [VR,PR] at hx
  obtain ⟨a,cap,rfl,_⟩:=hx
  exact ⟨rfl,.int .i64 n,by simp [Builtin.len_,hat,ha,run_underlying ht.und,goInt],by simp only [VR,PR]⟩
 ·rename_i e b ver j n hd
  obtain ⟨rfl,rfl,rfl⟩:=aH h
  have hd:=dO hd
  subst hd
  simp only [VR] at hx
  obtain ⟨_,_,_,⟨_,_,cap,rfl⟩,_⟩:=hx
  exact ⟨rfl,.int .i64 n,by simp [Builtin.len_,hat,ha,run_underlying ht.und,goInt],by simp only [VR,PR]⟩
 ·rename_i e hd
  obtain ⟨rfl,rfl,rfl⟩:=aH h
  have hd:=dO hd
  subst hd
  simp only [VR,PR] at hx
  subst hx
  exact ⟨rfl,.int .i64 0,by simp [Builtin.len_,hat,ha,run_underlying ht.und,goInt],by simp only [VR,PR]⟩
 ·cases h
theorem pm (s:List UInt8):(⟨s.toArray⟩:ByteArray).toList=s:=by rw [ByteArray.toList_eq]
theorem pM:∀ a b:List UInt8,Op.bytesLess a b=dZ a b
 |_,[]=>by simp [Op.bytesLess,dZ]
 | [],_::_=>by simp [Op.bytesLess,dZ]
 |a::x,b::y=>by simp only [Op.bytesLess,dZ,pM x y]
def lJ:LK→Value→Value→Option Bool
 | .int k,.int k1 a,.int k2 b=>match eH k k1 && eH k k2 with|true=>some (a==b)|false=>none
 | .bool,.bool a,.bool b=>some (a==b)
 | .str,.string a,.string b=>some (a.toList==b.toList)
 |_,_,_=>none
def bW:List LK→List Value→List Value→Option Bool
 | [],[],[]=>some true
 |k::ks,a::as,b::bs=>(lJ k a b).bind fun c=>(bW ks as bs).map fun d=>c && d
 |_,_,_=>none
theorem kV:∀ (l l':List LK) (xs ys:List Value) (r:Bool),bW (l++l') xs ys=some r→
  ∃ a b,bW l (xs.take l.length) (ys.take l.length)=some a∧bW l' (xs.drop l.length) (ys.drop l.length)=some b∧r=(a && b)
 | [],l',xs,ys,r,h=> ⟨true,r,by simp [bW],by simpa using h,by simp⟩
 |k::l,l',[],_,r,h=>by simp [bW] at h
 |k::l,l',_::_,[],r,h=>by simp [bW] at h
 |k::l,l',x::xs,y::ys,r,h=>by
  simp only [List.cons_append,bW] at h
  obtain ⟨c,hc,h⟩:=bind_some h
  rw [Option.map_eq_some_iff] at h
  obtain ⟨d,hd,rfl⟩:=h
  obtain ⟨a,b,h1,h2,rfl⟩:=kV l l' xs ys d hd
  exact ⟨c && a,b,by simp [bW,hc,h1],by simpa using h2,by simp [Bool.and_assoc]⟩
theorem jJ:∀ (l:List LK) (xs ys:List Value) (r:Bool),bW l xs ys=some r→xs.length=l.length∧ys.length=l.length
 | [],[],[],_,_=> ⟨rfl,rfl⟩
 |k::l,x::xs,y::ys,r,h=>by
  simp only [bW] at h
  obtain ⟨c,_,h⟩:=bind_some h
  rw [Option.map_eq_some_iff] at h
  obtain ⟨d,hd,_⟩:=h
  have:=jJ l xs ys d hd
  simp [this.1,this.2]
 | [],_::_,_,_,h=>by simp [bW] at h
 | [],[],_::_,_,h=>by simp [bW] at h
 |_::_,[],_,_,h=>by simp [bW] at h
 |_::_,_::_,[],_,h=>by simp [bW] at h
def mU (P:Program) (t:TypeId) (xs:List Value):Value:=match P.underlying t with
 |some (.struct _)=> .agg xs.toArray
 |_=>xs.headD undef
def px (P:Program) (n:Nat) (t:TypeId) (lks:List LK):Prop:=
 ∀ (d:Nat) (w:World) (xs ys:List Value) (r:Bool),n≤d→bW lks xs ys=some r→(Op.equalIn d t (mU P t xs) (mU P t ys)).run P w= .ok r w
theorem mP {t:TypeId} {lks:List LK} {n:Nat} (hc:fA P n t=some lks) {i:TypeInfo} (hi:P.info? t=some i) (hs:i.size=lks.length) (xs:List Value) (off:Nat) (hl:off+lks.length≤xs.length) (w:World):
  (part t xs.toArray off).run P w= .ok (mU P t ((xs.drop off).take lks.length)) w:=by
 cases n with
 |zero=>simp [fA] at hc
 | succ n=>
  unfold fA at hc
  cases hu:P.underlying t with
  |none=>simp [hu] at hc
  | some d=>
   have hag:(isAgg t).run P w= .ok d.isRow w:=by
    unfold isAgg;rw [Sem.run_bind,run_underlying hu w]
    cases d<;>simp [TypeDesc.isRow]
   cases d<;>simp only [hu] at hc<;>try cases hc
   case struct fs=>
    simp only [TypeDesc.isRow] at hag
    simp [part,hag,Go.sizeOf,typeInfo,hi,hs,mU,hu]
   all_goals
    simp only [TypeDesc.isRow] at hag
    simp only [List.length_cons,List.length_nil,Nat.zero_add] at hl
    have hx:xs[off]? =some (xs[off]'(by omega)):=List.getElem?_eq_getElem (by omega)
    simp only [part,Sem.run_bind,hag,Result.andThen_ok,Bool.false_eq_true,if_false,mU,hu]
    have e:((xs.drop off).take [LK.str].length).headD undef=xs[off]'(by omega):=by
     rw [List.headD_eq_head?_getD,List.head?_take,List.head?_drop,hx];simp
    have h2:(xs.toArray)[off]? =some (xs[off]'(by omega)):=by simp
    rw [h2]
    first|exact congrArg (fun v=>Result.ok v w) e.symm|(simp only [List.length_cons,List.length_nil] at e ⊢;exact congrArg (fun v=>Result.ok v w) e.symm)
theorem lK {n:Nat} (ih:∀ t lks,fA P n t=some lks→px P n t lks):∀ (fs:List Field) (off:Nat) (lks:List LK),pR P (fA P n) fs off=some lks→
  ∀ (d:Nat) (w:World) (xs ys:List Value) (r:Bool),n≤d→xs.length=off+lks.length→ys.length=off+lks.length→bW lks (xs.drop off) (ys.drop off)=some r→
   (Op.eqFields d xs.toArray ys.toArray fs).run P w= .ok r w
 | [],off,lks,hc,d,w,xs,ys,r,hd,hx,hy,h=>by
  simp [pR] at hc;subst hc
  have e1:xs.drop off= []:=List.drop_eq_nil_of_le (by simp at hx;omega)
  have e2:ys.drop off= []:=List.drop_eq_nil_of_le (by simp at hy;omega)
  rw [e1,e2] at h
  simp [bW] at h;subst h
  simp [Op.eqFields]
 | f ::fs,off,lks,hc,d,w,xs,ys,r,hd,hx,hy,h=>by
  simp only [pR] at hc
  cases hf:fA P n f.type with
  |none=>simp [hf] at hc
  | some l=>
   simp only [hf] at hc
   split at hc
   ·rename_i hcond
    simp only [Bool.and_eq_true,Bool.not_eq_true'] at hcond
    obtain ⟨⟨c1,c2⟩,c3⟩:=hcond
    cases hr:pR P (fA P n) fs (off+l.length) with
    |none=>simp [hr] at hc
    | some l'=>
     simp only [hr] at hc
     cases hc
     cases hi:P.info? f.type with
     |none=>simp [hi] at c3
     |some i=>
      simp only [hi] at c3
      have c3:=ax c3
      have c2:=ax c2
      have hne:f.name ≠ "_" :=by intro e;rw [e] at c1;exact absurd c1 (by decide)
      simp only [List.length_append] at hx hy
      obtain ⟨a,b,h1,h2,rfl⟩:=kV l l' _ _ r h
      have p1:=mP hf hi c3 xs off (by omega) w
      have p2:=mP hf hi c3 ys off (by omega) w
      have p3:=ih f.type l hf d w _ _ a hd h1
      have p4:=lK ih fs (off+l.length) l' hr d w xs ys b hd (by omega) (by omega) (by simpa [List.drop_drop,Nat.add_comm] using h2)
      simp only [Op.eqFields,hne,ne_eq,not_false_eq_true,if_true,Sem.run_bind,c2,p1,p2,p3,Result.andThen_ok]
      cases a
      ·simp
      ·simpa using p4
   ·cases hc
theorem uq : ∀ (n:Nat) (t:TypeId) (lks:List LK),fA P n t=some lks→px P n t lks
  |0,_,_,h=>by simp [fA] at h
  | n + 1,t,lks,h=>by
    intro d w xs ys r hd hr
    obtain ⟨d,rfl⟩:∃ k,d=k+1:=⟨d - 1,by omega⟩
    have hl:=jJ _ _ _ _ hr
    unfold fA at h
    cases hu:P.underlying t with
    |none=>simp [hu] at h
    | some ds=>
      cases ds<;>simp only [hu] at h<;>try cases h
      case struct fs=>
        split at h
        · cases h
        · rename_i hst
          have hfo:P.fieldsOf t=fs:=by simp [Program.fieldsOf,hu]
          have e:=run_equalIn_struct (P:=P) w d t xs.toArray ys.toArray (by rw [hfo];exact hu) hst
          simp only [mU,hu]
          rw [e,hfo]
          exact lK (uq n) fs.toList 0 lks h d w xs ys r (by omega) (by simp [hl.1]) (by simp [hl.2]) (by simpa using hr)
      all_goals
        simp only [List.length_cons,List.length_nil,Nat.zero_add] at hl
        match xs,ys,hl,hr with
        | [x], [y],_,hr=>
          simp only [bW,Option.map_some,Bool.and_true] at hr
          obtain ⟨c,hc,hr⟩:=bind_some hr
          cases hr
          simp only [mU,hu,List.headD_cons]
          cases x<;>cases y<;>simp [lJ] at hc
          first
            | (split at hc
               · rename_i hk
                 simp only [Bool.and_eq_true] at hk
                 obtain rfl:=du hk.1
                 obtain rfl:=du hk.2
                 cases hc
                 exact run_equalIn_int (P:=P) w d t _ _ _ _ hu
               · cases hc)
            |(subst hc;rw [run_equalIn_bool' (P:=P) w d t _ _ hu])
            |(subst hc;rw [run_equalIn_string (P:=P) w d t _ _ hu])
end
end AM
namespace AM
open Go
section
variable {P:Program} {ap:AP} {g:bL} {m:aN} {S:aJ} {w:World}
theorem QC {d:TypeDesc} (h:fM P (some d)= .ptr):∃ e,d= .pointer e:=by cases d<;>simp [fM] at h;exact ⟨_,rfl⟩
theorem MK {d:TypeDesc} (h:fM P (some d)= .func):∃ a b c,d= .func a b c:=by cases d<;>simp [fM] at h;exact ⟨_,_,_,rfl⟩
theorem JD {d:TypeDesc} (h:fM P (some d)= .iface):∃ e,d= .interface e:=by cases d<;>simp [fM] at h;exact ⟨_,rfl⟩
theorem Lu {a b:LK} (h:Pn a b=true):a=b:=by
 cases a<;>cases b<;>simp [Pn] at h
 ·rw [du h]
 ·rfl
 ·rfl
theorem vp:∀ {a b:List LK},xY a b=true→a=b
 | [],[],_=>rfl
 |_::_,_::_,h=>by simp only [xY,Bool.and_eq_true] at h;rw [Lu h.1,vp h.2]
 | [],_::_,h=>by simp [xY] at h
 |_::_,[],h=>by simp [xY] at h
theorem CV {k:LK} {a b:AV} {r:Bool} (h:CU k a b=some r) {x y:Value} (ha:VR g m S a x) (hb:VR g m S b y):lJ k x y=some r:=by
 unfold CU at h
 split at h
 ·simp only [VR,PR] at ha hb;subst ha;subst hb
  split at h
  ·rename_i hk;cases h;simp [lJ,hk]
  ·cases h
 ·simp only [VR,PR] at ha hb;subst ha;subst hb;simpa [lJ] using h
 ·simp only [VR,PR] at ha hb;subst ha;subst hb
  simpa [lJ,pm] using h
 ·cases h
theorem nW:∀ {ks:List LK} {as bs:List AV} {r:Bool} {xs ys:List Value},gy ks as bs=some r→aQ g m S as xs→aQ g m S bs ys→bW ks xs ys=some r
 | [],[],[],r,xs,ys,h,ha,hb=>by
  cases xs<;>cases ys<;>simp [aQ] at ha hb
  simpa [gy,bW] using h
 |k::ks,a::as,b::bs,r,x::xs,y::ys,h,ha,hb=>by
  simp only [gy] at h
  obtain ⟨c,hc,h⟩:=bind_some h
  rw [Option.map_eq_some_iff] at h
  obtain ⟨d,hd,rfl⟩:=h
  simp only [aQ] at ha hb
  simp [bW,CV hc ha.1 hb.1,nW hd ha.2 hb.2]
 | [],_::_,_,_,_,_,h,_,_=>by simp [gy] at h
 | [],[],_::_,_,_,_,h,_,_=>by simp [gy] at h
 |_::_,[],_,_,_,_,h,_,_=>by simp [gy] at h
 |_::_,_::_,[],_,_,_,h,_,_=>by simp [gy] at h
 |_::_,_::_,_::_,_,[],_,_,ha,_=>by simp [aQ] at ha
 |_::_,_::_,_::_,_,_::_,[],_,_,hb=>by simp [aQ] at hb
theorem qD (hap:eB P ap) {t:Nat} {ti:TI} (h:ap.tyAt t=some ti):ti.cmp=KF P t∧ti.lks=xZ P 8 t:=by
 have h1:=hap.ty t ti h
 unfold JG at h1
 split at h1
 ·split at h1
  ·cases h1;exact ⟨rfl,rfl⟩
  ·cases h1
 ·cases h1
theorem iI (op:BinOp) (t:TypeId) (x y:Operand) (a b:Value) (h1:¬ (a= .nilIface∧b= .nilIface)) (h2:∀ xs ys,¬ (a= .agg xs∧b= .agg ys)):(eqGuard op t x y a b).run P w= .ok () w:=by
 unfold eqGuard
 cases op<;>simp only [Sem.run_ite,Sem.run_pure]<;>try (simp;done)
 all_goals
  simp
  split
  ·exact absurd ⟨rfl,rfl⟩ h1
  ·exact absurd ⟨rfl,rfl⟩ (h2 _ _)
  ·rfl
def Ez (op:BinOp) (r:Bool):Bool:=match op with| .neq=> !r|_=>r
theorem tw {t:Nat} {ca cb:Value} {r:Bool} {x y:Operand} (hg:∀ op,(eqGuard op t x y ca cb).run P w= .ok () w) (h:∀ d,(Op.equalIn (d+1) t ca cb).run P w= .ok r w)
  (h1:binOp .eql t ca cb=(do pure (.bool (← Op.equal t ca cb)))) (h2:binOp .neq t ca cb=(do pure (.bool (!(← Op.equal t ca cb))))) {op:BinOp} (hop:op=BinOp.eql∨op=BinOp.neq):
  (do eqGuard op t x y ca cb;binOp op t ca cb:Sem Value).run P w= .ok (.bool (Ez op r)) w:=by
 have h':(Op.equal t ca cb).run P w= .ok r w:=h 9999
 rcases hop with rfl|rfl
 ·rw [Sem.run_bind,hg,Result.andThen_ok,h1,Sem.run_bind,h'];rfl
 ·rw [Sem.run_bind,hg,Result.andThen_ok,h2,Sem.run_bind,h'];rfl
theorem xN (hap:eB P ap) {t:Nat} {ti:TI} (hti:ap.tyAt t=some ti) {a b:AV} {ca cb:Value} (ha:VR g m S a ca) (hb:VR g m S b cb) {r:Bool} (h:XQ ti a b=some r) (hn:∀ x ∈ vG a b,x=true) (x y:Operand):
  ∀ op,op=BinOp.eql∨op=BinOp.neq→(do eqGuard op t x y ca cb;binOp op t ca cb:Sem Value).run P w= .ok (.bool (Ez op r)) w:=by
 obtain ⟨i,d,z,ht⟩:=cj hap hti
 intro op hop
 unfold XQ at h
 split at h
 case h_2 fs xs ys hd=>
  split at h
  ·rename_i hcmp
   rw [(qD hap hti).1] at hcmp
   rw [(qD hap hti).2] at h
   simp only [VR] at ha hb
   obtain ⟨vs,rfl,ha⟩:=ha
   obtain ⟨us,rfl,hb⟩:=hb
   have hv:=nW h ha hb
   unfold KF at hcmp
   cases hl:fA P 8 t with
   |none=>simp [hl] at hcmp
   |some l=>
    simp only [hl,Bool.and_eq_true,Bool.not_eq_true'] at hcmp
    have hl':=vp hcmp.1
    rw [← hl'] at hv
    have hq:=uq 8 t l hl 10000 w vs us r (by omega) hv
    rw [ht.d_eq] at hd
    obtain ⟨fields,rfl,_⟩:=nH hd
    simp only [mU,ht.und] at hq
    have hg:=run_eqGuard_agg (P:=P) w op t x y vs.toArray us.toArray hcmp.2
    rcases hop with rfl|rfl
    ·simp [hg,run_eql_struct,hq,Ez]
    ·simp [hg,run_neq_struct,hq,Ez]
  ·cases h
 all_goals try (cases h;done)
 all_goals
  rename_i hd
  rw [ht.d_eq] at hd
  try simp only [VR,PR] at ha hb
 all_goals cases h
 case h_1=>
  have hd:=MJ hd
  subst hd
  subst ha;subst hb
  (refine tw (fun op=> ?_) (fun dd=> ?_) rfl rfl hop<;>first|exact iI op t x y _ _ (by simp) (by simp)|exact run_equalIn_bool' (P:=P) w dd t _ _ ht.und)
 all_goals
  first
   |(obtain ⟨e,rfl⟩:=QC hd)
   |(obtain ⟨e,rfl⟩:=JD hd)
   |(obtain ⟨e1,e2,e3,rfl⟩:=MK hd)
   |(have hd:=dO hd;subst hd)
 case h_16 xs n nn=>
  subst hb
  obtain ⟨a,cap,rfl,hle,q⟩:=ha
  rcases q with ⟨rfl,rfl,rfl,rfl,rfl⟩|⟨b,o,vs,rfl,_⟩
  ·exact absurd (hn _ (by simp [vG];rfl)) (by decide)
  ·(refine tw (fun op=> ?_) (fun dd=> ?_) rfl rfl hop<;>first|exact iI op t x y _ _ (by simp) (by simp)|simp [Op.equalIn,run_underlying ht.und])
 case h_17 xs n nn=>
  subst ha
  obtain ⟨a,cap,rfl,hle,q⟩:=hb
  rcases q with ⟨rfl,rfl,rfl,rfl,rfl⟩|⟨b,o,vs,rfl,_⟩
  ·exact absurd (hn _ (by simp [vG];rfl)) (by decide)
  ·(refine tw (fun op=> ?_) (fun dd=> ?_) rfl rfl hop<;>first|exact iI op t x y _ _ (by simp) (by simp)|simp [Op.equalIn,run_underlying ht.und])
 all_goals
  try subst ha
  try subst hb
  try (obtain ⟨_,_,_,⟨_,_,rfl⟩,_⟩:=ha)
  try (obtain ⟨_,_,_,⟨_,_,rfl⟩,_⟩:=hb)
  try (obtain ⟨_,_,_,⟨_,_,_,rfl⟩,_⟩:=ha)
  try (obtain ⟨_,_,_,⟨_,_,_,rfl⟩,_⟩:=hb)
  try (obtain ⟨_,_,_,rfl,_⟩:=ha)
  try (obtain ⟨_,_,_,rfl,_⟩:=hb)
  try (obtain ⟨_,_,rfl,_⟩:=ha)
  try (obtain ⟨_,_,rfl,_⟩:=hb)
  try (obtain ⟨_,rfl,_⟩:=ha)
  try (obtain ⟨_,rfl,_⟩:=hb)
  (refine tw (fun op=> ?_) (fun dd=> ?_) rfl rfl hop<;>first|exact iI op t x y _ _ (by simp) (by simp)|simp [Op.equalIn,run_underlying ht.und])
end
end AM
namespace AM
open Go
section
variable {P:Program} {ap:AP} {g:bL} {m:aN} {S:aJ} {w:World}
theorem Cy (a b:List UInt8):(⟨a.toArray⟩:ByteArray)++⟨b.toArray⟩=⟨(a++b).toArray⟩:=by
 apply ByteArray.ext
 rw [ByteArray.data_append]
 simp
theorem CB (hap:eB P ap) {t:Nat} {ti:TI} (hti:ap.tyAt t=some ti) {a b v:AV} {ca cb:Value} (ha:VR g m S a ca) (hb:VR g m S b cb) {op:BinOp} {ups:List (Nat × aL)} {bs:List Bool}
  (h:Ou op ti a b=some (v,ups,bs)) (hbs:∀ x ∈ bs,x=true) (x y:Operand):
  ups= []∧∃ cv,(do eqGuard op t x y ca cb;binOp op t ca cb:Sem Value).run P w= .ok cv w∧VR g m S v cv:=by
 unfold Ou at h
 split at h
 ·rename_i k p k' q
  simp only [VR,PR] at ha hb
  subst ha;subst hb
  have hg:(eqGuard op t x y (.int k p) (.int k' q)).run P w= .ok () w:=iI op t x y _ _ (by simp) (by simp)
  rw [Sem.run_bind,hg,Result.andThen_ok]
  split at h
  ·obtain ⟨rfl,rfl,rfl⟩:=aH h
   have h0:=of_decide_eq_true (hbs _ (List.mem_singleton.2 rfl))
   exact ⟨rfl,_,by simp [binOp,Op.shift,show ¬ q<0 by omega];rfl,by simp only [VR,PR]⟩
  ·obtain ⟨rfl,rfl,rfl⟩:=aH h
   have h0:=of_decide_eq_true (hbs _ (List.mem_singleton.2 rfl))
   exact ⟨rfl,_,by simp [binOp,Op.shift,show ¬ q<0 by omega];rfl,by simp only [VR,PR]⟩
  ·split at h
   ·cases h
   ·rename_i hk
    have hk:=du hk
    subst hk
    split at h
    all_goals try (cases h;done)
    all_goals obtain ⟨rfl,rfl,rfl⟩:=aH h
    case h_4=>
     have h0:(q==0)=false:=by simpa using hbs _ (List.mem_singleton.2 rfl)
     have h0:¬ q=0:=by simpa using h0
     exact ⟨rfl,_,by simp [binOp,Op.intDiv,h0];rfl,by simp only [VR,PR]⟩
    case h_5=>
     have h0:(q==0)=false:=by simpa using hbs _ (List.mem_singleton.2 rfl)
     have h0:¬ q=0:=by simpa using h0
     exact ⟨rfl,_,by simp [binOp,Op.intDiv,h0];rfl,by simp only [VR,PR]⟩
    all_goals exact ⟨rfl,_,by simp only [binOp,Op.intArith,Op.intBits,Op.intCmp,ne_eq,not_true_eq_false,if_false];rfl,by simp only [VR,PR];first|done|rfl⟩
 ·rename_i p q
  simp only [VR,PR] at ha hb
  subst ha;subst hb
  have hg:(eqGuard op t x y (.string ⟨p.toArray⟩) (.string ⟨q.toArray⟩)).run P w= .ok () w:=iI op t x y _ _ (by simp) (by simp)
  rw [Sem.run_bind,hg,Result.andThen_ok]
  split at h
  all_goals try (cases h;done)
  all_goals obtain ⟨rfl,rfl,rfl⟩:=aH h
  case h_1=>
   have h0:=dz (hbs _ (List.mem_singleton.2 rfl))
   have h1:¬ (IntKind.i64.max<((p.length+q.length:Nat):Int)):=by
    have:IntKind.i64.max=9223372036854775807:=by decide
    omega
   refine ⟨rfl,.string ⟨(p++q).toArray⟩, ?_,by simp only [VR,PR]⟩
   simp only [binOp,Op.stringOp,qz,gt_iff_lt,h1,if_false,Cy,Sem.run_pure]
  all_goals
   refine ⟨rfl,_,rfl, ?_⟩
   simp only [VR,PR,pm,pM]
 ·split at h
  ·obtain ⟨r,hr,h⟩:=bind_some h
   obtain ⟨rfl,rfl,rfl⟩:=aH h
   exact ⟨rfl,_,xN hap hti ha hb hr hbs x y _ (.inl rfl),by simp only [VR,PR];rfl⟩
  ·obtain ⟨r,hr,h⟩:=bind_some h
   obtain ⟨rfl,rfl,rfl⟩:=aH h
   exact ⟨rfl,_,xN hap hti ha hb hr hbs x y _ (.inr rfl),by simp only [VR,PR];rfl⟩
  ·cases h
theorem Gz {x v:AV} {cx:Value} (hx:VR g m S x cx) {op:UnOp} {ups:List (Nat × aL)} {bs:List Bool} (h:unA op x=some (v,ups,bs)):
  ups= []∧∃ cv,(Op.unary op cx).run P w= .ok cv w∧VR g m S v cv:=by
 unfold unA at h
 split at h
 ·obtain ⟨rfl,rfl,rfl⟩:=aH h
  simp only [VR,PR] at hx;subst hx
  exact ⟨rfl,_,rfl,by simp only [VR,PR]⟩
 ·obtain ⟨rfl,rfl,rfl⟩:=aH h
  simp only [VR,PR] at hx;subst hx
  exact ⟨rfl,_,rfl,by simp only [VR,PR]⟩
 ·cases h
theorem mA {f:AV→AV→Option AV} {F:Value→Value→Sem Value} (hf:∀ a b c ca cb,VR g m S a ca→VR g m S b cb→f a b=some c→∃ cc,(F ca cb).run P w= .ok cc w∧VR g m S c cc):
  ∀ (l:List AV) (cl:List Value) (x v:AV) (cx:Value),aQ g m S l cl→VR g m S x cx→AY f x l=some v→∃ cv,(cl.foldlM F cx).run P w= .ok cv w∧VR g m S v cv
 | [],[],x,v,cx,_,hx,h=>by simp [AY] at h;subst h;exact ⟨cx,by simp,hx⟩
 | y::r,cy::cr,x,v,cx,hl,hx,h=>by
  simp only [aQ] at hl
  simp only [AY] at h
  split at h
  ·rename_i z hz
   obtain ⟨cz,h1,h2⟩:=hf _ _ _ _ _ hx hl.1 hz
   obtain ⟨cv,h3,h4⟩:=mA hf r cr z v cz hl.2 h2 h
   exact ⟨cv,by simp [List.foldlM_cons,h1,h3],h4⟩
  ·cases h
 | [],_::_,_,_,_,hl,_,_=>by simp [aQ] at hl
 |_::_,[],_,_,_,hl,_,_=>by simp [aQ] at hl
theorem Dn {a b c:AV} {ca cb:Value} (ha:VR g m S a ca) (hb:VR g m S b cb) (h:min2 a b=some c):∃ cc,(Builtin.min2 ca cb).run P w= .ok cc w∧VR g m S c cc:=by
 unfold min2 at h
 split at h
 ·split at h
  ·cases h
   simp only [VR,PR] at ha hb;subst ha;subst hb
   exact ⟨_,rfl,by simp only [VR,PR]⟩
  ·cases h
 ·cases h
theorem Dk {a b c:AV} {ca cb:Value} (ha:VR g m S a ca) (hb:VR g m S b cb) (h:max2 a b=some c):∃ cc,(Builtin.max2 ca cb).run P w= .ok cc w∧VR g m S c cc:=by
 unfold max2 at h
 split at h
 ·split at h
  ·cases h
   simp only [VR,PR] at ha hb;subst ha;subst hb
   exact ⟨_,rfl,by simp only [VR,PR]⟩
  ·cases h
 ·cases h
theorem FV {l:List AV} {cl:List Value} (hl:aQ g m S l cl) {v:AV} (h:qR min2 l=some v) (ats:Array TypeId) (ty:Nat):∃ cv,(Builtin.min_ ats ty cl.toArray).run P w= .ok cv w∧VR g m S v cv:=by
 cases l with
 |nil=>simp [qR] at h
 | cons x r=>cases cl with
  |nil=>simp [aQ] at hl
  |cons cx cr=>
   simp only [aQ] at hl
   obtain ⟨cv,h1,h2⟩:=mA (P:=P) (w:=w) (F:=Builtin.min2) (fun _ _ _ _ _=>Dn) r cr x v cx hl.2 hl.1 h
   exact ⟨cv,by simpa [Builtin.min_] using h1,h2⟩
theorem FT {l:List AV} {cl:List Value} (hl:aQ g m S l cl) {v:AV} (h:qR max2 l=some v) (ats:Array TypeId) (ty:Nat):∃ cv,(Builtin.max_ ats ty cl.toArray).run P w= .ok cv w∧VR g m S v cv:=by
 cases l with
 |nil=>simp [qR] at h
 | cons x r=>cases cl with
  |nil=>simp [aQ] at hl
  |cons cx cr=>
   simp only [aQ] at hl
   obtain ⟨cv,h1,h2⟩:=mA (P:=P) (w:=w) (F:=Builtin.max2) (fun _ _ _ _ _=>Dk) r cr x v cx hl.2 hl.1 h
   exact ⟨cv,by simpa [Builtin.max_] using h1,h2⟩
end
end AM
