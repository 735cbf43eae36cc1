/- The abstract machine over the code of the model, and the proof that it is sound. No conditions. -/
import Derived.WalkKit
import Derived.Deep.AppendSrc
import Derived.Deep.MidRow
import Derived.WalkLawsBesides
set_option linter.unusedSimpArgs false
set_option linter.unusedVariables false
namespace AM
open Go
inductive AV where
 |int (k:IntKind) (n:Int)
 |bool (b:Bool)
 |str (s:List UInt8)
 |agg (l:List AV)
 |tup (l:List AV)
 |nilS
 |sl (xs:List AV) (n:Nat) (nn:Bool)
 |ref (b ver i n:Nat)
 |own (xs:List AV) (n esz:Nat)
 |ptr (b ver off:Nat)
 |pp (xs:List AV) (off:Nat)
 |mr (b ver:Nat)
 |mp (ks vs:List AV)
 |nilP
 |fn (f:Nat) (first cap:List AV)
 |nilF
 |ifc (t:Nat) (v:AV)
 |nilI
 |raw (v:Value)
 |dead
inductive LK where
 |int (k:IntKind)
 |bool
 |str
 |sl
 |oth
inductive TD where
 |struct (fs:List (Nat × Nat × Nat))
 |array (n elem:Nat)
 |slice (elem:Nat)
 |int (k:IntKind)
 |str
 |bool
 |iface
 |ptr
 |func
 |map (k e:Nat)
 |oth
structure TI where
 d:TD
 size:Nat
 bytes:Nat
 zero:List AV
 lks:List LK
 cmp:Bool
structure AF where
 fn:Func
 keep:List Nat
 shared:Bool
inductive Tr (α:Type) where
 |nil
 |node (v:Option α) (l r:Tr α)
def Tr.get {α:Type}:Tr α→Nat→Option α
 | .nil,_=>none
 | .node v l r,n=>match Nat.beq n 0 with
  |true=>v
  |false=>match Nat.beq (n % 2) 1 with
   |true=>l.get ((n - 1) / 2)
   |false=>r.get ((n - 1) / 2)
structure AP where
 nty:Nat
 ty:Tr TI
 nfn:Nat
 fn:Tr AF
 gl:List (Option (List AV))
 mt:List (Nat × String × Nat):= []
def AP.mtAt (ap:AP) (t:Nat) (n:String):Option Nat:=(ap.mt.find? fun q=>Nat.beq q.1 t && q.2.1==n).map fun q=>q.2.2
def mtB (P:Program) (q:Nat × String × Nat):Bool:=match P.info? q.1 with
 | some i=>match i.methods.find? (fun m=>m.name==q.2.1) with
  |some m=>m.path.isEmpty && (match m.func,P.underlying q.1 with
   |some (f,true),some (.pointer _)=>Nat.beq f q.2.2
   |some (f,false),some (.pointer _)=>false
   |some (f,false),some _=>Nat.beq f q.2.2
   |_,_=>false)
  |none=>false
 |none=>false
def dw:Nat:=4611686018427387904
def OG:List AV→Option AV
 | [.agg ks,.agg vs]=>some (.mp ks vs)
 |_=>none
structure aJ where
 cells:List AV
 ver:Nat
 fro:Bool
 fz:Nat
 esz:Nat
 pr:Bool
abbrev dF:=List (Nat × AV)
abbrev Hp:=List (Nat × aJ)
def ai {α:Type}:List (Nat × α)→Nat→Option α
 | [],_=>none
 |(u,x)::r,t=>match Nat.beq u t with|true=>some x|false=>ai r t
def eH {α β:Type} (f:α→Option β):List α→Option (List β)
 | []=>some []
 |x::r=>match f x with
  |some y=>match eH f r with|some l=>some (y::l)|none=>none
  |none=>none
def dF.get (e:dF) (t:Nat):AV:=(ai e t).getD .dead
def AV.cells:AV→List AV
 | .agg l=>l
 |x=> [x]
def AV.toInt:AV→Int| .int _ n=>n|_=>0
def AV.toBool:AV→Bool| .bool b=>b|_=>false
def AV.toStr:AV→List UInt8| .str s=>s|_=> []
def AV.slX:AV→List AV| .sl xs _ _=>xs|_=> []
def AV.slN:AV→Nat| .sl _ n _=>n|_=>0
def KU:IntKind→Nat
 | .i8=>0| .i16=>1| .i32=>2| .i64=>3| .u8=>4| .u16=>5| .u32=>6| .u64=>7
def fA (a b:IntKind):Bool:=Nat.beq (KU a) (KU b)
def chk:LK→AV→Bool
 | .int k,.int k' _=>fA k k'
 | .bool,.bool _=>true
 | .str,.str _=>true
 | .sl,.sl _ _ _=>true
 | .sl,.nilS=>true
 | .oth,.dead=>false
 | .oth,.agg _=>false
 | .oth,.tup _=>false
 | .oth,.own _ _ _=>false
 | .oth,.raw _=>false
 | .oth,_=>true
 |_,_=>false
def eta:LK→AV→AV
 | .int k,c=> .int k c.toInt
 | .bool,c=> .bool c.toBool
 | .str,c=> .str c.toStr
 | .sl,c=> .sl c.slX c.slN false
 | .oth,c=>c
def jy:AV→Bool
 | .dead| .agg _| .tup _| .own _ _ _=>false
 | .raw _=>false
 |_=>true
mutual
def bU:AV→List Nat
 | .ref b _ _ _=> [b]
 | .ptr b _ _=> [b]
 | .mr b _=> [b]
 | .agg l=>a_ l
 | .tup l=>a_ l
 | .fn _ f c=>a_ f++a_ c
 | .ifc _ v=>bU v
 |_=> []
def a_:List AV→List Nat
 | []=> []
 |x::r=>bU x++a_ r
end
mutual
def ren (ρ:Nat→Nat→Option (Nat × Nat)):AV→AV
 | .ref b v i n=>match ρ b v with|some (b',v')=> .ref b' v' i n|none=> .dead
 | .ptr b v o=>match ρ b v with|some (b',v')=> .ptr b' v' o|none=> .dead
 | .mr b v=>match ρ b v with|some (b',v')=> .mr b' v'|none=> .dead
 | .agg l=> .agg (jA ρ l)
 | .tup l=> .tup (jA ρ l)
 | .fn f a c=> .fn f (jA ρ a) (jA ρ c)
 | .ifc t v=> .ifc t (ren ρ v)
 |x=>x
def jA (ρ:Nat→Nat→Option (Nat × Nat)):List AV→List AV
 | []=> []
 |x::r=>ren ρ x::jA ρ r
end
def CU:Value→AV
 | .int k n=> .int k n
 | .bool b=> .bool b
 | .string s=> .str s.data.toList
 | .pointer a=>match a with|none=> .nilP|some _=> .dead
 | .slice a n c=>match a,n,c with|none,0,0=> .nilS|_,_,_=> .dead
 | .nilFunc=> .nilF
 | .nilIface=> .nilI
 | .map a=>match a with|none=> .mp [] []|some _=> .dead
 |_=> .dead
def yU:Value→AV
 | .agg cs=> .agg (cs.toList.map CU)
 | .tuple vs=>match vs.toList with| []=> .tup []|_=> .dead
 |v=>CU v
def AP.tyAt (ap:AP) (t:Nat):Option TI:=match Nat.blt t ap.nty with|true=>ap.ty.get t|false=>none
def AP.fnAt (ap:AP) (f:Nat):Option AF:=match Nat.blt f ap.nfn with|true=>ap.fn.get f|false=>none
def j_ (l:List Nat) (a:Nat):Bool:=l.any (Nat.beq a)
def eF (l:List Nat):List Nat:=l.foldl (fun acc b=>if j_ acc b then acc else acc++ [b]) []
abbrev Ai:=Option (AV × List (Nat × aJ) × List Bool)
def aS (v:AV) (bs:List Bool:= []):Ai:=some (v,[],bs)
def EC (ty:Bool):List LK→List AV→List AV
 | [],_=> []
 |k::ks,ys=>(match ty with|true=>eta k (ys.headD .dead)|false=>ys.headD .dead)::EC ty ks ys.tail
def JQ (ty:Bool):List LK→List AV→List Bool
 | [],_=> []
 |k::ks,ys=>(match ty with|true=>chk k (ys.headD .dead)|false=>chk .oth (ys.headD .dead))::JQ ty ks ys.tail
def oI (ty:Bool) (ks:List LK) (xs:List AV) (off:Nat):List AV:=EC ty ks (xs.drop off)
def BR (ty:Bool) (ks:List LK) (xs:List AV) (off:Nat):List Bool:=JQ ty ks (xs.drop off)
def CE:TD→Bool
 | .struct _=>true
 | .array _ _=>true
 |_=>false
def lN (ti:TI) (cs:List AV):Option AV:=
 match CE ti.d with
 |true=>some (.agg cs)
 |false=>match cs with| [c]=>some c|_=>none
def Em (ti:TI) (rd:Nat→Option aJ) (p:AV):Ai:=
 match p with
 | .pp xs off=>(lN ti (oI true ti.lks xs off)).bind fun v=>aS v (BR true ti.lks xs off)
 | .ptr b ver off=>(rd b).bind fun B=>match Nat.beq B.ver ver && !(Nat.beq B.esz dw) with
  |true=>(lN ti (oI (Nat.blt 0 B.esz && B.pr) ti.lks B.cells off)).bind fun v=>aS v (BR (Nat.blt 0 B.esz && B.pr) ti.lks B.cells off)
  |false=>none
 |_=>none
def dI (xs:List AV) (off:Nat) (vs:List AV):List AV:=xs.take off++vs++xs.drop (off+vs.length)
def Gv (ti:TI) (rd:Nat→Option aJ) (p v:AV):Ai:=
 match p with
 | .ptr b ver off=>(rd b).bind fun B=>
  let vs:=v.cells
  let rs:=a_ vs
  match Nat.beq B.ver ver && !B.fro && Nat.beq vs.length ti.size && vs.all jy && !(Nat.beq B.esz dw) with
  |true=>some (.dead,[(b,{B with cells:=dI B.cells off vs,pr:=B.pr && rs.isEmpty})],[Nat.ble (off+vs.length) B.cells.length])
  |false=>none
 |_=>none
def iT (nid:Nat) (cells:List AV) (esz:Nat):Nat × aJ:=(nid,{cells,ver:=0,fro:=false,fz:=0,esz,pr:=(a_ cells).isEmpty})
def qB (cells:List AV):List (Nat × Nat × AV)→Option (List AV)
 | []=>some cells
 |(off,size,v)::r=>match Nat.beq v.cells.length size && Nat.ble (off+size) cells.length && v.cells.all jy with
  |true=>qB (dI cells off v.cells) r
  |false=>none
def Fq (ap:AP) (ti:TI) (parts:List (Nat × AV)):Ai:=
 match ti.d with
 | .struct fs=>(eH (fun (q:Nat × AV)=>(fs[q.1]?).map fun (x:Nat × Nat × Nat)=>(x.1,x.2.2,q.2)) parts).bind fun ps=>(qB ti.zero ps).bind fun cs=>aS (.agg cs)
 | .array _ e=>(ap.tyAt e).bind fun te=>(qB ti.zero (parts.map fun (i,v)=>(i*te.size,te.size,v))).bind fun cs=>aS (.agg cs)
 |_=>none
def fK (n:Nat) (z:List AV):List AV:=(List.replicate n z).flatten
def nY (ap:AP) (nid:Nat) (ti:TI) (len:Nat) (parts:List (Nat × AV)):Ai:=
 match ti.d with
 | .slice e=>(ap.tyAt e).bind fun te=>
  match Nat.blt 0 te.size && Nat.ble (len*te.size) (2^24) && Nat.beq te.zero.length te.size with
  |true=>(qB (fK len te.zero) (parts.map fun (i,v)=>(i*te.size,te.size,v))).bind fun cs=>
   some (.ref nid 0 0 len,[iT nid cs te.size],[])
  |false=>none
 |_=>none
def LG (p:AV) (o:Nat):Option AV:=
 match p with
 | .ptr b v off=>some (.ptr b v (off+o))
 | .pp xs off=>some (.pp xs (off+o))
 |_=>none
def Hq (v:AV):Option Int:=match v with| .int _ n=>some n|_=>none
def qV (ap:AP) (ti:TI) (rd:Nat→Option aJ) (x i:AV):Ai:=
 (Hq i).bind fun i=>
 match ti.d with
 | .slice e=>(ap.tyAt e).bind fun te=>
  match x with
  | .sl xs n _=>aS (.pp xs (i.toNat*te.size)) [decide (0≤i),decide (i<n)]
  | .ref b ver j n=>(rd b).bind fun B=>match Nat.beq B.ver ver && Nat.beq B.esz te.size with
   |true=>aS (.ptr b ver ((j+i.toNat)*te.size)) [decide (0≤i),decide (i<n)]
   |false=>none
  |_=>none
 | .array n e=>(ap.tyAt e).bind fun te=>(LG x (i.toNat*te.size)).bind fun p=>aS p [decide (0≤i),decide (i<n)]
 |_=>none
def FT (ap:AP) (ti:TI) (x i:AV):Ai:=
 (Hq i).bind fun i=>
 match ti.d,x with
 | .str,.str s=>aS (.int .u8 (s.getD i.toNat 0).toNat) [decide (0≤i),decide (i<s.length)]
 | .array n e,.agg cs=>(ap.tyAt e).bind fun te=>
  (lN te (oI true te.lks cs (i.toNat*te.size))).bind fun v=>aS v (decide (0≤i)::decide (i<n)::BR true te.lks cs (i.toNat*te.size))
 |_,_=>none
def jT (v:Option AV) (d:Int):Option Int:=match v with|none=>some d|some (.int _ n)=>some n|some _=>none
def Gt (ap:AP) (ti:TI) (rd:Nat→Option aJ) (x:AV) (lo hi mx:Option AV):Ai:=
 match ti.d,x,mx with
 | .str,.str s,none=>(jT lo 0).bind fun l=>(jT hi s.length).bind fun h=>
   aS (.str ((s.take h.toNat).drop l.toNat)) [decide (0≤l),decide (l≤h),decide (h≤s.length)]
 | .slice e,.sl xs n nn,none=>(ap.tyAt e).bind fun te=>(jT lo 0).bind fun l=>(jT hi n).bind fun h=>
   aS (.sl ((xs.take (h.toNat*te.size)).drop (l.toNat*te.size)) (h.toNat - l.toNat) nn) [decide (0≤l),decide (l≤h),decide (h≤n)]
 | .slice e,.ref b ver j n,none=>(ap.tyAt e).bind fun te=>(rd b).bind fun B=>(jT lo 0).bind fun l=>(jT hi n).bind fun h=>
   match Nat.beq B.ver ver && Nat.beq B.esz te.size with
   |true=>aS (.ref b ver (j+l.toNat) (h.toNat - l.toNat)) [decide (0≤l),decide (l≤h),decide (h≤n)]
   |false=>none
 | .slice e,.nilS,none=>(ap.tyAt e).bind fun _=>(jT lo 0).bind fun l=>(jT hi 0).bind fun h=>aS .nilS [decide (l=0),decide (h=0)]
 |_,_,_=>none
def Tc (d:TD) (x:AV):Ai:=
 match d,x with
 | .array n _,_=>aS (.int .i64 n)
 | .str,.str s=>aS (.int .i64 s.length)
 | .slice _,.sl _ n _=>aS (.int .i64 n)
 | .slice _,.ref _ _ _ n=>aS (.int .i64 n)
 | .slice _,.nilS=>aS (.int .i64 0)
 |_,_=>none
def EY (size:Nat) (rd:Nat→Option aJ) (x:AV):Option (List AV × Nat × Bool):=
 match x with
 | .sl xs n _=>some (xs,n,true)
 | .nilS=>some ([],0,true)
 | .str s=>some (s.map fun b=> .int .u8 b.toNat,s.length,true)
 | .ref b ver j n=>(rd b).bind fun B=>match Nat.beq B.ver ver && Nat.beq B.esz size && !(Nat.beq B.esz dw) with
  |true=>some ((B.cells.drop (j*size)).take (n*size),n,B.pr)
  |false=>none
 |_=>none
def EI:Nat:=2^40
def Bv (b:Nat):Nat:=match Nat.ble b 128 with|true=>EI|false=>549755813888
def rM (nid:Nat) (te:TI) (rd:Nat→Option aJ) (em:Bool) (s x:AV):Ai:=
 (EY te.size rd x).bind fun (xs,n,pr)=>
 match Nat.blt 0 te.size && Nat.ble te.bytes 256 with
 |false=>none
 |true=>
 match s with
 | .nilS=>match em with
  |true=>aS .nilS [Nat.beq xs.length (n*te.size)]
  |false=>some (.ref nid 0 0 n,[(nid,⟨xs,0,false,0,te.size,pr⟩)],[Nat.beq xs.length (n*te.size),Nat.ble n (Bv te.bytes)])
 | .ref b ver 0 m=>(rd b).bind fun B=>match Nat.beq B.ver ver && Nat.beq B.esz te.size && !(Nat.beq B.esz dw) with
  | true=>some (.ref b (ver+1) 0 (m+n),[(b,{B with cells:=B.cells.take (m*te.size)++xs,ver:=ver+1,pr:=B.pr && pr})],
    [Nat.beq xs.length (n*te.size),Nat.ble (m+n) (Bv te.bytes),Nat.ble (m*te.size) B.cells.length, !B.fro||Nat.ble B.fz (m*te.size)])
  |false=>none
 |_=>none
def qO:AV→Option Nat
 | .sl _ n _=>some n
 | .nilS=>some 0
 | .str s=>some s.length
 | .ref _ _ _ n=>some n
 |_=>none
def su (ρ:Operand→AV) (o:Op):Option Nat:=
 match o with
 | .call {callee:= .builtin .append,args,..}=>match args.toList with
  | [s,x]=>match ρ s with
   | .nilS=>qO (ρ x)
   |_=>none
  |_=>none
 |_=>none
def LJ:AV→Bool
 | .nilS=>false
 |_=>true
def qX (ap:AP) (nid:Nat) (ti:TI) (l c:AV):Ai:=
 match ti.d,l,c with
 | .slice e,.int _ l,.int _ c=>(ap.tyAt e).bind fun te=>
  match Nat.blt 0 te.size && Nat.beq te.zero.length te.size && Nat.ble te.bytes 128 && (a_ te.zero).isEmpty with
  |true=>some (.ref nid 0 0 l.toNat,[(nid,⟨fK l.toNat te.zero,0,false,0,te.size,te.zero.all LJ⟩)],[decide (0≤l),decide (l=c),decide (l≤2^40)])
  |false=>none
 |_,_,_=>none
def FD (te:TI) (rd:Nat→Option aJ) (x:AV):Ai:=
 match x with
 | .nilS=>aS (.tup [])
 | .ref b ver i n=>(rd b).bind fun B=>match Nat.beq B.ver ver && !B.fro && Nat.beq B.esz te.size && Nat.beq te.zero.length te.size && (a_ te.zero).isEmpty with
  |true=>some (.tup [],[(b,{B with cells:=dI B.cells (i*te.size) (fK n te.zero)})],[Nat.ble (i*te.size+n*te.size) B.cells.length])
  |false=>none
 |_=>none
def xQ (ap:AP) (ts td:TI) (rd:Nat→Option aJ) (x:AV):Ai:=
 match ts.d,td.d,x with
 |_,.int k,.int _ n=>aS (.int k (k.wrap n))
 | .str,.str,.str s=>aS (.str s)
 | .slice e,.str,x=>(ap.tyAt e).bind fun te=>match te.d,x with
  | .int .u8,.str _=>none
  | .int .u8,x=>(EY 1 rd x).bind fun (xs,n,_)=>aS (.str (xs.map fun c=>UInt8.ofNat c.toInt.toNat)) [Nat.beq xs.length n,xs.all (chk (.int .u8))]
  |_,_=>none
 |_,_,_=>none
def FI:LK→AV→AV→Option Bool
 | .int k,.int k1 a,.int k2 b=>match fA k k1 && fA k k2 with|true=>some (a==b)|false=>none
 | .bool,.bool a,.bool b=>some (a==b)
 | .str,.str a,.str b=>some (a==b)
 |_,_,_=>none
def iw:List LK→List AV→List AV→Option Bool
 | [],[],[]=>some true
 |k::ks,a::as,b::bs=>(FI k a b).bind fun c=>(iw ks as bs).map fun d=>c && d
 |_,_,_=>none
def ZI (ti:TI) (a b:AV):Option Bool:=
 match ti.d,a,b with
 | .bool,.bool a,.bool b=>some (a==b)
 | .struct _,.agg xs,.agg ys=>match ti.cmp with|true=>iw ti.lks xs ys|false=>none
 | .ptr,.nilP,.nilP=>some true
 | .ptr,.nilP,.ptr _ _ _=>some false
 | .ptr,.nilP,.pp _ _=>some false
 | .ptr,.ptr _ _ _,.nilP=>some false
 | .ptr,.pp _ _,.nilP=>some false
 | .iface,.nilI,.ifc _ _=>some false
 | .iface,.ifc _ _,.nilI=>some false
 | .func,.nilF,.nilF=>some true
 | .func,.nilF,.fn _ _ _=>some false
 | .func,.fn _ _ _,.nilF=>some false
 | .slice _,.nilS,.nilS=>some true
 | .slice _,.ref _ _ _ _,.nilS=>some false
 | .slice _,.nilS,.ref _ _ _ _=>some false
 | .slice _,.sl _ _ _,.nilS=>some false
 | .slice _,.nilS,.sl _ _ _=>some false
 |_,_,_=>none
def yS (a b:AV):List Bool:=
 match a,b with
 | .sl _ n false,.nilS=> [Nat.blt 0 n]
 | .nilS,.sl _ n false=> [Nat.blt 0 n]
 |_,_=> []
def jw:List UInt8→List UInt8→Bool
 |_,[]=>false
 | [],_::_=>true
 |a::x,b::y=>decide (a<b)||(a==b && jw x y)
def RH (op:BinOp) (ti:TI) (x y:AV):Ai:=
 match x,y with
 | .int k a,.int k' b=>
  match op with
  | .shl=>aS (.int k (k.wrap (a*2^(min b.toNat k.bits)))) [decide (0≤b)]
  | .shr=>aS (.int k (a.fdiv (2^(min b.toNat k.bits)))) [decide (0≤b)]
  | _=>match fA k k' with
   |false=>none
   |true=>match op with
    | .add=>aS (.int k (k.wrap (a+b)))
    | .sub=>aS (.int k (k.wrap (a - b)))
    | .mul=>aS (.int k (k.wrap (a*b)))
    | .quo=>aS (.int k (k.wrap (a.tdiv b))) [!(b==0)]
    | .rem=>aS (.int k (a.tmod b)) [!(b==0)]
    | .and=>aS (.int k (k.wrap (BitVec.ofInt k.bits a &&& BitVec.ofInt k.bits b).toNat))
    | .or=>aS (.int k (k.wrap (BitVec.ofInt k.bits a|||BitVec.ofInt k.bits b).toNat))
    | .xor=>aS (.int k (k.wrap (BitVec.ofInt k.bits a^^^BitVec.ofInt k.bits b).toNat))
    | .eql=>aS (.bool (a==b))
    | .neq=>aS (.bool (!(a==b)))
    | .lss=>aS (.bool (decide (a<b)))
    | .leq=>aS (.bool (decide (a≤b)))
    | .gtr=>aS (.bool (decide (b<a)))
    | .geq=>aS (.bool (decide (b≤a)))
    |_=>none
 | .str a,.str b=>
  match op with
  | .add=>aS (.str (a++b)) [Nat.ble (a.length+b.length) 9223372036854775807]
  | .eql=>aS (.bool (a==b))
  | .neq=>aS (.bool (!(a==b)))
  | .lss=>aS (.bool (jw a b))
  | .leq=>aS (.bool (jw a b||a==b))
  | .gtr=>aS (.bool (!(jw a b||a==b)))
  | .geq=>aS (.bool (!jw a b))
  |_=>none
 |x,y=>
  match op with
  | .eql=>(ZI ti x y).bind fun b=>aS (.bool b) (yS x y)
  | .neq=>(ZI ti x y).bind fun b=>aS (.bool (!b)) (yS x y)
  |_=>none
def unA (op:UnOp) (x:AV):Ai:=
 match op,x with
 | .not,.bool b=>aS (.bool (!b))
 | .neg,.int k n=>aS (.int k (k.wrap (0 - n)))
 |_,_=>none
def min2 (a b:AV):Option AV:=match a,b with| .int k x,.int k' y=>(match fA k k' with|true=>some (.int k (if y<x then y else x))|false=>none)|_,_=>none
def max2 (a b:AV):Option AV:=match a,b with| .int k x,.int k' y=>(match fA k k' with|true=>some (.int k (if y>x then y else x))|false=>none)|_,_=>none
def DY (f:AV→AV→Option AV):AV→List AV→Option AV
 |x,[]=>some x
 |x,y::r=>match f x y with|some z=>DY f z r|none=>none
def ut (f:AV→AV→Option AV):List AV→Option AV
 | []=>none
 |x::r=>DY f x r
def BL (ap:AP) (x:AV) (asserted:Nat) (commaOk:Bool):Ai:=
 (ap.tyAt asserted).bind fun ti=>
 match ti.d with
 | .iface=>none
 | _=>match x with
  | .ifc t v=>match Nat.beq t asserted with
   |true=>aS (match commaOk with|true=> .tup [v,.bool true]|false=>v)
   |false=>match commaOk with|true=>(lN ti ti.zero).bind fun z=>aS (.tup [z,.bool false])|false=>none
  | .nilI=>match commaOk with|true=>(lN ti ti.zero).bind fun z=>aS (.tup [z,.bool false])|false=>none
  |_=>none
def FM (ap:AP) (ti:TI) (x:AV) (f:Nat):Ai:=
 match ti.d,x with
 | .struct fs,.agg cs=>(fs[f]?).bind fun (o,t,_)=>(ap.tyAt t).bind fun tf=>
  (lN tf (oI false tf.lks cs o)).bind fun v=>aS v (BR false tf.lks cs o)
 |_,_=>none
def qw:AV→List Nat
 | .ref b _ _ _=> [b]
 | .ptr b _ _=> [b]
 | .mr b _=> [b]
 |_=> []
def Ti:AV→List Nat
 | .mr b _=> [b]
 |_=> []
def LQ (ρ:Operand→AV):Op→List Nat
 | .load _ a=>qw (ρ a)
 | .store _ a _=>qw (ρ a)
 | .indexAddr _ x _=>qw (ρ x)
 | .slice _ x _ _ _=>qw (ρ x)
 | .convert _ _ x=>qw (ρ x)
 | .lookup _ x _ _=>qw (ρ x)
 | .mapUpdate _ x _ _=>qw (ρ x)
 | .insert _ x _ _=>qw (ρ x)
 | .call {callee:= .builtin .append,args,..}=>eF (args.toList.flatMap fun x=>qw (ρ x))
 | .call {callee:= .builtin .len,args,..}=>args.toList.flatMap fun x=>Ti (ρ x)
 | .call {callee:= .builtin .clear,args,..}=>args.toList.flatMap fun x=>qw (ρ x)
 |_=> []
def AZ:LK→AV→Bool
 | .int k,.int k' _=>fA k k'
 | .bool,.bool _=>true
 | .str,.str _=>true
 |_,_=>false
def jk:List LK→List AV→Bool
 | [],[]=>true
 |k::r,x::l=>AZ k x && jk r l
 |_,_=>false
def fE (ti:TI) (x:AV):Bool:=match ti.d,x with
 | .int k,.int k' _=>fA k k'
 | .bool,.bool _=>true
 | .str,.str _=>true
 | .struct _,.agg l=>ti.cmp && jk ti.lks l
 |_,_=>false
def x_:AV→AV→Bool
 | .int _ a,.int _ b=>a==b
 | .bool a,.bool b=>a==b
 | .str a,.str b=>a==b
 |_,_=>false
def Cb:List AV→List AV→Bool
 | [],[]=>true
 |a::r,b::q=>x_ a b && Cb r q
 |_,_=>false
def xZ:AV→AV→Bool
 | .int _ a,.int _ b=>a==b
 | .bool a,.bool b=>a==b
 | .str a,.str b=>a==b
 | .agg a,.agg b=>Cb a b
 |_,_=>false
def fZ:List AV→List AV→AV→Option AV
 |k0::ks,v0::vs,k=>match xZ k k0 with|true=>some v0|false=>fZ ks vs k
 |_,_,_=>none
def uS (ks:List AV) (k:AV):List AV:=match ks.any (xZ k) with|true=>ks|false=>ks++ [k]
def lq:List AV→List AV→AV→AV→List AV
 |k0::ks,v0::vs,k,v=>match xZ k k0 with|true=>v::vs|false=>v0::lq ks vs k v
 |_,_,_,v=> [v]
def I5 (rd:Nat→Option aJ) (x:AV):Option (List AV × List AV):=
 match x with
 | .mp ks vs=>some (ks,vs)
 | .mr b ver=>(rd b).bind fun B=>match Nat.beq B.ver ver && Nat.beq B.esz dw with
  |true=>match B.cells with| [.agg ks,.agg vs]=>some (ks,vs)|_=>none
  |false=>none
 |_=>none
def Hu (ok:Bool) (o:Option AV) (z:AV):AV:=match ok with|true=> .tup [o.getD z,.bool o.isSome]|false=>o.getD z
def CJ (ap:AP) (ti:TI) (rd:Nat→Option aJ) (x k:AV) (ok:Bool):Ai:=
 match ti.d with
 | .map kt et=>(ap.tyAt kt).bind fun tk=>(ap.tyAt et).bind fun te=>(I5 rd x).bind fun q=>(lN te te.zero).bind fun z=>
   aS (Hu ok (fZ q.1 q.2 k) z) [fE tk k,q.1.all (fE tk)]
 |_=>none
def xk (ap:AP) (ti:TI) (rd:Nat→Option aJ) (x k v:AV):Ai:=
 match ti.d,x with
 | .map kt _,.mr b ver=>(ap.tyAt kt).bind fun tk=>(rd b).bind fun B=>match Nat.beq B.ver ver && Nat.beq B.esz dw && !B.fro with
  |true=>match B.cells with
   | [.agg ks,.agg vs]=>some (.dead,[(b,{B with cells:= [.agg (uS ks k),.agg (lq ks vs k v)],pr:=B.pr && (bU v).isEmpty})],[fE tk k,ks.all (fE tk)])
   |_=>none
  |false=>none
 |_,_=>none
def opA (ap:AP) (nid:Nat) (ρ:Operand→AV) (rd:Nat→Option aJ) (dec:Operand→Option Bool) (em:Bool) (o:Op):Ai:=
 match o with
 | .move x=>aS (ρ x)
 | .assign x=>aS (ρ x)
 | .pick c a b=>match dec c with
  |some true=>aS (ρ a)
  |some false=>aS (ρ b)
  |none=>match ρ c,ρ a,ρ b with| .bool c,.bool x,.bool y=>aS (.bool (cond c x y))|_,_,_=>none
 | .alloc e=>(ap.tyAt e).bind fun te=>match Nat.blt 0 te.size && te.zero.all jy with|true=>some (.ptr nid 0 0,[iT nid te.zero 0],[])|false=>none
 | .box e x=>(ap.tyAt e).bind fun te=>let vs:=(ρ x).cells
  match vs.all jy with|true=>some (.ptr nid 0 0,[iT nid vs 0],[])|false=>none
 | .build t parts=>(ap.tyAt t).bind fun ti=>Fq ap ti (parts.toList.map fun (i,x)=>(i,ρ x))
 | .buildSlice t len parts=>(ap.tyAt t).bind fun ti=>nY ap nid ti len (parts.toList.map fun (i,x)=>(i,ρ x))
 | .load t a=>(ap.tyAt t).bind fun ti=>Em ti rd (ρ a)
 | .store t a x=>(ap.tyAt t).bind fun ti=>Gv ti rd (ρ a) (ρ x)
 | .makeMap _ r=>match r with|none=>some (.mr nid 0,[(nid,⟨[.agg [],.agg []],0,false,0,dw,true⟩)],[])|some _=>none
 | .lookup t x k ok=>(ap.tyAt t).bind fun ti=>CJ ap ti rd (ρ x) (ρ k) ok
 | .mapUpdate t x k v=>(ap.tyAt t).bind fun ti=>xk ap ti rd (ρ x) (ρ k) (ρ v)
 | .insert t x k v=>(ap.tyAt t).bind fun ti=>xk ap ti rd (ρ x) (ρ k) (ρ v)
 | .nilCheck x=>match ρ x with
  | .ptr b v o=>aS (.ptr b v o)
  | .pp xs o=>aS (.pp xs o)
  | .fn f a c=>aS (.fn f a c)
  | .ifc t v=>aS (.ifc t v)
  |_=>none
 | .binOp op t x y _=>(ap.tyAt t).bind fun ti=>RH op ti (ρ x) (ρ y)
 | .unOp op _ x=>unA op (ρ x)
 | .convert s d x=>(ap.tyAt s).bind fun ts=>(ap.tyAt d).bind fun td=>xQ ap ts td rd (ρ x)
 | .makeInterface t x=>(ap.tyAt t).bind fun ti=>match ti.d with| .iface=>none|_=>aS (.ifc t (ρ x))
 | .makeFunc (.func f) first cap=>aS (.fn f (first.toList.map ρ) (cap.toList.map ρ))
 | .makeSlice t l c=>(ap.tyAt t).bind fun ti=>qX ap nid ti (ρ l) (ρ c)
 | .slice t x lo hi mx=>(ap.tyAt t).bind fun ti=>Gt ap ti rd (ρ x) (lo.map ρ) (hi.map ρ) (mx.map ρ)
 | .fieldAddr s x f=>(ap.tyAt s).bind fun ti=>match ti.d with
  | .struct fs=>(fs[f]?).bind fun (o,_,sz)=>match Nat.blt 0 sz with|true=>(LG (ρ x) o).bind fun p=>aS p|false=>none
  |_=>none
 | .field t x f=>(ap.tyAt t).bind fun ti=>FM ap ti (ρ x) f
 | .indexAddr t x i=>(ap.tyAt t).bind fun ti=>qV ap ti rd (ρ x) (ρ i)
 | .index t x i=>(ap.tyAt t).bind fun ti=>FT ap ti (ρ x) (ρ i)
 | .typeAssert x _ asserted ok=>BL ap (ρ x) asserted ok
 | .extract t i=>match ρ t with| .tup l=>(l[i]?).bind fun v=>aS v|_=>none
 | .call {callee:= .builtin b,args,argTypes}=>
  match b with
  | .len=>(args[0]?).bind fun x=>(argTypes[0]?).bind fun t=>(ap.tyAt t).bind fun ti=>match ti.d with
   | .map _ _=>(I5 rd (ρ x)).bind fun q=>aS (.int .i64 q.1.length)
   |d=>Tc d (ρ x)
  | .append=>match args.toList,argTypes.toList with
   | [s,x],[t,t1]=>(ap.tyAt t).bind fun ti=>(ap.tyAt t1).bind fun ti1=>match ti.d,ti1.d,ρ x with
    | .slice e,.str,.str y=>(ap.tyAt e).bind fun te=>match Nat.beq te.size 1 with|true=>rM nid te rd em (ρ s) (.str y)|false=>none
    | .slice _,.slice _,.str _=>none
    | .slice e,.slice _,y=>(ap.tyAt e).bind fun te=>rM nid te rd em (ρ s) y
    |_,_,_=>none
   |_,_=>none
  | .clear=>(args[0]?).bind fun x=>(argTypes[0]?).bind fun t=>(ap.tyAt t).bind fun ti=>match ti.d with
   | .slice e=>(ap.tyAt e).bind fun te=>FD te rd (ρ x)
   |_=>none
  | .min=>(ut min2 (args.toList.map ρ)).bind fun v=>aS v
  | .max=>(ut max2 (args.toList.map ρ)).bind fun v=>aS v
  |_=>none
 |_=>none
def A_ (P:Program):Nat→TypeId→List LK
 |0,_=> [.oth]
 |n+1,t=>match P.underlying t with
  |some (.int k)=> [.int k]
  |some .bool=> [.bool]
  |some .string=> [.str]
  |some (.slice _)=> [.sl]
  |some (.struct fs)=>fs.toList.flatMap fun f=>A_ P n f.type
  |some (.array m e)=>(List.replicate m (A_ P n e)).flatten
  |_=> [.oth]
def gJ (P:Program):Option TypeDesc→TD
 |some (.int k)=> .int k
 |some .bool=> .bool
 |some .string=> .str
 |some (.slice e)=> .slice e
 |some (.array n e)=> .array n e
 |some (.struct fs)=> .struct (fs.toList.map fun f=>(f.offset,f.type,match P.info? f.type with|some i=>i.size|none=>0))
 |some (.interface _)=> .iface
 |some (.pointer _)=> .ptr
 |some (.func _ _ _)=> .func
 |some (.map k e)=> .map k e
 |_=> .oth
def rY (P:Program) (f:TypeId→Option (List LK)):List Field→Nat→Option (List LK)
 | [],_=>some []
 | x::r,off=>match f x.type with
  |some l=>match !(x.name== "_") && Nat.beq x.offset off && (match P.info? x.type with|some i=>Nat.beq i.size l.length|none=>false) with
   |true=>match rY P f r (off+l.length) with|some l'=>some (l++l')|none=>none
   |false=>none
  |none=>none
def fV (P:Program):Nat→TypeId→Option (List LK)
 |0,_=>none
 |n+1,t=>match P.underlying t with
  |some (.int k)=>some [.int k]
  |some .bool=>some [.bool]
  |some .string=>some [.str]
  |some (.struct fs)=>match P.stoodInHeld t with|true=>none|false=>rY P (fV P n) fs.toList 0
  |_=>none
def Uf (i:TypeInfo) (d:TypeDesc):Bool:=match i.zero,d with
 |some (.agg _),.struct _=>true
 |some (.agg _),.array _ _=>true
 |some (.agg _),_=>false
 |some _,.struct _=>false
 |some _,.array _ _=>false
 |some _,_=>true
 |none,_=>false
def J7 (P:Program) (d:TypeDesc):Bool:=match d with
 | .struct fs=>fs.toList.all fun f=>(P.info? f.type).isSome
 |_=>true
def zN (i:TypeInfo):List AV:=match i.zero with|some z=>z.cells.toList.map yU|none=> []
def Tf:LK→LK→Bool
 | .int a,.int b=>fA a b
 | .bool,.bool=>true
 | .str,.str=>true
 |_,_=>false
def A8:List LK→List LK→Bool
 | [],[]=>true
 |a::r,b::q=>Tf a b && A8 r q
 |_,_=>false
def NZ (P:Program) (t:TypeId):Bool:=match fV P 8 t with|some l=>A8 l (A_ P 8 t) && !P.eqGuardType P.depth t|none=>false
def Nr (P:Program) (t:TypeId):Option TI:=
 match P.info? t,P.underlying t with
 |some i,some d=>
  match Nat.beq (A_ P 8 t).length i.size && (Uf i d && J7 P d) && (zN i).all jy && Nat.beq (zN i).length i.size && i.zero.isSome && Nat.blt i.size dw with
  |true=>some {d:=gJ P (some d),size:=i.size,bytes:=i.bytes,zero:=zN i,lks:=A_ P 8 t,cmp:=NZ P t}
  |false=>none
 |_,_=>none
abbrev ay:=Nat→Nat→Option Value
def gy (S S':ay):Prop:=∀ k o v,S k o=some v→S' k o=some v
theorem gy.refl (S:ay):gy S S:=fun _ _ _ h=>h
theorem gy.trans {S S' S'':ay} (h:gy S S') (a:gy S' S''):gy S S'':=fun k o v e=>a k o v (h k o v e)
def gz (S:ay) (b o:Nat) (vs:List Value):Prop:=∀ j u,vs[j]? =some u→S b (o+j)=some u∧u.oneCell'=true
mutual
def PR (S:ay):AV→Value→Prop
 | .int k n,v=>v= .int k n
 | .bool b,v=>v= .bool b
 | .str s,v=>v= .string ⟨s.toArray⟩
 | .agg l,v=> ∃ vs,v= .agg vs.toArray∧aZ S l vs
 | .tup l,v=> ∃ vs,v= .tuple vs.toArray∧aZ S l vs
 | .nilS,v=>v= .slice none 0 0
 | .sl xs n nn,v=> ∃ a cap,v= .slice a n cap∧n≤cap∧(((a=none→nn=false)∧xs= []∧n=0∧cap=0)∨∃ b o vs,a=some ⟨b,o,none⟩∧aZ S xs vs∧gz S b o vs)
 | .pp xs off,v=> ∃ b o vs,v= .pointer (some ⟨b,o+off,none⟩)∧aZ S xs vs∧gz S b o vs
 | .mp ks vs,v=>(v= .map none∧ks= []∧vs= [])∨∃ b kk vv,v= .map (some b)∧S b 0=some (.agg kk.toArray)∧S b 1=some (.agg vv.toArray)∧aZ S ks kk∧aZ S vs vv
 | .nilP,v=>v= .pointer none
 | .raw x,v=>v=x
 | .fn f a c,v=> ∃ va vc,v= .func (.func f) va.toArray vc.toArray∧aZ S a va∧aZ S c vc
 | .nilF,v=>v= .nilFunc
 | .ifc t x,v=> ∃ u,v= .iface t u∧PR S x u
 | .nilI,v=>v= .nilIface
 | .dead,_=>True
 | .ref _ _ _ _,_=>False
 | .ptr _ _ _,_=>False
 | .mr _ _,_=>False
 | .own _ _ _,_=>False
def aZ (S:ay):List AV→List Value→Prop
 | [],[]=>True
 |x::r,v::vs=>PR S x v∧aZ S r vs
 |_,_=>False
end
abbrev bD:=Nat→Option aJ
abbrev aF:=Nat→Nat × Nat
mutual
def VR (g:bD) (m:aF) (S:ay):AV→Value→Prop
 | .ref b ver i n,v=> ∃ B,g b=some B∧ver≤B.ver∧(∃ k o c',v= .slice (some ⟨k,o,none⟩) n c')∧(B.ver=ver→∃ o,v= .slice (some ⟨(m b).1,o,none⟩) n ((m b).2 - i)∧i+n≤(m b).2∧(i<(m b).2→o=i*B.esz)∧0<B.esz∧B.esz ≠ dw)
 | .ptr b ver off,v=> ∃ B,g b=some B∧ver≤B.ver∧(∃ k o,v= .pointer (some ⟨k,o,none⟩))∧(B.ver=ver→v= .pointer (some ⟨(m b).1,off,none⟩))
 | .mr b ver,v=> ∃ B,g b=some B∧ver≤B.ver∧(∃ k,v= .map (some k))∧(B.ver=ver→v= .map (some (m b).1))
 | .agg l,v=> ∃ vs,v= .agg vs.toArray∧aO g m S l vs
 | .tup l,v=> ∃ vs,v= .tuple vs.toArray∧aO g m S l vs
 | .fn f a c,v=> ∃ va vc,v= .func (.func f) va.toArray vc.toArray∧aO g m S a va∧aO g m S c vc
 | .ifc t x,v=> ∃ u,v= .iface t u∧VR g m S x u
 | .int k n,v=>PR S (.int k n) v
 | .bool b,v=>PR S (.bool b) v
 | .str s,v=>PR S (.str s) v
 | .nilS,v=>PR S .nilS v
 | .sl xs n nn,v=>PR S (.sl xs n nn) v
 | .pp xs off,v=>PR S (.pp xs off) v
 | .mp ks vs,v=>PR S (.mp ks vs) v
 | .nilP,v=>PR S .nilP v
 | .raw x,v=>PR S (.raw x) v
 | .nilF,v=>PR S .nilF v
 | .nilI,v=>PR S .nilI v
 | .dead,_=>True
 | .own _ _ _,_=>False
def aO (g:bD) (m:aF) (S:ay):List AV→List Value→Prop
 | [],[]=>True
 |x::r,v::vs=>VR g m S x v∧aO g m S r vs
 |_,_=>False
end
def bC (x y:AV):Prop:=∀ g m S v,VR g m S x v→VR g m S y v
inductive qK where
 |v (d:Nat) (x:AV)
 |b (d:Nat) (xs:List AV)
 |u (d:Nat)
 |f (d:Nat)
inductive fP where
 |ret (v:AV)
 |pan (v:AV)
structure Cx where
 cl:Bool
 orc:List Bool
 bs:List Bool
 ps:List Prop
 ans:List (fP × List aJ)
 hs:List qK
inductive R (α:Type) where
 |ok (a:α) (c:Cx)
 |need
 |bad (n:Nat)
def R.bind {α β:Type} (r:R α) (f:α→Cx→R β):R β:=
 match r with
 | .ok a c=>f a c
 | .need=> .need
 | .bad n=> .bad n
def lit (o b:Bool):Bool:=match o with|true=>b|false=> !b
def N_ (c:Cx) (bs:List Bool):R Unit:=
 match c.cl with
 |true=>match bs.all id with|true=> .ok () c|false=> .bad 1
 |false=> .ok () {c with bs:=bs++c.bs}
def ui (c:Cx) (b:Bool):R Bool:=
 match c.cl with
 |true=> .ok b c
 |false=>match c.orc with
  | []=> .need
  |o::r=> .ok o {c with orc:=r,bs:=lit o b::c.bs}
def yz (c:Cx) (dst:Option Nat) (v:AV):AV × Cx:=
 match c.hs,dst with
 | .v d x::r,some d'=>match Nat.beq d d' with
  |true=>(x,{c with hs:=r,ps:=bC v x::c.ps})
  |false=>(v,c)
 |_,_=>(v,c)
def yx (c:Cx) (dst:Option Nat) (ups:List (Nat × aJ)):List (Nat × aJ) × Cx:=
 match c.hs,dst,ups with
 | .b d xs::r,some d',[(b,B)]=>match Nat.beq d d' with
  |true=>([(b,{B with cells:=xs})],{c with hs:=r,ps:=(B.cells=xs)::c.ps})
  |false=>(ups,c)
 |_,_,_=>(ups,c)
def sN (nid:Nat) (c:Cx) (dst:Option Nat) (v:AV) (ups:List (Nat × aJ)):AV × List (Nat × aJ) × Cx:=
 match c.hs,dst,v,ups with
 | .f d::r,some d',.ref b ver 0 n,[(b',B)]=>match Nat.beq d d' && (Nat.beq b nid && Nat.beq b' nid && Nat.beq ver B.ver && B.pr && !B.fro && Nat.beq B.cells.length (n*B.esz) && !Nat.beq n 0) with
  |true=>(.sl B.cells n true,[(b',{B with fro:=true,fz:=B.cells.length})],{c with hs:=r})
  |false=>(v,ups,c)
 |_,_,_,_=>(v,ups,c)
def Hf (c:Cx) (dst:Option Nat):Bool × Cx:=
 match c.hs,dst with
 | .u d::r,some d'=>match Nat.beq d d' with
  |true=>(true,{c with hs:=r})
  |false=>(false,c)
 |_,_=>(false,c)
abbrev bg:=Cx→AV→Nat→List AV→List aJ→R (fP × List aJ × AV)
def kV (rd:Nat→Option aJ):Nat→List Nat→List Nat
 |0,l=>l
 |n+1,l=>
  let more:=l.flatMap fun b=>match rd b with|some B=>(match B.pr with|true=> []|false=>a_ B.cells)|none=> []
  let l':=more.foldl (fun acc b=>if j_ acc b then acc else acc++ [b]) l
  match Nat.beq l'.length l.length with|true=>l|false=>kV rd n l'
def frz (rd:Nat→Option aJ):Nat→AV→Option AV
 |0,_=>none
 | fuel+1,x=>
  let frzL (l:List AV):Option (List AV):=eH (frz rd fuel) l
  match x with
  | .ref b ver i n=>(rd b).bind fun B=>match Nat.beq B.ver ver with
   |true=>match B.pr with
    |true=>some (.sl ((B.cells.drop (i*B.esz)).take (n*B.esz)) n true)
    |false=>(frzL ((B.cells.drop (i*B.esz)).take (n*B.esz))).map fun l=> .sl l n true
   |false=>none
  | .ptr b ver off=>(rd b).bind fun B=>match Nat.beq B.ver ver && !(Nat.beq B.esz dw) with
   |true=>match B.pr with
    |true=>some (.pp B.cells off)
    |false=>(frzL B.cells).map fun l=> .pp l off
   |false=>none
  | .mr b ver=>(rd b).bind fun B=>match Nat.beq B.ver ver && Nat.beq B.esz dw with
   |true=>match B.pr with
    |true=>OG B.cells
    |false=>(frzL B.cells).bind OG
   |false=>none
  | .agg l=>(frzL l).map .agg
  | .tup l=>(frzL l).map .tup
  | .fn f a c=>(frzL a).bind fun a=>(frzL c).map fun c=> .fn f a c
  | .ifc t v=>(frz rd fuel v).map (.ifc t)
  | .own _ _ _=>none
  |x=>some x
def kX (l:List Nat) (b:Nat):Option Nat:=match l with
 | []=>none
 |c::r=>match Nat.beq c b with|true=>some 0|false=>(kX r b).map (· +1)
def uP (xs:List AV) (esz:Nat):aJ:={cells:=xs,ver:=0,fro:=false,fz:=0,esz,pr:=true}
def dS (nid:Nat):List AV→List AV × List aJ
 | []=>([],[])
 | .own xs n esz::r=>match dS (nid+1) r with|(l,bs)=>(.ref nid 0 0 n::l,uP xs esz::bs)
 |x::r=>match dS nid r with|(l,bs)=>(x::l,bs)
def gG (nid:Nat):AV→AV × List aJ
 | .tup l=>match dS nid l with|(l,bs)=>(.tup l,bs)
 | .own xs n esz=>(.ref nid 0 0 n,[uP xs esz])
 |x=>(x,[])
def yT:Nat→List aJ→List (Nat × aJ)
 |_,[]=> []
 |n,B::r=>(n,B)::yT (n+1) r
def E_:List Nat→List aJ→List (Nat × aJ)
 |b::r,B::q=>(b,B)::E_ r q
 |_,_=> []
def mO:List Nat→Bool
 | []=>true
 |b::r=> !j_ r b && mO r
def wI (ρ:Nat→Nat→Option (Nat × Nat)) (v:Nat) (B:aJ):aJ:={B with cells:=(match B.pr with|true=>B.cells|false=>jA ρ B.cells),ver:=v+B.ver}
def Gz (nid:Nat) (fp:List Nat) (vers:Nat→Nat) (n:Nat):Nat→Nat→Option (Nat × Nat):=fun p v=>
 match fp[p]? with
 |some b=>some (b,vers b+v)
 |none=>match Nat.blt p n with|true=>some (nid+(p - fp.length),v)|false=>none
structure JE where
 out:fP
 ups:List (Nat × aJ)
 fp:List Nat
 md:AV
def n_ (ap:AP) (H:bg) (rd:Nat→Option aJ) (nid:Nat) (md:AV) (f:Nat) (args:List AV) (c:Cx):R JE:=
 let fp:=kV rd 6 (eF (a_ args))
 let rd:=fun b=>match j_ fp b with|true=>rd b|false=>none
 let shared:=match ap.fnAt f with|some F=>F.shared|none=>false
 match shared with
 | false=>
  match eH (frz rd 6) args with
  |none=> .bad 10
  |some args'=>
   (H c md f args' []).bind fun (out,h',md) c=>
   match h' with
   |_::_=> .bad 14
   | []=>
   let mark:=fp.filterMap fun b=>(rd b).map fun B=>(b,{B with fro:=true,fz:=B.cells.length})
   match out with
   | .ret v=>match gG nid v with|(v,bs)=>match Nat.ble bs.length 4 with|true=> .ok {out:= .ret v,ups:=yT nid bs++mark,fp,md} c|false=> .bad 13
   | .pan v=> .ok {out:= .pan v,ups:=mark,fp,md} c
 | true=>
  let vers:=fun b=>match rd b with|some B=>B.ver|none=>0
  let ρ:Nat→Nat→Option (Nat × Nat):=fun b v=>match Nat.beq v (vers b) with|true=>(kX fp b).map fun p=>(p,0)|false=>none
  match eH rd fp with
  |none=> .bad 11
  | some bl=>
   (H c md f (jA ρ args) (bl.map fun B=> {B with cells:=(match B.pr with|true=>B.cells|false=>jA ρ B.cells),ver:=0})).bind fun (out,h',md) c=>
   match Nat.ble fp.length h'.length && mO fp with
   |false=> .bad 12
   |true=>
    let ρ':=Gz nid fp vers h'.length
    let ups:=(E_ fp h').map fun (b,B)=>(b,wI ρ' (vers b) B)
    let ex:=(h'.drop fp.length).map (wI ρ' 0)
    match out with
    | .ret v=>match gG (nid+(h'.length - fp.length)) (ren ρ' v) with|(v,bs)=>match Nat.ble ((h'.length - fp.length)+bs.length) 4 with|true=> .ok {out:= .ret v,ups:=yT nid (ex++bs)++ups,fp,md} c|false=> .bad 13
    | .pan v=>match Nat.ble (h'.length - fp.length) 4 with|true=> .ok {out:= .pan (ren ρ' v),ups:=yT nid (ex++ [])++ups,fp,md} c|false=> .bad 13
inductive bf where
 |normal
 |exit (id:Nat)
 |ret
 |panic (v:AV)
structure St where
 env:dF
 hp:Hp
 md:AV
 dfs:List (Nat × List AV)
structure qJ where
 rt:List Nat
 wt:List Nat
 rb:List Nat
 wb:List Nat
structure RS where
 env:dF
 hp:Hp
 md:AV
 dfs:List (Nat × List AV)
 dec:List (Nat × Bool)
 feet:List qJ
def jV (l:List Operand):List Nat:=l.filterMap fun| .tmp t=>some t|_=>none
def BZ (o:Oper):List Nat:=match o.dst with|some d=> [d]|none=> []
def lm (env:dF) (dst:Option Nat) (v:AV):dF:=match dst with|some d=>(d,v)::env|none=>env
def nK (ap:AP) (env:dF):Operand→AV
 | .tmp t=>env.get t
 | .const v=>yU v
 | .global g=>match (ap.gl[g]?).join with|some xs=> .pp xs 0|none=> .dead
 | .func f=> .fn f [] []
def FP (ops:List Oper) (env:dF) (dec:List (Nat × Bool)) (o:Oper) (c:Cx):R (Bool × List (Nat × Bool)):=
 match o.guard with
 |none=> .ok (true,dec) c
 | some (j,want)=>
  match (ops[j]?).bind (·.dst) with
  |none=> .bad 20
  | some s=>match ai dec s with
   |some b=> .ok (lit want b,dec) c
   |none=>match env.get s with
    | .bool b=>(ui c b).bind fun b' c=> .ok (lit want b',(s,b')::dec) c
    | .tup []=> .ok (false,dec) c
    |_=> .bad 21
def dV (ops:List Oper) (o:Oper):List Nat:=
 match o.guard with
 |none=> []
 |some (j,_)=>match (ops[j]?).bind (·.dst) with|none=> []|some s=> [s]
def GU (dec:List (Nat × Bool)) (o:Oper):Bool:=match o.dst with|none=>true|some d=>match ai dec d with|none=>true|some _=>false
def BP (ap:AP) (H:bg) (nid:Nat) (o:Oper) (s:RS) (rt:List Nat) (dec:List (Nat × Bool)) (f:Nat) (argsA:List AV) (c:Cx):R (RS × Option AV):=
 (n_ ap H (ai s.hp) nid .dead f argsA c).bind fun r c=>
 let foot:qJ:={rt,wt:=BZ o,rb:=r.fp,wb:=r.ups.map fun (q:Nat × aJ)=>q.1}
 match Hf c o.dst with
 | (true,c)=>match r.out with
  | .ret v=>match r.ups.all (fun (q:Nat × aJ)=>j_ r.fp q.1) with
   |true=> .ok ({s with env:=lm s.env o.dst v,dec,feet:={rt,wt:=BZ o,rb:=r.fp,wb:= []}::s.feet},none) {c with ps:=(r.ups.map (fun (q:Nat × aJ)=>some q.2)=r.ups.map (fun (q:Nat × aJ)=>ai s.hp q.1))::c.ps}
   |false=> .bad 36
  | .pan _=> .bad 37
 |(false,c)=>match r.out with
  | .ret v=> .ok ({s with env:=lm s.env o.dst v,hp:=r.ups++s.hp,dec,feet:=foot::s.feet},none) c
  | .pan v=> .ok ({s with hp:=r.ups++s.hp,dec,feet:=foot::s.feet},some v) c
def E5 (ap:AP) (H:bg) (nid:Nat) (ops:List Oper) (o:Oper) (s:RS) (c:Cx):R (RS × Option AV):=
 (FP ops s.env s.dec o c).bind fun (run,dec) c=>
 let rt:=jV o.op.operands.toList++dV ops o
 match GU dec o with
 |false=> .bad 35
 |true=>
 match run with
 |false=> .ok ({s with env:=lm s.env o.dst (.tup []),dec,feet:={rt,wt:=BZ o,rb:= [],wb:= []}::s.feet},none) c
 | true=>
  let ρ:=nK ap s.env
  let rdAll:=ai s.hp
  match o.op with
  | .call {callee:= .value g,args,..}=>
   match ρ g with
   | .fn f first cap=>BP ap H nid o s rt dec f (first++args.toList.map ρ++cap) c
   |_=> .bad 30
  | .call {callee:= .invoke g name,args,..}=>
   match ρ g with
   | .ifc t v=>match ap.mtAt t name with
    |some f=>BP ap H nid o s rt dec f (v::args.toList.map ρ) c
    |none=> .bad 38
   |_=> .bad 39
  | .call {callee:= .builtin .recover,..}=>
   match s.md with
   | .nilI=> .ok ({s with env:=lm s.env o.dst .nilI,dec,feet:={rt,wt:=BZ o,rb:= [],wb:= []}::s.feet},none) c
   | .ifc t v=> .ok ({s with env:=lm s.env o.dst (.ifc t v),md:= .nilI,dec,feet:={rt,wt:=BZ o,rb:= [],wb:= []}::s.feet},none) c
   |_=> .bad 33
  | .defer {callee:= .value g,args,..}=>
   match ρ g with
   | .fn f first cap=> .ok ({s with env:=lm s.env o.dst .dead,dfs:=(f,first++args.toList.map ρ++cap)::s.dfs,dec,feet:={rt,wt:=BZ o,rb:= [],wb:= []}::s.feet},none) c
   |_=> .bad 34
  | .panic x=>
   match ρ x with
   | .ifc t v=> .ok ({s with dec},some (.ifc t v)) c
   |_=> .bad 31
  | op=>
   let fp:=LQ ρ op
   let rd:=fun b=>match j_ fp b with|true=>rdAll b|false=>none
   let decs:Operand→Option Bool:=fun| .tmp t=>ai dec t|_=>none
   (match su ρ op with|some n=>ui c (Nat.beq n 0)|none=> .ok false c).bind fun em c=>
   match opA ap nid ρ rd decs em op with
   |none=> .bad 32
   | some (v,ups,bs)=>(N_ c bs).bind fun _ c=>
    match sN nid c o.dst v ups with
    |(v,ups,c)=>match yz c o.dst v with
    |(v,c)=>match yx c o.dst ups with
     |(ups,c)=> .ok ({s with env:=lm s.env o.dst v,hp:=ups++s.hp,dec,feet:={rt,wt:=BZ o,rb:=fp,wb:=ups.map fun (q:Nat × aJ)=>q.1}::s.feet},none) c
def lu (ap:AP) (H:bg) (ops:List Oper):List Oper→Nat→RS→Cx→R (RS × Option AV)
 | [],_,s,c=> .ok (s,none) c
 | o::r,nid,s,c=>(E5 ap H nid ops o s c).bind fun (s,p) c=>
  match p with
  |some v=> .ok (s,some v) c
  |none=>match s.feet with
   |f::_=>match f.wb.all (fun x=>Nat.blt x (nid+4)) with|true=>lu ap H ops r (nid+4) s c|false=> .bad 43
   | []=> .bad 44
def yP (a b:List Nat):Bool:=a.any (j_ b)
def gV (a b:qJ):Bool:=yP a.wt b.rt||yP a.wt b.wt||yP a.rt b.wt||yP a.wb b.rb||yP a.wb b.wb||yP a.rb b.wb
def oH (n:Nat) (bef:List Nat) (feet:List qJ):Bool:=
 let l:=feet.reverse.zipIdx
 l.all fun (a,i)=>l.all fun (b,j)=> !(Nat.blt i j)|| !(gV a b||b.wb.any fun x=>Nat.ble (n+4*i) x && Nat.blt x (n+4*i+4))||(bef.getD j 0).testBit i
def xY (keep:List Nat) (env:dF):List Nat:=keep.flatMap fun t=>bU (env.get t)
def norm (base:Nat) (keep:List Nat) (s:St):St:=
 let env:=s.env
 let hp:=s.hp
 let rd:=ai hp
 let ids:=kV rd 20 (eF (kV rd 20 (List.range base)++xY keep env++s.dfs.flatMap fun d=>a_ d.2))
 let ids:=ids.filter fun b=>(rd b).isSome
 let ρ:Nat→Nat→Option (Nat × Nat):=fun b v=>match rd b with
  |some B=>match Nat.beq B.ver v with
   |true=>(kX ids b).map fun p=>(p,match Nat.blt p base with|true=>v|false=>0)
   |false=>none
  |none=>none
 {env:=keep.map fun t=>(t,ren ρ (env.get t))
  hp:=ids.zipIdx.filterMap fun (b,p)=>(rd b).map fun B=>(p,{B with cells:=(match B.pr with|true=>B.cells|false=>jA ρ B.cells),ver:=match Nat.blt p base with|true=>B.ver|false=>0})
  md:=s.md
  dfs:=s.dfs.map fun d=>(d.1,jA ρ d.2)}
def dR:Hp→Nat
 | []=>0
 |(b,_)::r=>match Nat.blt b (dR r) with|true=>dR r|false=>b+1
def mD (ops:List Oper):Bool:=ops.zipIdx.all fun (o,i)=>o.after.toList.all fun e=> !Region.binds .any e||Nat.blt e.on i
def C_ (ap:AP) (H:bg) (base:Nat) (keep:List Nat) (ops:List Oper) (draw:Bool) (s:St) (c:Cx):R (bf × St):=
 (lu ap H ops ops (dR s.hp) {env:=s.env,hp:=s.hp,md:=s.md,dfs:=s.dfs,dec:= [],feet:= []} c).bind fun (s',p) c=>
 match p with
 | some v=>match draw with
  |true=> .bad 40
  |false=>match (bU v).isEmpty with
   |true=> .ok (.panic v,norm base keep ⟨s'.env,s'.hp,s'.md,s'.dfs⟩) c
   |false=> .ok (.panic v,⟨s'.env,s'.hp,s'.md,s'.dfs⟩) c
 |none=>
  match !draw||(oH (dR s.hp) (Region.before ops.toArray).toList s'.feet && mD ops && Nat.beq s'.dfs.length s.dfs.length) with
  |true=> .ok (.normal,norm base keep ⟨s'.env,s'.hp,s'.md,s'.dfs⟩) c
  |false=> .bad 41
def Hr (f:St→Cx→R (bf × St)):Nat→St→Cx→R (bf × St)
 |0,_,_=> .bad 50
 |n+1,s,c=>(f s c).bind fun (e,s) c=>match e with
  | .normal=>Hr f n s c
  |e=> .ok (e,s) c
def iK (ap:AP) (H:bg) (base:Nat) (keep:List Nat) (lf:Nat):Code→St→Cx→R (bf × St)
 | .skip,s,c=> .ok (.normal,s) c
 | .label _,s,c=> .ok (.normal,s) c
 | .region _ ops draw,s,c=>C_ ap H base keep ops.toList draw s c
 | .seq a b,s,c=>(iK ap H base keep lf a s c).bind fun (e,s) c=>match e with
  | .normal=>iK ap H base keep lf b s c
  |e=> .ok (e,s) c
 | .cond t a b,s,c=>match nK ap s.env t with
  | .bool x=>(ui c x).bind fun x c=>match x with
   |true=>iK ap H base keep lf a s c
   |false=>iK ap H base keep lf b s c
  |_=> .bad 60
 | .block id b,s,c=>(iK ap H base keep lf b s c).bind fun (e,s) c=>match e with
  | .exit id'=>match Nat.beq id' id with|true=> .ok (.normal,s) c|false=> .ok (.exit id',s) c
  |e=> .ok (e,s) c
 | .loop b,s,c=>Hr (iK ap H base keep lf b) lf s c
 | .exit id,s,c=> .ok (.exit id,s) c
 | .ret,s,c=> .ok (.ret,s) c
 | .scope b,s,c=>iK ap H base keep lf b s c
 |_,_,_=> .bad 61
def pV (ap:AP) (env:dF) (hp:Hp):ResultVar→Option (AV × List Bool)
 | .tmp t=>some (env.get t,[])
 | .cell a t=>(ap.tyAt t).bind fun ti=>(Em ti (ai hp) (env.get a)).map fun (v,_,bs)=>(v,bs)
def dN (l:List Nat) (b:Nat):Nat:=(l.filter (Nat.beq b)).length
def Og (base:Nat) (rd:Nat→Option aJ) (v:AV):Option AV:=
 let fp:=kV rd 6 (eF (bU v))
 match fp.all (fun b=>Nat.ble base b) with
 |true=>frz (fun b=>match j_ fp b with|true=>rd b|false=>none) 6 v
 |false=>none
def kP (base:Nat) (rd:Nat→Option aJ) (all:List Nat) (v:AV):Option AV:=
 let frzO (v:AV):Option AV:=match (bU v).all (fun b=>Nat.blt b base) with|true=>some v|false=>Og base rd v
 match v with
 | .ref b ver 0 n=>match rd b with
  |some B=>match Nat.ble base b && Nat.beq B.ver ver && !B.fro && B.pr && Nat.beq (dN all b) 1 && Nat.blt 0 B.esz with
   |true=>some (.own (B.cells.take (n*B.esz)) n B.esz)
   |false=>frzO v
  |none=>none
 |v=>frzO v
def ag (f:Func):Code:=f.body.getD .skip
def dO (md:AV) (args:List AV) (h:List aJ):St:=
 {env:=args.zipIdx.map fun (x,i)=>(i,x),hp:=h.zipIdx.map fun (B,i)=>(i,B),md,dfs:= []}
def VX:AV→Bool
 | .nilI=>true
 | .ifc _ _=>true
 |_=>false
def yI (ap:AP) (H:bg):List (Nat × List AV)→AV→Hp→Cx→R (AV × Hp)
 | [],mode,hp,c=> .ok (mode,hp) c
 |(f,args)::r,mode,hp,c=>
  match VX mode && (bU mode).isEmpty with
  |false=> .bad 78
  |true=>
  (n_ ap H (ai hp) (dR hp) mode f args c).bind fun q c=>
  match q.out with
  | .ret _=>yI ap H r q.md (q.ups++hp) c
  | .pan _=> .bad 75
def Jr (rd:Nat→Option aJ) (base:Nat):Nat:=(kV rd 20 (List.range base)).length
def pU (ap:AP) (base:Nat) (F:Func) (env:dF) (hp:Hp) (c:Cx):R (fP × List aJ):=
 let rd:=ai hp
 let n:=Jr rd base
 match eH (pV ap env hp) F.results.toList,eH rd (List.range n) with
 |some vs,some h'=>
  match h'.all (fun B=>B.pr||(a_ B.cells).all fun b=>Nat.blt b n) with
  |false=> .bad 76
  |true=>
  (N_ c (vs.flatMap fun (q:AV × List Bool)=>q.2)).bind fun _ c=>
  let all:=vs.flatMap fun (q:AV × List Bool)=>kV rd 6 (eF (bU q.1))
  match eH (kP n rd all) (vs.map fun (q:AV × List Bool)=>q.1) with
  |some [v]=> .ok (.ret v,h') c
  |some l=> .ok (.ret (.tup l),h') c
  |none=> .bad 70
 |_,_=> .bad 71
def CY (base:Nat) (v:AV) (hp:Hp) (c:Cx):R (fP × List aJ):=
 let n:=Jr (ai hp) base
 match kP n (ai hp) (kV (ai hp) 6 (eF (bU v))) v,eH (ai hp) (List.range n) with
 |some v,some h'=>
  match h'.all (fun B=>B.pr||(a_ B.cells).all fun b=>Nat.blt b n) with
  |false=> .bad 77
  |true=> .ok (.pan v,h') c
 |_,_=> .bad 72
def wX (ap:AP) (H:bg) (base:Nat) (F:Func) (e:bf) (s:St) (c:Cx):R (fP × List aJ × AV):=
 let go (mode:AV):R (fP × List aJ × AV):=
  (yI ap H s.dfs mode s.hp c).bind fun (mode,hp) c=>
  match mode with
  | .nilI=>(pU ap base F s.env hp c).bind fun (o,h) c=> .ok (o,h,s.md) c
  | .ifc t v=>(CY base (.ifc t v) hp c).bind fun (o,h) c=> .ok (o,h,s.md) c
  |_=> .bad 74
 match e with
 | .normal| .ret=>go .nilI
 | .panic (.ifc t v)=>match (bU v).isEmpty with|true=>go (.ifc t v)|false=> .bad 79
 |_=> .bad 73
def JM (ap:AP) (H:bg) (lf:Nat) (md:AV) (F:AF) (args:List AV) (h:List aJ) (c:Cx):R (fP × List aJ × AV):=
 match ag F.fn with
 | .seq (.region _ ops false) rest=>
  match ops.toList with
  | o ::r=>
   match o.op,o.guard,o.dst with
   | .call {callee:= .builtin .recover,..},none,some d=>
    let s0:=dO .dead args h
    (lu ap H (o::r) r (dR s0.hp) {env:=(d,md)::s0.env,hp:=s0.hp,md:= .dead,dfs:= [],dec:= [],feet:= []} c).bind fun (s,p) c=>
    match p with
    |some _=> .bad 81
    | none=>(iK ap H h.length F.keep lf rest (norm h.length F.keep ⟨s.env,s.hp,s.md,s.dfs⟩) c).bind fun (e,s) c=>
     match s.dfs with
     |_::_=> .bad 82
     | []=>match e with
      | .normal| .ret=>(pU ap h.length F.fn s.env s.hp c).bind fun (o,h) c=> .ok (o,h,.nilI) c
      |_=> .bad 83
   |_,_,_=> .bad 84
  | []=> .bad 85
 |_=> .bad 86
def jH (ap:AP) (H:bg) (lf:Nat) (md:AV) (f:Nat) (args:List AV) (h:List aJ) (c:Cx):R (fP × List aJ × AV):=
 match ap.fnAt f with
 |none=> .bad 80
 |some F=>match md with
  | .dead=>(iK ap H h.length F.keep lf (ag F.fn) (dO .dead args h) c).bind fun (e,s) c=>wX ap H h.length F.fn e s c
  |md=>match VX md && (bU md).isEmpty with|true=>JM ap H lf md F args h c|false=> .bad 87
theorem iP {S:ay}:∀ {l:List AV} {vs:List Value},aZ S l vs→l.length=vs.length
 | [],[],_=>rfl
 |_::_,_::_,h=>by simp only [aZ] at h;simp [iP h.2]
 | [],_::_,h=>by simp [aZ] at h
 |_::_,[],h=>by simp [aZ] at h
theorem aW {g:bD} {m:aF} {S:ay}:∀ {l:List AV} {vs:List Value},aO g m S l vs→l.length=vs.length
 | [],[],_=>rfl
 |_::_,_::_,h=>by simp only [aO] at h;simp [aW h.2]
 | [],_::_,h=>by simp [aO] at h
 |_::_,[],h=>by simp [aO] at h
theorem Gw {S:ay}:∀ {l:List AV} {vs:List Value} (_:aZ S l vs) (i:Nat) {x:AV},l[i]? =some x→∃ v,vs[i]? =some v∧PR S x v
 | [],[],_,i,x,hx=>by simp at hx
 |a::l,v::vs,h,0,x,hx=>by simp only [aZ] at h;simp at hx;subst hx;exact ⟨v,rfl,h.1⟩
 |a::l,v::vs,h,i+1,x,hx=>by simp only [aZ] at h;simp at hx;simpa using Gw h.2 i hx
 | [],_::_,h,_,_,_=>by simp [aZ] at h
 |_::_,[],h,_,_,_=>by simp [aZ] at h
theorem mf {g:bD} {m:aF} {S:ay}:∀ {l:List AV} {vs:List Value} (_:aO g m S l vs) (i:Nat) {x:AV},l[i]? =some x→∃ v,vs[i]? =some v∧VR g m S x v
 | [],[],_,i,x,hx=>by simp at hx
 |a::l,v::vs,h,0,x,hx=>by simp only [aO] at h;simp at hx;subst hx;exact ⟨v,rfl,h.1⟩
 |a::l,v::vs,h,i+1,x,hx=>by simp only [aO] at h;simp at hx;simpa using mf h.2 i hx
 | [],_::_,h,_,_,_=>by simp [aO] at h
 |_::_,[],h,_,_,_=>by simp [aO] at h
theorem gu {S:ay}:∀ {l l':List AV} {vs vs':List Value},aZ S l vs→aZ S l' vs'→aZ S (l++l') (vs++vs')
 | [],_,[],_,_,h'=>by simpa using h'
 |_::_,_,_::_,_,h,h'=>by simp only [aZ] at h;simp only [List.cons_append,aZ];exact ⟨h.1,gu h.2 h'⟩
 | [],_,_::_,_,h,_=>by simp [aZ] at h
 |_::_,_,[],_,h,_=>by simp [aZ] at h
theorem dZ {g:bD} {m:aF} {S:ay}:∀ {l l':List AV} {vs vs':List Value},aO g m S l vs→aO g m S l' vs'→aO g m S (l++l') (vs++vs')
 | [],_,[],_,_,h'=>by simpa using h'
 |_::_,_,_::_,_,h,h'=>by simp only [aO] at h;simp only [List.cons_append,aO];exact ⟨h.1,dZ h.2 h'⟩
 | [],_,_::_,_,h,_=>by simp [aO] at h
 |_::_,_,[],_,h,_=>by simp [aO] at h
theorem h_ {S:ay}:∀ (n:Nat) {l:List AV} {vs:List Value},aZ S l vs→aZ S (l.take n) (vs.take n)
 |0,_,_,_=>by simp [aZ]
 |n+1,[],[],_=>by simp [aZ]
 |n+1,_::_,_::_,h=>by simp only [aZ] at h;simp only [List.take_succ_cons,aZ];exact ⟨h.1,h_ n h.2⟩
 |_+1,[],_::_,h=>by simp [aZ] at h
 |_+1,_::_,[],h=>by simp [aZ] at h
theorem lC {S:ay}:∀ (n:Nat) {l:List AV} {vs:List Value},aZ S l vs→aZ S (l.drop n) (vs.drop n)
 |0,_,_,h=>by simpa using h
 |n+1,[],[],_=>by simp [aZ]
 |n+1,_::_,_::_,h=>by simp only [aZ] at h;simpa using lC n h.2
 |_+1,[],_::_,h=>by simp [aZ] at h
 |_+1,_::_,[],h=>by simp [aZ] at h
theorem lF {g:bD} {m:aF} {S:ay}:∀ (n:Nat) {l:List AV} {vs:List Value},aO g m S l vs→aO g m S (l.take n) (vs.take n)
 |0,_,_,_=>by simp [aO]
 |n+1,[],[],_=>by simp [aO]
 |n+1,_::_,_::_,h=>by simp only [aO] at h;simp only [List.take_succ_cons,aO];exact ⟨h.1,lF n h.2⟩
 |_+1,[],_::_,h=>by simp [aO] at h
 |_+1,_::_,[],h=>by simp [aO] at h
theorem nV {g:bD} {m:aF} {S:ay}:∀ (n:Nat) {l:List AV} {vs:List Value},aO g m S l vs→aO g m S (l.drop n) (vs.drop n)
 |0,_,_,h=>by simpa using h
 |n+1,[],[],_=>by simp [aO]
 |n+1,_::_,_::_,h=>by simp only [aO] at h;simpa using nV n h.2
 |_+1,[],_::_,h=>by simp [aO] at h
 |_+1,_::_,[],h=>by simp [aO] at h
theorem gz.mono {S S':ay} (h:gy S S') {b o:Nat} {vs:List Value} (hs:gz S b o vs):gz S' b o vs:=fun j u a=> ⟨h _ _ _ (hs j u a).1,(hs j u a).2⟩
mutual
theorem bn {S S':ay} (h:gy S S'):∀ (x:AV) {v:Value},PR S x v→PR S' x v
 | .int _ _,_,p=>by simpa only [PR] using p
 | .bool _,_,p=>by simpa only [PR] using p
 | .str _,_,p=>by simpa only [PR] using p
 | .nilS,_,p=>by simpa only [PR] using p
 | .nilP,_,p=>by simpa only [PR] using p
 | .raw _,_,p=>by simpa only [PR] using p
 | .nilF,_,p=>by simpa only [PR] using p
 | .nilI,_,p=>by simpa only [PR] using p
 | .dead,_,_=>by simp only [PR]
 | .agg l,_,p=>by
  simp only [PR] at p ⊢
  obtain ⟨vs,e,q⟩:=p
  exact ⟨vs,e,aP h l q⟩
 | .tup l,_,p=>by
  simp only [PR] at p ⊢
  obtain ⟨vs,e,q⟩:=p
  exact ⟨vs,e,aP h l q⟩
 | .sl xs n nn,_,p=>by
  simp only [PR] at p ⊢
  obtain ⟨a,d,e,i,q⟩:=p
  refine ⟨a,d,e,i, ?_⟩
  rcases q with q|⟨b,o,vs,A,q,hs⟩
  ·exact .inl q
  ·exact .inr ⟨b,o,vs,A,aP h xs q,hs.mono h⟩
 | .pp xs off,_,p=>by
  simp only [PR] at p ⊢
  obtain ⟨b,o,vs,e,q,hs⟩:=p
  exact ⟨b,o,vs,e,aP h xs q,hs.mono h⟩
 | .mp ks vs,_,p=>by
  simp only [PR] at p ⊢
  rcases p with p|⟨b,z,k,e,h0,j,s,B⟩
  ·exact .inl p
  ·exact .inr ⟨b,z,k,e,h _ _ _ h0,h _ _ _ j,aP h ks s,aP h vs B⟩
 | .fn f a c,_,p=>by
  simp only [PR] at p ⊢
  obtain ⟨C,y,e,q,r⟩:=p
  exact ⟨C,y,e,aP h a q,aP h c r⟩
 | .ifc t x,_,p=>by
  simp only [PR] at p ⊢
  obtain ⟨u,e,q⟩:=p
  exact ⟨u,e,bn h x q⟩
 | .ref _ _ _ _,_,p=>by simp only [PR] at p
 | .ptr _ _ _,_,p=>by simp only [PR] at p
 | .mr _ _,_,p=>by simp only [PR] at p
 | .own _ _ _,_,p=>by simp only [PR] at p
theorem aP {S S':ay} (h:gy S S'):∀ (l:List AV) {vs:List Value},aZ S l vs→aZ S' l vs
 | [],[],_=>by simp only [aZ]
 |x::r,v::vs,p=>by simp only [aZ] at p ⊢;exact ⟨bn h x p.1,aP h r p.2⟩
 | [],_::_,p=>by simp [aZ] at p
 |_::_,[],p=>by simp [aZ] at p
end
mutual
theorem dG {g:bD} {m:aF} {S:ay}:∀ (x:AV) {v:Value},PR S x v→VR g m S x v
 | .int _ _,_,p=>by simpa only [VR] using p
 | .bool _,_,p=>by simpa only [VR] using p
 | .str _,_,p=>by simpa only [VR] using p
 | .nilS,_,p=>by simpa only [VR] using p
 | .nilP,_,p=>by simpa only [VR] using p
 | .raw _,_,p=>by simpa only [VR] using p
 | .nilF,_,p=>by simpa only [VR] using p
 | .nilI,_,p=>by simpa only [VR] using p
 | .sl _ _ _,_,p=>by simpa only [VR] using p
 | .pp _ _,_,p=>by simpa only [VR] using p
 | .mp _ _,_,p=>by simpa only [VR] using p
 | .dead,_,_=>by simp only [VR]
 | .agg l,_,p=>by
  simp only [PR] at p;simp only [VR]
  obtain ⟨vs,e,q⟩:=p
  exact ⟨vs,e,aX l q⟩
 | .tup l,_,p=>by
  simp only [PR] at p;simp only [VR]
  obtain ⟨vs,e,q⟩:=p
  exact ⟨vs,e,aX l q⟩
 | .fn f a c,_,p=>by
  simp only [PR] at p;simp only [VR]
  obtain ⟨d,b,e,q,r⟩:=p
  exact ⟨d,b,e,aX a q,aX c r⟩
 | .ifc t x,_,p=>by
  simp only [PR] at p;simp only [VR]
  obtain ⟨u,e,q⟩:=p
  exact ⟨u,e,dG x q⟩
 | .ref _ _ _ _,_,p=>by simp only [PR] at p
 | .ptr _ _ _,_,p=>by simp only [PR] at p
 | .mr _ _,_,p=>by simp only [PR] at p
 | .own _ _ _,_,p=>by simp only [PR] at p
theorem aX {g:bD} {m:aF} {S:ay}:∀ (l:List AV) {vs:List Value},aZ S l vs→aO g m S l vs
 | [],[],_=>by simp only [aO]
 |x::r,v::vs,p=>by simp only [aZ] at p;simp only [aO];exact ⟨dG x p.1,aX r p.2⟩
 | [],_::_,p=>by simp [aZ] at p
 |_::_,[],p=>by simp [aZ] at p
end
def nH (g:bD) (m:aF) (g':bD) (m':aF) (ρ:Nat→Nat→Option (Nat × Nat)):Prop:=
 ∀ b ver b' ver',ρ b ver=some (b',ver')→∀ B,g b=some B→ver≤B.ver→
  ∃ B',g' b'=some B'∧ver'≤B'.ver∧(B'.ver=ver'→B.ver=ver∧m' b'=m b∧B'.esz=B.esz)
mutual
theorem uf {g g':bD} {m G:aF} {S S':ay} {ρ:Nat→Nat→Option (Nat × Nat)} (j:gy S S') (h:nH g m g' G ρ):∀ (x:AV) {v:Value},VR g m S x v→VR g' G S' (ren ρ x) v
 | .int k n,_,p=>by simp only [VR] at p;simp only [ren,VR];exact bn j _ p
 | .bool _,_,p=>by simp only [VR] at p;simp only [ren,VR];exact bn j _ p
 | .str _,_,p=>by simp only [VR] at p;simp only [ren,VR];exact bn j _ p
 | .nilS,_,p=>by simp only [VR] at p;simp only [ren,VR];exact bn j _ p
 | .nilP,_,p=>by simp only [VR] at p;simp only [ren,VR];exact bn j _ p
 | .raw _,_,p=>by simp only [VR] at p;simp only [ren,VR];exact bn j _ p
 | .nilF,_,p=>by simp only [VR] at p;simp only [ren,VR];exact bn j _ p
 | .nilI,_,p=>by simp only [VR] at p;simp only [ren,VR];exact bn j _ p
 | .sl _ _ _,_,p=>by simp only [VR] at p;simp only [ren,VR];exact bn j _ p
 | .pp _ _,_,p=>by simp only [VR] at p;simp only [ren,VR];exact bn j _ p
 | .mp _ _,_,p=>by simp only [VR] at p;simp only [ren,VR];exact bn j _ p
 | .dead,_,_=>by simp only [ren,VR]
 | .own _ _ _,_,p=>by simp only [VR] at p
 | .agg l,_,p=>by
  simp only [VR] at p;simp only [ren,VR]
  obtain ⟨vs,e,q⟩:=p
  exact ⟨vs,e,ig j h l q⟩
 | .tup l,_,p=>by
  simp only [VR] at p;simp only [ren,VR]
  obtain ⟨vs,e,q⟩:=p
  exact ⟨vs,e,ig j h l q⟩
 | .fn f a c,_,p=>by
  simp only [VR] at p;simp only [ren,VR]
  obtain ⟨J,H,e,q,r⟩:=p
  exact ⟨J,H,e,ig j h a q,ig j h c r⟩
 | .ifc t x,_,p=>by
  simp only [VR] at p;simp only [ren,VR]
  obtain ⟨u,e,q⟩:=p
  exact ⟨u,e,uf j h x q⟩
 | .ref b ver i n,_,p=>by
  simp only [VR] at p;simp only [ren]
  obtain ⟨B,D,F,s,q⟩:=p
  cases hρ:ρ b ver with
  |none=>simp only [VR]
  |some bv=>
   obtain ⟨C,d⟩:=bv
   obtain ⟨B',o,y,z⟩:=h b ver C d hρ B D F
   simp only [VR]
   refine ⟨B',o,y,s,fun e=> ?_⟩
   obtain ⟨E,A,I⟩:=z e
   rw [A,I]
   exact q E
 | .ptr b ver off,_,p=>by
  simp only [VR] at p;simp only [ren]
  obtain ⟨B,D,F,s,q⟩:=p
  cases hρ:ρ b ver with
  |none=>simp only [VR]
  |some bv=>
   obtain ⟨C,d⟩:=bv
   obtain ⟨B',o,y,z⟩:=h b ver C d hρ B D F
   simp only [VR]
   refine ⟨B',o,y,s,fun e=> ?_⟩
   obtain ⟨E,A,_⟩:=z e
   rw [A]
   exact q E
 | .mr b ver,_,p=>by
  simp only [VR] at p;simp only [ren]
  obtain ⟨B,D,F,s,q⟩:=p
  cases hρ:ρ b ver with
  |none=>simp only [VR]
  |some bv=>
   obtain ⟨C,d⟩:=bv
   obtain ⟨B',o,y,z⟩:=h b ver C d hρ B D F
   simp only [VR]
   refine ⟨B',o,y,s,fun e=> ?_⟩
   obtain ⟨E,A,_⟩:=z e
   rw [A]
   exact q E
theorem ig {g g':bD} {m a:aF} {S S':ay} {ρ:Nat→Nat→Option (Nat × Nat)} (b:gy S S') (h:nH g m g' a ρ):∀ (l:List AV) {vs:List Value},aO g m S l vs→aO g' a S' (jA ρ l) vs
 | [],[],_=>by simp only [jA,aO]
 |x::r,v::vs,p=>by simp only [aO] at p;simp only [jA,aO];exact ⟨uf b h x p.1,ig b h r p.2⟩
 | [],_::_,p=>by simp [aO] at p
 |_::_,[],p=>by simp [aO] at p
end
def Ge (g:bD) (m:aF) (g':bD) (m':aF):Prop:=
 ∀ b B,g b=some B→∃ B',g' b=some B'∧B'.esz=B.esz∧((B'.ver=B.ver∧m' b=m b)∨B.ver<B'.ver)
theorem Ge.refl (g:bD) (m:aF):Ge g m g m:=fun _ B h=> ⟨B,h,rfl,.inl ⟨rfl,rfl⟩⟩
theorem Ge.trans {g g' f:bD} {m k a:aF} (h:Ge g m g' k) (p:Ge g' k f a):Ge g m f a:=by
 intro b B o
 obtain ⟨B',j,e,c⟩:=h b B o
 obtain ⟨B'',i,e',c'⟩:=p b B' j
 refine ⟨B'',i,e'.trans e, ?_⟩
 rcases c with ⟨q,r⟩|c<;>rcases c' with ⟨l,n⟩|d
 ·exact .inl ⟨l.trans q,n.trans r⟩
 ·exact .inr (by omega)
 ·exact .inr (by omega)
 ·exact .inr (by omega)
mutual
theorem jb {g g':bD} {m C:aF} {S S':ay} (o:gy S S') (h:Ge g m g' C):∀ (x:AV) {v:Value},VR g m S x v→VR g' C S' x v
 | .int k n,_,p=>by simp only [VR] at p ⊢;exact bn o _ p
 | .bool _,_,p=>by simp only [VR] at p ⊢;exact bn o _ p
 | .str _,_,p=>by simp only [VR] at p ⊢;exact bn o _ p
 | .nilS,_,p=>by simp only [VR] at p ⊢;exact bn o _ p
 | .nilP,_,p=>by simp only [VR] at p ⊢;exact bn o _ p
 | .raw _,_,p=>by simp only [VR] at p ⊢;exact bn o _ p
 | .nilF,_,p=>by simp only [VR] at p ⊢;exact bn o _ p
 | .nilI,_,p=>by simp only [VR] at p ⊢;exact bn o _ p
 | .sl _ _ _,_,p=>by simp only [VR] at p ⊢;exact bn o _ p
 | .pp _ _,_,p=>by simp only [VR] at p ⊢;exact bn o _ p
 | .mp _ _,_,p=>by simp only [VR] at p ⊢;exact bn o _ p
 | .dead,_,_=>by simp only [VR]
 | .own _ _ _,_,p=>by simp only [VR] at p
 | .agg l,_,p=>by
  simp only [VR] at p ⊢
  obtain ⟨vs,e,q⟩:=p
  exact ⟨vs,e,fU o h l q⟩
 | .tup l,_,p=>by
  simp only [VR] at p ⊢
  obtain ⟨vs,e,q⟩:=p
  exact ⟨vs,e,fU o h l q⟩
 | .fn f a c,_,p=>by
  simp only [VR] at p ⊢
  obtain ⟨G,F,e,q,r⟩:=p
  exact ⟨G,F,e,fU o h a q,fU o h c r⟩
 | .ifc t x,_,p=>by
  simp only [VR] at p ⊢
  obtain ⟨u,e,q⟩:=p
  exact ⟨u,e,jb o h x q⟩
 | .ref b ver i n,_,p=>by
  simp only [VR] at p ⊢
  obtain ⟨B,y,E,j,q⟩:=p
  obtain ⟨B',d,A,s⟩:=h b B y
  rcases s with ⟨D,z⟩|c
  ·refine ⟨B',d,by omega,j,fun e=> ?_⟩
   rw [z,A]
   exact q (by omega)
  ·exact ⟨B',d,by omega,j,fun e=>by omega⟩
 | .ptr b ver off,_,p=>by
  simp only [VR] at p ⊢
  obtain ⟨B,y,E,j,q⟩:=p
  obtain ⟨B',d,A,s⟩:=h b B y
  rcases s with ⟨D,z⟩|c
  ·refine ⟨B',d,by omega,j,fun e=> ?_⟩
   rw [z]
   exact q (by omega)
  ·exact ⟨B',d,by omega,j,fun e=>by omega⟩
 | .mr b ver,_,p=>by
  simp only [VR] at p ⊢
  obtain ⟨B,y,E,j,q⟩:=p
  obtain ⟨B',d,A,s⟩:=h b B y
  rcases s with ⟨D,z⟩|c
  ·refine ⟨B',d,by omega,j,fun e=> ?_⟩
   rw [z]
   exact q (by omega)
  ·exact ⟨B',d,by omega,j,fun e=>by omega⟩
theorem fU {g g':bD} {m a:aF} {S S':ay} (b:gy S S') (h:Ge g m g' a):∀ (l:List AV) {vs:List Value},aO g m S l vs→aO g' a S' l vs
 | [],[],_=>by simp only [aO]
 |x::r,v::vs,p=>by simp only [aO] at p ⊢;exact ⟨jb b h x p.1,fU b h r p.2⟩
 | [],_::_,p=>by simp [aO] at p
 |_::_,[],p=>by simp [aO] at p
end
def jD (ap:AP) (S:ay):Prop:=∀ k xs,(ap.gl[k]?).join=some xs→∃ vs,aZ S xs vs∧gz S k 0 vs
structure dn (P:Program) (ap:AP):Prop where
 ty:∀ t ti,ap.tyAt t=some ti→Nr P t=some ti
 mt:ap.mt.all (mtB P)=true
def iC (es:Array MapEntry):Array Value:=#[.agg (es.map (·.key)),.agg (es.map (·.val))]
def eP (w:World) (k z:Nat) (cur:Array Value) (e:TypeId):Prop:=
 (z ≠ dw∧w.heap[k]? =some (.cells cur e (0,0)))∨(z=dw∧∃ es clk,w.heap[k]? =some (.map es clk)∧cur=iC es)
def bK (w:World) (k o:Nat):Option Value:=match w.heap[k]? with
 |some (.map es _)=>(iC es)[o]?
 |_=>match w.cell? ⟨k,o,none⟩ with|some v=>if v.oneCell' then some v else none|none=>none
theorem eP.of {w:World} {k z:Nat} {cur:Array Value} {e:TypeId} (a:z ≠ dw) (h:w.heap[k]? =some (.cells cur e (0,0))):eP w k z cur e:= .inl ⟨a,h⟩
theorem eP.cells {w:World} {k z:Nat} {cur:Array Value} {e:TypeId} (h:eP w k z cur e) (a:z ≠ dw):w.heap[k]? =some (.cells cur e (0,0)):=by
 rcases h with h|h
 ·exact h.2
 ·exact absurd h.1 a
theorem eP.map {w:World} {k z:Nat} {cur:Array Value} {e:TypeId} (h:eP w k z cur e) (a:z=dw):∃ es clk,w.heap[k]? =some (.map es clk)∧cur=iC es:=by
 rcases h with h|h
 ·exact absurd a h.1
 ·exact h.2
theorem eP.same {w w':World} {k z:Nat} {cur:Array Value} {e:TypeId} (h:eP w k z cur e) (a:w'.heap[k]? =w.heap[k]?):eP w' k z cur e:=by
 unfold eP;rw [a];exact h
theorem eP.lt {w:World} {k z:Nat} {cur:Array Value} {e:TypeId} (h:eP w k z cur e):k<w.heap.size:=by
 rcases h with ⟨_,h⟩|⟨_,es,clk,h,_⟩<;>exact (Array.getElem?_eq_some_iff.1 h).1
theorem FB {w w':World} {k o:Nat} (b:w'.heap[k]? =w.heap[k]?):bK w' k o=bK w k o:=by
 unfold bK;rw [b,World.cell?_of_block (w:=w) (a:=⟨k,o,none⟩) b]
theorem o_ {w:World} {k o:Nat} {v:Value} (h:bK w k o=some v) (a:v.oneCell'=true):w.cell? ⟨k,o,none⟩=some v:=by
 unfold bK at h
 split at h
 ·rename_i es clk d
  exfalso
  unfold iC at h
  rcases (show o=0∨o=1∨2≤o by omega) with rfl|rfl|ho
  ·cases h;cases a
  ·cases h;cases a
  ·rw [Array.getElem?_eq_none (by simpa using ho)] at h;cases h
 ·split at h
  ·rename_i c b
   split at h
   ·cases h;exact b
   ·cases h
  ·cases h
theorem mg {w:World} {k o:Nat} {v:Value} (h:w.cell? ⟨k,o,none⟩=some v) (b:v.oneCell'=true):bK w k o=some v:=by
 unfold bK
 split
 ·rename_i es clk a
  unfold World.cell? at h
  simp only [a] at h
  cases h
 ·rw [h];simp only;rw [if_pos b]
theorem oZ {w:World} {k o:Nat} {v:Value} (h:bK w k o=some v) (c:v.oneCell'=false):∃ es clk,w.heap[k]? =some (.map es clk)∧(iC es)[o]? =some v:=by
 unfold bK at h
 split at h
 ·rename_i es clk b;exact ⟨es,clk,b,h⟩
 ·split at h
  ·split at h
   ·rename_i a;cases h;rw [c] at a;cases a
   ·cases h
  ·cases h
theorem DI {w:World} {k o:Nat} {v:Value} (h:bK w k o=some v):k<w.heap.size:=by
 cases a:v.oneCell' with
 |true=>exact World.block_lt_of_cell? w _ (o_ h a)
 |false=>
  obtain ⟨_,_,b,_⟩:=oZ h a
  exact (Array.getElem?_eq_some_iff.1 b).1
structure IC (g:bD) (m:aF) (S:ay) (w:World) (B:aJ) (k c:Nat):Prop where
 lies:∃ cur e vs rest,eP w k B.esz cur e∧cur.toList=vs++rest∧(B.pr=true→aZ S B.cells vs)∧aO g m S B.cells vs∧(B.esz ≠ dw→∀ u ∈ vs,u.oneCell'=true)∧(0<B.esz→B.esz ≠ dw→cur.size=c*B.esz∧c≤maxLen)
 fz0:B.fro=false→B.fz=0
 fzle:B.fz≤B.cells.length
structure aV (ap:AP) (g:bD) (m:aF) (S:ay) (w:World):Prop where
 inj:∀ b b' B B',g b=some B→g b'=some B'→(m b).1=(m b').1→b=b'
 blk:∀ b B,g b=some B→IC g m S w B (m b).1 (m b).2
 sealed:∀ k o v,S k o=some v→bK w k o=some v
 own:∀ b B,g b=some B→∀ o v,S (m b).1 o=some v→B.fro=true∧o<B.fz
 glob:jD ap S
def qo (es:Array MapEntry) (clk:Nat):Prop:=(es.toList.map (·.born)).Nodup∧∀ x ∈ es.toList,x.born<clk
def MW (w w':World):Prop:=∀ (k:Nat) (es:Array MapEntry) (clk:Nat),w'.heap[k]? =some (Obj.map es clk)→(∃ es0 clk0,w.heap[k]? =some (Obj.map es0 clk0)∧(qo es0 clk0→qo es clk))∨(w.heap.size≤k∧qo es clk)
theorem MW.same {w w':World} (h:∀ (k:Nat) (es:Array MapEntry) (clk:Nat),w'.heap[k]? =some (Obj.map es clk)→w.heap[k]? =some (Obj.map es clk)):MW w w':=fun k es clk a=> .inl ⟨es,clk,h k es clk a,id⟩
theorem MW.refl (w:World):MW w w:= .same fun _ _ _ h=>h
theorem MW.alloc (w:World) (cs:Array Value) (e:TypeId) (fr:Nat × Nat):MW w (w.alloc (.cells cs e fr)):= .same fun k es clk a=>by
 simp only [World.alloc,Array.getElem?_push] at a
 split at a
 ·cases a
 ·exact a
theorem MW.map0 (w:World):MW w (w.alloc (.map #[] 0)):=fun k es clk a=>by
 simp only [World.alloc,Array.getElem?_push] at a
 split at a
 ·rename_i e
  cases a
  exact .inr ⟨by omega,by simp [qo]⟩
 ·exact .inl ⟨es,clk,a,id⟩
theorem MW.row (w:World) (g:Nat) (cs:Array Value):MW w (w.setRow g cs):= .same fun k es clk a=>by
 simp only [World.setRow,Array.getElem?_modify] at a
 split at a
 ·cases b:w.heap[k]? with
  |none=>rw [b] at a;cases a
  |some o=>
   rw [b] at a
   cases o<;>simp at a ⊢
   exact a
 ·exact a
theorem MW.setM {w:World} {k0:Nat} {b d:Array MapEntry} {a clk':Nat} (h0:w.heap[k0]? =some (.map b a)) (h:qo b a→qo d clk'):MW w {w with heap:=w.heap.setIfInBounds k0 (.map d clk')}:=fun k es clk c=>by
 simp only [Array.getElem?_setIfInBounds] at c
 split at c
 ·rename_i e
  subst e
  split at c
  ·cases c;exact .inl ⟨b,a,h0,h⟩
  ·cases c
 ·exact .inl ⟨es,clk,c,id⟩
def MB (g':bD) (m':aF) (w w':World):Prop:=∀ b B,g' b=some B→∀ es clk,w'.heap[(m' b).1]? =some (Obj.map es clk)→(∃ es0 clk0,w.heap[(m' b).1]? =some (Obj.map es0 clk0)∧(qo es0 clk0→qo es clk))∨(w.heap.size≤(m' b).1∧qo es clk)
theorem MW.mb {w w':World} (h:MW w w') (g':bD) (c:aF):MB g' c w w':=fun b _ _ es clk a=>h _ es clk a
theorem qo.push {es:Array MapEntry} {clk:Nat} (k v:Value) (h:qo es clk):qo (es.push {key:=k,val:=v,born:=clk}) (clk+1):=by
 obtain ⟨f,d⟩:=h
 refine ⟨?_,fun x c=> ?_⟩
 ·rw [Array.toList_push,List.map_append,List.nodup_append]
  refine ⟨f,by simp,fun a e b i=> ?_⟩
  obtain ⟨x,c,rfl⟩:=List.mem_map.1 e
  simp at i
  have:=d x c
  omega
 ·rw [Array.toList_push,List.mem_append] at c
  rcases c with c|c
  ·have:=d x c;omega
  ·simp at c;subst c;simp
theorem qo.same {es a:Array MapEntry} {clk:Nat} (e:a.toList.map (·.born)=es.toList.map (·.born)) (h:qo es clk):qo a clk:=by
 obtain ⟨d,b⟩:=h
 refine ⟨by rw [e];exact d,fun x f=> ?_⟩
 have:x.born ∈ a.toList.map (·.born):=List.mem_map.2 ⟨x,f,rfl⟩
 rw [e] at this
 obtain ⟨y,c,i⟩:=List.mem_map.1 this
 have:=b y c
 omega
structure Fr (g:bD) (m:aF) (S:ay) (w:World) (g':bD) (m':aF) (S':ay) (w':World):Prop where
 ge:Ge g m g' m'
 sle:gy S S'
 os:w'.os=w.os
 tape:w'.tape=w.tape
 output:w'.output=w.output
 size:w.heap.size≤w'.heap.size
 rest:∀ k,k<w.heap.size→(∀ b B,g b=some B→(m b).1 ≠ k)→w'.heap[k]? =w.heap[k]?
 img:∀ b B,g' b=some B→w.heap.size≤(m' b).1∨(∃ B0,g b=some B0∧(m' b).1=(m b).1)
 sealN:∀ k o v,S' k o=some v→S k o=some v∨w.heap.size≤k∨∃ b B,g b=some B∧(m b).1=k
 mw:MB g' m' w w'
theorem Fr.refl (g:bD) (m:aF) (S:ay) (w:World):Fr g m S w g m S w:=
 ⟨Ge.refl g m,gy.refl S,rfl,rfl,rfl,Nat.le_refl _,fun _ _ _=>rfl,fun _ B h=> .inr ⟨B,h,rfl⟩,fun _ _ _ h=> .inl h,(MW.refl w).mb _ _⟩
theorem Fr.trans {g g' r:bD} {m D j:aF} {S S' S'':ay} {w w' n:World} (h:Fr g m S w g' D S' w') (f:Fr g' D S' w' r j S'' n):Fr g m S w r j S'' n:=by
 refine ⟨h.ge.trans f.ge,h.sle.trans f.sle,f.os.trans h.os,f.tape.trans h.tape,f.output.trans h.output,Nat.le_trans h.size f.size, ?_, ?_, ?_, ?_⟩
 ·intro k t E
  rw [f.rest k (Nat.lt_of_lt_of_le t h.size) ?_,h.rest k t E]
  intro b B i e
  rcases h.img b B i with c|⟨B0,a,c⟩
  ·omega
  ·exact E b B0 a (c ▸ e)
 ·intro b B i
  rcases f.img b B i with c|⟨B0,a,c⟩
  ·exact .inl (Nat.le_trans h.size c)
  ·rcases h.img b B0 a with z|⟨B1,u,z⟩
   ·exact .inl (c ▸ z)
   ·exact .inr ⟨B1,u,c.trans z⟩
 ·intro k o v F
  rcases f.sealN k o v F with d|d|⟨b,B,i,d⟩
  ·exact h.sealN k o v d
  ·exact .inr (.inl (Nat.le_trans h.size d))
  ·rcases h.img b B i with c|⟨B0,a,c⟩
   ·exact .inr (.inl (d ▸ c))
   ·exact .inr (.inr ⟨b,B0,a,by rw [← d,c]⟩)
 ·intro b B i es clk t
  rcases f.mw b B i es clk t with ⟨y,p,d,s⟩|⟨d,s⟩
  ·rcases f.img b B i with c|⟨B0,a,c⟩
   ·have:=(Array.getElem?_eq_some_iff.1 d).1;omega
   ·rw [c] at d ⊢
    rcases h.mw b B0 a y p d with ⟨C,l,A,x⟩|⟨A,x⟩
    ·exact .inl ⟨C,l,A,fun q=>s (x q)⟩
    ·exact .inr ⟨A,s x⟩
  ·exact .inr ⟨Nat.le_trans h.size d,s⟩
theorem aV.lt {ap:AP} {g:bD} {m:aF} {S:ay} {w:World} (h:aV ap g m S w) {b:Nat} {B:aJ} (c:g b=some B):(m b).1<w.heap.size:=by
 obtain ⟨cur,e,vs,rest,a,_⟩:=(h.blk b B c).lies
 exact a.lt
theorem aV.one {ap:AP} {g:bD} {m:aF} {S:ay} {w:World} (h:aV ap g m S w) {k o:Nat} {v:Value} (b:S k o=some v) (a:v.oneCell'=true):w.cell? ⟨k,o,none⟩=some v:=o_ (h.sealed k o v b) a
theorem iq {w:World} {k j:Nat} {cur:Array Value} {e:TypeId} {fr:Nat × Nat} (h:w.heap[k]? =some (.cells cur e fr)):w.cell? ⟨k,j,none⟩=cur.toList[j]? :=by
 rw [cell_of_row w k j cur e fr h];simp
theorem eP.get {w:World} {k z j:Nat} {cur:Array Value} {e:TypeId} {u:Value} (h:eP w k z cur e) (a:cur.toList[j]? =some u) (b:z ≠ dw→u.oneCell'=true):bK w k j=some u:=by
 rcases h with ⟨c,h⟩|⟨_,es,clk,h,rfl⟩
 ·exact mg (by rw [iq h];exact a) (b c)
 ·unfold bK;rw [h];simpa using a
theorem dP {a b:IntKind} (h:fA a b=true):a=b:=by cases a<;>cases b<;>first|rfl|(exact absurd h (by decide))
theorem az {a b:Nat} (h:Nat.beq a b=true):a=b:=Nat.eq_of_beq_eq_true h
theorem dK {a b:Nat} (h:Nat.ble a b=true):a≤b:=Nat.le_of_ble_eq_true h
theorem dL {a b:Nat} (h:Nat.blt a b=true):a<b:=by
 have:Nat.ble (a+1) b=true:=h
 exact dK this
theorem Rx {S:ay} {x:AV} {v:Value} (h:PR S x v) (a:jy x=true):v.oneCell'=true:=by
 cases x<;>simp only [PR] at h<;>first
  |(subst h;rfl)
  |(rcases h with ⟨rfl,_⟩|⟨_,_,_,rfl,_⟩<;>rfl)
  |(obtain ⟨_,_,_,rfl,_⟩:=h;rfl)
  |(obtain ⟨_,_,rfl,_⟩:=h;rfl)
  |(obtain ⟨_,rfl,_⟩:=h;first|rfl|exact absurd a (by simp [jy]))
  |(exact absurd a (by simp [jy]))
theorem Fg {g:bD} {m:aF} {S:ay} {x:AV} {v:Value} (h:VR g m S x v) (a:jy x=true):v.oneCell'=true:=by
 cases x<;>simp only [VR] at h<;>first
  | (exact Rx h a)
    |(obtain ⟨_,_,_,⟨_,_,rfl⟩,_⟩:=h;rfl)
  |(obtain ⟨_,_,_,⟨_,_,_,rfl⟩,_⟩:=h;rfl)
  |(obtain ⟨_,_,rfl,_⟩:=h;rfl)
  |(obtain ⟨_,rfl,_⟩:=h;first|rfl|exact absurd a (by simp [jy]))
  |(exact absurd a (by simp [jy]))
end AM
namespace AM
open Go
structure rE (P:Program) (t:Nat) (ti:TI) (i:TypeInfo) (d:TypeDesc) (z:Value):Prop where
 info:P.info? t=some i
 und:P.underlying t=some d
 d_eq:ti.d=gJ P (some d)
 size:ti.size=i.size
 bytes:ti.bytes=i.bytes
 zero:i.zero=some z
 zcells:ti.zero=z.cells.toList.map yU
 zleaf:∀ x ∈ ti.zero,jy x=true
 zsize:z.cells.size=i.size
 lks:ti.lks.length=i.size
 zagg:Uf i d=true
 fld:J7 P d=true
 small:i.size<dw
theorem bJ {P:Program} {ap:AP} (f:dn P ap) {t:Nat} {j:TI} (h:ap.tyAt t=some j):∃ i d z,rE P t j i d z:=by
 have a:=f.ty t j h
 unfold Nr at a
 cases b:P.info? t with
 |none=>simp [b] at a
 | some i=>
  cases c:P.underlying t with
  |none=>simp [b,c] at a
  | some d=>
   simp only [b,c] at a
   split at a
   ·rename_i k
    simp only [Bool.and_eq_true] at k
    obtain ⟨⟨⟨⟨⟨r,l⟩,s⟩,o⟩,p⟩,q⟩:=k
    cases e:i.zero with
    |none=>simp [e] at p
    | some z=>
     cases a
     have n:zN i=z.cells.toList.map yU:=by simp [zN,e]
     refine ⟨i,d,z,b,c,rfl,rfl,rfl,e,n, ?_, ?_,az r,l.1,l.2,dL q⟩
     ·intro x u;exact List.all_eq_true.1 s x u
     ·have:=az o
      rw [n] at this
      simpa using this
   ·cases a
theorem dU {P:Program} {d:TypeDesc} {e:Nat} (h:gJ P (some d)= .slice e):d= .slice e:=by cases d<;>simp [gJ] at h;subst h;rfl
theorem tX {P:Program} {d:TypeDesc} {n e:Nat} (h:gJ P (some d)= .array n e):d= .array n e:=by cases d<;>simp [gJ] at h;obtain ⟨rfl,rfl⟩:=h;rfl
theorem rC {P:Program} {d:TypeDesc} (h:gJ P (some d)= .str):d= .string:=by cases d<;>simp [gJ] at h;rfl
theorem Nq {P:Program} {d:TypeDesc} {k:IntKind} (h:gJ P (some d)= .int k):d= .int k:=by cases d<;>simp [gJ] at h;subst h;rfl
theorem O7 {P:Program} {d:TypeDesc} (h:gJ P (some d)= .bool):d= .bool:=by cases d<;>simp [gJ] at h;rfl
theorem pX {P:Program} {d:TypeDesc} {a:List (Nat × Nat × Nat)} (h:gJ P (some d)= .struct a):
  ∃ fields:Array Field,d= .struct fields∧a=fields.toList.map fun f=>(f.offset,f.type,match P.info? f.type with|some i=>i.size|none=>0):=by
 cases d<;>simp [gJ] at h
 exact ⟨_,rfl,h.symm⟩
theorem zH {P:Program} (d:TypeDesc):CE (gJ P (some d))=d.isRow:=by cases d<;>simp [gJ,CE,TypeDesc.isRow]
theorem Am (S:ay) (v:Value):PR S (CU v) v:=by
 cases v<;>simp only [CU,PR]
 case pointer a=>cases a<;>simp only [PR]
 case map a=>
  cases a with
  |none=>simp [PR]
  |some _=>simp only [PR]
 case slice a n c=>
  split<;>simp only [PR]
theorem DC (S:ay) (v:Value):PR S (yU v) v:=by
 cases v<;>simp only [yU]<;>try exact Am S _
 case agg cs=>
  simp only [PR]
  refine ⟨cs.toList,by simp, ?_⟩
  induction cs.toList with
  |nil=>simp [aZ]
  |cons c r ih=>simp only [List.map_cons,aZ];exact ⟨Am S c,ih⟩
 case tuple vs=>
  split
  ·rename_i h
   simp only [PR]
   exact ⟨[],by rw [← h],by simp [aZ]⟩
  ·simp only [PR]
theorem ql (S:ay):∀ l:List Value,aZ S (l.map yU) l
 | []=>by simp [aZ]
 |v::r=>by simp only [List.map_cons,aZ];exact ⟨DC S v,ql S r⟩
theorem Rz {g:bD} {m:aF} {S:ay} {k:LK} {c:AV} {v:Value} (h:VR g m S c v) (f:chk k c=true):VR g m S (eta k c) v:=by
 cases k<;>cases c<;>simp [chk] at f<;>simp only [eta,AV.toInt,AV.toBool,AV.toStr,AV.slX,AV.slN]<;>try exact h
 ·rw [dP f];exact h
 ·simp only [VR,PR] at h ⊢
  subst h
  exact ⟨none,0,rfl,Nat.le_refl _,.inl ⟨fun _=>trivial,trivial,trivial,rfl⟩⟩
 ·simp only [VR,PR] at h ⊢
  obtain ⟨a,b,e,d,q⟩:=h
  refine ⟨a,b,e,d, ?_⟩
  rcases q with ⟨n,j,l,i⟩|q
  ·exact .inl ⟨fun _=>trivial,j,l,i⟩
  ·exact .inr q
theorem vH {k:LK} {c:AV} (h:chk k c=true):c ≠ .dead:=by intro e;subst e;cases k<;>simp [chk] at h
theorem getD_some {a:List AV} {i:Nat} (h:a.getD i .dead ≠ .dead):a[i]? =some (a.getD i .dead):=by
 rw [List.getD_eq_getElem?_getD] at h ⊢
 cases b:a[i]? with
 |none=>simp [b] at h
 |some x=>simp
theorem yw (b:List AV) (a:Nat):(b.drop a).headD .dead=b.getD a .dead:=by
 rw [List.headD_eq_head?_getD,List.head?_drop,List.getD_eq_getElem?_getD]
theorem Jl (ty:Bool) (b:List AV) (a:Nat):oI ty [] b a= []:=rfl
theorem rq (ty:Bool) (k:LK) (ks:List LK) (b:List AV) (a:Nat):oI ty (k::ks) b a=(match ty with|true=>eta k (b.getD a .dead)|false=>b.getD a .dead)::oI ty ks b (a+1):=by
 show _::EC ty ks (b.drop a).tail=_::EC ty ks (b.drop (a+1))
 rw [List.tail_drop]
 cases ty<;>simp only [yw]
theorem IJ (ty:Bool) (k:LK) (ks:List LK) (b:List AV) (a:Nat):BR ty (k::ks) b a=(match ty with|true=>chk k (b.getD a .dead)|false=>chk .oth (b.getD a .dead))::BR ty ks b (a+1):=by
 show _::JQ ty ks (b.drop a).tail=_::JQ ty ks (b.drop (a+1))
 rw [List.tail_drop]
 cases ty<;>simp only [yw]
theorem kS {g:bD} {m:aF} {S:ay} (ty:Bool) {e:List AV} {vs:List Value} (i:aO g m S e vs):∀ (lks:List LK) (a:Nat),(∀ b ∈ BR ty lks e a,b=true)→
  ∃ us:List Value,us.length=lks.length∧(∀ j u,us[j]? =some u→vs[a+j]? =some u)∧aO g m S (oI ty lks e a) us:=by
 intro lks
 induction lks with
 |nil=>exact fun a _=> ⟨[],rfl,fun _ _ h=>by simp at h,by simp [Jl,aO]⟩
 | cons k ks ih=>
  intro a h
  simp only [IJ,List.mem_cons,forall_eq_or_imp] at h
  obtain ⟨us,l,o,n⟩:=ih (a+1) h.2
  have key:∃ v,vs[a]? =some v∧VR g m S ((oI ty (k::ks) e a).headD .dead) v:=by
   rw [rq]
   cases ty with
   |true=>
    obtain ⟨v,d,c⟩:=mf i a (getD_some (vH h.1))
    exact ⟨v,d,Rz c h.1⟩
   |false=>
    obtain ⟨v,d,c⟩:=mf i a (getD_some (vH h.1))
    exact ⟨v,d,c⟩
  obtain ⟨v,d,c⟩:=key
  rw [rq] at c
  refine ⟨v::us,by simp [l], ?_, ?_⟩
  ·intro j u f
   cases j with
   |zero=>simp at f;subst f;simpa using d
   |succ j=>simp at f;rw [show a+(j+1)=a+1+j from by omega];exact o j u f
  ·simp only [rq,aO];exact ⟨c,n⟩
theorem mJ {P:Program} {w:World} {t:Nat} {h:TI} {i:TypeInfo} {d:TypeDesc} {z:Value} (e:rE P t h i d z) {g:bD} {m:aF} {S:ay} {cs:List AV} {us:List Value} {k a:Nat}
  (hl:us.length=h.lks.length) (hu:∀ j u,us[j]? =some u→w.cell? ⟨k,a+j,none⟩=some u) (hr:aO g m S cs us) {v:AV} (hv:lN h cs=some v):
  ∃ cv,(loadVar t ⟨k,a,none⟩).run P w= .ok cv w∧VR g m S v cv:=by
 unfold lN at hv
 rw [e.d_eq,zH] at hv
 split at hv
 ·rename_i b
  cases hv
  refine ⟨.agg us.toArray,run_loadVar_mid w k a t us d hu e.und b (by simp [e.info,hl,e.lks]), ?_⟩
  simp only [VR];exact ⟨us,rfl,hr⟩
 ·rename_i b
  split at hv
  ·rename_i c
   cases hv
   cases us with
   |nil=>simp [aO] at hr
   | cons u r=>
    simp only [aO] at hr
    refine ⟨u, ?_,hr.1⟩
    have f:(isAgg t).run P w= .ok false w:=by
     unfold isAgg;rw [Sem.run_bind,run_underlying e.und w]
     cases d<;>simp_all [TypeDesc.isRow]
    have l:=hu 0 u rfl
    simp only [Nat.add_zero] at l
    simp [loadVar,f,l]
  ·cases hv
theorem bind_some {α β:Type} {x:Option α} {f:α→Option β} {b:β} (h:x.bind f=some b):∃ a,x=some a∧f a=some b:=by
 cases x with
 |none=>simp at h
 |some a=>exact ⟨a,rfl,h⟩
theorem aH {v b:AV} {bs a:List Bool} {ups:List (Nat × aJ)} (h:aS v bs=some (b,ups,a)):b=v∧ups= []∧a=bs:=by
 unfold aS at h;cases h;exact ⟨rfl,rfl,rfl⟩
section
variable {P:Program} {ap:AP} {g:bD} {m:aF} {S:ay} {w:World}
theorem vS (L:aV ap g m S w) {rd:bD} (J:∀ b B,rd b=some B→g b=some B) {t:Nat} {x:TI} {i:TypeInfo} {d:TypeDesc} {z:Value} (K:rE P t x i d z)
  {p v:AV} {cp:Value} (hp:VR g m S p cp) {ups:List (Nat × aJ)} {bs:List Bool} (h:Em x rd p=some (v,ups,bs)) (hbs:∀ b ∈ bs,b=true):
  ups= []∧∃ cv,(Instr.loadAt t cp).run P w= .ok cv w∧VR g m S v cv:=by
 unfold Em at h
 split at h
 ·rename_i R f
  obtain ⟨Q,l,h⟩:=bind_some h
  obtain ⟨rfl,rfl,rfl⟩:=aH h
  simp only [VR,PR] at hp
  obtain ⟨b,o,vs,rfl,hp,hs⟩:=hp
  obtain ⟨us,A,D,C⟩:=kS (g:=g) (m:=m) true (aX _ hp) x.lks f hbs
  obtain ⟨cv,y,E⟩:=mJ (w:=w) K (k:=b) (a:=o+f) A (fun j u I=>by
   have M:=hs (f+j) u (D j u I);have:=L.one M.1 M.2;rw [Nat.add_assoc];exact this) C l
  exact ⟨rfl,cv,by simpa [Instr.loadAt,Instr.sureAddr] using y,E⟩
 ·rename_i b ver f
  obtain ⟨B,N,h⟩:=bind_some h
  split at h
  ·rename_i c
   obtain ⟨Q,l,h⟩:=bind_some h
   obtain ⟨rfl,rfl,rfl⟩:=aH h
   simp only [VR] at hp
   obtain ⟨B',s,_,_,q⟩:=hp
   have n:=J b B N
   rw [n] at s;cases s
   simp only [Bool.and_eq_true,Bool.not_eq_true'] at c
   have G:B.esz ≠ dw:=fun e=>by rw [e] at c;exact absurd c.2 (by decide)
   have q:=q (az c.1)
   subst q
   obtain ⟨cur,e,vs,rest,F,O,_,H,_⟩:=(L.blk b B n).lies
   have F:=F.cells G
   obtain ⟨us,A,D,C⟩:=kS _ H x.lks f hbs
   obtain ⟨cv,y,E⟩:=mJ (w:=w) K (k:=(m b).1) (a:=f) A (fun j u I=>by
    have r:=D j u I
    rw [iq F,O,List.getElem?_append_left (List.getElem?_eq_some_iff.1 r).1]
    exact r) C l
   exact ⟨rfl,cv,by simpa [Instr.loadAt,Instr.sureAddr] using y,E⟩
  ·cases h
 ·cases h
theorem yX {p d:AV} {f:Value} (hp:VR g m S p f) {o:Nat} (h:LG p o=some d):∃ a:Addr,f= .pointer (some a)∧VR g m S d (.pointer (some (a.add o))):=by
 unfold LG at h
 split at h<;>cases h
 ·rename_i b ver c
  simp only [VR] at hp
  obtain ⟨B,j,r,⟨k,n,rfl⟩,q⟩:=hp
  refine ⟨_,rfl, ?_⟩
  simp only [VR]
  refine ⟨B,j,r,⟨k,n+o,by rw [Addr.add_mid]⟩,fun e=> ?_⟩
  have q:=q e
  simp only [Value.pointer.injEq,Option.some.injEq,Addr.mk.injEq] at q
  obtain ⟨i,l,_⟩:=q
  rw [Addr.add_mid,i,l]
 ·rename_i s c
  simp only [VR,PR] at hp
  obtain ⟨b,k,vs,rfl,hp,hs⟩:=hp
  refine ⟨_,rfl, ?_⟩
  simp only [VR,PR]
  exact ⟨b,k,vs,by rw [Addr.add_mid,Nat.add_assoc],hp,hs⟩
end
end AM
namespace AM
open Go
section
variable {P:Program} {ap:AP} {g:bD} {m:aF} {S:ay} {w:World}
theorem bF {b:Bool} {l:List Bool} (h:∀ x ∈ b::l,x=true):b=true∧∀ x ∈ l,x=true:=⟨h b (by simp),fun x a=>h x (by simp [a])⟩
theorem gZ {t:Nat} {b:TI} {i:TypeInfo} {d:TypeDesc} {z:Value} (a:rE P t b i d z) (w:World):(Go.sizeOf t).run P w= .ok b.size w:=by
 simp [Go.sizeOf,typeInfo,a.info,a.size]
theorem vM {x:AV} {b:Value} (a:VR g m S x b) {n:Int} (h:Hq x=some n):∃ k,b= .int k n:=by
 cases x<;>simp [Hq] at h
 subst h
 simp only [VR,PR] at a
 exact ⟨_,a⟩
theorem wL {t:Nat} {l:TI} {i:TypeInfo} {d:TypeDesc} {z:Value} (r:rE P t l i d z) {q:List (Nat × Nat × Nat)} (y:l.d= .struct q) {f o B s:Nat} (x:q[f]? =some (o,B,s)) (b:Nat.blt 0 s=true)
  {p v:AV} {cp:Value} (hp:VR g m S p cp) (h:LG p o=some v):∃ cv,(Instr.fieldAt t cp f).run P w= .ok cv w∧VR g m S v cv:=by
 rw [r.d_eq] at y
 obtain ⟨fields,rfl,rfl⟩:=pX y
 simp only [List.getElem?_map,Option.map_eq_some_iff] at x
 obtain ⟨n,e,u⟩:=x
 simp only [Prod.mk.injEq] at u
 obtain ⟨rfl,rfl,hs⟩:=u
 obtain ⟨a,rfl,h⟩:=yX hp h
 refine ⟨_, ?_,h⟩
 have c:fields[f]? =some n:=by simpa using e
 cases k:P.info? n.type with
 |none=>rw [k] at hs;simp only at hs;subst hs;exact absurd (dL b) (by omega)
 |some j=>
  rw [k] at hs
  have A:j.size ≠ 0:=by have:=dL b;simp only at hs;omega
  simp [Instr.fieldAt,run_underlying r.und,c,Instr.sureAddr,fieldPlace,Go.sizeOf,typeInfo,k,A]
theorem jR {i:Int} {n:Nat} (h0:decide (0≤i)=true) (c:decide (i<n)=true):0≤i∧i<n∧i.toNat<n:=by
 have a:=of_decide_eq_true h0
 have b:=of_decide_eq_true c
 omega
theorem uw (D:dn P ap) {rd:bD} (H:∀ b B,rd b=some B→g b=some B) {t:Nat} {L:TI} {i:TypeInfo} {d:TypeDesc} {z:Value} (y:rE P t L i d z)
  {x ix v:AV} {cx ci:Value} (hx:VR g m S x cx) (hi:VR g m S ix ci) {ups:List (Nat × aJ)} {bs:List Bool} (h:qV ap L rd x ix=some (v,ups,bs)) (hbs:∀ b ∈ bs,b=true):
  ups= []∧∃ cv,(Instr.indexAt t cx ci).run P w= .ok cv w∧VR g m S v cv:=by
 unfold qV at h
 have r:=bind_some h;clear h;obtain ⟨n,U,h⟩:=r
 obtain ⟨k,rfl⟩:=vM hi U
 split at h
 ·rename_i e l
  have r:=bind_some h;clear h;obtain ⟨F,c,h⟩:=r
  obtain ⟨Q,M,V,c⟩:=bJ D c
  rw [y.d_eq] at l
  have l:=dU l
  subst l
  split at h
  ·rename_i X s nn
   obtain ⟨rfl,rfl,rfl⟩:=aH h
   obtain ⟨A,f⟩:=bF hbs
   obtain ⟨f,_⟩:=bF f
   obtain ⟨h0,u,K⟩:=jR A f
   simp only [VR,PR] at hx
   obtain ⟨a,O,rfl,T,q⟩:=hx
   rcases q with ⟨_,_,q,_⟩|⟨b,o,vs,rfl,hp,hs⟩
   ·subst q;omega
   ·refine ⟨rfl,.pointer (some ⟨b,o+n.toNat*F.size,none⟩), ?_, ?_⟩
    ·simp [Instr.indexAt,asIntOf,run_underlying y.und,h0,u,gZ c,Addr.add_mid]
    ·simp only [VR,PR];exact ⟨b,o,vs,rfl,hp,hs⟩
  ·rename_i b ver j s
   have r:=bind_some h;clear h;obtain ⟨B,N,h⟩:=r
   split at h
   ·rename_i E
    simp only [Bool.and_eq_true] at E
    obtain ⟨rfl,rfl,rfl⟩:=aH h
    obtain ⟨A,f⟩:=bF hbs
    obtain ⟨f,_⟩:=bF f
    obtain ⟨h0,u,K⟩:=jR A f
    simp only [VR] at hx
    obtain ⟨B',C,J,_,q⟩:=hx
    have I:=H b B N
    rw [I] at C;cases C
    obtain ⟨o,rfl,Y,R,Z⟩:=q (az E.1)
    have W:=R (by omega)
    have G:=az E.2
    refine ⟨rfl,.pointer (some ⟨(m b).1,(j+n.toNat)*F.size,none⟩), ?_, ?_⟩
    ·rw [W,G]
     simp [Instr.indexAt,asIntOf,run_underlying y.und,h0,u,gZ c,Addr.add_mid,Nat.add_mul]
    ·simp only [VR];exact ⟨B,I,by have:=az E.1;omega,⟨_,_,rfl⟩,fun _=>trivial⟩
   ·cases h
  ·cases h
 ·rename_i s e l
  have r:=bind_some h;clear h;obtain ⟨F,c,h⟩:=r
  obtain ⟨Q,M,V,c⟩:=bJ D c
  have r:=bind_some h;clear h;obtain ⟨p,hp,h⟩:=r
  obtain ⟨rfl,rfl,rfl⟩:=aH h
  rw [y.d_eq] at l
  have l:=tX l
  subst l
  obtain ⟨A,f⟩:=bF hbs
  obtain ⟨f,_⟩:=bF f
  obtain ⟨h0,u,K⟩:=jR A f
  obtain ⟨a,rfl,J⟩:=yX hx hp
  refine ⟨rfl,_, ?_,J⟩
  simp [Instr.indexAt,asIntOf,run_underlying y.und,h0,u,gZ c,Instr.sureAddr]
 ·cases h
theorem zf {t:Nat} {k:TI} {i:TypeInfo} {d:TypeDesc} {z:Value} (h:rE P t k i d z) {vs us:List Value} {cs:List AV} {b:Nat}
  (hl:us.length=k.lks.length) (hu:∀ j u,us[j]? =some u→vs[b+j]? =some u) (hr:aO g m S cs us) {v:AV} (hv:lN k cs=some v):
  ∃ cv,(part t vs.toArray b).run P w= .ok cv w∧VR g m S v cv:=by
 have f:(isAgg t).run P w= .ok d.isRow w:=by
  unfold isAgg;rw [Sem.run_bind,run_underlying h.und w]
  cases d<;>simp [TypeDesc.isRow]
 unfold lN at hv
 rw [h.d_eq,zH] at hv
 split at hv
 ·rename_i a
  cases hv
  have p:(vs.drop b).take k.size=us:=by
   apply List.ext_getElem?
   intro j
   rw [List.getElem?_take,List.getElem?_drop]
   have n:k.size=us.length:=by rw [hl,h.lks,h.size]
   split
   ·rename_i o
    have e:j<us.length:=by omega
    have:=hu j us[j] (List.getElem?_eq_getElem e)
    rw [this,List.getElem?_eq_getElem e]
   ·rename_i o
    rw [List.getElem?_eq_none (by omega)]
  refine ⟨.agg us.toArray, ?_, ?_⟩
  ·simp [part,f,a,gZ h,p]
  ·simp only [VR];exact ⟨us,rfl,hr⟩
 ·rename_i a
  split at hv
  ·rename_i c
   cases hv
   cases us with
   |nil=>simp [aO] at hr
   |cons u r=>
    simp only [aO] at hr
    refine ⟨u, ?_,hr.1⟩
    have l:=hu 0 u rfl
    simp only [Nat.add_zero] at l
    have a:d.isRow=false:=by simpa using a
    simp [part,f,a,l]
  ·cases hv
theorem Cc (n:dn P ap) {t:Nat} {q:TI} {i:TypeInfo} {d:TypeDesc} {z:Value} (p:rE P t q i d z) {x v:AV} {s:Value} (j:VR g m S x s) {f:Nat} {ups:List (Nat × aJ)} {bs:List Bool}
  (h:FM ap q x f=some (v,ups,bs)) (hbs:∀ b ∈ bs,b=true):ups= []∧∃ cv,(Instr.field t s f).run P w= .ok cv w∧VR g m S v cv:=by
 unfold FM at h
 split at h
 ·rename_i H cs A
  have c:=bind_some h;clear h;obtain ⟨⟨o,M,J⟩,y,h⟩:=c
  have c:=bind_some h;clear h;obtain ⟨tf,a,h⟩:=c
  have c:=bind_some h;clear h;obtain ⟨K,l,h⟩:=c
  obtain ⟨rfl,rfl,rfl⟩:=aH h
  obtain ⟨I,G,L,a⟩:=bJ n a
  rw [p.d_eq] at A
  obtain ⟨fields,rfl,rfl⟩:=pX A
  simp only [List.getElem?_map,Option.map_eq_some_iff] at y
  obtain ⟨r,k,u⟩:=y
  simp only [Prod.mk.injEq] at u
  obtain ⟨rfl,rfl,hs⟩:=u
  simp only [VR] at j
  obtain ⟨vs,rfl,j⟩:=j
  obtain ⟨us,C,E,D⟩:=kS false j tf.lks r.offset hbs
  obtain ⟨cv,B,F⟩:=zf (w:=w) a C E D l
  have e:fields[f]? =some r:=by simpa using k
  refine ⟨rfl,cv, ?_,F⟩
  simp [Instr.field,run_underlying p.und,e,asAgg,B]
 ·cases h
theorem J9 (s:List UInt8) (i:Nat) (h:i<s.length):(⟨s.toArray⟩:ByteArray)[i]? =some (s.getD i 0):=by
 have hs:i<(⟨s.toArray⟩:ByteArray).size:=by simpa [ByteArray.size] using h
 rw [getElem?_pos _ i hs]
 simp only [ByteArray.getElem_eq_getElem_data,List.getElem_toArray]
 rw [List.getD_eq_getElem?_getD,List.getElem?_eq_getElem h]
 rfl
theorem CB (y:dn P ap) {t:Nat} {G:TI} {i:TypeInfo} {d:TypeDesc} {z:Value} (o:rE P t G i d z) {x E v:AV} {C F:Value} (j:VR g m S x C) (N:VR g m S E F) {ups:List (Nat × aJ)} {bs:List Bool}
  (h:FT ap G x E=some (v,ups,bs)) (hbs:∀ b ∈ bs,b=true):ups= []∧∃ cv,(Instr.index t C F).run P w= .ok cv w∧VR g m S v cv:=by
 unfold FT at h
 have l:=bind_some h;clear h;obtain ⟨n,M,h⟩:=l
 obtain ⟨k,rfl⟩:=vM N M
 split at h
 ·rename_i s c
  obtain ⟨rfl,rfl,rfl⟩:=aH h
  obtain ⟨r,f⟩:=bF hbs
  obtain ⟨f,_⟩:=bF f
  obtain ⟨h0,A,B⟩:=jR r f
  rw [o.d_eq] at c
  have c:=rC c
  subst c
  simp only [VR,PR] at j
  subst j
  refine ⟨rfl,.int .u8 (s.getD n.toNat 0).toNat, ?_,by simp only [VR,PR]⟩
  simp [Instr.index,asIntOf,run_underlying o.und,h0,J9 s n.toNat B]
 ·rename_i H e cs c
  have l:=bind_some h;clear h;obtain ⟨D,a,h⟩:=l
  have l:=bind_some h;clear h;obtain ⟨R,q,h⟩:=l
  obtain ⟨rfl,rfl,rfl⟩:=aH h
  obtain ⟨Q,O,T,a⟩:=bJ y a
  obtain ⟨r,f⟩:=bF hbs
  obtain ⟨f,J⟩:=bF f
  obtain ⟨h0,A,B⟩:=jR r f
  rw [o.d_eq] at c
  have c:=tX c
  subst c
  simp only [VR] at j
  obtain ⟨vs,rfl,j⟩:=j
  obtain ⟨us,I,L,K⟩:=kS true j D.lks (n.toNat*D.size) J
  obtain ⟨cv,p,u⟩:=zf (w:=w) a I L K q
  refine ⟨rfl,cv, ?_,u⟩
  simp [Instr.index,asIntOf,run_underlying o.und,h0,A,gZ a,p]
 ·cases h
end
end AM
namespace AM
open Go
section
variable {P:Program} {ap:AP} {g:bD} {m:aF} {S:ay} {w:World}
def xm (g:bD) (m:aF) (S:ay) (x:Option AV) (c:Option Value):Prop:=
 match x,c with
 |none,none=>True
 |some x,some c=>VR g m S x c
 |_,_=>False
theorem dY {x:Option AV} {c:Option Value} (h:xm g m S x c) {d n:Int} (a:jT x d=some n):(x=none∧c=none∧n=d)∨∃ k,c=some (.int k n):=by
 cases x with
 |none=>cases c with
  |none=>simp [jT] at a;exact .inl ⟨rfl,rfl,a.symm⟩
  |some c=>simp [xm] at h
 | some x=>cases c with
  |none=>simp [xm] at h
  |some c=>
   cases x<;>simp [jT] at a
   subst a
   simp only [xm,VR,PR] at h
   subst h
   exact .inr ⟨_,rfl⟩
theorem mZ (P:Program) (w:World) (c:Bool) (a b:Nat) (e f:Option Value) (l h:Int)
  (hl:(e=none∧l=0)∨∃ k,e=some (.int k l)) (j:(f=none∧h=a)∨∃ k,f=some (.int k h)) (h0:0≤l) (h1:l≤h) (h2:h≤b):
  (Instr.sliceBounds c a b e f none).run P w= .ok (l.toNat,h.toNat,b) w:=by
 have i:0≤h:=by omega
 rcases hl with ⟨rfl,rfl⟩|⟨k,rfl⟩<;>rcases j with ⟨rfl,rfl⟩|⟨o,rfl⟩
 ·simp [Instr.sliceBounds]
 ·simp [Instr.sliceBounds,Instr.sliceBound,asIntOf,h2,i]
 ·have d:l≤(a:Int):=h1
  simp [Instr.sliceBounds,Instr.sliceBound,asIntOf,h0,d]
 ·simp [Instr.sliceBounds,Instr.sliceBound,asIntOf,h0,h2,i]
  intro n;omega
theorem DW (s:List UInt8) (l h:Nat):(⟨s.toArray⟩:ByteArray).extract l h=⟨((s.take h).drop l).toArray⟩:=by
 apply ByteArray.ext
 rw [ByteArray.data_extract]
 apply Array.ext'
 simp [List.extract_eq_take_drop,List.drop_take]
theorem tV (s:List UInt8):(⟨s.toArray⟩:ByteArray).size=s.length:=by simp [ByteArray.size]
theorem gz.drop {b o:Nat} {vs:List Value} (h:gz S b o vs) (n:Nat):gz S b (o+n) (vs.drop n):=by
 intro j u a
 rw [List.getElem?_drop] at a
 rw [Nat.add_assoc]
 exact h _ _ a
theorem gz.take {b o:Nat} {vs:List Value} (h:gz S b o vs) (n:Nat):gz S b o (vs.take n):=by
 intro j u a
 rw [List.getElem?_take] at a
 split at a
 ·exact h _ _ a
 ·cases a
theorem RF {a b c:Bool} (h:∀ x ∈ [a,b,c],x=true):a=true∧b=true∧c=true:=⟨h a (by simp),h b (by simp),h c (by simp)⟩
theorem zW {α:Type} (a:List α) (n:Nat):(a.take n).drop n= []:=by
 apply List.drop_eq_nil_of_le;simp;omega
theorem Dk (I:dn P ap) {rd:bD} (M:∀ b B,rd b=some B→g b=some B) {t:Nat} {T:TI} {i:TypeInfo} {d:TypeDesc} {z:Value} (E:rE P t T i d z)
  {x v:AV} {cx:Value} (hx:VR g m S x cx) {lo hi mx:Option AV} {clo chi cmx:Option Value} (hlo:xm g m S lo clo) (hhi:xm g m S hi chi) (hmx:xm g m S mx cmx)
  {ups:List (Nat × aJ)} {bs:List Bool} (h:Gt ap T rd x lo hi mx=some (v,ups,bs)) (hbs:∀ b ∈ bs,b=true):
  ups= []∧∃ cv,(Instr.sliceAt t cx clo chi cmx).run P w= .ok cv w∧VR g m S v cv:=by
 have p:mx=none→cmx=none:=by intro e;subst e;cases cmx<;>simp [xm] at hmx ⊢
 unfold Gt at h
 split at h
 ·rename_i s k
  have f:=bind_some h;clear h;obtain ⟨l,G,h⟩:=f
  have f:=bind_some h;clear h;obtain ⟨u,H,h⟩:=f
  obtain ⟨rfl,rfl,rfl⟩:=aH h
  obtain ⟨r,y,D⟩:=RF hbs
  have r:=of_decide_eq_true r
  have y:=of_decide_eq_true y
  have D:=of_decide_eq_true D
  rw [E.d_eq] at k
  have k:=rC k
  subst k
  simp only [VR,PR] at hx
  subst hx
  rw [p rfl]
  have F:=mZ P w false s.length s.length clo chi l u ((dY hlo G).imp (fun h=> ⟨h.2.1,h.2.2⟩) id) ((dY hhi H).imp (fun h=> ⟨h.2.1,h.2.2⟩) id) r y D
  refine ⟨rfl,.string ⟨((s.take u.toNat).drop l.toNat).toArray⟩, ?_,by simp only [VR,PR]⟩
  rw [← DW]
  simp [Instr.sliceAt,Instr.slice,run_underlying E.und,tV,F]
 ·rename_i e W n nn k
  have f:=bind_some h;clear h;obtain ⟨A,c,h⟩:=f
  have f:=bind_some h;clear h;obtain ⟨l,G,h⟩:=f
  have f:=bind_some h;clear h;obtain ⟨u,H,h⟩:=f
  obtain ⟨rfl,rfl,rfl⟩:=aH h
  obtain ⟨Q,N,U,c⟩:=bJ I c
  obtain ⟨r,y,D⟩:=RF hbs
  have r:=of_decide_eq_true r
  have y:=of_decide_eq_true y
  have D:=of_decide_eq_true D
  rw [E.d_eq] at k
  have k:=dU k
  subst k
  simp only [VR,PR] at hx
  obtain ⟨a,C,rfl,hle,q⟩:=hx
  rw [p rfl]
  have F:=mZ P w true n C clo chi l u ((dY hlo G).imp (fun h=> ⟨h.2.1,h.2.2⟩) id) ((dY hhi H).imp (fun h=> ⟨h.2.1,h.2.2⟩) id) r y (by omega)
  refine ⟨rfl,.slice (if C=l.toNat then a else a.map (·.add (l.toNat*A.size))) (u.toNat - l.toNat) (C - l.toNat), ?_, ?_⟩
  ·simp [Instr.sliceAt,Instr.slice,run_underlying E.und,F,gZ c]
  ·simp only [VR,PR]
   refine ⟨_,_,rfl,by omega, ?_⟩
   rcases q with ⟨O,rfl,rfl,rfl⟩|⟨b,o,vs,rfl,hp,hs⟩
   ·refine .inl ⟨fun h=>O ?_,by simp,by omega,by omega⟩
    split at h
    ·exact h
    ·simpa using h
   ·refine .inr ?_
    by_cases J:C=l.toNat
    ·refine ⟨b,o,[],by rw [if_pos J], ?_,fun j u h=>by simp at h⟩
     have e:(W.take (u.toNat*A.size)).drop (l.toNat*A.size)= []:=by
      have:u.toNat=l.toNat:=by omega
      rw [this,zW]
     rw [e];simp [aZ]
    ·exact ⟨b,o+l.toNat*A.size,(vs.take (u.toNat*A.size)).drop (l.toNat*A.size),by rw [if_neg J];simp [Addr.add_mid],lC _ (h_ _ hp),(hs.take _).drop _⟩
 ·rename_i e b ver j n k
  have f:=bind_some h;clear h;obtain ⟨A,c,h⟩:=f
  have f:=bind_some h;clear h;obtain ⟨B,X,h⟩:=f
  have f:=bind_some h;clear h;obtain ⟨l,G,h⟩:=f
  have f:=bind_some h;clear h;obtain ⟨u,H,h⟩:=f
  split at h
  ·rename_i J
   simp only [Bool.and_eq_true] at J
   obtain ⟨rfl,rfl,rfl⟩:=aH h
   obtain ⟨Q,N,U,c⟩:=bJ I c
   obtain ⟨r,y,D⟩:=RF hbs
   have r:=of_decide_eq_true r
   have y:=of_decide_eq_true y
   have D:=of_decide_eq_true D
   rw [E.d_eq] at k
   have k:=dU k
   subst k
   simp only [VR] at hx
   obtain ⟨B',K,Z,_,q⟩:=hx
   have R:=M b B X
   rw [R] at K;cases K
   obtain ⟨o,rfl,O,Y,V⟩:=q (az J.1)
   have L:=az J.2
   rw [p rfl]
   have F:=mZ P w true n ((m b).2 - j) clo chi l u ((dY hlo G).imp (fun h=> ⟨h.2.1,h.2.2⟩) id) ((dY hhi H).imp (fun h=> ⟨h.2.1,h.2.2⟩) id) r y (by omega)
   refine ⟨rfl,.slice (if (m b).2 - j=l.toNat then some ⟨(m b).1,o,none⟩ else some ⟨(m b).1,o+l.toNat*A.size,none⟩) (u.toNat - l.toNat) ((m b).2 - j - l.toNat), ?_, ?_⟩
   ·simp [Instr.sliceAt,Instr.slice,run_underlying E.und,F,gZ c,Addr.add_mid]
   ·simp only [VR]
    refine ⟨B,R,Z,(by split<;>exact ⟨_,_,_,rfl⟩),fun _=> ?_⟩
    by_cases hcl:(m b).2 - j=l.toNat
    ·exact ⟨o,by rw [if_pos hcl];congr 1;omega,by omega,fun h=>by omega,V⟩
    ·refine ⟨o+l.toNat*A.size,by rw [if_neg hcl];congr 1;omega,by omega,fun h=> ?_,V⟩
     rw [Y (by omega),L,Nat.add_mul]
  ·cases h
 ·rename_i e k
  have f:=bind_some h;clear h;obtain ⟨A,c,h⟩:=f
  have f:=bind_some h;clear h;obtain ⟨l,G,h⟩:=f
  have f:=bind_some h;clear h;obtain ⟨u,H,h⟩:=f
  obtain ⟨rfl,rfl,rfl⟩:=aH h
  obtain ⟨Q,N,U,c⟩:=bJ I c
  have r:=of_decide_eq_true (hbs (decide (l=0)) (by simp))
  have y:=of_decide_eq_true (hbs (decide (u=0)) (by simp))
  subst r
  subst y
  rw [E.d_eq] at k
  have k:=dU k
  subst k
  simp only [VR,PR] at hx
  subst hx
  rw [p rfl]
  have F:=mZ P w true 0 0 clo chi 0 0 ((dY hlo G).imp (fun h=> ⟨h.2.1,h.2.2⟩) id) ((dY hhi H).imp (fun h=> ⟨h.2.1,h.2.2⟩) id) (by omega) (by omega) (by omega)
  refine ⟨rfl,.slice none 0 0, ?_,by simp only [VR,PR]⟩
  simp at F
  simp [Instr.sliceAt,Instr.slice,run_underlying E.und,F,gZ c]
 ·cases h
theorem FX {x v:AV} {p:Value} (f:VR g m S x p) {t:Nat} {o:TI} {i:TypeInfo} {d:TypeDesc} {z:Value} (k:rE P t o i d z)
  {ups:List (Nat × aJ)} {bs:List Bool} (h:Tc o.d x=some (v,ups,bs)) (ats:Array TypeId) (hat:ats[0]? =some t) (args:Array Value) (ha:args[0]? =some p) (ty:Nat):
  ups= []∧∃ cv,(Builtin.len_ ats ty args).run P w= .ok cv w∧VR g m S v cv:=by
 unfold Tc at h
 rw [k.d_eq] at h
 split at h
 ·rename_i n e c
  obtain ⟨rfl,rfl,rfl⟩:=aH h
  have c:=tX c
  subst c
  exact ⟨rfl,.int .i64 n,by simp [Builtin.len_,hat,ha,run_underlying k.und,goInt],by simp only [VR,PR]⟩
 ·rename_i s c
  obtain ⟨rfl,rfl,rfl⟩:=aH h
  have c:=rC c
  subst c
  simp only [VR,PR] at f
  subst f
  exact ⟨rfl,.int .i64 s.length,by simp [Builtin.len_,hat,ha,run_underlying k.und,goInt,tV],by simp only [VR,PR]⟩
 ·rename_i e q n r c
  obtain ⟨rfl,rfl,rfl⟩:=aH h
  have c:=dU c
  subst c
  simp only [VR,PR] at f
  obtain ⟨a,l,rfl,_⟩:=f
  exact ⟨rfl,.int .i64 n,by simp [Builtin.len_,hat,ha,run_underlying k.und,goInt],by simp only [VR,PR]⟩
 ·rename_i e b ver j n c
  obtain ⟨rfl,rfl,rfl⟩:=aH h
  have c:=dU c
  subst c
  simp only [VR] at f
  obtain ⟨_,_,_,⟨_,_,l,rfl⟩,_⟩:=f
  exact ⟨rfl,.int .i64 n,by simp [Builtin.len_,hat,ha,run_underlying k.und,goInt],by simp only [VR,PR]⟩
 ·rename_i e c
  obtain ⟨rfl,rfl,rfl⟩:=aH h
  have c:=dU c
  subst c
  simp only [VR,PR] at f
  subst f
  exact ⟨rfl,.int .i64 0,by simp [Builtin.len_,hat,ha,run_underlying k.und,goInt],by simp only [VR,PR]⟩
 ·cases h
theorem rD (s:List UInt8):(⟨s.toArray⟩:ByteArray).toList=s:=by rw [ByteArray.toList_eq]
theorem rQ:∀ a b:List UInt8,Op.bytesLess a b=jw a b
 |_,[]=>by simp [Op.bytesLess,jw]
 | [],_::_=>by simp [Op.bytesLess,jw]
 |a::x,b::y=>by simp only [Op.bytesLess,jw,rQ x y]
def nJ:LK→Value→Value→Option Bool
 | .int k,.int k1 a,.int k2 b=>match fA k k1 && fA k k2 with|true=>some (a==b)|false=>none
 | .bool,.bool a,.bool b=>some (a==b)
 | .str,.string a,.string b=>some (a.toList==b.toList)
 |_,_,_=>none
def bY:List LK→List Value→List Value→Option Bool
 | [],[],[]=>some true
 |k::ks,a::as,b::bs=>(nJ k a b).bind fun c=>(bY ks as bs).map fun d=>c && d
 |_,_,_=>none
theorem mF:∀ (l e:List LK) (f i:List Value) (r:Bool),bY (l++e) f i=some r→
  ∃ a b,bY l (f.take l.length) (i.take l.length)=some a∧bY e (f.drop l.length) (i.drop l.length)=some b∧r=(a && b)
 | [],e,f,i,r,h=> ⟨true,r,by simp [bY],by simpa using h,by simp⟩
 |k::l,e,[],_,r,h=>by simp [bY] at h
 |k::l,e,_::_,[],r,h=>by simp [bY] at h
 |k::l,e,x::f,y::i,r,h=>by
  simp only [List.cons_append,bY] at h
  obtain ⟨c,j,h⟩:=bind_some h
  rw [Option.map_eq_some_iff] at h
  obtain ⟨d,p,rfl⟩:=h
  obtain ⟨a,b,o,n,rfl⟩:=mF l e f i d p
  exact ⟨c && a,b,by simp [bY,j,o],by simpa using n,by simp [Bool.and_assoc]⟩
theorem kW:∀ (l:List LK) (a b:List Value) (r:Bool),bY l a b=some r→a.length=l.length∧b.length=l.length
 | [],[],[],_,_=> ⟨rfl,rfl⟩
 |k::l,x::a,y::b,r,h=>by
  simp only [bY] at h
  obtain ⟨c,_,h⟩:=bind_some h
  rw [Option.map_eq_some_iff] at h
  obtain ⟨d,e,_⟩:=h
  have:=kW l a b d e
  simp [this.1,this.2]
 | [],_::_,_,_,h=>by simp [bY] at h
 | [],[],_::_,_,h=>by simp [bY] at h
 |_::_,[],_,_,h=>by simp [bY] at h
 |_::_,_::_,[],_,h=>by simp [bY] at h
def oP (P:Program) (t:TypeId) (xs:List Value):Value:=match P.underlying t with
 |some (.struct _)=> .agg xs.toArray
 |_=>xs.headD undef
def Pm (P:Program) (n:Nat) (t:TypeId) (lks:List LK):Prop:=
 ∀ (d:Nat) (w:World) (xs ys:List Value) (r:Bool),n≤d→bY lks xs ys=some r→(Op.equalIn d t (oP P t xs) (oP P t ys)).run P w= .ok r w
theorem oM {t:TypeId} {lks:List LK} {n:Nat} (f:fV P n t=some lks) {i:TypeInfo} (o:P.info? t=some i) (hs:i.size=lks.length) (c:List Value) (a:Nat) (k:a+lks.length≤c.length) (w:World):
  (part t c.toArray a).run P w= .ok (oP P t ((c.drop a).take lks.length)) w:=by
 cases n with
 |zero=>simp [fV] at f
 | succ n=>
  unfold fV at f
  cases h:P.underlying t with
  |none=>simp [h] at f
  | some d=>
   have b:(isAgg t).run P w= .ok d.isRow w:=by
    unfold isAgg;rw [Sem.run_bind,run_underlying h w]
    cases d<;>simp [TypeDesc.isRow]
   cases d<;>simp only [h] at f<;>try cases f
   case struct fs=>
    simp only [TypeDesc.isRow] at b
    simp [part,b,Go.sizeOf,typeInfo,o,hs,oP,h]
   all_goals
    simp only [TypeDesc.isRow] at b
    simp only [List.length_cons,List.length_nil,Nat.zero_add] at k
    have l:c[a]? =some (c[a]'(by omega)):=List.getElem?_eq_getElem (by omega)
    simp only [part,Sem.run_bind,b,Result.andThen_ok,Bool.false_eq_true,if_false,oP,h]
    have e:((c.drop a).take [LK.str].length).headD undef=c[a]'(by omega):=by
     rw [List.headD_eq_head?_getD,List.head?_take,List.head?_drop,l];simp
    have j:(c.toArray)[a]? =some (c[a]'(by omega)):=by simp
    rw [j]
    first|exact congrArg (fun v=>Result.ok v w) e.symm|(simp only [List.length_cons,List.length_nil] at e ⊢;exact congrArg (fun v=>Result.ok v w) e.symm)
theorem nN {n:Nat} (u:∀ t lks,fV P n t=some lks→Pm P n t lks):∀ (fs:List Field) (off:Nat) (lks:List LK),rY P (fV P n) fs off=some lks→
  ∀ (d:Nat) (w:World) (xs ys:List Value) (r:Bool),n≤d→xs.length=off+lks.length→ys.length=off+lks.length→bY lks (xs.drop off) (ys.drop off)=some r→
   (Op.eqFields d xs.toArray ys.toArray fs).run P w= .ok r w
 | [],off,lks,hc,d,w,xs,ys,r,hd,hx,hy,h=>by
  simp [rY] at hc;subst hc
  have C:xs.drop off= []:=List.drop_eq_nil_of_le (by simp at hx;omega)
  have z:ys.drop off= []:=List.drop_eq_nil_of_le (by simp at hy;omega)
  rw [C,z] at h
  simp [bY] at h;subst h
  simp [Op.eqFields]
 | f ::fs,off,lks,hc,d,w,xs,ys,r,hd,hx,hy,h=>by
  simp only [rY] at hc
  cases j:fV P n f.type with
  |none=>simp [j] at hc
  | some l=>
   simp only [j] at hc
   split at hc
   ·rename_i hcond
    simp only [Bool.and_eq_true,Bool.not_eq_true'] at hcond
    obtain ⟨⟨s,p⟩,c⟩:=hcond
    cases q:rY P (fV P n) fs (off+l.length) with
    |none=>simp [q] at hc
    | some l'=>
     simp only [q] at hc
     cases hc
     cases k:P.info? f.type with
     |none=>simp [k] at c
     |some i=>
      simp only [k] at c
      have c:=az c
      have p:=az p
      have o:f.name ≠ "_" :=by intro e;rw [e] at s;exact absurd s (by decide)
      simp only [List.length_append] at hx hy
      obtain ⟨a,b,y,v,rfl⟩:=mF l l' _ _ r h
      have A:=oM j k c xs off (by omega) w
      have D:=oM j k c ys off (by omega) w
      have x:=u f.type l j d w _ _ a hd y
      have B:=nN u fs (off+l.length) l' q d w xs ys b hd (by omega) (by omega) (by simpa [List.drop_drop,Nat.add_comm] using v)
      simp only [Op.eqFields,o,ne_eq,not_false_eq_true,if_true,Sem.run_bind,p,A,D,x,Result.andThen_ok]
      cases a
      ·simp
      ·simpa using B
   ·cases hc
theorem xM : ∀ (n:Nat) (t:TypeId) (lks:List LK),fV P n t=some lks→Pm P n t lks
  |0,_,_,h=>by simp [fV] at h
  | n + 1,t,lks,h=>by
    intro d w o q r s b
    obtain ⟨d,rfl⟩:∃ k,d=k+1:=⟨d - 1,by omega⟩
    have j:=kW _ _ _ _ b
    unfold fV at h
    cases a:P.underlying t with
    |none=>simp [a] at h
    | some ds=>
      cases ds<;>simp only [a] at h<;>try cases h
      case struct fs=>
        split at h
        · cases h
        · rename_i l
          have i:P.fieldsOf t=fs:=by simp [Program.fieldsOf,a]
          have e:=run_equalIn_struct (P:=P) w d t o.toArray q.toArray (by rw [i];exact a) l
          simp only [oP,a]
          rw [e,i]
          exact nN (xM n) fs.toList 0 lks h d w o q r (by omega) (by simp [j.1]) (by simp [j.2]) (by simpa using b)
      all_goals
        simp only [List.length_cons,List.length_nil,Nat.zero_add] at j
        match o,q,j,b with
        | [x], [y],_,b=>
          simp only [bY,Option.map_some,Bool.and_true] at b
          obtain ⟨c,f,b⟩:=bind_some b
          cases b
          simp only [oP,a,List.headD_cons]
          cases x<;>cases y<;>simp [nJ] at f
          first
            | (split at f
               · rename_i p
                 simp only [Bool.and_eq_true] at p
                 obtain rfl:=dP p.1
                 obtain rfl:=dP p.2
                 cases f
                 exact run_equalIn_int (P:=P) w d t _ _ _ _ a
               · cases f)
            |(subst f;rw [run_equalIn_bool' (P:=P) w d t _ _ a])
            |(subst f;rw [run_equalIn_string (P:=P) w d t _ _ a])
end
end AM
namespace AM
open Go
section
variable {P:Program} {ap:AP} {g:bD} {m:aF} {S:ay} {w:World}
theorem T_ {d:TypeDesc} (h:gJ P (some d)= .ptr):∃ e,d= .pointer e:=by cases d<;>simp [gJ] at h;exact ⟨_,rfl⟩
theorem O8 {d:TypeDesc} (h:gJ P (some d)= .func):∃ a b c,d= .func a b c:=by cases d<;>simp [gJ] at h;exact ⟨_,_,_,rfl⟩
theorem Np {d:TypeDesc} (h:gJ P (some d)= .iface):∃ e,d= .interface e:=by cases d<;>simp [gJ] at h;exact ⟨_,rfl⟩
theorem Ov {a b:LK} (h:Tf a b=true):a=b:=by
 cases a<;>cases b<;>simp [Tf] at h
 ·rw [dP h]
 ·rfl
 ·rfl
theorem yM:∀ {a b:List LK},A8 a b=true→a=b
 | [],[],_=>rfl
 |_::_,_::_,h=>by simp only [A8,Bool.and_eq_true] at h;rw [Ov h.1,yM h.2]
 | [],_::_,h=>by simp [A8] at h
 |_::_,[],h=>by simp [A8] at h
theorem FK {k:LK} {a b:AV} {r:Bool} (h:FI k a b=some r) {x y:Value} (c:VR g m S a x) (d:VR g m S b y):nJ k x y=some r:=by
 unfold FI at h
 split at h
 ·simp only [VR,PR] at c d;subst c;subst d
  split at h
  ·rename_i e;cases h;simp [nJ,e]
  ·cases h
 ·simp only [VR,PR] at c d;subst c;subst d;simpa [nJ] using h
 ·simp only [VR,PR] at c d;subst c;subst d
  simpa [nJ,rD] using h
 ·cases h
theorem qA:∀ {ks:List LK} {i bs:List AV} {r:Bool} {e f:List Value},iw ks i bs=some r→aO g m S i e→aO g m S bs f→bY ks e f=some r
 | [],[],[],r,e,f,h,ha,hb=>by
  cases e<;>cases f<;>simp [aO] at ha hb
  simpa [iw,bY] using h
 |k::ks,a::i,b::bs,r,x::e,y::f,h,ha,hb=>by
  simp only [iw] at h
  obtain ⟨c,j,h⟩:=bind_some h
  rw [Option.map_eq_some_iff] at h
  obtain ⟨d,l,rfl⟩:=h
  simp only [aO] at ha hb
  simp [bY,FK j ha.1 hb.1,qA l ha.2 hb.2]
 | [],_::_,_,_,_,_,h,_,_=>by simp [iw] at h
 | [],[],_::_,_,_,_,h,_,_=>by simp [iw] at h
 |_::_,[],_,_,_,_,h,_,_=>by simp [iw] at h
 |_::_,_::_,[],_,_,_,h,_,_=>by simp [iw] at h
 |_::_,_::_,_::_,_,[],_,_,ha,_=>by simp [aO] at ha
 |_::_,_::_,_::_,_,_::_,[],_,_,hb=>by simp [aO] at hb
theorem tY (c:dn P ap) {t:Nat} {b:TI} (h:ap.tyAt t=some b):b.cmp=NZ P t∧b.lks=A_ P 8 t:=by
 have a:=c.ty t b h
 unfold Nr at a
 split at a
 ·split at a
  ·cases a;exact ⟨rfl,rfl⟩
  ·cases a
 ·cases a
theorem fB (op:BinOp) (t:TypeId) (x y:Operand) (a b:Value) (d:¬ (a= .nilIface∧b= .nilIface)) (c:∀ xs ys,¬ (a= .agg xs∧b= .agg ys)):(eqGuard op t x y a b).run P w= .ok () w:=by
 unfold eqGuard
 cases op<;>simp only [Sem.run_ite,Sem.run_pure]<;>try (simp;done)
 all_goals
  simp
  split
  ·exact absurd ⟨rfl,rfl⟩ d
  ·exact absurd ⟨rfl,rfl⟩ (c _ _)
  ·rfl
def H6 (op:BinOp) (r:Bool):Bool:=match op with| .neq=> !r|_=>r
theorem pI {t:Nat} {b a:Value} {r:Bool} {x y:Operand} (e:∀ op,(eqGuard op t x y b a).run P w= .ok () w) (h:∀ d,(Op.equalIn (d+1) t b a).run P w= .ok r w)
  (h1:binOp .eql t b a=(do pure (.bool (← Op.equal t b a)))) (h2:binOp .neq t b a=(do pure (.bool (!(← Op.equal t b a))))) {op:BinOp} (hop:op=BinOp.eql∨op=BinOp.neq):
  (do eqGuard op t x y b a;binOp op t b a:Sem Value).run P w= .ok (.bool (H6 op r)) w:=by
 have c:(Op.equal t b a).run P w= .ok r w:=h 9999
 rcases hop with rfl|rfl
 ·rw [Sem.run_bind,e,Result.andThen_ok,h1,Sem.run_bind,c];rfl
 ·rw [Sem.run_bind,e,Result.andThen_ok,h2,Sem.run_bind,c];rfl
theorem AL (A:dn P ap) {t:Nat} {M:TI} (v:ap.tyAt t=some M) {a b:AV} {G I:Value} (k:VR g m S a G) (j:VR g m S b I) {r:Bool} (h:ZI M a b=some r) (N:∀ x ∈ yS a b,x=true) (x y:Operand):
  ∀ op,op=BinOp.eql∨op=BinOp.neq→(do eqGuard op t x y G I;binOp op t G I:Sem Value).run P w= .ok (.bool (H6 op r)) w:=by
 obtain ⟨i,d,z,u⟩:=bJ A v
 intro op f
 unfold ZI at h
 split at h
 case h_2 fs xs ys s=>
  split at h
  ·rename_i c
   rw [(tY A v).1] at c
   rw [(tY A v).2] at h
   simp only [VR] at k j
   obtain ⟨vs,rfl,k⟩:=k
   obtain ⟨us,rfl,j⟩:=j
   have L:=qA h k j
   unfold NZ at c
   cases D:fV P 8 t with
   |none=>simp [D] at c
   |some l=>
    simp only [D,Bool.and_eq_true,Bool.not_eq_true'] at c
    have C:=yM c.1
    rw [← C] at L
    have J:=xM 8 t l D 10000 w vs us r (by omega) L
    rw [u.d_eq] at s
    obtain ⟨fields,rfl,_⟩:=pX s
    simp only [oP,u.und] at J
    have K:=run_eqGuard_agg (P:=P) w op t x y vs.toArray us.toArray c.2
    rcases f with rfl|rfl
    ·simp [K,run_eql_struct,J,H6]
    ·simp [K,run_neq_struct,J,H6]
  ·cases h
 all_goals try (cases h;done)
 all_goals
  rename_i s
  rw [u.d_eq] at s
  try simp only [VR,PR] at k j
 all_goals cases h
 case h_1=>
  have s:=O7 s
  subst s
  subst k;subst j
  (refine pI (fun op=> ?_) (fun B=> ?_) rfl rfl f<;>first|exact fB op t x y _ _ (by simp) (by simp)|exact run_equalIn_bool' (P:=P) w B t _ _ u.und)
 all_goals
  first
   |(obtain ⟨e,rfl⟩:=T_ s)
   |(obtain ⟨e,rfl⟩:=Np s)
   |(obtain ⟨R,O,Q,rfl⟩:=O8 s)
   |(have s:=dU s;subst s)
 case h_16 xs n nn=>
  subst j
  obtain ⟨a,F,rfl,H,q⟩:=k
  rcases q with ⟨E,rfl,rfl,rfl⟩|⟨b,o,vs,rfl,_⟩
  ·cases a with
   |none=>
    cases E rfl
    exact absurd (N _ (by simp [yS];rfl)) (by decide)
   |some p=>(refine pI (fun op=> ?_) (fun B=> ?_) rfl rfl f<;>first|exact fB op t x y _ _ (by simp) (by simp)|simp [Op.equalIn,run_underlying u.und])
  ·(refine pI (fun op=> ?_) (fun B=> ?_) rfl rfl f<;>first|exact fB op t x y _ _ (by simp) (by simp)|simp [Op.equalIn,run_underlying u.und])
 case h_17 xs n nn=>
  subst k
  obtain ⟨a,F,rfl,H,q⟩:=j
  rcases q with ⟨E,rfl,rfl,rfl⟩|⟨b,o,vs,rfl,_⟩
  ·cases a with
   |none=>
    cases E rfl
    exact absurd (N _ (by simp [yS];rfl)) (by decide)
   |some p=>(refine pI (fun op=> ?_) (fun B=> ?_) rfl rfl f<;>first|exact fB op t x y _ _ (by simp) (by simp)|simp [Op.equalIn,run_underlying u.und])
  ·(refine pI (fun op=> ?_) (fun B=> ?_) rfl rfl f<;>first|exact fB op t x y _ _ (by simp) (by simp)|simp [Op.equalIn,run_underlying u.und])
 all_goals
  try subst k
  try subst j
  try (obtain ⟨_,_,_,⟨_,_,rfl⟩,_⟩:=k)
  try (obtain ⟨_,_,_,⟨_,_,rfl⟩,_⟩:=j)
  try (obtain ⟨_,_,_,⟨_,_,_,rfl⟩,_⟩:=k)
  try (obtain ⟨_,_,_,⟨_,_,_,rfl⟩,_⟩:=j)
  try (obtain ⟨_,_,_,rfl,_⟩:=k)
  try (obtain ⟨_,_,_,rfl,_⟩:=j)
  try (obtain ⟨_,_,rfl,_⟩:=k)
  try (obtain ⟨_,_,rfl,_⟩:=j)
  try (obtain ⟨_,rfl,_⟩:=k)
  try (obtain ⟨_,rfl,_⟩:=j)
  (refine pI (fun op=> ?_) (fun B=> ?_) rfl rfl f<;>first|exact fB op t x y _ _ (by simp) (by simp)|simp [Op.equalIn,run_underlying u.und])
end
end AM
namespace AM
open Go
section
variable {P:Program} {ap:AP} {g:bD} {m:aF} {S:ay} {w:World}
theorem Fj (a b:List UInt8):(⟨a.toArray⟩:ByteArray)++⟨b.toArray⟩=⟨(a++b).toArray⟩:=by
 apply ByteArray.ext
 rw [ByteArray.data_append]
 simp
theorem Fp (f:dn P ap) {t:Nat} {s:TI} (e:ap.tyAt t=some s) {a b v:AV} {l i:Value} (c:VR g m S a l) (d:VR g m S b i) {op:BinOp} {ups:List (Nat × aJ)} {bs:List Bool}
  (h:RH op s a b=some (v,ups,bs)) (hbs:∀ x ∈ bs,x=true) (x y:Operand):
  ups= []∧∃ cv,(do eqGuard op t x y l i;binOp op t l i:Sem Value).run P w= .ok cv w∧VR g m S v cv:=by
 unfold RH at h
 split at h
 ·rename_i k p z q
  simp only [VR,PR] at c d
  subst c;subst d
  have n:(eqGuard op t x y (.int k p) (.int z q)).run P w= .ok () w:=fB op t x y _ _ (by simp) (by simp)
  rw [Sem.run_bind,n,Result.andThen_ok]
  split at h
  ·obtain ⟨rfl,rfl,rfl⟩:=aH h
   have h0:=of_decide_eq_true (hbs _ (List.mem_singleton.2 rfl))
   exact ⟨rfl,_,by simp [binOp,Op.shift,show ¬ q<0 by omega];rfl,by simp only [VR,PR]⟩
  ·obtain ⟨rfl,rfl,rfl⟩:=aH h
   have h0:=of_decide_eq_true (hbs _ (List.mem_singleton.2 rfl))
   exact ⟨rfl,_,by simp [binOp,Op.shift,show ¬ q<0 by omega];rfl,by simp only [VR,PR]⟩
  ·split at h
   ·cases h
   ·rename_i j
    have j:=dP j
    subst j
    split at h
    all_goals try (cases h;done)
    all_goals obtain ⟨rfl,rfl,rfl⟩:=aH h
    case h_4=>
     have h0:(q==0)=false:=by simpa using hbs _ (List.mem_singleton.2 rfl)
     have h0:¬ q=0:=by simpa using h0
     exact ⟨rfl,_,by simp [binOp,Op.intDiv,h0];rfl,by simp only [VR,PR]⟩
    case h_5=>
     have h0:(q==0)=false:=by simpa using hbs _ (List.mem_singleton.2 rfl)
     have h0:¬ q=0:=by simpa using h0
     exact ⟨rfl,_,by simp [binOp,Op.intDiv,h0];rfl,by simp only [VR,PR]⟩
    all_goals exact ⟨rfl,_,by simp only [binOp,Op.intArith,Op.intBits,Op.intCmp,ne_eq,not_true_eq_false,if_false];rfl,by simp only [VR,PR];first|done|rfl⟩
 ·rename_i p q
  simp only [VR,PR] at c d
  subst c;subst d
  have n:(eqGuard op t x y (.string ⟨p.toArray⟩) (.string ⟨q.toArray⟩)).run P w= .ok () w:=fB op t x y _ _ (by simp) (by simp)
  rw [Sem.run_bind,n,Result.andThen_ok]
  split at h
  all_goals try (cases h;done)
  all_goals obtain ⟨rfl,rfl,rfl⟩:=aH h
  case h_1=>
   have h0:=dK (hbs _ (List.mem_singleton.2 rfl))
   have u:¬ (IntKind.i64.max<((p.length+q.length:Nat):Int)):=by
    have:IntKind.i64.max=9223372036854775807:=by decide
    omega
   refine ⟨rfl,.string ⟨(p++q).toArray⟩, ?_,by simp only [VR,PR]⟩
   simp only [binOp,Op.stringOp,tV,gt_iff_lt,u,if_false,Fj,Sem.run_pure]
  all_goals
   refine ⟨rfl,_,rfl, ?_⟩
   simp only [VR,PR,rD,rQ]
 ·split at h
  ·obtain ⟨r,o,h⟩:=bind_some h
   obtain ⟨rfl,rfl,rfl⟩:=aH h
   exact ⟨rfl,_,AL f e c d o hbs x y _ (.inl rfl),by simp only [VR,PR];rfl⟩
  ·obtain ⟨r,o,h⟩:=bind_some h
   obtain ⟨rfl,rfl,rfl⟩:=aH h
   exact ⟨rfl,_,AL f e c d o hbs x y _ (.inr rfl),by simp only [VR,PR];rfl⟩
  ·cases h
theorem Ju {x v:AV} {b:Value} (a:VR g m S x b) {op:UnOp} {ups:List (Nat × aJ)} {bs:List Bool} (h:unA op x=some (v,ups,bs)):
  ups= []∧∃ cv,(Op.unary op b).run P w= .ok cv w∧VR g m S v cv:=by
 unfold unA at h
 split at h
 ·obtain ⟨rfl,rfl,rfl⟩:=aH h
  simp only [VR,PR] at a;subst a
  exact ⟨rfl,_,rfl,by simp only [VR,PR]⟩
 ·obtain ⟨rfl,rfl,rfl⟩:=aH h
  simp only [VR,PR] at a;subst a
  exact ⟨rfl,_,rfl,by simp only [VR,PR]⟩
 ·cases h
theorem oq {f:AV→AV→Option AV} {F:Value→Value→Sem Value} (d:∀ a b c ca cb,VR g m S a ca→VR g m S b cb→f a b=some c→∃ cc,(F ca cb).run P w= .ok cc w∧VR g m S c cc):
  ∀ (l:List AV) (cl:List Value) (x v:AV) (cx:Value),aO g m S l cl→VR g m S x cx→DY f x l=some v→∃ cv,(cl.foldlM F cx).run P w= .ok cv w∧VR g m S v cv
 | [],[],x,v,cx,_,hx,h=>by simp [DY] at h;subst h;exact ⟨cx,by simp,hx⟩
 | y::r,cy::cr,x,v,cx,hl,hx,h=>by
  simp only [aO] at hl
  simp only [DY] at h
  split at h
  ·rename_i z k
   obtain ⟨n,j,e⟩:=d _ _ _ _ _ hx hl.1 k
   obtain ⟨cv,i,o⟩:=oq d r cr z v n hl.2 e h
   exact ⟨cv,by simp [List.foldlM_cons,j,i],o⟩
  ·cases h
 | [],_::_,_,_,_,hl,_,_=>by simp [aO] at hl
 |_::_,[],_,_,_,hl,_,_=>by simp [aO] at hl
theorem F8 {a b c:AV} {e d:Value} (f:VR g m S a e) (i:VR g m S b d) (h:min2 a b=some c):∃ cc,(Builtin.min2 e d).run P w= .ok cc w∧VR g m S c cc:=by
 unfold min2 at h
 split at h
 ·split at h
  ·cases h
   simp only [VR,PR] at f i;subst f;subst i
   exact ⟨_,rfl,by simp only [VR,PR]⟩
  ·cases h
 ·cases h
theorem FZ {a b c:AV} {e d:Value} (f:VR g m S a e) (i:VR g m S b d) (h:max2 a b=some c):∃ cc,(Builtin.max2 e d).run P w= .ok cc w∧VR g m S c cc:=by
 unfold max2 at h
 split at h
 ·split at h
  ·cases h
   simp only [VR,PR] at f i;subst f;subst i
   exact ⟨_,rfl,by simp only [VR,PR]⟩
  ·cases h
 ·cases h
theorem Jf {l:List AV} {cl:List Value} (a:aO g m S l cl) {v:AV} (h:ut min2 l=some v) (b:Array TypeId) (ty:Nat):∃ cv,(Builtin.min_ b ty cl.toArray).run P w= .ok cv w∧VR g m S v cv:=by
 cases l with
 |nil=>simp [ut] at h
 | cons x r=>cases cl with
  |nil=>simp [aO] at a
  |cons cx cr=>
   simp only [aO] at a
   obtain ⟨cv,d,c⟩:=oq (P:=P) (w:=w) (F:=Builtin.min2) (fun _ _ _ _ _=>F8) r cr x v cx a.2 a.1 h
   exact ⟨cv,by simpa [Builtin.min_] using d,c⟩
theorem I7 {l:List AV} {cl:List Value} (a:aO g m S l cl) {v:AV} (h:ut max2 l=some v) (b:Array TypeId) (ty:Nat):∃ cv,(Builtin.max_ b ty cl.toArray).run P w= .ok cv w∧VR g m S v cv:=by
 cases l with
 |nil=>simp [ut] at h
 | cons x r=>cases cl with
  |nil=>simp [aO] at a
  |cons cx cr=>
   simp only [aO] at a
   obtain ⟨cv,d,c⟩:=oq (P:=P) (w:=w) (F:=Builtin.max2) (fun _ _ _ _ _=>FZ) r cr x v cx a.2 a.1 h
   exact ⟨cv,by simpa [Builtin.max_] using d,c⟩
end
end AM
