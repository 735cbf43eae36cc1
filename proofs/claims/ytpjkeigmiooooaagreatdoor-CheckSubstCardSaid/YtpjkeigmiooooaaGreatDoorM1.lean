/- The abstract machine over the code of the model, and the proof that it is sound. No conditions. -/
import Derived.WalkKit
import Derived.Deep.AppendSrc
import Derived.Deep.MidRow
import Derived.WalkLawsBesides
set_option linter.unusedSimpArgs false
set_option linter.unusedVariables false
namespace AM
open Go
inductive AV where
 |int (k:IntKind) (n:Int)
 |bool (b:Bool)
 |str (s:List UInt8)
 |agg (l:List AV)
 |tup (l:List AV)
 |nilS
 |sl (xs:List AV) (n:Nat) (nn:Bool)
 |ref (b ver i n:Nat)
 |own (xs:List AV) (n esz:Nat)
 |ptr (b ver off:Nat)
 |pp (xs:List AV) (off:Nat)
 |nilP
 |fn (f:Nat) (first cap:List AV)
 |nilF
 |ifc (t:Nat) (v:AV)
 |nilI
 |dead
inductive LK where
 |int (k:IntKind)
 |bool
 |str
 |sl
 |oth
inductive TD where
 |struct (fs:List (Nat × Nat × Nat))
 |array (n elem:Nat)
 |slice (elem:Nat)
 |int (k:IntKind)
 |str
 |bool
 |iface
 |ptr
 |func
 |oth
structure TI where
 d:TD
 size:Nat
 bytes:Nat
 zero:List AV
 lks:List LK
 cmp:Bool
structure AF where
 fn:Func
 keep:List Nat
 shared:Bool
inductive Tr (α:Type) where
 |nil
 |node (v:Option α) (l r:Tr α)
def Tr.get {α:Type}:Tr α→Nat→Option α
 | .nil,_=>none
 | .node v l r,n=>match Nat.beq n 0 with
  |true=>v
  |false=>match Nat.beq (n % 2) 1 with
   |true=>l.get ((n - 1) / 2)
   |false=>r.get ((n - 1) / 2)
structure AP where
 nty:Nat
 ty:Tr TI
 nfn:Nat
 fn:Tr AF
 gl:List (Option (List AV))
structure a_ where
 cells:List AV
 ver:Nat
 fro:Bool
 fz:Nat
 esz:Nat
 pr:Bool
abbrev dQ:=List (Nat × AV)
abbrev Hp:=List (Nat × a_)
def av {α:Type}:List (Nat × α)→Nat→Option α
 | [],_=>none
 |(u,x)::r,t=>match Nat.beq u t with|true=>some x|false=>av r t
def fj {α β:Type} (f:α→Option β):List α→Option (List β)
 | []=>some []
 |x::r=>match f x with
  |some y=>match fj f r with|some l=>some (y::l)|none=>none
  |none=>none
def dQ.get (e:dQ) (t:Nat):AV:=(av e t).getD .dead
def AV.cells:AV→List AV
 | .agg l=>l
 |x=> [x]
def AV.toInt:AV→Int| .int _ n=>n|_=>0
def AV.toBool:AV→Bool| .bool b=>b|_=>false
def AV.toStr:AV→List UInt8| .str s=>s|_=> []
def AV.slX:AV→List AV| .sl xs _ _=>xs|_=> []
def AV.slN:AV→Nat| .sl _ n _=>n|_=>0
def Ec:IntKind→Nat
 | .i8=>0| .i16=>1| .i32=>2| .i64=>3| .u8=>4| .u16=>5| .u32=>6| .u64=>7
def eQ (a b:IntKind):Bool:=Nat.beq (Ec a) (Ec b)
def chk:LK→AV→Bool
 | .int k,.int k' _=>eQ k k'
 | .bool,.bool _=>true
 | .str,.str _=>true
 | .sl,.sl _ _ _=>true
 | .sl,.nilS=>true
 | .oth,.dead=>false
 | .oth,.agg _=>false
 | .oth,.tup _=>false
 | .oth,.own _ _ _=>false
 | .oth,_=>true
 |_,_=>false
def eta:LK→AV→AV
 | .int k,c=> .int k c.toInt
 | .bool,c=> .bool c.toBool
 | .str,c=> .str c.toStr
 | .sl,c=> .sl c.slX c.slN false
 | .oth,c=>c
def ia:AV→Bool
 | .dead| .agg _| .tup _| .own _ _ _=>false
 |_=>true
mutual
def dF:AV→List Nat
 | .ref b _ _ _=> [b]
 | .ptr b _ _=> [b]
 | .agg l=>cA l
 | .tup l=>cA l
 | .fn _ f c=>cA f++cA c
 | .ifc _ v=>dF v
 |_=> []
def cA:List AV→List Nat
 | []=> []
 |x::r=>dF x++cA r
end
mutual
def ren (ρ:Nat→Nat→Option (Nat × Nat)):AV→AV
 | .ref b v i n=>match ρ b v with|some (b',v')=> .ref b' v' i n|none=> .dead
 | .ptr b v o=>match ρ b v with|some (b',v')=> .ptr b' v' o|none=> .dead
 | .agg l=> .agg (gB ρ l)
 | .tup l=> .tup (gB ρ l)
 | .fn f a c=> .fn f (gB ρ a) (gB ρ c)
 | .ifc t v=> .ifc t (ren ρ v)
 |x=>x
def gB (ρ:Nat→Nat→Option (Nat × Nat)):List AV→List AV
 | []=> []
 |x::r=>ren ρ x::gB ρ r
end
def vJ:Value→AV
 | .int k n=> .int k n
 | .bool b=> .bool b
 | .string s=> .str s.data.toList
 | .pointer a=>match a with|none=> .nilP|some _=> .dead
 | .slice a n c=>match a,n,c with|none,0,0=> .nilS|_,_,_=> .dead
 | .nilFunc=> .nilF
 | .nilIface=> .nilI
 |_=> .dead
def rW:Value→AV
 | .agg cs=> .agg (cs.toList.map vJ)
 | .tuple vs=>match vs.toList with| []=> .tup []|_=> .dead
 |v=>vJ v
def AP.tyAt (ap:AP) (t:Nat):Option TI:=match Nat.blt t ap.nty with|true=>ap.ty.get t|false=>none
def AP.fnAt (ap:AP) (f:Nat):Option AF:=match Nat.blt f ap.nfn with|true=>ap.fn.get f|false=>none
def kq (l:List Nat) (a:Nat):Bool:=l.any (Nat.beq a)
def ef (l:List Nat):List Nat:=l.foldl (fun acc b=>if kq acc b then acc else acc++ [b]) []
abbrev ww:=Option (AV × List (Nat × a_) × List Bool)
def bg (v:AV) (bs:List Bool:= []):ww:=some (v,[],bs)
def xG (ty:Bool):List LK→List AV→List AV
 | [],_=> []
 |k::ks,ys=>(match ty with|true=>eta k (ys.headD .dead)|false=>ys.headD .dead)::xG ty ks ys.tail
def Dz (ty:Bool):List LK→List AV→List Bool
 | [],_=> []
 |k::ks,ys=>(match ty with|true=>chk k (ys.headD .dead)|false=>chk .oth (ys.headD .dead))::Dz ty ks ys.tail
def kR (ty:Bool) (ks:List LK) (xs:List AV) (off:Nat):List AV:=xG ty ks (xs.drop off)
def uW (ty:Bool) (ks:List LK) (xs:List AV) (off:Nat):List Bool:=Dz ty ks (xs.drop off)
def vC:TD→Bool
 | .struct _=>true
 | .array _ _=>true
 |_=>false
def km (ti:TI) (cs:List AV):Option AV:=
 match vC ti.d with
 |true=>some (.agg cs)
 |false=>match cs with| [c]=>some c|_=>none
def xj (ti:TI) (rd:Nat→Option a_) (p:AV):ww:=
 match p with
 | .pp xs off=>(km ti (kR true ti.lks xs off)).bind fun v=>bg v (uW true ti.lks xs off)
 | .ptr b ver off=>(rd b).bind fun B=>match Nat.beq B.ver ver with
  |true=>(km ti (kR (Nat.blt 0 B.esz && B.pr) ti.lks B.cells off)).bind fun v=>bg v (uW (Nat.blt 0 B.esz && B.pr) ti.lks B.cells off)
  |false=>none
 |_=>none
def dO (xs:List AV) (off:Nat) (vs:List AV):List AV:=xs.take off++vs++xs.drop (off+vs.length)
def zH (ti:TI) (rd:Nat→Option a_) (p v:AV):ww:=
 match p with
 | .ptr b ver off=>(rd b).bind fun B=>
  let vs:=v.cells
  let rs:=cA vs
  match Nat.beq B.ver ver && !B.fro && Nat.beq vs.length ti.size && vs.all ia with
  |true=>some (.dead,[(b,{B with cells:=dO B.cells off vs,pr:=B.pr && rs.isEmpty})],[Nat.ble (off+vs.length) B.cells.length])
  |false=>none
 |_=>none
def d_ (nid:Nat) (cells:List AV) (esz:Nat):Nat × a_:=(nid,{cells,ver:=0,fro:=false,fz:=0,esz,pr:=(cA cells).isEmpty})
def lQ (cells:List AV):List (Nat × Nat × AV)→Option (List AV)
 | []=>some cells
 |(off,size,v)::r=>match Nat.beq v.cells.length size && Nat.ble (off+size) cells.length && v.cells.all ia with
  |true=>lQ (dO cells off v.cells) r
  |false=>none
def yA (ap:AP) (ti:TI) (parts:List (Nat × AV)):ww:=
 match ti.d with
 | .struct fs=>(fj (fun (q:Nat × AV)=>(fs[q.1]?).map fun (x:Nat × Nat × Nat)=>(x.1,x.2.2,q.2)) parts).bind fun ps=>(lQ ti.zero ps).bind fun cs=>bg (.agg cs)
 | .array _ e=>(ap.tyAt e).bind fun te=>(lQ ti.zero (parts.map fun (i,v)=>(i*te.size,te.size,v))).bind fun cs=>bg (.agg cs)
 |_=>none
def dK (n:Nat) (z:List AV):List AV:=(List.replicate n z).flatten
def ky (ap:AP) (nid:Nat) (ti:TI) (len:Nat) (parts:List (Nat × AV)):ww:=
 match ti.d with
 | .slice e=>(ap.tyAt e).bind fun te=>
  match Nat.blt 0 te.size && Nat.ble (len*te.size) (2^24) && Nat.beq te.zero.length te.size with
  |true=>(lQ (dK len te.zero) (parts.map fun (i,v)=>(i*te.size,te.size,v))).bind fun cs=>
   some (.ref nid 0 0 len,[d_ nid cs te.size],[])
  |false=>none
 |_=>none
def EA (p:AV) (o:Nat):Option AV:=
 match p with
 | .ptr b v off=>some (.ptr b v (off+o))
 | .pp xs off=>some (.pp xs (off+o))
 |_=>none
def Ap (v:AV):Option Int:=match v with| .int _ n=>some n|_=>none
def mr (ap:AP) (ti:TI) (rd:Nat→Option a_) (x i:AV):ww:=
 (Ap i).bind fun i=>
 match ti.d with
 | .slice e=>(ap.tyAt e).bind fun te=>
  match x with
  | .sl xs n _=>bg (.pp xs (i.toNat*te.size)) [decide (0≤i),decide (i<n)]
  | .ref b ver j n=>(rd b).bind fun B=>match Nat.beq B.ver ver && Nat.beq B.esz te.size with
   |true=>bg (.ptr b ver ((j+i.toNat)*te.size)) [decide (0≤i),decide (i<n)]
   |false=>none
  |_=>none
 | .array n e=>(ap.tyAt e).bind fun te=>(EA x (i.toNat*te.size)).bind fun p=>bg p [decide (0≤i),decide (i<n)]
 |_=>none
def yU (ap:AP) (ti:TI) (x i:AV):ww:=
 (Ap i).bind fun i=>
 match ti.d,x with
 | .str,.str s=>bg (.int .u8 (s.getD i.toNat 0).toNat) [decide (0≤i),decide (i<s.length)]
 | .array n e,.agg cs=>(ap.tyAt e).bind fun te=>
  (km te (kR true te.lks cs (i.toNat*te.size))).bind fun v=>bg v (decide (0≤i)::decide (i<n)::uW true te.lks cs (i.toNat*te.size))
 |_,_=>none
def ij (v:Option AV) (d:Int):Option Int:=match v with|none=>some d|some (.int _ n)=>some n|some _=>none
def zF (ap:AP) (ti:TI) (rd:Nat→Option a_) (x:AV) (lo hi mx:Option AV):ww:=
 match ti.d,x,mx with
 | .str,.str s,none=>(ij lo 0).bind fun l=>(ij hi s.length).bind fun h=>
   bg (.str ((s.take h.toNat).drop l.toNat)) [decide (0≤l),decide (l≤h),decide (h≤s.length)]
 | .slice e,.sl xs n nn,none=>(ap.tyAt e).bind fun te=>(ij lo 0).bind fun l=>(ij hi n).bind fun h=>
   bg (.sl ((xs.take (h.toNat*te.size)).drop (l.toNat*te.size)) (h.toNat - l.toNat) nn) [decide (0≤l),decide (l≤h),decide (h≤n)]
 | .slice e,.ref b ver j n,none=>(ap.tyAt e).bind fun te=>(rd b).bind fun B=>(ij lo 0).bind fun l=>(ij hi n).bind fun h=>
   match Nat.beq B.ver ver && Nat.beq B.esz te.size with
   |true=>bg (.ref b ver (j+l.toNat) (h.toNat - l.toNat)) [decide (0≤l),decide (l≤h),decide (h≤n)]
   |false=>none
 | .slice e,.nilS,none=>(ap.tyAt e).bind fun _=>(ij lo 0).bind fun l=>(ij hi 0).bind fun h=>bg .nilS [decide (l=0),decide (h=0)]
 |_,_,_=>none
def Ef (d:TD) (x:AV):ww:=
 match d,x with
 | .array n _,_=>bg (.int .i64 n)
 | .str,.str s=>bg (.int .i64 s.length)
 | .slice _,.sl _ n _=>bg (.int .i64 n)
 | .slice _,.ref _ _ _ n=>bg (.int .i64 n)
 | .slice _,.nilS=>bg (.int .i64 0)
 |_,_=>none
def xS (size:Nat) (rd:Nat→Option a_) (x:AV):Option (List AV × Nat × Bool):=
 match x with
 | .sl xs n _=>some (xs,n,true)
 | .nilS=>some ([],0,true)
 | .str s=>some (s.map fun b=> .int .u8 b.toNat,s.length,true)
 | .ref b ver j n=>(rd b).bind fun B=>match Nat.beq B.ver ver && Nat.beq B.esz size with
  |true=>some ((B.cells.drop (j*size)).take (n*size),n,B.pr)
  |false=>none
 |_=>none
def uM:Nat:=2^40
def mR (nid:Nat) (te:TI) (rd:Nat→Option a_) (em:Bool) (s x:AV):ww:=
 (xS te.size rd x).bind fun (xs,n,pr)=>
 match Nat.blt 0 te.size && Nat.ble te.bytes 128 with
 |false=>none
 |true=>
 match s with
 | .nilS=>match em with
  |true=>bg .nilS [Nat.beq xs.length (n*te.size)]
  |false=>some (.ref nid 0 0 n,[(nid,⟨xs,0,false,0,te.size,pr⟩)],[Nat.beq xs.length (n*te.size),Nat.ble n uM])
 | .ref b ver 0 m=>(rd b).bind fun B=>match Nat.beq B.ver ver && Nat.beq B.esz te.size with
  | true=>some (.ref b (ver+1) 0 (m+n),[(b,{B with cells:=B.cells.take (m*te.size)++xs,ver:=ver+1,pr:=B.pr && pr})],
    [Nat.beq xs.length (n*te.size),Nat.ble (m+n) uM,Nat.ble (m*te.size) B.cells.length, !B.fro||Nat.ble B.fz (m*te.size)])
  |false=>none
 |_=>none
def mg:AV→Option Nat
 | .sl _ n _=>some n
 | .nilS=>some 0
 | .str s=>some s.length
 | .ref _ _ _ n=>some n
 |_=>none
def m_ (ρ:Operand→AV) (o:Op):Option Nat:=
 match o with
 | .call {callee:= .builtin .append,args,..}=>match args.toList with
  | [s,x]=>match ρ s with
   | .nilS=>mg (ρ x)
   |_=>none
  |_=>none
 |_=>none
def mB (ap:AP) (nid:Nat) (ti:TI) (l c:AV):ww:=
 match ti.d,l,c with
 | .slice e,.int _ l,.int _ c=>(ap.tyAt e).bind fun te=>
  match Nat.blt 0 te.size && Nat.beq te.zero.length te.size && Nat.ble te.bytes 128 && (cA te.zero).isEmpty with
  |true=>some (.ref nid 0 0 l.toNat,[(nid,⟨dK l.toNat te.zero,0,false,0,te.size,true⟩)],[decide (0≤l),decide (l=c),decide (l≤2^40)])
  |false=>none
 |_,_,_=>none
def rf (ap:AP) (ts td:TI) (rd:Nat→Option a_) (x:AV):ww:=
 match ts.d,td.d,x with
 |_,.int k,.int _ n=>bg (.int k (k.wrap n))
 | .str,.str,.str s=>bg (.str s)
 | .slice e,.str,x=>(ap.tyAt e).bind fun te=>match te.d,x with
  | .int .u8,.str _=>none
  | .int .u8,x=>(xS 1 rd x).bind fun (xs,n,_)=>bg (.str (xs.map fun c=>UInt8.ofNat c.toInt.toNat)) [Nat.beq xs.length n,xs.all (chk (.int .u8))]
  |_,_=>none
 |_,_,_=>none
def yJ:LK→AV→AV→Option Bool
 | .int k,.int k1 a,.int k2 b=>match eQ k k1 && eQ k k2 with|true=>some (a==b)|false=>none
 | .bool,.bool a,.bool b=>some (a==b)
 | .str,.str a,.str b=>some (a==b)
 |_,_,_=>none
def fC:List LK→List AV→List AV→Option Bool
 | [],[],[]=>some true
 |k::ks,a::as,b::bs=>(yJ k a b).bind fun c=>(fC ks as bs).map fun d=>c && d
 |_,_,_=>none
def QY (ti:TI) (a b:AV):Option Bool:=
 match ti.d,a,b with
 | .bool,.bool a,.bool b=>some (a==b)
 | .struct _,.agg xs,.agg ys=>match ti.cmp with|true=>fC ti.lks xs ys|false=>none
 | .ptr,.nilP,.nilP=>some true
 | .ptr,.nilP,.ptr _ _ _=>some false
 | .ptr,.nilP,.pp _ _=>some false
 | .ptr,.ptr _ _ _,.nilP=>some false
 | .ptr,.pp _ _,.nilP=>some false
 | .iface,.nilI,.ifc _ _=>some false
 | .iface,.ifc _ _,.nilI=>some false
 | .func,.nilF,.nilF=>some true
 | .func,.nilF,.fn _ _ _=>some false
 | .func,.fn _ _ _,.nilF=>some false
 | .slice _,.nilS,.nilS=>some true
 | .slice _,.ref _ _ _ _,.nilS=>some false
 | .slice _,.nilS,.ref _ _ _ _=>some false
 | .slice _,.sl _ _ _,.nilS=>some false
 | .slice _,.nilS,.sl _ _ _=>some false
 |_,_,_=>none
def rU (a b:AV):List Bool:=
 match a,b with
 | .sl _ n false,.nilS=> [Nat.blt 0 n]
 | .nilS,.sl _ n false=> [Nat.blt 0 n]
 |_,_=> []
def dx:List UInt8→List UInt8→Bool
 |_,[]=>false
 | [],_::_=>true
 |a::x,b::y=>decide (a<b)||(a==b && dx x y)
def JA (op:BinOp) (ti:TI) (x y:AV):ww:=
 match x,y with
 | .int k a,.int k' b=>
  match op with
  | .shl=>bg (.int k (k.wrap (a*2^(min b.toNat k.bits)))) [decide (0≤b)]
  | .shr=>bg (.int k (a.fdiv (2^(min b.toNat k.bits)))) [decide (0≤b)]
  | _=>match eQ k k' with
   |false=>none
   |true=>match op with
    | .add=>bg (.int k (k.wrap (a+b)))
    | .sub=>bg (.int k (k.wrap (a - b)))
    | .mul=>bg (.int k (k.wrap (a*b)))
    | .quo=>bg (.int k (k.wrap (a.tdiv b))) [!(b==0)]
    | .rem=>bg (.int k (a.tmod b)) [!(b==0)]
    | .and=>bg (.int k (k.wrap (BitVec.ofInt k.bits a &&& BitVec.ofInt k.bits b).toNat))
    | .or=>bg (.int k (k.wrap (BitVec.ofInt k.bits a|||BitVec.ofInt k.bits b).toNat))
    | .xor=>bg (.int k (k.wrap (BitVec.ofInt k.bits a^^^BitVec.ofInt k.bits b).toNat))
    | .eql=>bg (.bool (a==b))
    | .neq=>bg (.bool (!(a==b)))
    | .lss=>bg (.bool (decide (a<b)))
    | .leq=>bg (.bool (decide (a≤b)))
    | .gtr=>bg (.bool (decide (b<a)))
    | .geq=>bg (.bool (decide (b≤a)))
    |_=>none
 | .str a,.str b=>
  match op with
  | .add=>bg (.str (a++b)) [Nat.ble (a.length+b.length) 9223372036854775807]
  | .eql=>bg (.bool (a==b))
  | .neq=>bg (.bool (!(a==b)))
  | .lss=>bg (.bool (dx a b))
  | .leq=>bg (.bool (dx a b||a==b))
  | .gtr=>bg (.bool (!(dx a b||a==b)))
  | .geq=>bg (.bool (!dx a b))
  |_=>none
 |x,y=>
  match op with
  | .eql=>(QY ti x y).bind fun b=>bg (.bool b) (rU x y)
  | .neq=>(QY ti x y).bind fun b=>bg (.bool (!b)) (rU x y)
  |_=>none
def SX (op:UnOp) (x:AV):ww:=
 match op,x with
 | .not,.bool b=>bg (.bool (!b))
 | .neg,.int k n=>bg (.int k (k.wrap (0 - n)))
 |_,_=>none
def min2 (a b:AV):Option AV:=match a,b with| .int k x,.int k' y=>(match eQ k k' with|true=>some (.int k (if y<x then y else x))|false=>none)|_,_=>none
def max2 (a b:AV):Option AV:=match a,b with| .int k x,.int k' y=>(match eQ k k' with|true=>some (.int k (if y>x then y else x))|false=>none)|_,_=>none
def wV (f:AV→AV→Option AV):AV→List AV→Option AV
 |x,[]=>some x
 |x,y::r=>match f x y with|some z=>wV f z r|none=>none
def ol (f:AV→AV→Option AV):List AV→Option AV
 | []=>none
 |x::r=>wV f x r
def uT (ap:AP) (x:AV) (asserted:Nat) (commaOk:Bool):ww:=
 (ap.tyAt asserted).bind fun ti=>
 match ti.d with
 | .iface=>none
 | _=>match x with
  | .ifc t v=>match Nat.beq t asserted with
   |true=>bg (match commaOk with|true=> .tup [v,.bool true]|false=>v)
   |false=>match commaOk with|true=>(km ti ti.zero).bind fun z=>bg (.tup [z,.bool false])|false=>none
  | .nilI=>match commaOk with|true=>(km ti ti.zero).bind fun z=>bg (.tup [z,.bool false])|false=>none
  |_=>none
def yR (ap:AP) (ti:TI) (x:AV) (f:Nat):ww:=
 match ti.d,x with
 | .struct fs,.agg cs=>(fs[f]?).bind fun (o,t,_)=>(ap.tyAt t).bind fun tf=>
  (km tf (kR false tf.lks cs o)).bind fun v=>bg v (uW false tf.lks cs o)
 |_,_=>none
def tZ:AV→List Nat
 | .ref b _ _ _=> [b]
 | .ptr b _ _=> [b]
 |_=> []
def EO (ρ:Operand→AV):Op→List Nat
 | .load _ a=>tZ (ρ a)
 | .store _ a _=>tZ (ρ a)
 | .indexAddr _ x _=>tZ (ρ x)
 | .slice _ x _ _ _=>tZ (ρ x)
 | .convert _ _ x=>tZ (ρ x)
 | .call {callee:= .builtin .append,args,..}=>ef (args.toList.flatMap fun x=>tZ (ρ x))
 |_=> []
def Sc (ap:AP) (nid:Nat) (ρ:Operand→AV) (rd:Nat→Option a_) (dec:Operand→Option Bool) (em:Bool) (o:Op):ww:=
 match o with
 | .move x=>bg (ρ x)
 | .assign x=>bg (ρ x)
 | .pick c a b=>match dec c with
  |some true=>bg (ρ a)
  |some false=>bg (ρ b)
  |none=>match ρ c,ρ a,ρ b with| .bool c,.bool x,.bool y=>bg (.bool (cond c x y))|_,_,_=>none
 | .alloc e=>(ap.tyAt e).bind fun te=>match Nat.blt 0 te.size && te.zero.all ia with|true=>some (.ptr nid 0 0,[d_ nid te.zero 0],[])|false=>none
 | .box e x=>(ap.tyAt e).bind fun te=>let vs:=(ρ x).cells
  match Nat.blt 0 te.size && vs.all ia with|true=>some (.ptr nid 0 0,[d_ nid vs 0],[])|false=>none
 | .build t parts=>(ap.tyAt t).bind fun ti=>yA ap ti (parts.toList.map fun (i,x)=>(i,ρ x))
 | .buildSlice t len parts=>(ap.tyAt t).bind fun ti=>ky ap nid ti len (parts.toList.map fun (i,x)=>(i,ρ x))
 | .load t a=>(ap.tyAt t).bind fun ti=>xj ti rd (ρ a)
 | .store t a x=>(ap.tyAt t).bind fun ti=>zH ti rd (ρ a) (ρ x)
 | .nilCheck x=>match ρ x with
  | .ptr b v o=>bg (.ptr b v o)
  | .pp xs o=>bg (.pp xs o)
  | .fn f a c=>bg (.fn f a c)
  |_=>none
 | .binOp op t x y _=>(ap.tyAt t).bind fun ti=>JA op ti (ρ x) (ρ y)
 | .unOp op _ x=>SX op (ρ x)
 | .convert s d x=>(ap.tyAt s).bind fun ts=>(ap.tyAt d).bind fun td=>rf ap ts td rd (ρ x)
 | .makeInterface t x=>(ap.tyAt t).bind fun ti=>match ti.d with| .iface=>none|_=>bg (.ifc t (ρ x))
 | .makeFunc (.func f) first cap=>bg (.fn f (first.toList.map ρ) (cap.toList.map ρ))
 | .makeSlice t l c=>(ap.tyAt t).bind fun ti=>mB ap nid ti (ρ l) (ρ c)
 | .slice t x lo hi mx=>(ap.tyAt t).bind fun ti=>zF ap ti rd (ρ x) (lo.map ρ) (hi.map ρ) (mx.map ρ)
 | .fieldAddr s x f=>(ap.tyAt s).bind fun ti=>match ti.d with
  | .struct fs=>(fs[f]?).bind fun (o,_,sz)=>match Nat.blt 0 sz with|true=>(EA (ρ x) o).bind fun p=>bg p|false=>none
  |_=>none
 | .field t x f=>(ap.tyAt t).bind fun ti=>yR ap ti (ρ x) f
 | .indexAddr t x i=>(ap.tyAt t).bind fun ti=>mr ap ti rd (ρ x) (ρ i)
 | .index t x i=>(ap.tyAt t).bind fun ti=>yU ap ti (ρ x) (ρ i)
 | .typeAssert x _ asserted ok=>uT ap (ρ x) asserted ok
 | .extract t i=>match ρ t with| .tup l=>(l[i]?).bind fun v=>bg v|_=>none
 | .call {callee:= .builtin b,args,argTypes}=>
  match b with
  | .len=>(args[0]?).bind fun x=>(argTypes[0]?).bind fun t=>(ap.tyAt t).bind fun ti=>Ef ti.d (ρ x)
  | .append=>match args.toList,argTypes.toList with
   | [s,x],[t,t1]=>(ap.tyAt t).bind fun ti=>(ap.tyAt t1).bind fun ti1=>match ti.d,ti1.d,ρ x with
    | .slice e,.str,.str y=>(ap.tyAt e).bind fun te=>match Nat.beq te.size 1 with|true=>mR nid te rd em (ρ s) (.str y)|false=>none
    | .slice _,.slice _,.str _=>none
    | .slice e,.slice _,y=>(ap.tyAt e).bind fun te=>mR nid te rd em (ρ s) y
    |_,_,_=>none
   |_,_=>none
  | .min=>(ol min2 (args.toList.map ρ)).bind fun v=>bg v
  | .max=>(ol max2 (args.toList.map ρ)).bind fun v=>bg v
  |_=>none
 |_=>none
def uy (P:Program):Nat→TypeId→List LK
 |0,_=> [.oth]
 |n+1,t=>match P.underlying t with
  |some (.int k)=> [.int k]
  |some .bool=> [.bool]
  |some .string=> [.str]
  |some (.slice _)=> [.sl]
  |some (.struct fs)=>fs.toList.flatMap fun f=>uy P n f.type
  |some (.array m e)=>(List.replicate m (uy P n e)).flatten
  |_=> [.oth]
def gJ (P:Program):Option TypeDesc→TD
 |some (.int k)=> .int k
 |some .bool=> .bool
 |some .string=> .str
 |some (.slice e)=> .slice e
 |some (.array n e)=> .array n e
 |some (.struct fs)=> .struct (fs.toList.map fun f=>(f.offset,f.type,match P.info? f.type with|some i=>i.size|none=>0))
 |some (.interface _)=> .iface
 |some (.pointer _)=> .ptr
 |some (.func _ _ _)=> .func
 |_=> .oth
def ug (P:Program) (f:TypeId→Option (List LK)):List Field→Nat→Option (List LK)
 | [],_=>some []
 | x::r,off=>match f x.type with
  |some l=>match !(x.name== "_") && Nat.beq x.offset off && (match P.info? x.type with|some i=>Nat.beq i.size l.length|none=>false) with
   |true=>match ug P f r (off+l.length) with|some l'=>some (l++l')|none=>none
   |false=>none
  |none=>none
def ji (P:Program):Nat→TypeId→Option (List LK)
 |0,_=>none
 |n+1,t=>match P.underlying t with
  |some (.int k)=>some [.int k]
  |some .bool=>some [.bool]
  |some .string=>some [.str]
  |some (.struct fs)=>match P.stoodInHeld t with|true=>none|false=>ug P (ji P n) fs.toList 0
  |_=>none
def LF (i:TypeInfo) (d:TypeDesc):Bool:=match i.zero,d with
 |some (.agg _),.struct _=>true
 |some (.agg _),.array _ _=>true
 |some (.agg _),_=>false
 |some _,.struct _=>false
 |some _,.array _ _=>false
 |some _,_=>true
 |none,_=>false
def D2 (P:Program) (d:TypeDesc):Bool:=match d with
 | .struct fs=>fs.toList.all fun f=>(P.info? f.type).isSome
 |_=>true
def sX (i:TypeInfo):List AV:=match i.zero with|some z=>z.cells.toList.map rW|none=> []
def Ka:LK→LK→Bool
 | .int a,.int b=>eQ a b
 | .bool,.bool=>true
 | .str,.str=>true
 |_,_=>false
def ux:List LK→List LK→Bool
 | [],[]=>true
 |a::r,b::q=>Ka a b && ux r q
 |_,_=>false
def JK (P:Program) (t:TypeId):Bool:=match ji P 8 t with|some l=>ux l (uy P 8 t) && !P.eqGuardType P.depth t|none=>false
def Fq (P:Program) (t:TypeId):Option TI:=
 match P.info? t,P.underlying t with
 |some i,some d=>
  match Nat.beq (uy P 8 t).length i.size && (LF i d && D2 P d) && (sX i).all ia && Nat.beq (sX i).length i.size && Nat.blt 0 i.size && i.zero.isSome with
  |true=>some {d:=gJ P (some d),size:=i.size,bytes:=i.bytes,zero:=sX i,lks:=uy P 8 t,cmp:=JK P t}
  |false=>none
 |_,_=>none
abbrev aS:=Nat→Nat→Option Value
def iC (S S':aS):Prop:=∀ k o v,S k o=some v→S' k o=some v
theorem iC.refl (S:aS):iC S S:=fun _ _ _ h=>h
theorem iC.trans {S S' S'':aS} (h:iC S S') (h':iC S' S''):iC S S'':=fun k o v e=>h' k o v (h k o v e)
def fw (S:aS) (b o:Nat) (vs:List Value):Prop:=∀ j u,vs[j]? =some u→S b (o+j)=some u∧u.oneCell'=true
mutual
def PR (S:aS):AV→Value→Prop
 | .int k n,v=>v= .int k n
 | .bool b,v=>v= .bool b
 | .str s,v=>v= .string ⟨s.toArray⟩
 | .agg l,v=> ∃ vs,v= .agg vs.toArray∧cZ S l vs
 | .tup l,v=> ∃ vs,v= .tuple vs.toArray∧cZ S l vs
 | .nilS,v=>v= .slice none 0 0
 | .sl xs n nn,v=> ∃ a cap,v= .slice a n cap∧n≤cap∧((a=none∧nn=false∧xs= []∧n=0∧cap=0)∨∃ b o vs,a=some ⟨b,o,none⟩∧cZ S xs vs∧fw S b o vs)
 | .pp xs off,v=> ∃ b o vs,v= .pointer (some ⟨b,o+off,none⟩)∧cZ S xs vs∧fw S b o vs
 | .nilP,v=>v= .pointer none
 | .fn f a c,v=> ∃ va vc,v= .func (.func f) va.toArray vc.toArray∧cZ S a va∧cZ S c vc
 | .nilF,v=>v= .nilFunc
 | .ifc t x,v=> ∃ u,v= .iface t u∧PR S x u
 | .nilI,v=>v= .nilIface
 | .dead,_=>True
 | .ref _ _ _ _,_=>False
 | .ptr _ _ _,_=>False
 | .own _ _ _,_=>False
def cZ (S:aS):List AV→List Value→Prop
 | [],[]=>True
 |x::r,v::vs=>PR S x v∧cZ S r vs
 |_,_=>False
end
abbrev bX:=Nat→Option a_
abbrev aX:=Nat→Nat × Nat
mutual
def VR (g:bX) (m:aX) (S:aS):AV→Value→Prop
 | .ref b ver i n,v=> ∃ B,g b=some B∧ver≤B.ver∧(∃ k o c',v= .slice (some ⟨k,o,none⟩) n c')∧(B.ver=ver→∃ o,v= .slice (some ⟨(m b).1,o,none⟩) n ((m b).2 - i)∧i+n≤(m b).2∧(i<(m b).2→o=i*B.esz)∧0<B.esz)
 | .ptr b ver off,v=> ∃ B,g b=some B∧ver≤B.ver∧(∃ k o,v= .pointer (some ⟨k,o,none⟩))∧(B.ver=ver→v= .pointer (some ⟨(m b).1,off,none⟩))
 | .agg l,v=> ∃ vs,v= .agg vs.toArray∧bn g m S l vs
 | .tup l,v=> ∃ vs,v= .tuple vs.toArray∧bn g m S l vs
 | .fn f a c,v=> ∃ va vc,v= .func (.func f) va.toArray vc.toArray∧bn g m S a va∧bn g m S c vc
 | .ifc t x,v=> ∃ u,v= .iface t u∧VR g m S x u
 | .int k n,v=>PR S (.int k n) v
 | .bool b,v=>PR S (.bool b) v
 | .str s,v=>PR S (.str s) v
 | .nilS,v=>PR S .nilS v
 | .sl xs n nn,v=>PR S (.sl xs n nn) v
 | .pp xs off,v=>PR S (.pp xs off) v
 | .nilP,v=>PR S .nilP v
 | .nilF,v=>PR S .nilF v
 | .nilI,v=>PR S .nilI v
 | .dead,_=>True
 | .own _ _ _,_=>False
def bn (g:bX) (m:aX) (S:aS):List AV→List Value→Prop
 | [],[]=>True
 |x::r,v::vs=>VR g m S x v∧bn g m S r vs
 |_,_=>False
end
def bp (x y:AV):Prop:=∀ g m S v,VR g m S x v→VR g m S y v
inductive lW where
 |v (d:Nat) (x:AV)
 |b (d:Nat) (xs:List AV)
inductive fq where
 |ret (v:AV)
 |pan (v:AV)
structure Cx where
 cl:Bool
 orc:List Bool
 bs:List Bool
 ps:List Prop
 ans:List (fq × List a_)
 hs:List lW
inductive R (α:Type) where
 |ok (a:α) (c:Cx)
 |need
 |bad (n:Nat)
def R.bind {α β:Type} (r:R α) (f:α→Cx→R β):R β:=
 match r with
 | .ok a c=>f a c
 | .need=> .need
 | .bad n=> .bad n
def lit (o b:Bool):Bool:=match o with|true=>b|false=> !b
def GF (c:Cx) (bs:List Bool):R Unit:=
 match c.cl with
 |true=>match bs.all id with|true=> .ok () c|false=> .bad 1
 |false=> .ok () {c with bs:=bs++c.bs}
def nZ (c:Cx) (b:Bool):R Bool:=
 match c.cl with
 |true=> .ok b c
 |false=>match c.orc with
  | []=> .need
  |o::r=> .ok o {c with orc:=r,bs:=lit o b::c.bs}
def rD (c:Cx) (dst:Option Nat) (v:AV):AV × Cx:=
 match c.hs,dst with
 | .v d x::r,some d'=>match Nat.beq d d' with
  |true=>(x,{c with hs:=r,ps:=bp v x::c.ps})
  |false=>(v,c)
 |_,_=>(v,c)
def rC (c:Cx) (dst:Option Nat) (ups:List (Nat × a_)):List (Nat × a_) × Cx:=
 match c.hs,dst,ups with
 | .b d xs::r,some d',[(b,B)]=>match Nat.beq d d' with
  |true=>([(b,{B with cells:=xs})],{c with hs:=r,ps:=(B.cells=xs)::c.ps})
  |false=>(ups,c)
 |_,_,_=>(ups,c)
abbrev bN:=Cx→AV→Nat→List AV→List a_→R (fq × List a_ × AV)
def mf (rd:Nat→Option a_):Nat→List Nat→List Nat
 |0,l=>l
 |n+1,l=>
  let more:=l.flatMap fun b=>match rd b with|some B=>(match B.pr with|true=> []|false=>cA B.cells)|none=> []
  let l':=more.foldl (fun acc b=>if kq acc b then acc else acc++ [b]) l
  match Nat.beq l'.length l.length with|true=>l|false=>mf rd n l'
def frz (rd:Nat→Option a_):Nat→AV→Option AV
 |0,_=>none
 | fuel+1,x=>
  let frzL (l:List AV):Option (List AV):=fj (frz rd fuel) l
  match x with
  | .ref b ver i n=>(rd b).bind fun B=>match Nat.beq B.ver ver with
   |true=>match B.pr with
    |true=>some (.sl ((B.cells.drop (i*B.esz)).take (n*B.esz)) n true)
    |false=>(frzL ((B.cells.drop (i*B.esz)).take (n*B.esz))).map fun l=> .sl l n true
   |false=>none
  | .ptr b ver off=>(rd b).bind fun B=>match Nat.beq B.ver ver with
   |true=>match B.pr with
    |true=>some (.pp B.cells off)
    |false=>(frzL B.cells).map fun l=> .pp l off
   |false=>none
  | .agg l=>(frzL l).map .agg
  | .tup l=>(frzL l).map .tup
  | .fn f a c=>(frzL a).bind fun a=>(frzL c).map fun c=> .fn f a c
  | .ifc t v=>(frz rd fuel v).map (.ifc t)
  | .own _ _ _=>none
  |x=>some x
def iU (l:List Nat) (b:Nat):Option Nat:=match l with
 | []=>none
 |c::r=>match Nat.beq c b with|true=>some 0|false=>(iU r b).map (· +1)
def vM (xs:List AV) (esz:Nat):a_:={cells:=xs,ver:=0,fro:=false,fz:=0,esz,pr:=true}
def cR (nid:Nat):List AV→List AV × List a_
 | []=>([],[])
 | .own xs n esz::r=>match cR (nid+1) r with|(l,bs)=>(.ref nid 0 0 n::l,vM xs esz::bs)
 |x::r=>match cR nid r with|(l,bs)=>(x::l,bs)
def fS (nid:Nat):AV→AV × List a_
 | .tup l=>match cR nid l with|(l,bs)=>(.tup l,bs)
 | .own xs n esz=>(.ref nid 0 0 n,[vM xs esz])
 |x=>(x,[])
def tI:Nat→List a_→List (Nat × a_)
 |_,[]=> []
 |n,B::r=>(n,B)::tI (n+1) r
def yh:List Nat→List a_→List (Nat × a_)
 |b::r,B::q=>(b,B)::yh r q
 |_,_=> []
def jQ:List Nat→Bool
 | []=>true
 |b::r=> !kq r b && jQ r
structure De where
 out:fq
 ups:List (Nat × a_)
 fp:List Nat
 md:AV
def kB (ap:AP) (H:bN) (rd:Nat→Option a_) (nid:Nat) (md:AV) (f:Nat) (args:List AV) (c:Cx):R De:=
 let fp:=mf rd 6 (ef (cA args))
 let rd:=fun b=>match kq fp b with|true=>rd b|false=>none
 let shared:=match ap.fnAt f with|some F=>F.shared|none=>false
 match shared with
 | false=>
  match fj (frz rd 6) args with
  |none=> .bad 10
  |some args'=>
   (H c md f args' []).bind fun (out,h',md) c=>
   match h' with
   |_::_=> .bad 14
   | []=>
   let mark:=fp.filterMap fun b=>(rd b).map fun B=>(b,{B with fro:=true,fz:=B.cells.length})
   match out with
   | .ret v=>match fS nid v with|(v,bs)=>match Nat.ble bs.length 4 with|true=> .ok {out:= .ret v,ups:=tI nid bs++mark,fp,md} c|false=> .bad 13
   | .pan v=> .ok {out:= .pan v,ups:=mark,fp,md} c
 | true=>
  let vers:=fun b=>match rd b with|some B=>B.ver|none=>0
  let ρ:Nat→Nat→Option (Nat × Nat):=fun b v=>match Nat.beq v (vers b) with|true=>(iU fp b).map fun p=>(p,0)|false=>none
  let ρ':Nat→Nat→Option (Nat × Nat):=fun p v=>(fp[p]?).map fun b=>(b,vers b+v)
  match fj rd fp with
  |none=> .bad 11
  | some bl=>
   (H c md f (gB ρ args) (bl.map fun B=> {B with cells:=(match B.pr with|true=>B.cells|false=>gB ρ B.cells),ver:=0})).bind fun (out,h',md) c=>
   match Nat.beq h'.length fp.length && jQ fp with
   |false=> .bad 12
   |true=>
    let ups:=(yh fp h').map fun (b,B)=>(b,{B with cells:=(match B.pr with|true=>B.cells|false=>gB ρ' B.cells),ver:=vers b+B.ver})
    match out with
    | .ret v=>match fS nid (ren ρ' v) with|(v,bs)=>match Nat.ble bs.length 4 with|true=> .ok {out:= .ret v,ups:=tI nid bs++ups,fp,md} c|false=> .bad 13
    | .pan v=> .ok {out:= .pan (ren ρ' v),ups,fp,md} c
inductive bk where
 |normal
 |exit (id:Nat)
 |ret
 |panic (v:AV)
structure St where
 env:dQ
 hp:Hp
 md:AV
 dfs:List (Nat × List AV)
structure qI where
 rt:List Nat
 wt:List Nat
 rb:List Nat
 wb:List Nat
structure RS where
 env:dQ
 hp:Hp
 md:AV
 dfs:List (Nat × List AV)
 dec:List (Nat × Bool)
 feet:List qI
def kV (l:List Operand):List Nat:=l.filterMap fun| .tmp t=>some t|_=>none
def wS (o:Oper):List Nat:=match o.dst with|some d=> [d]|none=> []
def jx (env:dQ) (dst:Option Nat) (v:AV):dQ:=match dst with|some d=>(d,v)::env|none=>env
def jp (ap:AP) (env:dQ):Operand→AV
 | .tmp t=>env.get t
 | .const v=>rW v
 | .global g=>match (ap.gl[g]?).join with|some xs=> .pp xs 0|none=> .dead
 | .func f=> .fn f [] []
def yS (ops:List Oper) (env:dQ) (dec:List (Nat × Bool)) (o:Oper) (c:Cx):R (Bool × List (Nat × Bool)):=
 match o.guard with
 |none=> .ok (true,dec) c
 | some (j,want)=>
  match (ops[j]?).bind (·.dst) with
  |none=> .bad 20
  | some s=>match av dec s with
   |some b=> .ok (lit want b,dec) c
   |none=>match env.get s with
    | .bool b=>(nZ c b).bind fun b' c=> .ok (lit want b',(s,b')::dec) c
    | .tup []=> .ok (false,dec) c
    |_=> .bad 21
def eE (ops:List Oper) (o:Oper):List Nat:=
 match o.guard with
 |none=> []
 |some (j,_)=>match (ops[j]?).bind (·.dst) with|none=> []|some s=> [s]
def DW (dec:List (Nat × Bool)) (o:Oper):Bool:=match o.dst with|none=>true|some d=>match av dec d with|none=>true|some _=>false
def Fj (ap:AP) (H:bN) (nid:Nat) (ops:List Oper) (o:Oper) (s:RS) (c:Cx):R (RS × Option AV):=
 (yS ops s.env s.dec o c).bind fun (run,dec) c=>
 let rt:=kV o.op.operands.toList++eE ops o
 match DW dec o with
 |false=> .bad 35
 |true=>
 match run with
 |false=> .ok ({s with env:=jx s.env o.dst (.tup []),dec,feet:={rt,wt:=wS o,rb:= [],wb:= []}::s.feet},none) c
 | true=>
  let ρ:=jp ap s.env
  let rdAll:=av s.hp
  match o.op with
  | .call {callee:= .value g,args,..}=>
   match ρ g with
   | .fn f first cap=>
    (kB ap H rdAll nid .dead f (first++args.toList.map ρ++cap) c).bind fun r c=>
    let foot:qI:={rt,wt:=wS o,rb:=r.fp,wb:=r.ups.map fun (q:Nat × a_)=>q.1}
    match r.out with
    | .ret v=> .ok ({s with env:=jx s.env o.dst v,hp:=r.ups++s.hp,dec,feet:=foot::s.feet},none) c
    | .pan v=> .ok ({s with hp:=r.ups++s.hp,dec,feet:=foot::s.feet},some v) c
   |_=> .bad 30
  | .call {callee:= .builtin .recover,..}=>
   match s.md with
   | .nilI=> .ok ({s with env:=jx s.env o.dst .nilI,dec,feet:={rt,wt:=wS o,rb:= [],wb:= []}::s.feet},none) c
   | .ifc t v=> .ok ({s with env:=jx s.env o.dst (.ifc t v),md:= .nilI,dec,feet:={rt,wt:=wS o,rb:= [],wb:= []}::s.feet},none) c
   |_=> .bad 33
  | .defer {callee:= .value g,args,..}=>
   match ρ g with
   | .fn f first cap=> .ok ({s with env:=jx s.env o.dst .dead,dfs:=(f,first++args.toList.map ρ++cap)::s.dfs,dec,feet:={rt,wt:=wS o,rb:= [],wb:= []}::s.feet},none) c
   |_=> .bad 34
  | .panic x=>
   match ρ x with
   | .ifc t v=> .ok ({s with dec},some (.ifc t v)) c
   |_=> .bad 31
  | op=>
   let fp:=EO ρ op
   let rd:=fun b=>match kq fp b with|true=>rdAll b|false=>none
   let decs:Operand→Option Bool:=fun| .tmp t=>av dec t|_=>none
   (match m_ ρ op with|some n=>nZ c (Nat.beq n 0)|none=> .ok false c).bind fun em c=>
   match Sc ap nid ρ rd decs em op with
   |none=> .bad 32
   | some (v,ups,bs)=>(GF c bs).bind fun _ c=>
    match rD c o.dst v with
    |(v,c)=>match rC c o.dst ups with
     |(ups,c)=> .ok ({s with env:=jx s.env o.dst v,hp:=ups++s.hp,dec,feet:={rt,wt:=wS o,rb:=fp,wb:=ups.map fun (q:Nat × a_)=>q.1}::s.feet},none) c
def mH (ap:AP) (H:bN) (ops:List Oper):List Oper→Nat→RS→Cx→R (RS × Option AV)
 | [],_,s,c=> .ok (s,none) c
 | o::r,nid,s,c=>(Fj ap H nid ops o s c).bind fun (s,p) c=>
  match p with
  |some v=> .ok (s,some v) c
  |none=>match s.feet with
   |f::_=>match f.wb.all (fun x=>Nat.blt x (nid+4)) with|true=>mH ap H ops r (nid+4) s c|false=> .bad 43
   | []=> .bad 44
def rP (a b:List Nat):Bool:=a.any (kq b)
def fa (a b:qI):Bool:=rP a.wt b.rt||rP a.wt b.wt||rP a.rt b.wt||rP a.wb b.rb||rP a.wb b.wb||rP a.rb b.wb
def rY (n:Nat) (bef:List Nat) (feet:List qI):Bool:=
 let l:=feet.reverse.zipIdx
 l.all fun (a,i)=>l.all fun (b,j)=> !(Nat.blt i j)|| !(fa a b||b.wb.any fun x=>Nat.ble (n+4*i) x && Nat.blt x (n+4*i+4))||(bef.getD j 0).testBit i
def rp (keep:List Nat) (env:dQ):List Nat:=keep.flatMap fun t=>dF (env.get t)
def norm (base:Nat) (keep:List Nat) (s:St):St:=
 let env:=s.env
 let hp:=s.hp
 let rd:=av hp
 let ids:=mf rd 20 (ef (List.range base++rp keep env++s.dfs.flatMap fun d=>cA d.2))
 let ids:=ids.filter fun b=>(rd b).isSome
 let ρ:Nat→Nat→Option (Nat × Nat):=fun b v=>match rd b with
  |some B=>match Nat.beq B.ver v with
   |true=>(iU ids b).map fun p=>(p,match Nat.blt p base with|true=>v|false=>0)
   |false=>none
  |none=>none
 {env:=keep.map fun t=>(t,ren ρ (env.get t))
  hp:=ids.zipIdx.filterMap fun (b,p)=>(rd b).map fun B=>(p,{B with cells:=(match B.pr with|true=>B.cells|false=>gB ρ B.cells),ver:=match Nat.blt p base with|true=>B.ver|false=>0})
  md:=s.md
  dfs:=s.dfs.map fun d=>(d.1,gB ρ d.2)}
def fE:Hp→Nat
 | []=>0
 |(b,_)::r=>match Nat.blt b (fE r) with|true=>fE r|false=>b+1
def qp (ops:List Oper):Bool:=ops.zipIdx.all fun (o,i)=>o.after.toList.all fun e=> !Region.binds .any e||Nat.blt e.on i
def vP (ap:AP) (H:bN) (base:Nat) (keep:List Nat) (ops:List Oper) (draw:Bool) (s:St) (c:Cx):R (bk × St):=
 (mH ap H ops ops (fE s.hp) {env:=s.env,hp:=s.hp,md:=s.md,dfs:=s.dfs,dec:= [],feet:= []} c).bind fun (s',p) c=>
 match p with
 | some v=>match draw with
  |true=> .bad 40
  |false=>match (dF v).isEmpty with
   |true=> .ok (.panic v,norm base keep ⟨s'.env,s'.hp,s'.md,s'.dfs⟩) c
   |false=> .ok (.panic v,⟨s'.env,s'.hp,s'.md,s'.dfs⟩) c
 |none=>
  match !draw||(rY (fE s.hp) (Region.before ops.toArray).toList s'.feet && qp ops && Nat.beq s'.dfs.length s.dfs.length) with
  |true=> .ok (.normal,norm base keep ⟨s'.env,s'.hp,s'.md,s'.dfs⟩) c
  |false=> .bad 41
def Aq (f:St→Cx→R (bk × St)):Nat→St→Cx→R (bk × St)
 |0,_,_=> .bad 50
 |n+1,s,c=>(f s c).bind fun (e,s) c=>match e with
  | .normal=>Aq f n s c
  |e=> .ok (e,s) c
def fJ (ap:AP) (H:bN) (base:Nat) (keep:List Nat) (lf:Nat):Code→St→Cx→R (bk × St)
 | .skip,s,c=> .ok (.normal,s) c
 | .label _,s,c=> .ok (.normal,s) c
 | .region _ ops draw,s,c=>vP ap H base keep ops.toList draw s c
 | .seq a b,s,c=>(fJ ap H base keep lf a s c).bind fun (e,s) c=>match e with
  | .normal=>fJ ap H base keep lf b s c
  |e=> .ok (e,s) c
 | .cond t a b,s,c=>match jp ap s.env t with
  | .bool x=>(nZ c x).bind fun x c=>match x with
   |true=>fJ ap H base keep lf a s c
   |false=>fJ ap H base keep lf b s c
  |_=> .bad 60
 | .block id b,s,c=>(fJ ap H base keep lf b s c).bind fun (e,s) c=>match e with
  | .exit id'=>match Nat.beq id' id with|true=> .ok (.normal,s) c|false=> .ok (.exit id',s) c
  |e=> .ok (e,s) c
 | .loop b,s,c=>Aq (fJ ap H base keep lf b) lf s c
 | .exit id,s,c=> .ok (.exit id,s) c
 | .ret,s,c=> .ok (.ret,s) c
 | .scope b,s,c=>fJ ap H base keep lf b s c
 |_,_,_=> .bad 61
def nJ (ap:AP) (env:dQ) (hp:Hp):ResultVar→Option (AV × List Bool)
 | .tmp t=>some (env.get t,[])
 | .cell a t=>(ap.tyAt t).bind fun ti=>(xj ti (av hp) (env.get a)).map fun (v,_,bs)=>(v,bs)
def cV (l:List Nat) (b:Nat):Nat:=(l.filter (Nat.beq b)).length
def GM (base:Nat) (rd:Nat→Option a_) (v:AV):Option AV:=
 let fp:=mf rd 6 (ef (dF v))
 match fp.all (fun b=>Nat.ble base b) with
 |true=>frz (fun b=>match kq fp b with|true=>rd b|false=>none) 6 v
 |false=>none
def jM (base:Nat) (rd:Nat→Option a_) (all:List Nat) (v:AV):Option AV:=
 let frzO (v:AV):Option AV:=match (dF v).all (fun b=>Nat.blt b base) with|true=>some v|false=>GM base rd v
 match v with
 | .ref b ver 0 n=>match rd b with
  |some B=>match Nat.ble base b && Nat.beq B.ver ver && !B.fro && B.pr && Nat.beq (cV all b) 1 && Nat.blt 0 B.esz with
   |true=>some (.own (B.cells.take (n*B.esz)) n B.esz)
   |false=>frzO v
  |none=>none
 |v=>frzO v
def ae (f:Func):Code:=f.body.getD .skip
def h_ (md:AV) (args:List AV) (h:List a_):St:=
 {env:=args.zipIdx.map fun (x,i)=>(i,x),hp:=h.zipIdx.map fun (B,i)=>(i,B),md,dfs:= []}
def NS:AV→Bool
 | .nilI=>true
 | .ifc _ _=>true
 |_=>false
def rH (ap:AP) (H:bN):List (Nat × List AV)→AV→Hp→Cx→R (AV × Hp)
 | [],mode,hp,c=> .ok (mode,hp) c
 |(f,args)::r,mode,hp,c=>
  match NS mode && (dF mode).isEmpty with
  |false=> .bad 78
  |true=>
  (kB ap H (av hp) (fE hp) mode f args c).bind fun q c=>
  match q.out with
  | .ret _=>rH ap H r q.md (q.ups++hp) c
  | .pan _=> .bad 75
def lr (ap:AP) (base:Nat) (F:Func) (env:dQ) (hp:Hp) (c:Cx):R (fq × List a_):=
 let rd:=av hp
 match fj (nJ ap env hp) F.results.toList,fj rd (List.range base) with
 |some vs,some h'=>
  match h'.all (fun B=>B.pr||(cA B.cells).all fun b=>Nat.blt b base) with
  |false=> .bad 76
  |true=>
  (GF c (vs.flatMap fun (q:AV × List Bool)=>q.2)).bind fun _ c=>
  let all:=vs.flatMap fun (q:AV × List Bool)=>mf rd 6 (ef (dF q.1))
  match fj (jM base rd all) (vs.map fun (q:AV × List Bool)=>q.1) with
  |some [v]=> .ok (.ret v,h') c
  |some l=> .ok (.ret (.tup l),h') c
  |none=> .bad 70
 |_,_=> .bad 71
def vO (base:Nat) (v:AV) (hp:Hp) (c:Cx):R (fq × List a_):=
 match jM base (av hp) (mf (av hp) 6 (ef (dF v))) v,fj (av hp) (List.range base) with
 |some v,some h'=>
  match h'.all (fun B=>B.pr||(cA B.cells).all fun b=>Nat.blt b base) with
  |false=> .bad 77
  |true=> .ok (.pan v,h') c
 |_,_=> .bad 72
def qu (ap:AP) (H:bN) (base:Nat) (F:Func) (e:bk) (s:St) (c:Cx):R (fq × List a_ × AV):=
 let go (mode:AV):R (fq × List a_ × AV):=
  (rH ap H s.dfs mode s.hp c).bind fun (mode,hp) c=>
  match mode with
  | .nilI=>(lr ap base F s.env hp c).bind fun (o,h) c=> .ok (o,h,s.md) c
  | .ifc t v=>(vO base (.ifc t v) hp c).bind fun (o,h) c=> .ok (o,h,s.md) c
  |_=> .bad 74
 match e with
 | .normal| .ret=>go .nilI
 | .panic (.ifc t v)=>match (dF v).isEmpty with|true=>go (.ifc t v)|false=> .bad 79
 |_=> .bad 73
def Dx (ap:AP) (H:bN) (lf:Nat) (md:AV) (F:AF) (args:List AV) (h:List a_) (c:Cx):R (fq × List a_ × AV):=
 match ae F.fn with
 | .seq (.region _ ops false) rest=>
  match ops.toList with
  | o ::r=>
   match o.op,o.guard,o.dst with
   | .call {callee:= .builtin .recover,..},none,some d=>
    let s0:=h_ .dead args h
    (mH ap H (o::r) r (fE s0.hp) {env:=(d,md)::s0.env,hp:=s0.hp,md:= .dead,dfs:= [],dec:= [],feet:= []} c).bind fun (s,p) c=>
    match p with
    |some _=> .bad 81
    | none=>(fJ ap H h.length F.keep lf rest (norm h.length F.keep ⟨s.env,s.hp,s.md,s.dfs⟩) c).bind fun (e,s) c=>
     match s.dfs with
     |_::_=> .bad 82
     | []=>match e with
      | .normal| .ret=>(lr ap h.length F.fn s.env s.hp c).bind fun (o,h) c=> .ok (o,h,.nilI) c
      |_=> .bad 83
   |_,_,_=> .bad 84
  | []=> .bad 85
 |_=> .bad 86
def kA (ap:AP) (H:bN) (lf:Nat) (md:AV) (f:Nat) (args:List AV) (h:List a_) (c:Cx):R (fq × List a_ × AV):=
 match ap.fnAt f with
 |none=> .bad 80
 |some F=>match md with
  | .dead=>(fJ ap H h.length F.keep lf (ae F.fn) (h_ .dead args h) c).bind fun (e,s) c=>qu ap H h.length F.fn e s c
  |md=>match NS md && (dF md).isEmpty with|true=>Dx ap H lf md F args h c|false=> .bad 87
theorem lX {S:aS}:∀ {l:List AV} {vs:List Value},cZ S l vs→l.length=vs.length
 | [],[],_=>rfl
 |_::_,_::_,h=>by simp only [cZ] at h;simp [lX h.2]
 | [],_::_,h=>by simp [cZ] at h
 |_::_,[],h=>by simp [cZ] at h
theorem bz {g:bX} {m:aX} {S:aS}:∀ {l:List AV} {vs:List Value},bn g m S l vs→l.length=vs.length
 | [],[],_=>rfl
 |_::_,_::_,h=>by simp only [bn] at h;simp [bz h.2]
 | [],_::_,h=>by simp [bn] at h
 |_::_,[],h=>by simp [bn] at h
theorem jH {g:bX} {m:aX} {S:aS}:∀ {l:List AV} {vs:List Value} (_:bn g m S l vs) (i:Nat) {x:AV},l[i]? =some x→∃ v,vs[i]? =some v∧VR g m S x v
 | [],[],_,i,x,hx=>by simp at hx
 |a::l,v::vs,h,0,x,hx=>by simp only [bn] at h;simp at hx;subst hx;exact ⟨v,rfl,h.1⟩
 |a::l,v::vs,h,i+1,x,hx=>by simp only [bn] at h;simp at hx;simpa using jH h.2 i hx
 | [],_::_,h,_,_,_=>by simp [bn] at h
 |_::_,[],h,_,_,_=>by simp [bn] at h
theorem gU {S:aS}:∀ {l l':List AV} {vs vs':List Value},cZ S l vs→cZ S l' vs'→cZ S (l++l') (vs++vs')
 | [],_,[],_,_,h'=>by simpa using h'
 |_::_,_,_::_,_,h,h'=>by simp only [cZ] at h;simp only [List.cons_append,cZ];exact ⟨h.1,gU h.2 h'⟩
 | [],_,_::_,_,h,_=>by simp [cZ] at h
 |_::_,_,[],_,h,_=>by simp [cZ] at h
theorem dW {g:bX} {m:aX} {S:aS}:∀ {l l':List AV} {vs vs':List Value},bn g m S l vs→bn g m S l' vs'→bn g m S (l++l') (vs++vs')
 | [],_,[],_,_,h'=>by simpa using h'
 |_::_,_,_::_,_,h,h'=>by simp only [bn] at h;simp only [List.cons_append,bn];exact ⟨h.1,dW h.2 h'⟩
 | [],_,_::_,_,h,_=>by simp [bn] at h
 |_::_,_,[],_,h,_=>by simp [bn] at h
theorem fu {S:aS}:∀ (n:Nat) {l:List AV} {vs:List Value},cZ S l vs→cZ S (l.take n) (vs.take n)
 |0,_,_,_=>by simp [cZ]
 |n+1,[],[],_=>by simp [cZ]
 |n+1,_::_,_::_,h=>by simp only [cZ] at h;simp only [List.take_succ_cons,cZ];exact ⟨h.1,fu n h.2⟩
 |_+1,[],_::_,h=>by simp [cZ] at h
 |_+1,_::_,[],h=>by simp [cZ] at h
theorem jc {S:aS}:∀ (n:Nat) {l:List AV} {vs:List Value},cZ S l vs→cZ S (l.drop n) (vs.drop n)
 |0,_,_,h=>by simpa using h
 |n+1,[],[],_=>by simp [cZ]
 |n+1,_::_,_::_,h=>by simp only [cZ] at h;simpa using jc n h.2
 |_+1,[],_::_,h=>by simp [cZ] at h
 |_+1,_::_,[],h=>by simp [cZ] at h
theorem jd {g:bX} {m:aX} {S:aS}:∀ (n:Nat) {l:List AV} {vs:List Value},bn g m S l vs→bn g m S (l.take n) (vs.take n)
 |0,_,_,_=>by simp [bn]
 |n+1,[],[],_=>by simp [bn]
 |n+1,_::_,_::_,h=>by simp only [bn] at h;simp only [List.take_succ_cons,bn];exact ⟨h.1,jd n h.2⟩
 |_+1,[],_::_,h=>by simp [bn] at h
 |_+1,_::_,[],h=>by simp [bn] at h
theorem kw {g:bX} {m:aX} {S:aS}:∀ (n:Nat) {l:List AV} {vs:List Value},bn g m S l vs→bn g m S (l.drop n) (vs.drop n)
 |0,_,_,h=>by simpa using h
 |n+1,[],[],_=>by simp [bn]
 |n+1,_::_,_::_,h=>by simp only [bn] at h;simpa using kw n h.2
 |_+1,[],_::_,h=>by simp [bn] at h
 |_+1,_::_,[],h=>by simp [bn] at h
theorem fw.mono {S S':aS} (h:iC S S') {b o:Nat} {vs:List Value} (hs:fw S b o vs):fw S' b o vs:=fun j u hu=> ⟨h _ _ _ (hs j u hu).1,(hs j u hu).2⟩
mutual
theorem bR {S S':aS} (h:iC S S'):∀ (x:AV) {v:Value},PR S x v→PR S' x v
 | .int _ _,_,p=>by simpa only [PR] using p
 | .bool _,_,p=>by simpa only [PR] using p
 | .str _,_,p=>by simpa only [PR] using p
 | .nilS,_,p=>by simpa only [PR] using p
 | .nilP,_,p=>by simpa only [PR] using p
 | .nilF,_,p=>by simpa only [PR] using p
 | .nilI,_,p=>by simpa only [PR] using p
 | .dead,_,_=>by simp only [PR]
 | .agg l,_,p=>by
  simp only [PR] at p ⊢
  obtain ⟨vs,e,q⟩:=p
  exact ⟨vs,e,bU h l q⟩
 | .tup l,_,p=>by
  simp only [PR] at p ⊢
  obtain ⟨vs,e,q⟩:=p
  exact ⟨vs,e,bU h l q⟩
 | .sl xs n nn,_,p=>by
  simp only [PR] at p ⊢
  obtain ⟨a,cap,e,hle,q⟩:=p
  refine ⟨a,cap,e,hle, ?_⟩
  rcases q with q|⟨b,o,vs,e1,q,hs⟩
  ·exact .inl q
  ·exact .inr ⟨b,o,vs,e1,bU h xs q,hs.mono h⟩
 | .pp xs off,_,p=>by
  simp only [PR] at p ⊢
  obtain ⟨b,o,vs,e,q,hs⟩:=p
  exact ⟨b,o,vs,e,bU h xs q,hs.mono h⟩
 | .fn f a c,_,p=>by
  simp only [PR] at p ⊢
  obtain ⟨va,vc,e,q,r⟩:=p
  exact ⟨va,vc,e,bU h a q,bU h c r⟩
 | .ifc t x,_,p=>by
  simp only [PR] at p ⊢
  obtain ⟨u,e,q⟩:=p
  exact ⟨u,e,bR h x q⟩
 | .ref _ _ _ _,_,p=>by simp only [PR] at p
 | .ptr _ _ _,_,p=>by simp only [PR] at p
 | .own _ _ _,_,p=>by simp only [PR] at p
theorem bU {S S':aS} (h:iC S S'):∀ (l:List AV) {vs:List Value},cZ S l vs→cZ S' l vs
 | [],[],_=>by simp only [cZ]
 |x::r,v::vs,p=>by simp only [cZ] at p ⊢;exact ⟨bR h x p.1,bU h r p.2⟩
 | [],_::_,p=>by simp [cZ] at p
 |_::_,[],p=>by simp [cZ] at p
end
mutual
theorem dC {g:bX} {m:aX} {S:aS}:∀ (x:AV) {v:Value},PR S x v→VR g m S x v
 | .int _ _,_,p=>by simpa only [VR] using p
 | .bool _,_,p=>by simpa only [VR] using p
 | .str _,_,p=>by simpa only [VR] using p
 | .nilS,_,p=>by simpa only [VR] using p
 | .nilP,_,p=>by simpa only [VR] using p
 | .nilF,_,p=>by simpa only [VR] using p
 | .nilI,_,p=>by simpa only [VR] using p
 | .sl _ _ _,_,p=>by simpa only [VR] using p
 | .pp _ _,_,p=>by simpa only [VR] using p
 | .dead,_,_=>by simp only [VR]
 | .agg l,_,p=>by
  simp only [PR] at p;simp only [VR]
  obtain ⟨vs,e,q⟩:=p
  exact ⟨vs,e,bH l q⟩
 | .tup l,_,p=>by
  simp only [PR] at p;simp only [VR]
  obtain ⟨vs,e,q⟩:=p
  exact ⟨vs,e,bH l q⟩
 | .fn f a c,_,p=>by
  simp only [PR] at p;simp only [VR]
  obtain ⟨va,vc,e,q,r⟩:=p
  exact ⟨va,vc,e,bH a q,bH c r⟩
 | .ifc t x,_,p=>by
  simp only [PR] at p;simp only [VR]
  obtain ⟨u,e,q⟩:=p
  exact ⟨u,e,dC x q⟩
 | .ref _ _ _ _,_,p=>by simp only [PR] at p
 | .ptr _ _ _,_,p=>by simp only [PR] at p
 | .own _ _ _,_,p=>by simp only [PR] at p
theorem bH {g:bX} {m:aX} {S:aS}:∀ (l:List AV) {vs:List Value},cZ S l vs→bn g m S l vs
 | [],[],_=>by simp only [bn]
 |x::r,v::vs,p=>by simp only [cZ] at p;simp only [bn];exact ⟨dC x p.1,bH r p.2⟩
 | [],_::_,p=>by simp [cZ] at p
 |_::_,[],p=>by simp [cZ] at p
end
def kg (g:bX) (m:aX) (g':bX) (m':aX) (ρ:Nat→Nat→Option (Nat × Nat)):Prop:=
 ∀ b ver b' ver',ρ b ver=some (b',ver')→∀ B,g b=some B→ver≤B.ver→
  ∃ B',g' b'=some B'∧ver'≤B'.ver∧(B'.ver=ver'→B.ver=ver∧m' b'=m b∧B'.esz=B.esz)
mutual
theorem nX {g g':bX} {m m':aX} {S S':aS} {ρ:Nat→Nat→Option (Nat × Nat)} (hS:iC S S') (h:kg g m g' m' ρ):∀ (x:AV) {v:Value},VR g m S x v→VR g' m' S' (ren ρ x) v
 | .int k n,_,p=>by simp only [VR] at p;simp only [ren,VR];exact bR hS _ p
 | .bool _,_,p=>by simp only [VR] at p;simp only [ren,VR];exact bR hS _ p
 | .str _,_,p=>by simp only [VR] at p;simp only [ren,VR];exact bR hS _ p
 | .nilS,_,p=>by simp only [VR] at p;simp only [ren,VR];exact bR hS _ p
 | .nilP,_,p=>by simp only [VR] at p;simp only [ren,VR];exact bR hS _ p
 | .nilF,_,p=>by simp only [VR] at p;simp only [ren,VR];exact bR hS _ p
 | .nilI,_,p=>by simp only [VR] at p;simp only [ren,VR];exact bR hS _ p
 | .sl _ _ _,_,p=>by simp only [VR] at p;simp only [ren,VR];exact bR hS _ p
 | .pp _ _,_,p=>by simp only [VR] at p;simp only [ren,VR];exact bR hS _ p
 | .dead,_,_=>by simp only [ren,VR]
 | .own _ _ _,_,p=>by simp only [VR] at p
 | .agg l,_,p=>by
  simp only [VR] at p;simp only [ren,VR]
  obtain ⟨vs,e,q⟩:=p
  exact ⟨vs,e,fA hS h l q⟩
 | .tup l,_,p=>by
  simp only [VR] at p;simp only [ren,VR]
  obtain ⟨vs,e,q⟩:=p
  exact ⟨vs,e,fA hS h l q⟩
 | .fn f a c,_,p=>by
  simp only [VR] at p;simp only [ren,VR]
  obtain ⟨va,vc,e,q,r⟩:=p
  exact ⟨va,vc,e,fA hS h a q,fA hS h c r⟩
 | .ifc t x,_,p=>by
  simp only [VR] at p;simp only [ren,VR]
  obtain ⟨u,e,q⟩:=p
  exact ⟨u,e,nX hS h x q⟩
 | .ref b ver i n,_,p=>by
  simp only [VR] at p;simp only [ren]
  obtain ⟨B,hB,hv,hsh,q⟩:=p
  cases hρ:ρ b ver with
  |none=>simp only [VR]
  |some bv=>
   obtain ⟨b',ver'⟩:=bv
   obtain ⟨B',hB',hv',hc⟩:=h b ver b' ver' hρ B hB hv
   simp only [VR]
   refine ⟨B',hB',hv',hsh,fun e=> ?_⟩
   obtain ⟨e1,e2,e3⟩:=hc e
   rw [e2,e3]
   exact q e1
 | .ptr b ver off,_,p=>by
  simp only [VR] at p;simp only [ren]
  obtain ⟨B,hB,hv,hsh,q⟩:=p
  cases hρ:ρ b ver with
  |none=>simp only [VR]
  |some bv=>
   obtain ⟨b',ver'⟩:=bv
   obtain ⟨B',hB',hv',hc⟩:=h b ver b' ver' hρ B hB hv
   simp only [VR]
   refine ⟨B',hB',hv',hsh,fun e=> ?_⟩
   obtain ⟨e1,e2,_⟩:=hc e
   rw [e2]
   exact q e1
theorem fA {g g':bX} {m m':aX} {S S':aS} {ρ:Nat→Nat→Option (Nat × Nat)} (hS:iC S S') (h:kg g m g' m' ρ):∀ (l:List AV) {vs:List Value},bn g m S l vs→bn g' m' S' (gB ρ l) vs
 | [],[],_=>by simp only [gB,bn]
 |x::r,v::vs,p=>by simp only [bn] at p;simp only [gB,bn];exact ⟨nX hS h x p.1,fA hS h r p.2⟩
 | [],_::_,p=>by simp [bn] at p
 |_::_,[],p=>by simp [bn] at p
end
def Ge (g:bX) (m:aX) (g':bX) (m':aX):Prop:=
 ∀ b B,g b=some B→∃ B',g' b=some B'∧B'.esz=B.esz∧((B'.ver=B.ver∧m' b=m b)∨B.ver<B'.ver)
theorem Ge.refl (g:bX) (m:aX):Ge g m g m:=fun _ B h=> ⟨B,h,rfl,.inl ⟨rfl,rfl⟩⟩
theorem Ge.trans {g g' g'':bX} {m m' m'':aX} (h:Ge g m g' m') (h':Ge g' m' g'' m''):Ge g m g'' m'':=by
 intro b B hB
 obtain ⟨B',hB',e,c⟩:=h b B hB
 obtain ⟨B'',hB'',e',c'⟩:=h' b B' hB'
 refine ⟨B'',hB'',e'.trans e, ?_⟩
 rcases c with ⟨c1,c2⟩|c<;>rcases c' with ⟨d1,d2⟩|d
 ·exact .inl ⟨d1.trans c1,d2.trans c2⟩
 ·exact .inr (by omega)
 ·exact .inr (by omega)
 ·exact .inr (by omega)
mutual
theorem iH {g g':bX} {m m':aX} {S S':aS} (hS:iC S S') (h:Ge g m g' m'):∀ (x:AV) {v:Value},VR g m S x v→VR g' m' S' x v
 | .int k n,_,p=>by simp only [VR] at p ⊢;exact bR hS _ p
 | .bool _,_,p=>by simp only [VR] at p ⊢;exact bR hS _ p
 | .str _,_,p=>by simp only [VR] at p ⊢;exact bR hS _ p
 | .nilS,_,p=>by simp only [VR] at p ⊢;exact bR hS _ p
 | .nilP,_,p=>by simp only [VR] at p ⊢;exact bR hS _ p
 | .nilF,_,p=>by simp only [VR] at p ⊢;exact bR hS _ p
 | .nilI,_,p=>by simp only [VR] at p ⊢;exact bR hS _ p
 | .sl _ _ _,_,p=>by simp only [VR] at p ⊢;exact bR hS _ p
 | .pp _ _,_,p=>by simp only [VR] at p ⊢;exact bR hS _ p
 | .dead,_,_=>by simp only [VR]
 | .own _ _ _,_,p=>by simp only [VR] at p
 | .agg l,_,p=>by
  simp only [VR] at p ⊢
  obtain ⟨vs,e,q⟩:=p
  exact ⟨vs,e,f_ hS h l q⟩
 | .tup l,_,p=>by
  simp only [VR] at p ⊢
  obtain ⟨vs,e,q⟩:=p
  exact ⟨vs,e,f_ hS h l q⟩
 | .fn f a c,_,p=>by
  simp only [VR] at p ⊢
  obtain ⟨va,vc,e,q,r⟩:=p
  exact ⟨va,vc,e,f_ hS h a q,f_ hS h c r⟩
 | .ifc t x,_,p=>by
  simp only [VR] at p ⊢
  obtain ⟨u,e,q⟩:=p
  exact ⟨u,e,iH hS h x q⟩
 | .ref b ver i n,_,p=>by
  simp only [VR] at p ⊢
  obtain ⟨B,hB,hv,hsh,q⟩:=p
  obtain ⟨B',hB',he,hc⟩:=h b B hB
  rcases hc with ⟨c1,c2⟩|c
  ·refine ⟨B',hB',by omega,hsh,fun e=> ?_⟩
   rw [c2,he]
   exact q (by omega)
  ·exact ⟨B',hB',by omega,hsh,fun e=>by omega⟩
 | .ptr b ver off,_,p=>by
  simp only [VR] at p ⊢
  obtain ⟨B,hB,hv,hsh,q⟩:=p
  obtain ⟨B',hB',he,hc⟩:=h b B hB
  rcases hc with ⟨c1,c2⟩|c
  ·refine ⟨B',hB',by omega,hsh,fun e=> ?_⟩
   rw [c2]
   exact q (by omega)
  ·exact ⟨B',hB',by omega,hsh,fun e=>by omega⟩
theorem f_ {g g':bX} {m m':aX} {S S':aS} (hS:iC S S') (h:Ge g m g' m'):∀ (l:List AV) {vs:List Value},bn g m S l vs→bn g' m' S' l vs
 | [],[],_=>by simp only [bn]
 |x::r,v::vs,p=>by simp only [bn] at p ⊢;exact ⟨iH hS h x p.1,f_ hS h r p.2⟩
 | [],_::_,p=>by simp [bn] at p
 |_::_,[],p=>by simp [bn] at p
end
def Dg (ap:AP) (S:aS):Prop:=∀ k xs,(ap.gl[k]?).join=some xs→∃ vs,cZ S xs vs∧fw S k 0 vs
structure eJ (P:Program) (ap:AP):Prop where
 ty:∀ t ti,ap.tyAt t=some ti→Fq P t=some ti
structure Dd (g:bX) (m:aX) (S:aS) (w:World) (B:a_) (k c:Nat):Prop where
 lies:∃ cur e vs rest,w.heap[k]? =some (.cells cur e (0,0))∧cur.toList=vs++rest∧(B.pr=true→cZ S B.cells vs)∧bn g m S B.cells vs∧(∀ u ∈ vs,u.oneCell'=true)∧(0<B.esz→cur.size=c*B.esz∧c≤maxLen)
 fz0:B.fro=false→B.fz=0
 fzle:B.fz≤B.cells.length
structure bJ (ap:AP) (g:bX) (m:aX) (S:aS) (w:World):Prop where
 inj:∀ b b' B B',g b=some B→g b'=some B'→(m b).1=(m b').1→b=b'
 blk:∀ b B,g b=some B→Dd g m S w B (m b).1 (m b).2
 sealed:∀ k o v,S k o=some v→w.cell? ⟨k,o,none⟩=some v
 own:∀ b B,g b=some B→∀ o v,S (m b).1 o=some v→B.fro=true∧o<B.fz
 glob:Dg ap S
structure Fr (g:bX) (m:aX) (S:aS) (w:World) (g':bX) (m':aX) (S':aS) (w':World):Prop where
 ge:Ge g m g' m'
 sle:iC S S'
 os:w'.os=w.os
 tape:w'.tape=w.tape
 output:w'.output=w.output
 size:w.heap.size≤w'.heap.size
 rest:∀ k,k<w.heap.size→(∀ b B,g b=some B→(m b).1 ≠ k)→w'.heap[k]? =w.heap[k]?
 img:∀ b B,g' b=some B→w.heap.size≤(m' b).1∨(∃ B0,g b=some B0∧(m' b).1=(m b).1)
 sealN:∀ k o v,S' k o=some v→S k o=some v∨w.heap.size≤k∨∃ b B,g b=some B∧(m b).1=k
theorem Fr.refl (g:bX) (m:aX) (S:aS) (w:World):Fr g m S w g m S w:=
 ⟨Ge.refl g m,iC.refl S,rfl,rfl,rfl,Nat.le_refl _,fun _ _ _=>rfl,fun _ B h=> .inr ⟨B,h,rfl⟩,fun _ _ _ h=> .inl h⟩
theorem Fr.trans {g g' g'':bX} {m m' m'':aX} {S S' S'':aS} {w w' w'':World} (h:Fr g m S w g' m' S' w') (h':Fr g' m' S' w' g'' m'' S'' w''):Fr g m S w g'' m'' S'' w'':=by
 refine ⟨h.ge.trans h'.ge,h.sle.trans h'.sle,h'.os.trans h.os,h'.tape.trans h.tape,h'.output.trans h.output,Nat.le_trans h.size h'.size, ?_, ?_, ?_⟩
 ·intro k hk hn
  rw [h'.rest k (Nat.lt_of_lt_of_le hk h.size) ?_,h.rest k hk hn]
  intro b B hB e
  rcases h.img b B hB with hi|⟨B0,hB0,hi⟩
  ·omega
  ·exact hn b B0 hB0 (hi ▸ e)
 ·intro b B hB
  rcases h'.img b B hB with hi|⟨B0,hB0,hi⟩
  ·exact .inl (Nat.le_trans h.size hi)
  ·rcases h.img b B0 hB0 with hj|⟨B1,hB1,hj⟩
   ·exact .inl (hi ▸ hj)
   ·exact .inr ⟨B1,hB1,hi.trans hj⟩
 ·intro k o v hv
  rcases h'.sealN k o v hv with h1|h1|⟨b,B,hB,h1⟩
  ·exact h.sealN k o v h1
  ·exact .inr (.inl (Nat.le_trans h.size h1))
  ·rcases h.img b B hB with hi|⟨B0,hB0,hi⟩
   ·exact .inr (.inl (h1 ▸ hi))
   ·exact .inr (.inr ⟨b,B0,hB0,by rw [← h1,hi]⟩)
theorem bJ.lt {ap:AP} {g:bX} {m:aX} {S:aS} {w:World} (h:bJ ap g m S w) {b:Nat} {B:a_} (hB:g b=some B):(m b).1<w.heap.size:=by
 obtain ⟨cur,e,vs,rest,hk,_⟩:=(h.blk b B hB).lies
 exact (Array.getElem?_eq_some_iff.1 hk).1
theorem jh {w:World} {k j:Nat} {cur:Array Value} {e:TypeId} {fr:Nat × Nat} (h:w.heap[k]? =some (.cells cur e fr)):w.cell? ⟨k,j,none⟩=cur.toList[j]? :=by
 rw [cell_of_row w k j cur e fr h];simp
theorem fQ {a b:IntKind} (h:eQ a b=true):a=b:=by cases a<;>cases b<;>first|rfl|(exact absurd h (by decide))
theorem aL {a b:Nat} (h:Nat.beq a b=true):a=b:=Nat.eq_of_beq_eq_true h
theorem dw {a b:Nat} (h:Nat.ble a b=true):a≤b:=Nat.le_of_ble_eq_true h
theorem di {a b:Nat} (h:Nat.blt a b=true):a<b:=by
 have:Nat.ble (a+1) b=true:=h
 exact dw this
theorem Jd {S:aS} {x:AV} {v:Value} (h:PR S x v) (hl:ia x=true):v.oneCell'=true:=by
 cases x<;>simp only [PR] at h<;>first
  |(subst h;rfl)
  |(obtain ⟨_,_,_,rfl,_⟩:=h;rfl)
  |(obtain ⟨_,_,rfl,_⟩:=h;rfl)
  |(obtain ⟨_,rfl,_⟩:=h;first|rfl|exact absurd hl (by simp [ia]))
  |(exact absurd hl (by simp [ia]))
theorem yo {g:bX} {m:aX} {S:aS} {x:AV} {v:Value} (h:VR g m S x v) (hl:ia x=true):v.oneCell'=true:=by
 cases x<;>simp only [VR] at h<;>first
  | (exact Jd h hl)
    |(obtain ⟨_,_,_,⟨_,_,rfl⟩,_⟩:=h;rfl)
  |(obtain ⟨_,_,_,⟨_,_,_,rfl⟩,_⟩:=h;rfl)
  |(obtain ⟨_,_,rfl,_⟩:=h;rfl)
  |(obtain ⟨_,rfl,_⟩:=h;first|rfl|exact absurd hl (by simp [ia]))
  |(exact absurd hl (by simp [ia]))
end AM
namespace AM
open Go
structure tV (P:Program) (t:Nat) (ti:TI) (i:TypeInfo) (d:TypeDesc) (z:Value):Prop where
 info:P.info? t=some i
 und:P.underlying t=some d
 d_eq:ti.d=gJ P (some d)
 size:ti.size=i.size
 bytes:ti.bytes=i.bytes
 zero:i.zero=some z
 zcells:ti.zero=z.cells.toList.map rW
 zleaf:∀ x ∈ ti.zero,ia x=true
 zsize:z.cells.size=i.size
 lks:ti.lks.length=i.size
 pos:0<i.size
 zagg:LF i d=true
 fld:D2 P d=true
theorem cL {P:Program} {ap:AP} (hap:eJ P ap) {t:Nat} {ti:TI} (h:ap.tyAt t=some ti):∃ i d z,tV P t ti i d z:=by
 have h1:=hap.ty t ti h
 unfold Fq at h1
 cases hi:P.info? t with
 |none=>simp [hi] at h1
 | some i=>
  cases hd:P.underlying t with
  |none=>simp [hi,hd] at h1
  | some d=>
   simp only [hi,hd] at h1
   split at h1
   ·rename_i hc
    simp only [Bool.and_eq_true] at hc
    obtain ⟨⟨⟨⟨⟨c1,c0⟩,c2⟩,c3⟩,c4⟩,c5⟩:=hc
    cases hz:i.zero with
    |none=>simp [hz] at c5
    | some z=>
     cases h1
     have ez:sX i=z.cells.toList.map rW:=by simp [sX,hz]
     refine ⟨i,d,z,hi,hd,rfl,rfl,rfl,hz,ez, ?_, ?_,aL c1,di c4,c0.1,c0.2⟩
     ·intro x hx;exact List.all_eq_true.1 c2 x hx
     ·have:=aL c3
      rw [ez] at this
      simpa using this
   ·cases h1
theorem dq {P:Program} {d:TypeDesc} {e:Nat} (h:gJ P (some d)= .slice e):d= .slice e:=by cases d<;>simp [gJ] at h;subst h;rfl
theorem nO {P:Program} {d:TypeDesc} {n e:Nat} (h:gJ P (some d)= .array n e):d= .array n e:=by cases d<;>simp [gJ] at h;obtain ⟨rfl,rfl⟩:=h;rfl
theorem mI {P:Program} {d:TypeDesc} (h:gJ P (some d)= .str):d= .string:=by cases d<;>simp [gJ] at h;rfl
theorem Fp {P:Program} {d:TypeDesc} {k:IntKind} (h:gJ P (some d)= .int k):d= .int k:=by cases d<;>simp [gJ] at h;subst h;rfl
theorem Ig {P:Program} {d:TypeDesc} (h:gJ P (some d)= .bool):d= .bool:=by cases d<;>simp [gJ] at h;rfl
theorem lz {P:Program} {d:TypeDesc} {fs:List (Nat × Nat × Nat)} (h:gJ P (some d)= .struct fs):
  ∃ fields:Array Field,d= .struct fields∧fs=fields.toList.map fun f=>(f.offset,f.type,match P.info? f.type with|some i=>i.size|none=>0):=by
 cases d<;>simp [gJ] at h
 exact ⟨_,rfl,h.symm⟩
theorem sK {P:Program} (d:TypeDesc):vC (gJ P (some d))=d.isRow:=by cases d<;>simp [gJ,vC,TypeDesc.isRow]
theorem tU (S:aS) (v:Value):PR S (vJ v) v:=by
 cases v<;>simp only [vJ,PR]
 case pointer a=>cases a<;>simp only [PR]
 case slice a n c=>
  split<;>simp only [PR]
theorem wA (S:aS) (v:Value):PR S (rW v) v:=by
 cases v<;>simp only [rW]<;>try exact tU S _
 case agg cs=>
  simp only [PR]
  refine ⟨cs.toList,by simp, ?_⟩
  induction cs.toList with
  |nil=>simp [cZ]
  |cons c r ih=>simp only [List.map_cons,cZ];exact ⟨tU S c,ih⟩
 case tuple vs=>
  split
  ·rename_i h
   simp only [PR]
   exact ⟨[],by rw [← h],by simp [cZ]⟩
  ·simp only [PR]
theorem lJ (S:aS):∀ l:List Value,cZ S (l.map rW) l
 | []=>by simp [cZ]
 |v::r=>by simp only [List.map_cons,cZ];exact ⟨wA S v,lJ S r⟩
theorem Je {g:bX} {m:aX} {S:aS} {k:LK} {c:AV} {v:Value} (h:VR g m S c v) (hc:chk k c=true):VR g m S (eta k c) v:=by
 cases k<;>cases c<;>simp [chk] at hc<;>simp only [eta,AV.toInt,AV.toBool,AV.toStr,AV.slX,AV.slN]<;>try exact h
 ·rw [fQ hc];exact h
 ·simp only [VR,PR] at h ⊢
  subst h
  exact ⟨none,0,rfl,Nat.le_refl _,.inl ⟨rfl,trivial,trivial,trivial,rfl⟩⟩
 ·simp only [VR,PR] at h ⊢
  obtain ⟨a,cap,e,hle,q⟩:=h
  refine ⟨a,cap,e,hle, ?_⟩
  rcases q with ⟨q1,_,q2,q3,q4⟩|q
  ·exact .inl ⟨q1,trivial,q2,q3,q4⟩
  ·exact .inr q
theorem oZ {k:LK} {c:AV} (h:chk k c=true):c ≠ .dead:=by intro e;subst e;cases k<;>simp [chk] at h
theorem getD_some {xs:List AV} {i:Nat} (h:xs.getD i .dead ≠ .dead):xs[i]? =some (xs.getD i .dead):=by
 rw [List.getD_eq_getElem?_getD] at h ⊢
 cases hx:xs[i]? with
 |none=>simp [hx] at h
 |some x=>simp
theorem hO (xs:List AV) (off:Nat):(xs.drop off).headD .dead=xs.getD off .dead:=by
 rw [List.headD_eq_head?_getD,List.head?_drop,List.getD_eq_getElem?_getD]
theorem CC (ty:Bool) (xs:List AV) (off:Nat):kR ty [] xs off= []:=rfl
theorem mD (ty:Bool) (k:LK) (ks:List LK) (xs:List AV) (off:Nat):kR ty (k::ks) xs off=(match ty with|true=>eta k (xs.getD off .dead)|false=>xs.getD off .dead)::kR ty ks xs (off+1):=by
 show _::xG ty ks (xs.drop off).tail=_::xG ty ks (xs.drop (off+1))
 rw [List.tail_drop]
 cases ty<;>simp only [hO]
theorem BO (ty:Bool) (k:LK) (ks:List LK) (xs:List AV) (off:Nat):uW ty (k::ks) xs off=(match ty with|true=>chk k (xs.getD off .dead)|false=>chk .oth (xs.getD off .dead))::uW ty ks xs (off+1):=by
 show _::Dz ty ks (xs.drop off).tail=_::Dz ty ks (xs.drop (off+1))
 rw [List.tail_drop]
 cases ty<;>simp only [hO]
theorem iQ {g:bX} {m:aX} {S:aS} (ty:Bool) {xs:List AV} {vs:List Value} (hv:bn g m S xs vs):∀ (lks:List LK) (off:Nat),(∀ b ∈ uW ty lks xs off,b=true)→
  ∃ us:List Value,us.length=lks.length∧(∀ j u,us[j]? =some u→vs[off+j]? =some u)∧bn g m S (kR ty lks xs off) us:=by
 intro lks
 induction lks with
 |nil=>exact fun off _=> ⟨[],rfl,fun _ _ h=>by simp at h,by simp [CC,bn]⟩
 | cons k ks ih=>
  intro off h
  simp only [BO,List.mem_cons,forall_eq_or_imp] at h
  obtain ⟨us,hl,hu,hr⟩:=ih (off+1) h.2
  have key:∃ v,vs[off]? =some v∧VR g m S ((kR ty (k::ks) xs off).headD .dead) v:=by
   rw [mD]
   cases ty with
   |true=>
    obtain ⟨v,hv1,hv2⟩:=jH hv off (getD_some (oZ h.1))
    exact ⟨v,hv1,Je hv2 h.1⟩
   |false=>
    obtain ⟨v,hv1,hv2⟩:=jH hv off (getD_some (oZ h.1))
    exact ⟨v,hv1,hv2⟩
  obtain ⟨v,hv1,hv2⟩:=key
  rw [mD] at hv2
  refine ⟨v::us,by simp [hl], ?_, ?_⟩
  ·intro j u hj
   cases j with
   |zero=>simp at hj;subst hj;simpa using hv1
   |succ j=>simp at hj;rw [show off+(j+1)=off+1+j from by omega];exact hu j u hj
  ·simp only [mD,bn];exact ⟨hv2,hr⟩
theorem rN {P:Program} {w:World} {t:Nat} {ti:TI} {i:TypeInfo} {d:TypeDesc} {z:Value} (ht:tV P t ti i d z) {g:bX} {m:aX} {S:aS} {cs:List AV} {us:List Value} {k a:Nat}
  (hl:us.length=ti.lks.length) (hu:∀ j u,us[j]? =some u→w.cell? ⟨k,a+j,none⟩=some u) (hr:bn g m S cs us) {v:AV} (hv:km ti cs=some v):
  ∃ cv,(loadVar t ⟨k,a,none⟩).run P w= .ok cv w∧VR g m S v cv:=by
 unfold km at hv
 rw [ht.d_eq,sK] at hv
 split at hv
 ·rename_i hrow
  cases hv
  refine ⟨.agg us.toArray,run_loadVar_mid w k a t us d hu ht.und hrow (by simp [ht.info,hl,ht.lks]), ?_⟩
  simp only [VR];exact ⟨us,rfl,hr⟩
 ·rename_i hrow
  split at hv
  ·rename_i c
   cases hv
   cases us with
   |nil=>simp [bn] at hr
   | cons u r=>
    simp only [bn] at hr
    refine ⟨u, ?_,hr.1⟩
    have hag:(isAgg t).run P w= .ok false w:=by
     unfold isAgg;rw [Sem.run_bind,run_underlying ht.und w]
     cases d<;>simp_all [TypeDesc.isRow]
    have hc:=hu 0 u rfl
    simp only [Nat.add_zero] at hc
    simp [loadVar,hag,hc]
  ·cases hv
theorem bind_some {α β:Type} {x:Option α} {f:α→Option β} {b:β} (h:x.bind f=some b):∃ a,x=some a∧f a=some b:=by
 cases x with
 |none=>simp at h
 |some a=>exact ⟨a,rfl,h⟩
theorem aN {v v':AV} {bs bs':List Bool} {ups:List (Nat × a_)} (h:bg v bs=some (v',ups,bs')):v'=v∧ups= []∧bs'=bs:=by
 unfold bg at h;cases h;exact ⟨rfl,rfl,rfl⟩
section
variable {P:Program} {ap:AP} {g:bX} {m:aX} {S:aS} {w:World}
theorem pw (hS:bJ ap g m S w) {rd:bX} (hrd:∀ b B,rd b=some B→g b=some B) {t:Nat} {ti:TI} {i:TypeInfo} {d:TypeDesc} {z:Value} (ht:tV P t ti i d z)
  {p v:AV} {cp:Value} (hp:VR g m S p cp) {ups:List (Nat × a_)} {bs:List Bool} (h:xj ti rd p=some (v,ups,bs)) (hbs:∀ b ∈ bs,b=true):
  ups= []∧∃ cv,(Instr.loadAt t cp).run P w= .ok cv w∧VR g m S v cv:=by
 unfold xj at h
 split at h
 ·rename_i xs off
  obtain ⟨v',hv',h⟩:=bind_some h
  obtain ⟨rfl,rfl,rfl⟩:=aN h
  simp only [VR,PR] at hp
  obtain ⟨b,o,vs,rfl,hp,hs⟩:=hp
  obtain ⟨us,hl,hu,hr⟩:=iQ (g:=g) (m:=m) true (bH _ hp) ti.lks off hbs
  obtain ⟨cv,h1,h2⟩:=rN (w:=w) ht (k:=b) (a:=o+off) hl (fun j u hj=>by
   have:=hS.sealed _ _ _ (hs (off+j) u (hu j u hj)).1;rw [Nat.add_assoc];exact this) hr hv'
  exact ⟨rfl,cv,by simpa [Instr.loadAt,Instr.sureAddr] using h1,h2⟩
 ·rename_i b ver off
  obtain ⟨B,hB,h⟩:=bind_some h
  split at h
  ·rename_i hver
   obtain ⟨v',hv',h⟩:=bind_some h
   obtain ⟨rfl,rfl,rfl⟩:=aN h
   simp only [VR] at hp
   obtain ⟨B',hB',_,_,q⟩:=hp
   have hgB:=hrd b B hB
   rw [hgB] at hB';cases hB'
   have q:=q (aL hver)
   subst q
   obtain ⟨cur,e,vs,rest,hk,hc,_,hvs,_⟩:=(hS.blk b B hgB).lies
   obtain ⟨us,hl,hu,hr⟩:=iQ _ hvs ti.lks off hbs
   obtain ⟨cv,h1,h2⟩:=rN (w:=w) ht (k:=(m b).1) (a:=off) hl (fun j u hj=>by
    have hj':=hu j u hj
    rw [jh hk,hc,List.getElem?_append_left (List.getElem?_eq_some_iff.1 hj').1]
    exact hj') hr hv'
   exact ⟨rfl,cv,by simpa [Instr.loadAt,Instr.sureAddr] using h1,h2⟩
  ·cases h
 ·cases h
theorem rX {p p':AV} {cp:Value} (hp:VR g m S p cp) {o:Nat} (h:EA p o=some p'):∃ a:Addr,cp= .pointer (some a)∧VR g m S p' (.pointer (some (a.add o))):=by
 unfold EA at h
 split at h<;>cases h
 ·rename_i b ver off
  simp only [VR] at hp
  obtain ⟨B,hB,hv,⟨k,o',rfl⟩,q⟩:=hp
  refine ⟨_,rfl, ?_⟩
  simp only [VR]
  refine ⟨B,hB,hv,⟨k,o'+o,by rw [Addr.add_mid]⟩,fun e=> ?_⟩
  have q:=q e
  simp only [Value.pointer.injEq,Option.some.injEq,Addr.mk.injEq] at q
  obtain ⟨q1,q2,_⟩:=q
  rw [Addr.add_mid,q1,q2]
 ·rename_i xs off
  simp only [VR,PR] at hp
  obtain ⟨b,k,vs,rfl,hp,hs⟩:=hp
  refine ⟨_,rfl, ?_⟩
  simp only [VR,PR]
  exact ⟨b,k,vs,by rw [Addr.add_mid,Nat.add_assoc],hp,hs⟩
end
end AM
namespace AM
open Go
section
variable {P:Program} {ap:AP} {g:bX} {m:aX} {S:aS} {w:World}
theorem bV {b:Bool} {l:List Bool} (h:∀ x ∈ b::l,x=true):b=true∧∀ x ∈ l,x=true:=⟨h b (by simp),fun x hx=>h x (by simp [hx])⟩
theorem fc {t:Nat} {ti:TI} {i:TypeInfo} {d:TypeDesc} {z:Value} (ht:tV P t ti i d z) (w:World):(Go.sizeOf t).run P w= .ok ti.size w:=by
 simp [Go.sizeOf,typeInfo,ht.info,ht.size]
theorem pu {x:AV} {cx:Value} (hx:VR g m S x cx) {n:Int} (h:Ap x=some n):∃ k,cx= .int k n:=by
 cases x<;>simp [Ap] at h
 subst h
 simp only [VR,PR] at hx
 exact ⟨_,hx⟩
theorem pX {t:Nat} {ti:TI} {i:TypeInfo} {d:TypeDesc} {z:Value} (ht:tV P t ti i d z) {fs:List (Nat × Nat × Nat)} (hd:ti.d= .struct fs) {f o ft sz:Nat} (hf:fs[f]? =some (o,ft,sz)) (hsz:Nat.blt 0 sz=true)
  {p v:AV} {cp:Value} (hp:VR g m S p cp) (hv:EA p o=some v):∃ cv,(Instr.fieldAt t cp f).run P w= .ok cv w∧VR g m S v cv:=by
 rw [ht.d_eq] at hd
 obtain ⟨fields,rfl,rfl⟩:=lz hd
 simp only [List.getElem?_map,Option.map_eq_some_iff] at hf
 obtain ⟨fl,hfl,he⟩:=hf
 simp only [Prod.mk.injEq] at he
 obtain ⟨rfl,rfl,hs⟩:=he
 obtain ⟨a,rfl,hv⟩:=rX hp hv
 refine ⟨_, ?_,hv⟩
 have hfl':fields[f]? =some fl:=by simpa using hfl
 cases hi:P.info? fl.type with
 |none=>rw [hi] at hs;simp only at hs;subst hs;exact absurd (di hsz) (by omega)
 |some j=>
  rw [hi] at hs
  have hj:j.size ≠ 0:=by have:=di hsz;simp only at hs;omega
  simp [Instr.fieldAt,run_underlying ht.und,hfl',Instr.sureAddr,fieldPlace,Go.sizeOf,typeInfo,hi,hj]
theorem ig {i:Int} {n:Nat} (h0:decide (0≤i)=true) (h1:decide (i<n)=true):0≤i∧i<n∧i.toNat<n:=by
 have a:=of_decide_eq_true h0
 have b:=of_decide_eq_true h1
 omega
theorem oo (hap:eJ P ap) {rd:bX} (hrd:∀ b B,rd b=some B→g b=some B) {t:Nat} {ti:TI} {i:TypeInfo} {d:TypeDesc} {z:Value} (ht:tV P t ti i d z)
  {x ix v:AV} {cx ci:Value} (hx:VR g m S x cx) (hi:VR g m S ix ci) {ups:List (Nat × a_)} {bs:List Bool} (h:mr ap ti rd x ix=some (v,ups,bs)) (hbs:∀ b ∈ bs,b=true):
  ups= []∧∃ cv,(Instr.indexAt t cx ci).run P w= .ok cv w∧VR g m S v cv:=by
 unfold mr at h
 have hq:=bind_some h;clear h;obtain ⟨n,hn,h⟩:=hq
 obtain ⟨k,rfl⟩:=pu hi hn
 split at h
 ·rename_i e hd
  have hq:=bind_some h;clear h;obtain ⟨te,hte,h⟩:=hq
  obtain ⟨ie,de,ze,hte⟩:=cL hap hte
  rw [ht.d_eq] at hd
  have hd:=dq hd
  subst hd
  split at h
  ·rename_i xs len nn
   obtain ⟨rfl,rfl,rfl⟩:=aN h
   obtain ⟨b1,b2⟩:=bV hbs
   obtain ⟨b2,_⟩:=bV b2
   obtain ⟨h0,h1,h2⟩:=ig b1 b2
   simp only [VR,PR] at hx
   obtain ⟨a,cap,rfl,hle,q⟩:=hx
   rcases q with ⟨_,_,_,q,_⟩|⟨b,o,vs,rfl,hp,hs⟩
   ·subst q;omega
   ·refine ⟨rfl,.pointer (some ⟨b,o+n.toNat*te.size,none⟩), ?_, ?_⟩
    ·simp [Instr.indexAt,asIntOf,run_underlying ht.und,h0,h1,fc hte,Addr.add_mid]
    ·simp only [VR,PR];exact ⟨b,o,vs,rfl,hp,hs⟩
  ·rename_i b ver j len
   have hq:=bind_some h;clear h;obtain ⟨B,hB,h⟩:=hq
   split at h
   ·rename_i hc
    simp only [Bool.and_eq_true] at hc
    obtain ⟨rfl,rfl,rfl⟩:=aN h
    obtain ⟨b1,b2⟩:=bV hbs
    obtain ⟨b2,_⟩:=bV b2
    obtain ⟨h0,h1,h2⟩:=ig b1 b2
    simp only [VR] at hx
    obtain ⟨B',hB',hv,_,q⟩:=hx
    have hg:=hrd b B hB
    rw [hg] at hB';cases hB'
    obtain ⟨o,rfl,q1,q2,q3⟩:=q (aL hc.1)
    have ho:=q2 (by omega)
    have hes:=aL hc.2
    refine ⟨rfl,.pointer (some ⟨(m b).1,(j+n.toNat)*te.size,none⟩), ?_, ?_⟩
    ·rw [ho,hes]
     simp [Instr.indexAt,asIntOf,run_underlying ht.und,h0,h1,fc hte,Addr.add_mid,Nat.add_mul]
    ·simp only [VR];exact ⟨B,hg,by have:=aL hc.1;omega,⟨_,_,rfl⟩,fun _=>trivial⟩
   ·cases h
  ·cases h
 ·rename_i len e hd
  have hq:=bind_some h;clear h;obtain ⟨te,hte,h⟩:=hq
  obtain ⟨ie,de,ze,hte⟩:=cL hap hte
  have hq:=bind_some h;clear h;obtain ⟨p,hp,h⟩:=hq
  obtain ⟨rfl,rfl,rfl⟩:=aN h
  rw [ht.d_eq] at hd
  have hd:=nO hd
  subst hd
  obtain ⟨b1,b2⟩:=bV hbs
  obtain ⟨b2,_⟩:=bV b2
  obtain ⟨h0,h1,h2⟩:=ig b1 b2
  obtain ⟨a,rfl,hv⟩:=rX hx hp
  refine ⟨rfl,_, ?_,hv⟩
  simp [Instr.indexAt,asIntOf,run_underlying ht.und,h0,h1,fc hte,Instr.sureAddr]
 ·cases h
theorem si {t:Nat} {ti:TI} {i:TypeInfo} {d:TypeDesc} {z:Value} (ht:tV P t ti i d z) {vs us:List Value} {cs:List AV} {off:Nat}
  (hl:us.length=ti.lks.length) (hu:∀ j u,us[j]? =some u→vs[off+j]? =some u) (hr:bn g m S cs us) {v:AV} (hv:km ti cs=some v):
  ∃ cv,(part t vs.toArray off).run P w= .ok cv w∧VR g m S v cv:=by
 have hag:(isAgg t).run P w= .ok d.isRow w:=by
  unfold isAgg;rw [Sem.run_bind,run_underlying ht.und w]
  cases d<;>simp [TypeDesc.isRow]
 unfold km at hv
 rw [ht.d_eq,sK] at hv
 split at hv
 ·rename_i hrow
  cases hv
  have hx:(vs.drop off).take ti.size=us:=by
   apply List.ext_getElem?
   intro j
   rw [List.getElem?_take,List.getElem?_drop]
   have hsz:ti.size=us.length:=by rw [hl,ht.lks,ht.size]
   split
   ·rename_i hj
    have hj':j<us.length:=by omega
    have:=hu j us[j] (List.getElem?_eq_getElem hj')
    rw [this,List.getElem?_eq_getElem hj']
   ·rename_i hj
    rw [List.getElem?_eq_none (by omega)]
  refine ⟨.agg us.toArray, ?_, ?_⟩
  ·simp [part,hag,hrow,fc ht,hx]
  ·simp only [VR];exact ⟨us,rfl,hr⟩
 ·rename_i hrow
  split at hv
  ·rename_i c
   cases hv
   cases us with
   |nil=>simp [bn] at hr
   |cons u r=>
    simp only [bn] at hr
    refine ⟨u, ?_,hr.1⟩
    have hc:=hu 0 u rfl
    simp only [Nat.add_zero] at hc
    have hrow:d.isRow=false:=by simpa using hrow
    simp [part,hag,hrow,hc]
  ·cases hv
theorem vo (hap:eJ P ap) {t:Nat} {ti:TI} {i:TypeInfo} {d:TypeDesc} {z:Value} (ht:tV P t ti i d z) {x v:AV} {cx:Value} (hx:VR g m S x cx) {f:Nat} {ups:List (Nat × a_)} {bs:List Bool}
  (h:yR ap ti x f=some (v,ups,bs)) (hbs:∀ b ∈ bs,b=true):ups= []∧∃ cv,(Instr.field t cx f).run P w= .ok cv w∧VR g m S v cv:=by
 unfold yR at h
 split at h
 ·rename_i fs cs hd
  have hq:=bind_some h;clear h;obtain ⟨⟨o,ft,sz⟩,hf,h⟩:=hq
  have hq:=bind_some h;clear h;obtain ⟨tf,htf,h⟩:=hq
  have hq:=bind_some h;clear h;obtain ⟨v',hv',h⟩:=hq
  obtain ⟨rfl,rfl,rfl⟩:=aN h
  obtain ⟨ie,de,ze,htf⟩:=cL hap htf
  rw [ht.d_eq] at hd
  obtain ⟨fields,rfl,rfl⟩:=lz hd
  simp only [List.getElem?_map,Option.map_eq_some_iff] at hf
  obtain ⟨fl,hfl,he⟩:=hf
  simp only [Prod.mk.injEq] at he
  obtain ⟨rfl,rfl,hs⟩:=he
  simp only [VR] at hx
  obtain ⟨vs,rfl,hx⟩:=hx
  obtain ⟨us,hl,hu,hr⟩:=iQ false hx tf.lks fl.offset hbs
  obtain ⟨cv,h1,h2⟩:=si (w:=w) htf hl hu hr hv'
  have hfl':fields[f]? =some fl:=by simpa using hfl
  refine ⟨rfl,cv, ?_,h2⟩
  simp [Instr.field,run_underlying ht.und,hfl',asAgg,h1]
 ·cases h
theorem D6 (s:List UInt8) (i:Nat) (h:i<s.length):(⟨s.toArray⟩:ByteArray)[i]? =some (s.getD i 0):=by
 have hs:i<(⟨s.toArray⟩:ByteArray).size:=by simpa [ByteArray.size] using h
 rw [getElem?_pos _ i hs]
 simp only [ByteArray.getElem_eq_getElem_data,List.getElem_toArray]
 rw [List.getD_eq_getElem?_getD,List.getElem?_eq_getElem h]
 rfl
theorem vw (hap:eJ P ap) {t:Nat} {ti:TI} {i:TypeInfo} {d:TypeDesc} {z:Value} (ht:tV P t ti i d z) {x ix v:AV} {cx ci:Value} (hx:VR g m S x cx) (hi:VR g m S ix ci) {ups:List (Nat × a_)} {bs:List Bool}
  (h:yU ap ti x ix=some (v,ups,bs)) (hbs:∀ b ∈ bs,b=true):ups= []∧∃ cv,(Instr.index t cx ci).run P w= .ok cv w∧VR g m S v cv:=by
 unfold yU at h
 have hq:=bind_some h;clear h;obtain ⟨n,hn,h⟩:=hq
 obtain ⟨k,rfl⟩:=pu hi hn
 split at h
 ·rename_i s hd
  obtain ⟨rfl,rfl,rfl⟩:=aN h
  obtain ⟨b1,b2⟩:=bV hbs
  obtain ⟨b2,_⟩:=bV b2
  obtain ⟨h0,h1,h2⟩:=ig b1 b2
  rw [ht.d_eq] at hd
  have hd:=mI hd
  subst hd
  simp only [VR,PR] at hx
  subst hx
  refine ⟨rfl,.int .u8 (s.getD n.toNat 0).toNat, ?_,by simp only [VR,PR]⟩
  simp [Instr.index,asIntOf,run_underlying ht.und,h0,D6 s n.toNat h2]
 ·rename_i len e cs hd
  have hq:=bind_some h;clear h;obtain ⟨te,hte,h⟩:=hq
  have hq:=bind_some h;clear h;obtain ⟨v',hv',h⟩:=hq
  obtain ⟨rfl,rfl,rfl⟩:=aN h
  obtain ⟨ie,de,ze,hte⟩:=cL hap hte
  obtain ⟨b1,b2⟩:=bV hbs
  obtain ⟨b2,b3⟩:=bV b2
  obtain ⟨h0,h1,h2⟩:=ig b1 b2
  rw [ht.d_eq] at hd
  have hd:=nO hd
  subst hd
  simp only [VR] at hx
  obtain ⟨vs,rfl,hx⟩:=hx
  obtain ⟨us,hl,hu,hr⟩:=iQ true hx te.lks (n.toNat*te.size) b3
  obtain ⟨cv,h1',h2'⟩:=si (w:=w) hte hl hu hr hv'
  refine ⟨rfl,cv, ?_,h2'⟩
  simp [Instr.index,asIntOf,run_underlying ht.und,h0,h1,fc hte,h1']
 ·cases h
end
end AM
namespace AM
open Go
section
variable {P:Program} {ap:AP} {g:bX} {m:aX} {S:aS} {w:World}
def qF (g:bX) (m:aX) (S:aS) (x:Option AV) (c:Option Value):Prop:=
 match x,c with
 |none,none=>True
 |some x,some c=>VR g m S x c
 |_,_=>False
theorem dn {x:Option AV} {c:Option Value} (h:qF g m S x c) {d n:Int} (hn:ij x d=some n):(x=none∧c=none∧n=d)∨∃ k,c=some (.int k n):=by
 cases x with
 |none=>cases c with
  |none=>simp [ij] at hn;exact .inl ⟨rfl,rfl,hn.symm⟩
  |some c=>simp [qF] at h
 | some x=>cases c with
  |none=>simp [qF] at h
  |some c=>
   cases x<;>simp [ij] at hn
   subst hn
   simp only [qF,VR,PR] at h
   subst h
   exact .inr ⟨_,rfl⟩
theorem jX (P:Program) (w:World) (isS:Bool) (len cap:Nat) (lo hi:Option Value) (l h:Int)
  (hl:(lo=none∧l=0)∨∃ k,lo=some (.int k l)) (hh:(hi=none∧h=len)∨∃ k,hi=some (.int k h)) (h0:0≤l) (h1:l≤h) (h2:h≤cap):
  (Instr.sliceBounds isS len cap lo hi none).run P w= .ok (l.toNat,h.toNat,cap) w:=by
 have h4:0≤h:=by omega
 rcases hl with ⟨rfl,rfl⟩|⟨k,rfl⟩<;>rcases hh with ⟨rfl,rfl⟩|⟨k',rfl⟩
 ·simp [Instr.sliceBounds]
 ·simp [Instr.sliceBounds,Instr.sliceBound,asIntOf,h2,h4]
 ·have h3':l≤(len:Int):=h1
  simp [Instr.sliceBounds,Instr.sliceBound,asIntOf,h0,h3']
 ·simp [Instr.sliceBounds,Instr.sliceBound,asIntOf,h0,h2,h4]
  intro hc;omega
theorem wT (s:List UInt8) (l h:Nat):(⟨s.toArray⟩:ByteArray).extract l h=⟨((s.take h).drop l).toArray⟩:=by
 apply ByteArray.ext
 rw [ByteArray.data_extract]
 apply Array.ext'
 simp [List.extract_eq_take_drop,List.drop_take]
theorem nN (s:List UInt8):(⟨s.toArray⟩:ByteArray).size=s.length:=by simp [ByteArray.size]
theorem fw.drop {b o:Nat} {vs:List Value} (h:fw S b o vs) (n:Nat):fw S b (o+n) (vs.drop n):=by
 intro j u hj
 rw [List.getElem?_drop] at hj
 rw [Nat.add_assoc]
 exact h _ _ hj
theorem fw.take {b o:Nat} {vs:List Value} (h:fw S b o vs) (n:Nat):fw S b o (vs.take n):=by
 intro j u hj
 rw [List.getElem?_take] at hj
 split at hj
 ·exact h _ _ hj
 ·cases hj
theorem Jk {a b c:Bool} (h:∀ x ∈ [a,b,c],x=true):a=true∧b=true∧c=true:=⟨h a (by simp),h b (by simp),h c (by simp)⟩
theorem tH {α:Type} (xs:List α) (n:Nat):(xs.take n).drop n= []:=by
 apply List.drop_eq_nil_of_le;simp;omega
theorem vV (hap:eJ P ap) {rd:bX} (hrd:∀ b B,rd b=some B→g b=some B) {t:Nat} {ti:TI} {i:TypeInfo} {d:TypeDesc} {z:Value} (ht:tV P t ti i d z)
  {x v:AV} {cx:Value} (hx:VR g m S x cx) {lo hi mx:Option AV} {clo chi cmx:Option Value} (hlo:qF g m S lo clo) (hhi:qF g m S hi chi) (hmx:qF g m S mx cmx)
  {ups:List (Nat × a_)} {bs:List Bool} (h:zF ap ti rd x lo hi mx=some (v,ups,bs)) (hbs:∀ b ∈ bs,b=true):
  ups= []∧∃ cv,(Instr.sliceAt t cx clo chi cmx).run P w= .ok cv w∧VR g m S v cv:=by
 have hmx0:mx=none→cmx=none:=by intro e;subst e;cases cmx<;>simp [qF] at hmx ⊢
 unfold zF at h
 split at h
 ·rename_i s hd
  have hq:=bind_some h;clear h;obtain ⟨l,hl,h⟩:=hq
  have hq:=bind_some h;clear h;obtain ⟨u,hu,h⟩:=hq
  obtain ⟨rfl,rfl,rfl⟩:=aN h
  obtain ⟨b1,b2,b3⟩:=Jk hbs
  have b1:=of_decide_eq_true b1
  have b2:=of_decide_eq_true b2
  have b3:=of_decide_eq_true b3
  rw [ht.d_eq] at hd
  have hd:=mI hd
  subst hd
  simp only [VR,PR] at hx
  subst hx
  rw [hmx0 rfl]
  have hb:=jX P w false s.length s.length clo chi l u ((dn hlo hl).imp (fun h=> ⟨h.2.1,h.2.2⟩) id) ((dn hhi hu).imp (fun h=> ⟨h.2.1,h.2.2⟩) id) b1 b2 b3
  refine ⟨rfl,.string ⟨((s.take u.toNat).drop l.toNat).toArray⟩, ?_,by simp only [VR,PR]⟩
  rw [← wT]
  simp [Instr.sliceAt,Instr.slice,run_underlying ht.und,nN,hb]
 ·rename_i e xs n nn hd
  have hq:=bind_some h;clear h;obtain ⟨te,hte,h⟩:=hq
  have hq:=bind_some h;clear h;obtain ⟨l,hl,h⟩:=hq
  have hq:=bind_some h;clear h;obtain ⟨u,hu,h⟩:=hq
  obtain ⟨rfl,rfl,rfl⟩:=aN h
  obtain ⟨ie,de,ze,hte⟩:=cL hap hte
  obtain ⟨b1,b2,b3⟩:=Jk hbs
  have b1:=of_decide_eq_true b1
  have b2:=of_decide_eq_true b2
  have b3:=of_decide_eq_true b3
  rw [ht.d_eq] at hd
  have hd:=dq hd
  subst hd
  simp only [VR,PR] at hx
  obtain ⟨a,cap,rfl,hle,q⟩:=hx
  rw [hmx0 rfl]
  have hb:=jX P w true n cap clo chi l u ((dn hlo hl).imp (fun h=> ⟨h.2.1,h.2.2⟩) id) ((dn hhi hu).imp (fun h=> ⟨h.2.1,h.2.2⟩) id) b1 b2 (by omega)
  refine ⟨rfl,.slice (if cap=l.toNat then a else a.map (·.add (l.toNat*te.size))) (u.toNat - l.toNat) (cap - l.toNat), ?_, ?_⟩
  ·simp [Instr.sliceAt,Instr.slice,run_underlying ht.und,hb,fc hte]
  ·simp only [VR,PR]
   refine ⟨_,_,rfl,by omega, ?_⟩
   rcases q with ⟨rfl,q1,rfl,rfl,rfl⟩|⟨b,o,vs,rfl,hp,hs⟩
   ·refine .inl ⟨by simp,q1,by simp,by omega,by omega⟩
   ·refine .inr ?_
    by_cases hc:cap=l.toNat
    ·refine ⟨b,o,[],by rw [if_pos hc], ?_,fun j u h=>by simp at h⟩
     have e:(xs.take (u.toNat*te.size)).drop (l.toNat*te.size)= []:=by
      have:u.toNat=l.toNat:=by omega
      rw [this,tH]
     rw [e];simp [cZ]
    ·exact ⟨b,o+l.toNat*te.size,(vs.take (u.toNat*te.size)).drop (l.toNat*te.size),by rw [if_neg hc];simp [Addr.add_mid],jc _ (fu _ hp),(hs.take _).drop _⟩
 ·rename_i e b ver j n hd
  have hq:=bind_some h;clear h;obtain ⟨te,hte,h⟩:=hq
  have hq:=bind_some h;clear h;obtain ⟨B,hB,h⟩:=hq
  have hq:=bind_some h;clear h;obtain ⟨l,hl,h⟩:=hq
  have hq:=bind_some h;clear h;obtain ⟨u,hu,h⟩:=hq
  split at h
  ·rename_i hc
   simp only [Bool.and_eq_true] at hc
   obtain ⟨rfl,rfl,rfl⟩:=aN h
   obtain ⟨ie,de,ze,hte⟩:=cL hap hte
   obtain ⟨b1,b2,b3⟩:=Jk hbs
   have b1:=of_decide_eq_true b1
   have b2:=of_decide_eq_true b2
   have b3:=of_decide_eq_true b3
   rw [ht.d_eq] at hd
   have hd:=dq hd
   subst hd
   simp only [VR] at hx
   obtain ⟨B',hB',hv,_,q⟩:=hx
   have hg:=hrd b B hB
   rw [hg] at hB';cases hB'
   obtain ⟨o,rfl,q1,q2,q3⟩:=q (aL hc.1)
   have hes:=aL hc.2
   rw [hmx0 rfl]
   have hb:=jX P w true n ((m b).2 - j) clo chi l u ((dn hlo hl).imp (fun h=> ⟨h.2.1,h.2.2⟩) id) ((dn hhi hu).imp (fun h=> ⟨h.2.1,h.2.2⟩) id) b1 b2 (by omega)
   refine ⟨rfl,.slice (if (m b).2 - j=l.toNat then some ⟨(m b).1,o,none⟩ else some ⟨(m b).1,o+l.toNat*te.size,none⟩) (u.toNat - l.toNat) ((m b).2 - j - l.toNat), ?_, ?_⟩
   ·simp [Instr.sliceAt,Instr.slice,run_underlying ht.und,hb,fc hte,Addr.add_mid]
   ·simp only [VR]
    refine ⟨B,hg,hv,(by split<;>exact ⟨_,_,_,rfl⟩),fun _=> ?_⟩
    by_cases hcl:(m b).2 - j=l.toNat
    ·exact ⟨o,by rw [if_pos hcl];congr 1;omega,by omega,fun h=>by omega,q3⟩
    ·refine ⟨o+l.toNat*te.size,by rw [if_neg hcl];congr 1;omega,by omega,fun h=> ?_,q3⟩
     rw [q2 (by omega),hes,Nat.add_mul]
  ·cases h
 ·rename_i e hd
  have hq:=bind_some h;clear h;obtain ⟨te,hte,h⟩:=hq
  have hq:=bind_some h;clear h;obtain ⟨l,hl,h⟩:=hq
  have hq:=bind_some h;clear h;obtain ⟨u,hu,h⟩:=hq
  obtain ⟨rfl,rfl,rfl⟩:=aN h
  obtain ⟨ie,de,ze,hte⟩:=cL hap hte
  have b1:=of_decide_eq_true (hbs (decide (l=0)) (by simp))
  have b2:=of_decide_eq_true (hbs (decide (u=0)) (by simp))
  subst b1
  subst b2
  rw [ht.d_eq] at hd
  have hd:=dq hd
  subst hd
  simp only [VR,PR] at hx
  subst hx
  rw [hmx0 rfl]
  have hb:=jX P w true 0 0 clo chi 0 0 ((dn hlo hl).imp (fun h=> ⟨h.2.1,h.2.2⟩) id) ((dn hhi hu).imp (fun h=> ⟨h.2.1,h.2.2⟩) id) (by omega) (by omega) (by omega)
  refine ⟨rfl,.slice none 0 0, ?_,by simp only [VR,PR]⟩
  simp at hb
  simp [Instr.sliceAt,Instr.slice,run_underlying ht.und,hb,fc hte]
 ·cases h
theorem y_ {x v:AV} {cx:Value} (hx:VR g m S x cx) {t:Nat} {ti:TI} {i:TypeInfo} {d:TypeDesc} {z:Value} (ht:tV P t ti i d z)
  {ups:List (Nat × a_)} {bs:List Bool} (h:Ef ti.d x=some (v,ups,bs)) (ats:Array TypeId) (hat:ats[0]? =some t) (args:Array Value) (ha:args[0]? =some cx) (ty:Nat):
  ups= []∧∃ cv,(Builtin.len_ ats ty args).run P w= .ok cv w∧VR g m S v cv:=by
 unfold Ef at h
 rw [ht.d_eq] at h
 split at h
 ·rename_i n e hd
  obtain ⟨rfl,rfl,rfl⟩:=aN h
  have hd:=nO hd
  subst hd
  exact ⟨rfl,.int .i64 n,by simp [Builtin.len_,hat,ha,run_underlying ht.und,goInt],by simp only [VR,PR]⟩
 ·rename_i s hd
  obtain ⟨rfl,rfl,rfl⟩:=aN h
  have hd:=mI hd
  subst hd
  simp only [VR,PR] at hx
  subst hx
  exact ⟨rfl,.int .i64 s.length,by simp [Builtin.len_,hat,ha,run_underlying ht.und,goInt,nN],by simp only [VR,PR]⟩
 ·rename_i e xs n nn hd
  obtain ⟨rfl,rfl,rfl⟩:=aN h
  have hd:=dq hd
  subst hd
  simp only [VR,PR] at hx
  obtain ⟨a,cap,rfl,_⟩:=hx
  exact ⟨rfl,.int .i64 n,by simp [Builtin.len_,hat,ha,run_underlying ht.und,goInt],by simp only [VR,PR]⟩
 ·rename_i e b ver j n hd
  obtain ⟨rfl,rfl,rfl⟩:=aN h
  have hd:=dq hd
  subst hd
  simp only [VR] at hx
  obtain ⟨_,_,_,⟨_,_,cap,rfl⟩,_⟩:=hx
  exact ⟨rfl,.int .i64 n,by simp [Builtin.len_,hat,ha,run_underlying ht.und,goInt],by simp only [VR,PR]⟩
 ·rename_i e hd
  obtain ⟨rfl,rfl,rfl⟩:=aN h
  have hd:=dq hd
  subst hd
  simp only [VR,PR] at hx
  subst hx
  exact ⟨rfl,.int .i64 0,by simp [Builtin.len_,hat,ha,run_underlying ht.und,goInt],by simp only [VR,PR]⟩
 ·cases h
theorem sM (s:List UInt8):(⟨s.toArray⟩:ByteArray).toList=s:=by rw [ByteArray.toList_eq]
theorem mU:∀ a b:List UInt8,Op.bytesLess a b=dx a b
 |_,[]=>by simp [Op.bytesLess,dx]
 | [],_::_=>by simp [Op.bytesLess,dx]
 |a::x,b::y=>by simp only [Op.bytesLess,dx,mU x y]
def um:LK→Value→Value→Option Bool
 | .int k,.int k1 a,.int k2 b=>match eQ k k1 && eQ k k2 with|true=>some (a==b)|false=>none
 | .bool,.bool a,.bool b=>some (a==b)
 | .str,.string a,.string b=>some (a.toList==b.toList)
 |_,_,_=>none
def dh:List LK→List Value→List Value→Option Bool
 | [],[],[]=>some true
 |k::ks,a::as,b::bs=>(um k a b).bind fun c=>(dh ks as bs).map fun d=>c && d
 |_,_,_=>none
theorem ni:∀ (l l':List LK) (xs ys:List Value) (r:Bool),dh (l++l') xs ys=some r→
  ∃ a b,dh l (xs.take l.length) (ys.take l.length)=some a∧dh l' (xs.drop l.length) (ys.drop l.length)=some b∧r=(a && b)
 | [],l',xs,ys,r,h=> ⟨true,r,by simp [dh],by simpa using h,by simp⟩
 |k::l,l',[],_,r,h=>by simp [dh] at h
 |k::l,l',_::_,[],r,h=>by simp [dh] at h
 |k::l,l',x::xs,y::ys,r,h=>by
  simp only [List.cons_append,dh] at h
  obtain ⟨c,hc,h⟩:=bind_some h
  rw [Option.map_eq_some_iff] at h
  obtain ⟨d,hd,rfl⟩:=h
  obtain ⟨a,b,h1,h2,rfl⟩:=ni l l' xs ys d hd
  exact ⟨c && a,b,by simp [dh,hc,h1],by simpa using h2,by simp [Bool.and_assoc]⟩
theorem lO:∀ (l:List LK) (xs ys:List Value) (r:Bool),dh l xs ys=some r→xs.length=l.length∧ys.length=l.length
 | [],[],[],_,_=> ⟨rfl,rfl⟩
 |k::l,x::xs,y::ys,r,h=>by
  simp only [dh] at h
  obtain ⟨c,_,h⟩:=bind_some h
  rw [Option.map_eq_some_iff] at h
  obtain ⟨d,hd,_⟩:=h
  have:=lO l xs ys d hd
  simp [this.1,this.2]
 | [],_::_,_,_,h=>by simp [dh] at h
 | [],[],_::_,_,h=>by simp [dh] at h
 |_::_,[],_,_,h=>by simp [dh] at h
 |_::_,_::_,[],_,h=>by simp [dh] at h
def pO (P:Program) (t:TypeId) (xs:List Value):Value:=match P.underlying t with
 |some (.struct _)=> .agg xs.toArray
 |_=>xs.headD undef
def IG (P:Program) (n:Nat) (t:TypeId) (lks:List LK):Prop:=
 ∀ (d:Nat) (w:World) (xs ys:List Value) (r:Bool),n≤d→dh lks xs ys=some r→(Op.equalIn d t (pO P t xs) (pO P t ys)).run P w= .ok r w
theorem pI {t:TypeId} {lks:List LK} {n:Nat} (hc:ji P n t=some lks) {i:TypeInfo} (hi:P.info? t=some i) (hs:i.size=lks.length) (xs:List Value) (off:Nat) (hl:off+lks.length≤xs.length) (w:World):
  (part t xs.toArray off).run P w= .ok (pO P t ((xs.drop off).take lks.length)) w:=by
 cases n with
 |zero=>simp [ji] at hc
 | succ n=>
  unfold ji at hc
  cases hu:P.underlying t with
  |none=>simp [hu] at hc
  | some d=>
   have hag:(isAgg t).run P w= .ok d.isRow w:=by
    unfold isAgg;rw [Sem.run_bind,run_underlying hu w]
    cases d<;>simp [TypeDesc.isRow]
   cases d<;>simp only [hu] at hc<;>try cases hc
   case struct fs=>
    simp only [TypeDesc.isRow] at hag
    simp [part,hag,Go.sizeOf,typeInfo,hi,hs,pO,hu]
   all_goals
    simp only [TypeDesc.isRow] at hag
    simp only [List.length_cons,List.length_nil,Nat.zero_add] at hl
    have hx:xs[off]? =some (xs[off]'(by omega)):=List.getElem?_eq_getElem (by omega)
    simp only [part,Sem.run_bind,hag,Result.andThen_ok,Bool.false_eq_true,if_false,pO,hu]
    have e:((xs.drop off).take [LK.str].length).headD undef=xs[off]'(by omega):=by
     rw [List.headD_eq_head?_getD,List.head?_take,List.head?_drop,hx];simp
    have h2:(xs.toArray)[off]? =some (xs[off]'(by omega)):=by simp
    rw [h2]
    first|exact congrArg (fun v=>Result.ok v w) e.symm|(simp only [List.length_cons,List.length_nil] at e ⊢;exact congrArg (fun v=>Result.ok v w) e.symm)
theorem kn {n:Nat} (ih:∀ t lks,ji P n t=some lks→IG P n t lks):∀ (fs:List Field) (off:Nat) (lks:List LK),ug P (ji P n) fs off=some lks→
  ∀ (d:Nat) (w:World) (xs ys:List Value) (r:Bool),n≤d→xs.length=off+lks.length→ys.length=off+lks.length→dh lks (xs.drop off) (ys.drop off)=some r→
   (Op.eqFields d xs.toArray ys.toArray fs).run P w= .ok r w
 | [],off,lks,hc,d,w,xs,ys,r,hd,hx,hy,h=>by
  simp [ug] at hc;subst hc
  have e1:xs.drop off= []:=List.drop_eq_nil_of_le (by simp at hx;omega)
  have e2:ys.drop off= []:=List.drop_eq_nil_of_le (by simp at hy;omega)
  rw [e1,e2] at h
  simp [dh] at h;subst h
  simp [Op.eqFields]
 | f ::fs,off,lks,hc,d,w,xs,ys,r,hd,hx,hy,h=>by
  simp only [ug] at hc
  cases hf:ji P n f.type with
  |none=>simp [hf] at hc
  | some l=>
   simp only [hf] at hc
   split at hc
   ·rename_i hcond
    simp only [Bool.and_eq_true,Bool.not_eq_true'] at hcond
    obtain ⟨⟨c1,c2⟩,c3⟩:=hcond
    cases hr:ug P (ji P n) fs (off+l.length) with
    |none=>simp [hr] at hc
    | some l'=>
     simp only [hr] at hc
     cases hc
     cases hi:P.info? f.type with
     |none=>simp [hi] at c3
     |some i=>
      simp only [hi] at c3
      have c3:=aL c3
      have c2:=aL c2
      have hne:f.name ≠ "_" :=by intro e;rw [e] at c1;exact absurd c1 (by decide)
      simp only [List.length_append] at hx hy
      obtain ⟨a,b,h1,h2,rfl⟩:=ni l l' _ _ r h
      have p1:=pI hf hi c3 xs off (by omega) w
      have p2:=pI hf hi c3 ys off (by omega) w
      have p3:=ih f.type l hf d w _ _ a hd h1
      have p4:=kn ih fs (off+l.length) l' hr d w xs ys b hd (by omega) (by omega) (by simpa [List.drop_drop,Nat.add_comm] using h2)
      simp only [Op.eqFields,hne,ne_eq,not_false_eq_true,if_true,Sem.run_bind,c2,p1,p2,p3,Result.andThen_ok]
      cases a
      ·simp
      ·simpa using p4
   ·cases hc
theorem wL : ∀ (n:Nat) (t:TypeId) (lks:List LK),ji P n t=some lks→IG P n t lks
  |0,_,_,h=>by simp [ji] at h
  | n + 1,t,lks,h=>by
    intro d w xs ys r hd hr
    obtain ⟨d,rfl⟩:∃ k,d=k+1:=⟨d - 1,by omega⟩
    have hl:=lO _ _ _ _ hr
    unfold ji at h
    cases hu:P.underlying t with
    |none=>simp [hu] at h
    | some ds=>
      cases ds<;>simp only [hu] at h<;>try cases h
      case struct fs=>
        split at h
        · cases h
        · rename_i hst
          have hfo:P.fieldsOf t=fs:=by simp [Program.fieldsOf,hu]
          have e:=run_equalIn_struct (P:=P) w d t xs.toArray ys.toArray (by rw [hfo];exact hu) hst
          simp only [pO,hu]
          rw [e,hfo]
          exact kn (wL n) fs.toList 0 lks h d w xs ys r (by omega) (by simp [hl.1]) (by simp [hl.2]) (by simpa using hr)
      all_goals
        simp only [List.length_cons,List.length_nil,Nat.zero_add] at hl
        match xs,ys,hl,hr with
        | [x], [y],_,hr=>
          simp only [dh,Option.map_some,Bool.and_true] at hr
          obtain ⟨c,hc,hr⟩:=bind_some hr
          cases hr
          simp only [pO,hu,List.headD_cons]
          cases x<;>cases y<;>simp [um] at hc
          first
            | (split at hc
               · rename_i hk
                 simp only [Bool.and_eq_true] at hk
                 obtain rfl:=fQ hk.1
                 obtain rfl:=fQ hk.2
                 cases hc
                 exact run_equalIn_int (P:=P) w d t _ _ _ _ hu
               · cases hc)
            |(subst hc;rw [run_equalIn_bool' (P:=P) w d t _ _ hu])
            |(subst hc;rw [run_equalIn_string (P:=P) w d t _ _ hu])
end
end AM
namespace AM
open Go
section
variable {P:Program} {ap:AP} {g:bX} {m:aX} {S:aS} {w:World}
theorem Lz {d:TypeDesc} (h:gJ P (some d)= .ptr):∃ e,d= .pointer e:=by cases d<;>simp [gJ] at h;exact ⟨_,rfl⟩
theorem Ih {d:TypeDesc} (h:gJ P (some d)= .func):∃ a b c,d= .func a b c:=by cases d<;>simp [gJ] at h;exact ⟨_,_,_,rfl⟩
theorem Fm {d:TypeDesc} (h:gJ P (some d)= .iface):∃ e,d= .interface e:=by cases d<;>simp [gJ] at h;exact ⟨_,rfl⟩
theorem G8 {a b:LK} (h:Ka a b=true):a=b:=by
 cases a<;>cases b<;>simp [Ka] at h
 ·rw [fQ h]
 ·rfl
 ·rfl
theorem xh:∀ {a b:List LK},ux a b=true→a=b
 | [],[],_=>rfl
 |_::_,_::_,h=>by simp only [ux,Bool.and_eq_true] at h;rw [G8 h.1,xh h.2]
 | [],_::_,h=>by simp [ux] at h
 |_::_,[],h=>by simp [ux] at h
theorem yK {k:LK} {a b:AV} {r:Bool} (h:yJ k a b=some r) {x y:Value} (ha:VR g m S a x) (hb:VR g m S b y):um k x y=some r:=by
 unfold yJ at h
 split at h
 ·simp only [VR,PR] at ha hb;subst ha;subst hb
  split at h
  ·rename_i hk;cases h;simp [um,hk]
  ·cases h
 ·simp only [VR,PR] at ha hb;subst ha;subst hb;simpa [um] using h
 ·simp only [VR,PR] at ha hb;subst ha;subst hb
  simpa [um,sM] using h
 ·cases h
theorem lN:∀ {ks:List LK} {as bs:List AV} {r:Bool} {xs ys:List Value},fC ks as bs=some r→bn g m S as xs→bn g m S bs ys→dh ks xs ys=some r
 | [],[],[],r,xs,ys,h,ha,hb=>by
  cases xs<;>cases ys<;>simp [bn] at ha hb
  simpa [fC,dh] using h
 |k::ks,a::as,b::bs,r,x::xs,y::ys,h,ha,hb=>by
  simp only [fC] at h
  obtain ⟨c,hc,h⟩:=bind_some h
  rw [Option.map_eq_some_iff] at h
  obtain ⟨d,hd,rfl⟩:=h
  simp only [bn] at ha hb
  simp [dh,yK hc ha.1 hb.1,lN hd ha.2 hb.2]
 | [],_::_,_,_,_,_,h,_,_=>by simp [fC] at h
 | [],[],_::_,_,_,_,h,_,_=>by simp [fC] at h
 |_::_,[],_,_,_,_,h,_,_=>by simp [fC] at h
 |_::_,_::_,[],_,_,_,h,_,_=>by simp [fC] at h
 |_::_,_::_,_::_,_,[],_,_,ha,_=>by simp [bn] at ha
 |_::_,_::_,_::_,_,_::_,[],_,_,hb=>by simp [bn] at hb
theorem xU (hap:eJ P ap) {t:Nat} {ti:TI} (h:ap.tyAt t=some ti):ti.cmp=JK P t∧ti.lks=uy P 8 t:=by
 have h1:=hap.ty t ti h
 unfold Fq at h1
 split at h1
 ·split at h1
  ·cases h1;exact ⟨rfl,rfl⟩
  ·cases h1
 ·cases h1
theorem gO (op:BinOp) (t:TypeId) (x y:Operand) (a b:Value) (h1:¬ (a= .nilIface∧b= .nilIface)) (h2:∀ xs ys,¬ (a= .agg xs∧b= .agg ys)):(eqGuard op t x y a b).run P w= .ok () w:=by
 unfold eqGuard
 cases op<;>simp only [Sem.run_ite,Sem.run_pure]<;>try (simp;done)
 all_goals
  simp
  split
  ·exact absurd ⟨rfl,rfl⟩ h1
  ·exact absurd ⟨rfl,rfl⟩ (h2 _ _)
  ·rfl
def AC (op:BinOp) (r:Bool):Bool:=match op with| .neq=> !r|_=>r
theorem qt {t:Nat} {ca cb:Value} {r:Bool} {x y:Operand} (hg:∀ op,(eqGuard op t x y ca cb).run P w= .ok () w) (h:∀ d,(Op.equalIn (d+1) t ca cb).run P w= .ok r w)
  (h1:binOp .eql t ca cb=(do pure (.bool (← Op.equal t ca cb)))) (h2:binOp .neq t ca cb=(do pure (.bool (!(← Op.equal t ca cb))))) {op:BinOp} (hop:op=BinOp.eql∨op=BinOp.neq):
  (do eqGuard op t x y ca cb;binOp op t ca cb:Sem Value).run P w= .ok (.bool (AC op r)) w:=by
 have h':(Op.equal t ca cb).run P w= .ok r w:=h 9999
 rcases hop with rfl|rfl
 ·rw [Sem.run_bind,hg,Result.andThen_ok,h1,Sem.run_bind,h'];rfl
 ·rw [Sem.run_bind,hg,Result.andThen_ok,h2,Sem.run_bind,h'];rfl
theorem ul (hap:eJ P ap) {t:Nat} {ti:TI} (hti:ap.tyAt t=some ti) {a b:AV} {ca cb:Value} (ha:VR g m S a ca) (hb:VR g m S b cb) {r:Bool} (h:QY ti a b=some r) (hn:∀ x ∈ rU a b,x=true) (x y:Operand):
  ∀ op,op=BinOp.eql∨op=BinOp.neq→(do eqGuard op t x y ca cb;binOp op t ca cb:Sem Value).run P w= .ok (.bool (AC op r)) w:=by
 obtain ⟨i,d,z,ht⟩:=cL hap hti
 intro op hop
 unfold QY at h
 split at h
 case h_2 fs xs ys hd=>
  split at h
  ·rename_i hcmp
   rw [(xU hap hti).1] at hcmp
   rw [(xU hap hti).2] at h
   simp only [VR] at ha hb
   obtain ⟨vs,rfl,ha⟩:=ha
   obtain ⟨us,rfl,hb⟩:=hb
   have hv:=lN h ha hb
   unfold JK at hcmp
   cases hl:ji P 8 t with
   |none=>simp [hl] at hcmp
   |some l=>
    simp only [hl,Bool.and_eq_true,Bool.not_eq_true'] at hcmp
    have hl':=xh hcmp.1
    rw [← hl'] at hv
    have hq:=wL 8 t l hl 10000 w vs us r (by omega) hv
    rw [ht.d_eq] at hd
    obtain ⟨fields,rfl,_⟩:=lz hd
    simp only [pO,ht.und] at hq
    have hg:=run_eqGuard_agg (P:=P) w op t x y vs.toArray us.toArray hcmp.2
    rcases hop with rfl|rfl
    ·simp [hg,run_eql_struct,hq,AC]
    ·simp [hg,run_neq_struct,hq,AC]
  ·cases h
 all_goals try (cases h;done)
 all_goals
  rename_i hd
  rw [ht.d_eq] at hd
  try simp only [VR,PR] at ha hb
 all_goals cases h
 case h_1=>
  have hd:=Ig hd
  subst hd
  subst ha;subst hb
  (refine qt (fun op=> ?_) (fun dd=> ?_) rfl rfl hop<;>first|exact gO op t x y _ _ (by simp) (by simp)|exact run_equalIn_bool' (P:=P) w dd t _ _ ht.und)
 all_goals
  first
   |(obtain ⟨e,rfl⟩:=Lz hd)
   |(obtain ⟨e,rfl⟩:=Fm hd)
   |(obtain ⟨e1,e2,e3,rfl⟩:=Ih hd)
   |(have hd:=dq hd;subst hd)
 case h_16 xs n nn=>
  subst hb
  obtain ⟨a,cap,rfl,hle,q⟩:=ha
  rcases q with ⟨rfl,rfl,rfl,rfl,rfl⟩|⟨b,o,vs,rfl,_⟩
  ·exact absurd (hn _ (by simp [rU];rfl)) (by decide)
  ·(refine qt (fun op=> ?_) (fun dd=> ?_) rfl rfl hop<;>first|exact gO op t x y _ _ (by simp) (by simp)|simp [Op.equalIn,run_underlying ht.und])
 case h_17 xs n nn=>
  subst ha
  obtain ⟨a,cap,rfl,hle,q⟩:=hb
  rcases q with ⟨rfl,rfl,rfl,rfl,rfl⟩|⟨b,o,vs,rfl,_⟩
  ·exact absurd (hn _ (by simp [rU];rfl)) (by decide)
  ·(refine qt (fun op=> ?_) (fun dd=> ?_) rfl rfl hop<;>first|exact gO op t x y _ _ (by simp) (by simp)|simp [Op.equalIn,run_underlying ht.und])
 all_goals
  try subst ha
  try subst hb
  try (obtain ⟨_,_,_,⟨_,_,rfl⟩,_⟩:=ha)
  try (obtain ⟨_,_,_,⟨_,_,rfl⟩,_⟩:=hb)
  try (obtain ⟨_,_,_,⟨_,_,_,rfl⟩,_⟩:=ha)
  try (obtain ⟨_,_,_,⟨_,_,_,rfl⟩,_⟩:=hb)
  try (obtain ⟨_,_,_,rfl,_⟩:=ha)
  try (obtain ⟨_,_,_,rfl,_⟩:=hb)
  try (obtain ⟨_,_,rfl,_⟩:=ha)
  try (obtain ⟨_,_,rfl,_⟩:=hb)
  try (obtain ⟨_,rfl,_⟩:=ha)
  try (obtain ⟨_,rfl,_⟩:=hb)
  (refine qt (fun op=> ?_) (fun dd=> ?_) rfl rfl hop<;>first|exact gO op t x y _ _ (by simp) (by simp)|simp [Op.equalIn,run_underlying ht.und])
end
end AM
namespace AM
open Go
section
variable {P:Program} {ap:AP} {g:bX} {m:aX} {S:aS} {w:World}
theorem yu (a b:List UInt8):(⟨a.toArray⟩:ByteArray)++⟨b.toArray⟩=⟨(a++b).toArray⟩:=by
 apply ByteArray.ext
 rw [ByteArray.data_append]
 simp
theorem yz (hap:eJ P ap) {t:Nat} {ti:TI} (hti:ap.tyAt t=some ti) {a b v:AV} {ca cb:Value} (ha:VR g m S a ca) (hb:VR g m S b cb) {op:BinOp} {ups:List (Nat × a_)} {bs:List Bool}
  (h:JA op ti a b=some (v,ups,bs)) (hbs:∀ x ∈ bs,x=true) (x y:Operand):
  ups= []∧∃ cv,(do eqGuard op t x y ca cb;binOp op t ca cb:Sem Value).run P w= .ok cv w∧VR g m S v cv:=by
 unfold JA at h
 split at h
 ·rename_i k p k' q
  simp only [VR,PR] at ha hb
  subst ha;subst hb
  have hg:(eqGuard op t x y (.int k p) (.int k' q)).run P w= .ok () w:=gO op t x y _ _ (by simp) (by simp)
  rw [Sem.run_bind,hg,Result.andThen_ok]
  split at h
  ·obtain ⟨rfl,rfl,rfl⟩:=aN h
   have h0:=of_decide_eq_true (hbs _ (List.mem_singleton.2 rfl))
   exact ⟨rfl,_,by simp [binOp,Op.shift,show ¬ q<0 by omega];rfl,by simp only [VR,PR]⟩
  ·obtain ⟨rfl,rfl,rfl⟩:=aN h
   have h0:=of_decide_eq_true (hbs _ (List.mem_singleton.2 rfl))
   exact ⟨rfl,_,by simp [binOp,Op.shift,show ¬ q<0 by omega];rfl,by simp only [VR,PR]⟩
  ·split at h
   ·cases h
   ·rename_i hk
    have hk:=fQ hk
    subst hk
    split at h
    all_goals try (cases h;done)
    all_goals obtain ⟨rfl,rfl,rfl⟩:=aN h
    case h_4=>
     have h0:(q==0)=false:=by simpa using hbs _ (List.mem_singleton.2 rfl)
     have h0:¬ q=0:=by simpa using h0
     exact ⟨rfl,_,by simp [binOp,Op.intDiv,h0];rfl,by simp only [VR,PR]⟩
    case h_5=>
     have h0:(q==0)=false:=by simpa using hbs _ (List.mem_singleton.2 rfl)
     have h0:¬ q=0:=by simpa using h0
     exact ⟨rfl,_,by simp [binOp,Op.intDiv,h0];rfl,by simp only [VR,PR]⟩
    all_goals exact ⟨rfl,_,by simp only [binOp,Op.intArith,Op.intBits,Op.intCmp,ne_eq,not_true_eq_false,if_false];rfl,by simp only [VR,PR];first|done|rfl⟩
 ·rename_i p q
  simp only [VR,PR] at ha hb
  subst ha;subst hb
  have hg:(eqGuard op t x y (.string ⟨p.toArray⟩) (.string ⟨q.toArray⟩)).run P w= .ok () w:=gO op t x y _ _ (by simp) (by simp)
  rw [Sem.run_bind,hg,Result.andThen_ok]
  split at h
  all_goals try (cases h;done)
  all_goals obtain ⟨rfl,rfl,rfl⟩:=aN h
  case h_1=>
   have h0:=dw (hbs _ (List.mem_singleton.2 rfl))
   have h1:¬ (IntKind.i64.max<((p.length+q.length:Nat):Int)):=by
    have:IntKind.i64.max=9223372036854775807:=by decide
    omega
   refine ⟨rfl,.string ⟨(p++q).toArray⟩, ?_,by simp only [VR,PR]⟩
   simp only [binOp,Op.stringOp,nN,gt_iff_lt,h1,if_false,yu,Sem.run_pure]
  all_goals
   refine ⟨rfl,_,rfl, ?_⟩
   simp only [VR,PR,sM,mU]
 ·split at h
  ·obtain ⟨r,hr,h⟩:=bind_some h
   obtain ⟨rfl,rfl,rfl⟩:=aN h
   exact ⟨rfl,_,ul hap hti ha hb hr hbs x y _ (.inl rfl),by simp only [VR,PR];rfl⟩
  ·obtain ⟨r,hr,h⟩:=bind_some h
   obtain ⟨rfl,rfl,rfl⟩:=aN h
   exact ⟨rfl,_,ul hap hti ha hb hr hbs x y _ (.inr rfl),by simp only [VR,PR];rfl⟩
  ·cases h
theorem C4 {x v:AV} {cx:Value} (hx:VR g m S x cx) {op:UnOp} {ups:List (Nat × a_)} {bs:List Bool} (h:SX op x=some (v,ups,bs)):
  ups= []∧∃ cv,(Op.unary op cx).run P w= .ok cv w∧VR g m S v cv:=by
 unfold SX at h
 split at h
 ·obtain ⟨rfl,rfl,rfl⟩:=aN h
  simp only [VR,PR] at hx;subst hx
  exact ⟨rfl,_,rfl,by simp only [VR,PR]⟩
 ·obtain ⟨rfl,rfl,rfl⟩:=aN h
  simp only [VR,PR] at hx;subst hx
  exact ⟨rfl,_,rfl,by simp only [VR,PR]⟩
 ·cases h
theorem kF {f:AV→AV→Option AV} {F:Value→Value→Sem Value} (hf:∀ a b c ca cb,VR g m S a ca→VR g m S b cb→f a b=some c→∃ cc,(F ca cb).run P w= .ok cc w∧VR g m S c cc):
  ∀ (l:List AV) (cl:List Value) (x v:AV) (cx:Value),bn g m S l cl→VR g m S x cx→wV f x l=some v→∃ cv,(cl.foldlM F cx).run P w= .ok cv w∧VR g m S v cv
 | [],[],x,v,cx,_,hx,h=>by simp [wV] at h;subst h;exact ⟨cx,by simp,hx⟩
 | y::r,cy::cr,x,v,cx,hl,hx,h=>by
  simp only [bn] at hl
  simp only [wV] at h
  split at h
  ·rename_i z hz
   obtain ⟨cz,h1,h2⟩:=hf _ _ _ _ _ hx hl.1 hz
   obtain ⟨cv,h3,h4⟩:=kF hf r cr z v cz hl.2 h2 h
   exact ⟨cv,by simp [List.foldlM_cons,h1,h3],h4⟩
  ·cases h
 | [],_::_,_,_,_,hl,_,_=>by simp [bn] at hl
 |_::_,[],_,_,_,hl,_,_=>by simp [bn] at hl
theorem zh {a b c:AV} {ca cb:Value} (ha:VR g m S a ca) (hb:VR g m S b cb) (h:min2 a b=some c):∃ cc,(Builtin.min2 ca cb).run P w= .ok cc w∧VR g m S c cc:=by
 unfold min2 at h
 split at h
 ·split at h
  ·cases h
   simp only [VR,PR] at ha hb;subst ha;subst hb
   exact ⟨_,rfl,by simp only [VR,PR]⟩
  ·cases h
 ·cases h
theorem zb {a b c:AV} {ca cb:Value} (ha:VR g m S a ca) (hb:VR g m S b cb) (h:max2 a b=some c):∃ cc,(Builtin.max2 ca cb).run P w= .ok cc w∧VR g m S c cc:=by
 unfold max2 at h
 split at h
 ·split at h
  ·cases h
   simp only [VR,PR] at ha hb;subst ha;subst hb
   exact ⟨_,rfl,by simp only [VR,PR]⟩
  ·cases h
 ·cases h
theorem Cl {l:List AV} {cl:List Value} (hl:bn g m S l cl) {v:AV} (h:ol min2 l=some v) (ats:Array TypeId) (ty:Nat):∃ cv,(Builtin.min_ ats ty cl.toArray).run P w= .ok cv w∧VR g m S v cv:=by
 cases l with
 |nil=>simp [ol] at h
 | cons x r=>cases cl with
  |nil=>simp [bn] at hl
  |cons cx cr=>
   simp only [bn] at hl
   obtain ⟨cv,h1,h2⟩:=kF (P:=P) (w:=w) (F:=Builtin.min2) (fun _ _ _ _ _=>zh) r cr x v cx hl.2 hl.1 h
   exact ⟨cv,by simpa [Builtin.min_] using h1,h2⟩
theorem Cj {l:List AV} {cl:List Value} (hl:bn g m S l cl) {v:AV} (h:ol max2 l=some v) (ats:Array TypeId) (ty:Nat):∃ cv,(Builtin.max_ ats ty cl.toArray).run P w= .ok cv w∧VR g m S v cv:=by
 cases l with
 |nil=>simp [ol] at h
 | cons x r=>cases cl with
  |nil=>simp [bn] at hl
  |cons cx cr=>
   simp only [bn] at hl
   obtain ⟨cv,h1,h2⟩:=kF (P:=P) (w:=w) (F:=Builtin.max2) (fun _ _ _ _ _=>zb) r cr x v cx hl.2 hl.1 h
   exact ⟨cv,by simpa [Builtin.max_] using h1,h2⟩
end
end AM
