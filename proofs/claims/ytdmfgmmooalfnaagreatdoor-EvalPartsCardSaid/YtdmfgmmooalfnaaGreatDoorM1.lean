/- The abstract machine over the code of the model, and the proof that it is sound. No conditions. -/
import Derived.WalkKit
import Derived.Deep.AppendSrc
import Derived.Deep.MidRow
import Derived.WalkLawsBesides
set_option linter.unusedSimpArgs false
set_option linter.unusedVariables false
namespace AM
open Go
inductive AV where
 |int (k:IntKind) (n:Int)
 |bool (b:Bool)
 |str (s:List UInt8)
 |agg (l:List AV)
 |tup (l:List AV)
 |nilS
 |sl (xs:List AV) (n:Nat) (nn:Bool)
 |ref (b ver i n:Nat)
 |own (xs:List AV) (n esz:Nat)
 |ptr (b ver off:Nat)
 |pp (xs:List AV) (off:Nat)
 |mr (b ver:Nat)
 |mp (ks vs:List AV)
 |nilP
 |fn (f:Nat) (first cap:List AV)
 |nilF
 |ifc (t:Nat) (v:AV)
 |nilI
 |dead
inductive LK where
 |int (k:IntKind)
 |bool
 |str
 |sl
 |oth
inductive TD where
 |struct (fs:List (Nat × Nat × Nat))
 |array (n elem:Nat)
 |slice (elem:Nat)
 |int (k:IntKind)
 |str
 |bool
 |iface
 |ptr
 |func
 |map (k e:Nat)
 |oth
structure TI where
 d:TD
 size:Nat
 bytes:Nat
 zero:List AV
 lks:List LK
 cmp:Bool
structure AF where
 fn:Func
 keep:List Nat
 shared:Bool
inductive Tr (α:Type) where
 |nil
 |node (v:Option α) (l r:Tr α)
def Tr.get {α:Type}:Tr α→Nat→Option α
 | .nil,_=>none
 | .node v l r,n=>match Nat.beq n 0 with
  |true=>v
  |false=>match Nat.beq (n % 2) 1 with
   |true=>l.get ((n - 1) / 2)
   |false=>r.get ((n - 1) / 2)
structure AP where
 nty:Nat
 ty:Tr TI
 nfn:Nat
 fn:Tr AF
 gl:List (Option (List AV))
def iC:Nat:=4611686018427387904
def aaC:List AV→Option AV
 | [.agg ks,.agg vs]=>some (.mp ks vs)
 |_=>none
structure aZ where
 cells:List AV
 ver:Nat
 fro:Bool
 fz:Nat
 esz:Nat
 pr:Bool
abbrev iI:=List (Nat × AV)
abbrev Hp:=List (Nat × aZ)
def az {α:Type}:List (Nat × α)→Nat→Option α
 | [],_=>none
 |(u,x)::r,t=>match Nat.beq u t with|true=>some x|false=>az r t
def jW {α β:Type} (f:α→Option β):List α→Option (List β)
 | []=>some []
 |x::r=>match f x with
  |some y=>match jW f r with|some l=>some (y::l)|none=>none
  |none=>none
def iI.get (e:iI) (t:Nat):AV:=(az e t).getD .dead
def AV.cells:AV→List AV
 | .agg l=>l
 |x=> [x]
def AV.toInt:AV→Int| .int _ n=>n|_=>0
def AV.toBool:AV→Bool| .bool b=>b|_=>false
def AV.toStr:AV→List UInt8| .str s=>s|_=> []
def AV.slX:AV→List AV| .sl xs _ _=>xs|_=> []
def AV.slN:AV→Nat| .sl _ n _=>n|_=>0
def WC:IntKind→Nat
 | .i8=>0| .i16=>1| .i32=>2| .i64=>3| .u8=>4| .u16=>5| .u32=>6| .u64=>7
def iD (a b:IntKind):Bool:=Nat.beq (WC a) (WC b)
def chk:LK→AV→Bool
 | .int k,.int k' _=>iD k k'
 | .bool,.bool _=>true
 | .str,.str _=>true
 | .sl,.sl _ _ _=>true
 | .sl,.nilS=>true
 | .oth,.dead=>false
 | .oth,.agg _=>false
 | .oth,.tup _=>false
 | .oth,.own _ _ _=>false
 | .oth,_=>true
 |_,_=>false
def eta:LK→AV→AV
 | .int k,c=> .int k c.toInt
 | .bool,c=> .bool c.toBool
 | .str,c=> .str c.toStr
 | .sl,c=> .sl c.slX c.slN false
 | .oth,c=>c
def oh:AV→Bool
 | .dead| .agg _| .tup _| .own _ _ _=>false
 |_=>true
mutual
def dP:AV→List Nat
 | .ref b _ _ _=> [b]
 | .ptr b _ _=> [b]
 | .mr b _=> [b]
 | .agg l=>bP l
 | .tup l=>bP l
 | .fn _ f c=>bP f++bP c
 | .ifc _ v=>dP v
 |_=> []
def bP:List AV→List Nat
 | []=> []
 |x::r=>dP x++bP r
end
mutual
def ren (ρ:Nat→Nat→Option (Nat × Nat)):AV→AV
 | .ref b v i n=>match ρ b v with|some (b',v')=> .ref b' v' i n|none=> .dead
 | .ptr b v o=>match ρ b v with|some (b',v')=> .ptr b' v' o|none=> .dead
 | .mr b v=>match ρ b v with|some (b',v')=> .mr b' v'|none=> .dead
 | .agg l=> .agg (mD ρ l)
 | .tup l=> .tup (mD ρ l)
 | .fn f a c=> .fn f (mD ρ a) (mD ρ c)
 | .ifc t v=> .ifc t (ren ρ v)
 |x=>x
def mD (ρ:Nat→Nat→Option (Nat × Nat)):List AV→List AV
 | []=> []
 |x::r=>ren ρ x::mD ρ r
end
def Jq:Value→AV
 | .int k n=> .int k n
 | .bool b=> .bool b
 | .string s=> .str s.data.toList
 | .pointer a=>match a with|none=> .nilP|some _=> .dead
 | .slice a n c=>match a,n,c with|none,0,0=> .nilS|_,_,_=> .dead
 | .nilFunc=> .nilF
 | .nilIface=> .nilI
 | .map a=>match a with|none=> .mp [] []|some _=> .dead
 |_=> .dead
def EW:Value→AV
 | .agg cs=> .agg (cs.toList.map Jq)
 | .tuple vs=>match vs.toList with| []=> .tup []|_=> .dead
 |v=>Jq v
def AP.tyAt (ap:AP) (t:Nat):Option TI:=match Nat.blt t ap.nty with|true=>ap.ty.get t|false=>none
def AP.fnAt (ap:AP) (f:Nat):Option AF:=match Nat.blt f ap.nfn with|true=>ap.fn.get f|false=>none
def su (l:List Nat) (a:Nat):Bool:=l.any (Nat.beq a)
def iV (l:List Nat):List Nat:=l.foldl (fun acc b=>if su acc b then acc else acc++ [b]) []
abbrev Ip:=Option (AV × List (Nat × aZ) × List Bool)
def bu (v:AV) (bs:List Bool:= []):Ip:=some (v,[],bs)
def L8 (ty:Bool):List LK→List AV→List AV
 | [],_=> []
 |k::ks,ys=>(match ty with|true=>eta k (ys.headD .dead)|false=>ys.headD .dead)::L8 ty ks ys.tail
def Vf (ty:Bool):List LK→List AV→List Bool
 | [],_=> []
 |k::ks,ys=>(match ty with|true=>chk k (ys.headD .dead)|false=>chk .oth (ys.headD .dead))::Vf ty ks ys.tail
def uX (ty:Bool) (ks:List LK) (xs:List AV) (off:Nat):List AV:=L8 ty ks (xs.drop off)
def II (ty:Bool) (ks:List LK) (xs:List AV) (off:Nat):List Bool:=Vf ty ks (xs.drop off)
def Ja:TD→Bool
 | .struct _=>true
 | .array _ _=>true
 |_=>false
def qX (ti:TI) (cs:List AV):Option AV:=
 match Ja ti.d with
 |true=>some (.agg cs)
 |false=>match cs with| [c]=>some c|_=>none
def Lr (ti:TI) (rd:Nat→Option aZ) (p:AV):Ip:=
 match p with
 | .pp xs off=>(qX ti (uX true ti.lks xs off)).bind fun v=>bu v (II true ti.lks xs off)
 | .ptr b ver off=>(rd b).bind fun B=>match Nat.beq B.ver ver && !(Nat.beq B.esz iC) with
  |true=>(qX ti (uX (Nat.blt 0 B.esz && B.pr) ti.lks B.cells off)).bind fun v=>bu v (II (Nat.blt 0 B.esz && B.pr) ti.lks B.cells off)
  |false=>none
 |_=>none
def iE (xs:List AV) (off:Nat) (vs:List AV):List AV:=xs.take off++vs++xs.drop (off+vs.length)
def Ph (ti:TI) (rd:Nat→Option aZ) (p v:AV):Ip:=
 match p with
 | .ptr b ver off=>(rd b).bind fun B=>
  let vs:=v.cells
  let rs:=bP vs
  match Nat.beq B.ver ver && !B.fro && Nat.beq vs.length ti.size && vs.all oh && !(Nat.beq B.esz iC) with
  |true=>some (.dead,[(b,{B with cells:=iE B.cells off vs,pr:=B.pr && rs.isEmpty})],[Nat.ble (off+vs.length) B.cells.length])
  |false=>none
 |_=>none
def iU (nid:Nat) (cells:List AV) (esz:Nat):Nat × aZ:=(nid,{cells,ver:=0,fro:=false,fz:=0,esz,pr:=(bP cells).isEmpty})
def wM (cells:List AV):List (Nat × Nat × AV)→Option (List AV)
 | []=>some cells
 |(off,size,v)::r=>match Nat.beq v.cells.length size && Nat.ble (off+size) cells.length && v.cells.all oh with
  |true=>wM (iE cells off v.cells) r
  |false=>none
def NJ (ap:AP) (ti:TI) (parts:List (Nat × AV)):Ip:=
 match ti.d with
 | .struct fs=>(jW (fun (q:Nat × AV)=>(fs[q.1]?).map fun (x:Nat × Nat × Nat)=>(x.1,x.2.2,q.2)) parts).bind fun ps=>(wM ti.zero ps).bind fun cs=>bu (.agg cs)
 | .array _ e=>(ap.tyAt e).bind fun te=>(wM ti.zero (parts.map fun (i,v)=>(i*te.size,te.size,v))).bind fun cs=>bu (.agg cs)
 |_=>none
def f_ (n:Nat) (z:List AV):List AV:=(List.replicate n z).flatten
def ul (ap:AP) (nid:Nat) (ti:TI) (len:Nat) (parts:List (Nat × AV)):Ip:=
 match ti.d with
 | .slice e=>(ap.tyAt e).bind fun te=>
  match Nat.blt 0 te.size && Nat.ble (len*te.size) (2^24) && Nat.beq te.zero.length te.size with
  |true=>(wM (f_ len te.zero) (parts.map fun (i,v)=>(i*te.size,te.size,v))).bind fun cs=>
   some (.ref nid 0 0 len,[iU nid cs te.size],[])
  |false=>none
 |_=>none
def Xi (p:AV) (o:Nat):Option AV:=
 match p with
 | .ptr b v off=>some (.ptr b v (off+o))
 | .pp xs off=>some (.pp xs (off+o))
 |_=>none
def Qp (v:AV):Option Int:=match v with| .int _ n=>some n|_=>none
def xw (ap:AP) (ti:TI) (rd:Nat→Option aZ) (x i:AV):Ip:=
 (Qp i).bind fun i=>
 match ti.d with
 | .slice e=>(ap.tyAt e).bind fun te=>
  match x with
  | .sl xs n _=>bu (.pp xs (i.toNat*te.size)) [decide (0≤i),decide (i<n)]
  | .ref b ver j n=>(rd b).bind fun B=>match Nat.beq B.ver ver && Nat.beq B.esz te.size with
   |true=>bu (.ptr b ver ((j+i.toNat)*te.size)) [decide (0≤i),decide (i<n)]
   |false=>none
  |_=>none
 | .array n e=>(ap.tyAt e).bind fun te=>(Xi x (i.toNat*te.size)).bind fun p=>bu p [decide (0≤i),decide (i<n)]
 |_=>none
def Om (ap:AP) (ti:TI) (x i:AV):Ip:=
 (Qp i).bind fun i=>
 match ti.d,x with
 | .str,.str s=>bu (.int .u8 (s.getD i.toNat 0).toNat) [decide (0≤i),decide (i<s.length)]
 | .array n e,.agg cs=>(ap.tyAt e).bind fun te=>
  (qX te (uX true te.lks cs (i.toNat*te.size))).bind fun v=>bu v (decide (0≤i)::decide (i<n)::II true te.lks cs (i.toNat*te.size))
 |_,_=>none
def oH (v:Option AV) (d:Int):Option Int:=match v with|none=>some d|some (.int _ n)=>some n|some _=>none
def O8 (ap:AP) (ti:TI) (rd:Nat→Option aZ) (x:AV) (lo hi mx:Option AV):Ip:=
 match ti.d,x,mx with
 | .str,.str s,none=>(oH lo 0).bind fun l=>(oH hi s.length).bind fun h=>
   bu (.str ((s.take h.toNat).drop l.toNat)) [decide (0≤l),decide (l≤h),decide (h≤s.length)]
 | .slice e,.sl xs n nn,none=>(ap.tyAt e).bind fun te=>(oH lo 0).bind fun l=>(oH hi n).bind fun h=>
   bu (.sl ((xs.take (h.toNat*te.size)).drop (l.toNat*te.size)) (h.toNat - l.toNat) nn) [decide (0≤l),decide (l≤h),decide (h≤n)]
 | .slice e,.ref b ver j n,none=>(ap.tyAt e).bind fun te=>(rd b).bind fun B=>(oH lo 0).bind fun l=>(oH hi n).bind fun h=>
   match Nat.beq B.ver ver && Nat.beq B.esz te.size with
   |true=>bu (.ref b ver (j+l.toNat) (h.toNat - l.toNat)) [decide (0≤l),decide (l≤h),decide (h≤n)]
   |false=>none
 | .slice e,.nilS,none=>(ap.tyAt e).bind fun _=>(oH lo 0).bind fun l=>(oH hi 0).bind fun h=>bu .nilS [decide (l=0),decide (h=0)]
 |_,_,_=>none
def WH (d:TD) (x:AV):Ip:=
 match d,x with
 | .array n _,_=>bu (.int .i64 n)
 | .str,.str s=>bu (.int .i64 s.length)
 | .slice _,.sl _ n _=>bu (.int .i64 n)
 | .slice _,.ref _ _ _ n=>bu (.int .i64 n)
 | .slice _,.nilS=>bu (.int .i64 0)
 |_,_=>none
def MO (size:Nat) (rd:Nat→Option aZ) (x:AV):Option (List AV × Nat × Bool):=
 match x with
 | .sl xs n _=>some (xs,n,true)
 | .nilS=>some ([],0,true)
 | .str s=>some (s.map fun b=> .int .u8 b.toNat,s.length,true)
 | .ref b ver j n=>(rd b).bind fun B=>match Nat.beq B.ver ver && Nat.beq B.esz size && !(Nat.beq B.esz iC) with
  |true=>some ((B.cells.drop (j*size)).take (n*size),n,B.pr)
  |false=>none
 |_=>none
def Ic:Nat:=2^40
def yc (nid:Nat) (te:TI) (rd:Nat→Option aZ) (em:Bool) (s x:AV):Ip:=
 (MO te.size rd x).bind fun (xs,n,pr)=>
 match Nat.blt 0 te.size && Nat.ble te.bytes 128 with
 |false=>none
 |true=>
 match s with
 | .nilS=>match em with
  |true=>bu .nilS [Nat.beq xs.length (n*te.size)]
  |false=>some (.ref nid 0 0 n,[(nid,⟨xs,0,false,0,te.size,pr⟩)],[Nat.beq xs.length (n*te.size),Nat.ble n Ic])
 | .ref b ver 0 m=>(rd b).bind fun B=>match Nat.beq B.ver ver && Nat.beq B.esz te.size && !(Nat.beq B.esz iC) with
  | true=>some (.ref b (ver+1) 0 (m+n),[(b,{B with cells:=B.cells.take (m*te.size)++xs,ver:=ver+1,pr:=B.pr && pr})],
    [Nat.beq xs.length (n*te.size),Nat.ble (m+n) Ic,Nat.ble (m*te.size) B.cells.length, !B.fro||Nat.ble B.fz (m*te.size)])
  |false=>none
 |_=>none
def xf:AV→Option Nat
 | .sl _ n _=>some n
 | .nilS=>some 0
 | .str s=>some s.length
 | .ref _ _ _ n=>some n
 |_=>none
def yI (ρ:Operand→AV) (o:Op):Option Nat:=
 match o with
 | .call {callee:= .builtin .append,args,..}=>match args.toList with
  | [s,x]=>match ρ s with
   | .nilS=>xf (ρ x)
   |_=>none
  |_=>none
 |_=>none
def xA (ap:AP) (nid:Nat) (ti:TI) (l c:AV):Ip:=
 match ti.d,l,c with
 | .slice e,.int _ l,.int _ c=>(ap.tyAt e).bind fun te=>
  match Nat.blt 0 te.size && Nat.beq te.zero.length te.size && Nat.ble te.bytes 128 && (bP te.zero).isEmpty with
  |true=>some (.ref nid 0 0 l.toNat,[(nid,⟨f_ l.toNat te.zero,0,false,0,te.size,true⟩)],[decide (0≤l),decide (l=c),decide (l≤2^40)])
  |false=>none
 |_,_,_=>none
def DX (ap:AP) (ts td:TI) (rd:Nat→Option aZ) (x:AV):Ip:=
 match ts.d,td.d,x with
 |_,.int k,.int _ n=>bu (.int k (k.wrap n))
 | .str,.str,.str s=>bu (.str s)
 | .slice e,.str,x=>(ap.tyAt e).bind fun te=>match te.d,x with
  | .int .u8,.str _=>none
  | .int .u8,x=>(MO 1 rd x).bind fun (xs,n,_)=>bu (.str (xs.map fun c=>UInt8.ofNat c.toInt.toNat)) [Nat.beq xs.length n,xs.all (chk (.int .u8))]
  |_,_=>none
 |_,_,_=>none
def NZ:LK→AV→AV→Option Bool
 | .int k,.int k1 a,.int k2 b=>match iD k k1 && iD k k2 with|true=>some (a==b)|false=>none
 | .bool,.bool a,.bool b=>some (a==b)
 | .str,.str a,.str b=>some (a==b)
 |_,_,_=>none
def kw:List LK→List AV→List AV→Option Bool
 | [],[],[]=>some true
 |k::ks,a::as,b::bs=>(NZ k a b).bind fun c=>(kw ks as bs).map fun d=>c && d
 |_,_,_=>none
def eqA (ti:TI) (a b:AV):Option Bool:=
 match ti.d,a,b with
 | .bool,.bool a,.bool b=>some (a==b)
 | .struct _,.agg xs,.agg ys=>match ti.cmp with|true=>kw ti.lks xs ys|false=>none
 | .ptr,.nilP,.nilP=>some true
 | .ptr,.nilP,.ptr _ _ _=>some false
 | .ptr,.nilP,.pp _ _=>some false
 | .ptr,.ptr _ _ _,.nilP=>some false
 | .ptr,.pp _ _,.nilP=>some false
 | .iface,.nilI,.ifc _ _=>some false
 | .iface,.ifc _ _,.nilI=>some false
 | .func,.nilF,.nilF=>some true
 | .func,.nilF,.fn _ _ _=>some false
 | .func,.fn _ _ _,.nilF=>some false
 | .slice _,.nilS,.nilS=>some true
 | .slice _,.ref _ _ _ _,.nilS=>some false
 | .slice _,.nilS,.ref _ _ _ _=>some false
 | .slice _,.sl _ _ _,.nilS=>some false
 | .slice _,.nilS,.sl _ _ _=>some false
 |_,_,_=>none
def ES (a b:AV):List Bool:=
 match a,b with
 | .sl _ n false,.nilS=> [Nat.blt 0 n]
 | .nilS,.sl _ n false=> [Nat.blt 0 n]
 |_,_=> []
def gW:List UInt8→List UInt8→Bool
 |_,[]=>false
 | [],_::_=>true
 |a::x,b::y=>decide (a<b)||(a==b && gW x y)
def adn (op:BinOp) (ti:TI) (x y:AV):Ip:=
 match x,y with
 | .int k a,.int k' b=>
  match op with
  | .shl=>bu (.int k (k.wrap (a*2^(min b.toNat k.bits)))) [decide (0≤b)]
  | .shr=>bu (.int k (a.fdiv (2^(min b.toNat k.bits)))) [decide (0≤b)]
  | _=>match iD k k' with
   |false=>none
   |true=>match op with
    | .add=>bu (.int k (k.wrap (a+b)))
    | .sub=>bu (.int k (k.wrap (a - b)))
    | .mul=>bu (.int k (k.wrap (a*b)))
    | .quo=>bu (.int k (k.wrap (a.tdiv b))) [!(b==0)]
    | .rem=>bu (.int k (a.tmod b)) [!(b==0)]
    | .and=>bu (.int k (k.wrap (BitVec.ofInt k.bits a &&& BitVec.ofInt k.bits b).toNat))
    | .or=>bu (.int k (k.wrap (BitVec.ofInt k.bits a|||BitVec.ofInt k.bits b).toNat))
    | .xor=>bu (.int k (k.wrap (BitVec.ofInt k.bits a^^^BitVec.ofInt k.bits b).toNat))
    | .eql=>bu (.bool (a==b))
    | .neq=>bu (.bool (!(a==b)))
    | .lss=>bu (.bool (decide (a<b)))
    | .leq=>bu (.bool (decide (a≤b)))
    | .gtr=>bu (.bool (decide (b<a)))
    | .geq=>bu (.bool (decide (b≤a)))
    |_=>none
 | .str a,.str b=>
  match op with
  | .add=>bu (.str (a++b)) [Nat.ble (a.length+b.length) 9223372036854775807]
  | .eql=>bu (.bool (a==b))
  | .neq=>bu (.bool (!(a==b)))
  | .lss=>bu (.bool (gW a b))
  | .leq=>bu (.bool (gW a b||a==b))
  | .gtr=>bu (.bool (!(gW a b||a==b)))
  | .geq=>bu (.bool (!gW a b))
  |_=>none
 |x,y=>
  match op with
  | .eql=>(eqA ti x y).bind fun b=>bu (.bool b) (ES x y)
  | .neq=>(eqA ti x y).bind fun b=>bu (.bool (!b)) (ES x y)
  |_=>none
def unA (op:UnOp) (x:AV):Ip:=
 match op,x with
 | .not,.bool b=>bu (.bool (!b))
 | .neg,.int k n=>bu (.int k (k.wrap (0 - n)))
 |_,_=>none
def min2 (a b:AV):Option AV:=match a,b with| .int k x,.int k' y=>(match iD k k' with|true=>some (.int k (if y<x then y else x))|false=>none)|_,_=>none
def max2 (a b:AV):Option AV:=match a,b with| .int k x,.int k' y=>(match iD k k' with|true=>some (.int k (if y>x then y else x))|false=>none)|_,_=>none
def KX (f:AV→AV→Option AV):AV→List AV→Option AV
 |x,[]=>some x
 |x,y::r=>match f x y with|some z=>KX f z r|none=>none
def zY (f:AV→AV→Option AV):List AV→Option AV
 | []=>none
 |x::r=>KX f x r
def IB (ap:AP) (x:AV) (asserted:Nat) (commaOk:Bool):Ip:=
 (ap.tyAt asserted).bind fun ti=>
 match ti.d with
 | .iface=>none
 | _=>match x with
  | .ifc t v=>match Nat.beq t asserted with
   |true=>bu (match commaOk with|true=> .tup [v,.bool true]|false=>v)
   |false=>match commaOk with|true=>(qX ti ti.zero).bind fun z=>bu (.tup [z,.bool false])|false=>none
  | .nilI=>match commaOk with|true=>(qX ti ti.zero).bind fun z=>bu (.tup [z,.bool false])|false=>none
  |_=>none
def Oh (ap:AP) (ti:TI) (x:AV) (f:Nat):Ip:=
 match ti.d,x with
 | .struct fs,.agg cs=>(fs[f]?).bind fun (o,t,_)=>(ap.tyAt t).bind fun tf=>
  (qX tf (uX false tf.lks cs o)).bind fun v=>bu v (II false tf.lks cs o)
 |_,_=>none
def yg:AV→List Nat
 | .ref b _ _ _=> [b]
 | .ptr b _ _=> [b]
 | .mr b _=> [b]
 |_=> []
def XC (ρ:Operand→AV):Op→List Nat
 | .load _ a=>yg (ρ a)
 | .store _ a _=>yg (ρ a)
 | .indexAddr _ x _=>yg (ρ x)
 | .slice _ x _ _ _=>yg (ρ x)
 | .convert _ _ x=>yg (ρ x)
 | .lookup _ x _ _=>yg (ρ x)
 | .mapUpdate _ x _ _=>yg (ρ x)
 | .insert _ x _ _=>yg (ρ x)
 | .call {callee:= .builtin .append,args,..}=>iV (args.toList.flatMap fun x=>yg (ρ x))
 |_=> []
def Hq:LK→AV→Bool
 | .int k,.int k' _=>iD k k'
 | .bool,.bool _=>true
 | .str,.str _=>true
 |_,_=>false
def mO:List LK→List AV→Bool
 | [],[]=>true
 |k::r,x::l=>Hq k x && mO r l
 |_,_=>false
def kD (ti:TI) (x:AV):Bool:=match ti.d,x with
 | .int k,.int k' _=>iD k k'
 | .bool,.bool _=>true
 | .str,.str _=>true
 | .struct _,.agg l=>ti.cmp && mO ti.lks l
 |_,_=>false
def D_:AV→AV→Bool
 | .int _ a,.int _ b=>a==b
 | .bool a,.bool b=>a==b
 | .str a,.str b=>a==b
 |_,_=>false
def IV:List AV→List AV→Bool
 | [],[]=>true
 |a::r,b::q=>D_ a b && IV r q
 |_,_=>false
def xm:AV→AV→Bool
 | .int _ a,.int _ b=>a==b
 | .bool a,.bool b=>a==b
 | .str a,.str b=>a==b
 | .agg a,.agg b=>IV a b
 |_,_=>false
def dM:List AV→List AV→AV→Option AV
 |k0::ks,v0::vs,k=>match xm k k0 with|true=>some v0|false=>dM ks vs k
 |_,_,_=>none
def xE (ks:List AV) (k:AV):List AV:=match ks.any (xm k) with|true=>ks|false=>ks++ [k]
def oZ:List AV→List AV→AV→AV→List AV
 |k0::ks,v0::vs,k,v=>match xm k k0 with|true=>v::vs|false=>v0::oZ ks vs k v
 |_,_,_,v=> [v]
def WS (rd:Nat→Option aZ) (x:AV):Option (List AV × List AV):=
 match x with
 | .mp ks vs=>some (ks,vs)
 | .mr b ver=>(rd b).bind fun B=>match Nat.beq B.ver ver && Nat.beq B.esz iC with
  |true=>match B.cells with| [.agg ks,.agg vs]=>some (ks,vs)|_=>none
  |false=>none
 |_=>none
def Qz (ok:Bool) (o:Option AV) (z:AV):AV:=match ok with|true=> .tup [o.getD z,.bool o.isSome]|false=>o.getD z
def Je (ap:AP) (ti:TI) (rd:Nat→Option aZ) (x k:AV) (ok:Bool):Ip:=
 match ti.d with
 | .map kt et=>(ap.tyAt kt).bind fun tk=>(ap.tyAt et).bind fun te=>(WS rd x).bind fun q=>(qX te te.zero).bind fun z=>
   bu (Qz ok (dM q.1 q.2 k) z) [kD tk k,q.1.all (kD tk)]
 |_=>none
def Dp (ap:AP) (ti:TI) (rd:Nat→Option aZ) (x k v:AV):Ip:=
 match ti.d,x with
 | .map kt _,.mr b ver=>(ap.tyAt kt).bind fun tk=>(rd b).bind fun B=>match Nat.beq B.ver ver && Nat.beq B.esz iC && !B.fro with
  |true=>match B.cells with
   | [.agg ks,.agg vs]=>some (.dead,[(b,{B with cells:= [.agg (xE ks k),.agg (oZ ks vs k v)],pr:=B.pr && (dP v).isEmpty})],[kD tk k,ks.all (kD tk)])
   |_=>none
  |false=>none
 |_,_=>none
def opA (ap:AP) (nid:Nat) (ρ:Operand→AV) (rd:Nat→Option aZ) (dec:Operand→Option Bool) (em:Bool) (o:Op):Ip:=
 match o with
 | .move x=>bu (ρ x)
 | .assign x=>bu (ρ x)
 | .pick c a b=>match dec c with
  |some true=>bu (ρ a)
  |some false=>bu (ρ b)
  |none=>match ρ c,ρ a,ρ b with| .bool c,.bool x,.bool y=>bu (.bool (cond c x y))|_,_,_=>none
 | .alloc e=>(ap.tyAt e).bind fun te=>match Nat.blt 0 te.size && te.zero.all oh with|true=>some (.ptr nid 0 0,[iU nid te.zero 0],[])|false=>none
 | .box e x=>(ap.tyAt e).bind fun te=>let vs:=(ρ x).cells
  match Nat.blt 0 te.size && vs.all oh with|true=>some (.ptr nid 0 0,[iU nid vs 0],[])|false=>none
 | .build t parts=>(ap.tyAt t).bind fun ti=>NJ ap ti (parts.toList.map fun (i,x)=>(i,ρ x))
 | .buildSlice t len parts=>(ap.tyAt t).bind fun ti=>ul ap nid ti len (parts.toList.map fun (i,x)=>(i,ρ x))
 | .load t a=>(ap.tyAt t).bind fun ti=>Lr ti rd (ρ a)
 | .store t a x=>(ap.tyAt t).bind fun ti=>Ph ti rd (ρ a) (ρ x)
 | .makeMap _ r=>match r with|none=>some (.mr nid 0,[(nid,⟨[.agg [],.agg []],0,false,0,iC,true⟩)],[])|some _=>none
 | .lookup t x k ok=>(ap.tyAt t).bind fun ti=>Je ap ti rd (ρ x) (ρ k) ok
 | .mapUpdate t x k v=>(ap.tyAt t).bind fun ti=>Dp ap ti rd (ρ x) (ρ k) (ρ v)
 | .insert t x k v=>(ap.tyAt t).bind fun ti=>Dp ap ti rd (ρ x) (ρ k) (ρ v)
 | .nilCheck x=>match ρ x with
  | .ptr b v o=>bu (.ptr b v o)
  | .pp xs o=>bu (.pp xs o)
  | .fn f a c=>bu (.fn f a c)
  |_=>none
 | .binOp op t x y _=>(ap.tyAt t).bind fun ti=>adn op ti (ρ x) (ρ y)
 | .unOp op _ x=>unA op (ρ x)
 | .convert s d x=>(ap.tyAt s).bind fun ts=>(ap.tyAt d).bind fun td=>DX ap ts td rd (ρ x)
 | .makeInterface t x=>(ap.tyAt t).bind fun ti=>match ti.d with| .iface=>none|_=>bu (.ifc t (ρ x))
 | .makeFunc (.func f) first cap=>bu (.fn f (first.toList.map ρ) (cap.toList.map ρ))
 | .makeSlice t l c=>(ap.tyAt t).bind fun ti=>xA ap nid ti (ρ l) (ρ c)
 | .slice t x lo hi mx=>(ap.tyAt t).bind fun ti=>O8 ap ti rd (ρ x) (lo.map ρ) (hi.map ρ) (mx.map ρ)
 | .fieldAddr s x f=>(ap.tyAt s).bind fun ti=>match ti.d with
  | .struct fs=>(fs[f]?).bind fun (o,_,sz)=>match Nat.blt 0 sz with|true=>(Xi (ρ x) o).bind fun p=>bu p|false=>none
  |_=>none
 | .field t x f=>(ap.tyAt t).bind fun ti=>Oh ap ti (ρ x) f
 | .indexAddr t x i=>(ap.tyAt t).bind fun ti=>xw ap ti rd (ρ x) (ρ i)
 | .index t x i=>(ap.tyAt t).bind fun ti=>Om ap ti (ρ x) (ρ i)
 | .typeAssert x _ asserted ok=>IB ap (ρ x) asserted ok
 | .extract t i=>match ρ t with| .tup l=>(l[i]?).bind fun v=>bu v|_=>none
 | .call {callee:= .builtin b,args,argTypes}=>
  match b with
  | .len=>(args[0]?).bind fun x=>(argTypes[0]?).bind fun t=>(ap.tyAt t).bind fun ti=>WH ti.d (ρ x)
  | .append=>match args.toList,argTypes.toList with
   | [s,x],[t,t1]=>(ap.tyAt t).bind fun ti=>(ap.tyAt t1).bind fun ti1=>match ti.d,ti1.d,ρ x with
    | .slice e,.str,.str y=>(ap.tyAt e).bind fun te=>match Nat.beq te.size 1 with|true=>yc nid te rd em (ρ s) (.str y)|false=>none
    | .slice _,.slice _,.str _=>none
    | .slice e,.slice _,y=>(ap.tyAt e).bind fun te=>yc nid te rd em (ρ s) y
    |_,_,_=>none
   |_,_=>none
  | .min=>(zY min2 (args.toList.map ρ)).bind fun v=>bu v
  | .max=>(zY max2 (args.toList.map ρ)).bind fun v=>bu v
  |_=>none
 |_=>none
def Hu (P:Program):Nat→TypeId→List LK
 |0,_=> [.oth]
 |n+1,t=>match P.underlying t with
  |some (.int k)=> [.int k]
  |some .bool=> [.bool]
  |some .string=> [.str]
  |some (.slice _)=> [.sl]
  |some (.struct fs)=>fs.toList.flatMap fun f=>Hu P n f.type
  |some (.array m e)=>(List.replicate m (Hu P n e)).flatten
  |_=> [.oth]
def jL (P:Program):Option TypeDesc→TD
 |some (.int k)=> .int k
 |some .bool=> .bool
 |some .string=> .str
 |some (.slice e)=> .slice e
 |some (.array n e)=> .array n e
 |some (.struct fs)=> .struct (fs.toList.map fun f=>(f.offset,f.type,match P.info? f.type with|some i=>i.size|none=>0))
 |some (.interface _)=> .iface
 |some (.pointer _)=> .ptr
 |some (.func _ _ _)=> .func
 |some (.map k e)=> .map k e
 |_=> .oth
def yz (P:Program) (f:TypeId→Option (List LK)):List Field→Nat→Option (List LK)
 | [],_=>some []
 | x::r,off=>match f x.type with
  |some l=>match !(x.name== "_") && Nat.beq x.offset off && (match P.info? x.type with|some i=>Nat.beq i.size l.length|none=>false) with
   |true=>match yz P f r (off+l.length) with|some l'=>some (l++l')|none=>none
   |false=>none
  |none=>none
def jv (P:Program):Nat→TypeId→Option (List LK)
 |0,_=>none
 |n+1,t=>match P.underlying t with
  |some (.int k)=>some [.int k]
  |some .bool=>some [.bool]
  |some .string=>some [.str]
  |some (.struct fs)=>match P.stoodInHeld t with|true=>none|false=>yz P (jv P n) fs.toList 0
  |_=>none
def af8 (i:TypeInfo) (d:TypeDesc):Bool:=match i.zero,d with
 |some (.agg _),.struct _=>true
 |some (.agg _),.array _ _=>true
 |some (.agg _),_=>false
 |some _,.struct _=>false
 |some _,.array _ _=>false
 |some _,_=>true
 |none,_=>false
def V_ (P:Program) (d:TypeDesc):Bool:=match d with
 | .struct fs=>fs.toList.all fun f=>(P.info? f.type).isSome
 |_=>true
def FY (i:TypeInfo):List AV:=match i.zero with|some z=>z.cells.toList.map EW|none=> []
def aeH:LK→LK→Bool
 | .int a,.int b=>iD a b
 | .bool,.bool=>true
 | .str,.str=>true
 |_,_=>false
def Ht:List LK→List LK→Bool
 | [],[]=>true
 |a::r,b::q=>aeH a b && Ht r q
 |_,_=>false
def Y9 (P:Program) (t:TypeId):Bool:=match jv P 8 t with|some l=>Ht l (Hu P 8 t) && !P.eqGuardType P.depth t|none=>false
def Yi (P:Program) (t:TypeId):Option TI:=
 match P.info? t,P.underlying t with
 |some i,some d=>
  match Nat.beq (Hu P 8 t).length i.size && (af8 i d && V_ P d) && (FY i).all oh && Nat.beq (FY i).length i.size && Nat.blt 0 i.size && i.zero.isSome && Nat.blt i.size iC with
  |true=>some {d:=jL P (some d),size:=i.size,bytes:=i.bytes,zero:=FY i,lks:=Hu P 8 t,cmp:=Y9 P t}
  |false=>none
 |_,_=>none
abbrev aV:=Nat→Nat→Option Value
def oP (S S':aV):Prop:=∀ k o v,S k o=some v→S' k o=some v
theorem oP.refl (S:aV):oP S S:=fun _ _ _ h=>h
theorem oP.trans {S S' S'':aV} (h:oP S S') (a:oP S' S''):oP S S'':=fun k o v e=>a k o v (h k o v e)
def jZ (S:aV) (b o:Nat) (vs:List Value):Prop:=∀ j u,vs[j]? =some u→S b (o+j)=some u∧u.oneCell'=true
mutual
def PR (S:aV):AV→Value→Prop
 | .int k n,v=>v= .int k n
 | .bool b,v=>v= .bool b
 | .str s,v=>v= .string ⟨s.toArray⟩
 | .agg l,v=> ∃ vs,v= .agg vs.toArray∧dQ S l vs
 | .tup l,v=> ∃ vs,v= .tuple vs.toArray∧dQ S l vs
 | .nilS,v=>v= .slice none 0 0
 | .sl xs n nn,v=> ∃ a cap,v= .slice a n cap∧n≤cap∧((a=none∧nn=false∧xs= []∧n=0∧cap=0)∨∃ b o vs,a=some ⟨b,o,none⟩∧dQ S xs vs∧jZ S b o vs)
 | .pp xs off,v=> ∃ b o vs,v= .pointer (some ⟨b,o+off,none⟩)∧dQ S xs vs∧jZ S b o vs
 | .mp ks vs,v=>(v= .map none∧ks= []∧vs= [])∨∃ b kk vv,v= .map (some b)∧S b 0=some (.agg kk.toArray)∧S b 1=some (.agg vv.toArray)∧dQ S ks kk∧dQ S vs vv
 | .nilP,v=>v= .pointer none
 | .fn f a c,v=> ∃ va vc,v= .func (.func f) va.toArray vc.toArray∧dQ S a va∧dQ S c vc
 | .nilF,v=>v= .nilFunc
 | .ifc t x,v=> ∃ u,v= .iface t u∧PR S x u
 | .nilI,v=>v= .nilIface
 | .dead,_=>True
 | .ref _ _ _ _,_=>False
 | .ptr _ _ _,_=>False
 | .mr _ _,_=>False
 | .own _ _ _,_=>False
def dQ (S:aV):List AV→List Value→Prop
 | [],[]=>True
 |x::r,v::vs=>PR S x v∧dQ S r vs
 |_,_=>False
end
abbrev dE:=Nat→Option aZ
abbrev aX:=Nat→Nat × Nat
mutual
def VR (g:dE) (m:aX) (S:aV):AV→Value→Prop
 | .ref b ver i n,v=> ∃ B,g b=some B∧ver≤B.ver∧(∃ k o c',v= .slice (some ⟨k,o,none⟩) n c')∧(B.ver=ver→∃ o,v= .slice (some ⟨(m b).1,o,none⟩) n ((m b).2 - i)∧i+n≤(m b).2∧(i<(m b).2→o=i*B.esz)∧0<B.esz∧B.esz ≠ iC)
 | .ptr b ver off,v=> ∃ B,g b=some B∧ver≤B.ver∧(∃ k o,v= .pointer (some ⟨k,o,none⟩))∧(B.ver=ver→v= .pointer (some ⟨(m b).1,off,none⟩))
 | .mr b ver,v=> ∃ B,g b=some B∧ver≤B.ver∧(∃ k,v= .map (some k))∧(B.ver=ver→v= .map (some (m b).1))
 | .agg l,v=> ∃ vs,v= .agg vs.toArray∧bi g m S l vs
 | .tup l,v=> ∃ vs,v= .tuple vs.toArray∧bi g m S l vs
 | .fn f a c,v=> ∃ va vc,v= .func (.func f) va.toArray vc.toArray∧bi g m S a va∧bi g m S c vc
 | .ifc t x,v=> ∃ u,v= .iface t u∧VR g m S x u
 | .int k n,v=>PR S (.int k n) v
 | .bool b,v=>PR S (.bool b) v
 | .str s,v=>PR S (.str s) v
 | .nilS,v=>PR S .nilS v
 | .sl xs n nn,v=>PR S (.sl xs n nn) v
 | .pp xs off,v=>PR S (.pp xs off) v
 | .mp ks vs,v=>PR S (.mp ks vs) v
 | .nilP,v=>PR S .nilP v
 | .nilF,v=>PR S .nilF v
 | .nilI,v=>PR S .nilI v
 | .dead,_=>True
 | .own _ _ _,_=>False
def bi (g:dE) (m:aX) (S:aV):List AV→List Value→Prop
 | [],[]=>True
 |x::r,v::vs=>VR g m S x v∧bi g m S r vs
 |_,_=>False
end
def aU (x y:AV):Prop:=∀ g m S v,VR g m S x v→VR g m S y v
inductive wB where
 |v (d:Nat) (x:AV)
 |b (d:Nat) (xs:List AV)
 |u (d:Nat)
inductive jU where
 |ret (v:AV)
 |pan (v:AV)
structure Cx where
 cl:Bool
 orc:List Bool
 bs:List Bool
 ps:List Prop
 ans:List (jU × List aZ)
 hs:List wB
inductive R (α:Type) where
 |ok (a:α) (c:Cx)
 |need
 |bad (n:Nat)
def R.bind {α β:Type} (r:R α) (f:α→Cx→R β):R β:=
 match r with
 | .ok a c=>f a c
 | .need=> .need
 | .bad n=> .bad n
def lit (o b:Bool):Bool:=match o with|true=>b|false=> !b
def Zy (c:Cx) (bs:List Bool):R Unit:=
 match c.cl with
 |true=>match bs.all id with|true=> .ok () c|false=> .bad 1
 |false=> .ok () {c with bs:=bs++c.bs}
def zN (c:Cx) (b:Bool):R Bool:=
 match c.cl with
 |true=> .ok b c
 |false=>match c.orc with
  | []=> .need
  |o::r=> .ok o {c with orc:=r,bs:=lit o b::c.bs}
def Em (c:Cx) (dst:Option Nat) (v:AV):AV × Cx:=
 match c.hs,dst with
 | .v d x::r,some d'=>match Nat.beq d d' with
  |true=>(x,{c with hs:=r,ps:=aU v x::c.ps})
  |false=>(v,c)
 |_,_=>(v,c)
def Ej (c:Cx) (dst:Option Nat) (ups:List (Nat × aZ)):List (Nat × aZ) × Cx:=
 match c.hs,dst,ups with
 | .b d xs::r,some d',[(b,B)]=>match Nat.beq d d' with
  |true=>([(b,{B with cells:=xs})],{c with hs:=r,ps:=(B.cells=xs)::c.ps})
  |false=>(ups,c)
 |_,_,_=>(ups,c)
def Ql (c:Cx) (dst:Option Nat):Bool × Cx:=
 match c.hs,dst with
 | .u d::r,some d'=>match Nat.beq d d' with
  |true=>(true,{c with hs:=r})
  |false=>(false,c)
 |_,_=>(false,c)
abbrev di:=Cx→AV→Nat→List AV→List aZ→R (jU × List aZ × AV)
def t_ (rd:Nat→Option aZ):Nat→List Nat→List Nat
 |0,l=>l
 |n+1,l=>
  let more:=l.flatMap fun b=>match rd b with|some B=>(match B.pr with|true=> []|false=>bP B.cells)|none=> []
  let l':=more.foldl (fun acc b=>if su acc b then acc else acc++ [b]) l
  match Nat.beq l'.length l.length with|true=>l|false=>t_ rd n l'
def frz (rd:Nat→Option aZ):Nat→AV→Option AV
 |0,_=>none
 | fuel+1,x=>
  let frzL (l:List AV):Option (List AV):=jW (frz rd fuel) l
  match x with
  | .ref b ver i n=>(rd b).bind fun B=>match Nat.beq B.ver ver with
   |true=>match B.pr with
    |true=>some (.sl ((B.cells.drop (i*B.esz)).take (n*B.esz)) n true)
    |false=>(frzL ((B.cells.drop (i*B.esz)).take (n*B.esz))).map fun l=> .sl l n true
   |false=>none
  | .ptr b ver off=>(rd b).bind fun B=>match Nat.beq B.ver ver && !(Nat.beq B.esz iC) with
   |true=>match B.pr with
    |true=>some (.pp B.cells off)
    |false=>(frzL B.cells).map fun l=> .pp l off
   |false=>none
  | .mr b ver=>(rd b).bind fun B=>match Nat.beq B.ver ver && Nat.beq B.esz iC with
   |true=>match B.pr with
    |true=>aaC B.cells
    |false=>(frzL B.cells).bind aaC
   |false=>none
  | .agg l=>(frzL l).map .agg
  | .tup l=>(frzL l).map .tup
  | .fn f a c=>(frzL a).bind fun a=>(frzL c).map fun c=> .fn f a c
  | .ifc t v=>(frz rd fuel v).map (.ifc t)
  | .own _ _ _=>none
  |x=>some x
def qh (l:List Nat) (b:Nat):Option Nat:=match l with
 | []=>none
 |c::r=>match Nat.beq c b with|true=>some 0|false=>(qh r b).map (· +1)
def Ju (xs:List AV) (esz:Nat):aZ:={cells:=xs,ver:=0,fro:=false,fz:=0,esz,pr:=true}
def fD (nid:Nat):List AV→List AV × List aZ
 | []=>([],[])
 | .own xs n esz::r=>match fD (nid+1) r with|(l,bs)=>(.ref nid 0 0 n::l,Ju xs esz::bs)
 |x::r=>match fD nid r with|(l,bs)=>(x::l,bs)
def lu (nid:Nat):AV→AV × List aZ
 | .tup l=>match fD nid l with|(l,bs)=>(.tup l,bs)
 | .own xs n esz=>(.ref nid 0 0 n,[Ju xs esz])
 |x=>(x,[])
def EU:Nat→List aZ→List (Nat × aZ)
 |_,[]=> []
 |n,B::r=>(n,B)::EU (n+1) r
def Np:List Nat→List aZ→List (Nat × aZ)
 |b::r,B::q=>(b,B)::Np r q
 |_,_=> []
def sG:List Nat→Bool
 | []=>true
 |b::r=> !su r b && sG r
def BZ (ρ:Nat→Nat→Option (Nat × Nat)) (v:Nat) (B:aZ):aZ:={B with cells:=(match B.pr with|true=>B.cells|false=>mD ρ B.cells),ver:=v+B.ver}
def PK (nid:Nat) (fp:List Nat) (vers:Nat→Nat) (n:Nat):Nat→Nat→Option (Nat × Nat):=fun p v=>
 match fp[p]? with
 |some b=>some (b,vers b+v)
 |none=>match Nat.blt p n with|true=>some (nid+(p - fp.length),v)|false=>none
structure UQ where
 out:jU
 ups:List (Nat × aZ)
 fp:List Nat
 md:AV
def uq (ap:AP) (H:di) (rd:Nat→Option aZ) (nid:Nat) (md:AV) (f:Nat) (args:List AV) (c:Cx):R UQ:=
 let fp:=t_ rd 6 (iV (bP args))
 let rd:=fun b=>match su fp b with|true=>rd b|false=>none
 let shared:=match ap.fnAt f with|some F=>F.shared|none=>false
 match shared with
 | false=>
  match jW (frz rd 6) args with
  |none=> .bad 10
  |some args'=>
   (H c md f args' []).bind fun (out,h',md) c=>
   match h' with
   |_::_=> .bad 14
   | []=>
   let mark:=fp.filterMap fun b=>(rd b).map fun B=>(b,{B with fro:=true,fz:=B.cells.length})
   match out with
   | .ret v=>match lu nid v with|(v,bs)=>match Nat.ble bs.length 4 with|true=> .ok {out:= .ret v,ups:=EU nid bs++mark,fp,md} c|false=> .bad 13
   | .pan v=> .ok {out:= .pan v,ups:=mark,fp,md} c
 | true=>
  let vers:=fun b=>match rd b with|some B=>B.ver|none=>0
  let ρ:Nat→Nat→Option (Nat × Nat):=fun b v=>match Nat.beq v (vers b) with|true=>(qh fp b).map fun p=>(p,0)|false=>none
  match jW rd fp with
  |none=> .bad 11
  | some bl=>
   (H c md f (mD ρ args) (bl.map fun B=> {B with cells:=(match B.pr with|true=>B.cells|false=>mD ρ B.cells),ver:=0})).bind fun (out,h',md) c=>
   match Nat.ble fp.length h'.length && sG fp with
   |false=> .bad 12
   |true=>
    let ρ':=PK nid fp vers h'.length
    let ups:=(Np fp h').map fun (b,B)=>(b,BZ ρ' (vers b) B)
    let ex:=(h'.drop fp.length).map (BZ ρ' 0)
    match out with
    | .ret v=>match lu (nid+(h'.length - fp.length)) (ren ρ' v) with|(v,bs)=>match Nat.ble ((h'.length - fp.length)+bs.length) 4 with|true=> .ok {out:= .ret v,ups:=EU nid (ex++bs)++ups,fp,md} c|false=> .bad 13
    | .pan v=>match Nat.ble (h'.length - fp.length) 4 with|true=> .ok {out:= .pan (ren ρ' v),ups:=EU nid (ex++ [])++ups,fp,md} c|false=> .bad 13
inductive bI where
 |normal
 |exit (id:Nat)
 |ret
 |panic (v:AV)
structure St where
 env:iI
 hp:Hp
 md:AV
 dfs:List (Nat × List AV)
structure Dw where
 rt:List Nat
 wt:List Nat
 rb:List Nat
 wb:List Nat
structure RS where
 env:iI
 hp:Hp
 md:AV
 dfs:List (Nat × List AV)
 dec:List (Nat × Bool)
 feet:List Dw
def vg (l:List Operand):List Nat:=l.filterMap fun| .tmp t=>some t|_=>none
def IM (o:Oper):List Nat:=match o.dst with|some d=> [d]|none=> []
def qm (env:iI) (dst:Option Nat) (v:AV):iI:=match dst with|some d=>(d,v)::env|none=>env
def qM (ap:AP) (env:iI):Operand→AV
 | .tmp t=>env.get t
 | .const v=>EW v
 | .global g=>match (ap.gl[g]?).join with|some xs=> .pp xs 0|none=> .dead
 | .func f=> .fn f [] []
def Oi (ops:List Oper) (env:iI) (dec:List (Nat × Bool)) (o:Oper) (c:Cx):R (Bool × List (Nat × Bool)):=
 match o.guard with
 |none=> .ok (true,dec) c
 | some (j,want)=>
  match (ops[j]?).bind (·.dst) with
  |none=> .bad 20
  | some s=>match az dec s with
   |some b=> .ok (lit want b,dec) c
   |none=>match env.get s with
    | .bool b=>(zN c b).bind fun b' c=> .ok (lit want b',(s,b')::dec) c
    | .tup []=> .ok (false,dec) c
    |_=> .bad 21
def jd (ops:List Oper) (o:Oper):List Nat:=
 match o.guard with
 |none=> []
 |some (j,_)=>match (ops[j]?).bind (·.dst) with|none=> []|some s=> [s]
def VA (dec:List (Nat × Bool)) (o:Oper):Bool:=match o.dst with|none=>true|some d=>match az dec d with|none=>true|some _=>false
def Rk (ap:AP) (H:di) (nid:Nat) (ops:List Oper) (o:Oper) (s:RS) (c:Cx):R (RS × Option AV):=
 (Oi ops s.env s.dec o c).bind fun (run,dec) c=>
 let rt:=vg o.op.operands.toList++jd ops o
 match VA dec o with
 |false=> .bad 35
 |true=>
 match run with
 |false=> .ok ({s with env:=qm s.env o.dst (.tup []),dec,feet:={rt,wt:=IM o,rb:= [],wb:= []}::s.feet},none) c
 | true=>
  let ρ:=qM ap s.env
  let rdAll:=az s.hp
  match o.op with
  | .call {callee:= .value g,args,..}=>
   match ρ g with
   | .fn f first cap=>
    (uq ap H rdAll nid .dead f (first++args.toList.map ρ++cap) c).bind fun r c=>
    let foot:Dw:={rt,wt:=IM o,rb:=r.fp,wb:=r.ups.map fun (q:Nat × aZ)=>q.1}
    match Ql c o.dst with
    | (true,c)=>match r.out with
     | .ret v=>match r.ups.all (fun (q:Nat × aZ)=>su r.fp q.1) with
      |true=> .ok ({s with env:=qm s.env o.dst v,dec,feet:={rt,wt:=IM o,rb:=r.fp,wb:= []}::s.feet},none) {c with ps:=(r.ups.map (fun (q:Nat × aZ)=>some q.2)=r.ups.map (fun (q:Nat × aZ)=>az s.hp q.1))::c.ps}
      |false=> .bad 36
     | .pan _=> .bad 37
    |(false,c)=>match r.out with
     | .ret v=> .ok ({s with env:=qm s.env o.dst v,hp:=r.ups++s.hp,dec,feet:=foot::s.feet},none) c
     | .pan v=> .ok ({s with hp:=r.ups++s.hp,dec,feet:=foot::s.feet},some v) c
   |_=> .bad 30
  | .call {callee:= .builtin .recover,..}=>
   match s.md with
   | .nilI=> .ok ({s with env:=qm s.env o.dst .nilI,dec,feet:={rt,wt:=IM o,rb:= [],wb:= []}::s.feet},none) c
   | .ifc t v=> .ok ({s with env:=qm s.env o.dst (.ifc t v),md:= .nilI,dec,feet:={rt,wt:=IM o,rb:= [],wb:= []}::s.feet},none) c
   |_=> .bad 33
  | .defer {callee:= .value g,args,..}=>
   match ρ g with
   | .fn f first cap=> .ok ({s with env:=qm s.env o.dst .dead,dfs:=(f,first++args.toList.map ρ++cap)::s.dfs,dec,feet:={rt,wt:=IM o,rb:= [],wb:= []}::s.feet},none) c
   |_=> .bad 34
  | .panic x=>
   match ρ x with
   | .ifc t v=> .ok ({s with dec},some (.ifc t v)) c
   |_=> .bad 31
  | op=>
   let fp:=XC ρ op
   let rd:=fun b=>match su fp b with|true=>rdAll b|false=>none
   let decs:Operand→Option Bool:=fun| .tmp t=>az dec t|_=>none
   (match yI ρ op with|some n=>zN c (Nat.beq n 0)|none=> .ok false c).bind fun em c=>
   match opA ap nid ρ rd decs em op with
   |none=> .bad 32
   | some (v,ups,bs)=>(Zy c bs).bind fun _ c=>
    match Em c o.dst v with
    |(v,c)=>match Ej c o.dst ups with
     |(ups,c)=> .ok ({s with env:=qm s.env o.dst v,hp:=ups++s.hp,dec,feet:={rt,wt:=IM o,rb:=fp,wb:=ups.map fun (q:Nat × aZ)=>q.1}::s.feet},none) c
def xN (ap:AP) (H:di) (ops:List Oper):List Oper→Nat→RS→Cx→R (RS × Option AV)
 | [],_,s,c=> .ok (s,none) c
 | o::r,nid,s,c=>(Rk ap H nid ops o s c).bind fun (s,p) c=>
  match p with
  |some v=> .ok (s,some v) c
  |none=>match s.feet with
   |f::_=>match f.wb.all (fun x=>Nat.blt x (nid+4)) with|true=>xN ap H ops r (nid+4) s c|false=> .bad 43
   | []=> .bad 44
def EL (a b:List Nat):Bool:=a.any (su b)
def jQ (a b:Dw):Bool:=EL a.wt b.rt||EL a.wt b.wt||EL a.rt b.wt||EL a.wb b.rb||EL a.wb b.wb||EL a.rb b.wb
def EY (n:Nat) (bef:List Nat) (feet:List Dw):Bool:=
 let l:=feet.reverse.zipIdx
 l.all fun (a,i)=>l.all fun (b,j)=> !(Nat.blt i j)|| !(jQ a b||b.wb.any fun x=>Nat.ble (n+4*i) x && Nat.blt x (n+4*i+4))||(bef.getD j 0).testBit i
def D9 (keep:List Nat) (env:iI):List Nat:=keep.flatMap fun t=>dP (env.get t)
def norm (base:Nat) (keep:List Nat) (s:St):St:=
 let env:=s.env
 let hp:=s.hp
 let rd:=az hp
 let ids:=t_ rd 20 (iV (t_ rd 20 (List.range base)++D9 keep env++s.dfs.flatMap fun d=>bP d.2))
 let ids:=ids.filter fun b=>(rd b).isSome
 let ρ:Nat→Nat→Option (Nat × Nat):=fun b v=>match rd b with
  |some B=>match Nat.beq B.ver v with
   |true=>(qh ids b).map fun p=>(p,match Nat.blt p base with|true=>v|false=>0)
   |false=>none
  |none=>none
 {env:=keep.map fun t=>(t,ren ρ (env.get t))
  hp:=ids.zipIdx.filterMap fun (b,p)=>(rd b).map fun B=>(p,{B with cells:=(match B.pr with|true=>B.cells|false=>mD ρ B.cells),ver:=match Nat.blt p base with|true=>B.ver|false=>0})
  md:=s.md
  dfs:=s.dfs.map fun d=>(d.1,mD ρ d.2)}
def kF:Hp→Nat
 | []=>0
 |(b,_)::r=>match Nat.blt b (kF r) with|true=>kF r|false=>b+1
def yH (ops:List Oper):Bool:=ops.zipIdx.all fun (o,i)=>o.after.toList.all fun e=> !Region.binds .any e||Nat.blt e.on i
def JC (ap:AP) (H:di) (base:Nat) (keep:List Nat) (ops:List Oper) (draw:Bool) (s:St) (c:Cx):R (bI × St):=
 (xN ap H ops ops (kF s.hp) {env:=s.env,hp:=s.hp,md:=s.md,dfs:=s.dfs,dec:= [],feet:= []} c).bind fun (s',p) c=>
 match p with
 | some v=>match draw with
  |true=> .bad 40
  |false=>match (dP v).isEmpty with
   |true=> .ok (.panic v,norm base keep ⟨s'.env,s'.hp,s'.md,s'.dfs⟩) c
   |false=> .ok (.panic v,⟨s'.env,s'.hp,s'.md,s'.dfs⟩) c
 |none=>
  match !draw||(EY (kF s.hp) (Region.before ops.toArray).toList s'.feet && yH ops && Nat.beq s'.dfs.length s.dfs.length) with
  |true=> .ok (.normal,norm base keep ⟨s'.env,s'.hp,s'.md,s'.dfs⟩) c
  |false=> .bad 41
def Qs (f:St→Cx→R (bI × St)):Nat→St→Cx→R (bI × St)
 |0,_,_=> .bad 50
 |n+1,s,c=>(f s c).bind fun (e,s) c=>match e with
  | .normal=>Qs f n s c
  |e=> .ok (e,s) c
def kV (ap:AP) (H:di) (base:Nat) (keep:List Nat) (lf:Nat):Code→St→Cx→R (bI × St)
 | .skip,s,c=> .ok (.normal,s) c
 | .label _,s,c=> .ok (.normal,s) c
 | .region _ ops draw,s,c=>JC ap H base keep ops.toList draw s c
 | .seq a b,s,c=>(kV ap H base keep lf a s c).bind fun (e,s) c=>match e with
  | .normal=>kV ap H base keep lf b s c
  |e=> .ok (e,s) c
 | .cond t a b,s,c=>match qM ap s.env t with
  | .bool x=>(zN c x).bind fun x c=>match x with
   |true=>kV ap H base keep lf a s c
   |false=>kV ap H base keep lf b s c
  |_=> .bad 60
 | .block id b,s,c=>(kV ap H base keep lf b s c).bind fun (e,s) c=>match e with
  | .exit id'=>match Nat.beq id' id with|true=> .ok (.normal,s) c|false=> .ok (.exit id',s) c
  |e=> .ok (e,s) c
 | .loop b,s,c=>Qs (kV ap H base keep lf b) lf s c
 | .exit id,s,c=> .ok (.exit id,s) c
 | .ret,s,c=> .ok (.ret,s) c
 | .scope b,s,c=>kV ap H base keep lf b s c
 |_,_,_=> .bad 61
def zn (ap:AP) (env:iI) (hp:Hp):ResultVar→Option (AV × List Bool)
 | .tmp t=>some (env.get t,[])
 | .cell a t=>(ap.tyAt t).bind fun ti=>(Lr ti (az hp) (env.get a)).map fun (v,_,bs)=>(v,bs)
def fK (l:List Nat) (b:Nat):Nat:=(l.filter (Nat.beq b)).length
def ZZ (base:Nat) (rd:Nat→Option aZ) (v:AV):Option AV:=
 let fp:=t_ rd 6 (iV (dP v))
 match fp.all (fun b=>Nat.ble base b) with
 |true=>frz (fun b=>match su fp b with|true=>rd b|false=>none) 6 v
 |false=>none
def rZ (base:Nat) (rd:Nat→Option aZ) (all:List Nat) (v:AV):Option AV:=
 let frzO (v:AV):Option AV:=match (dP v).all (fun b=>Nat.blt b base) with|true=>some v|false=>ZZ base rd v
 match v with
 | .ref b ver 0 n=>match rd b with
  |some B=>match Nat.ble base b && Nat.beq B.ver ver && !B.fro && B.pr && Nat.beq (fK all b) 1 && Nat.blt 0 B.esz with
   |true=>some (.own (B.cells.take (n*B.esz)) n B.esz)
   |false=>frzO v
  |none=>none
 |v=>frzO v
def ah (f:Func):Code:=f.body.getD .skip
def n_ (md:AV) (args:List AV) (h:List aZ):St:=
 {env:=args.zipIdx.map fun (x,i)=>(i,x),hp:=h.zipIdx.map fun (B,i)=>(i,B),md,dfs:= []}
def ah0:AV→Bool
 | .nilI=>true
 | .ifc _ _=>true
 |_=>false
def Eu (ap:AP) (H:di):List (Nat × List AV)→AV→Hp→Cx→R (AV × Hp)
 | [],mode,hp,c=> .ok (mode,hp) c
 |(f,args)::r,mode,hp,c=>
  match ah0 mode && (dP mode).isEmpty with
  |false=> .bad 78
  |true=>
  (uq ap H (az hp) (kF hp) mode f args c).bind fun q c=>
  match q.out with
  | .ret _=>Eu ap H r q.md (q.ups++hp) c
  | .pan _=> .bad 75
def Uy (rd:Nat→Option aZ) (base:Nat):Nat:=(t_ rd 20 (List.range base)).length
def vX (ap:AP) (base:Nat) (F:Func) (env:iI) (hp:Hp) (c:Cx):R (jU × List aZ):=
 let rd:=az hp
 let n:=Uy rd base
 match jW (zn ap env hp) F.results.toList,jW rd (List.range n) with
 |some vs,some h'=>
  match h'.all (fun B=>B.pr||(bP B.cells).all fun b=>Nat.blt b n) with
  |false=> .bad 76
  |true=>
  (Zy c (vs.flatMap fun (q:AV × List Bool)=>q.2)).bind fun _ c=>
  let all:=vs.flatMap fun (q:AV × List Bool)=>t_ rd 6 (iV (dP q.1))
  match jW (rZ n rd all) (vs.map fun (q:AV × List Bool)=>q.1) with
  |some [v]=> .ok (.ret v,h') c
  |some l=> .ok (.ret (.tup l),h') c
  |none=> .bad 70
 |_,_=> .bad 71
def Jw (base:Nat) (v:AV) (hp:Hp) (c:Cx):R (jU × List aZ):=
 let n:=Uy (az hp) base
 match rZ n (az hp) (t_ (az hp) 6 (iV (dP v))) v,jW (az hp) (List.range n) with
 |some v,some h'=>
  match h'.all (fun B=>B.pr||(bP B.cells).all fun b=>Nat.blt b n) with
  |false=> .bad 77
  |true=> .ok (.pan v,h') c
 |_,_=> .bad 72
def CW (ap:AP) (H:di) (base:Nat) (F:Func) (e:bI) (s:St) (c:Cx):R (jU × List aZ × AV):=
 let go (mode:AV):R (jU × List aZ × AV):=
  (Eu ap H s.dfs mode s.hp c).bind fun (mode,hp) c=>
  match mode with
  | .nilI=>(vX ap base F s.env hp c).bind fun (o,h) c=> .ok (o,h,s.md) c
  | .ifc t v=>(Jw base (.ifc t v) hp c).bind fun (o,h) c=> .ok (o,h,s.md) c
  |_=> .bad 74
 match e with
 | .normal| .ret=>go .nilI
 | .panic (.ifc t v)=>match (dP v).isEmpty with|true=>go (.ifc t v)|false=> .bad 79
 |_=> .bad 73
def Vb (ap:AP) (H:di) (lf:Nat) (md:AV) (F:AF) (args:List AV) (h:List aZ) (c:Cx):R (jU × List aZ × AV):=
 match ah F.fn with
 | .seq (.region _ ops false) rest=>
  match ops.toList with
  | o ::r=>
   match o.op,o.guard,o.dst with
   | .call {callee:= .builtin .recover,..},none,some d=>
    let s0:=n_ .dead args h
    (xN ap H (o::r) r (kF s0.hp) {env:=(d,md)::s0.env,hp:=s0.hp,md:= .dead,dfs:= [],dec:= [],feet:= []} c).bind fun (s,p) c=>
    match p with
    |some _=> .bad 81
    | none=>(kV ap H h.length F.keep lf rest (norm h.length F.keep ⟨s.env,s.hp,s.md,s.dfs⟩) c).bind fun (e,s) c=>
     match s.dfs with
     |_::_=> .bad 82
     | []=>match e with
      | .normal| .ret=>(vX ap h.length F.fn s.env s.hp c).bind fun (o,h) c=> .ok (o,h,.nilI) c
      |_=> .bad 83
   |_,_,_=> .bad 84
  | []=> .bad 85
 |_=> .bad 86
def uo (ap:AP) (H:di) (lf:Nat) (md:AV) (f:Nat) (args:List AV) (h:List aZ) (c:Cx):R (jU × List aZ × AV):=
 match ap.fnAt f with
 |none=> .bad 80
 |some F=>match md with
  | .dead=>(kV ap H h.length F.keep lf (ah F.fn) (n_ .dead args h) c).bind fun (e,s) c=>CW ap H h.length F.fn e s c
  |md=>match ah0 md && (dP md).isEmpty with|true=>Vb ap H lf md F args h c|false=> .bad 87
theorem wW {S:aV}:∀ {l:List AV} {vs:List Value},dQ S l vs→l.length=vs.length
 | [],[],_=>rfl
 |_::_,_::_,h=>by simp only [dQ] at h;simp [wW h.2]
 | [],_::_,h=>by simp [dQ] at h
 |_::_,[],h=>by simp [dQ] at h
theorem bU {g:dE} {m:aX} {S:aV}:∀ {l:List AV} {vs:List Value},bi g m S l vs→l.length=vs.length
 | [],[],_=>rfl
 |_::_,_::_,h=>by simp only [bi] at h;simp [bU h.2]
 | [],_::_,h=>by simp [bi] at h
 |_::_,[],h=>by simp [bi] at h
theorem rJ {g:dE} {m:aX} {S:aV}:∀ {l:List AV} {vs:List Value} (_:bi g m S l vs) (i:Nat) {x:AV},l[i]? =some x→∃ v,vs[i]? =some v∧VR g m S x v
 | [],[],_,i,x,hx=>by simp at hx
 |a::l,v::vs,h,0,x,hx=>by simp only [bi] at h;simp at hx;subst hx;exact ⟨v,rfl,h.1⟩
 |a::l,v::vs,h,i+1,x,hx=>by simp only [bi] at h;simp at hx;simpa using rJ h.2 i hx
 | [],_::_,h,_,_,_=>by simp [bi] at h
 |_::_,[],h,_,_,_=>by simp [bi] at h
theorem nS {S:aV}:∀ {l l':List AV} {vs vs':List Value},dQ S l vs→dQ S l' vs'→dQ S (l++l') (vs++vs')
 | [],_,[],_,_,h'=>by simpa using h'
 |_::_,_,_::_,_,h,h'=>by simp only [dQ] at h;simp only [List.cons_append,dQ];exact ⟨h.1,nS h.2 h'⟩
 | [],_,_::_,_,h,_=>by simp [dQ] at h
 |_::_,_,[],_,h,_=>by simp [dQ] at h
theorem gK {g:dE} {m:aX} {S:aV}:∀ {l l':List AV} {vs vs':List Value},bi g m S l vs→bi g m S l' vs'→bi g m S (l++l') (vs++vs')
 | [],_,[],_,_,h'=>by simpa using h'
 |_::_,_,_::_,_,h,h'=>by simp only [bi] at h;simp only [List.cons_append,bi];exact ⟨h.1,gK h.2 h'⟩
 | [],_,_::_,_,h,_=>by simp [bi] at h
 |_::_,_,[],_,h,_=>by simp [bi] at h
theorem jY {S:aV}:∀ (n:Nat) {l:List AV} {vs:List Value},dQ S l vs→dQ S (l.take n) (vs.take n)
 |0,_,_,_=>by simp [dQ]
 |n+1,[],[],_=>by simp [dQ]
 |n+1,_::_,_::_,h=>by simp only [dQ] at h;simp only [List.take_succ_cons,dQ];exact ⟨h.1,jY n h.2⟩
 |_+1,[],_::_,h=>by simp [dQ] at h
 |_+1,_::_,[],h=>by simp [dQ] at h
theorem qy {S:aV}:∀ (n:Nat) {l:List AV} {vs:List Value},dQ S l vs→dQ S (l.drop n) (vs.drop n)
 |0,_,_,h=>by simpa using h
 |n+1,[],[],_=>by simp [dQ]
 |n+1,_::_,_::_,h=>by simp only [dQ] at h;simpa using qy n h.2
 |_+1,[],_::_,h=>by simp [dQ] at h
 |_+1,_::_,[],h=>by simp [dQ] at h
theorem qE {g:dE} {m:aX} {S:aV}:∀ (n:Nat) {l:List AV} {vs:List Value},bi g m S l vs→bi g m S (l.take n) (vs.take n)
 |0,_,_,_=>by simp [bi]
 |n+1,[],[],_=>by simp [bi]
 |n+1,_::_,_::_,h=>by simp only [bi] at h;simp only [List.take_succ_cons,bi];exact ⟨h.1,qE n h.2⟩
 |_+1,[],_::_,h=>by simp [bi] at h
 |_+1,_::_,[],h=>by simp [bi] at h
theorem uk {g:dE} {m:aX} {S:aV}:∀ (n:Nat) {l:List AV} {vs:List Value},bi g m S l vs→bi g m S (l.drop n) (vs.drop n)
 |0,_,_,h=>by simpa using h
 |n+1,[],[],_=>by simp [bi]
 |n+1,_::_,_::_,h=>by simp only [bi] at h;simpa using uk n h.2
 |_+1,[],_::_,h=>by simp [bi] at h
 |_+1,_::_,[],h=>by simp [bi] at h
theorem jZ.mono {S S':aV} (h:oP S S') {b o:Nat} {vs:List Value} (hs:jZ S b o vs):jZ S' b o vs:=fun j u a=> ⟨h _ _ _ (hs j u a).1,(hs j u a).2⟩
mutual
theorem dn {S S':aV} (h:oP S S'):∀ (x:AV) {v:Value},PR S x v→PR S' x v
 | .int _ _,_,p=>by simpa only [PR] using p
 | .bool _,_,p=>by simpa only [PR] using p
 | .str _,_,p=>by simpa only [PR] using p
 | .nilS,_,p=>by simpa only [PR] using p
 | .nilP,_,p=>by simpa only [PR] using p
 | .nilF,_,p=>by simpa only [PR] using p
 | .nilI,_,p=>by simpa only [PR] using p
 | .dead,_,_=>by simp only [PR]
 | .agg l,_,p=>by
  simp only [PR] at p ⊢
  obtain ⟨vs,e,q⟩:=p
  exact ⟨vs,e,dm h l q⟩
 | .tup l,_,p=>by
  simp only [PR] at p ⊢
  obtain ⟨vs,e,q⟩:=p
  exact ⟨vs,e,dm h l q⟩
 | .sl xs n nn,_,p=>by
  simp only [PR] at p ⊢
  obtain ⟨a,i,e,d,q⟩:=p
  refine ⟨a,i,e,d, ?_⟩
  rcases q with q|⟨b,o,vs,s,q,hs⟩
  ·exact .inl q
  ·exact .inr ⟨b,o,vs,s,dm h xs q,hs.mono h⟩
 | .pp xs off,_,p=>by
  simp only [PR] at p ⊢
  obtain ⟨b,o,vs,e,q,hs⟩:=p
  exact ⟨b,o,vs,e,dm h xs q,hs.mono h⟩
 | .mp ks vs,_,p=>by
  simp only [PR] at p ⊢
  rcases p with p|⟨b,j,z,e,A,y,C,B⟩
  ·exact .inl p
  ·exact .inr ⟨b,j,z,e,h _ _ _ A,h _ _ _ y,dm h ks C,dm h vs B⟩
 | .fn f a c,_,p=>by
  simp only [PR] at p ⊢
  obtain ⟨D,k,e,q,r⟩:=p
  exact ⟨D,k,e,dm h a q,dm h c r⟩
 | .ifc t x,_,p=>by
  simp only [PR] at p ⊢
  obtain ⟨u,e,q⟩:=p
  exact ⟨u,e,dn h x q⟩
 | .ref _ _ _ _,_,p=>by simp only [PR] at p
 | .ptr _ _ _,_,p=>by simp only [PR] at p
 | .mr _ _,_,p=>by simp only [PR] at p
 | .own _ _ _,_,p=>by simp only [PR] at p
theorem dm {S S':aV} (h:oP S S'):∀ (l:List AV) {vs:List Value},dQ S l vs→dQ S' l vs
 | [],[],_=>by simp only [dQ]
 |x::r,v::vs,p=>by simp only [dQ] at p ⊢;exact ⟨dn h x p.1,dm h r p.2⟩
 | [],_::_,p=>by simp [dQ] at p
 |_::_,[],p=>by simp [dQ] at p
end
mutual
theorem gX {g:dE} {m:aX} {S:aV}:∀ (x:AV) {v:Value},PR S x v→VR g m S x v
 | .int _ _,_,p=>by simpa only [VR] using p
 | .bool _,_,p=>by simpa only [VR] using p
 | .str _,_,p=>by simpa only [VR] using p
 | .nilS,_,p=>by simpa only [VR] using p
 | .nilP,_,p=>by simpa only [VR] using p
 | .nilF,_,p=>by simpa only [VR] using p
 | .nilI,_,p=>by simpa only [VR] using p
 | .sl _ _ _,_,p=>by simpa only [VR] using p
 | .pp _ _,_,p=>by simpa only [VR] using p
 | .mp _ _,_,p=>by simpa only [VR] using p
 | .dead,_,_=>by simp only [VR]
 | .agg l,_,p=>by
  simp only [PR] at p;simp only [VR]
  obtain ⟨vs,e,q⟩:=p
  exact ⟨vs,e,bV l q⟩
 | .tup l,_,p=>by
  simp only [PR] at p;simp only [VR]
  obtain ⟨vs,e,q⟩:=p
  exact ⟨vs,e,bV l q⟩
 | .fn f a c,_,p=>by
  simp only [PR] at p;simp only [VR]
  obtain ⟨d,b,e,q,r⟩:=p
  exact ⟨d,b,e,bV a q,bV c r⟩
 | .ifc t x,_,p=>by
  simp only [PR] at p;simp only [VR]
  obtain ⟨u,e,q⟩:=p
  exact ⟨u,e,gX x q⟩
 | .ref _ _ _ _,_,p=>by simp only [PR] at p
 | .ptr _ _ _,_,p=>by simp only [PR] at p
 | .mr _ _,_,p=>by simp only [PR] at p
 | .own _ _ _,_,p=>by simp only [PR] at p
theorem bV {g:dE} {m:aX} {S:aV}:∀ (l:List AV) {vs:List Value},dQ S l vs→bi g m S l vs
 | [],[],_=>by simp only [bi]
 |x::r,v::vs,p=>by simp only [dQ] at p;simp only [bi];exact ⟨gX x p.1,bV r p.2⟩
 | [],_::_,p=>by simp [dQ] at p
 |_::_,[],p=>by simp [dQ] at p
end
def tK (g:dE) (m:aX) (g':dE) (m':aX) (ρ:Nat→Nat→Option (Nat × Nat)):Prop:=
 ∀ b ver b' ver',ρ b ver=some (b',ver')→∀ B,g b=some B→ver≤B.ver→
  ∃ B',g' b'=some B'∧ver'≤B'.ver∧(B'.ver=ver'→B.ver=ver∧m' b'=m b∧B'.esz=B.esz)
mutual
theorem zL {g g':dE} {m G:aX} {S S':aV} {ρ:Nat→Nat→Option (Nat × Nat)} (j:oP S S') (h:tK g m g' G ρ):∀ (x:AV) {v:Value},VR g m S x v→VR g' G S' (ren ρ x) v
 | .int k n,_,p=>by simp only [VR] at p;simp only [ren,VR];exact dn j _ p
 | .bool _,_,p=>by simp only [VR] at p;simp only [ren,VR];exact dn j _ p
 | .str _,_,p=>by simp only [VR] at p;simp only [ren,VR];exact dn j _ p
 | .nilS,_,p=>by simp only [VR] at p;simp only [ren,VR];exact dn j _ p
 | .nilP,_,p=>by simp only [VR] at p;simp only [ren,VR];exact dn j _ p
 | .nilF,_,p=>by simp only [VR] at p;simp only [ren,VR];exact dn j _ p
 | .nilI,_,p=>by simp only [VR] at p;simp only [ren,VR];exact dn j _ p
 | .sl _ _ _,_,p=>by simp only [VR] at p;simp only [ren,VR];exact dn j _ p
 | .pp _ _,_,p=>by simp only [VR] at p;simp only [ren,VR];exact dn j _ p
 | .mp _ _,_,p=>by simp only [VR] at p;simp only [ren,VR];exact dn j _ p
 | .dead,_,_=>by simp only [ren,VR]
 | .own _ _ _,_,p=>by simp only [VR] at p
 | .agg l,_,p=>by
  simp only [VR] at p;simp only [ren,VR]
  obtain ⟨vs,e,q⟩:=p
  exact ⟨vs,e,j_ j h l q⟩
 | .tup l,_,p=>by
  simp only [VR] at p;simp only [ren,VR]
  obtain ⟨vs,e,q⟩:=p
  exact ⟨vs,e,j_ j h l q⟩
 | .fn f a c,_,p=>by
  simp only [VR] at p;simp only [ren,VR]
  obtain ⟨J,H,e,q,r⟩:=p
  exact ⟨J,H,e,j_ j h a q,j_ j h c r⟩
 | .ifc t x,_,p=>by
  simp only [VR] at p;simp only [ren,VR]
  obtain ⟨u,e,q⟩:=p
  exact ⟨u,e,zL j h x q⟩
 | .ref b ver i n,_,p=>by
  simp only [VR] at p;simp only [ren]
  obtain ⟨B,F,A,o,q⟩:=p
  cases hρ:ρ b ver with
  |none=>simp only [VR]
  |some bv=>
   obtain ⟨z,d⟩:=bv
   obtain ⟨B',s,y,D⟩:=h b ver z d hρ B F A
   simp only [VR]
   refine ⟨B',s,y,o,fun e=> ?_⟩
   obtain ⟨E,C,I⟩:=D e
   rw [C,I]
   exact q E
 | .ptr b ver off,_,p=>by
  simp only [VR] at p;simp only [ren]
  obtain ⟨B,F,A,o,q⟩:=p
  cases hρ:ρ b ver with
  |none=>simp only [VR]
  |some bv=>
   obtain ⟨z,d⟩:=bv
   obtain ⟨B',s,y,D⟩:=h b ver z d hρ B F A
   simp only [VR]
   refine ⟨B',s,y,o,fun e=> ?_⟩
   obtain ⟨E,C,_⟩:=D e
   rw [C]
   exact q E
 | .mr b ver,_,p=>by
  simp only [VR] at p;simp only [ren]
  obtain ⟨B,F,A,o,q⟩:=p
  cases hρ:ρ b ver with
  |none=>simp only [VR]
  |some bv=>
   obtain ⟨z,d⟩:=bv
   obtain ⟨B',s,y,D⟩:=h b ver z d hρ B F A
   simp only [VR]
   refine ⟨B',s,y,o,fun e=> ?_⟩
   obtain ⟨E,C,_⟩:=D e
   rw [C]
   exact q E
theorem j_ {g g':dE} {m a:aX} {S S':aV} {ρ:Nat→Nat→Option (Nat × Nat)} (b:oP S S') (h:tK g m g' a ρ):∀ (l:List AV) {vs:List Value},bi g m S l vs→bi g' a S' (mD ρ l) vs
 | [],[],_=>by simp only [mD,bi]
 |x::r,v::vs,p=>by simp only [bi] at p;simp only [mD,bi];exact ⟨zL b h x p.1,j_ b h r p.2⟩
 | [],_::_,p=>by simp [bi] at p
 |_::_,[],p=>by simp [bi] at p
end
def Ge (g:dE) (m:aX) (g':dE) (m':aX):Prop:=
 ∀ b B,g b=some B→∃ B',g' b=some B'∧B'.esz=B.esz∧((B'.ver=B.ver∧m' b=m b)∨B.ver<B'.ver)
theorem Ge.refl (g:dE) (m:aX):Ge g m g m:=fun _ B h=> ⟨B,h,rfl,.inl ⟨rfl,rfl⟩⟩
theorem Ge.trans {g g' f:dE} {m k i:aX} (h:Ge g m g' k) (n:Ge g' k f i):Ge g m f i:=by
 intro b B s
 obtain ⟨B',j,e,c⟩:=h b B s
 obtain ⟨B'',a,e',r⟩:=n b B' j
 refine ⟨B'',a,e'.trans e, ?_⟩
 rcases c with ⟨o,l⟩|c<;>rcases r with ⟨q,p⟩|d
 ·exact .inl ⟨q.trans o,p.trans l⟩
 ·exact .inr (by omega)
 ·exact .inr (by omega)
 ·exact .inr (by omega)
mutual
theorem pg {g g':dE} {m E:aX} {S S':aV} (o:oP S S') (h:Ge g m g' E):∀ (x:AV) {v:Value},VR g m S x v→VR g' E S' x v
 | .int k n,_,p=>by simp only [VR] at p ⊢;exact dn o _ p
 | .bool _,_,p=>by simp only [VR] at p ⊢;exact dn o _ p
 | .str _,_,p=>by simp only [VR] at p ⊢;exact dn o _ p
 | .nilS,_,p=>by simp only [VR] at p ⊢;exact dn o _ p
 | .nilP,_,p=>by simp only [VR] at p ⊢;exact dn o _ p
 | .nilF,_,p=>by simp only [VR] at p ⊢;exact dn o _ p
 | .nilI,_,p=>by simp only [VR] at p ⊢;exact dn o _ p
 | .sl _ _ _,_,p=>by simp only [VR] at p ⊢;exact dn o _ p
 | .pp _ _,_,p=>by simp only [VR] at p ⊢;exact dn o _ p
 | .mp _ _,_,p=>by simp only [VR] at p ⊢;exact dn o _ p
 | .dead,_,_=>by simp only [VR]
 | .own _ _ _,_,p=>by simp only [VR] at p
 | .agg l,_,p=>by
  simp only [VR] at p ⊢
  obtain ⟨vs,e,q⟩:=p
  exact ⟨vs,e,lL o h l q⟩
 | .tup l,_,p=>by
  simp only [VR] at p ⊢
  obtain ⟨vs,e,q⟩:=p
  exact ⟨vs,e,lL o h l q⟩
 | .fn f a c,_,p=>by
  simp only [VR] at p ⊢
  obtain ⟨G,F,e,q,r⟩:=p
  exact ⟨G,F,e,lL o h a q,lL o h c r⟩
 | .ifc t x,_,p=>by
  simp only [VR] at p ⊢
  obtain ⟨u,e,q⟩:=p
  exact ⟨u,e,pg o h x q⟩
 | .ref b ver i n,_,p=>by
  simp only [VR] at p ⊢
  obtain ⟨B,z,C,d,q⟩:=p
  obtain ⟨B',j,A,y⟩:=h b B z
  rcases y with ⟨D,s⟩|c
  ·refine ⟨B',j,by omega,d,fun e=> ?_⟩
   rw [s,A]
   exact q (by omega)
  ·exact ⟨B',j,by omega,d,fun e=>by omega⟩
 | .ptr b ver off,_,p=>by
  simp only [VR] at p ⊢
  obtain ⟨B,z,C,d,q⟩:=p
  obtain ⟨B',j,A,y⟩:=h b B z
  rcases y with ⟨D,s⟩|c
  ·refine ⟨B',j,by omega,d,fun e=> ?_⟩
   rw [s]
   exact q (by omega)
  ·exact ⟨B',j,by omega,d,fun e=>by omega⟩
 | .mr b ver,_,p=>by
  simp only [VR] at p ⊢
  obtain ⟨B,z,C,d,q⟩:=p
  obtain ⟨B',j,A,y⟩:=h b B z
  rcases y with ⟨D,s⟩|c
  ·refine ⟨B',j,by omega,d,fun e=> ?_⟩
   rw [s]
   exact q (by omega)
  ·exact ⟨B',j,by omega,d,fun e=>by omega⟩
theorem lL {g g':dE} {m a:aX} {S S':aV} (b:oP S S') (h:Ge g m g' a):∀ (l:List AV) {vs:List Value},bi g m S l vs→bi g' a S' l vs
 | [],[],_=>by simp only [bi]
 |x::r,v::vs,p=>by simp only [bi] at p ⊢;exact ⟨pg b h x p.1,lL b h r p.2⟩
 | [],_::_,p=>by simp [bi] at p
 |_::_,[],p=>by simp [bi] at p
end
def UT (ap:AP) (S:aV):Prop:=∀ k xs,(ap.gl[k]?).join=some xs→∃ vs,dQ S xs vs∧jZ S k 0 vs
structure iF (P:Program) (ap:AP):Prop where
 ty:∀ t ti,ap.tyAt t=some ti→Yi P t=some ti
def xB (es:Array MapEntry):Array Value:=#[.agg (es.map (·.key)),.agg (es.map (·.val))]
def jr (w:World) (k z:Nat) (cur:Array Value) (e:TypeId):Prop:=
 (z ≠ iC∧w.heap[k]? =some (.cells cur e (0,0)))∨(z=iC∧∃ es clk,w.heap[k]? =some (.map es clk)∧cur=xB es)
def ku (w:World) (k o:Nat):Option Value:=match w.heap[k]? with
 |some (.map es _)=>(xB es)[o]?
 |_=>match w.cell? ⟨k,o,none⟩ with|some v=>if v.oneCell' then some v else none|none=>none
theorem jr.of {w:World} {k z:Nat} {cur:Array Value} {e:TypeId} (a:z ≠ iC) (h:w.heap[k]? =some (.cells cur e (0,0))):jr w k z cur e:= .inl ⟨a,h⟩
theorem jr.cells {w:World} {k z:Nat} {cur:Array Value} {e:TypeId} (h:jr w k z cur e) (a:z ≠ iC):w.heap[k]? =some (.cells cur e (0,0)):=by
 rcases h with h|h
 ·exact h.2
 ·exact absurd h.1 a
theorem jr.map {w:World} {k z:Nat} {cur:Array Value} {e:TypeId} (h:jr w k z cur e) (a:z=iC):∃ es clk,w.heap[k]? =some (.map es clk)∧cur=xB es:=by
 rcases h with h|h
 ·exact absurd a h.1
 ·exact h.2
theorem jr.same {w w':World} {k z:Nat} {cur:Array Value} {e:TypeId} (h:jr w k z cur e) (a:w'.heap[k]? =w.heap[k]?):jr w' k z cur e:=by
 unfold jr;rw [a];exact h
theorem jr.lt {w:World} {k z:Nat} {cur:Array Value} {e:TypeId} (h:jr w k z cur e):k<w.heap.size:=by
 rcases h with ⟨_,h⟩|⟨_,b,a,h,_⟩<;>exact (Array.getElem?_eq_some_iff.1 h).1
theorem NK {w w':World} {k o:Nat} (b:w'.heap[k]? =w.heap[k]?):ku w' k o=ku w k o:=by
 unfold ku;rw [b,World.cell?_of_block (w:=w) (a:=⟨k,o,none⟩) b]
theorem zQ {w:World} {k o:Nat} {v:Value} (h:ku w k o=some v) (a:v.oneCell'=true):w.cell? ⟨k,o,none⟩=some v:=by
 unfold ku at h
 split at h
 ·rename_i d b f
  exfalso
  unfold xB at h
  rcases (show o=0∨o=1∨2≤o by omega) with rfl|rfl|ho
  ·cases h;cases a
  ·cases h;cases a
  ·rw [Array.getElem?_eq_none (by simpa using ho)] at h;cases h
 ·split at h
  ·rename_i e c
   split at h
   ·cases h;exact c
   ·cases h
  ·cases h
theorem DN {w:World} {k o:Nat} {v:Value} (h:w.cell? ⟨k,o,none⟩=some v) (c:v.oneCell'=true):ku w k o=some v:=by
 unfold ku
 split
 ·rename_i d a b
  unfold World.cell? at h
  simp only [b] at h
  cases h
 ·rw [h];simp only;rw [if_pos c]
theorem vJ {w:World} {k o:Nat} {v:Value} (h:ku w k o=some v) (e:v.oneCell'=false):∃ b a,w.heap[k]? =some (.map b a)∧(xB b)[o]? =some v:=by
 unfold ku at h
 split at h
 ·rename_i b a d;exact ⟨b,a,d,h⟩
 ·split at h
  ·split at h
   ·rename_i c;cases h;rw [e] at c;cases c
   ·cases h
  ·cases h
theorem Ve {w:World} {k o:Nat} {v:Value} (h:ku w k o=some v):k<w.heap.size:=by
 cases a:v.oneCell' with
 |true=>exact World.block_lt_of_cell? w _ (zQ h a)
 |false=>
  obtain ⟨_,_,b,_⟩:=vJ h a
  exact (Array.getElem?_eq_some_iff.1 b).1
structure RN (g:dE) (m:aX) (S:aV) (w:World) (B:aZ) (k c:Nat):Prop where
 lies:∃ cur e vs rest,jr w k B.esz cur e∧cur.toList=vs++rest∧(B.pr=true→dQ S B.cells vs)∧bi g m S B.cells vs∧(B.esz ≠ iC→∀ u ∈ vs,u.oneCell'=true)∧(0<B.esz→B.esz ≠ iC→cur.size=c*B.esz∧c≤maxLen)
 fz0:B.fro=false→B.fz=0
 fzle:B.fz≤B.cells.length
structure bT (ap:AP) (g:dE) (m:aX) (S:aV) (w:World):Prop where
 inj:∀ b b' B B',g b=some B→g b'=some B'→(m b).1=(m b').1→b=b'
 blk:∀ b B,g b=some B→RN g m S w B (m b).1 (m b).2
 sealed:∀ k o v,S k o=some v→ku w k o=some v
 own:∀ b B,g b=some B→∀ o v,S (m b).1 o=some v→B.fro=true∧o<B.fz
 glob:UT ap S
structure Fr (g:dE) (m:aX) (S:aV) (w:World) (g':dE) (m':aX) (S':aV) (w':World):Prop where
 ge:Ge g m g' m'
 sle:oP S S'
 os:w'.os=w.os
 tape:w'.tape=w.tape
 output:w'.output=w.output
 size:w.heap.size≤w'.heap.size
 rest:∀ k,k<w.heap.size→(∀ b B,g b=some B→(m b).1 ≠ k)→w'.heap[k]? =w.heap[k]?
 img:∀ b B,g' b=some B→w.heap.size≤(m' b).1∨(∃ B0,g b=some B0∧(m' b).1=(m b).1)
 sealN:∀ k o v,S' k o=some v→S k o=some v∨w.heap.size≤k∨∃ b B,g b=some B∧(m b).1=k
theorem Fr.refl (g:dE) (m:aX) (S:aV) (w:World):Fr g m S w g m S w:=
 ⟨Ge.refl g m,oP.refl S,rfl,rfl,rfl,Nat.le_refl _,fun _ _ _=>rfl,fun _ B h=> .inr ⟨B,h,rfl⟩,fun _ _ _ h=> .inl h⟩
theorem Fr.trans {g g' l:dE} {m s n:aX} {S S' S'':aV} {w w' i:World} (h:Fr g m S w g' s S' w') (d:Fr g' s S' w' l n S'' i):Fr g m S w l n S'' i:=by
 refine ⟨h.ge.trans d.ge,h.sle.trans d.sle,d.os.trans h.os,d.tape.trans h.tape,d.output.trans h.output,Nat.le_trans h.size d.size, ?_, ?_, ?_⟩
 ·intro k t r
  rw [d.rest k (Nat.lt_of_lt_of_le t h.size) ?_,h.rest k t r]
  intro b B j e
  rcases h.img b B j with a|⟨B0,c,a⟩
  ·omega
  ·exact r b B0 c (a ▸ e)
 ·intro b B j
  rcases d.img b B j with a|⟨B0,c,a⟩
  ·exact .inl (Nat.le_trans h.size a)
  ·rcases h.img b B0 c with p|⟨B1,q,p⟩
   ·exact .inl (a ▸ p)
   ·exact .inr ⟨B1,q,a.trans p⟩
 ·intro k o v u
  rcases d.sealN k o v u with f|f|⟨b,B,j,f⟩
  ·exact h.sealN k o v f
  ·exact .inr (.inl (Nat.le_trans h.size f))
  ·rcases h.img b B j with a|⟨B0,c,a⟩
   ·exact .inr (.inl (f ▸ a))
   ·exact .inr (.inr ⟨b,B0,c,by rw [← f,a]⟩)
theorem bT.lt {ap:AP} {g:dE} {m:aX} {S:aV} {w:World} (h:bT ap g m S w) {b:Nat} {B:aZ} (a:g b=some B):(m b).1<w.heap.size:=by
 obtain ⟨cur,e,vs,rest,c,_⟩:=(h.blk b B a).lies
 exact c.lt
theorem bT.one {ap:AP} {g:dE} {m:aX} {S:aV} {w:World} (h:bT ap g m S w) {k o:Nat} {v:Value} (a:S k o=some v) (b:v.oneCell'=true):w.cell? ⟨k,o,none⟩=some v:=zQ (h.sealed k o v a) b
theorem ut {w:World} {k j:Nat} {cur:Array Value} {e:TypeId} {a:Nat × Nat} (h:w.heap[k]? =some (.cells cur e a)):w.cell? ⟨k,j,none⟩=cur.toList[j]? :=by
 rw [cell_of_row w k j cur e a h];simp
theorem jr.get {w:World} {k z j:Nat} {cur:Array Value} {e:TypeId} {u:Value} (h:jr w k z cur e) (a:cur.toList[j]? =some u) (c:z ≠ iC→u.oneCell'=true):ku w k j=some u:=by
 rcases h with ⟨d,h⟩|⟨_,f,b,h,rfl⟩
 ·exact DN (by rw [ut h];exact a) (c d)
 ·unfold ku;rw [h];simpa using a
theorem fM {a b:IntKind} (h:iD a b=true):a=b:=by cases a<;>cases b<;>first|rfl|(exact absurd h (by decide))
theorem aN {a b:Nat} (h:Nat.beq a b=true):a=b:=Nat.eq_of_beq_eq_true h
theorem fP {a b:Nat} (h:Nat.ble a b=true):a≤b:=Nat.le_of_ble_eq_true h
theorem fQ {a b:Nat} (h:Nat.blt a b=true):a<b:=by
 have:Nat.ble (a+1) b=true:=h
 exact fP this
theorem ac7 {S:aV} {x:AV} {v:Value} (h:PR S x v) (a:oh x=true):v.oneCell'=true:=by
 cases x<;>simp only [PR] at h<;>first
  |(subst h;rfl)
  |(rcases h with ⟨rfl,_⟩|⟨_,_,_,rfl,_⟩<;>rfl)
  |(obtain ⟨_,_,_,rfl,_⟩:=h;rfl)
  |(obtain ⟨_,_,rfl,_⟩:=h;rfl)
  |(obtain ⟨_,rfl,_⟩:=h;first|rfl|exact absurd a (by simp [oh]))
  |(exact absurd a (by simp [oh]))
theorem Nz {g:dE} {m:aX} {S:aV} {x:AV} {v:Value} (h:VR g m S x v) (a:oh x=true):v.oneCell'=true:=by
 cases x<;>simp only [VR] at h<;>first
  | (exact ac7 h a)
    |(obtain ⟨_,_,_,⟨_,_,rfl⟩,_⟩:=h;rfl)
  |(obtain ⟨_,_,_,⟨_,_,_,rfl⟩,_⟩:=h;rfl)
  |(obtain ⟨_,_,rfl,_⟩:=h;rfl)
  |(obtain ⟨_,rfl,_⟩:=h;first|rfl|exact absurd a (by simp [oh]))
  |(exact absurd a (by simp [oh]))
end AM
namespace AM
open Go
structure Cm (P:Program) (t:Nat) (ti:TI) (i:TypeInfo) (d:TypeDesc) (z:Value):Prop where
 info:P.info? t=some i
 und:P.underlying t=some d
 d_eq:ti.d=jL P (some d)
 size:ti.size=i.size
 bytes:ti.bytes=i.bytes
 zero:i.zero=some z
 zcells:ti.zero=z.cells.toList.map EW
 zleaf:∀ x ∈ ti.zero,oh x=true
 zsize:z.cells.size=i.size
 lks:ti.lks.length=i.size
 pos:0<i.size
 zagg:af8 i d=true
 fld:V_ P d=true
 small:i.size<iC
theorem dO {P:Program} {ap:AP} (c:iF P ap) {t:Nat} {e:TI} (h:ap.tyAt t=some e):∃ i d z,Cm P t e i d z:=by
 have a:=c.ty t e h
 unfold Yi at a
 cases b:P.info? t with
 |none=>simp [b] at a
 | some i=>
  cases hd:P.underlying t with
  |none=>simp [b,hd] at a
  | some d=>
   simp only [b,hd] at a
   split at a
   ·rename_i k
    simp only [Bool.and_eq_true] at k
    obtain ⟨⟨⟨⟨⟨⟨p,l⟩,o⟩,s⟩,r⟩,u⟩,q⟩:=k
    cases f:i.zero with
    |none=>simp [f] at u
    | some z=>
     cases a
     have j:FY i=z.cells.toList.map EW:=by simp [FY,f]
     refine ⟨i,d,z,b,hd,rfl,rfl,rfl,f,j, ?_, ?_,aN p,fQ r,l.1,l.2,fQ q⟩
     ·intro x n;exact List.all_eq_true.1 o x n
     ·have:=aN s
      rw [j] at this
      simpa using this
   ·cases a
theorem gI {P:Program} {d:TypeDesc} {e:Nat} (h:jL P (some d)= .slice e):d= .slice e:=by cases d<;>simp [jL] at h;subst h;rfl
theorem zA {P:Program} {d:TypeDesc} {n e:Nat} (h:jL P (some d)= .array n e):d= .array n e:=by cases d<;>simp [jL] at h;obtain ⟨rfl,rfl⟩:=h;rfl
theorem xO {P:Program} {d:TypeDesc} (h:jL P (some d)= .str):d= .string:=by cases d<;>simp [jL] at h;rfl
theorem Yf {P:Program} {d:TypeDesc} {k:IntKind} (h:jL P (some d)= .int k):d= .int k:=by cases d<;>simp [jL] at h;subst h;rfl
theorem ab2 {P:Program} {d:TypeDesc} (h:jL P (some d)= .bool):d= .bool:=by cases d<;>simp [jL] at h;rfl
theorem v_ {P:Program} {d:TypeDesc} {a:List (Nat × Nat × Nat)} (h:jL P (some d)= .struct a):
  ∃ fields:Array Field,d= .struct fields∧a=fields.toList.map fun f=>(f.offset,f.type,match P.info? f.type with|some i=>i.size|none=>0):=by
 cases d<;>simp [jL] at h
 exact ⟨_,rfl,h.symm⟩
theorem FP {P:Program} (d:TypeDesc):Ja (jL P (some d))=d.isRow:=by cases d<;>simp [jL,Ja,TypeDesc.isRow]
theorem GN (S:aV) (v:Value):PR S (Jq v) v:=by
 cases v<;>simp only [Jq,PR]
 case pointer a=>cases a<;>simp only [PR]
 case map a=>
  cases a with
  |none=>simp [PR]
  |some _=>simp only [PR]
 case slice a n c=>
  split<;>simp only [PR]
theorem J4 (S:aV) (v:Value):PR S (EW v) v:=by
 cases v<;>simp only [EW]<;>try exact GN S _
 case agg cs=>
  simp only [PR]
  refine ⟨cs.toList,by simp, ?_⟩
  induction cs.toList with
  |nil=>simp [dQ]
  |cons c r ih=>simp only [List.map_cons,dQ];exact ⟨GN S c,ih⟩
 case tuple vs=>
  split
  ·rename_i h
   simp only [PR]
   exact ⟨[],by rw [← h],by simp [dQ]⟩
  ·simp only [PR]
theorem wI (S:aV):∀ l:List Value,dQ S (l.map EW) l
 | []=>by simp [dQ]
 |v::r=>by simp only [List.map_cons,dQ];exact ⟨J4 S v,wI S r⟩
theorem ac8 {g:dE} {m:aX} {S:aV} {k:LK} {c:AV} {v:Value} (h:VR g m S c v) (f:chk k c=true):VR g m S (eta k c) v:=by
 cases k<;>cases c<;>simp [chk] at f<;>simp only [eta,AV.toInt,AV.toBool,AV.toStr,AV.slX,AV.slN]<;>try exact h
 ·rw [fM f];exact h
 ·simp only [VR,PR] at h ⊢
  subst h
  exact ⟨none,0,rfl,Nat.le_refl _,.inl ⟨rfl,trivial,trivial,trivial,rfl⟩⟩
 ·simp only [VR,PR] at h ⊢
  obtain ⟨a,d,e,b,q⟩:=h
  refine ⟨a,d,e,b, ?_⟩
  rcases q with ⟨n,_,l,j,i⟩|q
  ·exact .inl ⟨n,trivial,l,j,i⟩
  ·exact .inr q
theorem Bd {k:LK} {c:AV} (h:chk k c=true):c ≠ .dead:=by intro e;subst e;cases k<;>simp [chk] at h
theorem getD_some {xs:List AV} {i:Nat} (h:xs.getD i .dead ≠ .dead):xs[i]? =some (xs.getD i .dead):=by
 rw [List.getD_eq_getElem?_getD] at h ⊢
 cases a:xs[i]? with
 |none=>simp [a] at h
 |some x=>simp
theorem nZ (xs:List AV) (a:Nat):(xs.drop a).headD .dead=xs.getD a .dead:=by
 rw [List.headD_eq_head?_getD,List.head?_drop,List.getD_eq_getElem?_getD]
theorem Ua (ty:Bool) (xs:List AV) (a:Nat):uX ty [] xs a= []:=rfl
theorem xH (ty:Bool) (k:LK) (ks:List LK) (xs:List AV) (a:Nat):uX ty (k::ks) xs a=(match ty with|true=>eta k (xs.getD a .dead)|false=>xs.getD a .dead)::uX ty ks xs (a+1):=by
 show _::L8 ty ks (xs.drop a).tail=_::L8 ty ks (xs.drop (a+1))
 rw [List.tail_drop]
 cases ty<;>simp only [nZ]
theorem Sm (ty:Bool) (k:LK) (ks:List LK) (xs:List AV) (a:Nat):II ty (k::ks) xs a=(match ty with|true=>chk k (xs.getD a .dead)|false=>chk .oth (xs.getD a .dead))::II ty ks xs (a+1):=by
 show _::Vf ty ks (xs.drop a).tail=_::Vf ty ks (xs.drop (a+1))
 rw [List.tail_drop]
 cases ty<;>simp only [nZ]
theorem pU {g:dE} {m:aX} {S:aV} (ty:Bool) {xs:List AV} {vs:List Value} (i:bi g m S xs vs):∀ (lks:List LK) (a:Nat),(∀ b ∈ II ty lks xs a,b=true)→
  ∃ e:List Value,e.length=lks.length∧(∀ j u,e[j]? =some u→vs[a+j]? =some u)∧bi g m S (uX ty lks xs a) e:=by
 intro lks
 induction lks with
 |nil=>exact fun a _=> ⟨[],rfl,fun _ _ h=>by simp at h,by simp [Ua,bi]⟩
 | cons k ks ih=>
  intro a h
  simp only [Sm,List.mem_cons,forall_eq_or_imp] at h
  obtain ⟨e,o,n,l⟩:=ih (a+1) h.2
  have key:∃ v,vs[a]? =some v∧VR g m S ((uX ty (k::ks) xs a).headD .dead) v:=by
   rw [xH]
   cases ty with
   |true=>
    obtain ⟨v,d,c⟩:=rJ i a (getD_some (Bd h.1))
    exact ⟨v,d,ac8 c h.1⟩
   |false=>
    obtain ⟨v,d,c⟩:=rJ i a (getD_some (Bd h.1))
    exact ⟨v,d,c⟩
  obtain ⟨v,d,c⟩:=key
  rw [xH] at c
  refine ⟨v::e,by simp [o], ?_, ?_⟩
  ·intro j u f
   cases j with
   |zero=>simp at f;subst f;simpa using d
   |succ j=>simp at f;rw [show a+(j+1)=a+1+j from by omega];exact n j u f
  ·simp only [xH,bi];exact ⟨c,l⟩
theorem EF {P:Program} {w:World} {t:Nat} {h:TI} {i:TypeInfo} {d:TypeDesc} {z:Value} (f:Cm P t h i d z) {g:dE} {m:aX} {S:aV} {n:List AV} {e:List Value} {k a:Nat}
  (hl:e.length=h.lks.length) (hu:∀ j u,e[j]? =some u→w.cell? ⟨k,a+j,none⟩=some u) (hr:bi g m S n e) {v:AV} (hv:qX h n=some v):
  ∃ cv,(loadVar t ⟨k,a,none⟩).run P w= .ok cv w∧VR g m S v cv:=by
 unfold qX at hv
 rw [f.d_eq,FP] at hv
 split at hv
 ·rename_i b
  cases hv
  refine ⟨.agg e.toArray,run_loadVar_mid w k a t e d hu f.und b (by simp [f.info,hl,f.lks]), ?_⟩
  simp only [VR];exact ⟨e,rfl,hr⟩
 ·rename_i b
  split at hv
  ·rename_i c
   cases hv
   cases e with
   |nil=>simp [bi] at hr
   | cons u r=>
    simp only [bi] at hr
    refine ⟨u, ?_,hr.1⟩
    have l:(isAgg t).run P w= .ok false w:=by
     unfold isAgg;rw [Sem.run_bind,run_underlying f.und w]
     cases d<;>simp_all [TypeDesc.isRow]
    have o:=hu 0 u rfl
    simp only [Nat.add_zero] at o
    simp [loadVar,l,o]
  ·cases hv
theorem bind_some {α β:Type} {x:Option α} {f:α→Option β} {b:β} (h:x.bind f=some b):∃ a,x=some a∧f a=some b:=by
 cases x with
 |none=>simp at h
 |some a=>exact ⟨a,rfl,h⟩
theorem aS {v b:AV} {bs a:List Bool} {ups:List (Nat × aZ)} (h:bu v bs=some (b,ups,a)):b=v∧ups= []∧a=bs:=by
 unfold bu at h;cases h;exact ⟨rfl,rfl,rfl⟩
section
variable {P:Program} {ap:AP} {g:dE} {m:aX} {S:aV} {w:World}
theorem Bl (M:bT ap g m S w) {rd:dE} (y:∀ b B,rd b=some B→g b=some B) {t:Nat} {x:TI} {i:TypeInfo} {d:TypeDesc} {z:Value} (L:Cm P t x i d z)
  {p v:AV} {cp:Value} (hp:VR g m S p cp) {ups:List (Nat × aZ)} {bs:List Bool} (h:Lr x rd p=some (v,ups,bs)) (hbs:∀ b ∈ bs,b=true):
  ups= []∧∃ cv,(Instr.loadAt t cp).run P w= .ok cv w∧VR g m S v cv:=by
 unfold Lr at h
 split at h
 ·rename_i xs f
  obtain ⟨Q,l,h⟩:=bind_some h
  obtain ⟨rfl,rfl,rfl⟩:=aS h
  simp only [VR,PR] at hp
  obtain ⟨b,o,vs,rfl,hp,hs⟩:=hp
  obtain ⟨N,H,D,F⟩:=pU (g:=g) (m:=m) true (bV _ hp) x.lks f hbs
  obtain ⟨cv,A,E⟩:=EF (w:=w) L (k:=b) (a:=o+f) H (fun j u C=>by
   have K:=hs (f+j) u (D j u C);have:=M.one K.1 K.2;rw [Nat.add_assoc];exact this) F l
  exact ⟨rfl,cv,by simpa [Instr.loadAt,Instr.sureAddr] using A,E⟩
 ·rename_i b ver f
  obtain ⟨B,R,h⟩:=bind_some h
  split at h
  ·rename_i c
   obtain ⟨Q,l,h⟩:=bind_some h
   obtain ⟨rfl,rfl,rfl⟩:=aS h
   simp only [VR] at hp
   obtain ⟨B',r,_,_,q⟩:=hp
   have s:=y b B R
   rw [s] at r;cases r
   simp only [Bool.and_eq_true,Bool.not_eq_true'] at c
   have G:B.esz ≠ iC:=fun e=>by rw [e] at c;exact absurd c.2 (by decide)
   have q:=q (aN c.1)
   subst q
   obtain ⟨cur,e,vs,rest,J,O,_,I,_⟩:=(M.blk b B s).lies
   have J:=J.cells G
   obtain ⟨N,H,D,F⟩:=pU _ I x.lks f hbs
   obtain ⟨cv,A,E⟩:=EF (w:=w) L (k:=(m b).1) (a:=f) H (fun j u C=>by
    have n:=D j u C
    rw [ut J,O,List.getElem?_append_left (List.getElem?_eq_some_iff.1 n).1]
    exact n) F l
   exact ⟨rfl,cv,by simpa [Instr.loadAt,Instr.sureAddr] using A,E⟩
  ·cases h
 ·cases h
theorem EX {p d:AV} {f:Value} (hp:VR g m S p f) {o:Nat} (h:Xi p o=some d):∃ a:Addr,f= .pointer (some a)∧VR g m S d (.pointer (some (a.add o))):=by
 unfold Xi at h
 split at h<;>cases h
 ·rename_i b ver c
  simp only [VR] at hp
  obtain ⟨B,r,j,⟨k,l,rfl⟩,q⟩:=hp
  refine ⟨_,rfl, ?_⟩
  simp only [VR]
  refine ⟨B,r,j,⟨k,l+o,by rw [Addr.add_mid]⟩,fun e=> ?_⟩
  have q:=q e
  simp only [Value.pointer.injEq,Option.some.injEq,Addr.mk.injEq] at q
  obtain ⟨n,i,_⟩:=q
  rw [Addr.add_mid,n,i]
 ·rename_i xs c
  simp only [VR,PR] at hp
  obtain ⟨b,k,vs,rfl,hp,hs⟩:=hp
  refine ⟨_,rfl, ?_⟩
  simp only [VR,PR]
  exact ⟨b,k,vs,by rw [Addr.add_mid,Nat.add_assoc],hp,hs⟩
end
end AM
namespace AM
open Go
section
variable {P:Program} {ap:AP} {g:dE} {m:aX} {S:aV} {w:World}
theorem dh {b:Bool} {l:List Bool} (h:∀ x ∈ b::l,x=true):b=true∧∀ x ∈ l,x=true:=⟨h b (by simp),fun x a=>h x (by simp [a])⟩
theorem jS {t:Nat} {a:TI} {i:TypeInfo} {d:TypeDesc} {z:Value} (b:Cm P t a i d z) (w:World):(Go.sizeOf t).run P w= .ok a.size w:=by
 simp [Go.sizeOf,typeInfo,b.info,b.size]
theorem Bf {x:AV} {b:Value} (a:VR g m S x b) {n:Int} (h:Qp x=some n):∃ k,b= .int k n:=by
 cases x<;>simp [Qp] at h
 subst h
 simp only [VR,PR] at a
 exact ⟨_,a⟩
theorem Cb {t:Nat} {n:TI} {i:TypeInfo} {d:TypeDesc} {z:Value} (q:Cm P t n i d z) {u:List (Nat × Nat × Nat)} (hd:n.d= .struct u) {f o y sz:Nat} (s:u[f]? =some (o,y,sz)) (b:Nat.blt 0 sz=true)
  {p v:AV} {cp:Value} (hp:VR g m S p cp) (e:Xi p o=some v):∃ cv,(Instr.fieldAt t cp f).run P w= .ok cv w∧VR g m S v cv:=by
 rw [q.d_eq] at hd
 obtain ⟨fields,rfl,rfl⟩:=v_ hd
 simp only [List.getElem?_map,Option.map_eq_some_iff] at s
 obtain ⟨l,k,r⟩:=s
 simp only [Prod.mk.injEq] at r
 obtain ⟨rfl,rfl,hs⟩:=r
 obtain ⟨a,rfl,e⟩:=EX hp e
 refine ⟨_, ?_,e⟩
 have c:fields[f]? =some l:=by simpa using k
 cases h:P.info? l.type with
 |none=>rw [h] at hs;simp only at hs;subst hs;exact absurd (fQ b) (by omega)
 |some j=>
  rw [h] at hs
  have x:j.size ≠ 0:=by have:=fQ b;simp only at hs;omega
  simp [Instr.fieldAt,run_underlying q.und,c,Instr.sureAddr,fieldPlace,Go.sizeOf,typeInfo,h,x]
theorem oD {i:Int} {n:Nat} (c:decide (0≤i)=true) (d:decide (i<n)=true):0≤i∧i<n∧i.toNat<n:=by
 have a:=of_decide_eq_true c
 have b:=of_decide_eq_true d
 omega
theorem z_ (y:iF P ap) {rd:dE} (E:∀ b B,rd b=some B→g b=some B) {t:Nat} {H:TI} {i:TypeInfo} {d:TypeDesc} {z:Value} (s:Cm P t H i d z)
  {x ix v:AV} {cx ci:Value} (hx:VR g m S x cx) (hi:VR g m S ix ci) {ups:List (Nat × aZ)} {bs:List Bool} (h:xw ap H rd x ix=some (v,ups,bs)) (hbs:∀ b ∈ bs,b=true):
  ups= []∧∃ cv,(Instr.indexAt t cx ci).run P w= .ok cv w∧VR g m S v cv:=by
 unfold xw at h
 have l:=bind_some h;clear h;obtain ⟨n,N,h⟩:=l
 obtain ⟨k,rfl⟩:=Bf hi N
 split at h
 ·rename_i e hd
  have l:=bind_some h;clear h;obtain ⟨G,c,h⟩:=l
  obtain ⟨T,O,M,c⟩:=dO y c
  rw [s.d_eq] at hd
  have hd:=gI hd
  subst hd
  split at h
  ·rename_i xs len nn
   obtain ⟨rfl,rfl,rfl⟩:=aS h
   obtain ⟨u,f⟩:=dh hbs
   obtain ⟨f,_⟩:=dh f
   obtain ⟨A,r,J⟩:=oD u f
   simp only [VR,PR] at hx
   obtain ⟨a,R,rfl,Q,q⟩:=hx
   rcases q with ⟨_,_,_,q,_⟩|⟨b,o,vs,rfl,hp,hs⟩
   ·subst q;omega
   ·refine ⟨rfl,.pointer (some ⟨b,o+n.toNat*G.size,none⟩), ?_, ?_⟩
    ·simp [Instr.indexAt,asIntOf,run_underlying s.und,A,r,jS c,Addr.add_mid]
    ·simp only [VR,PR];exact ⟨b,o,vs,rfl,hp,hs⟩
  ·rename_i b ver j len
   have l:=bind_some h;clear h;obtain ⟨B,V,h⟩:=l
   split at h
   ·rename_i D
    simp only [Bool.and_eq_true] at D
    obtain ⟨rfl,rfl,rfl⟩:=aS h
    obtain ⟨u,f⟩:=dh hbs
    obtain ⟨f,_⟩:=dh f
    obtain ⟨A,r,J⟩:=oD u f
    simp only [VR] at hx
    obtain ⟨B',C,K,_,q⟩:=hx
    have I:=E b B V
    rw [I] at C;cases C
    obtain ⟨o,rfl,W,L,X⟩:=q (aN D.1)
    have U:=L (by omega)
    have F:=aN D.2
    refine ⟨rfl,.pointer (some ⟨(m b).1,(j+n.toNat)*G.size,none⟩), ?_, ?_⟩
    ·rw [U,F]
     simp [Instr.indexAt,asIntOf,run_underlying s.und,A,r,jS c,Addr.add_mid,Nat.add_mul]
    ·simp only [VR];exact ⟨B,I,by have:=aN D.1;omega,⟨_,_,rfl⟩,fun _=>trivial⟩
   ·cases h
  ·cases h
 ·rename_i len e hd
  have l:=bind_some h;clear h;obtain ⟨G,c,h⟩:=l
  obtain ⟨T,O,M,c⟩:=dO y c
  have l:=bind_some h;clear h;obtain ⟨p,hp,h⟩:=l
  obtain ⟨rfl,rfl,rfl⟩:=aS h
  rw [s.d_eq] at hd
  have hd:=zA hd
  subst hd
  obtain ⟨u,f⟩:=dh hbs
  obtain ⟨f,_⟩:=dh f
  obtain ⟨A,r,J⟩:=oD u f
  obtain ⟨a,rfl,K⟩:=EX hx hp
  refine ⟨rfl,_, ?_,K⟩
  simp [Instr.indexAt,asIntOf,run_underlying s.und,A,r,jS c,Instr.sureAddr]
 ·cases h
theorem E9 {t:Nat} {f:TI} {i:TypeInfo} {d:TypeDesc} {z:Value} (h:Cm P t f i d z) {vs b:List Value} {n:List AV} {e:Nat}
  (hl:b.length=f.lks.length) (hu:∀ j u,b[j]? =some u→vs[e+j]? =some u) (hr:bi g m S n b) {v:AV} (hv:qX f n=some v):
  ∃ cv,(part t vs.toArray e).run P w= .ok cv w∧VR g m S v cv:=by
 have k:(isAgg t).run P w= .ok d.isRow w:=by
  unfold isAgg;rw [Sem.run_bind,run_underlying h.und w]
  cases d<;>simp [TypeDesc.isRow]
 unfold qX at hv
 rw [h.d_eq,FP] at hv
 split at hv
 ·rename_i a
  cases hv
  have p:(vs.drop e).take f.size=b:=by
   apply List.ext_getElem?
   intro j
   rw [List.getElem?_take,List.getElem?_drop]
   have s:f.size=b.length:=by rw [hl,h.lks,h.size]
   split
   ·rename_i q
    have l:j<b.length:=by omega
    have:=hu j b[j] (List.getElem?_eq_getElem l)
    rw [this,List.getElem?_eq_getElem l]
   ·rename_i q
    rw [List.getElem?_eq_none (by omega)]
  refine ⟨.agg b.toArray, ?_, ?_⟩
  ·simp [part,k,a,jS h,p]
  ·simp only [VR];exact ⟨b,rfl,hr⟩
 ·rename_i a
  split at hv
  ·rename_i c
   cases hv
   cases b with
   |nil=>simp [bi] at hr
   |cons u r=>
    simp only [bi] at hr
    refine ⟨u, ?_,hr.1⟩
    have o:=hu 0 u rfl
    simp only [Nat.add_zero] at o
    have a:d.isRow=false:=by simpa using a
    simp [part,k,a,o]
  ·cases hv
theorem IX (n:iF P ap) {t:Nat} {q:TI} {i:TypeInfo} {d:TypeDesc} {z:Value} (r:Cm P t q i d z) {x v:AV} {u:Value} (j:VR g m S x u) {f:Nat} {ups:List (Nat × aZ)} {bs:List Bool}
  (h:Oh ap q x f=some (v,ups,bs)) (hbs:∀ b ∈ bs,b=true):ups= []∧∃ cv,(Instr.field t u f).run P w= .ok cv w∧VR g m S v cv:=by
 unfold Oh at h
 split at h
 ·rename_i M F hd
  have c:=bind_some h;clear h;obtain ⟨⟨o,L,sz⟩,y,h⟩:=c
  have c:=bind_some h;clear h;obtain ⟨tf,a,h⟩:=c
  have c:=bind_some h;clear h;obtain ⟨K,k,h⟩:=c
  obtain ⟨rfl,rfl,rfl⟩:=aS h
  obtain ⟨J,H,G,a⟩:=dO n a
  rw [r.d_eq] at hd
  obtain ⟨fields,rfl,rfl⟩:=v_ hd
  simp only [List.getElem?_map,Option.map_eq_some_iff] at y
  obtain ⟨p,l,s⟩:=y
  simp only [Prod.mk.injEq] at s
  obtain ⟨rfl,rfl,hs⟩:=s
  simp only [VR] at j
  obtain ⟨vs,rfl,j⟩:=j
  obtain ⟨I,E,B,D⟩:=pU false j tf.lks p.offset hbs
  obtain ⟨cv,A,C⟩:=E9 (w:=w) a E B D k
  have e:fields[f]? =some p:=by simpa using l
  refine ⟨rfl,cv, ?_,C⟩
  simp [Instr.field,run_underlying r.und,e,asAgg,A]
 ·cases h
theorem Wl (s:List UInt8) (i:Nat) (h:i<s.length):(⟨s.toArray⟩:ByteArray)[i]? =some (s.getD i 0):=by
 have hs:i<(⟨s.toArray⟩:ByteArray).size:=by simpa [ByteArray.size] using h
 rw [getElem?_pos _ i hs]
 simp only [ByteArray.getElem_eq_getElem_data,List.getElem_toArray]
 rw [List.getD_eq_getElem?_getD,List.getElem?_eq_getElem h]
 rfl
theorem I9 (u:iF P ap) {t:Nat} {B:TI} {i:TypeInfo} {d:TypeDesc} {z:Value} (l:Cm P t B i d z) {x E v:AV} {C ci:Value} (f:VR g m S x C) (G:VR g m S E ci) {ups:List (Nat × aZ)} {bs:List Bool}
  (h:Om ap B x E=some (v,ups,bs)) (hbs:∀ b ∈ bs,b=true):ups= []∧∃ cv,(Instr.index t C ci).run P w= .ok cv w∧VR g m S v cv:=by
 unfold Om at h
 have j:=bind_some h;clear h;obtain ⟨n,I,h⟩:=j
 obtain ⟨k,rfl⟩:=Bf G I
 split at h
 ·rename_i s hd
  obtain ⟨rfl,rfl,rfl⟩:=aS h
  obtain ⟨r,c⟩:=dh hbs
  obtain ⟨c,_⟩:=dh c
  obtain ⟨y,A,D⟩:=oD r c
  rw [l.d_eq] at hd
  have hd:=xO hd
  subst hd
  simp only [VR,PR] at f
  subst f
  refine ⟨rfl,.int .u8 (s.getD n.toNat 0).toNat, ?_,by simp only [VR,PR]⟩
  simp [Instr.index,asIntOf,run_underlying l.und,y,Wl s n.toNat D]
 ·rename_i len e M hd
  have j:=bind_some h;clear h;obtain ⟨F,a,h⟩:=j
  have j:=bind_some h;clear h;obtain ⟨T,q,h⟩:=j
  obtain ⟨rfl,rfl,rfl⟩:=aS h
  obtain ⟨R,O,N,a⟩:=dO u a
  obtain ⟨r,c⟩:=dh hbs
  obtain ⟨c,J⟩:=dh c
  obtain ⟨y,A,D⟩:=oD r c
  rw [l.d_eq] at hd
  have hd:=zA hd
  subst hd
  simp only [VR] at f
  obtain ⟨vs,rfl,f⟩:=f
  obtain ⟨Q,L,H,K⟩:=pU true f F.lks (n.toNat*F.size) J
  obtain ⟨cv,p,o⟩:=E9 (w:=w) a L H K q
  refine ⟨rfl,cv, ?_,o⟩
  simp [Instr.index,asIntOf,run_underlying l.und,y,A,jS a,p]
 ·cases h
end
end AM
namespace AM
open Go
section
variable {P:Program} {ap:AP} {g:dE} {m:aX} {S:aV} {w:World}
def Dq (g:dE) (m:aX) (S:aV) (x:Option AV) (c:Option Value):Prop:=
 match x,c with
 |none,none=>True
 |some x,some c=>VR g m S x c
 |_,_=>False
theorem gB {x:Option AV} {c:Option Value} (h:Dq g m S x c) {d n:Int} (a:oH x d=some n):(x=none∧c=none∧n=d)∨∃ k,c=some (.int k n):=by
 cases x with
 |none=>cases c with
  |none=>simp [oH] at a;exact .inl ⟨rfl,rfl,a.symm⟩
  |some c=>simp [Dq] at h
 | some x=>cases c with
  |none=>simp [Dq] at h
  |some c=>
   cases x<;>simp [oH] at a
   subst a
   simp only [Dq,VR,PR] at h
   subst h
   exact .inr ⟨_,rfl⟩
theorem sW (P:Program) (w:World) (e:Bool) (len a:Nat) (b d:Option Value) (l h:Int)
  (hl:(b=none∧l=0)∨∃ k,b=some (.int k l)) (i:(d=none∧h=len)∨∃ k,d=some (.int k h)) (h0:0≤l) (h1:l≤h) (h2:h≤a):
  (Instr.sliceBounds e len a b d none).run P w= .ok (l.toNat,h.toNat,a) w:=by
 have f:0≤h:=by omega
 rcases hl with ⟨rfl,rfl⟩|⟨k,rfl⟩<;>rcases i with ⟨rfl,rfl⟩|⟨n,rfl⟩
 ·simp [Instr.sliceBounds]
 ·simp [Instr.sliceBounds,Instr.sliceBound,asIntOf,h2,f]
 ·have c:l≤(len:Int):=h1
  simp [Instr.sliceBounds,Instr.sliceBound,asIntOf,h0,c]
 ·simp [Instr.sliceBounds,Instr.sliceBound,asIntOf,h0,h2,f]
  intro j;omega
theorem KU (s:List UInt8) (l h:Nat):(⟨s.toArray⟩:ByteArray).extract l h=⟨((s.take h).drop l).toArray⟩:=by
 apply ByteArray.ext
 rw [ByteArray.data_extract]
 apply Array.ext'
 simp [List.extract_eq_take_drop,List.drop_take]
theorem zu (s:List UInt8):(⟨s.toArray⟩:ByteArray).size=s.length:=by simp [ByteArray.size]
theorem jZ.drop {b o:Nat} {vs:List Value} (h:jZ S b o vs) (n:Nat):jZ S b (o+n) (vs.drop n):=by
 intro j u a
 rw [List.getElem?_drop] at a
 rw [Nat.add_assoc]
 exact h _ _ a
theorem jZ.take {b o:Nat} {vs:List Value} (h:jZ S b o vs) (n:Nat):jZ S b o (vs.take n):=by
 intro j u a
 rw [List.getElem?_take] at a
 split at a
 ·exact h _ _ a
 ·cases a
theorem ade {a b c:Bool} (h:∀ x ∈ [a,b,c],x=true):a=true∧b=true∧c=true:=⟨h a (by simp),h b (by simp),h c (by simp)⟩
theorem Gt {α:Type} (xs:List α) (n:Nat):(xs.take n).drop n= []:=by
 apply List.drop_eq_nil_of_le;simp;omega
theorem JK (G:iF P ap) {rd:dE} (K:∀ b B,rd b=some B→g b=some B) {t:Nat} {N:TI} {i:TypeInfo} {d:TypeDesc} {z:Value} (D:Cm P t N i d z)
  {x v:AV} {cx:Value} (hx:VR g m S x cx) {lo hi mx:Option AV} {clo chi cmx:Option Value} (hlo:Dq g m S lo clo) (hhi:Dq g m S hi chi) (hmx:Dq g m S mx cmx)
  {ups:List (Nat × aZ)} {bs:List Bool} (h:O8 ap N rd x lo hi mx=some (v,ups,bs)) (hbs:∀ b ∈ bs,b=true):
  ups= []∧∃ cv,(Instr.sliceAt t cx clo chi cmx).run P w= .ok cv w∧VR g m S v cv:=by
 have k:mx=none→cmx=none:=by intro e;subst e;cases cmx<;>simp [Dq] at hmx ⊢
 unfold O8 at h
 split at h
 ·rename_i s hd
  have c:=bind_some h;clear h;obtain ⟨l,H,h⟩:=c
  have c:=bind_some h;clear h;obtain ⟨u,F,h⟩:=c
  obtain ⟨rfl,rfl,rfl⟩:=aS h
  obtain ⟨r,p,A⟩:=ade hbs
  have r:=of_decide_eq_true r
  have p:=of_decide_eq_true p
  have A:=of_decide_eq_true A
  rw [D.d_eq] at hd
  have hd:=xO hd
  subst hd
  simp only [VR,PR] at hx
  subst hx
  rw [k rfl]
  have E:=sW P w false s.length s.length clo chi l u ((gB hlo H).imp (fun h=> ⟨h.2.1,h.2.2⟩) id) ((gB hhi F).imp (fun h=> ⟨h.2.1,h.2.2⟩) id) r p A
  refine ⟨rfl,.string ⟨((s.take u.toNat).drop l.toNat).toArray⟩, ?_,by simp only [VR,PR]⟩
  rw [← KU]
  simp [Instr.sliceAt,Instr.slice,run_underlying D.und,zu,E]
 ·rename_i e xs n nn hd
  have c:=bind_some h;clear h;obtain ⟨y,f,h⟩:=c
  have c:=bind_some h;clear h;obtain ⟨l,H,h⟩:=c
  have c:=bind_some h;clear h;obtain ⟨u,F,h⟩:=c
  obtain ⟨rfl,rfl,rfl⟩:=aS h
  obtain ⟨R,O,M,f⟩:=dO G f
  obtain ⟨r,p,A⟩:=ade hbs
  have r:=of_decide_eq_true r
  have p:=of_decide_eq_true p
  have A:=of_decide_eq_true A
  rw [D.d_eq] at hd
  have hd:=gI hd
  subst hd
  simp only [VR,PR] at hx
  obtain ⟨a,C,rfl,W,q⟩:=hx
  rw [k rfl]
  have E:=sW P w true n C clo chi l u ((gB hlo H).imp (fun h=> ⟨h.2.1,h.2.2⟩) id) ((gB hhi F).imp (fun h=> ⟨h.2.1,h.2.2⟩) id) r p (by omega)
  refine ⟨rfl,.slice (if C=l.toNat then a else a.map (·.add (l.toNat*y.size))) (u.toNat - l.toNat) (C - l.toNat), ?_, ?_⟩
  ·simp [Instr.sliceAt,Instr.slice,run_underlying D.und,E,jS f]
  ·simp only [VR,PR]
   refine ⟨_,_,rfl,by omega, ?_⟩
   rcases q with ⟨rfl,T,rfl,rfl,rfl⟩|⟨b,o,vs,rfl,hp,hs⟩
   ·refine .inl ⟨by simp,T,by simp,by omega,by omega⟩
   ·refine .inr ?_
    by_cases I:C=l.toNat
    ·refine ⟨b,o,[],by rw [if_pos I], ?_,fun j u h=>by simp at h⟩
     have e:(xs.take (u.toNat*y.size)).drop (l.toNat*y.size)= []:=by
      have:u.toNat=l.toNat:=by omega
      rw [this,Gt]
     rw [e];simp [dQ]
    ·exact ⟨b,o+l.toNat*y.size,(vs.take (u.toNat*y.size)).drop (l.toNat*y.size),by rw [if_neg I];simp [Addr.add_mid],qy _ (jY _ hp),(hs.take _).drop _⟩
 ·rename_i e b ver j n hd
  have c:=bind_some h;clear h;obtain ⟨y,f,h⟩:=c
  have c:=bind_some h;clear h;obtain ⟨B,Y,h⟩:=c
  have c:=bind_some h;clear h;obtain ⟨l,H,h⟩:=c
  have c:=bind_some h;clear h;obtain ⟨u,F,h⟩:=c
  split at h
  ·rename_i I
   simp only [Bool.and_eq_true] at I
   obtain ⟨rfl,rfl,rfl⟩:=aS h
   obtain ⟨R,O,M,f⟩:=dO G f
   obtain ⟨r,p,A⟩:=ade hbs
   have r:=of_decide_eq_true r
   have p:=of_decide_eq_true p
   have A:=of_decide_eq_true A
   rw [D.d_eq] at hd
   have hd:=gI hd
   subst hd
   simp only [VR] at hx
   obtain ⟨B',J,X,_,q⟩:=hx
   have Q:=K b B Y
   rw [Q] at J;cases J
   obtain ⟨o,rfl,T,V,U⟩:=q (aN I.1)
   have L:=aN I.2
   rw [k rfl]
   have E:=sW P w true n ((m b).2 - j) clo chi l u ((gB hlo H).imp (fun h=> ⟨h.2.1,h.2.2⟩) id) ((gB hhi F).imp (fun h=> ⟨h.2.1,h.2.2⟩) id) r p (by omega)
   refine ⟨rfl,.slice (if (m b).2 - j=l.toNat then some ⟨(m b).1,o,none⟩ else some ⟨(m b).1,o+l.toNat*y.size,none⟩) (u.toNat - l.toNat) ((m b).2 - j - l.toNat), ?_, ?_⟩
   ·simp [Instr.sliceAt,Instr.slice,run_underlying D.und,E,jS f,Addr.add_mid]
   ·simp only [VR]
    refine ⟨B,Q,X,(by split<;>exact ⟨_,_,_,rfl⟩),fun _=> ?_⟩
    by_cases hcl:(m b).2 - j=l.toNat
    ·exact ⟨o,by rw [if_pos hcl];congr 1;omega,by omega,fun h=>by omega,U⟩
    ·refine ⟨o+l.toNat*y.size,by rw [if_neg hcl];congr 1;omega,by omega,fun h=> ?_,U⟩
     rw [V (by omega),L,Nat.add_mul]
  ·cases h
 ·rename_i e hd
  have c:=bind_some h;clear h;obtain ⟨y,f,h⟩:=c
  have c:=bind_some h;clear h;obtain ⟨l,H,h⟩:=c
  have c:=bind_some h;clear h;obtain ⟨u,F,h⟩:=c
  obtain ⟨rfl,rfl,rfl⟩:=aS h
  obtain ⟨R,O,M,f⟩:=dO G f
  have r:=of_decide_eq_true (hbs (decide (l=0)) (by simp))
  have p:=of_decide_eq_true (hbs (decide (u=0)) (by simp))
  subst r
  subst p
  rw [D.d_eq] at hd
  have hd:=gI hd
  subst hd
  simp only [VR,PR] at hx
  subst hx
  rw [k rfl]
  have E:=sW P w true 0 0 clo chi 0 0 ((gB hlo H).imp (fun h=> ⟨h.2.1,h.2.2⟩) id) ((gB hhi F).imp (fun h=> ⟨h.2.1,h.2.2⟩) id) (by omega) (by omega) (by omega)
  refine ⟨rfl,.slice none 0 0, ?_,by simp only [VR,PR]⟩
  simp at E
  simp [Instr.sliceAt,Instr.slice,run_underlying D.und,E,jS f]
 ·cases h
theorem Ov {x v:AV} {o:Value} (c:VR g m S x o) {t:Nat} {l:TI} {i:TypeInfo} {d:TypeDesc} {z:Value} (f:Cm P t l i d z)
  {ups:List (Nat × aZ)} {bs:List Bool} (h:WH l.d x=some (v,ups,bs)) (ats:Array TypeId) (hat:ats[0]? =some t) (args:Array Value) (ha:args[0]? =some o) (ty:Nat):
  ups= []∧∃ cv,(Builtin.len_ ats ty args).run P w= .ok cv w∧VR g m S v cv:=by
 unfold WH at h
 rw [f.d_eq] at h
 split at h
 ·rename_i n e hd
  obtain ⟨rfl,rfl,rfl⟩:=aS h
  have hd:=zA hd
  subst hd
  exact ⟨rfl,.int .i64 n,by simp [Builtin.len_,hat,ha,run_underlying f.und,goInt],by simp only [VR,PR]⟩
 ·rename_i s hd
  obtain ⟨rfl,rfl,rfl⟩:=aS h
  have hd:=xO hd
  subst hd
  simp only [VR,PR] at c
  subst c
  exact ⟨rfl,.int .i64 s.length,by simp [Builtin.len_,hat,ha,run_underlying f.und,goInt,zu],by simp only [VR,PR]⟩
 ·rename_i e xs n nn hd
  obtain ⟨rfl,rfl,rfl⟩:=aS h
  have hd:=gI hd
  subst hd
  simp only [VR,PR] at c
  obtain ⟨a,k,rfl,_⟩:=c
  exact ⟨rfl,.int .i64 n,by simp [Builtin.len_,hat,ha,run_underlying f.und,goInt],by simp only [VR,PR]⟩
 ·rename_i e b ver j n hd
  obtain ⟨rfl,rfl,rfl⟩:=aS h
  have hd:=gI hd
  subst hd
  simp only [VR] at c
  obtain ⟨_,_,_,⟨_,_,k,rfl⟩,_⟩:=c
  exact ⟨rfl,.int .i64 n,by simp [Builtin.len_,hat,ha,run_underlying f.und,goInt],by simp only [VR,PR]⟩
 ·rename_i e hd
  obtain ⟨rfl,rfl,rfl⟩:=aS h
  have hd:=gI hd
  subst hd
  simp only [VR,PR] at c
  subst c
  exact ⟨rfl,.int .i64 0,by simp [Builtin.len_,hat,ha,run_underlying f.und,goInt],by simp only [VR,PR]⟩
 ·cases h
theorem xP (s:List UInt8):(⟨s.toArray⟩:ByteArray).toList=s:=by rw [ByteArray.toList_eq]
theorem yl:∀ a b:List UInt8,Op.bytesLess a b=gW a b
 |_,[]=>by simp [Op.bytesLess,gW]
 | [],_::_=>by simp [Op.bytesLess,gW]
 |a::x,b::y=>by simp only [Op.bytesLess,gW,yl x y]
def tV:LK→Value→Value→Option Bool
 | .int k,.int k1 a,.int k2 b=>match iD k k1 && iD k k2 with|true=>some (a==b)|false=>none
 | .bool,.bool a,.bool b=>some (a==b)
 | .str,.string a,.string b=>some (a.toList==b.toList)
 |_,_,_=>none
def dK:List LK→List Value→List Value→Option Bool
 | [],[],[]=>some true
 |k::ks,a::as,b::bs=>(tV k a b).bind fun c=>(dK ks as bs).map fun d=>c && d
 |_,_,_=>none
theorem rX:∀ (l e:List LK) (xs f:List Value) (r:Bool),dK (l++e) xs f=some r→
  ∃ a b,dK l (xs.take l.length) (f.take l.length)=some a∧dK e (xs.drop l.length) (f.drop l.length)=some b∧r=(a && b)
 | [],e,xs,f,r,h=> ⟨true,r,by simp [dK],by simpa using h,by simp⟩
 |k::l,e,[],_,r,h=>by simp [dK] at h
 |k::l,e,_::_,[],r,h=>by simp [dK] at h
 |k::l,e,x::xs,y::f,r,h=>by
  simp only [List.cons_append,dK] at h
  obtain ⟨c,j,h⟩:=bind_some h
  rw [Option.map_eq_some_iff] at h
  obtain ⟨d,hd,rfl⟩:=h
  obtain ⟨a,b,n,i,rfl⟩:=rX l e xs f d hd
  exact ⟨c && a,b,by simp [dK,j,n],by simpa using i,by simp [Bool.and_assoc]⟩
theorem qg:∀ (l:List LK) (xs a:List Value) (r:Bool),dK l xs a=some r→xs.length=l.length∧a.length=l.length
 | [],[],[],_,_=> ⟨rfl,rfl⟩
 |k::l,x::xs,y::a,r,h=>by
  simp only [dK] at h
  obtain ⟨c,_,h⟩:=bind_some h
  rw [Option.map_eq_some_iff] at h
  obtain ⟨d,hd,_⟩:=h
  have:=qg l xs a d hd
  simp [this.1,this.2]
 | [],_::_,_,_,h=>by simp [dK] at h
 | [],[],_::_,_,h=>by simp [dK] at h
 |_::_,[],_,_,h=>by simp [dK] at h
 |_::_,_::_,[],_,h=>by simp [dK] at h
def vC (P:Program) (t:TypeId) (xs:List Value):Value:=match P.underlying t with
 |some (.struct _)=> .agg xs.toArray
 |_=>xs.headD undef
def GI (P:Program) (n:Nat) (t:TypeId) (lks:List LK):Prop:=
 ∀ (d:Nat) (w:World) (xs ys:List Value) (r:Bool),n≤d→dK lks xs ys=some r→(Op.equalIn d t (vC P t xs) (vC P t ys)).run P w= .ok r w
theorem uZ {t:TypeId} {lks:List LK} {n:Nat} (c:jv P n t=some lks) {i:TypeInfo} (l:P.info? t=some i) (hs:i.size=lks.length) (xs:List Value) (a:Nat) (h:a+lks.length≤xs.length) (w:World):
  (part t xs.toArray a).run P w= .ok (vC P t ((xs.drop a).take lks.length)) w:=by
 cases n with
 |zero=>simp [jv] at c
 | succ n=>
  unfold jv at c
  cases f:P.underlying t with
  |none=>simp [f] at c
  | some d=>
   have b:(isAgg t).run P w= .ok d.isRow w:=by
    unfold isAgg;rw [Sem.run_bind,run_underlying f w]
    cases d<;>simp [TypeDesc.isRow]
   cases d<;>simp only [f] at c<;>try cases c
   case struct fs=>
    simp only [TypeDesc.isRow] at b
    simp [part,b,Go.sizeOf,typeInfo,l,hs,vC,f]
   all_goals
    simp only [TypeDesc.isRow] at b
    simp only [List.length_cons,List.length_nil,Nat.zero_add] at h
    have j:xs[a]? =some (xs[a]'(by omega)):=List.getElem?_eq_getElem (by omega)
    simp only [part,Sem.run_bind,b,Result.andThen_ok,Bool.false_eq_true,if_false,vC,f]
    have e:((xs.drop a).take [LK.str].length).headD undef=xs[a]'(by omega):=by
     rw [List.headD_eq_head?_getD,List.head?_take,List.head?_drop,j];simp
    have k:(xs.toArray)[a]? =some (xs[a]'(by omega)):=by simp
    rw [k]
    first|exact congrArg (fun v=>Result.ok v w) e.symm|(simp only [List.length_cons,List.length_nil] at e ⊢;exact congrArg (fun v=>Result.ok v w) e.symm)
theorem tX {n:Nat} (u:∀ t lks,jv P n t=some lks→GI P n t lks):∀ (fs:List Field) (off:Nat) (lks:List LK),yz P (jv P n) fs off=some lks→
  ∀ (d:Nat) (w:World) (xs ys:List Value) (r:Bool),n≤d→xs.length=off+lks.length→ys.length=off+lks.length→dK lks (xs.drop off) (ys.drop off)=some r→
   (Op.eqFields d xs.toArray ys.toArray fs).run P w= .ok r w
 | [],off,lks,hc,d,w,xs,ys,r,hd,hx,hy,h=>by
  simp [yz] at hc;subst hc
  have x:xs.drop off= []:=List.drop_eq_nil_of_le (by simp at hx;omega)
  have C:ys.drop off= []:=List.drop_eq_nil_of_le (by simp at hy;omega)
  rw [x,C] at h
  simp [dK] at h;subst h
  simp [Op.eqFields]
 | f ::fs,off,lks,hc,d,w,xs,ys,r,hd,hx,hy,h=>by
  simp only [yz] at hc
  cases j:jv P n f.type with
  |none=>simp [j] at hc
  | some l=>
   simp only [j] at hc
   split at hc
   ·rename_i hcond
    simp only [Bool.and_eq_true,Bool.not_eq_true'] at hcond
    obtain ⟨⟨s,o⟩,c⟩:=hcond
    cases q:yz P (jv P n) fs (off+l.length) with
    |none=>simp [q] at hc
    | some l'=>
     simp only [q] at hc
     cases hc
     cases k:P.info? f.type with
     |none=>simp [k] at c
     |some i=>
      simp only [k] at c
      have c:=aN c
      have o:=aN o
      have p:f.name ≠ "_" :=by intro e;rw [e] at s;exact absurd s (by decide)
      simp only [List.length_append] at hx hy
      obtain ⟨a,b,y,v,rfl⟩:=rX l l' _ _ r h
      have B:=uZ j k c xs off (by omega) w
      have A:=uZ j k c ys off (by omega) w
      have D:=u f.type l j d w _ _ a hd y
      have z:=tX u fs (off+l.length) l' q d w xs ys b hd (by omega) (by omega) (by simpa [List.drop_drop,Nat.add_comm] using v)
      simp only [Op.eqFields,p,ne_eq,not_false_eq_true,if_true,Sem.run_bind,o,B,A,D,Result.andThen_ok]
      cases a
      ·simp
      ·simpa using z
   ·cases hc
theorem DV : ∀ (n:Nat) (t:TypeId) (lks:List LK),jv P n t=some lks→GI P n t lks
  |0,_,_,h=>by simp [jv] at h
  | n + 1,t,lks,h=>by
    intro d w xs l r hd b
    obtain ⟨d,rfl⟩:∃ k,d=k+1:=⟨d - 1,by omega⟩
    have j:=qg _ _ _ _ b
    unfold jv at h
    cases a:P.underlying t with
    |none=>simp [a] at h
    | some ds=>
      cases ds<;>simp only [a] at h<;>try cases h
      case struct fs=>
        split at h
        · cases h
        · rename_i p
          have i:P.fieldsOf t=fs:=by simp [Program.fieldsOf,a]
          have e:=run_equalIn_struct (P:=P) w d t xs.toArray l.toArray (by rw [i];exact a) p
          simp only [vC,a]
          rw [e,i]
          exact tX (DV n) fs.toList 0 lks h d w xs l r (by omega) (by simp [j.1]) (by simp [j.2]) (by simpa using b)
      all_goals
        simp only [List.length_cons,List.length_nil,Nat.zero_add] at j
        match xs,l,j,b with
        | [x], [y],_,b=>
          simp only [dK,Option.map_some,Bool.and_true] at b
          obtain ⟨c,f,b⟩:=bind_some b
          cases b
          simp only [vC,a,List.headD_cons]
          cases x<;>cases y<;>simp [tV] at f
          first
            | (split at f
               · rename_i o
                 simp only [Bool.and_eq_true] at o
                 obtain rfl:=fM o.1
                 obtain rfl:=fM o.2
                 cases f
                 exact run_equalIn_int (P:=P) w d t _ _ _ _ a
               · cases f)
            |(subst f;rw [run_equalIn_bool' (P:=P) w d t _ _ a])
            |(subst f;rw [run_equalIn_string (P:=P) w d t _ _ a])
end
end AM
namespace AM
open Go
section
variable {P:Program} {ap:AP} {g:dE} {m:aX} {S:aV} {w:World}
theorem afZ {d:TypeDesc} (h:jL P (some d)= .ptr):∃ e,d= .pointer e:=by cases d<;>simp [jL] at h;exact ⟨_,rfl⟩
theorem ab3 {d:TypeDesc} (h:jL P (some d)= .func):∃ a b c,d= .func a b c:=by cases d<;>simp [jL] at h;exact ⟨_,_,_,rfl⟩
theorem Ye {d:TypeDesc} (h:jL P (some d)= .iface):∃ e,d= .interface e:=by cases d<;>simp [jL] at h;exact ⟨_,rfl⟩
theorem aas {a b:LK} (h:aeH a b=true):a=b:=by
 cases a<;>cases b<;>simp [aeH] at h
 ·rw [fM h]
 ·rfl
 ·rfl
theorem EE:∀ {a b:List LK},Ht a b=true→a=b
 | [],[],_=>rfl
 |_::_,_::_,h=>by simp only [Ht,Bool.and_eq_true] at h;rw [aas h.1,EE h.2]
 | [],_::_,h=>by simp [Ht] at h
 |_::_,[],h=>by simp [Ht] at h
theorem N7 {k:LK} {a b:AV} {r:Bool} (h:NZ k a b=some r) {x y:Value} (d:VR g m S a x) (c:VR g m S b y):tV k x y=some r:=by
 unfold NZ at h
 split at h
 ·simp only [VR,PR] at d c;subst d;subst c
  split at h
  ·rename_i e;cases h;simp [tV,e]
  ·cases h
 ·simp only [VR,PR] at d c;subst d;subst c;simpa [tV] using h
 ·simp only [VR,PR] at d c;subst d;subst c
  simpa [tV,xP] using h
 ·cases h
theorem wL:∀ {ks:List LK} {f bs:List AV} {r:Bool} {xs e:List Value},kw ks f bs=some r→bi g m S f xs→bi g m S bs e→dK ks xs e=some r
 | [],[],[],r,xs,e,h,ha,hb=>by
  cases xs<;>cases e<;>simp [bi] at ha hb
  simpa [kw,dK] using h
 |k::ks,a::f,b::bs,r,x::xs,y::e,h,ha,hb=>by
  simp only [kw] at h
  obtain ⟨c,i,h⟩:=bind_some h
  rw [Option.map_eq_some_iff] at h
  obtain ⟨d,hd,rfl⟩:=h
  simp only [bi] at ha hb
  simp [dK,N7 i ha.1 hb.1,wL hd ha.2 hb.2]
 | [],_::_,_,_,_,_,h,_,_=>by simp [kw] at h
 | [],[],_::_,_,_,_,h,_,_=>by simp [kw] at h
 |_::_,[],_,_,_,_,h,_,_=>by simp [kw] at h
 |_::_,_::_,[],_,_,_,h,_,_=>by simp [kw] at h
 |_::_,_::_,_::_,_,[],_,_,ha,_=>by simp [bi] at ha
 |_::_,_::_,_::_,_,_::_,[],_,_,hb=>by simp [bi] at hb
theorem zC (c:iF P ap) {t:Nat} {b:TI} (h:ap.tyAt t=some b):b.cmp=Y9 P t∧b.lks=Hu P 8 t:=by
 have a:=c.ty t b h
 unfold Yi at a
 split at a
 ·split at a
  ·cases a;exact ⟨rfl,rfl⟩
  ·cases a
 ·cases a
theorem nK (op:BinOp) (t:TypeId) (x y:Operand) (a b:Value) (d:¬ (a= .nilIface∧b= .nilIface)) (c:∀ xs ys,¬ (a= .agg xs∧b= .agg ys)):(eqGuard op t x y a b).run P w= .ok () w:=by
 unfold eqGuard
 cases op<;>simp only [Sem.run_ite,Sem.run_pure]<;>try (simp;done)
 all_goals
  simp
  split
  ·exact absurd ⟨rfl,rfl⟩ d
  ·exact absurd ⟨rfl,rfl⟩ (c _ _)
  ·rfl
def QH (op:BinOp) (r:Bool):Bool:=match op with| .neq=> !r|_=>r
theorem CV {t:Nat} {a b:Value} {r:Bool} {x y:Operand} (c:∀ op,(eqGuard op t x y a b).run P w= .ok () w) (h:∀ d,(Op.equalIn (d+1) t a b).run P w= .ok r w)
  (h1:binOp .eql t a b=(do pure (.bool (← Op.equal t a b)))) (h2:binOp .neq t a b=(do pure (.bool (!(← Op.equal t a b))))) {op:BinOp} (hop:op=BinOp.eql∨op=BinOp.neq):
  (do eqGuard op t x y a b;binOp op t a b:Sem Value).run P w= .ok (.bool (QH op r)) w:=by
 have e:(Op.equal t a b).run P w= .ok r w:=h 9999
 rcases hop with rfl|rfl
 ·rw [Sem.run_bind,c,Result.andThen_ok,h1,Sem.run_bind,e];rfl
 ·rw [Sem.run_bind,c,Result.andThen_ok,h2,Sem.run_bind,e];rfl
theorem G_ (s:iF P ap) {t:Nat} {H:TI} (u:ap.tyAt t=some H) {a b:AV} {A G:Value} (j:VR g m S a A) (f:VR g m S b G) {r:Bool} (h:eqA H a b=some r) (I:∀ x ∈ ES a b,x=true) (x y:Operand):
  ∀ op,op=BinOp.eql∨op=BinOp.neq→(do eqGuard op t x y A G;binOp op t A G:Sem Value).run P w= .ok (.bool (QH op r)) w:=by
 obtain ⟨i,d,z,p⟩:=dO s u
 intro op k
 unfold eqA at h
 split at h
 case h_2 fs xs ys hd=>
  split at h
  ·rename_i c
   rw [(zC s u).1] at c
   rw [(zC s u).2] at h
   simp only [VR] at j f
   obtain ⟨vs,rfl,j⟩:=j
   obtain ⟨J,rfl,f⟩:=f
   have L:=wL h j f
   unfold Y9 at c
   cases F:jv P 8 t with
   |none=>simp [F] at c
   |some l=>
    simp only [F,Bool.and_eq_true,Bool.not_eq_true'] at c
    have C:=EE c.1
    rw [← C] at L
    have B:=DV 8 t l F 10000 w vs J r (by omega) L
    rw [p.d_eq] at hd
    obtain ⟨fields,rfl,_⟩:=v_ hd
    simp only [vC,p.und] at B
    have K:=run_eqGuard_agg (P:=P) w op t x y vs.toArray J.toArray c.2
    rcases k with rfl|rfl
    ·simp [K,run_eql_struct,B,QH]
    ·simp [K,run_neq_struct,B,QH]
  ·cases h
 all_goals try (cases h;done)
 all_goals
  rename_i hd
  rw [p.d_eq] at hd
  try simp only [VR,PR] at j f
 all_goals cases h
 case h_1=>
  have hd:=ab2 hd
  subst hd
  subst j;subst f
  (refine CV (fun op=> ?_) (fun v=> ?_) rfl rfl k<;>first|exact nK op t x y _ _ (by simp) (by simp)|exact run_equalIn_bool' (P:=P) w v t _ _ p.und)
 all_goals
  first
   |(obtain ⟨e,rfl⟩:=afZ hd)
   |(obtain ⟨e,rfl⟩:=Ye hd)
   |(obtain ⟨M,O,N,rfl⟩:=ab3 hd)
   |(have hd:=gI hd;subst hd)
 case h_16 xs n nn=>
  subst f
  obtain ⟨a,E,rfl,D,q⟩:=j
  rcases q with ⟨rfl,rfl,rfl,rfl,rfl⟩|⟨b,o,vs,rfl,_⟩
  ·exact absurd (I _ (by simp [ES];rfl)) (by decide)
  ·(refine CV (fun op=> ?_) (fun v=> ?_) rfl rfl k<;>first|exact nK op t x y _ _ (by simp) (by simp)|simp [Op.equalIn,run_underlying p.und])
 case h_17 xs n nn=>
  subst j
  obtain ⟨a,E,rfl,D,q⟩:=f
  rcases q with ⟨rfl,rfl,rfl,rfl,rfl⟩|⟨b,o,vs,rfl,_⟩
  ·exact absurd (I _ (by simp [ES];rfl)) (by decide)
  ·(refine CV (fun op=> ?_) (fun v=> ?_) rfl rfl k<;>first|exact nK op t x y _ _ (by simp) (by simp)|simp [Op.equalIn,run_underlying p.und])
 all_goals
  try subst j
  try subst f
  try (obtain ⟨_,_,_,⟨_,_,rfl⟩,_⟩:=j)
  try (obtain ⟨_,_,_,⟨_,_,rfl⟩,_⟩:=f)
  try (obtain ⟨_,_,_,⟨_,_,_,rfl⟩,_⟩:=j)
  try (obtain ⟨_,_,_,⟨_,_,_,rfl⟩,_⟩:=f)
  try (obtain ⟨_,_,_,rfl,_⟩:=j)
  try (obtain ⟨_,_,_,rfl,_⟩:=f)
  try (obtain ⟨_,_,rfl,_⟩:=j)
  try (obtain ⟨_,_,rfl,_⟩:=f)
  try (obtain ⟨_,rfl,_⟩:=j)
  try (obtain ⟨_,rfl,_⟩:=f)
  (refine CV (fun op=> ?_) (fun v=> ?_) rfl rfl k<;>first|exact nK op t x y _ _ (by simp) (by simp)|simp [Op.equalIn,run_underlying p.und])
end
end AM
namespace AM
open Go
section
variable {P:Program} {ap:AP} {g:dE} {m:aX} {S:aV} {w:World}
theorem NF (a b:List UInt8):(⟨a.toArray⟩:ByteArray)++⟨b.toArray⟩=⟨(a++b).toArray⟩:=by
 apply ByteArray.ext
 rw [ByteArray.data_append]
 simp
theorem NI (f:iF P ap) {t:Nat} {u:TI} (i:ap.tyAt t=some u) {a b v:AV} {l s:Value} (e:VR g m S a l) (d:VR g m S b s) {op:BinOp} {ups:List (Nat × aZ)} {bs:List Bool}
  (h:adn op u a b=some (v,ups,bs)) (hbs:∀ x ∈ bs,x=true) (x y:Operand):
  ups= []∧∃ cv,(do eqGuard op t x y l s;binOp op t l s:Sem Value).run P w= .ok cv w∧VR g m S v cv:=by
 unfold adn at h
 split at h
 ·rename_i k p A q
  simp only [VR,PR] at e d
  subst e;subst d
  have j:(eqGuard op t x y (.int k p) (.int A q)).run P w= .ok () w:=nK op t x y _ _ (by simp) (by simp)
  rw [Sem.run_bind,j,Result.andThen_ok]
  split at h
  ·obtain ⟨rfl,rfl,rfl⟩:=aS h
   have c:=of_decide_eq_true (hbs _ (List.mem_singleton.2 rfl))
   exact ⟨rfl,_,by simp [binOp,Op.shift,show ¬ q<0 by omega];rfl,by simp only [VR,PR]⟩
  ·obtain ⟨rfl,rfl,rfl⟩:=aS h
   have c:=of_decide_eq_true (hbs _ (List.mem_singleton.2 rfl))
   exact ⟨rfl,_,by simp [binOp,Op.shift,show ¬ q<0 by omega];rfl,by simp only [VR,PR]⟩
  ·split at h
   ·cases h
   ·rename_i o
    have o:=fM o
    subst o
    split at h
    all_goals try (cases h;done)
    all_goals obtain ⟨rfl,rfl,rfl⟩:=aS h
    case h_4=>
     have c:(q==0)=false:=by simpa using hbs _ (List.mem_singleton.2 rfl)
     have c:¬ q=0:=by simpa using c
     exact ⟨rfl,_,by simp [binOp,Op.intDiv,c];rfl,by simp only [VR,PR]⟩
    case h_5=>
     have c:(q==0)=false:=by simpa using hbs _ (List.mem_singleton.2 rfl)
     have c:¬ q=0:=by simpa using c
     exact ⟨rfl,_,by simp [binOp,Op.intDiv,c];rfl,by simp only [VR,PR]⟩
    all_goals exact ⟨rfl,_,by simp only [binOp,Op.intArith,Op.intBits,Op.intCmp,ne_eq,not_true_eq_false,if_false];rfl,by simp only [VR,PR];first|done|rfl⟩
 ·rename_i p q
  simp only [VR,PR] at e d
  subst e;subst d
  have j:(eqGuard op t x y (.string ⟨p.toArray⟩) (.string ⟨q.toArray⟩)).run P w= .ok () w:=nK op t x y _ _ (by simp) (by simp)
  rw [Sem.run_bind,j,Result.andThen_ok]
  split at h
  all_goals try (cases h;done)
  all_goals obtain ⟨rfl,rfl,rfl⟩:=aS h
  case h_1=>
   have c:=fP (hbs _ (List.mem_singleton.2 rfl))
   have z:¬ (IntKind.i64.max<((p.length+q.length:Nat):Int)):=by
    have:IntKind.i64.max=9223372036854775807:=by decide
    omega
   refine ⟨rfl,.string ⟨(p++q).toArray⟩, ?_,by simp only [VR,PR]⟩
   simp only [binOp,Op.stringOp,zu,gt_iff_lt,z,if_false,NF,Sem.run_pure]
  all_goals
   refine ⟨rfl,_,rfl, ?_⟩
   simp only [VR,PR,xP,yl]
 ·split at h
  ·obtain ⟨r,n,h⟩:=bind_some h
   obtain ⟨rfl,rfl,rfl⟩:=aS h
   exact ⟨rfl,_,G_ f i e d n hbs x y _ (.inl rfl),by simp only [VR,PR];rfl⟩
  ·obtain ⟨r,n,h⟩:=bind_some h
   obtain ⟨rfl,rfl,rfl⟩:=aS h
   exact ⟨rfl,_,G_ f i e d n hbs x y _ (.inr rfl),by simp only [VR,PR];rfl⟩
  ·cases h
theorem UE {x v:AV} {b:Value} (a:VR g m S x b) {op:UnOp} {ups:List (Nat × aZ)} {bs:List Bool} (h:unA op x=some (v,ups,bs)):
  ups= []∧∃ cv,(Op.unary op b).run P w= .ok cv w∧VR g m S v cv:=by
 unfold unA at h
 split at h
 ·obtain ⟨rfl,rfl,rfl⟩:=aS h
  simp only [VR,PR] at a;subst a
  exact ⟨rfl,_,rfl,by simp only [VR,PR]⟩
 ·obtain ⟨rfl,rfl,rfl⟩:=aS h
  simp only [VR,PR] at a;subst a
  exact ⟨rfl,_,rfl,by simp only [VR,PR]⟩
 ·cases h
theorem uF {f:AV→AV→Option AV} {F:Value→Value→Sem Value} (d:∀ a b c ca cb,VR g m S a ca→VR g m S b cb→f a b=some c→∃ cc,(F ca cb).run P w= .ok cc w∧VR g m S c cc):
  ∀ (l:List AV) (cl:List Value) (x v:AV) (cx:Value),bi g m S l cl→VR g m S x cx→KX f x l=some v→∃ cv,(cl.foldlM F cx).run P w= .ok cv w∧VR g m S v cv
 | [],[],x,v,cx,_,hx,h=>by simp [KX] at h;subst h;exact ⟨cx,by simp,hx⟩
 | y::r,cy::cr,x,v,cx,hl,hx,h=>by
  simp only [bi] at hl
  simp only [KX] at h
  split at h
  ·rename_i z j
   obtain ⟨n,i,e⟩:=d _ _ _ _ _ hx hl.1 j
   obtain ⟨cv,o,k⟩:=uF d r cr z v n hl.2 e h
   exact ⟨cv,by simp [List.foldlM_cons,i,o],k⟩
  ·cases h
 | [],_::_,_,_,_,hl,_,_=>by simp [bi] at hl
 |_::_,[],_,_,_,hl,_,_=>by simp [bi] at hl
theorem OD {a b c:AV} {e i:Value} (f:VR g m S a e) (d:VR g m S b i) (h:min2 a b=some c):∃ cc,(Builtin.min2 e i).run P w= .ok cc w∧VR g m S c cc:=by
 unfold min2 at h
 split at h
 ·split at h
  ·cases h
   simp only [VR,PR] at f d;subst f;subst d
   exact ⟨_,rfl,by simp only [VR,PR]⟩
  ·cases h
 ·cases h
theorem OA {a b c:AV} {e i:Value} (f:VR g m S a e) (d:VR g m S b i) (h:max2 a b=some c):∃ cc,(Builtin.max2 e i).run P w= .ok cc w∧VR g m S c cc:=by
 unfold max2 at h
 split at h
 ·split at h
  ·cases h
   simp only [VR,PR] at f d;subst f;subst d
   exact ⟨_,rfl,by simp only [VR,PR]⟩
  ·cases h
 ·cases h
theorem TF {l:List AV} {cl:List Value} (a:bi g m S l cl) {v:AV} (h:zY min2 l=some v) (b:Array TypeId) (ty:Nat):∃ cv,(Builtin.min_ b ty cl.toArray).run P w= .ok cv w∧VR g m S v cv:=by
 cases l with
 |nil=>simp [zY] at h
 | cons x r=>cases cl with
  |nil=>simp [bi] at a
  |cons cx cr=>
   simp only [bi] at a
   obtain ⟨cv,d,c⟩:=uF (P:=P) (w:=w) (F:=Builtin.min2) (fun _ _ _ _ _=>OD) r cr x v cx a.2 a.1 h
   exact ⟨cv,by simpa [Builtin.min_] using d,c⟩
theorem TC {l:List AV} {cl:List Value} (a:bi g m S l cl) {v:AV} (h:zY max2 l=some v) (b:Array TypeId) (ty:Nat):∃ cv,(Builtin.max_ b ty cl.toArray).run P w= .ok cv w∧VR g m S v cv:=by
 cases l with
 |nil=>simp [zY] at h
 | cons x r=>cases cl with
  |nil=>simp [bi] at a
  |cons cx cr=>
   simp only [bi] at a
   obtain ⟨cv,d,c⟩:=uF (P:=P) (w:=w) (F:=Builtin.max2) (fun _ _ _ _ _=>OA) r cr x v cx a.2 a.1 h
   exact ⟨cv,by simpa [Builtin.max_] using d,c⟩
end
end AM
