/- The abstract machine over the code of the model, and the proof that it is sound. No conditions. -/
import Derived.WalkKit
import Derived.Deep.AppendSrc
import Derived.Deep.MidRow
import Derived.WalkLawsBesides
set_option linter.unusedSimpArgs false
set_option linter.unusedVariables false
namespace AM
open Go
inductive AV where
 |int (k:IntKind) (n:Int)
 |bool (b:Bool)
 |str (s:List UInt8)
 |agg (l:List AV)
 |tup (l:List AV)
 |nilS
 |sl (xs:List AV) (n:Nat) (nn:Bool)
 |ref (b ver i n:Nat)
 |own (xs:List AV) (n esz:Nat)
 |ptr (b ver off:Nat)
 |pp (xs:List AV) (off:Nat)
 |mr (b ver:Nat)
 |mp (ks vs:List AV)
 |nilP
 |fn (f:Nat) (first cap:List AV)
 |nilF
 |ifc (t:Nat) (v:AV)
 |nilI
 |dead
inductive LK where
 |int (k:IntKind)
 |bool
 |str
 |sl
 |oth
inductive TD where
 |struct (fs:List (Nat × Nat × Nat))
 |array (n elem:Nat)
 |slice (elem:Nat)
 |int (k:IntKind)
 |str
 |bool
 |iface
 |ptr
 |func
 |map (k e:Nat)
 |oth
structure TI where
 d:TD
 size:Nat
 bytes:Nat
 zero:List AV
 lks:List LK
 cmp:Bool
structure AF where
 fn:Func
 keep:List Nat
 shared:Bool
inductive Tr (α:Type) where
 |nil
 |node (v:Option α) (l r:Tr α)
def Tr.get {α:Type}:Tr α→Nat→Option α
 | .nil,_=>none
 | .node v l r,n=>match Nat.beq n 0 with
  |true=>v
  |false=>match Nat.beq (n % 2) 1 with
   |true=>l.get ((n - 1) / 2)
   |false=>r.get ((n - 1) / 2)
structure AP where
 nty:Nat
 ty:Tr TI
 nfn:Nat
 fn:Tr AF
 gl:List (Option (List AV))
def je:Nat:=4611686018427387904
def Yc:List AV→Option AV
 | [.agg ks,.agg vs]=>some (.mp ks vs)
 |_=>none
structure bi where
 cells:List AV
 ver:Nat
 fro:Bool
 fz:Nat
 esz:Nat
 pr:Bool
abbrev iV:=List (Nat × AV)
abbrev Hp:=List (Nat × bi)
def aG {α:Type}:List (Nat × α)→Nat→Option α
 | [],_=>none
 |(u,x)::r,t=>match Nat.beq u t with|true=>some x|false=>aG r t
def kK {α β:Type} (f:α→Option β):List α→Option (List β)
 | []=>some []
 |x::r=>match f x with
  |some y=>match kK f r with|some l=>some (y::l)|none=>none
  |none=>none
def iV.get (e:iV) (t:Nat):AV:=(aG e t).getD .dead
def AV.cells:AV→List AV
 | .agg l=>l
 |x=> [x]
def AV.toInt:AV→Int| .int _ n=>n|_=>0
def AV.toBool:AV→Bool| .bool b=>b|_=>false
def AV.toStr:AV→List UInt8| .str s=>s|_=> []
def AV.slX:AV→List AV| .sl xs _ _=>xs|_=> []
def AV.slN:AV→Nat| .sl _ n _=>n|_=>0
def Uw:IntKind→Nat
 | .i8=>0| .i16=>1| .i32=>2| .i64=>3| .u8=>4| .u16=>5| .u32=>6| .u64=>7
def jC (a b:IntKind):Bool:=Nat.beq (Uw a) (Uw b)
def gV:LK→AV→Bool
 | .int k,.int k' _=>jC k k'
 | .bool,.bool _=>true
 | .str,.str _=>true
 | .sl,.sl _ _ _=>true
 | .sl,.nilS=>true
 | .oth,.dead=>false
 | .oth,.agg _=>false
 | .oth,.tup _=>false
 | .oth,.own _ _ _=>false
 | .oth,_=>true
 |_,_=>false
def eta:LK→AV→AV
 | .int k,c=> .int k c.toInt
 | .bool,c=> .bool c.toBool
 | .str,c=> .str c.toStr
 | .sl,c=> .sl c.slX c.slN false
 | .oth,c=>c
def nI:AV→Bool
 | .dead| .agg _| .tup _| .own _ _ _=>false
 |_=>true
mutual
def fD:AV→List Nat
 | .ref b _ _ _=> [b]
 | .ptr b _ _=> [b]
 | .mr b _=> [b]
 | .agg l=>dn l
 | .tup l=>dn l
 | .fn _ f c=>dn f++dn c
 | .ifc _ v=>fD v
 |_=> []
def dn:List AV→List Nat
 | []=> []
 |x::r=>fD x++dn r
end
mutual
def ren (ρ:Nat→Nat→Option (Nat × Nat)):AV→AV
 | .ref b v i n=>match ρ b v with|some (b',v')=> .ref b' v' i n|none=> .dead
 | .ptr b v o=>match ρ b v with|some (b',v')=> .ptr b' v' o|none=> .dead
 | .mr b v=>match ρ b v with|some (b',v')=> .mr b' v'|none=> .dead
 | .agg l=> .agg (lU ρ l)
 | .tup l=> .tup (lU ρ l)
 | .fn f a c=> .fn f (lU ρ a) (lU ρ c)
 | .ifc t v=> .ifc t (ren ρ v)
 |x=>x
def lU (ρ:Nat→Nat→Option (Nat × Nat)):List AV→List AV
 | []=> []
 |x::r=>ren ρ x::lU ρ r
end
def IM:Value→AV
 | .int k n=> .int k n
 | .bool b=> .bool b
 | .string s=> .str s.data.toList
 | .pointer a=>match a with|none=> .nilP|some _=> .dead
 | .slice a n c=>match a,n,c with|none,0,0=> .nilS|_,_,_=> .dead
 | .nilFunc=> .nilF
 | .nilIface=> .nilI
 | .map a=>match a with|none=> .mp [] []|some _=> .dead
 |_=> .dead
def DL:Value→AV
 | .agg cs=> .agg (cs.toList.map IM)
 | .tuple vs=>match vs.toList with| []=> .tup []|_=> .dead
 |v=>IM v
def AP.tyAt (ap:AP) (t:Nat):Option TI:=match Nat.blt t ap.nty with|true=>ap.ty.get t|false=>none
def AP.fnAt (ap:AP) (f:Nat):Option AF:=match Nat.blt f ap.nfn with|true=>ap.fn.get f|false=>none
def pG (l:List Nat) (a:Nat):Bool:=l.any (Nat.beq a)
def jy (l:List Nat):List Nat:=l.foldl (fun acc b=>if pG acc b then acc else acc++ [b]) []
abbrev Hg:=Option (AV × List (Nat × bi) × List Bool)
def bH (v:AV) (bs:List Bool:= []):Hg:=some (v,[],bs)
def Pq (ty:Bool):List LK→List AV→List AV
 | [],_=> []
 |k::ks,ys=>(match ty with|true=>eta k (ys.headD .dead)|false=>ys.headD .dead)::Pq ty ks ys.tail
def S9 (ty:Bool):List LK→List AV→List Bool
 | [],_=> []
 |k::ks,ys=>(match ty with|true=>gV k (ys.headD .dead)|false=>gV .oth (ys.headD .dead))::S9 ty ks ys.tail
def yt (ty:Bool) (ks:List LK) (xs:List AV) (off:Nat):List AV:=Pq ty ks (xs.drop off)
def H8 (ty:Bool) (ks:List LK) (xs:List AV) (off:Nat):List Bool:=S9 ty ks (xs.drop off)
def Iy:TD→Bool
 | .struct _=>true
 | .array _ _=>true
 |_=>false
def qC (ti:TI) (cs:List AV):Option AV:=
 match Iy ti.d with
 |true=>some (.agg cs)
 |false=>match cs with| [c]=>some c|_=>none
def Ky (ti:TI) (rd:Nat→Option bi) (p:AV):Hg:=
 match p with
 | .pp xs off=>(qC ti (yt true ti.lks xs off)).bind fun v=>bH v (H8 true ti.lks xs off)
 | .ptr b ver off=>(rd b).bind fun B=>match Nat.beq B.ver ver && !(Nat.beq B.esz je) with
  |true=>(qC ti (yt (Nat.blt 0 B.esz && B.pr) ti.lks B.cells off)).bind fun v=>bH v (H8 (Nat.blt 0 B.esz && B.pr) ti.lks B.cells off)
  |false=>none
 |_=>none
def jg (xs:List AV) (off:Nat) (vs:List AV):List AV:=xs.take off++vs++xs.drop (off+vs.length)
def Oh (ti:TI) (rd:Nat→Option bi) (p v:AV):Hg:=
 match p with
 | .ptr b ver off=>(rd b).bind fun B=>
  let vs:=v.cells
  let rs:=dn vs
  match Nat.beq B.ver ver && !B.fro && Nat.beq vs.length ti.size && vs.all nI && !(Nat.beq B.esz je) with
  |true=>some (.dead,[(b,{B with cells:=jg B.cells off vs,pr:=B.pr && rs.isEmpty})],[Nat.ble (off+vs.length) B.cells.length])
  |false=>none
 |_=>none
def jw (nid:Nat) (cells:List AV) (esz:Nat):Nat × bi:=(nid,{cells,ver:=0,fro:=false,fz:=0,esz,pr:=(dn cells).isEmpty})
def vV (cells:List AV):List (Nat × Nat × AV)→Option (List AV)
 | []=>some cells
 |(off,size,v)::r=>match Nat.beq v.cells.length size && Nat.ble (off+size) cells.length && v.cells.all nI with
  |true=>vV (jg cells off v.cells) r
  |false=>none
def MI (ap:AP) (ti:TI) (parts:List (Nat × AV)):Hg:=
 match ti.d with
 | .struct fs=>(kK (fun (q:Nat × AV)=>(fs[q.1]?).map fun (x:Nat × Nat × Nat)=>(x.1,x.2.2,q.2)) parts).bind fun ps=>(vV ti.zero ps).bind fun cs=>bH (.agg cs)
 | .array _ e=>(ap.tyAt e).bind fun te=>(vV ti.zero (parts.map fun (i,v)=>(i*te.size,te.size,v))).bind fun cs=>bH (.agg cs)
 |_=>none
def iU (n:Nat) (z:List AV):List AV:=(List.replicate n z).flatten
def sZ (ap:AP) (nid:Nat) (ti:TI) (len:Nat) (parts:List (Nat × AV)):Hg:=
 match ti.d with
 | .slice e=>(ap.tyAt e).bind fun te=>
  match Nat.blt 0 te.size && Nat.ble (len*te.size) (2^24) && Nat.beq te.zero.length te.size with
  |true=>(vV (iU len te.zero) (parts.map fun (i,v)=>(i*te.size,te.size,v))).bind fun cs=>
   some (.ref nid 0 0 len,[jw nid cs te.size],[])
  |false=>none
 |_=>none
def U5 (p:AV) (o:Nat):Option AV:=
 match p with
 | .ptr b v off=>some (.ptr b v (off+o))
 | .pp xs off=>some (.pp xs (off+o))
 |_=>none
def OY (v:AV):Option Int:=match v with| .int _ n=>some n|_=>none
def wP (ap:AP) (ti:TI) (rd:Nat→Option bi) (x i:AV):Hg:=
 (OY i).bind fun i=>
 match ti.d with
 | .slice e=>(ap.tyAt e).bind fun te=>
  match x with
  | .sl xs n _=>bH (.pp xs (i.toNat*te.size)) [decide (0≤i),decide (i<n)]
  | .ref b ver j n=>(rd b).bind fun B=>match Nat.beq B.ver ver && Nat.beq B.esz te.size with
   |true=>bH (.ptr b ver ((j+i.toNat)*te.size)) [decide (0≤i),decide (i<n)]
   |false=>none
  |_=>none
 | .array n e=>(ap.tyAt e).bind fun te=>(U5 x (i.toNat*te.size)).bind fun p=>bH p [decide (0≤i),decide (i<n)]
 |_=>none
def Nk (ap:AP) (ti:TI) (x i:AV):Hg:=
 (OY i).bind fun i=>
 match ti.d,x with
 | .str,.str s=>bH (.int .u8 (s.getD i.toNat 0).toNat) [decide (0≤i),decide (i<s.length)]
 | .array n e,.agg cs=>(ap.tyAt e).bind fun te=>
  (qC te (yt true te.lks cs (i.toNat*te.size))).bind fun v=>bH v (decide (0≤i)::decide (i<n)::H8 true te.lks cs (i.toNat*te.size))
 |_,_=>none
def nN (v:Option AV) (d:Int):Option Int:=match v with|none=>some d|some (.int _ n)=>some n|some _=>none
def Oc (ap:AP) (ti:TI) (rd:Nat→Option bi) (x:AV) (lo hi mx:Option AV):Hg:=
 match ti.d,x,mx with
 | .str,.str s,none=>(nN lo 0).bind fun l=>(nN hi s.length).bind fun h=>
   bH (.str ((s.take h.toNat).drop l.toNat)) [decide (0≤l),decide (l≤h),decide (h≤s.length)]
 | .slice e,.sl xs n nn,none=>(ap.tyAt e).bind fun te=>(nN lo 0).bind fun l=>(nN hi n).bind fun h=>
   bH (.sl ((xs.take (h.toNat*te.size)).drop (l.toNat*te.size)) (h.toNat - l.toNat) nn) [decide (0≤l),decide (l≤h),decide (h≤n)]
 | .slice e,.ref b ver j n,none=>(ap.tyAt e).bind fun te=>(rd b).bind fun B=>(nN lo 0).bind fun l=>(nN hi n).bind fun h=>
   match Nat.beq B.ver ver && Nat.beq B.esz te.size with
   |true=>bH (.ref b ver (j+l.toNat) (h.toNat - l.toNat)) [decide (0≤l),decide (l≤h),decide (h≤n)]
   |false=>none
 | .slice e,.nilS,none=>(ap.tyAt e).bind fun _=>(nN lo 0).bind fun l=>(nN hi 0).bind fun h=>bH .nilS [decide (l=0),decide (h=0)]
 |_,_,_=>none
def Uy (d:TD) (x:AV):Hg:=
 match d,x with
 | .array n _,_=>bH (.int .i64 n)
 | .str,.str s=>bH (.int .i64 s.length)
 | .slice _,.sl _ n _=>bH (.int .i64 n)
 | .slice _,.ref _ _ _ n=>bH (.int .i64 n)
 | .slice _,.nilS=>bH (.int .i64 0)
 |_,_=>none
def Le (size:Nat) (rd:Nat→Option bi) (x:AV):Option (List AV × Nat × Bool):=
 match x with
 | .sl xs n _=>some (xs,n,true)
 | .nilS=>some ([],0,true)
 | .str s=>some (s.map fun b=> .int .u8 b.toNat,s.length,true)
 | .ref b ver j n=>(rd b).bind fun B=>match Nat.beq B.ver ver && Nat.beq B.esz size && !(Nat.beq B.esz je) with
  |true=>some ((B.cells.drop (j*size)).take (n*size),n,B.pr)
  |false=>none
 |_=>none
def GX:Nat:=2^40
def xw (nid:Nat) (te:TI) (rd:Nat→Option bi) (em:Bool) (s x:AV):Hg:=
 (Le te.size rd x).bind fun (xs,n,pr)=>
 match Nat.blt 0 te.size && Nat.ble te.bytes 128 with
 |false=>none
 |true=>
 match s with
 | .nilS=>match em with
  |true=>bH .nilS [Nat.beq xs.length (n*te.size)]
  |false=>some (.ref nid 0 0 n,[(nid,⟨xs,0,false,0,te.size,pr⟩)],[Nat.beq xs.length (n*te.size),Nat.ble n GX])
 | .ref b ver 0 m=>(rd b).bind fun B=>match Nat.beq B.ver ver && Nat.beq B.esz te.size && !(Nat.beq B.esz je) with
  | true=>some (.ref b (ver+1) 0 (m+n),[(b,{B with cells:=B.cells.take (m*te.size)++xs,ver:=ver+1,pr:=B.pr && pr})],
    [Nat.beq xs.length (n*te.size),Nat.ble (m+n) GX,Nat.ble (m*te.size) B.cells.length, !B.fro||Nat.ble B.fz (m*te.size)])
  |false=>none
 |_=>none
def wJ:AV→Option Nat
 | .sl _ n _=>some n
 | .nilS=>some 0
 | .str s=>some s.length
 | .ref _ _ _ n=>some n
 |_=>none
def xN (ρ:Operand→AV) (o:Op):Option Nat:=
 match o with
 | .call {callee:= .builtin .append,args,..}=>match args.toList with
  | [s,x]=>match ρ s with
   | .nilS=>wJ (ρ x)
   |_=>none
  |_=>none
 |_=>none
def wR (ap:AP) (nid:Nat) (ti:TI) (l c:AV):Hg:=
 match ti.d,l,c with
 | .slice e,.int _ l,.int _ c=>(ap.tyAt e).bind fun te=>
  match Nat.blt 0 te.size && Nat.beq te.zero.length te.size && Nat.ble te.bytes 128 && (dn te.zero).isEmpty with
  |true=>some (.ref nid 0 0 l.toNat,[(nid,⟨iU l.toNat te.zero,0,false,0,te.size,true⟩)],[decide (0≤l),decide (l=c),decide (l≤2^40)])
  |false=>none
 |_,_,_=>none
def Cf (ap:AP) (ts td:TI) (rd:Nat→Option bi) (x:AV):Hg:=
 match ts.d,td.d,x with
 |_,.int k,.int _ n=>bH (.int k (k.wrap n))
 | .str,.str,.str s=>bH (.str s)
 | .slice e,.str,x=>(ap.tyAt e).bind fun te=>match te.d,x with
  | .int .u8,.str _=>none
  | .int .u8,x=>(Le 1 rd x).bind fun (xs,n,_)=>bH (.str (xs.map fun c=>UInt8.ofNat c.toInt.toNat)) [Nat.beq xs.length n,xs.all (gV (.int .u8))]
  |_,_=>none
 |_,_,_=>none
def MR:LK→AV→AV→Option Bool
 | .int k,.int k1 a,.int k2 b=>match jC k k1 && jC k k2 with|true=>some (a==b)|false=>none
 | .bool,.bool a,.bool b=>some (a==b)
 | .str,.str a,.str b=>some (a==b)
 |_,_,_=>none
def kS:List LK→List AV→List AV→Option Bool
 | [],[],[]=>some true
 |k::ks,a::as,b::bs=>(MR k a b).bind fun c=>(kS ks as bs).map fun d=>c && d
 |_,_,_=>none
def eqA (ti:TI) (a b:AV):Option Bool:=
 match ti.d,a,b with
 | .bool,.bool a,.bool b=>some (a==b)
 | .struct _,.agg xs,.agg ys=>match ti.cmp with|true=>kS ti.lks xs ys|false=>none
 | .ptr,.nilP,.nilP=>some true
 | .ptr,.nilP,.ptr _ _ _=>some false
 | .ptr,.nilP,.pp _ _=>some false
 | .ptr,.ptr _ _ _,.nilP=>some false
 | .ptr,.pp _ _,.nilP=>some false
 | .iface,.nilI,.ifc _ _=>some false
 | .iface,.ifc _ _,.nilI=>some false
 | .func,.nilF,.nilF=>some true
 | .func,.nilF,.fn _ _ _=>some false
 | .func,.fn _ _ _,.nilF=>some false
 | .slice _,.nilS,.nilS=>some true
 | .slice _,.ref _ _ _ _,.nilS=>some false
 | .slice _,.nilS,.ref _ _ _ _=>some false
 | .slice _,.sl _ _ _,.nilS=>some false
 | .slice _,.nilS,.sl _ _ _=>some false
 |_,_,_=>none
def DJ (a b:AV):List Bool:=
 match a,b with
 | .sl _ n false,.nilS=> [Nat.blt 0 n]
 | .nilS,.sl _ n false=> [Nat.blt 0 n]
 |_,_=> []
def iM:List UInt8→List UInt8→Bool
 |_,[]=>false
 | [],_::_=>true
 |a::x,b::y=>decide (a<b)||(a==b && iM x y)
def aaN (op:BinOp) (ti:TI) (x y:AV):Hg:=
 match x,y with
 | .int k a,.int k' b=>
  match op with
  | .shl=>bH (.int k (k.wrap (a*2^(min b.toNat k.bits)))) [decide (0≤b)]
  | .shr=>bH (.int k (a.fdiv (2^(min b.toNat k.bits)))) [decide (0≤b)]
  | _=>match jC k k' with
   |false=>none
   |true=>match op with
    | .add=>bH (.int k (k.wrap (a+b)))
    | .sub=>bH (.int k (k.wrap (a - b)))
    | .mul=>bH (.int k (k.wrap (a*b)))
    | .quo=>bH (.int k (k.wrap (a.tdiv b))) [!(b==0)]
    | .rem=>bH (.int k (a.tmod b)) [!(b==0)]
    | .and=>bH (.int k (k.wrap (BitVec.ofInt k.bits a &&& BitVec.ofInt k.bits b).toNat))
    | .or=>bH (.int k (k.wrap (BitVec.ofInt k.bits a|||BitVec.ofInt k.bits b).toNat))
    | .xor=>bH (.int k (k.wrap (BitVec.ofInt k.bits a^^^BitVec.ofInt k.bits b).toNat))
    | .eql=>bH (.bool (a==b))
    | .neq=>bH (.bool (!(a==b)))
    | .lss=>bH (.bool (decide (a<b)))
    | .leq=>bH (.bool (decide (a≤b)))
    | .gtr=>bH (.bool (decide (b<a)))
    | .geq=>bH (.bool (decide (b≤a)))
    |_=>none
 | .str a,.str b=>
  match op with
  | .add=>bH (.str (a++b)) [Nat.ble (a.length+b.length) 9223372036854775807]
  | .eql=>bH (.bool (a==b))
  | .neq=>bH (.bool (!(a==b)))
  | .lss=>bH (.bool (iM a b))
  | .leq=>bH (.bool (iM a b||a==b))
  | .gtr=>bH (.bool (!(iM a b||a==b)))
  | .geq=>bH (.bool (!iM a b))
  |_=>none
 |x,y=>
  match op with
  | .eql=>(eqA ti x y).bind fun b=>bH (.bool b) (DJ x y)
  | .neq=>(eqA ti x y).bind fun b=>bH (.bool (!b)) (DJ x y)
  |_=>none
def unA (op:UnOp) (x:AV):Hg:=
 match op,x with
 | .not,.bool b=>bH (.bool (!b))
 | .neg,.int k n=>bH (.int k (k.wrap (0 - n)))
 |_,_=>none
def min2 (a b:AV):Option AV:=match a,b with| .int k x,.int k' y=>(match jC k k' with|true=>some (.int k (if y<x then y else x))|false=>none)|_,_=>none
def max2 (a b:AV):Option AV:=match a,b with| .int k x,.int k' y=>(match jC k k' with|true=>some (.int k (if y>x then y else x))|false=>none)|_,_=>none
def J3 (f:AV→AV→Option AV):AV→List AV→Option AV
 |x,[]=>some x
 |x,y::r=>match f x y with|some z=>J3 f z r|none=>none
def yQ (f:AV→AV→Option AV):List AV→Option AV
 | []=>none
 |x::r=>J3 f x r
def Hy (ap:AP) (x:AV) (asserted:Nat) (commaOk:Bool):Hg:=
 (ap.tyAt asserted).bind fun ti=>
 match ti.d with
 | .iface=>none
 | _=>match x with
  | .ifc t v=>match Nat.beq t asserted with
   |true=>bH (match commaOk with|true=> .tup [v,.bool true]|false=>v)
   |false=>match commaOk with|true=>(qC ti ti.zero).bind fun z=>bH (.tup [z,.bool false])|false=>none
  | .nilI=>match commaOk with|true=>(qC ti ti.zero).bind fun z=>bH (.tup [z,.bool false])|false=>none
  |_=>none
def Nb (ap:AP) (ti:TI) (x:AV) (f:Nat):Hg:=
 match ti.d,x with
 | .struct fs,.agg cs=>(fs[f]?).bind fun (o,t,_)=>(ap.tyAt t).bind fun tf=>
  (qC tf (yt false tf.lks cs o)).bind fun v=>bH v (H8 false tf.lks cs o)
 |_,_=>none
def xy:AV→List Nat
 | .ref b _ _ _=> [b]
 | .ptr b _ _=> [b]
 | .mr b _=> [b]
 |_=> []
def Vh (ρ:Operand→AV):Op→List Nat
 | .load _ a=>xy (ρ a)
 | .store _ a _=>xy (ρ a)
 | .indexAddr _ x _=>xy (ρ x)
 | .slice _ x _ _ _=>xy (ρ x)
 | .convert _ _ x=>xy (ρ x)
 | .lookup _ x _ _=>xy (ρ x)
 | .mapUpdate _ x _ _=>xy (ρ x)
 | .insert _ x _ _=>xy (ρ x)
 | .call {callee:= .builtin .append,args,..}=>jy (args.toList.flatMap fun x=>xy (ρ x))
 |_=> []
def oP:TD→AV→Bool
 | .int k,.int k' _=>jC k k'
 | .bool,.bool _=>true
 | .str,.str _=>true
 |_,_=>false
def Xr:AV→AV→Bool
 | .int _ a,.int _ b=>a==b
 | .bool a,.bool b=>a==b
 | .str a,.str b=>a==b
 |_,_=>false
def xQ:List AV→List AV→AV→Option AV
 |k0::ks,v0::vs,k=>match Xr k k0 with|true=>some v0|false=>xQ ks vs k
 |_,_,_=>none
def IX (ks:List AV) (k:AV):List AV:=match ks.any (Xr k) with|true=>ks|false=>ks++ [k]
def vH:List AV→List AV→AV→AV→List AV
 |k0::ks,v0::vs,k,v=>match Xr k k0 with|true=>v::vs|false=>v0::vH ks vs k v
 |_,_,_,v=> [v]
def UG (rd:Nat→Option bi) (x:AV):Option (List AV × List AV):=
 match x with
 | .mp ks vs=>some (ks,vs)
 | .mr b ver=>(rd b).bind fun B=>match Nat.beq B.ver ver && Nat.beq B.esz je with
  |true=>match B.cells with| [.agg ks,.agg vs]=>some (ks,vs)|_=>none
  |false=>none
 |_=>none
def Kv (ok:Bool) (o:Option AV) (z:AV):AV:=match ok with|true=> .tup [o.getD z,.bool o.isSome]|false=>o.getD z
def IB (ap:AP) (ti:TI) (rd:Nat→Option bi) (x k:AV) (ok:Bool):Hg:=
 match ti.d with
 | .map kt et=>(ap.tyAt kt).bind fun tk=>(ap.tyAt et).bind fun te=>(UG rd x).bind fun q=>(qC te te.zero).bind fun z=>
   bH (Kv ok (xQ q.1 q.2 k) z) [oP tk.d k,q.1.all (oP tk.d)]
 |_=>none
def Bv (ap:AP) (ti:TI) (rd:Nat→Option bi) (x k v:AV):Hg:=
 match ti.d,x with
 | .map kt _,.mr b ver=>(ap.tyAt kt).bind fun tk=>(rd b).bind fun B=>match Nat.beq B.ver ver && Nat.beq B.esz je && !B.fro with
  |true=>match B.cells with
   | [.agg ks,.agg vs]=>some (.dead,[(b,{B with cells:= [.agg (IX ks k),.agg (vH ks vs k v)],pr:=B.pr && (fD v).isEmpty})],[oP tk.d k,ks.all (oP tk.d)])
   |_=>none
  |false=>none
 |_,_=>none
def opA (ap:AP) (nid:Nat) (ρ:Operand→AV) (rd:Nat→Option bi) (dec:Operand→Option Bool) (em:Bool) (o:Op):Hg:=
 match o with
 | .move x=>bH (ρ x)
 | .assign x=>bH (ρ x)
 | .pick c a b=>match dec c with
  |some true=>bH (ρ a)
  |some false=>bH (ρ b)
  |none=>match ρ c,ρ a,ρ b with| .bool c,.bool x,.bool y=>bH (.bool (cond c x y))|_,_,_=>none
 | .alloc e=>(ap.tyAt e).bind fun te=>match Nat.blt 0 te.size && te.zero.all nI with|true=>some (.ptr nid 0 0,[jw nid te.zero 0],[])|false=>none
 | .box e x=>(ap.tyAt e).bind fun te=>let vs:=(ρ x).cells
  match Nat.blt 0 te.size && vs.all nI with|true=>some (.ptr nid 0 0,[jw nid vs 0],[])|false=>none
 | .build t parts=>(ap.tyAt t).bind fun ti=>MI ap ti (parts.toList.map fun (i,x)=>(i,ρ x))
 | .buildSlice t len parts=>(ap.tyAt t).bind fun ti=>sZ ap nid ti len (parts.toList.map fun (i,x)=>(i,ρ x))
 | .load t a=>(ap.tyAt t).bind fun ti=>Ky ti rd (ρ a)
 | .store t a x=>(ap.tyAt t).bind fun ti=>Oh ti rd (ρ a) (ρ x)
 | .makeMap _ r=>match r with|none=>some (.mr nid 0,[(nid,⟨[.agg [],.agg []],0,false,0,je,true⟩)],[])|some _=>none
 | .lookup t x k ok=>(ap.tyAt t).bind fun ti=>IB ap ti rd (ρ x) (ρ k) ok
 | .mapUpdate t x k v=>(ap.tyAt t).bind fun ti=>Bv ap ti rd (ρ x) (ρ k) (ρ v)
 | .insert t x k v=>(ap.tyAt t).bind fun ti=>Bv ap ti rd (ρ x) (ρ k) (ρ v)
 | .nilCheck x=>match ρ x with
  | .ptr b v o=>bH (.ptr b v o)
  | .pp xs o=>bH (.pp xs o)
  | .fn f a c=>bH (.fn f a c)
  |_=>none
 | .binOp op t x y _=>(ap.tyAt t).bind fun ti=>aaN op ti (ρ x) (ρ y)
 | .unOp op _ x=>unA op (ρ x)
 | .convert s d x=>(ap.tyAt s).bind fun ts=>(ap.tyAt d).bind fun td=>Cf ap ts td rd (ρ x)
 | .makeInterface t x=>(ap.tyAt t).bind fun ti=>match ti.d with| .iface=>none|_=>bH (.ifc t (ρ x))
 | .makeFunc (.func f) first cap=>bH (.fn f (first.toList.map ρ) (cap.toList.map ρ))
 | .makeSlice t l c=>(ap.tyAt t).bind fun ti=>wR ap nid ti (ρ l) (ρ c)
 | .slice t x lo hi mx=>(ap.tyAt t).bind fun ti=>Oc ap ti rd (ρ x) (lo.map ρ) (hi.map ρ) (mx.map ρ)
 | .fieldAddr s x f=>(ap.tyAt s).bind fun ti=>match ti.d with
  | .struct fs=>(fs[f]?).bind fun (o,_,sz)=>match Nat.blt 0 sz with|true=>(U5 (ρ x) o).bind fun p=>bH p|false=>none
  |_=>none
 | .field t x f=>(ap.tyAt t).bind fun ti=>Nb ap ti (ρ x) f
 | .indexAddr t x i=>(ap.tyAt t).bind fun ti=>wP ap ti rd (ρ x) (ρ i)
 | .index t x i=>(ap.tyAt t).bind fun ti=>Nk ap ti (ρ x) (ρ i)
 | .typeAssert x _ asserted ok=>Hy ap (ρ x) asserted ok
 | .extract t i=>match ρ t with| .tup l=>(l[i]?).bind fun v=>bH v|_=>none
 | .call {callee:= .builtin b,args,argTypes}=>
  match b with
  | .len=>(args[0]?).bind fun x=>(argTypes[0]?).bind fun t=>(ap.tyAt t).bind fun ti=>Uy ti.d (ρ x)
  | .append=>match args.toList,argTypes.toList with
   | [s,x],[t,t1]=>(ap.tyAt t).bind fun ti=>(ap.tyAt t1).bind fun ti1=>match ti.d,ti1.d,ρ x with
    | .slice e,.str,.str y=>(ap.tyAt e).bind fun te=>match Nat.beq te.size 1 with|true=>xw nid te rd em (ρ s) (.str y)|false=>none
    | .slice _,.slice _,.str _=>none
    | .slice e,.slice _,y=>(ap.tyAt e).bind fun te=>xw nid te rd em (ρ s) y
    |_,_,_=>none
   |_,_=>none
  | .min=>(yQ min2 (args.toList.map ρ)).bind fun v=>bH v
  | .max=>(yQ max2 (args.toList.map ρ)).bind fun v=>bH v
  |_=>none
 |_=>none
def Gt (P:Program):Nat→TypeId→List LK
 |0,_=> [.oth]
 |n+1,t=>match P.underlying t with
  |some (.int k)=> [.int k]
  |some .bool=> [.bool]
  |some .string=> [.str]
  |some (.slice _)=> [.sl]
  |some (.struct fs)=>fs.toList.flatMap fun f=>Gt P n f.type
  |some (.array m e)=>(List.replicate m (Gt P n e)).flatten
  |_=> [.oth]
def jI (P:Program):Option TypeDesc→TD
 |some (.int k)=> .int k
 |some .bool=> .bool
 |some .string=> .str
 |some (.slice e)=> .slice e
 |some (.array n e)=> .array n e
 |some (.struct fs)=> .struct (fs.toList.map fun f=>(f.offset,f.type,match P.info? f.type with|some i=>i.size|none=>0))
 |some (.interface _)=> .iface
 |some (.pointer _)=> .ptr
 |some (.func _ _ _)=> .func
 |some (.map k e)=> .map k e
 |_=> .oth
def FZ (P:Program) (f:TypeId→Option (List LK)):List Field→Nat→Option (List LK)
 | [],_=>some []
 | x::r,off=>match f x.type with
  |some l=>match !(x.name== "_") && Nat.beq x.offset off && (match P.info? x.type with|some i=>Nat.beq i.size l.length|none=>false) with
   |true=>match FZ P f r (off+l.length) with|some l'=>some (l++l')|none=>none
   |false=>none
  |none=>none
def qg (P:Program):Nat→TypeId→Option (List LK)
 |0,_=>none
 |n+1,t=>match P.underlying t with
  |some (.int k)=>some [.int k]
  |some .bool=>some [.bool]
  |some .string=>some [.str]
  |some (.struct fs)=>match P.stoodInHeld t with|true=>none|false=>FZ P (qg P n) fs.toList 0
  |_=>none
def ado (i:TypeInfo) (d:TypeDesc):Bool:=match i.zero,d with
 |some (.agg _),.struct _=>true
 |some (.agg _),.array _ _=>true
 |some (.agg _),_=>false
 |some _,.struct _=>false
 |some _,.array _ _=>false
 |some _,_=>true
 |none,_=>false
def TY (P:Program) (d:TypeDesc):Bool:=match d with
 | .struct fs=>fs.toList.all fun f=>(P.info? f.type).isSome
 |_=>true
def EO (i:TypeInfo):List AV:=match i.zero with|some z=>z.cells.toList.map DL|none=> []
def abH:LK→LK→Bool
 | .int a,.int b=>jC a b
 | .bool,.bool=>true
 | .str,.str=>true
 |_,_=>false
def Gs:List LK→List LK→Bool
 | [],[]=>true
 |a::r,b::q=>abH a b && Gs r q
 |_,_=>false
def aa8 (P:Program) (t:TypeId):Bool:=match qg P 8 t with|some l=>Gs l (Gt P 8 t) && !P.eqGuardType P.depth t|none=>false
def VU (P:Program) (t:TypeId):Option TI:=
 match P.info? t,P.underlying t with
 |some i,some d=>
  match Nat.beq (Gt P 8 t).length i.size && (ado i d && TY P d) && (EO i).all nI && Nat.beq (EO i).length i.size && Nat.blt 0 i.size && i.zero.isSome && Nat.blt i.size je with
  |true=>some {d:=jI P (some d),size:=i.size,bytes:=i.bytes,zero:=EO i,lks:=Gt P 8 t,cmp:=aa8 P t}
  |false=>none
 |_,_=>none
abbrev aW:=Nat→Nat→Option Value
def mi (S S':aW):Prop:=∀ k o v,S k o=some v→S' k o=some v
theorem mi.refl (S:aW):mi S S:=fun _ _ _ h=>h
theorem mi.trans {S S' S'':aW} (h:mi S S') (a:mi S' S''):mi S S'':=fun k o v e=>a k o v (h k o v e)
def kP (S:aW) (b o:Nat) (vs:List Value):Prop:=∀ j u,vs[j]? =some u→S b (o+j)=some u∧u.oneCell'=true
mutual
def PR (S:aW):AV→Value→Prop
 | .int k n,v=>v= .int k n
 | .bool b,v=>v= .bool b
 | .str s,v=>v= .string ⟨s.toArray⟩
 | .agg l,v=> ∃ vs,v= .agg vs.toArray∧dK S l vs
 | .tup l,v=> ∃ vs,v= .tuple vs.toArray∧dK S l vs
 | .nilS,v=>v= .slice none 0 0
 | .sl xs n nn,v=> ∃ a cap,v= .slice a n cap∧n≤cap∧((a=none∧nn=false∧xs= []∧n=0∧cap=0)∨∃ b o vs,a=some ⟨b,o,none⟩∧dK S xs vs∧kP S b o vs)
 | .pp xs off,v=> ∃ b o vs,v= .pointer (some ⟨b,o+off,none⟩)∧dK S xs vs∧kP S b o vs
 | .mp ks vs,v=>(v= .map none∧ks= []∧vs= [])∨∃ b kk vv,v= .map (some b)∧S b 0=some (.agg kk.toArray)∧S b 1=some (.agg vv.toArray)∧dK S ks kk∧dK S vs vv
 | .nilP,v=>v= .pointer none
 | .fn f a c,v=> ∃ va vc,v= .func (.func f) va.toArray vc.toArray∧dK S a va∧dK S c vc
 | .nilF,v=>v= .nilFunc
 | .ifc t x,v=> ∃ u,v= .iface t u∧PR S x u
 | .nilI,v=>v= .nilIface
 | .dead,_=>True
 | .ref _ _ _ _,_=>False
 | .ptr _ _ _,_=>False
 | .mr _ _,_=>False
 | .own _ _ _,_=>False
def dK (S:aW):List AV→List Value→Prop
 | [],[]=>True
 |x::r,v::vs=>PR S x v∧dK S r vs
 |_,_=>False
end
abbrev dR:=Nat→Option bi
abbrev bf:=Nat→Nat × Nat
mutual
def VR (g:dR) (m:bf) (S:aW):AV→Value→Prop
 | .ref b ver i n,v=> ∃ B,g b=some B∧ver≤B.ver∧(∃ k o c',v= .slice (some ⟨k,o,none⟩) n c')∧(B.ver=ver→∃ o,v= .slice (some ⟨(m b).1,o,none⟩) n ((m b).2 - i)∧i+n≤(m b).2∧(i<(m b).2→o=i*B.esz)∧0<B.esz∧B.esz ≠ je)
 | .ptr b ver off,v=> ∃ B,g b=some B∧ver≤B.ver∧(∃ k o,v= .pointer (some ⟨k,o,none⟩))∧(B.ver=ver→v= .pointer (some ⟨(m b).1,off,none⟩))
 | .mr b ver,v=> ∃ B,g b=some B∧ver≤B.ver∧(∃ k,v= .map (some k))∧(B.ver=ver→v= .map (some (m b).1))
 | .agg l,v=> ∃ vs,v= .agg vs.toArray∧bF g m S l vs
 | .tup l,v=> ∃ vs,v= .tuple vs.toArray∧bF g m S l vs
 | .fn f a c,v=> ∃ va vc,v= .func (.func f) va.toArray vc.toArray∧bF g m S a va∧bF g m S c vc
 | .ifc t x,v=> ∃ u,v= .iface t u∧VR g m S x u
 | .int k n,v=>PR S (.int k n) v
 | .bool b,v=>PR S (.bool b) v
 | .str s,v=>PR S (.str s) v
 | .nilS,v=>PR S .nilS v
 | .sl xs n nn,v=>PR S (.sl xs n nn) v
 | .pp xs off,v=>PR S (.pp xs off) v
 | .mp ks vs,v=>PR S (.mp ks vs) v
 | .nilP,v=>PR S .nilP v
 | .nilF,v=>PR S .nilF v
 | .nilI,v=>PR S .nilI v
 | .dead,_=>True
 | .own _ _ _,_=>False
def bF (g:dR) (m:bf) (S:aW):List AV→List Value→Prop
 | [],[]=>True
 |x::r,v::vs=>VR g m S x v∧bF g m S r vs
 |_,_=>False
end
def aZ (x y:AV):Prop:=∀ g m S v,VR g m S x v→VR g m S y v
inductive vz where
 |v (d:Nat) (x:AV)
 |b (d:Nat) (xs:List AV)
 |u (d:Nat)
inductive kM where
 |ret (v:AV)
 |pan (v:AV)
structure Cx where
 cl:Bool
 orc:List Bool
 bs:List Bool
 ps:List Prop
 ans:List (kM × List bi)
 hs:List vz
inductive R (α:Type) where
 |ok (a:α) (c:Cx)
 |need
 |bad (n:Nat)
def R.bind {α β:Type} (r:R α) (f:α→Cx→R β):R β:=
 match r with
 | .ok a c=>f a c
 | .need=> .need
 | .bad n=> .bad n
def lit (o b:Bool):Bool:=match o with|true=>b|false=> !b
def Xq (c:Cx) (bs:List Bool):R Unit:=
 match c.cl with
 |true=>match bs.all id with|true=> .ok () c|false=> .bad 1
 |false=> .ok () {c with bs:=bs++c.bs}
def yM (c:Cx) (b:Bool):R Bool:=
 match c.cl with
 |true=> .ok b c
 |false=>match c.orc with
  | []=> .need
  |o::r=> .ok o {c with orc:=r,bs:=lit o b::c.bs}
def CY (c:Cx) (dst:Option Nat) (v:AV):AV × Cx:=
 match c.hs,dst with
 | .v d x::r,some d'=>match Nat.beq d d' with
  |true=>(x,{c with hs:=r,ps:=aZ v x::c.ps})
  |false=>(v,c)
 |_,_=>(v,c)
def CX (c:Cx) (dst:Option Nat) (ups:List (Nat × bi)):List (Nat × bi) × Cx:=
 match c.hs,dst,ups with
 | .b d xs::r,some d',[(b,B)]=>match Nat.beq d d' with
  |true=>([(b,{B with cells:=xs})],{c with hs:=r,ps:=(B.cells=xs)::c.ps})
  |false=>(ups,c)
 |_,_,_=>(ups,c)
def OW (c:Cx) (dst:Option Nat):Bool × Cx:=
 match c.hs,dst with
 | .u d::r,some d'=>match Nat.beq d d' with
  |true=>(true,{c with hs:=r})
  |false=>(false,c)
 |_,_=>(false,c)
abbrev di:=Cx→AV→Nat→List AV→List bi→R (kM × List bi × AV)
def sN (rd:Nat→Option bi):Nat→List Nat→List Nat
 |0,l=>l
 |n+1,l=>
  let more:=l.flatMap fun b=>match rd b with|some B=>(match B.pr with|true=> []|false=>dn B.cells)|none=> []
  let l':=more.foldl (fun acc b=>if pG acc b then acc else acc++ [b]) l
  match Nat.beq l'.length l.length with|true=>l|false=>sN rd n l'
def frz (rd:Nat→Option bi):Nat→AV→Option AV
 |0,_=>none
 | fuel+1,x=>
  let frzL (l:List AV):Option (List AV):=kK (frz rd fuel) l
  match x with
  | .ref b ver i n=>(rd b).bind fun B=>match Nat.beq B.ver ver with
   |true=>match B.pr with
    |true=>some (.sl ((B.cells.drop (i*B.esz)).take (n*B.esz)) n true)
    |false=>(frzL ((B.cells.drop (i*B.esz)).take (n*B.esz))).map fun l=> .sl l n true
   |false=>none
  | .ptr b ver off=>(rd b).bind fun B=>match Nat.beq B.ver ver && !(Nat.beq B.esz je) with
   |true=>match B.pr with
    |true=>some (.pp B.cells off)
    |false=>(frzL B.cells).map fun l=> .pp l off
   |false=>none
  | .mr b ver=>(rd b).bind fun B=>match Nat.beq B.ver ver && Nat.beq B.esz je with
   |true=>match B.pr with
    |true=>Yc B.cells
    |false=>(frzL B.cells).bind Yc
   |false=>none
  | .agg l=>(frzL l).map .agg
  | .tup l=>(frzL l).map .tup
  | .fn f a c=>(frzL a).bind fun a=>(frzL c).map fun c=> .fn f a c
  | .ifc t v=>(frz rd fuel v).map (.ifc t)
  | .own _ _ _=>none
  |x=>some x
def pq (l:List Nat) (b:Nat):Option Nat:=match l with
 | []=>none
 |c::r=>match Nat.beq c b with|true=>some 0|false=>(pq r b).map (· +1)
def IR (xs:List AV) (esz:Nat):bi:={cells:=xs,ver:=0,fro:=false,fz:=0,esz,pr:=true}
def gy (nid:Nat):List AV→List AV × List bi
 | []=>([],[])
 | .own xs n esz::r=>match gy (nid+1) r with|(l,bs)=>(.ref nid 0 0 n::l,IR xs esz::bs)
 |x::r=>match gy nid r with|(l,bs)=>(x::l,bs)
def jZ (nid:Nat):AV→AV × List bi
 | .tup l=>match gy nid l with|(l,bs)=>(.tup l,bs)
 | .own xs n esz=>(.ref nid 0 0 n,[IR xs esz])
 |x=>(x,[])
def DK:Nat→List bi→List (Nat × bi)
 |_,[]=> []
 |n,B::r=>(n,B)::DK (n+1) r
def LQ:List Nat→List bi→List (Nat × bi)
 |b::r,B::q=>(b,B)::LQ r q
 |_,_=> []
def rf:List Nat→Bool
 | []=>true
 |b::r=> !pG r b && rf r
def Aj (ρ:Nat→Nat→Option (Nat × Nat)) (v:Nat) (B:bi):bi:={B with cells:=(match B.pr with|true=>B.cells|false=>lU ρ B.cells),ver:=v+B.ver}
def OD (nid:Nat) (fp:List Nat) (vers:Nat→Nat) (n:Nat):Nat→Nat→Option (Nat × Nat):=fun p v=>
 match fp[p]? with
 |some b=>some (b,vers b+v)
 |none=>match Nat.blt p n with|true=>some (nid+(p - fp.length),v)|false=>none
structure SE where
 out:kM
 ups:List (Nat × bi)
 fp:List Nat
 md:AV
def tC (ap:AP) (H:di) (rd:Nat→Option bi) (nid:Nat) (md:AV) (f:Nat) (args:List AV) (c:Cx):R SE:=
 let fp:=sN rd 6 (jy (dn args))
 let rd:=fun b=>match pG fp b with|true=>rd b|false=>none
 let shared:=match ap.fnAt f with|some F=>F.shared|none=>false
 match shared with
 | false=>
  match kK (frz rd 6) args with
  |none=> .bad 10
  |some args'=>
   (H c md f args' []).bind fun (out,h',md) c=>
   match h' with
   |_::_=> .bad 14
   | []=>
   let mark:=fp.filterMap fun b=>(rd b).map fun B=>(b,{B with fro:=true,fz:=B.cells.length})
   match out with
   | .ret v=>match jZ nid v with|(v,bs)=>match Nat.ble bs.length 4 with|true=> .ok {out:= .ret v,ups:=DK nid bs++mark,fp,md} c|false=> .bad 13
   | .pan v=> .ok {out:= .pan v,ups:=mark,fp,md} c
 | true=>
  let vers:=fun b=>match rd b with|some B=>B.ver|none=>0
  let ρ:Nat→Nat→Option (Nat × Nat):=fun b v=>match Nat.beq v (vers b) with|true=>(pq fp b).map fun p=>(p,0)|false=>none
  match kK rd fp with
  |none=> .bad 11
  | some bl=>
   (H c md f (lU ρ args) (bl.map fun B=> {B with cells:=(match B.pr with|true=>B.cells|false=>lU ρ B.cells),ver:=0})).bind fun (out,h',md) c=>
   match Nat.ble fp.length h'.length && rf fp with
   |false=> .bad 12
   |true=>
    let ρ':=OD nid fp vers h'.length
    let ups:=(LQ fp h').map fun (b,B)=>(b,Aj ρ' (vers b) B)
    let ex:=(h'.drop fp.length).map (Aj ρ' 0)
    match out with
    | .ret v=>match jZ (nid+(h'.length - fp.length)) (ren ρ' v) with|(v,bs)=>match Nat.ble ((h'.length - fp.length)+bs.length) 4 with|true=> .ok {out:= .ret v,ups:=DK nid (ex++bs)++ups,fp,md} c|false=> .bad 13
    | .pan v=>match Nat.ble (h'.length - fp.length) 4 with|true=> .ok {out:= .pan (ren ρ' v),ups:=DK nid (ex++ [])++ups,fp,md} c|false=> .bad 13
inductive bM where
 |normal
 |exit (id:Nat)
 |ret
 |panic (v:AV)
structure St where
 env:iV
 hp:Hp
 md:AV
 dfs:List (Nat × List AV)
structure wC where
 rt:List Nat
 wt:List Nat
 rb:List Nat
 wb:List Nat
structure RS where
 env:iV
 hp:Hp
 md:AV
 dfs:List (Nat × List AV)
 dec:List (Nat × Bool)
 feet:List wC
def uB (l:List Operand):List Nat:=l.filterMap fun| .tmp t=>some t|_=>none
def Ig (o:Oper):List Nat:=match o.dst with|some d=> [d]|none=> []
def pO (env:iV) (dst:Option Nat) (v:AV):iV:=match dst with|some d=>(d,v)::env|none=>env
def qo (ap:AP) (env:iV):Operand→AV
 | .tmp t=>env.get t
 | .const v=>DL v
 | .global g=>match (ap.gl[g]?).join with|some xs=> .pp xs 0|none=> .dead
 | .func f=> .fn f [] []
def Nc (ops:List Oper) (env:iV) (dec:List (Nat × Bool)) (o:Oper) (c:Cx):R (Bool × List (Nat × Bool)):=
 match o.guard with
 |none=> .ok (true,dec) c
 | some (j,want)=>
  match (ops[j]?).bind (·.dst) with
  |none=> .bad 20
  | some s=>match aG dec s with
   |some b=> .ok (lit want b,dec) c
   |none=>match env.get s with
    | .bool b=>(yM c b).bind fun b' c=> .ok (lit want b',(s,b')::dec) c
    | .tup []=> .ok (false,dec) c
    |_=> .bad 21
def jF (ops:List Oper) (o:Oper):List Nat:=
 match o.guard with
 |none=> []
 |some (j,_)=>match (ops[j]?).bind (·.dst) with|none=> []|some s=> [s]
def TS (dec:List (Nat × Bool)) (o:Oper):Bool:=match o.dst with|none=>true|some d=>match aG dec d with|none=>true|some _=>false
def Lj (ap:AP) (H:di) (nid:Nat) (ops:List Oper) (o:Oper) (s:RS) (c:Cx):R (RS × Option AV):=
 (Nc ops s.env s.dec o c).bind fun (run,dec) c=>
 let rt:=uB o.op.operands.toList++jF ops o
 match TS dec o with
 |false=> .bad 35
 |true=>
 match run with
 |false=> .ok ({s with env:=pO s.env o.dst (.tup []),dec,feet:={rt,wt:=Ig o,rb:= [],wb:= []}::s.feet},none) c
 | true=>
  let ρ:=qo ap s.env
  let rdAll:=aG s.hp
  match o.op with
  | .call {callee:= .value g,args,..}=>
   match ρ g with
   | .fn f first cap=>
    (tC ap H rdAll nid .dead f (first++args.toList.map ρ++cap) c).bind fun r c=>
    let foot:wC:={rt,wt:=Ig o,rb:=r.fp,wb:=r.ups.map fun (q:Nat × bi)=>q.1}
    match OW c o.dst with
    | (true,c)=>match r.out with
     | .ret v=>match r.ups.all (fun (q:Nat × bi)=>pG r.fp q.1) with
      |true=> .ok ({s with env:=pO s.env o.dst v,dec,feet:={rt,wt:=Ig o,rb:=r.fp,wb:= []}::s.feet},none) {c with ps:=(r.ups.map (fun (q:Nat × bi)=>some q.2)=r.ups.map (fun (q:Nat × bi)=>aG s.hp q.1))::c.ps}
      |false=> .bad 36
     | .pan _=> .bad 37
    |(false,c)=>match r.out with
     | .ret v=> .ok ({s with env:=pO s.env o.dst v,hp:=r.ups++s.hp,dec,feet:=foot::s.feet},none) c
     | .pan v=> .ok ({s with hp:=r.ups++s.hp,dec,feet:=foot::s.feet},some v) c
   |_=> .bad 30
  | .call {callee:= .builtin .recover,..}=>
   match s.md with
   | .nilI=> .ok ({s with env:=pO s.env o.dst .nilI,dec,feet:={rt,wt:=Ig o,rb:= [],wb:= []}::s.feet},none) c
   | .ifc t v=> .ok ({s with env:=pO s.env o.dst (.ifc t v),md:= .nilI,dec,feet:={rt,wt:=Ig o,rb:= [],wb:= []}::s.feet},none) c
   |_=> .bad 33
  | .defer {callee:= .value g,args,..}=>
   match ρ g with
   | .fn f first cap=> .ok ({s with env:=pO s.env o.dst .dead,dfs:=(f,first++args.toList.map ρ++cap)::s.dfs,dec,feet:={rt,wt:=Ig o,rb:= [],wb:= []}::s.feet},none) c
   |_=> .bad 34
  | .panic x=>
   match ρ x with
   | .ifc t v=> .ok ({s with dec},some (.ifc t v)) c
   |_=> .bad 31
  | op=>
   let fp:=Vh ρ op
   let rd:=fun b=>match pG fp b with|true=>rdAll b|false=>none
   let decs:Operand→Option Bool:=fun| .tmp t=>aG dec t|_=>none
   (match xN ρ op with|some n=>yM c (Nat.beq n 0)|none=> .ok false c).bind fun em c=>
   match opA ap nid ρ rd decs em op with
   |none=> .bad 32
   | some (v,ups,bs)=>(Xq c bs).bind fun _ c=>
    match CY c o.dst v with
    |(v,c)=>match CX c o.dst ups with
     |(ups,c)=> .ok ({s with env:=pO s.env o.dst v,hp:=ups++s.hp,dec,feet:={rt,wt:=Ig o,rb:=fp,wb:=ups.map fun (q:Nat × bi)=>q.1}::s.feet},none) c
def rQ (ap:AP) (H:di) (ops:List Oper):List Oper→Nat→RS→Cx→R (RS × Option AV)
 | [],_,s,c=> .ok (s,none) c
 | o::r,nid,s,c=>(Lj ap H nid ops o s c).bind fun (s,p) c=>
  match p with
  |some v=> .ok (s,some v) c
  |none=>match s.feet with
   |f::_=>match f.wb.all (fun x=>Nat.blt x (nid+4)) with|true=>rQ ap H ops r (nid+4) s c|false=> .bad 43
   | []=> .bad 44
def DC (a b:List Nat):Bool:=a.any (pG b)
def kD (a b:wC):Bool:=DC a.wt b.rt||DC a.wt b.wt||DC a.rt b.wt||DC a.wb b.rb||DC a.wb b.wb||DC a.rb b.wb
def um (n:Nat) (bef:List Nat) (feet:List wC):Bool:=
 let l:=feet.reverse.zipIdx
 l.all fun (a,i)=>l.all fun (b,j)=> !(Nat.blt i j)|| !(kD a b||b.wb.any fun x=>Nat.ble (n+4*i) x && Nat.blt x (n+4*i+4))||(bef.getD j 0).testBit i
def CG (keep:List Nat) (env:iV):List Nat:=keep.flatMap fun t=>fD (env.get t)
def norm (base:Nat) (keep:List Nat) (s:St):St:=
 let env:=s.env
 let hp:=s.hp
 let rd:=aG hp
 let ids:=sN rd 20 (jy (sN rd 20 (List.range base)++CG keep env++s.dfs.flatMap fun d=>dn d.2))
 let ids:=ids.filter fun b=>(rd b).isSome
 let ρ:Nat→Nat→Option (Nat × Nat):=fun b v=>match rd b with
  |some B=>match Nat.beq B.ver v with
   |true=>(pq ids b).map fun p=>(p,match Nat.blt p base with|true=>v|false=>0)
   |false=>none
  |none=>none
 {env:=keep.map fun t=>(t,ren ρ (env.get t))
  hp:=ids.zipIdx.filterMap fun (b,p)=>(rd b).map fun B=>(p,{B with cells:=(match B.pr with|true=>B.cells|false=>lU ρ B.cells),ver:=match Nat.blt p base with|true=>B.ver|false=>0})
  md:=s.md
  dfs:=s.dfs.map fun d=>(d.1,lU ρ d.2)}
def iI:Hp→Nat
 | []=>0
 |(b,_)::r=>match Nat.blt b (iI r) with|true=>iI r|false=>b+1
def qU (ops:List Oper):Bool:=ops.zipIdx.all fun (o,i)=>o.after.toList.all fun e=> !Region.binds .any e||Nat.blt e.on i
def IZ (ap:AP) (H:di) (base:Nat) (keep:List Nat) (ops:List Oper) (draw:Bool) (s:St) (c:Cx):R (bM × St):=
 (rQ ap H ops ops (iI s.hp) {env:=s.env,hp:=s.hp,md:=s.md,dfs:=s.dfs,dec:= [],feet:= []} c).bind fun (s',p) c=>
 match p with
 | some v=>match draw with
  |true=> .bad 40
  |false=>match (fD v).isEmpty with
   |true=> .ok (.panic v,norm base keep ⟨s'.env,s'.hp,s'.md,s'.dfs⟩) c
   |false=> .ok (.panic v,⟨s'.env,s'.hp,s'.md,s'.dfs⟩) c
 |none=>
  match !draw||(um (iI s.hp) (Region.before ops.toArray).toList s'.feet && qU ops && Nat.beq s'.dfs.length s.dfs.length) with
  |true=> .ok (.normal,norm base keep ⟨s'.env,s'.hp,s'.md,s'.dfs⟩) c
  |false=> .bad 41
def OZ (f:St→Cx→R (bM × St)):Nat→St→Cx→R (bM × St)
 |0,_,_=> .bad 50
 |n+1,s,c=>(f s c).bind fun (e,s) c=>match e with
  | .normal=>OZ f n s c
  |e=> .ok (e,s) c
def kX (ap:AP) (H:di) (base:Nat) (keep:List Nat) (lf:Nat):Code→St→Cx→R (bM × St)
 | .skip,s,c=> .ok (.normal,s) c
 | .label _,s,c=> .ok (.normal,s) c
 | .region _ ops draw,s,c=>IZ ap H base keep ops.toList draw s c
 | .seq a b,s,c=>(kX ap H base keep lf a s c).bind fun (e,s) c=>match e with
  | .normal=>kX ap H base keep lf b s c
  |e=> .ok (e,s) c
 | .cond t a b,s,c=>match qo ap s.env t with
  | .bool x=>(yM c x).bind fun x c=>match x with
   |true=>kX ap H base keep lf a s c
   |false=>kX ap H base keep lf b s c
  |_=> .bad 60
 | .block id b,s,c=>(kX ap H base keep lf b s c).bind fun (e,s) c=>match e with
  | .exit id'=>match Nat.beq id' id with|true=> .ok (.normal,s) c|false=> .ok (.exit id',s) c
  |e=> .ok (e,s) c
 | .loop b,s,c=>OZ (kX ap H base keep lf b) lf s c
 | .exit id,s,c=> .ok (.exit id,s) c
 | .ret,s,c=> .ok (.ret,s) c
 | .scope b,s,c=>kX ap H base keep lf b s c
 |_,_,_=> .bad 61
def yu (ap:AP) (env:iV) (hp:Hp):ResultVar→Option (AV × List Bool)
 | .tmp t=>some (env.get t,[])
 | .cell a t=>(ap.tyAt t).bind fun ti=>(Ky ti (aG hp) (env.get a)).map fun (v,_,bs)=>(v,bs)
def gJ (l:List Nat) (b:Nat):Nat:=(l.filter (Nat.beq b)).length
def Xx (base:Nat) (rd:Nat→Option bi) (v:AV):Option AV:=
 let fp:=sN rd 6 (jy (fD v))
 match fp.all (fun b=>Nat.ble base b) with
 |true=>frz (fun b=>match pG fp b with|true=>rd b|false=>none) 6 v
 |false=>none
def qW (base:Nat) (rd:Nat→Option bi) (all:List Nat) (v:AV):Option AV:=
 let frzO (v:AV):Option AV:=match (fD v).all (fun b=>Nat.blt b base) with|true=>some v|false=>Xx base rd v
 match v with
 | .ref b ver 0 n=>match rd b with
  |some B=>match Nat.ble base b && Nat.beq B.ver ver && !B.fro && B.pr && Nat.beq (gJ all b) 1 && Nat.blt 0 B.esz with
   |true=>some (.own (B.cells.take (n*B.esz)) n B.esz)
   |false=>frzO v
  |none=>none
 |v=>frzO v
def af (f:Func):Code:=f.body.getD .skip
def nH (md:AV) (args:List AV) (h:List bi):St:=
 {env:=args.zipIdx.map fun (x,i)=>(i,x),hp:=h.zipIdx.map fun (B,i)=>(i,B),md,dfs:= []}
def ajy:AV→Bool
 | .nilI=>true
 | .ifc _ _=>true
 |_=>false
def Dk (ap:AP) (H:di):List (Nat × List AV)→AV→Hp→Cx→R (AV × Hp)
 | [],mode,hp,c=> .ok (mode,hp) c
 |(f,args)::r,mode,hp,c=>
  match ajy mode && (fD mode).isEmpty with
  |false=> .bad 78
  |true=>
  (tC ap H (aG hp) (iI hp) mode f args c).bind fun q c=>
  match q.out with
  | .ret _=>Dk ap H r q.md (q.ups++hp) c
  | .pan _=> .bad 75
def Ru (rd:Nat→Option bi) (base:Nat):Nat:=(sN rd 20 (List.range base)).length
def uX (ap:AP) (base:Nat) (F:Func) (env:iV) (hp:Hp) (c:Cx):R (kM × List bi):=
 let rd:=aG hp
 let n:=Ru rd base
 match kK (yu ap env hp) F.results.toList,kK rd (List.range n) with
 |some vs,some h'=>
  match h'.all (fun B=>B.pr||(dn B.cells).all fun b=>Nat.blt b n) with
  |false=> .bad 76
  |true=>
  (Xq c (vs.flatMap fun (q:AV × List Bool)=>q.2)).bind fun _ c=>
  let all:=vs.flatMap fun (q:AV × List Bool)=>sN rd 6 (jy (fD q.1))
  match kK (qW n rd all) (vs.map fun (q:AV × List Bool)=>q.1) with
  |some [v]=> .ok (.ret v,h') c
  |some l=> .ok (.ret (.tup l),h') c
  |none=> .bad 70
 |_,_=> .bad 71
def IV (base:Nat) (v:AV) (hp:Hp) (c:Cx):R (kM × List bi):=
 let n:=Ru (aG hp) base
 match qW n (aG hp) (sN (aG hp) 6 (jy (fD v))) v,kK (aG hp) (List.range n) with
 |some v,some h'=>
  match h'.all (fun B=>B.pr||(dn B.cells).all fun b=>Nat.blt b n) with
  |false=> .bad 77
  |true=> .ok (.pan v,h') c
 |_,_=> .bad 72
def AX (ap:AP) (H:di) (base:Nat) (F:Func) (e:bM) (s:St) (c:Cx):R (kM × List bi × AV):=
 let go (mode:AV):R (kM × List bi × AV):=
  (Dk ap H s.dfs mode s.hp c).bind fun (mode,hp) c=>
  match mode with
  | .nilI=>(uX ap base F s.env hp c).bind fun (o,h) c=> .ok (o,h,s.md) c
  | .ifc t v=>(IV base (.ifc t v) hp c).bind fun (o,h) c=> .ok (o,h,s.md) c
  |_=> .bad 74
 match e with
 | .normal| .ret=>go .nilI
 | .panic (.ifc t v)=>match (fD v).isEmpty with|true=>go (.ifc t v)|false=> .bad 79
 |_=> .bad 73
def SV (ap:AP) (H:di) (lf:Nat) (md:AV) (F:AF) (args:List AV) (h:List bi) (c:Cx):R (kM × List bi × AV):=
 match af F.fn with
 | .seq (.region _ ops false) rest=>
  match ops.toList with
  | o ::r=>
   match o.op,o.guard,o.dst with
   | .call {callee:= .builtin .recover,..},none,some d=>
    let s0:=nH .dead args h
    (rQ ap H (o::r) r (iI s0.hp) {env:=(d,md)::s0.env,hp:=s0.hp,md:= .dead,dfs:= [],dec:= [],feet:= []} c).bind fun (s,p) c=>
    match p with
    |some _=> .bad 81
    | none=>(kX ap H h.length F.keep lf rest (norm h.length F.keep ⟨s.env,s.hp,s.md,s.dfs⟩) c).bind fun (e,s) c=>
     match s.dfs with
     |_::_=> .bad 82
     | []=>match e with
      | .normal| .ret=>(uX ap h.length F.fn s.env s.hp c).bind fun (o,h) c=> .ok (o,h,.nilI) c
      |_=> .bad 83
   |_,_,_=> .bad 84
  | []=> .bad 85
 |_=> .bad 86
def tu (ap:AP) (H:di) (lf:Nat) (md:AV) (f:Nat) (args:List AV) (h:List bi) (c:Cx):R (kM × List bi × AV):=
 match ap.fnAt f with
 |none=> .bad 80
 |some F=>match md with
  | .dead=>(kX ap H h.length F.keep lf (af F.fn) (nH .dead args h) c).bind fun (e,s) c=>AX ap H h.length F.fn e s c
  |md=>match ajy md && (fD md).isEmpty with|true=>SV ap H lf md F args h c|false=> .bad 87
theorem wE {S:aW}:∀ {l:List AV} {vs:List Value},dK S l vs→l.length=vs.length
 | [],[],_=>rfl
 |_::_,_::_,h=>by simp only [dK] at h;simp [wE h.2]
 | [],_::_,h=>by simp [dK] at h
 |_::_,[],h=>by simp [dK] at h
theorem cO {g:dR} {m:bf} {S:aW}:∀ {l:List AV} {vs:List Value},bF g m S l vs→l.length=vs.length
 | [],[],_=>rfl
 |_::_,_::_,h=>by simp only [bF] at h;simp [cO h.2]
 | [],_::_,h=>by simp [bF] at h
 |_::_,[],h=>by simp [bF] at h
theorem Oz {S:aW}:∀ {l:List AV} {vs:List Value} (_:dK S l vs) (i:Nat) {x:AV},l[i]? =some x→∃ v,vs[i]? =some v∧PR S x v
 | [],[],_,i,x,hx=>by simp at hx
 |a::l,v::vs,h,0,x,hx=>by simp only [dK] at h;simp at hx;subst hx;exact ⟨v,rfl,h.1⟩
 |a::l,v::vs,h,i+1,x,hx=>by simp only [dK] at h;simp at hx;simpa using Oz h.2 i hx
 | [],_::_,h,_,_,_=>by simp [dK] at h
 |_::_,[],h,_,_,_=>by simp [dK] at h
theorem qO {g:dR} {m:bf} {S:aW}:∀ {l:List AV} {vs:List Value} (_:bF g m S l vs) (i:Nat) {x:AV},l[i]? =some x→∃ v,vs[i]? =some v∧VR g m S x v
 | [],[],_,i,x,hx=>by simp at hx
 |a::l,v::vs,h,0,x,hx=>by simp only [bF] at h;simp at hx;subst hx;exact ⟨v,rfl,h.1⟩
 |a::l,v::vs,h,i+1,x,hx=>by simp only [bF] at h;simp at hx;simpa using qO h.2 i hx
 | [],_::_,h,_,_,_=>by simp [bF] at h
 |_::_,[],h,_,_,_=>by simp [bF] at h
theorem mX {S:aW}:∀ {l l':List AV} {vs vs':List Value},dK S l vs→dK S l' vs'→dK S (l++l') (vs++vs')
 | [],_,[],_,_,h'=>by simpa using h'
 |_::_,_,_::_,_,h,h'=>by simp only [dK] at h;simp only [List.cons_append,dK];exact ⟨h.1,mX h.2 h'⟩
 | [],_,_::_,_,h,_=>by simp [dK] at h
 |_::_,_,[],_,h,_=>by simp [dK] at h
theorem iH {g:dR} {m:bf} {S:aW}:∀ {l l':List AV} {vs vs':List Value},bF g m S l vs→bF g m S l' vs'→bF g m S (l++l') (vs++vs')
 | [],_,[],_,_,h'=>by simpa using h'
 |_::_,_,_::_,_,h,h'=>by simp only [bF] at h;simp only [List.cons_append,bF];exact ⟨h.1,iH h.2 h'⟩
 | [],_,_::_,_,h,_=>by simp [bF] at h
 |_::_,_,[],_,h,_=>by simp [bF] at h
theorem kN {S:aW}:∀ (n:Nat) {l:List AV} {vs:List Value},dK S l vs→dK S (l.take n) (vs.take n)
 |0,_,_,_=>by simp [dK]
 |n+1,[],[],_=>by simp [dK]
 |n+1,_::_,_::_,h=>by simp only [dK] at h;simp only [List.take_succ_cons,dK];exact ⟨h.1,kN n h.2⟩
 |_+1,[],_::_,h=>by simp [dK] at h
 |_+1,_::_,[],h=>by simp [dK] at h
theorem pX {S:aW}:∀ (n:Nat) {l:List AV} {vs:List Value},dK S l vs→dK S (l.drop n) (vs.drop n)
 |0,_,_,h=>by simpa using h
 |n+1,[],[],_=>by simp [dK]
 |n+1,_::_,_::_,h=>by simp only [dK] at h;simpa using pX n h.2
 |_+1,[],_::_,h=>by simp [dK] at h
 |_+1,_::_,[],h=>by simp [dK] at h
theorem p_ {g:dR} {m:bf} {S:aW}:∀ (n:Nat) {l:List AV} {vs:List Value},bF g m S l vs→bF g m S (l.take n) (vs.take n)
 |0,_,_,_=>by simp [bF]
 |n+1,[],[],_=>by simp [bF]
 |n+1,_::_,_::_,h=>by simp only [bF] at h;simp only [List.take_succ_cons,bF];exact ⟨h.1,p_ n h.2⟩
 |_+1,[],_::_,h=>by simp [bF] at h
 |_+1,_::_,[],h=>by simp [bF] at h
theorem sW {g:dR} {m:bf} {S:aW}:∀ (n:Nat) {l:List AV} {vs:List Value},bF g m S l vs→bF g m S (l.drop n) (vs.drop n)
 |0,_,_,h=>by simpa using h
 |n+1,[],[],_=>by simp [bF]
 |n+1,_::_,_::_,h=>by simp only [bF] at h;simpa using sW n h.2
 |_+1,[],_::_,h=>by simp [bF] at h
 |_+1,_::_,[],h=>by simp [bF] at h
theorem kP.mono {S S':aW} (h:mi S S') {b o:Nat} {vs:List Value} (hs:kP S b o vs):kP S' b o vs:=fun j u a=> ⟨h _ _ _ (hs j u a).1,(hs j u a).2⟩
mutual
theorem dC {S S':aW} (h:mi S S'):∀ (x:AV) {v:Value},PR S x v→PR S' x v
 | .int _ _,_,p=>by simpa only [PR] using p
 | .bool _,_,p=>by simpa only [PR] using p
 | .str _,_,p=>by simpa only [PR] using p
 | .nilS,_,p=>by simpa only [PR] using p
 | .nilP,_,p=>by simpa only [PR] using p
 | .nilF,_,p=>by simpa only [PR] using p
 | .nilI,_,p=>by simpa only [PR] using p
 | .dead,_,_=>by simp only [PR]
 | .agg l,_,p=>by
  simp only [PR] at p ⊢
  obtain ⟨vs,e,q⟩:=p
  exact ⟨vs,e,bP h l q⟩
 | .tup l,_,p=>by
  simp only [PR] at p ⊢
  obtain ⟨vs,e,q⟩:=p
  exact ⟨vs,e,bP h l q⟩
 | .sl xs n nn,_,p=>by
  simp only [PR] at p ⊢
  obtain ⟨a,d,e,i,q⟩:=p
  refine ⟨a,d,e,i, ?_⟩
  rcases q with q|⟨b,o,vs,j,q,hs⟩
  ·exact .inl q
  ·exact .inr ⟨b,o,vs,j,bP h xs q,hs.mono h⟩
 | .pp xs off,_,p=>by
  simp only [PR] at p ⊢
  obtain ⟨b,o,vs,e,q,hs⟩:=p
  exact ⟨b,o,vs,e,bP h xs q,hs.mono h⟩
 | .mp ks vs,_,p=>by
  simp only [PR] at p ⊢
  rcases p with p|⟨b,A,z,e,h0,C,s,y⟩
  ·exact .inl p
  ·exact .inr ⟨b,A,z,e,h _ _ _ h0,h _ _ _ C,bP h ks s,bP h vs y⟩
 | .fn f a c,_,p=>by
  simp only [PR] at p ⊢
  obtain ⟨k,B,e,q,r⟩:=p
  exact ⟨k,B,e,bP h a q,bP h c r⟩
 | .ifc t x,_,p=>by
  simp only [PR] at p ⊢
  obtain ⟨u,e,q⟩:=p
  exact ⟨u,e,dC h x q⟩
 | .ref _ _ _ _,_,p=>by simp only [PR] at p
 | .ptr _ _ _,_,p=>by simp only [PR] at p
 | .mr _ _,_,p=>by simp only [PR] at p
 | .own _ _ _,_,p=>by simp only [PR] at p
theorem bP {S S':aW} (h:mi S S'):∀ (l:List AV) {vs:List Value},dK S l vs→dK S' l vs
 | [],[],_=>by simp only [dK]
 |x::r,v::vs,p=>by simp only [dK] at p ⊢;exact ⟨dC h x p.1,bP h r p.2⟩
 | [],_::_,p=>by simp [dK] at p
 |_::_,[],p=>by simp [dK] at p
end
mutual
theorem iP {g:dR} {m:bf} {S:aW}:∀ (x:AV) {v:Value},PR S x v→VR g m S x v
 | .int _ _,_,p=>by simpa only [VR] using p
 | .bool _,_,p=>by simpa only [VR] using p
 | .str _,_,p=>by simpa only [VR] using p
 | .nilS,_,p=>by simpa only [VR] using p
 | .nilP,_,p=>by simpa only [VR] using p
 | .nilF,_,p=>by simpa only [VR] using p
 | .nilI,_,p=>by simpa only [VR] using p
 | .sl _ _ _,_,p=>by simpa only [VR] using p
 | .pp _ _,_,p=>by simpa only [VR] using p
 | .mp _ _,_,p=>by simpa only [VR] using p
 | .dead,_,_=>by simp only [VR]
 | .agg l,_,p=>by
  simp only [PR] at p;simp only [VR]
  obtain ⟨vs,e,q⟩:=p
  exact ⟨vs,e,bV l q⟩
 | .tup l,_,p=>by
  simp only [PR] at p;simp only [VR]
  obtain ⟨vs,e,q⟩:=p
  exact ⟨vs,e,bV l q⟩
 | .fn f a c,_,p=>by
  simp only [PR] at p;simp only [VR]
  obtain ⟨b,d,e,q,r⟩:=p
  exact ⟨b,d,e,bV a q,bV c r⟩
 | .ifc t x,_,p=>by
  simp only [PR] at p;simp only [VR]
  obtain ⟨u,e,q⟩:=p
  exact ⟨u,e,iP x q⟩
 | .ref _ _ _ _,_,p=>by simp only [PR] at p
 | .ptr _ _ _,_,p=>by simp only [PR] at p
 | .mr _ _,_,p=>by simp only [PR] at p
 | .own _ _ _,_,p=>by simp only [PR] at p
theorem bV {g:dR} {m:bf} {S:aW}:∀ (l:List AV) {vs:List Value},dK S l vs→bF g m S l vs
 | [],[],_=>by simp only [bF]
 |x::r,v::vs,p=>by simp only [dK] at p;simp only [bF];exact ⟨iP x p.1,bV r p.2⟩
 | [],_::_,p=>by simp [dK] at p
 |_::_,[],p=>by simp [dK] at p
end
def r_ (g:dR) (m:bf) (g':dR) (m':bf) (ρ:Nat→Nat→Option (Nat × Nat)):Prop:=
 ∀ b ver b' ver',ρ b ver=some (b',ver')→∀ B,g b=some B→ver≤B.ver→
  ∃ B',g' b'=some B'∧ver'≤B'.ver∧(B'.ver=ver'→B.ver=ver∧m' b'=m b∧B'.esz=B.esz)
mutual
theorem yJ {g g':dR} {m G:bf} {S S':aW} {ρ:Nat→Nat→Option (Nat × Nat)} (j:mi S S') (h:r_ g m g' G ρ):∀ (x:AV) {v:Value},VR g m S x v→VR g' G S' (ren ρ x) v
 | .int k n,_,p=>by simp only [VR] at p;simp only [ren,VR];exact dC j _ p
 | .bool _,_,p=>by simp only [VR] at p;simp only [ren,VR];exact dC j _ p
 | .str _,_,p=>by simp only [VR] at p;simp only [ren,VR];exact dC j _ p
 | .nilS,_,p=>by simp only [VR] at p;simp only [ren,VR];exact dC j _ p
 | .nilP,_,p=>by simp only [VR] at p;simp only [ren,VR];exact dC j _ p
 | .nilF,_,p=>by simp only [VR] at p;simp only [ren,VR];exact dC j _ p
 | .nilI,_,p=>by simp only [VR] at p;simp only [ren,VR];exact dC j _ p
 | .sl _ _ _,_,p=>by simp only [VR] at p;simp only [ren,VR];exact dC j _ p
 | .pp _ _,_,p=>by simp only [VR] at p;simp only [ren,VR];exact dC j _ p
 | .mp _ _,_,p=>by simp only [VR] at p;simp only [ren,VR];exact dC j _ p
 | .dead,_,_=>by simp only [ren,VR]
 | .own _ _ _,_,p=>by simp only [VR] at p
 | .agg l,_,p=>by
  simp only [VR] at p;simp only [ren,VR]
  obtain ⟨vs,e,q⟩:=p
  exact ⟨vs,e,kQ j h l q⟩
 | .tup l,_,p=>by
  simp only [VR] at p;simp only [ren,VR]
  obtain ⟨vs,e,q⟩:=p
  exact ⟨vs,e,kQ j h l q⟩
 | .fn f a c,_,p=>by
  simp only [VR] at p;simp only [ren,VR]
  obtain ⟨H,J,e,q,r⟩:=p
  exact ⟨H,J,e,kQ j h a q,kQ j h c r⟩
 | .ifc t x,_,p=>by
  simp only [VR] at p;simp only [ren,VR]
  obtain ⟨u,e,q⟩:=p
  exact ⟨u,e,yJ j h x q⟩
 | .ref b ver i n,_,p=>by
  simp only [VR] at p;simp only [ren]
  obtain ⟨B,C,D,s,q⟩:=p
  cases hρ:ρ b ver with
  |none=>simp only [VR]
  |some bv=>
   obtain ⟨z,d⟩:=bv
   obtain ⟨B',y,o,E⟩:=h b ver z d hρ B C D
   simp only [VR]
   refine ⟨B',y,o,s,fun e=> ?_⟩
   obtain ⟨A,F,I⟩:=E e
   rw [F,I]
   exact q A
 | .ptr b ver off,_,p=>by
  simp only [VR] at p;simp only [ren]
  obtain ⟨B,C,D,s,q⟩:=p
  cases hρ:ρ b ver with
  |none=>simp only [VR]
  |some bv=>
   obtain ⟨z,d⟩:=bv
   obtain ⟨B',y,o,E⟩:=h b ver z d hρ B C D
   simp only [VR]
   refine ⟨B',y,o,s,fun e=> ?_⟩
   obtain ⟨A,F,_⟩:=E e
   rw [F]
   exact q A
 | .mr b ver,_,p=>by
  simp only [VR] at p;simp only [ren]
  obtain ⟨B,C,D,s,q⟩:=p
  cases hρ:ρ b ver with
  |none=>simp only [VR]
  |some bv=>
   obtain ⟨z,d⟩:=bv
   obtain ⟨B',y,o,E⟩:=h b ver z d hρ B C D
   simp only [VR]
   refine ⟨B',y,o,s,fun e=> ?_⟩
   obtain ⟨A,F,_⟩:=E e
   rw [F]
   exact q A
theorem kQ {g g':dR} {m b:bf} {S S':aW} {ρ:Nat→Nat→Option (Nat × Nat)} (a:mi S S') (h:r_ g m g' b ρ):∀ (l:List AV) {vs:List Value},bF g m S l vs→bF g' b S' (lU ρ l) vs
 | [],[],_=>by simp only [lU,bF]
 |x::r,v::vs,p=>by simp only [bF] at p;simp only [lU,bF];exact ⟨yJ a h x p.1,kQ a h r p.2⟩
 | [],_::_,p=>by simp [bF] at p
 |_::_,[],p=>by simp [bF] at p
end
def Ge (g:dR) (m:bf) (g':dR) (m':bf):Prop:=
 ∀ b B,g b=some B→∃ B',g' b=some B'∧B'.esz=B.esz∧((B'.ver=B.ver∧m' b=m b)∨B.ver<B'.ver)
theorem Ge.refl (g:dR) (m:bf):Ge g m g m:=fun _ B h=> ⟨B,h,rfl,.inl ⟨rfl,rfl⟩⟩
theorem Ge.trans {g g' f:dR} {m k a:bf} (h:Ge g m g' k) (n:Ge g' k f a):Ge g m f a:=by
 intro b B p
 obtain ⟨B',j,e,c⟩:=h b B p
 obtain ⟨B'',i,s,t⟩:=n b B' j
 refine ⟨B'',i,s.trans e, ?_⟩
 rcases c with ⟨r,o⟩|c<;>rcases t with ⟨l,q⟩|d
 ·exact .inl ⟨l.trans r,q.trans o⟩
 ·exact .inr (by omega)
 ·exact .inr (by omega)
 ·exact .inr (by omega)
mutual
theorem oq {g g':dR} {m D:bf} {S S':aW} (o:mi S S') (h:Ge g m g' D):∀ (x:AV) {v:Value},VR g m S x v→VR g' D S' x v
 | .int k n,_,p=>by simp only [VR] at p ⊢;exact dC o _ p
 | .bool _,_,p=>by simp only [VR] at p ⊢;exact dC o _ p
 | .str _,_,p=>by simp only [VR] at p ⊢;exact dC o _ p
 | .nilS,_,p=>by simp only [VR] at p ⊢;exact dC o _ p
 | .nilP,_,p=>by simp only [VR] at p ⊢;exact dC o _ p
 | .nilF,_,p=>by simp only [VR] at p ⊢;exact dC o _ p
 | .nilI,_,p=>by simp only [VR] at p ⊢;exact dC o _ p
 | .sl _ _ _,_,p=>by simp only [VR] at p ⊢;exact dC o _ p
 | .pp _ _,_,p=>by simp only [VR] at p ⊢;exact dC o _ p
 | .mp _ _,_,p=>by simp only [VR] at p ⊢;exact dC o _ p
 | .dead,_,_=>by simp only [VR]
 | .own _ _ _,_,p=>by simp only [VR] at p
 | .agg l,_,p=>by
  simp only [VR] at p ⊢
  obtain ⟨vs,e,q⟩:=p
  exact ⟨vs,e,lJ o h l q⟩
 | .tup l,_,p=>by
  simp only [VR] at p ⊢
  obtain ⟨vs,e,q⟩:=p
  exact ⟨vs,e,lJ o h l q⟩
 | .fn f a c,_,p=>by
  simp only [VR] at p ⊢
  obtain ⟨F,G,e,q,r⟩:=p
  exact ⟨F,G,e,lJ o h a q,lJ o h c r⟩
 | .ifc t x,_,p=>by
  simp only [VR] at p ⊢
  obtain ⟨u,e,q⟩:=p
  exact ⟨u,e,oq o h x q⟩
 | .ref b ver i n,_,p=>by
  simp only [VR] at p ⊢
  obtain ⟨B,y,C,d,q⟩:=p
  obtain ⟨B',j,A,z⟩:=h b B y
  rcases z with ⟨E,s⟩|c
  ·refine ⟨B',j,by omega,d,fun e=> ?_⟩
   rw [s,A]
   exact q (by omega)
  ·exact ⟨B',j,by omega,d,fun e=>by omega⟩
 | .ptr b ver off,_,p=>by
  simp only [VR] at p ⊢
  obtain ⟨B,y,C,d,q⟩:=p
  obtain ⟨B',j,A,z⟩:=h b B y
  rcases z with ⟨E,s⟩|c
  ·refine ⟨B',j,by omega,d,fun e=> ?_⟩
   rw [s]
   exact q (by omega)
  ·exact ⟨B',j,by omega,d,fun e=>by omega⟩
 | .mr b ver,_,p=>by
  simp only [VR] at p ⊢
  obtain ⟨B,y,C,d,q⟩:=p
  obtain ⟨B',j,A,z⟩:=h b B y
  rcases z with ⟨E,s⟩|c
  ·refine ⟨B',j,by omega,d,fun e=> ?_⟩
   rw [s]
   exact q (by omega)
  ·exact ⟨B',j,by omega,d,fun e=>by omega⟩
theorem lJ {g g':dR} {m b:bf} {S S':aW} (a:mi S S') (h:Ge g m g' b):∀ (l:List AV) {vs:List Value},bF g m S l vs→bF g' b S' l vs
 | [],[],_=>by simp only [bF]
 |x::r,v::vs,p=>by simp only [bF] at p ⊢;exact ⟨oq a h x p.1,lJ a h r p.2⟩
 | [],_::_,p=>by simp [bF] at p
 |_::_,[],p=>by simp [bF] at p
end
def lQ (ap:AP) (S:aW):Prop:=∀ k xs,(ap.gl[k]?).join=some xs→∃ vs,dK S xs vs∧kP S k 0 vs
structure jd (P:Program) (ap:AP):Prop where
 ty:∀ t ti,ap.tyAt t=some ti→VU P t=some ti
def wS (es:Array MapEntry):Array Value:=#[.agg (es.map (·.key)),.agg (es.map (·.val))]
def jP (w:World) (k z:Nat) (cur:Array Value) (e:TypeId):Prop:=
 (z ≠ je∧w.heap[k]? =some (.cells cur e (0,0)))∨(z=je∧∃ es clk,w.heap[k]? =some (.map es clk)∧cur=wS es)
def dW (w:World) (k o:Nat):Option Value:=match w.heap[k]? with
 |some (.map es _)=>(wS es)[o]?
 |_=>match w.cell? ⟨k,o,none⟩ with|some v=>if v.oneCell' then some v else none|none=>none
theorem jP.of {w:World} {k z:Nat} {cur:Array Value} {e:TypeId} (a:z ≠ je) (h:w.heap[k]? =some (.cells cur e (0,0))):jP w k z cur e:= .inl ⟨a,h⟩
theorem jP.cells {w:World} {k z:Nat} {cur:Array Value} {e:TypeId} (h:jP w k z cur e) (a:z ≠ je):w.heap[k]? =some (.cells cur e (0,0)):=by
 rcases h with h|h
 ·exact h.2
 ·exact absurd h.1 a
theorem jP.map {w:World} {k z:Nat} {cur:Array Value} {e:TypeId} (h:jP w k z cur e) (a:z=je):∃ es clk,w.heap[k]? =some (.map es clk)∧cur=wS es:=by
 rcases h with h|h
 ·exact absurd a h.1
 ·exact h.2
theorem jP.same {w w':World} {k z:Nat} {cur:Array Value} {e:TypeId} (h:jP w k z cur e) (a:w'.heap[k]? =w.heap[k]?):jP w' k z cur e:=by
 unfold jP;rw [a];exact h
theorem jP.lt {w:World} {k z:Nat} {cur:Array Value} {e:TypeId} (h:jP w k z cur e):k<w.heap.size:=by
 rcases h with ⟨_,h⟩|⟨_,b,a,h,_⟩<;>exact (Array.getElem?_eq_some_iff.1 h).1
theorem MJ {w w':World} {k o:Nat} (b:w'.heap[k]? =w.heap[k]?):dW w' k o=dW w k o:=by
 unfold dW;rw [b,World.cell?_of_block (w:=w) (a:=⟨k,o,none⟩) b]
theorem uK {w:World} {k o:Nat} {v:Value} (h:dW w k o=some v) (a:v.oneCell'=true):w.cell? ⟨k,o,none⟩=some v:=by
 unfold dW at h
 split at h
 ·rename_i d c e
  exfalso
  unfold wS at h
  rcases (show o=0∨o=1∨2≤o by omega) with rfl|rfl|ho
  ·cases h;cases a
  ·cases h;cases a
  ·rw [Array.getElem?_eq_none (by simpa using ho)] at h;cases h
 ·split at h
  ·rename_i f b
   split at h
   ·cases h;exact b
   ·cases h
  ·cases h
theorem BV {w:World} {k o:Nat} {v:Value} (h:w.cell? ⟨k,o,none⟩=some v) (b:v.oneCell'=true):dW w k o=some v:=by
 unfold dW
 split
 ·rename_i d c a
  unfold World.cell? at h
  simp only [a] at h
  cases h
 ·rw [h];simp only;rw [if_pos b]
theorem uJ {w:World} {k o:Nat} {v:Value} (h:dW w k o=some v) (e:v.oneCell'=false):∃ b a,w.heap[k]? =some (.map b a)∧(wS b)[o]? =some v:=by
 unfold dW at h
 split at h
 ·rename_i b a d;exact ⟨b,a,d,h⟩
 ·split at h
  ·split at h
   ·rename_i c;cases h;rw [e] at c;cases c
   ·cases h
  ·cases h
theorem JC {w:World} {k o:Nat} {v:Value} (h:dW w k o=some v):k<w.heap.size:=by
 cases a:v.oneCell' with
 |true=>exact World.block_lt_of_cell? w _ (uK h a)
 |false=>
  obtain ⟨_,_,b,_⟩:=uJ h a
  exact (Array.getElem?_eq_some_iff.1 b).1
structure PX (g:dR) (m:bf) (S:aW) (w:World) (B:bi) (k c:Nat):Prop where
 lies:∃ cur e vs rest,jP w k B.esz cur e∧cur.toList=vs++rest∧(B.pr=true→dK S B.cells vs)∧bF g m S B.cells vs∧(B.esz ≠ je→∀ u ∈ vs,u.oneCell'=true)∧(0<B.esz→B.esz ≠ je→cur.size=c*B.esz∧c≤maxLen)
 fz0:B.fro=false→B.fz=0
 fzle:B.fz≤B.cells.length
structure bY (ap:AP) (g:dR) (m:bf) (S:aW) (w:World):Prop where
 inj:∀ b b' B B',g b=some B→g b'=some B'→(m b).1=(m b').1→b=b'
 blk:∀ b B,g b=some B→PX g m S w B (m b).1 (m b).2
 sealed:∀ k o v,S k o=some v→dW w k o=some v
 own:∀ b B,g b=some B→∀ o v,S (m b).1 o=some v→B.fro=true∧o<B.fz
 glob:lQ ap S
structure Fr (g:dR) (m:bf) (S:aW) (w:World) (g':dR) (m':bf) (S':aW) (w':World):Prop where
 ge:Ge g m g' m'
 sle:mi S S'
 os:w'.os=w.os
 tape:w'.tape=w.tape
 output:w'.output=w.output
 size:w.heap.size≤w'.heap.size
 rest:∀ k,k<w.heap.size→(∀ b B,g b=some B→(m b).1 ≠ k)→w'.heap[k]? =w.heap[k]?
 img:∀ b B,g' b=some B→w.heap.size≤(m' b).1∨(∃ B0,g b=some B0∧(m' b).1=(m b).1)
 sealN:∀ k o v,S' k o=some v→S k o=some v∨w.heap.size≤k∨∃ b B,g b=some B∧(m b).1=k
theorem Fr.refl (g:dR) (m:bf) (S:aW) (w:World):Fr g m S w g m S w:=
 ⟨Ge.refl g m,mi.refl S,rfl,rfl,rfl,Nat.le_refl _,fun _ _ _=>rfl,fun _ B h=> .inr ⟨B,h,rfl⟩,fun _ _ _ h=> .inl h⟩
theorem Fr.trans {g g' n:dR} {m t j:bf} {S S' S'':aW} {w w' i:World} (h:Fr g m S w g' t S' w') (d:Fr g' t S' w' n j S'' i):Fr g m S w n j S'' i:=by
 refine ⟨h.ge.trans d.ge,h.sle.trans d.sle,d.os.trans h.os,d.tape.trans h.tape,d.output.trans h.output,Nat.le_trans h.size d.size, ?_, ?_, ?_⟩
 ·intro k r s
  rw [d.rest k (Nat.lt_of_lt_of_le r h.size) ?_,h.rest k r s]
  intro b B l e
  rcases h.img b B l with c|⟨B0,a,c⟩
  ·omega
  ·exact s b B0 a (c ▸ e)
 ·intro b B l
  rcases d.img b B l with c|⟨B0,a,c⟩
  ·exact .inl (Nat.le_trans h.size c)
  ·rcases h.img b B0 a with p|⟨B1,q,p⟩
   ·exact .inl (c ▸ p)
   ·exact .inr ⟨B1,q,c.trans p⟩
 ·intro k o v u
  rcases d.sealN k o v u with f|f|⟨b,B,l,f⟩
  ·exact h.sealN k o v f
  ·exact .inr (.inl (Nat.le_trans h.size f))
  ·rcases h.img b B l with c|⟨B0,a,c⟩
   ·exact .inr (.inl (f ▸ c))
   ·exact .inr (.inr ⟨b,B0,a,by rw [← f,c]⟩)
theorem bY.lt {ap:AP} {g:dR} {m:bf} {S:aW} {w:World} (h:bY ap g m S w) {b:Nat} {B:bi} (a:g b=some B):(m b).1<w.heap.size:=by
 obtain ⟨cur,e,vs,rest,c,_⟩:=(h.blk b B a).lies
 exact c.lt
theorem bY.one {ap:AP} {g:dR} {m:bf} {S:aW} {w:World} (h:bY ap g m S w) {k o:Nat} {v:Value} (a:S k o=some v) (b:v.oneCell'=true):w.cell? ⟨k,o,none⟩=some v:=uK (h.sealed k o v a) b
theorem tH {w:World} {k j:Nat} {cur:Array Value} {e:TypeId} {a:Nat × Nat} (h:w.heap[k]? =some (.cells cur e a)):w.cell? ⟨k,j,none⟩=cur.toList[j]? :=by
 rw [cell_of_row w k j cur e a h];simp
theorem jP.get {w:World} {k z j:Nat} {cur:Array Value} {e:TypeId} {u:Value} (h:jP w k z cur e) (a:cur.toList[j]? =some u) (c:z ≠ je→u.oneCell'=true):dW w k j=some u:=by
 rcases h with ⟨d,h⟩|⟨_,f,b,h,rfl⟩
 ·exact BV (by rw [tH h];exact a) (c d)
 ·unfold dW;rw [h];simpa using a
theorem jb {a b:IntKind} (h:jC a b=true):a=b:=by cases a<;>cases b<;>first|rfl|(exact absurd h (by decide))
theorem aO {a b:Nat} (h:Nat.beq a b=true):a=b:=Nat.eq_of_beq_eq_true h
theorem gQ {a b:Nat} (h:Nat.ble a b=true):a≤b:=Nat.le_of_ble_eq_true h
theorem gm {a b:Nat} (h:Nat.blt a b=true):a<b:=by
 have:Nat.ble (a+1) b=true:=h
 exact gQ this
theorem aat {S:aW} {x:AV} {v:Value} (h:PR S x v) (a:nI x=true):v.oneCell'=true:=by
 cases x<;>simp only [PR] at h<;>first
  |(subst h;rfl)
  |(rcases h with ⟨rfl,_⟩|⟨_,_,_,rfl,_⟩<;>rfl)
  |(obtain ⟨_,_,_,rfl,_⟩:=h;rfl)
  |(obtain ⟨_,_,rfl,_⟩:=h;rfl)
  |(obtain ⟨_,rfl,_⟩:=h;first|rfl|exact absurd a (by simp [nI]))
  |(exact absurd a (by simp [nI]))
theorem L_ {g:dR} {m:bf} {S:aW} {x:AV} {v:Value} (h:VR g m S x v) (a:nI x=true):v.oneCell'=true:=by
 cases x<;>simp only [VR] at h<;>first
  | (exact aat h a)
    |(obtain ⟨_,_,_,⟨_,_,rfl⟩,_⟩:=h;rfl)
  |(obtain ⟨_,_,_,⟨_,_,_,rfl⟩,_⟩:=h;rfl)
  |(obtain ⟨_,_,rfl,_⟩:=h;rfl)
  |(obtain ⟨_,rfl,_⟩:=h;first|rfl|exact absurd a (by simp [nI]))
  |(exact absurd a (by simp [nI]))
end AM
namespace AM
open Go
structure EP (P:Program) (t:Nat) (ti:TI) (i:TypeInfo) (d:TypeDesc) (z:Value):Prop where
 info:P.info? t=some i
 und:P.underlying t=some d
 d_eq:ti.d=jI P (some d)
 size:ti.size=i.size
 bytes:ti.bytes=i.bytes
 zero:i.zero=some z
 zcells:ti.zero=z.cells.toList.map DL
 zleaf:∀ x ∈ ti.zero,nI x=true
 zsize:z.cells.size=i.size
 lks:ti.lks.length=i.size
 pos:0<i.size
 zagg:ado i d=true
 fld:TY P d=true
 small:i.size<je
theorem fA {P:Program} {ap:AP} (f:jd P ap) {t:Nat} {c:TI} (h:ap.tyAt t=some c):∃ i d z,EP P t c i d z:=by
 have a:=f.ty t c h
 unfold VU at a
 cases b:P.info? t with
 |none=>simp [b] at a
 | some i=>
  cases e:P.underlying t with
  |none=>simp [b,e] at a
  | some d=>
   simp only [b,e] at a
   split at a
   ·rename_i n
    simp only [Bool.and_eq_true] at n
    obtain ⟨⟨⟨⟨⟨⟨v,k⟩,q⟩,s⟩,p⟩,r⟩,u⟩:=n
    cases j:i.zero with
    |none=>simp [j] at r
    | some z=>
     cases a
     have l:EO i=z.cells.toList.map DL:=by simp [EO,j]
     refine ⟨i,d,z,b,e,rfl,rfl,rfl,j,l, ?_, ?_,aO v,gm p,k.1,k.2,gm u⟩
     ·intro x o;exact List.all_eq_true.1 q x o
     ·have:=aO s
      rw [l] at this
      simpa using this
   ·cases a
theorem iE {P:Program} {d:TypeDesc} {e:Nat} (h:jI P (some d)= .slice e):d= .slice e:=by cases d<;>simp [jI] at h;subst h;rfl
theorem yE {P:Program} {d:TypeDesc} {n e:Nat} (h:jI P (some d)= .array n e):d= .array n e:=by cases d<;>simp [jI] at h;obtain ⟨rfl,rfl⟩:=h;rfl
theorem w_ {P:Program} {d:TypeDesc} (h:jI P (some d)= .str):d= .string:=by cases d<;>simp [jI] at h;rfl
theorem VS {P:Program} {d:TypeDesc} {k:IntKind} (h:jI P (some d)= .int k):d= .int k:=by cases d<;>simp [jI] at h;subst h;rfl
theorem Zb {P:Program} {d:TypeDesc} (h:jI P (some d)= .bool):d= .bool:=by cases d<;>simp [jI] at h;rfl
theorem vg {P:Program} {d:TypeDesc} {a:List (Nat × Nat × Nat)} (h:jI P (some d)= .struct a):
  ∃ fields:Array Field,d= .struct fields∧a=fields.toList.map fun f=>(f.offset,f.type,match P.info? f.type with|some i=>i.size|none=>0):=by
 cases d<;>simp [jI] at h
 exact ⟨_,rfl,h.symm⟩
theorem ED {P:Program} (d:TypeDesc):Iy (jI P (some d))=d.isRow:=by cases d<;>simp [jI,Iy,TypeDesc.isRow]
theorem FH (S:aW) (v:Value):PR S (IM v) v:=by
 cases v<;>simp only [IM,PR]
 case pointer a=>cases a<;>simp only [PR]
 case map a=>
  cases a with
  |none=>simp [PR]
  |some _=>simp only [PR]
 case slice a n c=>
  split<;>simp only [PR]
theorem Js (S:aW) (v:Value):PR S (DL v) v:=by
 cases v<;>simp only [DL]<;>try exact FH S _
 case agg cs=>
  simp only [PR]
  refine ⟨cs.toList,by simp, ?_⟩
  induction cs.toList with
  |nil=>simp [dK]
  |cons c r ih=>simp only [List.map_cons,dK];exact ⟨FH S c,ih⟩
 case tuple vs=>
  split
  ·rename_i h
   simp only [PR]
   exact ⟨[],by rw [← h],by simp [dK]⟩
  ·simp only [PR]
theorem vM (S:aW):∀ l:List Value,dK S (l.map DL) l
 | []=>by simp [dK]
 |v::r=>by simp only [List.map_cons,dK];exact ⟨Js S v,vM S r⟩
theorem aau {g:dR} {m:bf} {S:aW} {k:LK} {c:AV} {v:Value} (h:VR g m S c v) (f:gV k c=true):VR g m S (eta k c) v:=by
 cases k<;>cases c<;>simp [gV] at f<;>simp only [eta,AV.toInt,AV.toBool,AV.toStr,AV.slX,AV.slN]<;>try exact h
 ·rw [jb f];exact h
 ·simp only [VR,PR] at h ⊢
  subst h
  exact ⟨none,0,rfl,Nat.le_refl _,.inl ⟨rfl,trivial,trivial,trivial,rfl⟩⟩
 ·simp only [VR,PR] at h ⊢
  obtain ⟨a,b,e,d,q⟩:=h
  refine ⟨a,b,e,d, ?_⟩
  rcases q with ⟨l,_,i,n,j⟩|q
  ·exact .inl ⟨l,trivial,i,n,j⟩
  ·exact .inr q
theorem zK {k:LK} {c:AV} (h:gV k c=true):c ≠ .dead:=by intro e;subst e;cases k<;>simp [gV] at h
theorem getD_some {a:List AV} {i:Nat} (h:a.getD i .dead ≠ .dead):a[i]? =some (a.getD i .dead):=by
 rw [List.getD_eq_getElem?_getD] at h ⊢
 cases b:a[i]? with
 |none=>simp [b] at h
 |some x=>simp
theorem nD (b:List AV) (a:Nat):(b.drop a).headD .dead=b.getD a .dead:=by
 rw [List.headD_eq_head?_getD,List.head?_drop,List.getD_eq_getElem?_getD]
theorem QU (ty:Bool) (b:List AV) (a:Nat):yt ty [] b a= []:=rfl
theorem wW (ty:Bool) (k:LK) (ks:List LK) (b:List AV) (a:Nat):yt ty (k::ks) b a=(match ty with|true=>eta k (b.getD a .dead)|false=>b.getD a .dead)::yt ty ks b (a+1):=by
 show _::Pq ty ks (b.drop a).tail=_::Pq ty ks (b.drop (a+1))
 rw [List.tail_drop]
 cases ty<;>simp only [nD]
theorem Qa (ty:Bool) (k:LK) (ks:List LK) (b:List AV) (a:Nat):H8 ty (k::ks) b a=(match ty with|true=>gV k (b.getD a .dead)|false=>gV .oth (b.getD a .dead))::H8 ty ks b (a+1):=by
 show _::S9 ty ks (b.drop a).tail=_::S9 ty ks (b.drop (a+1))
 rw [List.tail_drop]
 cases ty<;>simp only [nD]
theorem oU {g:dR} {m:bf} {S:aW} (ty:Bool) {f:List AV} {vs:List Value} (l:bF g m S f vs):∀ (lks:List LK) (a:Nat),(∀ b ∈ H8 ty lks f a,b=true)→
  ∃ e:List Value,e.length=lks.length∧(∀ j u,e[j]? =some u→vs[a+j]? =some u)∧bF g m S (yt ty lks f a) e:=by
 intro lks
 induction lks with
 |nil=>exact fun a _=> ⟨[],rfl,fun _ _ h=>by simp at h,by simp [QU,bF]⟩
 | cons k ks ih=>
  intro a h
  simp only [Qa,List.mem_cons,forall_eq_or_imp] at h
  obtain ⟨e,p,n,o⟩:=ih (a+1) h.2
  have key:∃ v,vs[a]? =some v∧VR g m S ((yt ty (k::ks) f a).headD .dead) v:=by
   rw [wW]
   cases ty with
   |true=>
    obtain ⟨v,d,c⟩:=qO l a (getD_some (zK h.1))
    exact ⟨v,d,aau c h.1⟩
   |false=>
    obtain ⟨v,d,c⟩:=qO l a (getD_some (zK h.1))
    exact ⟨v,d,c⟩
  obtain ⟨v,d,c⟩:=key
  rw [wW] at c
  refine ⟨v::e,by simp [p], ?_, ?_⟩
  ·intro j u i
   cases j with
   |zero=>simp at i;subst i;simpa using d
   |succ j=>simp at i;rw [show a+(j+1)=a+1+j from by omega];exact n j u i
  ·simp only [wW,bF];exact ⟨c,o⟩
theorem Dv {P:Program} {w:World} {t:Nat} {h:TI} {i:TypeInfo} {d:TypeDesc} {z:Value} (f:EP P t h i d z) {g:dR} {m:bf} {S:aW} {o:List AV} {e:List Value} {k a:Nat}
  (hl:e.length=h.lks.length) (hu:∀ j u,e[j]? =some u→w.cell? ⟨k,a+j,none⟩=some u) (hr:bF g m S o e) {v:AV} (hv:qC h o=some v):
  ∃ cv,(loadVar t ⟨k,a,none⟩).run P w= .ok cv w∧VR g m S v cv:=by
 unfold qC at hv
 rw [f.d_eq,ED] at hv
 split at hv
 ·rename_i b
  cases hv
  refine ⟨.agg e.toArray,run_loadVar_mid w k a t e d hu f.und b (by simp [f.info,hl,f.lks]), ?_⟩
  simp only [VR];exact ⟨e,rfl,hr⟩
 ·rename_i b
  split at hv
  ·rename_i c
   cases hv
   cases e with
   |nil=>simp [bF] at hr
   | cons u r=>
    simp only [bF] at hr
    refine ⟨u, ?_,hr.1⟩
    have l:(isAgg t).run P w= .ok false w:=by
     unfold isAgg;rw [Sem.run_bind,run_underlying f.und w]
     cases d<;>simp_all [TypeDesc.isRow]
    have n:=hu 0 u rfl
    simp only [Nat.add_zero] at n
    simp [loadVar,l,n]
  ·cases hv
theorem bind_some {α β:Type} {x:Option α} {f:α→Option β} {b:β} (h:x.bind f=some b):∃ a,x=some a∧f a=some b:=by
 cases x with
 |none=>simp at h
 |some a=>exact ⟨a,rfl,h⟩
theorem aT {v b:AV} {bs a:List Bool} {ups:List (Nat × bi)} (h:bH v bs=some (b,ups,a)):b=v∧ups= []∧a=bs:=by
 unfold bH at h;cases h;exact ⟨rfl,rfl,rfl⟩
section
variable {P:Program} {ap:AP} {g:dR} {m:bf} {S:aW} {w:World}
theorem zS (L:bY ap g m S w) {rd:dR} (A:∀ b B,rd b=some B→g b=some B) {t:Nat} {x:TI} {i:TypeInfo} {d:TypeDesc} {z:Value} (M:EP P t x i d z)
  {p v:AV} {cp:Value} (hp:VR g m S p cp) {ups:List (Nat × bi)} {bs:List Bool} (h:Ky x rd p=some (v,ups,bs)) (hbs:∀ b ∈ bs,b=true):
  ups= []∧∃ cv,(Instr.loadAt t cp).run P w= .ok cv w∧VR g m S v cv:=by
 unfold Ky at h
 split at h
 ·rename_i T f
  obtain ⟨O,l,h⟩:=bind_some h
  obtain ⟨rfl,rfl,rfl⟩:=aT h
  simp only [VR,PR] at hp
  obtain ⟨b,o,vs,rfl,hp,hs⟩:=hp
  obtain ⟨N,J,D,E⟩:=oU (g:=g) (m:=m) true (bV _ hp) x.lks f hbs
  obtain ⟨cv,I,y⟩:=Dv (w:=w) M (k:=b) (a:=o+f) J (fun j u F=>by
   have K:=hs (f+j) u (D j u F);have:=L.one K.1 K.2;rw [Nat.add_assoc];exact this) E l
  exact ⟨rfl,cv,by simpa [Instr.loadAt,Instr.sureAddr] using I,y⟩
 ·rename_i b ver f
  obtain ⟨B,R,h⟩:=bind_some h
  split at h
  ·rename_i c
   obtain ⟨O,l,h⟩:=bind_some h
   obtain ⟨rfl,rfl,rfl⟩:=aT h
   simp only [VR] at hp
   obtain ⟨B',r,_,_,q⟩:=hp
   have s:=A b B R
   rw [s] at r;cases r
   simp only [Bool.and_eq_true,Bool.not_eq_true'] at c
   have C:B.esz ≠ je:=fun e=>by rw [e] at c;exact absurd c.2 (by decide)
   have q:=q (aO c.1)
   subst q
   obtain ⟨cur,e,vs,rest,H,Q,_,G,_⟩:=(L.blk b B s).lies
   have H:=H.cells C
   obtain ⟨N,J,D,E⟩:=oU _ G x.lks f hbs
   obtain ⟨cv,I,y⟩:=Dv (w:=w) M (k:=(m b).1) (a:=f) J (fun j u F=>by
    have n:=D j u F
    rw [tH H,Q,List.getElem?_append_left (List.getElem?_eq_some_iff.1 n).1]
    exact n) E l
   exact ⟨rfl,cv,by simpa [Instr.loadAt,Instr.sureAddr] using I,y⟩
  ·cases h
 ·cases h
theorem DN {p d:AV} {f:Value} (hp:VR g m S p f) {o:Nat} (h:U5 p o=some d):∃ a:Addr,f= .pointer (some a)∧VR g m S d (.pointer (some (a.add o))):=by
 unfold U5 at h
 split at h<;>cases h
 ·rename_i b ver c
  simp only [VR] at hp
  obtain ⟨B,j,n,⟨k,i,rfl⟩,q⟩:=hp
  refine ⟨_,rfl, ?_⟩
  simp only [VR]
  refine ⟨B,j,n,⟨k,i+o,by rw [Addr.add_mid]⟩,fun e=> ?_⟩
  have q:=q e
  simp only [Value.pointer.injEq,Option.some.injEq,Addr.mk.injEq] at q
  obtain ⟨r,l,_⟩:=q
  rw [Addr.add_mid,r,l]
 ·rename_i s c
  simp only [VR,PR] at hp
  obtain ⟨b,k,vs,rfl,hp,hs⟩:=hp
  refine ⟨_,rfl, ?_⟩
  simp only [VR,PR]
  exact ⟨b,k,vs,by rw [Addr.add_mid,Nat.add_assoc],hp,hs⟩
end
end AM
namespace AM
open Go
section
variable {P:Program} {ap:AP} {g:dR} {m:bf} {S:aW} {w:World}
theorem dw {b:Bool} {l:List Bool} (h:∀ x ∈ b::l,x=true):b=true∧∀ x ∈ l,x=true:=⟨h b (by simp),fun x a=>h x (by simp [a])⟩
theorem kH {t:Nat} {a:TI} {i:TypeInfo} {d:TypeDesc} {z:Value} (b:EP P t a i d z) (w:World):(Go.sizeOf t).run P w= .ok a.size w:=by
 simp [Go.sizeOf,typeInfo,b.info,b.size]
theorem zO {x:AV} {a:Value} (b:VR g m S x a) {n:Int} (h:OY x=some n):∃ k,a= .int k n:=by
 cases x<;>simp [OY] at h
 subst h
 simp only [VR,PR] at b
 exact ⟨_,b⟩
theorem Am {t:Nat} {l:TI} {i:TypeInfo} {d:TypeDesc} {z:Value} (y:EP P t l i d z) {n:List (Nat × Nat × Nat)} (q:l.d= .struct n) {f o B x:Nat} (r:n[f]? =some (o,B,x)) (c:Nat.blt 0 x=true)
  {p v:AV} {cp:Value} (hp:VR g m S p cp) (k:U5 p o=some v):∃ cv,(Instr.fieldAt t cp f).run P w= .ok cv w∧VR g m S v cv:=by
 rw [y.d_eq] at q
 obtain ⟨fields,rfl,rfl⟩:=vg q
 simp only [List.getElem?_map,Option.map_eq_some_iff] at r
 obtain ⟨s,h,u⟩:=r
 simp only [Prod.mk.injEq] at u
 obtain ⟨rfl,rfl,hs⟩:=u
 obtain ⟨a,rfl,k⟩:=DN hp k
 refine ⟨_, ?_,k⟩
 have b:fields[f]? =some s:=by simpa using h
 cases e:P.info? s.type with
 |none=>rw [e] at hs;simp only at hs;subst hs;exact absurd (gm c) (by omega)
 |some j=>
  rw [e] at hs
  have A:j.size ≠ 0:=by have:=gm c;simp only at hs;omega
  simp [Instr.fieldAt,run_underlying y.und,b,Instr.sureAddr,fieldPlace,Go.sizeOf,typeInfo,e,A]
theorem nK {i:Int} {n:Nat} (h0:decide (0≤i)=true) (c:decide (i<n)=true):0≤i∧i<n∧i.toNat<n:=by
 have a:=of_decide_eq_true h0
 have b:=of_decide_eq_true c
 omega
theorem yS (s:jd P ap) {rd:dR} (G:∀ b B,rd b=some B→g b=some B) {t:Nat} {I:TI} {i:TypeInfo} {d:TypeDesc} {z:Value} (A:EP P t I i d z)
  {x ix v:AV} {cx ci:Value} (hx:VR g m S x cx) (hi:VR g m S ix ci) {ups:List (Nat × bi)} {bs:List Bool} (h:wP ap I rd x ix=some (v,ups,bs)) (hbs:∀ b ∈ bs,b=true):
  ups= []∧∃ cv,(Instr.indexAt t cx ci).run P w= .ok cv w∧VR g m S v cv:=by
 unfold wP at h
 have l:=bind_some h;clear h;obtain ⟨n,O,h⟩:=l
 obtain ⟨k,rfl⟩:=zO hi O
 split at h
 ·rename_i e r
  have l:=bind_some h;clear h;obtain ⟨F,c,h⟩:=l
  obtain ⟨Q,M,W,c⟩:=fA s c
  rw [A.d_eq] at r
  have r:=iE r
  subst r
  split at h
  ·rename_i Z y nn
   obtain ⟨rfl,rfl,rfl⟩:=aT h
   obtain ⟨u,f⟩:=dw hbs
   obtain ⟨f,_⟩:=dw f
   obtain ⟨h0,D,J⟩:=nK u f
   simp only [VR,PR] at hx
   obtain ⟨a,U,rfl,N,q⟩:=hx
   rcases q with ⟨_,_,_,q,_⟩|⟨b,o,vs,rfl,hp,hs⟩
   ·subst q;omega
   ·refine ⟨rfl,.pointer (some ⟨b,o+n.toNat*F.size,none⟩), ?_, ?_⟩
    ·simp [Instr.indexAt,asIntOf,run_underlying A.und,h0,D,kH c,Addr.add_mid]
    ·simp only [VR,PR];exact ⟨b,o,vs,rfl,hp,hs⟩
  ·rename_i b ver j y
   have l:=bind_some h;clear h;obtain ⟨B,T,h⟩:=l
   split at h
   ·rename_i E
    simp only [Bool.and_eq_true] at E
    obtain ⟨rfl,rfl,rfl⟩:=aT h
    obtain ⟨u,f⟩:=dw hbs
    obtain ⟨f,_⟩:=dw f
    obtain ⟨h0,D,J⟩:=nK u f
    simp only [VR] at hx
    obtain ⟨B',C,K,_,q⟩:=hx
    have L:=G b B T
    rw [L] at C;cases C
    obtain ⟨o,rfl,X,V,Y⟩:=q (aO E.1)
    have R:=V (by omega)
    have H:=aO E.2
    refine ⟨rfl,.pointer (some ⟨(m b).1,(j+n.toNat)*F.size,none⟩), ?_, ?_⟩
    ·rw [R,H]
     simp [Instr.indexAt,asIntOf,run_underlying A.und,h0,D,kH c,Addr.add_mid,Nat.add_mul]
    ·simp only [VR];exact ⟨B,L,by have:=aO E.1;omega,⟨_,_,rfl⟩,fun _=>trivial⟩
   ·cases h
  ·cases h
 ·rename_i y e r
  have l:=bind_some h;clear h;obtain ⟨F,c,h⟩:=l
  obtain ⟨Q,M,W,c⟩:=fA s c
  have l:=bind_some h;clear h;obtain ⟨p,hp,h⟩:=l
  obtain ⟨rfl,rfl,rfl⟩:=aT h
  rw [A.d_eq] at r
  have r:=yE r
  subst r
  obtain ⟨u,f⟩:=dw hbs
  obtain ⟨f,_⟩:=dw f
  obtain ⟨h0,D,J⟩:=nK u f
  obtain ⟨a,rfl,K⟩:=DN hx hp
  refine ⟨rfl,_, ?_,K⟩
  simp [Instr.indexAt,asIntOf,run_underlying A.und,h0,D,kH c,Instr.sureAddr]
 ·cases h
theorem DV {t:Nat} {f:TI} {i:TypeInfo} {d:TypeDesc} {z:Value} (l:EP P t f i d z) {vs b:List Value} {o:List AV} {e:Nat}
  (hl:b.length=f.lks.length) (hu:∀ j u,b[j]? =some u→vs[e+j]? =some u) (hr:bF g m S o b) {v:AV} (hv:qC f o=some v):
  ∃ cv,(part t vs.toArray e).run P w= .ok cv w∧VR g m S v cv:=by
 have h:(isAgg t).run P w= .ok d.isRow w:=by
  unfold isAgg;rw [Sem.run_bind,run_underlying l.und w]
  cases d<;>simp [TypeDesc.isRow]
 unfold qC at hv
 rw [l.d_eq,ED] at hv
 split at hv
 ·rename_i a
  cases hv
  have p:(vs.drop e).take f.size=b:=by
   apply List.ext_getElem?
   intro j
   rw [List.getElem?_take,List.getElem?_drop]
   have q:f.size=b.length:=by rw [hl,l.lks,l.size]
   split
   ·rename_i s
    have k:j<b.length:=by omega
    have:=hu j b[j] (List.getElem?_eq_getElem k)
    rw [this,List.getElem?_eq_getElem k]
   ·rename_i s
    rw [List.getElem?_eq_none (by omega)]
  refine ⟨.agg b.toArray, ?_, ?_⟩
  ·simp [part,h,a,kH l,p]
  ·simp only [VR];exact ⟨b,rfl,hr⟩
 ·rename_i a
  split at hv
  ·rename_i c
   cases hv
   cases b with
   |nil=>simp [bF] at hr
   |cons u r=>
    simp only [bF] at hr
    refine ⟨u, ?_,hr.1⟩
    have n:=hu 0 u rfl
    simp only [Nat.add_zero] at n
    have a:d.isRow=false:=by simpa using a
    simp [part,h,a,n]
  ·cases hv
theorem Il (k:jd P ap) {t:Nat} {p:TI} {i:TypeInfo} {d:TypeDesc} {z:Value} (s:EP P t p i d z) {x v:AV} {r:Value} (j:VR g m S x r) {f:Nat} {ups:List (Nat × bi)} {bs:List Bool}
  (h:Nb ap p x f=some (v,ups,bs)) (hbs:∀ b ∈ bs,b=true):ups= []∧∃ cv,(Instr.field t r f).run P w= .ok cv w∧VR g m S v cv:=by
 unfold Nb at h
 split at h
 ·rename_i G O u
  have c:=bind_some h;clear h;obtain ⟨⟨o,M,K⟩,y,h⟩:=c
  have c:=bind_some h;clear h;obtain ⟨tf,a,h⟩:=c
  have c:=bind_some h;clear h;obtain ⟨J,n,h⟩:=c
  obtain ⟨rfl,rfl,rfl⟩:=aT h
  obtain ⟨L,I,N,a⟩:=fA k a
  rw [s.d_eq] at u
  obtain ⟨fields,rfl,rfl⟩:=vg u
  simp only [List.getElem?_map,Option.map_eq_some_iff] at y
  obtain ⟨q,l,A⟩:=y
  simp only [Prod.mk.injEq] at A
  obtain ⟨rfl,rfl,hs⟩:=A
  simp only [VR] at j
  obtain ⟨vs,rfl,j⟩:=j
  obtain ⟨H,E,C,D⟩:=oU false j tf.lks q.offset hbs
  obtain ⟨cv,F,B⟩:=DV (w:=w) a E C D n
  have e:fields[f]? =some q:=by simpa using l
  refine ⟨rfl,cv, ?_,B⟩
  simp [Instr.field,run_underlying s.und,e,asAgg,F]
 ·cases h
theorem Ua (s:List UInt8) (i:Nat) (h:i<s.length):(⟨s.toArray⟩:ByteArray)[i]? =some (s.getD i 0):=by
 have hs:i<(⟨s.toArray⟩:ByteArray).size:=by simpa [ByteArray.size] using h
 rw [getElem?_pos _ i hs]
 simp only [ByteArray.getElem_eq_getElem_data,List.getElem_toArray]
 rw [List.getD_eq_getElem?_getD,List.getElem?_eq_getElem h]
 rfl
theorem Iu (q:jd P ap) {t:Nat} {A:TI} {i:TypeInfo} {d:TypeDesc} {z:Value} (o:EP P t A i d z) {x E v:AV} {D ci:Value} (j:VR g m S x D) (L:VR g m S E ci) {ups:List (Nat × bi)} {bs:List Bool}
  (h:Nk ap A x E=some (v,ups,bs)) (hbs:∀ b ∈ bs,b=true):ups= []∧∃ cv,(Instr.index t D ci).run P w= .ok cv w∧VR g m S v cv:=by
 unfold Nk at h
 have l:=bind_some h;clear h;obtain ⟨n,K,h⟩:=l
 obtain ⟨k,rfl⟩:=zO L K
 split at h
 ·rename_i s a
  obtain ⟨rfl,rfl,rfl⟩:=aT h
  obtain ⟨r,f⟩:=dw hbs
  obtain ⟨f,_⟩:=dw f
  obtain ⟨h0,F,B⟩:=nK r f
  rw [o.d_eq] at a
  have a:=w_ a
  subst a
  simp only [VR,PR] at j
  subst j
  refine ⟨rfl,.int .u8 (s.getD n.toNat 0).toNat, ?_,by simp only [VR,PR]⟩
  simp [Instr.index,asIntOf,run_underlying o.und,h0,Ua s n.toNat B]
 ·rename_i J e U a
  have l:=bind_some h;clear h;obtain ⟨C,c,h⟩:=l
  have l:=bind_some h;clear h;obtain ⟨Q,y,h⟩:=l
  obtain ⟨rfl,rfl,rfl⟩:=aT h
  obtain ⟨R,O,T,c⟩:=fA q c
  obtain ⟨r,f⟩:=dw hbs
  obtain ⟨f,G⟩:=dw f
  obtain ⟨h0,F,B⟩:=nK r f
  rw [o.d_eq] at a
  have a:=yE a
  subst a
  simp only [VR] at j
  obtain ⟨vs,rfl,j⟩:=j
  obtain ⟨N,M,H,I⟩:=oU true j C.lks (n.toNat*C.size) G
  obtain ⟨cv,u,p⟩:=DV (w:=w) c M H I y
  refine ⟨rfl,cv, ?_,p⟩
  simp [Instr.index,asIntOf,run_underlying o.und,h0,F,kH c,u]
 ·cases h
end
end AM
namespace AM
open Go
section
variable {P:Program} {ap:AP} {g:dR} {m:bf} {S:aW} {w:World}
def BC (g:dR) (m:bf) (S:aW) (x:Option AV) (c:Option Value):Prop:=
 match x,c with
 |none,none=>True
 |some x,some c=>VR g m S x c
 |_,_=>False
theorem iC {x:Option AV} {c:Option Value} (h:BC g m S x c) {d n:Int} (a:nN x d=some n):(x=none∧c=none∧n=d)∨∃ k,c=some (.int k n):=by
 cases x with
 |none=>cases c with
  |none=>simp [nN] at a;exact .inl ⟨rfl,rfl,a.symm⟩
  |some c=>simp [BC] at h
 | some x=>cases c with
  |none=>simp [BC] at h
  |some c=>
   cases x<;>simp [nN] at a
   subst a
   simp only [BC,VR,PR] at h
   subst h
   exact .inr ⟨_,rfl⟩
theorem rM (P:Program) (w:World) (e:Bool) (b a:Nat) (c f:Option Value) (l h:Int)
  (hl:(c=none∧l=0)∨∃ k,c=some (.int k l)) (j:(f=none∧h=b)∨∃ k,f=some (.int k h)) (h0:0≤l) (h1:l≤h) (h2:h≤a):
  (Instr.sliceBounds e b a c f none).run P w= .ok (l.toNat,h.toNat,a) w:=by
 have i:0≤h:=by omega
 rcases hl with ⟨rfl,rfl⟩|⟨k,rfl⟩<;>rcases j with ⟨rfl,rfl⟩|⟨o,rfl⟩
 ·simp [Instr.sliceBounds]
 ·simp [Instr.sliceBounds,Instr.sliceBound,asIntOf,h2,i]
 ·have d:l≤(b:Int):=h1
  simp [Instr.sliceBounds,Instr.sliceBound,asIntOf,h0,d]
 ·simp [Instr.sliceBounds,Instr.sliceBound,asIntOf,h0,h2,i]
  intro n;omega
theorem JZ (s:List UInt8) (l h:Nat):(⟨s.toArray⟩:ByteArray).extract l h=⟨((s.take h).drop l).toArray⟩:=by
 apply ByteArray.ext
 rw [ByteArray.data_extract]
 apply Array.ext'
 simp [List.extract_eq_take_drop,List.drop_take]
theorem yB (s:List UInt8):(⟨s.toArray⟩:ByteArray).size=s.length:=by simp [ByteArray.size]
theorem kP.drop {b o:Nat} {vs:List Value} (h:kP S b o vs) (n:Nat):kP S b (o+n) (vs.drop n):=by
 intro j u a
 rw [List.getElem?_drop] at a
 rw [Nat.add_assoc]
 exact h _ _ a
theorem kP.take {b o:Nat} {vs:List Value} (h:kP S b o vs) (n:Nat):kP S b o (vs.take n):=by
 intro j u a
 rw [List.getElem?_take] at a
 split at a
 ·exact h _ _ a
 ·cases a
theorem aav {a b c:Bool} (h:∀ x ∈ [a,b,c],x=true):a=true∧b=true∧c=true:=⟨h a (by simp),h b (by simp),h c (by simp)⟩
theorem Fe {α:Type} (a:List α) (n:Nat):(a.take n).drop n= []:=by
 apply List.drop_eq_nil_of_le;simp;omega
theorem I_ (G:jd P ap) {rd:dR} (L:∀ b B,rd b=some B→g b=some B) {t:Nat} {N:TI} {i:TypeInfo} {d:TypeDesc} {z:Value} (E:EP P t N i d z)
  {x v:AV} {cx:Value} (hx:VR g m S x cx) {lo hi mx:Option AV} {clo chi cmx:Option Value} (hlo:BC g m S lo clo) (hhi:BC g m S hi chi) (hmx:BC g m S mx cmx)
  {ups:List (Nat × bi)} {bs:List Bool} (h:Oc ap N rd x lo hi mx=some (v,ups,bs)) (hbs:∀ b ∈ bs,b=true):
  ups= []∧∃ cv,(Instr.sliceAt t cx clo chi cmx).run P w= .ok cv w∧VR g m S v cv:=by
 have p:mx=none→cmx=none:=by intro e;subst e;cases cmx<;>simp [BC] at hmx ⊢
 unfold Oc at h
 split at h
 ·rename_i s k
  have c:=bind_some h;clear h;obtain ⟨l,I,h⟩:=c
  have c:=bind_some h;clear h;obtain ⟨u,H,h⟩:=c
  obtain ⟨rfl,rfl,rfl⟩:=aT h
  obtain ⟨r,y,C⟩:=aav hbs
  have r:=of_decide_eq_true r
  have y:=of_decide_eq_true y
  have C:=of_decide_eq_true C
  rw [E.d_eq] at k
  have k:=w_ k
  subst k
  simp only [VR,PR] at hx
  subst hx
  rw [p rfl]
  have F:=rM P w false s.length s.length clo chi l u ((iC hlo I).imp (fun h=> ⟨h.2.1,h.2.2⟩) id) ((iC hhi H).imp (fun h=> ⟨h.2.1,h.2.2⟩) id) r y C
  refine ⟨rfl,.string ⟨((s.take u.toNat).drop l.toNat).toArray⟩, ?_,by simp only [VR,PR]⟩
  rw [← JZ]
  simp [Instr.sliceAt,Instr.slice,run_underlying E.und,yB,F]
 ·rename_i e Y n nn k
  have c:=bind_some h;clear h;obtain ⟨A,f,h⟩:=c
  have c:=bind_some h;clear h;obtain ⟨l,I,h⟩:=c
  have c:=bind_some h;clear h;obtain ⟨u,H,h⟩:=c
  obtain ⟨rfl,rfl,rfl⟩:=aT h
  obtain ⟨U,O,V,f⟩:=fA G f
  obtain ⟨r,y,C⟩:=aav hbs
  have r:=of_decide_eq_true r
  have y:=of_decide_eq_true y
  have C:=of_decide_eq_true C
  rw [E.d_eq] at k
  have k:=iE k
  subst k
  simp only [VR,PR] at hx
  obtain ⟨a,D,rfl,X,q⟩:=hx
  rw [p rfl]
  have F:=rM P w true n D clo chi l u ((iC hlo I).imp (fun h=> ⟨h.2.1,h.2.2⟩) id) ((iC hhi H).imp (fun h=> ⟨h.2.1,h.2.2⟩) id) r y (by omega)
  refine ⟨rfl,.slice (if D=l.toNat then a else a.map (·.add (l.toNat*A.size))) (u.toNat - l.toNat) (D - l.toNat), ?_, ?_⟩
  ·simp [Instr.sliceAt,Instr.slice,run_underlying E.und,F,kH f]
  ·simp only [VR,PR]
   refine ⟨_,_,rfl,by omega, ?_⟩
   rcases q with ⟨rfl,Q,rfl,rfl,rfl⟩|⟨b,o,vs,rfl,hp,hs⟩
   ·refine .inl ⟨by simp,Q,by simp,by omega,by omega⟩
   ·refine .inr ?_
    by_cases J:D=l.toNat
    ·refine ⟨b,o,[],by rw [if_pos J], ?_,fun j u h=>by simp at h⟩
     have e:(Y.take (u.toNat*A.size)).drop (l.toNat*A.size)= []:=by
      have:u.toNat=l.toNat:=by omega
      rw [this,Fe]
     rw [e];simp [dK]
    ·exact ⟨b,o+l.toNat*A.size,(vs.take (u.toNat*A.size)).drop (l.toNat*A.size),by rw [if_neg J];simp [Addr.add_mid],pX _ (kN _ hp),(hs.take _).drop _⟩
 ·rename_i e b ver j n k
  have c:=bind_some h;clear h;obtain ⟨A,f,h⟩:=c
  have c:=bind_some h;clear h;obtain ⟨B,Z,h⟩:=c
  have c:=bind_some h;clear h;obtain ⟨l,I,h⟩:=c
  have c:=bind_some h;clear h;obtain ⟨u,H,h⟩:=c
  split at h
  ·rename_i J
   simp only [Bool.and_eq_true] at J
   obtain ⟨rfl,rfl,rfl⟩:=aT h
   obtain ⟨U,O,V,f⟩:=fA G f
   obtain ⟨r,y,C⟩:=aav hbs
   have r:=of_decide_eq_true r
   have y:=of_decide_eq_true y
   have C:=of_decide_eq_true C
   rw [E.d_eq] at k
   have k:=iE k
   subst k
   simp only [VR] at hx
   obtain ⟨B',K,W,_,q⟩:=hx
   have T:=L b B Z
   rw [T] at K;cases K
   obtain ⟨o,rfl,Q,q2,R⟩:=q (aO J.1)
   have M:=aO J.2
   rw [p rfl]
   have F:=rM P w true n ((m b).2 - j) clo chi l u ((iC hlo I).imp (fun h=> ⟨h.2.1,h.2.2⟩) id) ((iC hhi H).imp (fun h=> ⟨h.2.1,h.2.2⟩) id) r y (by omega)
   refine ⟨rfl,.slice (if (m b).2 - j=l.toNat then some ⟨(m b).1,o,none⟩ else some ⟨(m b).1,o+l.toNat*A.size,none⟩) (u.toNat - l.toNat) ((m b).2 - j - l.toNat), ?_, ?_⟩
   ·simp [Instr.sliceAt,Instr.slice,run_underlying E.und,F,kH f,Addr.add_mid]
   ·simp only [VR]
    refine ⟨B,T,W,(by split<;>exact ⟨_,_,_,rfl⟩),fun _=> ?_⟩
    by_cases hcl:(m b).2 - j=l.toNat
    ·exact ⟨o,by rw [if_pos hcl];congr 1;omega,by omega,fun h=>by omega,R⟩
    ·refine ⟨o+l.toNat*A.size,by rw [if_neg hcl];congr 1;omega,by omega,fun h=> ?_,R⟩
     rw [q2 (by omega),M,Nat.add_mul]
  ·cases h
 ·rename_i e k
  have c:=bind_some h;clear h;obtain ⟨A,f,h⟩:=c
  have c:=bind_some h;clear h;obtain ⟨l,I,h⟩:=c
  have c:=bind_some h;clear h;obtain ⟨u,H,h⟩:=c
  obtain ⟨rfl,rfl,rfl⟩:=aT h
  obtain ⟨U,O,V,f⟩:=fA G f
  have r:=of_decide_eq_true (hbs (decide (l=0)) (by simp))
  have y:=of_decide_eq_true (hbs (decide (u=0)) (by simp))
  subst r
  subst y
  rw [E.d_eq] at k
  have k:=iE k
  subst k
  simp only [VR,PR] at hx
  subst hx
  rw [p rfl]
  have F:=rM P w true 0 0 clo chi 0 0 ((iC hlo I).imp (fun h=> ⟨h.2.1,h.2.2⟩) id) ((iC hhi H).imp (fun h=> ⟨h.2.1,h.2.2⟩) id) (by omega) (by omega) (by omega)
  refine ⟨rfl,.slice none 0 0, ?_,by simp only [VR,PR]⟩
  simp at F
  simp [Instr.sliceAt,Instr.slice,run_underlying E.und,F,kH f]
 ·cases h
theorem NC {x v:AV} {p:Value} (f:VR g m S x p) {t:Nat} {o:TI} {i:TypeInfo} {d:TypeDesc} {z:Value} (k:EP P t o i d z)
  {ups:List (Nat × bi)} {bs:List Bool} (h:Uy o.d x=some (v,ups,bs)) (ats:Array TypeId) (hat:ats[0]? =some t) (args:Array Value) (ha:args[0]? =some p) (ty:Nat):
  ups= []∧∃ cv,(Builtin.len_ ats ty args).run P w= .ok cv w∧VR g m S v cv:=by
 unfold Uy at h
 rw [k.d_eq] at h
 split at h
 ·rename_i n e c
  obtain ⟨rfl,rfl,rfl⟩:=aT h
  have c:=yE c
  subst c
  exact ⟨rfl,.int .i64 n,by simp [Builtin.len_,hat,ha,run_underlying k.und,goInt],by simp only [VR,PR]⟩
 ·rename_i s c
  obtain ⟨rfl,rfl,rfl⟩:=aT h
  have c:=w_ c
  subst c
  simp only [VR,PR] at f
  subst f
  exact ⟨rfl,.int .i64 s.length,by simp [Builtin.len_,hat,ha,run_underlying k.und,goInt,yB],by simp only [VR,PR]⟩
 ·rename_i e q n r c
  obtain ⟨rfl,rfl,rfl⟩:=aT h
  have c:=iE c
  subst c
  simp only [VR,PR] at f
  obtain ⟨a,l,rfl,_⟩:=f
  exact ⟨rfl,.int .i64 n,by simp [Builtin.len_,hat,ha,run_underlying k.und,goInt],by simp only [VR,PR]⟩
 ·rename_i e b ver j n c
  obtain ⟨rfl,rfl,rfl⟩:=aT h
  have c:=iE c
  subst c
  simp only [VR] at f
  obtain ⟨_,_,_,⟨_,_,l,rfl⟩,_⟩:=f
  exact ⟨rfl,.int .i64 n,by simp [Builtin.len_,hat,ha,run_underlying k.und,goInt],by simp only [VR,PR]⟩
 ·rename_i e c
  obtain ⟨rfl,rfl,rfl⟩:=aT h
  have c:=iE c
  subst c
  simp only [VR,PR] at f
  subst f
  exact ⟨rfl,.int .i64 0,by simp [Builtin.len_,hat,ha,run_underlying k.und,goInt],by simp only [VR,PR]⟩
 ·cases h
theorem EF (s:List UInt8):(⟨s.toArray⟩:ByteArray).toList=s:=by rw [ByteArray.toList_eq]
theorem xB:∀ a b:List UInt8,Op.bytesLess a b=iM a b
 |_,[]=>by simp [Op.bytesLess,iM]
 | [],_::_=>by simp [Op.bytesLess,iM]
 |a::x,b::y=>by simp only [Op.bytesLess,iM,xB x y]
def Gh:LK→Value→Value→Option Bool
 | .int k,.int k1 a,.int k2 b=>match jC k k1 && jC k k2 with|true=>some (a==b)|false=>none
 | .bool,.bool a,.bool b=>some (a==b)
 | .str,.string a,.string b=>some (a.toList==b.toList)
 |_,_,_=>none
def g_:List LK→List Value→List Value→Option Bool
 | [],[],[]=>some true
 |k::ks,a::as,b::bs=>(Gh k a b).bind fun c=>(g_ ks as bs).map fun d=>c && d
 |_,_,_=>none
theorem xP:∀ (l e:List LK) (f i:List Value) (r:Bool),g_ (l++e) f i=some r→
  ∃ a b,g_ l (f.take l.length) (i.take l.length)=some a∧g_ e (f.drop l.length) (i.drop l.length)=some b∧r=(a && b)
 | [],e,f,i,r,h=> ⟨true,r,by simp [g_],by simpa using h,by simp⟩
 |k::l,e,[],_,r,h=>by simp [g_] at h
 |k::l,e,_::_,[],r,h=>by simp [g_] at h
 |k::l,e,x::f,y::i,r,h=>by
  simp only [List.cons_append,g_] at h
  obtain ⟨c,o,h⟩:=bind_some h
  rw [Option.map_eq_some_iff] at h
  obtain ⟨d,n,rfl⟩:=h
  obtain ⟨a,b,p,j,rfl⟩:=xP l e f i d n
  exact ⟨c && a,b,by simp [g_,o,p],by simpa using j,by simp [Bool.and_assoc]⟩
theorem vU:∀ (l:List LK) (a b:List Value) (r:Bool),g_ l a b=some r→a.length=l.length∧b.length=l.length
 | [],[],[],_,_=> ⟨rfl,rfl⟩
 |k::l,x::a,y::b,r,h=>by
  simp only [g_] at h
  obtain ⟨c,_,h⟩:=bind_some h
  rw [Option.map_eq_some_iff] at h
  obtain ⟨d,e,_⟩:=h
  have:=vU l a b d e
  simp [this.1,this.2]
 | [],_::_,_,_,h=>by simp [g_] at h
 | [],[],_::_,_,h=>by simp [g_] at h
 |_::_,[],_,_,h=>by simp [g_] at h
 |_::_,_::_,[],_,h=>by simp [g_] at h
def Af (P:Program) (t:TypeId) (xs:List Value):Value:=match P.underlying t with
 |some (.struct _)=> .agg xs.toArray
 |_=>xs.headD undef
def rY (P:Program) (n:Nat) (t:TypeId) (lks:List LK):Prop:=
 ∀ (d:Nat) (w:World) (xs ys:List Value) (r:Bool),n≤d→g_ lks xs ys=some r→(Op.equalIn d t (Af P t xs) (Af P t ys)).run P w= .ok r w
theorem Ad {t:TypeId} {lks:List LK} {n:Nat} (f:qg P n t=some lks) {i:TypeInfo} (o:P.info? t=some i) (hs:i.size=lks.length) (b:List Value) (a:Nat) (k:a+lks.length≤b.length) (w:World):
  (part t b.toArray a).run P w= .ok (Af P t ((b.drop a).take lks.length)) w:=by
 cases n with
 |zero=>simp [qg] at f
 | succ n=>
  unfold qg at f
  cases h:P.underlying t with
  |none=>simp [h] at f
  | some d=>
   have c:(isAgg t).run P w= .ok d.isRow w:=by
    unfold isAgg;rw [Sem.run_bind,run_underlying h w]
    cases d<;>simp [TypeDesc.isRow]
   cases d<;>simp only [h] at f<;>try cases f
   case struct fs=>
    simp only [TypeDesc.isRow] at c
    simp [part,c,Go.sizeOf,typeInfo,o,hs,Af,h]
   all_goals
    simp only [TypeDesc.isRow] at c
    simp only [List.length_cons,List.length_nil,Nat.zero_add] at k
    have l:b[a]? =some (b[a]'(by omega)):=List.getElem?_eq_getElem (by omega)
    simp only [part,Sem.run_bind,c,Result.andThen_ok,Bool.false_eq_true,if_false,Af,h]
    have e:((b.drop a).take [LK.str].length).headD undef=b[a]'(by omega):=by
     rw [List.headD_eq_head?_getD,List.head?_take,List.head?_drop,l];simp
    have j:(b.toArray)[a]? =some (b[a]'(by omega)):=by simp
    rw [j]
    first|exact congrArg (fun v=>Result.ok v w) e.symm|(simp only [List.length_cons,List.length_nil] at e ⊢;exact congrArg (fun v=>Result.ok v w) e.symm)
theorem sG {n:Nat} (s:∀ t lks,qg P n t=some lks→rY P n t lks):∀ (fs:List Field) (off:Nat) (lks:List LK),FZ P (qg P n) fs off=some lks→
  ∀ (d:Nat) (w:World) (xs ys:List Value) (r:Bool),n≤d→xs.length=off+lks.length→ys.length=off+lks.length→g_ lks (xs.drop off) (ys.drop off)=some r→
   (Op.eqFields d xs.toArray ys.toArray fs).run P w= .ok r w
 | [],off,lks,hc,d,w,xs,ys,r,hd,hx,hy,h=>by
  simp [FZ] at hc;subst hc
  have z:xs.drop off= []:=List.drop_eq_nil_of_le (by simp at hx;omega)
  have D:ys.drop off= []:=List.drop_eq_nil_of_le (by simp at hy;omega)
  rw [z,D] at h
  simp [g_] at h;subst h
  simp [Op.eqFields]
 | f ::fs,off,lks,hc,d,w,xs,ys,r,hd,hx,hy,h=>by
  simp only [FZ] at hc
  cases j:qg P n f.type with
  |none=>simp [j] at hc
  | some l=>
   simp only [j] at hc
   split at hc
   ·rename_i hcond
    simp only [Bool.and_eq_true,Bool.not_eq_true'] at hcond
    obtain ⟨⟨u,q⟩,c⟩:=hcond
    cases p:FZ P (qg P n) fs (off+l.length) with
    |none=>simp [p] at hc
    | some l'=>
     simp only [p] at hc
     cases hc
     cases k:P.info? f.type with
     |none=>simp [k] at c
     |some i=>
      simp only [k] at c
      have c:=aO c
      have q:=aO q
      have o:f.name ≠ "_" :=by intro e;rw [e] at u;exact absurd u (by decide)
      simp only [List.length_append] at hx hy
      obtain ⟨a,b,C,v,rfl⟩:=xP l l' _ _ r h
      have A:=Ad j k c xs off (by omega) w
      have B:=Ad j k c ys off (by omega) w
      have y:=s f.type l j d w _ _ a hd C
      have x:=sG s fs (off+l.length) l' p d w xs ys b hd (by omega) (by omega) (by simpa [List.drop_drop,Nat.add_comm] using v)
      simp only [Op.eqFields,o,ne_eq,not_false_eq_true,if_true,Sem.run_bind,q,A,B,y,Result.andThen_ok]
      cases a
      ·simp
      ·simpa using x
   ·cases hc
theorem JQ : ∀ (n:Nat) (t:TypeId) (lks:List LK),qg P n t=some lks→rY P n t lks
  |0,_,_,h=>by simp [qg] at h
  | n + 1,t,lks,h=>by
    intro d w l q r s b
    obtain ⟨d,rfl⟩:∃ k,d=k+1:=⟨d - 1,by omega⟩
    have j:=vU _ _ _ _ b
    unfold qg at h
    cases a:P.underlying t with
    |none=>simp [a] at h
    | some ds=>
      cases ds<;>simp only [a] at h<;>try cases h
      case struct fs=>
        split at h
        · cases h
        · rename_i o
          have i:P.fieldsOf t=fs:=by simp [Program.fieldsOf,a]
          have e:=run_equalIn_struct (P:=P) w d t l.toArray q.toArray (by rw [i];exact a) o
          simp only [Af,a]
          rw [e,i]
          exact sG (JQ n) fs.toList 0 lks h d w l q r (by omega) (by simp [j.1]) (by simp [j.2]) (by simpa using b)
      all_goals
        simp only [List.length_cons,List.length_nil,Nat.zero_add] at j
        match l,q,j,b with
        | [x], [y],_,b=>
          simp only [g_,Option.map_some,Bool.and_true] at b
          obtain ⟨c,f,b⟩:=bind_some b
          cases b
          simp only [Af,a,List.headD_cons]
          cases x<;>cases y<;>simp [Gh] at f
          first
            | (split at f
               · rename_i p
                 simp only [Bool.and_eq_true] at p
                 obtain rfl:=jb p.1
                 obtain rfl:=jb p.2
                 cases f
                 exact run_equalIn_int (P:=P) w d t _ _ _ _ a
               · cases f)
            |(subst f;rw [run_equalIn_bool' (P:=P) w d t _ _ a])
            |(subst f;rw [run_equalIn_string (P:=P) w d t _ _ a])
end
end AM
namespace AM
open Go
section
variable {P:Program} {ap:AP} {g:dR} {m:bf} {S:aW} {w:World}
theorem adk {d:TypeDesc} (h:jI P (some d)= .ptr):∃ e,d= .pointer e:=by cases d<;>simp [jI] at h;exact ⟨_,rfl⟩
theorem Zc {d:TypeDesc} (h:jI P (some d)= .func):∃ a b c,d= .func a b c:=by cases d<;>simp [jI] at h;exact ⟨_,_,_,rfl⟩
theorem VQ {d:TypeDesc} (h:jI P (some d)= .iface):∃ e,d= .interface e:=by cases d<;>simp [jI] at h;exact ⟨_,rfl⟩
theorem XY {a b:LK} (h:abH a b=true):a=b:=by
 cases a<;>cases b<;>simp [abH] at h
 ·rw [jb h]
 ·rfl
 ·rfl
theorem Kw:∀ {a b:List LK},Gs a b=true→a=b
 | [],[],_=>rfl
 |_::_,_::_,h=>by simp only [Gs,Bool.and_eq_true] at h;rw [XY h.1,Kw h.2]
 | [],_::_,h=>by simp [Gs] at h
 |_::_,[],h=>by simp [Gs] at h
theorem MS {k:LK} {a b:AV} {r:Bool} (h:MR k a b=some r) {x y:Value} (d:VR g m S a x) (c:VR g m S b y):Gh k x y=some r:=by
 unfold MR at h
 split at h
 ·simp only [VR,PR] at d c;subst d;subst c
  split at h
  ·rename_i e;cases h;simp [Gh,e]
  ·cases h
 ·simp only [VR,PR] at d c;subst d;subst c;simpa [Gh] using h
 ·simp only [VR,PR] at d c;subst d;subst c
  simpa [Gh,EF] using h
 ·cases h
theorem vT:∀ {ks:List LK} {i bs:List AV} {r:Bool} {e f:List Value},kS ks i bs=some r→bF g m S i e→bF g m S bs f→g_ ks e f=some r
 | [],[],[],r,e,f,h,ha,hb=>by
  cases e<;>cases f<;>simp [bF] at ha hb
  simpa [kS,g_] using h
 |k::ks,a::i,b::bs,r,x::e,y::f,h,ha,hb=>by
  simp only [kS] at h
  obtain ⟨c,l,h⟩:=bind_some h
  rw [Option.map_eq_some_iff] at h
  obtain ⟨d,j,rfl⟩:=h
  simp only [bF] at ha hb
  simp [g_,MS l ha.1 hb.1,vT j ha.2 hb.2]
 | [],_::_,_,_,_,_,h,_,_=>by simp [kS] at h
 | [],[],_::_,_,_,_,h,_,_=>by simp [kS] at h
 |_::_,[],_,_,_,_,h,_,_=>by simp [kS] at h
 |_::_,_::_,[],_,_,_,h,_,_=>by simp [kS] at h
 |_::_,_::_,_::_,_,[],_,_,ha,_=>by simp [bF] at ha
 |_::_,_::_,_::_,_,_::_,[],_,_,hb=>by simp [bF] at hb
theorem Lm (c:jd P ap) {t:Nat} {b:TI} (h:ap.tyAt t=some b):b.cmp=aa8 P t∧b.lks=Gt P 8 t:=by
 have a:=c.ty t b h
 unfold VU at a
 split at a
 ·split at a
  ·cases a;exact ⟨rfl,rfl⟩
  ·cases a
 ·cases a
theorem mM (c:BinOp) (t:TypeId) (x y:Operand) (a b:Value) (e:¬ (a= .nilIface∧b= .nilIface)) (d:∀ xs ys,¬ (a= .agg xs∧b= .agg ys)):(eqGuard c t x y a b).run P w= .ok () w:=by
 unfold eqGuard
 cases c<;>simp only [Sem.run_ite,Sem.run_pure]<;>try (simp;done)
 all_goals
  simp
  split
  ·exact absurd ⟨rfl,rfl⟩ e
  ·exact absurd ⟨rfl,rfl⟩ (d _ _)
  ·rfl
def O_ (op:BinOp) (r:Bool):Bool:=match op with| .neq=> !r|_=>r
theorem AU {t:Nat} {a b:Value} {r:Bool} {x y:Operand} (c:∀ op,(eqGuard op t x y a b).run P w= .ok () w) (h:∀ d,(Op.equalIn (d+1) t a b).run P w= .ok r w)
  (h1:binOp .eql t a b=(do pure (.bool (← Op.equal t a b)))) (h2:binOp .neq t a b=(do pure (.bool (!(← Op.equal t a b))))) {op:BinOp} (hop:op=BinOp.eql∨op=BinOp.neq):
  (do eqGuard op t x y a b;binOp op t a b:Sem Value).run P w= .ok (.bool (O_ op r)) w:=by
 have e:(Op.equal t a b).run P w= .ok r w:=h 9999
 rcases hop with rfl|rfl
 ·rw [Sem.run_bind,c,Result.andThen_ok,h1,Sem.run_bind,e];rfl
 ·rw [Sem.run_bind,c,Result.andThen_ok,h2,Sem.run_bind,e];rfl
theorem Gg (u:jd P ap) {t:Nat} {J:TI} (A:ap.tyAt t=some J) {a b:AV} {C I:Value} (j:VR g m S a C) (k:VR g m S b I) {r:Bool} (h:eqA J a b=some r) (M:∀ x ∈ DJ a b,x=true) (x y:Operand):
  ∀ f,f=BinOp.eql∨f=BinOp.neq→(do eqGuard f t x y C I;binOp f t C I:Sem Value).run P w= .ok (.bool (O_ f r)) w:=by
 obtain ⟨i,d,z,v⟩:=fA u A
 intro f s
 unfold eqA at h
 split at h
 case h_2 fs xs ys p=>
  split at h
  ·rename_i c
   rw [(Lm u A).1] at c
   rw [(Lm u A).2] at h
   simp only [VR] at j k
   obtain ⟨vs,rfl,j⟩:=j
   obtain ⟨K,rfl,k⟩:=k
   have L:=vT h j k
   unfold aa8 at c
   cases G:qg P 8 t with
   |none=>simp [G] at c
   |some l=>
    simp only [G,Bool.and_eq_true,Bool.not_eq_true'] at c
    have H:=Kw c.1
    rw [← H] at L
    have D:=JQ 8 t l G 10000 w vs K r (by omega) L
    rw [v.d_eq] at p
    obtain ⟨fields,rfl,_⟩:=vg p
    simp only [Af,v.und] at D
    have N:=run_eqGuard_agg (P:=P) w f t x y vs.toArray K.toArray c.2
    rcases s with rfl|rfl
    ·simp [N,run_eql_struct,D,O_]
    ·simp [N,run_neq_struct,D,O_]
  ·cases h
 all_goals try (cases h;done)
 all_goals
  rename_i p
  rw [v.d_eq] at p
  try simp only [VR,PR] at j k
 all_goals cases h
 case h_1=>
  have p:=Zb p
  subst p
  subst j;subst k
  (refine AU (fun f=> ?_) (fun B=> ?_) rfl rfl s<;>first|exact mM f t x y _ _ (by simp) (by simp)|exact run_equalIn_bool' (P:=P) w B t _ _ v.und)
 all_goals
  first
   |(obtain ⟨e,rfl⟩:=adk p)
   |(obtain ⟨e,rfl⟩:=VQ p)
   |(obtain ⟨O,R,Q,rfl⟩:=Zc p)
   |(have p:=iE p;subst p)
 case h_16 xs n nn=>
  subst k
  obtain ⟨a,F,rfl,E,q⟩:=j
  rcases q with ⟨rfl,rfl,rfl,rfl,rfl⟩|⟨b,o,vs,rfl,_⟩
  ·exact absurd (M _ (by simp [DJ];rfl)) (by decide)
  ·(refine AU (fun f=> ?_) (fun B=> ?_) rfl rfl s<;>first|exact mM f t x y _ _ (by simp) (by simp)|simp [Op.equalIn,run_underlying v.und])
 case h_17 xs n nn=>
  subst j
  obtain ⟨a,F,rfl,E,q⟩:=k
  rcases q with ⟨rfl,rfl,rfl,rfl,rfl⟩|⟨b,o,vs,rfl,_⟩
  ·exact absurd (M _ (by simp [DJ];rfl)) (by decide)
  ·(refine AU (fun f=> ?_) (fun B=> ?_) rfl rfl s<;>first|exact mM f t x y _ _ (by simp) (by simp)|simp [Op.equalIn,run_underlying v.und])
 all_goals
  try subst j
  try subst k
  try (obtain ⟨_,_,_,⟨_,_,rfl⟩,_⟩:=j)
  try (obtain ⟨_,_,_,⟨_,_,rfl⟩,_⟩:=k)
  try (obtain ⟨_,_,_,⟨_,_,_,rfl⟩,_⟩:=j)
  try (obtain ⟨_,_,_,⟨_,_,_,rfl⟩,_⟩:=k)
  try (obtain ⟨_,_,_,rfl,_⟩:=j)
  try (obtain ⟨_,_,_,rfl,_⟩:=k)
  try (obtain ⟨_,_,rfl,_⟩:=j)
  try (obtain ⟨_,_,rfl,_⟩:=k)
  try (obtain ⟨_,rfl,_⟩:=j)
  try (obtain ⟨_,rfl,_⟩:=k)
  (refine AU (fun f=> ?_) (fun B=> ?_) rfl rfl s<;>first|exact mM f t x y _ _ (by simp) (by simp)|simp [Op.equalIn,run_underlying v.und])
end
end AM
namespace AM
open Go
section
variable {P:Program} {ap:AP} {g:dR} {m:bf} {S:aW} {w:World}
theorem MB (a b:List UInt8):(⟨a.toArray⟩:ByteArray)++⟨b.toArray⟩=⟨(a++b).toArray⟩:=by
 apply ByteArray.ext
 rw [ByteArray.data_append]
 simp
theorem MH (f:jd P ap) {t:Nat} {u:TI} (i:ap.tyAt t=some u) {a b v:AV} {j s:Value} (e:VR g m S a j) (d:VR g m S b s) {c:BinOp} {ups:List (Nat × bi)} {bs:List Bool}
  (h:aaN c u a b=some (v,ups,bs)) (hbs:∀ x ∈ bs,x=true) (x y:Operand):
  ups= []∧∃ cv,(do eqGuard c t x y j s;binOp c t j s:Sem Value).run P w= .ok cv w∧VR g m S v cv:=by
 unfold aaN at h
 split at h
 ·rename_i k p z q
  simp only [VR,PR] at e d
  subst e;subst d
  have l:(eqGuard c t x y (.int k p) (.int z q)).run P w= .ok () w:=mM c t x y _ _ (by simp) (by simp)
  rw [Sem.run_bind,l,Result.andThen_ok]
  split at h
  ·obtain ⟨rfl,rfl,rfl⟩:=aT h
   have h0:=of_decide_eq_true (hbs _ (List.mem_singleton.2 rfl))
   exact ⟨rfl,_,by simp [binOp,Op.shift,show ¬ q<0 by omega];rfl,by simp only [VR,PR]⟩
  ·obtain ⟨rfl,rfl,rfl⟩:=aT h
   have h0:=of_decide_eq_true (hbs _ (List.mem_singleton.2 rfl))
   exact ⟨rfl,_,by simp [binOp,Op.shift,show ¬ q<0 by omega];rfl,by simp only [VR,PR]⟩
  ·split at h
   ·cases h
   ·rename_i n
    have n:=jb n
    subst n
    split at h
    all_goals try (cases h;done)
    all_goals obtain ⟨rfl,rfl,rfl⟩:=aT h
    case h_4=>
     have h0:(q==0)=false:=by simpa using hbs _ (List.mem_singleton.2 rfl)
     have h0:¬ q=0:=by simpa using h0
     exact ⟨rfl,_,by simp [binOp,Op.intDiv,h0];rfl,by simp only [VR,PR]⟩
    case h_5=>
     have h0:(q==0)=false:=by simpa using hbs _ (List.mem_singleton.2 rfl)
     have h0:¬ q=0:=by simpa using h0
     exact ⟨rfl,_,by simp [binOp,Op.intDiv,h0];rfl,by simp only [VR,PR]⟩
    all_goals exact ⟨rfl,_,by simp only [binOp,Op.intArith,Op.intBits,Op.intCmp,ne_eq,not_true_eq_false,if_false];rfl,by simp only [VR,PR];first|done|rfl⟩
 ·rename_i p q
  simp only [VR,PR] at e d
  subst e;subst d
  have l:(eqGuard c t x y (.string ⟨p.toArray⟩) (.string ⟨q.toArray⟩)).run P w= .ok () w:=mM c t x y _ _ (by simp) (by simp)
  rw [Sem.run_bind,l,Result.andThen_ok]
  split at h
  all_goals try (cases h;done)
  all_goals obtain ⟨rfl,rfl,rfl⟩:=aT h
  case h_1=>
   have h0:=gQ (hbs _ (List.mem_singleton.2 rfl))
   have A:¬ (IntKind.i64.max<((p.length+q.length:Nat):Int)):=by
    have:IntKind.i64.max=9223372036854775807:=by decide
    omega
   refine ⟨rfl,.string ⟨(p++q).toArray⟩, ?_,by simp only [VR,PR]⟩
   simp only [binOp,Op.stringOp,yB,gt_iff_lt,A,if_false,MB,Sem.run_pure]
  all_goals
   refine ⟨rfl,_,rfl, ?_⟩
   simp only [VR,PR,EF,xB]
 ·split at h
  ·obtain ⟨r,o,h⟩:=bind_some h
   obtain ⟨rfl,rfl,rfl⟩:=aT h
   exact ⟨rfl,_,Gg f i e d o hbs x y _ (.inl rfl),by simp only [VR,PR];rfl⟩
  ·obtain ⟨r,o,h⟩:=bind_some h
   obtain ⟨rfl,rfl,rfl⟩:=aT h
   exact ⟨rfl,_,Gg f i e d o hbs x y _ (.inr rfl),by simp only [VR,PR];rfl⟩
  ·cases h
theorem RD {x v:AV} {b:Value} (a:VR g m S x b) {c:UnOp} {ups:List (Nat × bi)} {bs:List Bool} (h:unA c x=some (v,ups,bs)):
  ups= []∧∃ cv,(Op.unary c b).run P w= .ok cv w∧VR g m S v cv:=by
 unfold unA at h
 split at h
 ·obtain ⟨rfl,rfl,rfl⟩:=aT h
  simp only [VR,PR] at a;subst a
  exact ⟨rfl,_,rfl,by simp only [VR,PR]⟩
 ·obtain ⟨rfl,rfl,rfl⟩:=aT h
  simp only [VR,PR] at a;subst a
  exact ⟨rfl,_,rfl,by simp only [VR,PR]⟩
 ·cases h
theorem tX {f:AV→AV→Option AV} {F:Value→Value→Sem Value} (d:∀ a b c ca cb,VR g m S a ca→VR g m S b cb→f a b=some c→∃ cc,(F ca cb).run P w= .ok cc w∧VR g m S c cc):
  ∀ (l:List AV) (cl:List Value) (x v:AV) (cx:Value),bF g m S l cl→VR g m S x cx→J3 f x l=some v→∃ cv,(cl.foldlM F cx).run P w= .ok cv w∧VR g m S v cv
 | [],[],x,v,cx,_,hx,h=>by simp [J3] at h;subst h;exact ⟨cx,by simp,hx⟩
 | y::r,cy::cr,x,v,cx,hl,hx,h=>by
  simp only [bF] at hl
  simp only [J3] at h
  split at h
  ·rename_i z o
   obtain ⟨j,k,e⟩:=d _ _ _ _ _ hx hl.1 o
   obtain ⟨cv,i,n⟩:=tX d r cr z v j hl.2 e h
   exact ⟨cv,by simp [List.foldlM_cons,k,i],n⟩
  ·cases h
 | [],_::_,_,_,_,hl,_,_=>by simp [bF] at hl
 |_::_,[],_,_,_,hl,_,_=>by simp [bF] at hl
theorem NI {a b c:AV} {d i:Value} (f:VR g m S a d) (e:VR g m S b i) (h:min2 a b=some c):∃ cc,(Builtin.min2 d i).run P w= .ok cc w∧VR g m S c cc:=by
 unfold min2 at h
 split at h
 ·split at h
  ·cases h
   simp only [VR,PR] at f e;subst f;subst e
   exact ⟨_,rfl,by simp only [VR,PR]⟩
  ·cases h
 ·cases h
theorem NF {a b c:AV} {d i:Value} (f:VR g m S a d) (e:VR g m S b i) (h:max2 a b=some c):∃ cc,(Builtin.max2 d i).run P w= .ok cc w∧VR g m S c cc:=by
 unfold max2 at h
 split at h
 ·split at h
  ·cases h
   simp only [VR,PR] at f e;subst f;subst e
   exact ⟨_,rfl,by simp only [VR,PR]⟩
  ·cases h
 ·cases h
theorem QF {l:List AV} {cl:List Value} (a:bF g m S l cl) {v:AV} (h:yQ min2 l=some v) (b:Array TypeId) (ty:Nat):∃ cv,(Builtin.min_ b ty cl.toArray).run P w= .ok cv w∧VR g m S v cv:=by
 cases l with
 |nil=>simp [yQ] at h
 | cons x r=>cases cl with
  |nil=>simp [bF] at a
  |cons cx cr=>
   simp only [bF] at a
   obtain ⟨cv,d,c⟩:=tX (P:=P) (w:=w) (F:=Builtin.min2) (fun _ _ _ _ _=>NI) r cr x v cx a.2 a.1 h
   exact ⟨cv,by simpa [Builtin.min_] using d,c⟩
theorem QD {l:List AV} {cl:List Value} (a:bF g m S l cl) {v:AV} (h:yQ max2 l=some v) (b:Array TypeId) (ty:Nat):∃ cv,(Builtin.max_ b ty cl.toArray).run P w= .ok cv w∧VR g m S v cv:=by
 cases l with
 |nil=>simp [yQ] at h
 | cons x r=>cases cl with
  |nil=>simp [bF] at a
  |cons cx cr=>
   simp only [bF] at a
   obtain ⟨cv,d,c⟩:=tX (P:=P) (w:=w) (F:=Builtin.max2) (fun _ _ _ _ _=>NF) r cr x v cx a.2 a.1 h
   exact ⟨cv,by simpa [Builtin.max_] using d,c⟩
end
end AM
