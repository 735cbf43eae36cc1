/- The abstract machine over the code of the model, and the proof that it is sound. No conditions. -/
import Derived.WalkKit
import Derived.Deep.AppendSrc
import Derived.Deep.MidRow
import Derived.WalkLawsBesides
set_option linter.unusedSimpArgs false
set_option linter.unusedVariables false
namespace AM
open Go
inductive AV where
 |int (k:IntKind) (n:Int)
 |bool (b:Bool)
 |str (s:List UInt8)
 |agg (l:List AV)
 |tup (l:List AV)
 |nilS
 |sl (xs:List AV) (n:Nat) (nn:Bool)
 |ref (b ver i n:Nat)
 |own (xs:List AV) (n esz:Nat)
 |ptr (b ver off:Nat)
 |pp (xs:List AV) (off:Nat)
 |mr (b ver:Nat)
 |mp (ks vs:List AV)
 |nilP
 |fn (f:Nat) (first cap:List AV)
 |nilF
 |ifc (t:Nat) (v:AV)
 |nilI
 |dead
inductive LK where
 |int (k:IntKind)
 |bool
 |str
 |sl
 |oth
inductive TD where
 |struct (fs:List (Nat × Nat × Nat))
 |array (n elem:Nat)
 |slice (elem:Nat)
 |int (k:IntKind)
 |str
 |bool
 |iface
 |ptr
 |func
 |map (k e:Nat)
 |oth
structure TI where
 d:TD
 size:Nat
 bytes:Nat
 zero:List AV
 lks:List LK
 cmp:Bool
structure AF where
 fn:Func
 keep:List Nat
 shared:Bool
inductive Tr (α:Type) where
 |nil
 |node (v:Option α) (l r:Tr α)
def Tr.get {α:Type}:Tr α→Nat→Option α
 | .nil,_=>none
 | .node v l r,n=>match Nat.beq n 0 with
  |true=>v
  |false=>match Nat.beq (n % 2) 1 with
   |true=>l.get ((n - 1) / 2)
   |false=>r.get ((n - 1) / 2)
structure AP where
 nty:Nat
 ty:Tr TI
 nfn:Nat
 fn:Tr AF
 gl:List (Option (List AV))
def awg:Nat:=4611686018427387904
def aRP:List AV→Option AV
 | [.agg ks,.agg vs]=>some (.mp ks vs)
 |_=>none
structure Blk where
 cells:List AV
 ver:Nat
 fro:Bool
 fz:Nat
 esz:Nat
 pr:Bool
abbrev Env:=List (Nat × AV)
abbrev Hp:=List (Nat × Blk)
def ad9 {α:Type}:List (Nat × α)→Nat→Option α
 | [],_=>none
 |(u,x)::r,t=>match Nat.beq u t with|true=>some x|false=>ad9 r t
def aw8 {α β:Type} (f:α→Option β):List α→Option (List β)
 | []=>some []
 |x::r=>match f x with
  |some y=>match aw8 f r with|some l=>some (y::l)|none=>none
  |none=>none
def Env.get (e:Env) (t:Nat):AV:=(ad9 e t).getD .dead
def AV.cells:AV→List AV
 | .agg l=>l
 |x=> [x]
def AV.toInt:AV→Int| .int _ n=>n|_=>0
def AV.toBool:AV→Bool| .bool b=>b|_=>false
def AV.toStr:AV→List UInt8| .str s=>s|_=> []
def AV.slX:AV→List AV| .sl xs _ _=>xs|_=> []
def AV.slN:AV→Nat| .sl _ n _=>n|_=>0
def aOD:IntKind→Nat
 | .i8=>0| .i16=>1| .i32=>2| .i64=>3| .u8=>4| .u16=>5| .u32=>6| .u64=>7
def awy (a b:IntKind):Bool:=Nat.beq (aOD a) (aOD b)
def chk:LK→AV→Bool
 | .int k,.int k' _=>awy k k'
 | .bool,.bool _=>true
 | .str,.str _=>true
 | .sl,.sl _ _ _=>true
 | .sl,.nilS=>true
 | .oth,.dead=>false
 | .oth,.agg _=>false
 | .oth,.tup _=>false
 | .oth,.own _ _ _=>false
 | .oth,_=>true
 |_,_=>false
def eta:LK→AV→AV
 | .int k,c=> .int k c.toInt
 | .bool,c=> .bool c.toBool
 | .str,c=> .str c.toStr
 | .sl,c=> .sl c.slX c.slN false
 | .oth,c=>c
def ayc:AV→Bool
 | .dead| .agg _| .tup _| .own _ _ _=>false
 |_=>true
mutual
def avh:AV→List Nat
 | .ref b _ _ _=> [b]
 | .ptr b _ _=> [b]
 | .mr b _=> [b]
 | .agg l=>auh l
 | .tup l=>auh l
 | .fn _ f c=>auh f++auh c
 | .ifc _ v=>avh v
 |_=> []
def auh:List AV→List Nat
 | []=> []
 |x::r=>avh x++auh r
end
mutual
def ren (ρ:Nat→Nat→Option (Nat × Nat)):AV→AV
 | .ref b v i n=>match ρ b v with|some (b',v')=> .ref b' v' i n|none=> .dead
 | .ptr b v o=>match ρ b v with|some (b',v')=> .ptr b' v' o|none=> .dead
 | .mr b v=>match ρ b v with|some (b',v')=> .mr b' v'|none=> .dead
 | .agg l=> .agg (axG ρ l)
 | .tup l=> .tup (axG ρ l)
 | .fn f a c=> .fn f (axG ρ a) (axG ρ c)
 | .ifc t v=> .ifc t (ren ρ v)
 |x=>x
def axG (ρ:Nat→Nat→Option (Nat × Nat)):List AV→List AV
 | []=> []
 |x::r=>ren ρ x::axG ρ r
end
def aHx:Value→AV
 | .int k n=> .int k n
 | .bool b=> .bool b
 | .string s=> .str s.data.toList
 | .pointer a=>match a with|none=> .nilP|some _=> .dead
 | .slice a n c=>match a,n,c with|none,0,0=> .nilS|_,_,_=> .dead
 | .nilFunc=> .nilF
 | .nilIface=> .nilI
 | .map a=>match a with|none=> .mp [] []|some _=> .dead
 |_=> .dead
def aEU:Value→AV
 | .agg cs=> .agg (cs.toList.map aHx)
 | .tuple vs=>match vs.toList with| []=> .tup []|_=> .dead
 |v=>aHx v
def AP.tyAt (ap:AP) (t:Nat):Option TI:=match Nat.blt t ap.nty with|true=>ap.ty.get t|false=>none
def AP.fnAt (ap:AP) (f:Nat):Option AF:=match Nat.blt f ap.nfn with|true=>ap.fn.get f|false=>none
def ayQ (l:List Nat) (a:Nat):Bool:=l.any (Nat.beq a)
def awv (l:List Nat):List Nat:=l.foldl (fun acc b=>if ayQ acc b then acc else acc++ [b]) []
abbrev OpR:=Option (AV × List (Nat × Blk) × List Bool)
def an2 (v:AV) (bs:List Bool:= []):OpR:=some (v,[],bs)
def aLu (ty:Bool):List LK→List AV→List AV
 | [],_=> []
 |k::ks,ys=>(match ty with|true=>eta k (ys.headD .dead)|false=>ys.headD .dead)::aLu ty ks ys.tail
def aNE (ty:Bool):List LK→List AV→List Bool
 | [],_=> []
 |k::ks,ys=>(match ty with|true=>chk k (ys.headD .dead)|false=>chk .oth (ys.headD .dead))::aNE ty ks ys.tail
def aCd (ty:Bool) (ks:List LK) (xs:List AV) (off:Nat):List AV:=aLu ty ks (xs.drop off)
def aG5 (ty:Bool) (ks:List LK) (xs:List AV) (off:Nat):List Bool:=aNE ty ks (xs.drop off)
def aHp:TD→Bool
 | .struct _=>true
 | .array _ _=>true
 |_=>false
def azg (ti:TI) (cs:List AV):Option AV:=
 match aHp ti.d with
 |true=>some (.agg cs)
 |false=>match cs with| [c]=>some c|_=>none
def aIG (ti:TI) (rd:Nat→Option Blk) (p:AV):OpR:=
 match p with
 | .pp xs off=>(azg ti (aCd true ti.lks xs off)).bind fun v=>an2 v (aG5 true ti.lks xs off)
 | .ptr b ver off=>(rd b).bind fun B=>match Nat.beq B.ver ver && !(Nat.beq B.esz awg) with
  |true=>(azg ti (aCd (Nat.blt 0 B.esz && B.pr) ti.lks B.cells off)).bind fun v=>an2 v (aG5 (Nat.blt 0 B.esz && B.pr) ti.lks B.cells off)
  |false=>none
 |_=>none
def awj (xs:List AV) (off:Nat) (vs:List AV):List AV:=xs.take off++vs++xs.drop (off+vs.length)
def aKG (ti:TI) (rd:Nat→Option Blk) (p v:AV):OpR:=
 match p with
 | .ptr b ver off=>(rd b).bind fun B=>
  let vs:=v.cells
  let rs:=auh vs
  match Nat.beq B.ver ver && !B.fro && Nat.beq vs.length ti.size && vs.all ayc && !(Nat.beq B.esz awg) with
  |true=>some (.dead,[(b,{B with cells:=awj B.cells off vs,pr:=B.pr && rs.isEmpty})],[Nat.ble (off+vs.length) B.cells.length])
  |false=>none
 |_=>none
def awu (nid:Nat) (cells:List AV) (esz:Nat):Nat × Blk:=(nid,{cells,ver:=0,fro:=false,fz:=0,esz,pr:=(auh cells).isEmpty})
def aA6 (cells:List AV):List (Nat × Nat × AV)→Option (List AV)
 | []=>some cells
 |(off,size,v)::r=>match Nat.beq v.cells.length size && Nat.ble (off+size) cells.length && v.cells.all ayc with
  |true=>aA6 (awj cells off v.cells) r
  |false=>none
def aJG (ap:AP) (ti:TI) (parts:List (Nat × AV)):OpR:=
 match ti.d with
 | .struct fs=>(aw8 (fun (q:Nat × AV)=>(fs[q.1]?).map fun (x:Nat × Nat × Nat)=>(x.1,x.2.2,q.2)) parts).bind fun ps=>(aA6 ti.zero ps).bind fun cs=>an2 (.agg cs)
 | .array _ e=>(ap.tyAt e).bind fun te=>(aA6 ti.zero (parts.map fun (i,v)=>(i*te.size,te.size,v))).bind fun cs=>an2 (.agg cs)
 |_=>none
def awc (n:Nat) (z:List AV):List AV:=(List.replicate n z).flatten
def az5 (ap:AP) (nid:Nat) (ti:TI) (len:Nat) (parts:List (Nat × AV)):OpR:=
 match ti.d with
 | .slice e=>(ap.tyAt e).bind fun te=>
  match Nat.blt 0 te.size && Nat.ble (len*te.size) (2^24) && Nat.beq te.zero.length te.size with
  |true=>(aA6 (awc len te.zero) (parts.map fun (i,v)=>(i*te.size,te.size,v))).bind fun cs=>
   some (.ref nid 0 0 len,[awu nid cs te.size],[])
  |false=>none
 |_=>none
def aPb (p:AV) (o:Nat):Option AV:=
 match p with
 | .ptr b v off=>some (.ptr b v (off+o))
 | .pp xs off=>some (.pp xs (off+o))
 |_=>none
def aLa (v:AV):Option Int:=match v with| .int _ n=>some n|_=>none
def aBq (ap:AP) (ti:TI) (rd:Nat→Option Blk) (x i:AV):OpR:=
 (aLa i).bind fun i=>
 match ti.d with
 | .slice e=>(ap.tyAt e).bind fun te=>
  match x with
  | .sl xs n _=>an2 (.pp xs (i.toNat*te.size)) [decide (0≤i),decide (i<n)]
  | .ref b ver j n=>(rd b).bind fun B=>match Nat.beq B.ver ver && Nat.beq B.esz te.size with
   |true=>an2 (.ptr b ver ((j+i.toNat)*te.size)) [decide (0≤i),decide (i<n)]
   |false=>none
  |_=>none
 | .array n e=>(ap.tyAt e).bind fun te=>(aPb x (i.toNat*te.size)).bind fun p=>an2 p [decide (0≤i),decide (i<n)]
 |_=>none
def aJ3 (ap:AP) (ti:TI) (x i:AV):OpR:=
 (aLa i).bind fun i=>
 match ti.d,x with
 | .str,.str s=>an2 (.int .u8 (s.getD i.toNat 0).toNat) [decide (0≤i),decide (i<s.length)]
 | .array n e,.agg cs=>(ap.tyAt e).bind fun te=>
  (azg te (aCd true te.lks cs (i.toNat*te.size))).bind fun v=>an2 v (decide (0≤i)::decide (i<n)::aG5 true te.lks cs (i.toNat*te.size))
 |_,_=>none
def ayg (v:Option AV) (d:Int):Option Int:=match v with|none=>some d|some (.int _ n)=>some n|some _=>none
def aKD (ap:AP) (ti:TI) (rd:Nat→Option Blk) (x:AV) (lo hi mx:Option AV):OpR:=
 match ti.d,x,mx with
 | .str,.str s,none=>(ayg lo 0).bind fun l=>(ayg hi s.length).bind fun h=>
   an2 (.str ((s.take h.toNat).drop l.toNat)) [decide (0≤l),decide (l≤h),decide (h≤s.length)]
 | .slice e,.sl xs n nn,none=>(ap.tyAt e).bind fun te=>(ayg lo 0).bind fun l=>(ayg hi n).bind fun h=>
   an2 (.sl ((xs.take (h.toNat*te.size)).drop (l.toNat*te.size)) (h.toNat - l.toNat) nn) [decide (0≤l),decide (l≤h),decide (h≤n)]
 | .slice e,.ref b ver j n,none=>(ap.tyAt e).bind fun te=>(rd b).bind fun B=>(ayg lo 0).bind fun l=>(ayg hi n).bind fun h=>
   match Nat.beq B.ver ver && Nat.beq B.esz te.size with
   |true=>an2 (.ref b ver (j+l.toNat) (h.toNat - l.toNat)) [decide (0≤l),decide (l≤h),decide (h≤n)]
   |false=>none
 | .slice e,.nilS,none=>(ap.tyAt e).bind fun _=>(ayg lo 0).bind fun l=>(ayg hi 0).bind fun h=>an2 .nilS [decide (l=0),decide (h=0)]
 |_,_,_=>none
def aOF (d:TD) (x:AV):OpR:=
 match d,x with
 | .array n _,_=>an2 (.int .i64 n)
 | .str,.str s=>an2 (.int .i64 s.length)
 | .slice _,.sl _ n _=>an2 (.int .i64 n)
 | .slice _,.ref _ _ _ n=>an2 (.int .i64 n)
 | .slice _,.nilS=>an2 (.int .i64 0)
 |_,_=>none
def aI5 (size:Nat) (rd:Nat→Option Blk) (x:AV):Option (List AV × Nat × Bool):=
 match x with
 | .sl xs n _=>some (xs,n,true)
 | .nilS=>some ([],0,true)
 | .str s=>some (s.map fun b=> .int .u8 b.toNat,s.length,true)
 | .ref b ver j n=>(rd b).bind fun B=>match Nat.beq B.ver ver && Nat.beq B.esz size && !(Nat.beq B.esz awg) with
  |true=>some ((B.cells.drop (j*size)).take (n*size),n,B.pr)
  |false=>none
 |_=>none
def aGI:Nat:=2^40
def aBJ (nid:Nat) (te:TI) (rd:Nat→Option Blk) (em:Bool) (s x:AV):OpR:=
 (aI5 te.size rd x).bind fun (xs,n,pr)=>
 match Nat.blt 0 te.size && Nat.ble te.bytes 128 with
 |false=>none
 |true=>
 match s with
 | .nilS=>match em with
  |true=>an2 .nilS [Nat.beq xs.length (n*te.size)]
  |false=>some (.ref nid 0 0 n,[(nid,⟨xs,0,false,0,te.size,pr⟩)],[Nat.beq xs.length (n*te.size),Nat.ble n aGI])
 | .ref b ver 0 m=>(rd b).bind fun B=>match Nat.beq B.ver ver && Nat.beq B.esz te.size && !(Nat.beq B.esz awg) with
  | true=>some (.ref b (ver+1) 0 (m+n),[(b,{B with cells:=B.cells.take (m*te.size)++xs,ver:=ver+1,pr:=B.pr && pr})],
    [Nat.beq xs.length (n*te.size),Nat.ble (m+n) aGI,Nat.ble (m*te.size) B.cells.length, !B.fro||Nat.ble B.fz (m*te.size)])
  |false=>none
 |_=>none
def aBl:AV→Option Nat
 | .sl _ n _=>some n
 | .nilS=>some 0
 | .str s=>some s.length
 | .ref _ _ _ n=>some n
 |_=>none
def aBV (ρ:Operand→AV) (o:Op):Option Nat:=
 match o with
 | .call {callee:= .builtin .append,args,..}=>match args.toList with
  | [s,x]=>match ρ s with
   | .nilS=>aBl (ρ x)
   |_=>none
  |_=>none
 |_=>none
def aBs (ap:AP) (nid:Nat) (ti:TI) (l c:AV):OpR:=
 match ti.d,l,c with
 | .slice e,.int _ l,.int _ c=>(ap.tyAt e).bind fun te=>
  match Nat.blt 0 te.size && Nat.beq te.zero.length te.size && Nat.ble te.bytes 128 && (auh te.zero).isEmpty with
  |true=>some (.ref nid 0 0 l.toNat,[(nid,⟨awc l.toNat te.zero,0,false,0,te.size,true⟩)],[decide (0≤l),decide (l=c),decide (l≤2^40)])
  |false=>none
 |_,_,_=>none
def aEb (ap:AP) (ts td:TI) (rd:Nat→Option Blk) (x:AV):OpR:=
 match ts.d,td.d,x with
 |_,.int k,.int _ n=>an2 (.int k (k.wrap n))
 | .str,.str,.str s=>an2 (.str s)
 | .slice e,.str,x=>(ap.tyAt e).bind fun te=>match te.d,x with
  | .int .u8,.str _=>none
  | .int .u8,x=>(aI5 1 rd x).bind fun (xs,n,_)=>an2 (.str (xs.map fun c=>UInt8.ofNat c.toInt.toNat)) [Nat.beq xs.length n,xs.all (chk (.int .u8))]
  |_,_=>none
 |_,_,_=>none
def aJR:LK→AV→AV→Option Bool
 | .int k,.int k1 a,.int k2 b=>match awy k k1 && awy k k2 with|true=>some (a==b)|false=>none
 | .bool,.bool a,.bool b=>some (a==b)
 | .str,.str a,.str b=>some (a==b)
 |_,_,_=>none
def axf:List LK→List AV→List AV→Option Bool
 | [],[],[]=>some true
 |k::ks,a::as,b::bs=>(aJR k a b).bind fun c=>(axf ks as bs).map fun d=>c && d
 |_,_,_=>none
def eqA (ti:TI) (a b:AV):Option Bool:=
 match ti.d,a,b with
 | .bool,.bool a,.bool b=>some (a==b)
 | .struct _,.agg xs,.agg ys=>match ti.cmp with|true=>axf ti.lks xs ys|false=>none
 | .ptr,.nilP,.nilP=>some true
 | .ptr,.nilP,.ptr _ _ _=>some false
 | .ptr,.nilP,.pp _ _=>some false
 | .ptr,.ptr _ _ _,.nilP=>some false
 | .ptr,.pp _ _,.nilP=>some false
 | .iface,.nilI,.ifc _ _=>some false
 | .iface,.ifc _ _,.nilI=>some false
 | .func,.nilF,.nilF=>some true
 | .func,.nilF,.fn _ _ _=>some false
 | .func,.fn _ _ _,.nilF=>some false
 | .slice _,.nilS,.nilS=>some true
 | .slice _,.ref _ _ _ _,.nilS=>some false
 | .slice _,.nilS,.ref _ _ _ _=>some false
 | .slice _,.sl _ _ _,.nilS=>some false
 | .slice _,.nilS,.sl _ _ _=>some false
 |_,_,_=>none
def aES (a b:AV):List Bool:=
 match a,b with
 | .sl _ n false,.nilS=> [Nat.blt 0 n]
 | .nilS,.sl _ n false=> [Nat.blt 0 n]
 |_,_=> []
def av5:List UInt8→List UInt8→Bool
 |_,[]=>false
 | [],_::_=>true
 |a::x,b::y=>decide (a<b)||(a==b && av5 x y)
def aUd (op:BinOp) (ti:TI) (x y:AV):OpR:=
 match x,y with
 | .int k a,.int k' b=>
  match op with
  | .shl=>an2 (.int k (k.wrap (a*2^(min b.toNat k.bits)))) [decide (0≤b)]
  | .shr=>an2 (.int k (a.fdiv (2^(min b.toNat k.bits)))) [decide (0≤b)]
  | _=>match awy k k' with
   |false=>none
   |true=>match op with
    | .add=>an2 (.int k (k.wrap (a+b)))
    | .sub=>an2 (.int k (k.wrap (a - b)))
    | .mul=>an2 (.int k (k.wrap (a*b)))
    | .quo=>an2 (.int k (k.wrap (a.tdiv b))) [!(b==0)]
    | .rem=>an2 (.int k (a.tmod b)) [!(b==0)]
    | .and=>an2 (.int k (k.wrap (BitVec.ofInt k.bits a &&& BitVec.ofInt k.bits b).toNat))
    | .or=>an2 (.int k (k.wrap (BitVec.ofInt k.bits a|||BitVec.ofInt k.bits b).toNat))
    | .xor=>an2 (.int k (k.wrap (BitVec.ofInt k.bits a^^^BitVec.ofInt k.bits b).toNat))
    | .eql=>an2 (.bool (a==b))
    | .neq=>an2 (.bool (!(a==b)))
    | .lss=>an2 (.bool (decide (a<b)))
    | .leq=>an2 (.bool (decide (a≤b)))
    | .gtr=>an2 (.bool (decide (b<a)))
    | .geq=>an2 (.bool (decide (b≤a)))
    |_=>none
 | .str a,.str b=>
  match op with
  | .add=>an2 (.str (a++b)) [Nat.ble (a.length+b.length) 9223372036854775807]
  | .eql=>an2 (.bool (a==b))
  | .neq=>an2 (.bool (!(a==b)))
  | .lss=>an2 (.bool (av5 a b))
  | .leq=>an2 (.bool (av5 a b||a==b))
  | .gtr=>an2 (.bool (!(av5 a b||a==b)))
  | .geq=>an2 (.bool (!av5 a b))
  |_=>none
 |x,y=>
  match op with
  | .eql=>(eqA ti x y).bind fun b=>an2 (.bool b) (aES x y)
  | .neq=>(eqA ti x y).bind fun b=>an2 (.bool (!b)) (aES x y)
  |_=>none
def unA (op:UnOp) (x:AV):OpR:=
 match op,x with
 | .not,.bool b=>an2 (.bool (!b))
 | .neg,.int k n=>an2 (.int k (k.wrap (0 - n)))
 |_,_=>none
def min2 (a b:AV):Option AV:=match a,b with| .int k x,.int k' y=>(match awy k k' with|true=>some (.int k (if y<x then y else x))|false=>none)|_,_=>none
def max2 (a b:AV):Option AV:=match a,b with| .int k x,.int k' y=>(match awy k k' with|true=>some (.int k (if y>x then y else x))|false=>none)|_,_=>none
def aIq (f:AV→AV→Option AV):AV→List AV→Option AV
 |x,[]=>some x
 |x,y::r=>match f x y with|some z=>aIq f z r|none=>none
def aCx (f:AV→AV→Option AV):List AV→Option AV
 | []=>none
 |x::r=>aIq f x r
def aG1 (ap:AP) (x:AV) (asserted:Nat) (commaOk:Bool):OpR:=
 (ap.tyAt asserted).bind fun ti=>
 match ti.d with
 | .iface=>none
 | _=>match x with
  | .ifc t v=>match Nat.beq t asserted with
   |true=>an2 (match commaOk with|true=> .tup [v,.bool true]|false=>v)
   |false=>match commaOk with|true=>(azg ti ti.zero).bind fun z=>an2 (.tup [z,.bool false])|false=>none
  | .nilI=>match commaOk with|true=>(azg ti ti.zero).bind fun z=>an2 (.tup [z,.bool false])|false=>none
  |_=>none
def aJZ (ap:AP) (ti:TI) (x:AV) (f:Nat):OpR:=
 match ti.d,x with
 | .struct fs,.agg cs=>(fs[f]?).bind fun (o,t,_)=>(ap.tyAt t).bind fun tf=>
  (azg tf (aCd false tf.lks cs o)).bind fun v=>an2 v (aG5 false tf.lks cs o)
 |_,_=>none
def aBL:AV→List Nat
 | .ref b _ _ _=> [b]
 | .ptr b _ _=> [b]
 | .mr b _=> [b]
 |_=> []
def aPm (ρ:Operand→AV):Op→List Nat
 | .load _ a=>aBL (ρ a)
 | .store _ a _=>aBL (ρ a)
 | .indexAddr _ x _=>aBL (ρ x)
 | .slice _ x _ _ _=>aBL (ρ x)
 | .convert _ _ x=>aBL (ρ x)
 | .lookup _ x _ _=>aBL (ρ x)
 | .mapUpdate _ x _ _=>aBL (ρ x)
 | .insert _ x _ _=>aBL (ρ x)
 | .call {callee:= .builtin .append,args,..}=>awv (args.toList.flatMap fun x=>aBL (ρ x))
 |_=> []
def ayG:TD→AV→Bool
 | .int k,.int k' _=>awy k k'
 | .bool,.bool _=>true
 | .str,.str _=>true
 |_,_=>false
def eqK:AV→AV→Bool
 | .int _ a,.int _ b=>a==b
 | .bool a,.bool b=>a==b
 | .str a,.str b=>a==b
 |_,_=>false
def aBY:List AV→List AV→AV→Option AV
 |k0::ks,v0::vs,k=>match eqK k k0 with|true=>some v0|false=>aBY ks vs k
 |_,_,_=>none
def aHE (ks:List AV) (k:AV):List AV:=match ks.any (eqK k) with|true=>ks|false=>ks++ [k]
def aAX:List AV→List AV→AV→AV→List AV
 |k0::ks,v0::vs,k,v=>match eqK k k0 with|true=>v::vs|false=>v0::aAX ks vs k v
 |_,_,_,v=> [v]
def aOS (rd:Nat→Option Blk) (x:AV):Option (List AV × List AV):=
 match x with
 | .mp ks vs=>some (ks,vs)
 | .mr b ver=>(rd b).bind fun B=>match Nat.beq B.ver ver && Nat.beq B.esz awg with
  |true=>match B.cells with| [.agg ks,.agg vs]=>some (ks,vs)|_=>none
  |false=>none
 |_=>none
def aIE (ok:Bool) (o:Option AV) (z:AV):AV:=match ok with|true=> .tup [o.getD z,.bool o.isSome]|false=>o.getD z
def aHs (ap:AP) (ti:TI) (rd:Nat→Option Blk) (x k:AV) (ok:Bool):OpR:=
 match ti.d with
 | .map kt et=>(ap.tyAt kt).bind fun tk=>(ap.tyAt et).bind fun te=>(aOS rd x).bind fun q=>(azg te te.zero).bind fun z=>
   an2 (aIE ok (aBY q.1 q.2 k) z) [ayG tk.d k,q.1.all (ayG tk.d)]
 |_=>none
def aDO (ap:AP) (ti:TI) (rd:Nat→Option Blk) (x k v:AV):OpR:=
 match ti.d,x with
 | .map kt _,.mr b ver=>(ap.tyAt kt).bind fun tk=>(rd b).bind fun B=>match Nat.beq B.ver ver && Nat.beq B.esz awg && !B.fro with
  |true=>match B.cells with
   | [.agg ks,.agg vs]=>some (.dead,[(b,{B with cells:= [.agg (aHE ks k),.agg (aAX ks vs k v)],pr:=B.pr && (avh v).isEmpty})],[ayG tk.d k,ks.all (ayG tk.d)])
   |_=>none
  |false=>none
 |_,_=>none
def opA (ap:AP) (nid:Nat) (ρ:Operand→AV) (rd:Nat→Option Blk) (dec:Operand→Option Bool) (em:Bool) (o:Op):OpR:=
 match o with
 | .move x=>an2 (ρ x)
 | .assign x=>an2 (ρ x)
 | .pick c a b=>match dec c with
  |some true=>an2 (ρ a)
  |some false=>an2 (ρ b)
  |none=>match ρ c,ρ a,ρ b with| .bool c,.bool x,.bool y=>an2 (.bool (cond c x y))|_,_,_=>none
 | .alloc e=>(ap.tyAt e).bind fun te=>match Nat.blt 0 te.size && te.zero.all ayc with|true=>some (.ptr nid 0 0,[awu nid te.zero 0],[])|false=>none
 | .box e x=>(ap.tyAt e).bind fun te=>let vs:=(ρ x).cells
  match Nat.blt 0 te.size && vs.all ayc with|true=>some (.ptr nid 0 0,[awu nid vs 0],[])|false=>none
 | .build t parts=>(ap.tyAt t).bind fun ti=>aJG ap ti (parts.toList.map fun (i,x)=>(i,ρ x))
 | .buildSlice t len parts=>(ap.tyAt t).bind fun ti=>az5 ap nid ti len (parts.toList.map fun (i,x)=>(i,ρ x))
 | .load t a=>(ap.tyAt t).bind fun ti=>aIG ti rd (ρ a)
 | .store t a x=>(ap.tyAt t).bind fun ti=>aKG ti rd (ρ a) (ρ x)
 | .makeMap _ r=>match r with|none=>some (.mr nid 0,[(nid,⟨[.agg [],.agg []],0,false,0,awg,true⟩)],[])|some _=>none
 | .lookup t x k ok=>(ap.tyAt t).bind fun ti=>aHs ap ti rd (ρ x) (ρ k) ok
 | .mapUpdate t x k v=>(ap.tyAt t).bind fun ti=>aDO ap ti rd (ρ x) (ρ k) (ρ v)
 | .insert t x k v=>(ap.tyAt t).bind fun ti=>aDO ap ti rd (ρ x) (ρ k) (ρ v)
 | .nilCheck x=>match ρ x with
  | .ptr b v o=>an2 (.ptr b v o)
  | .pp xs o=>an2 (.pp xs o)
  | .fn f a c=>an2 (.fn f a c)
  |_=>none
 | .binOp op t x y _=>(ap.tyAt t).bind fun ti=>aUd op ti (ρ x) (ρ y)
 | .unOp op _ x=>unA op (ρ x)
 | .convert s d x=>(ap.tyAt s).bind fun ts=>(ap.tyAt d).bind fun td=>aEb ap ts td rd (ρ x)
 | .makeInterface t x=>(ap.tyAt t).bind fun ti=>match ti.d with| .iface=>none|_=>an2 (.ifc t (ρ x))
 | .makeFunc (.func f) first cap=>an2 (.fn f (first.toList.map ρ) (cap.toList.map ρ))
 | .makeSlice t l c=>(ap.tyAt t).bind fun ti=>aBs ap nid ti (ρ l) (ρ c)
 | .slice t x lo hi mx=>(ap.tyAt t).bind fun ti=>aKD ap ti rd (ρ x) (lo.map ρ) (hi.map ρ) (mx.map ρ)
 | .fieldAddr s x f=>(ap.tyAt s).bind fun ti=>match ti.d with
  | .struct fs=>(fs[f]?).bind fun (o,_,sz)=>match Nat.blt 0 sz with|true=>(aPb (ρ x) o).bind fun p=>an2 p|false=>none
  |_=>none
 | .field t x f=>(ap.tyAt t).bind fun ti=>aJZ ap ti (ρ x) f
 | .indexAddr t x i=>(ap.tyAt t).bind fun ti=>aBq ap ti rd (ρ x) (ρ i)
 | .index t x i=>(ap.tyAt t).bind fun ti=>aJ3 ap ti (ρ x) (ρ i)
 | .typeAssert x _ asserted ok=>aG1 ap (ρ x) asserted ok
 | .extract t i=>match ρ t with| .tup l=>(l[i]?).bind fun v=>an2 v|_=>none
 | .call {callee:= .builtin b,args,argTypes}=>
  match b with
  | .len=>(args[0]?).bind fun x=>(argTypes[0]?).bind fun t=>(ap.tyAt t).bind fun ti=>aOF ti.d (ρ x)
  | .append=>match args.toList,argTypes.toList with
   | [s,x],[t,t1]=>(ap.tyAt t).bind fun ti=>(ap.tyAt t1).bind fun ti1=>match ti.d,ti1.d,ρ x with
    | .slice e,.str,.str y=>(ap.tyAt e).bind fun te=>match Nat.beq te.size 1 with|true=>aBJ nid te rd em (ρ s) (.str y)|false=>none
    | .slice _,.slice _,.str _=>none
    | .slice e,.slice _,y=>(ap.tyAt e).bind fun te=>aBJ nid te rd em (ρ s) y
    |_,_,_=>none
   |_,_=>none
  | .min=>(aCx min2 (args.toList.map ρ)).bind fun v=>an2 v
  | .max=>(aCx max2 (args.toList.map ρ)).bind fun v=>an2 v
  |_=>none
 |_=>none
def aGt (P:Program):Nat→TypeId→List LK
 |0,_=> [.oth]
 |n+1,t=>match P.underlying t with
  |some (.int k)=> [.int k]
  |some .bool=> [.bool]
  |some .string=> [.str]
  |some (.slice _)=> [.sl]
  |some (.struct fs)=>fs.toList.flatMap fun f=>aGt P n f.type
  |some (.array m e)=>(List.replicate m (aGt P n e)).flatten
  |_=> [.oth]
def awG (P:Program):Option TypeDesc→TD
 |some (.int k)=> .int k
 |some .bool=> .bool
 |some .string=> .str
 |some (.slice e)=> .slice e
 |some (.array n e)=> .array n e
 |some (.struct fs)=> .struct (fs.toList.map fun f=>(f.offset,f.type,match P.info? f.type with|some i=>i.size|none=>0))
 |some (.interface _)=> .iface
 |some (.pointer _)=> .ptr
 |some (.func _ _ _)=> .func
 |some (.map k e)=> .map k e
 |_=> .oth
def aGa (P:Program) (f:TypeId→Option (List LK)):List Field→Nat→Option (List LK)
 | [],_=>some []
 | x::r,off=>match f x.type with
  |some l=>match !(x.name== "_") && Nat.beq x.offset off && (match P.info? x.type with|some i=>Nat.beq i.size l.length|none=>false) with
   |true=>match aGa P f r (off+l.length) with|some l'=>some (l++l')|none=>none
   |false=>none
  |none=>none
def ay4 (P:Program):Nat→TypeId→Option (List LK)
 |0,_=>none
 |n+1,t=>match P.underlying t with
  |some (.int k)=>some [.int k]
  |some .bool=>some [.bool]
  |some .string=>some [.str]
  |some (.struct fs)=>match P.stoodInHeld t with|true=>none|false=>aGa P (ay4 P n) fs.toList 0
  |_=>none
def aWj (i:TypeInfo) (d:TypeDesc):Bool:=match i.zero,d with
 |some (.agg _),.struct _=>true
 |some (.agg _),.array _ _=>true
 |some (.agg _),_=>false
 |some _,.struct _=>false
 |some _,.array _ _=>false
 |some _,_=>true
 |none,_=>false
def aOd (P:Program) (d:TypeDesc):Bool:=match d with
 | .struct fs=>fs.toList.all fun f=>(P.info? f.type).isSome
 |_=>true
def aFz (i:TypeInfo):List AV:=match i.zero with|some z=>z.cells.toList.map aEU|none=> []
def aU0:LK→LK→Bool
 | .int a,.int b=>awy a b
 | .bool,.bool=>true
 | .str,.str=>true
 |_,_=>false
def aGs:List LK→List LK→Bool
 | [],[]=>true
 |a::r,b::q=>aU0 a b && aGs r q
 |_,_=>false
def aUw (P:Program) (t:TypeId):Bool:=match ay4 P 8 t with|some l=>aGs l (aGt P 8 t) && !P.eqGuardType P.depth t|none=>false
def aPU (P:Program) (t:TypeId):Option TI:=
 match P.info? t,P.underlying t with
 |some i,some d=>
  match Nat.beq (aGt P 8 t).length i.size && (aWj i d && aOd P d) && (aFz i).all ayc && Nat.beq (aFz i).length i.size && Nat.blt 0 i.size && i.zero.isSome && Nat.blt i.size awg with
  |true=>some {d:=awG P (some d),size:=i.size,bytes:=i.bytes,zero:=aFz i,lks:=aGt P 8 t,cmp:=aUw P t}
  |false=>none
 |_,_=>none
abbrev anR:=Nat→Nat→Option Value
def SLe (S S':anR):Prop:=∀ k o v,S k o=some v→S' k o=some v
theorem SLe.refl (S:anR):SLe S S:=fun _ _ _ h=>h
theorem SLe.trans {S S' S'':anR} (h:SLe S S') (h':SLe S' S''):SLe S S'':=fun k o v e=>h' k o v (h k o v e)
def axb (S:anR) (b o:Nat) (vs:List Value):Prop:=∀ j u,vs[j]? =some u→S b (o+j)=some u∧u.oneCell'=true
mutual
def PR (S:anR):AV→Value→Prop
 | .int k n,v=>v= .int k n
 | .bool b,v=>v= .bool b
 | .str s,v=>v= .string ⟨s.toArray⟩
 | .agg l,v=> ∃ vs,v= .agg vs.toArray∧PRL S l vs
 | .tup l,v=> ∃ vs,v= .tuple vs.toArray∧PRL S l vs
 | .nilS,v=>v= .slice none 0 0
 | .sl xs n nn,v=> ∃ a cap,v= .slice a n cap∧n≤cap∧((a=none∧nn=false∧xs= []∧n=0∧cap=0)∨∃ b o vs,a=some ⟨b,o,none⟩∧PRL S xs vs∧axb S b o vs)
 | .pp xs off,v=> ∃ b o vs,v= .pointer (some ⟨b,o+off,none⟩)∧PRL S xs vs∧axb S b o vs
 | .mp ks vs,v=>(v= .map none∧ks= []∧vs= [])∨∃ b kk vv,v= .map (some b)∧S b 0=some (.agg kk.toArray)∧S b 1=some (.agg vv.toArray)∧PRL S ks kk∧PRL S vs vv
 | .nilP,v=>v= .pointer none
 | .fn f a c,v=> ∃ va vc,v= .func (.func f) va.toArray vc.toArray∧PRL S a va∧PRL S c vc
 | .nilF,v=>v= .nilFunc
 | .ifc t x,v=> ∃ u,v= .iface t u∧PR S x u
 | .nilI,v=>v= .nilIface
 | .dead,_=>True
 | .ref _ _ _ _,_=>False
 | .ptr _ _ _,_=>False
 | .mr _ _,_=>False
 | .own _ _ _,_=>False
def PRL (S:anR):List AV→List Value→Prop
 | [],[]=>True
 |x::r,v::vs=>PR S x v∧PRL S r vs
 |_,_=>False
end
abbrev HpF:=Nat→Option Blk
abbrev anV:=Nat→Nat × Nat
mutual
def VR (g:HpF) (m:anV) (S:anR):AV→Value→Prop
 | .ref b ver i n,v=> ∃ B,g b=some B∧ver≤B.ver∧(∃ k o c',v= .slice (some ⟨k,o,none⟩) n c')∧(B.ver=ver→∃ o,v= .slice (some ⟨(m b).1,o,none⟩) n ((m b).2 - i)∧i+n≤(m b).2∧(i<(m b).2→o=i*B.esz)∧0<B.esz∧B.esz ≠ awg)
 | .ptr b ver off,v=> ∃ B,g b=some B∧ver≤B.ver∧(∃ k o,v= .pointer (some ⟨k,o,none⟩))∧(B.ver=ver→v= .pointer (some ⟨(m b).1,off,none⟩))
 | .mr b ver,v=> ∃ B,g b=some B∧ver≤B.ver∧(∃ k,v= .map (some k))∧(B.ver=ver→v= .map (some (m b).1))
 | .agg l,v=> ∃ vs,v= .agg vs.toArray∧VRL g m S l vs
 | .tup l,v=> ∃ vs,v= .tuple vs.toArray∧VRL g m S l vs
 | .fn f a c,v=> ∃ va vc,v= .func (.func f) va.toArray vc.toArray∧VRL g m S a va∧VRL g m S c vc
 | .ifc t x,v=> ∃ u,v= .iface t u∧VR g m S x u
 | .int k n,v=>PR S (.int k n) v
 | .bool b,v=>PR S (.bool b) v
 | .str s,v=>PR S (.str s) v
 | .nilS,v=>PR S .nilS v
 | .sl xs n nn,v=>PR S (.sl xs n nn) v
 | .pp xs off,v=>PR S (.pp xs off) v
 | .mp ks vs,v=>PR S (.mp ks vs) v
 | .nilP,v=>PR S .nilP v
 | .nilF,v=>PR S .nilF v
 | .nilI,v=>PR S .nilI v
 | .dead,_=>True
 | .own _ _ _,_=>False
def VRL (g:HpF) (m:anV) (S:anR):List AV→List Value→Prop
 | [],[]=>True
 |x::r,v::vs=>VR g m S x v∧VRL g m S r vs
 |_,_=>False
end
def anX (x y:AV):Prop:=∀ g m S v,VR g m S x v→VR g m S y v
inductive aAU where
 |v (d:Nat) (x:AV)
 |b (d:Nat) (xs:List AV)
 |u (d:Nat)
inductive Out where
 |ret (v:AV)
 |pan (v:AV)
structure Cx where
 cl:Bool
 orc:List Bool
 bs:List Bool
 ps:List Prop
 ans:List (Out × List Blk)
 hs:List aAU
inductive R (α:Type) where
 |ok (a:α) (c:Cx)
 |need
 |bad (n:Nat)
def R.bind {α β:Type} (r:R α) (f:α→Cx→R β):R β:=
 match r with
 | .ok a c=>f a c
 | .need=> .need
 | .bad n=> .bad n
def lit (o b:Bool):Bool:=match o with|true=>b|false=> !b
def aQ7 (c:Cx) (bs:List Bool):R Unit:=
 match c.cl with
 |true=>match bs.all id with|true=> .ok () c|false=> .bad 1
 |false=> .ok () {c with bs:=bs++c.bs}
def aCt (c:Cx) (b:Bool):R Bool:=
 match c.cl with
 |true=> .ok b c
 |false=>match c.orc with
  | []=> .need
  |o::r=> .ok o {c with orc:=r,bs:=lit o b::c.bs}
def aEq (c:Cx) (dst:Option Nat) (v:AV):AV × Cx:=
 match c.hs,dst with
 | .v d x::r,some d'=>match Nat.beq d d' with
  |true=>(x,{c with hs:=r,ps:=anX v x::c.ps})
  |false=>(v,c)
 |_,_=>(v,c)
def aEp (c:Cx) (dst:Option Nat) (ups:List (Nat × Blk)):List (Nat × Blk) × Cx:=
 match c.hs,dst,ups with
 | .b d xs::r,some d',[(b,B)]=>match Nat.beq d d' with
  |true=>([(b,{B with cells:=xs})],{c with hs:=r,ps:=(B.cells=xs)::c.ps})
  |false=>(ups,c)
 |_,_,_=>(ups,c)
def aK9 (c:Cx) (dst:Option Nat):Bool × Cx:=
 match c.hs,dst with
 | .u d::r,some d'=>match Nat.beq d d' with
  |true=>(true,{c with hs:=r})
  |false=>(false,c)
 |_,_=>(false,c)
abbrev aug:=Cx→AV→Nat→List AV→List Blk→R (Out × List Blk × AV)
def azX (rd:Nat→Option Blk):Nat→List Nat→List Nat
 |0,l=>l
 |n+1,l=>
  let more:=l.flatMap fun b=>match rd b with|some B=>(match B.pr with|true=> []|false=>auh B.cells)|none=> []
  let l':=more.foldl (fun acc b=>if ayQ acc b then acc else acc++ [b]) l
  match Nat.beq l'.length l.length with|true=>l|false=>azX rd n l'
def frz (rd:Nat→Option Blk):Nat→AV→Option AV
 |0,_=>none
 | fuel+1,x=>
  let frzL (l:List AV):Option (List AV):=aw8 (frz rd fuel) l
  match x with
  | .ref b ver i n=>(rd b).bind fun B=>match Nat.beq B.ver ver with
   |true=>match B.pr with
    |true=>some (.sl ((B.cells.drop (i*B.esz)).take (n*B.esz)) n true)
    |false=>(frzL ((B.cells.drop (i*B.esz)).take (n*B.esz))).map fun l=> .sl l n true
   |false=>none
  | .ptr b ver off=>(rd b).bind fun B=>match Nat.beq B.ver ver && !(Nat.beq B.esz awg) with
   |true=>match B.pr with
    |true=>some (.pp B.cells off)
    |false=>(frzL B.cells).map fun l=> .pp l off
   |false=>none
  | .mr b ver=>(rd b).bind fun B=>match Nat.beq B.ver ver && Nat.beq B.esz awg with
   |true=>match B.pr with
    |true=>aRP B.cells
    |false=>(frzL B.cells).bind aRP
   |false=>none
  | .agg l=>(frzL l).map .agg
  | .tup l=>(frzL l).map .tup
  | .fn f a c=>(frzL a).bind fun a=>(frzL c).map fun c=> .fn f a c
  | .ifc t v=>(frz rd fuel v).map (.ifc t)
  | .own _ _ _=>none
  |x=>some x
def ayN (l:List Nat) (b:Nat):Option Nat:=match l with
 | []=>none
 |c::r=>match Nat.beq c b with|true=>some 0|false=>(ayN r b).map (· +1)
def aHA (xs:List AV) (esz:Nat):Blk:={cells:=xs,ver:=0,fro:=false,fz:=0,esz,pr:=true}
def avz (nid:Nat):List AV→List AV × List Blk
 | []=>([],[])
 | .own xs n esz::r=>match avz (nid+1) r with|(l,bs)=>(.ref nid 0 0 n::l,aHA xs esz::bs)
 |x::r=>match avz nid r with|(l,bs)=>(x::l,bs)
def awY (nid:Nat):AV→AV × List Blk
 | .tup l=>match avz nid l with|(l,bs)=>(.tup l,bs)
 | .own xs n esz=>(.ref nid 0 0 n,[aHA xs esz])
 |x=>(x,[])
def aET:Nat→List Blk→List (Nat × Blk)
 |_,[]=> []
 |n,B::r=>(n,B)::aET (n+1) r
def aJm:List Nat→List Blk→List (Nat × Blk)
 |b::r,B::q=>(b,B)::aJm r q
 |_,_=> []
def azB:List Nat→Bool
 | []=>true
 |b::r=> !ayQ r b && azB r
def bkB (ρ:Nat→Nat→Option (Nat × Nat)) (v:Nat) (B:Blk):Blk:={B with cells:=(match B.pr with|true=>B.cells|false=>axG ρ B.cells),ver:=v+B.ver}
def aKW (nid:Nat) (fp:List Nat) (vers:Nat→Nat) (n:Nat):Nat→Nat→Option (Nat × Nat):=fun p v=>
 match fp[p]? with
 |some b=>some (b,vers b+v)
 |none=>match Nat.blt p n with|true=>some (nid+(p - fp.length),v)|false=>none
structure aNt where
 out:Out
 ups:List (Nat × Blk)
 fp:List Nat
 md:AV
def az8 (ap:AP) (H:aug) (rd:Nat→Option Blk) (nid:Nat) (md:AV) (f:Nat) (args:List AV) (c:Cx):R aNt:=
 let fp:=azX rd 6 (awv (auh args))
 let rd:=fun b=>match ayQ fp b with|true=>rd b|false=>none
 let shared:=match ap.fnAt f with|some F=>F.shared|none=>false
 match shared with
 | false=>
  match aw8 (frz rd 6) args with
  |none=> .bad 10
  |some args'=>
   (H c md f args' []).bind fun (out,h',md) c=>
   match h' with
   |_::_=> .bad 14
   | []=>
   let mark:=fp.filterMap fun b=>(rd b).map fun B=>(b,{B with fro:=true,fz:=B.cells.length})
   match out with
   | .ret v=>match awY nid v with|(v,bs)=>match Nat.ble bs.length 4 with|true=> .ok {out:= .ret v,ups:=aET nid bs++mark,fp,md} c|false=> .bad 13
   | .pan v=> .ok {out:= .pan v,ups:=mark,fp,md} c
 | true=>
  let vers:=fun b=>match rd b with|some B=>B.ver|none=>0
  let ρ:Nat→Nat→Option (Nat × Nat):=fun b v=>match Nat.beq v (vers b) with|true=>(ayN fp b).map fun p=>(p,0)|false=>none
  match aw8 rd fp with
  |none=> .bad 11
  | some bl=>
   (H c md f (axG ρ args) (bl.map fun B=> {B with cells:=(match B.pr with|true=>B.cells|false=>axG ρ B.cells),ver:=0})).bind fun (out,h',md) c=>
   match Nat.ble fp.length h'.length && azB fp with
   |false=> .bad 12
   |true=>
    let ρ':=aKW nid fp vers h'.length
    let ups:=(aJm fp h').map fun (b,B)=>(b,bkB ρ' (vers b) B)
    let ex:=(h'.drop fp.length).map (bkB ρ' 0)
    match out with
    | .ret v=>match awY (nid+(h'.length - fp.length)) (ren ρ' v) with|(v,bs)=>match Nat.ble ((h'.length - fp.length)+bs.length) 4 with|true=> .ok {out:= .ret v,ups:=aET nid (ex++bs)++ups,fp,md} c|false=> .bad 13
    | .pan v=>match Nat.ble (h'.length - fp.length) 4 with|true=> .ok {out:= .pan (ren ρ' v),ups:=aET nid (ex++ [])++ups,fp,md} c|false=> .bad 13
inductive an_ where
 |normal
 |exit (id:Nat)
 |ret
 |panic (v:AV)
structure St where
 env:Env
 hp:Hp
 md:AV
 dfs:List (Nat × List AV)
structure aBf where
 rt:List Nat
 wt:List Nat
 rb:List Nat
 wb:List Nat
structure RS where
 env:Env
 hp:Hp
 md:AV
 dfs:List (Nat × List AV)
 dec:List (Nat × Bool)
 feet:List aBf
def aAt (l:List Operand):List Nat:=l.filterMap fun| .tmp t=>some t|_=>none
def aHc (o:Oper):List Nat:=match o.dst with|some d=> [d]|none=> []
def ayT (env:Env) (dst:Option Nat) (v:AV):Env:=match dst with|some d=>(d,v)::env|none=>env
def ay_ (ap:AP) (env:Env):Operand→AV
 | .tmp t=>env.get t
 | .const v=>aEU v
 | .global g=>match (ap.gl[g]?).join with|some xs=> .pp xs 0|none=> .dead
 | .func f=> .fn f [] []
def aJ0 (ops:List Oper) (env:Env) (dec:List (Nat × Bool)) (o:Oper) (c:Cx):R (Bool × List (Nat × Bool)):=
 match o.guard with
 |none=> .ok (true,dec) c
 | some (j,want)=>
  match (ops[j]?).bind (·.dst) with
  |none=> .bad 20
  | some s=>match ad9 dec s with
   |some b=> .ok (lit want b,dec) c
   |none=>match env.get s with
    | .bool b=>(aCt c b).bind fun b' c=> .ok (lit want b',(s,b')::dec) c
    | .tup []=> .ok (false,dec) c
    |_=> .bad 21
def awC (ops:List Oper) (o:Oper):List Nat:=
 match o.guard with
 |none=> []
 |some (j,_)=>match (ops[j]?).bind (·.dst) with|none=> []|some s=> [s]
def aN9 (dec:List (Nat × Bool)) (o:Oper):Bool:=match o.dst with|none=>true|some d=>match ad9 dec d with|none=>true|some _=>false
def aI8 (ap:AP) (H:aug) (nid:Nat) (ops:List Oper) (o:Oper) (s:RS) (c:Cx):R (RS × Option AV):=
 (aJ0 ops s.env s.dec o c).bind fun (run,dec) c=>
 let rt:=aAt o.op.operands.toList++awC ops o
 match aN9 dec o with
 |false=> .bad 35
 |true=>
 match run with
 |false=> .ok ({s with env:=ayT s.env o.dst (.tup []),dec,feet:={rt,wt:=aHc o,rb:= [],wb:= []}::s.feet},none) c
 | true=>
  let ρ:=ay_ ap s.env
  let rdAll:=ad9 s.hp
  match o.op with
  | .call {callee:= .value g,args,..}=>
   match ρ g with
   | .fn f first cap=>
    (az8 ap H rdAll nid .dead f (first++args.toList.map ρ++cap) c).bind fun r c=>
    let foot:aBf:={rt,wt:=aHc o,rb:=r.fp,wb:=r.ups.map fun (q:Nat × Blk)=>q.1}
    match aK9 c o.dst with
    | (true,c)=>match r.out with
     | .ret v=>match r.ups.all (fun (q:Nat × Blk)=>ayQ r.fp q.1) with
      |true=> .ok ({s with env:=ayT s.env o.dst v,dec,feet:={rt,wt:=aHc o,rb:=r.fp,wb:= []}::s.feet},none) {c with ps:=(r.ups.map (fun (q:Nat × Blk)=>some q.2)=r.ups.map (fun (q:Nat × Blk)=>ad9 s.hp q.1))::c.ps}
      |false=> .bad 36
     | .pan _=> .bad 37
    |(false,c)=>match r.out with
     | .ret v=> .ok ({s with env:=ayT s.env o.dst v,hp:=r.ups++s.hp,dec,feet:=foot::s.feet},none) c
     | .pan v=> .ok ({s with hp:=r.ups++s.hp,dec,feet:=foot::s.feet},some v) c
   |_=> .bad 30
  | .call {callee:= .builtin .recover,..}=>
   match s.md with
   | .nilI=> .ok ({s with env:=ayT s.env o.dst .nilI,dec,feet:={rt,wt:=aHc o,rb:= [],wb:= []}::s.feet},none) c
   | .ifc t v=> .ok ({s with env:=ayT s.env o.dst (.ifc t v),md:= .nilI,dec,feet:={rt,wt:=aHc o,rb:= [],wb:= []}::s.feet},none) c
   |_=> .bad 33
  | .defer {callee:= .value g,args,..}=>
   match ρ g with
   | .fn f first cap=> .ok ({s with env:=ayT s.env o.dst .dead,dfs:=(f,first++args.toList.map ρ++cap)::s.dfs,dec,feet:={rt,wt:=aHc o,rb:= [],wb:= []}::s.feet},none) c
   |_=> .bad 34
  | .panic x=>
   match ρ x with
   | .ifc t v=> .ok ({s with dec},some (.ifc t v)) c
   |_=> .bad 31
  | op=>
   let fp:=aPm ρ op
   let rd:=fun b=>match ayQ fp b with|true=>rdAll b|false=>none
   let decs:Operand→Option Bool:=fun| .tmp t=>ad9 dec t|_=>none
   (match aBV ρ op with|some n=>aCt c (Nat.beq n 0)|none=> .ok false c).bind fun em c=>
   match opA ap nid ρ rd decs em op with
   |none=> .bad 32
   | some (v,ups,bs)=>(aQ7 c bs).bind fun _ c=>
    match aEq c o.dst v with
    |(v,c)=>match aEp c o.dst ups with
     |(ups,c)=> .ok ({s with env:=ayT s.env o.dst v,hp:=ups++s.hp,dec,feet:={rt,wt:=aHc o,rb:=fp,wb:=ups.map fun (q:Nat × Blk)=>q.1}::s.feet},none) c
def azL (ap:AP) (H:aug) (ops:List Oper):List Oper→Nat→RS→Cx→R (RS × Option AV)
 | [],_,s,c=> .ok (s,none) c
 | o::r,nid,s,c=>(aI8 ap H nid ops o s c).bind fun (s,p) c=>
  match p with
  |some v=> .ok (s,some v) c
  |none=>match s.feet with
   |f::_=>match f.wb.all (fun x=>Nat.blt x (nid+4)) with|true=>azL ap H ops r (nid+4) s c|false=> .bad 43
   | []=> .bad 44
def aEL (a b:List Nat):Bool:=a.any (ayQ b)
def aw3 (a b:aBf):Bool:=aEL a.wt b.rt||aEL a.wt b.wt||aEL a.rt b.wt||aEL a.wb b.rb||aEL a.wb b.wb||aEL a.rb b.wb
def aAn (n:Nat) (bef:List Nat) (feet:List aBf):Bool:=
 let l:=feet.reverse.zipIdx
 l.all fun (a,i)=>l.all fun (b,j)=> !(Nat.blt i j)|| !(aw3 a b||b.wb.any fun x=>Nat.ble (n+4*i) x && Nat.blt x (n+4*i+4))||(bef.getD j 0).testBit i
def aEh (keep:List Nat) (env:Env):List Nat:=keep.flatMap fun t=>avh (env.get t)
def norm (base:Nat) (keep:List Nat) (s:St):St:=
 let env:=s.env
 let hp:=s.hp
 let rd:=ad9 hp
 let ids:=azX rd 20 (awv (azX rd 20 (List.range base)++aEh keep env++s.dfs.flatMap fun d=>auh d.2))
 let ids:=ids.filter fun b=>(rd b).isSome
 let ρ:Nat→Nat→Option (Nat × Nat):=fun b v=>match rd b with
  |some B=>match Nat.beq B.ver v with
   |true=>(ayN ids b).map fun p=>(p,match Nat.blt p base with|true=>v|false=>0)
   |false=>none
  |none=>none
 {env:=keep.map fun t=>(t,ren ρ (env.get t))
  hp:=ids.zipIdx.filterMap fun (b,p)=>(rd b).map fun B=>(p,{B with cells:=(match B.pr with|true=>B.cells|false=>axG ρ B.cells),ver:=match Nat.blt p base with|true=>B.ver|false=>0})
  md:=s.md
  dfs:=s.dfs.map fun d=>(d.1,axG ρ d.2)}
def av3:Hp→Nat
 | []=>0
 |(b,_)::r=>match Nat.blt b (av3 r) with|true=>av3 r|false=>b+1
def azx (ops:List Oper):Bool:=ops.zipIdx.all fun (o,i)=>o.after.toList.all fun e=> !Region.binds .any e||Nat.blt e.on i
def aHF (ap:AP) (H:aug) (base:Nat) (keep:List Nat) (ops:List Oper) (draw:Bool) (s:St) (c:Cx):R (an_ × St):=
 (azL ap H ops ops (av3 s.hp) {env:=s.env,hp:=s.hp,md:=s.md,dfs:=s.dfs,dec:= [],feet:= []} c).bind fun (s',p) c=>
 match p with
 | some v=>match draw with
  |true=> .bad 40
  |false=>match (avh v).isEmpty with
   |true=> .ok (.panic v,norm base keep ⟨s'.env,s'.hp,s'.md,s'.dfs⟩) c
   |false=> .ok (.panic v,⟨s'.env,s'.hp,s'.md,s'.dfs⟩) c
 |none=>
  match !draw||(aAn (av3 s.hp) (Region.before ops.toArray).toList s'.feet && azx ops && Nat.beq s'.dfs.length s.dfs.length) with
  |true=> .ok (.normal,norm base keep ⟨s'.env,s'.hp,s'.md,s'.dfs⟩) c
  |false=> .bad 41
def aLb (f:St→Cx→R (an_ × St)):Nat→St→Cx→R (an_ × St)
 |0,_,_=> .bad 50
 |n+1,s,c=>(f s c).bind fun (e,s) c=>match e with
  | .normal=>aLb f n s c
  |e=> .ok (e,s) c
def axk (ap:AP) (H:aug) (base:Nat) (keep:List Nat) (lf:Nat):Code→St→Cx→R (an_ × St)
 | .skip,s,c=> .ok (.normal,s) c
 | .label _,s,c=> .ok (.normal,s) c
 | .region _ ops draw,s,c=>aHF ap H base keep ops.toList draw s c
 | .seq a b,s,c=>(axk ap H base keep lf a s c).bind fun (e,s) c=>match e with
  | .normal=>axk ap H base keep lf b s c
  |e=> .ok (e,s) c
 | .cond t a b,s,c=>match ay_ ap s.env t with
  | .bool x=>(aCt c x).bind fun x c=>match x with
   |true=>axk ap H base keep lf a s c
   |false=>axk ap H base keep lf b s c
  |_=> .bad 60
 | .block id b,s,c=>(axk ap H base keep lf b s c).bind fun (e,s) c=>match e with
  | .exit id'=>match Nat.beq id' id with|true=> .ok (.normal,s) c|false=> .ok (.exit id',s) c
  |e=> .ok (e,s) c
 | .loop b,s,c=>aLb (axk ap H base keep lf b) lf s c
 | .exit id,s,c=> .ok (.exit id,s) c
 | .ret,s,c=> .ok (.ret,s) c
 | .scope b,s,c=>axk ap H base keep lf b s c
 |_,_,_=> .bad 61
def aCe (ap:AP) (env:Env) (hp:Hp):ResultVar→Option (AV × List Bool)
 | .tmp t=>some (env.get t,[])
 | .cell a t=>(ap.tyAt t).bind fun ti=>(aIG ti (ad9 hp) (env.get a)).map fun (v,_,bs)=>(v,bs)
def avF (l:List Nat) (b:Nat):Nat:=(l.filter (Nat.beq b)).length
def aRc (base:Nat) (rd:Nat→Option Blk) (v:AV):Option AV:=
 let fp:=azX rd 6 (awv (avh v))
 match fp.all (fun b=>Nat.ble base b) with
 |true=>frz (fun b=>match ayQ fp b with|true=>rd b|false=>none) 6 v
 |false=>none
def azy (base:Nat) (rd:Nat→Option Blk) (all:List Nat) (v:AV):Option AV:=
 let frzO (v:AV):Option AV:=match (avh v).all (fun b=>Nat.blt b base) with|true=>some v|false=>aRc base rd v
 match v with
 | .ref b ver 0 n=>match rd b with
  |some B=>match Nat.ble base b && Nat.beq B.ver ver && !B.fro && B.pr && Nat.beq (avF all b) 1 && Nat.blt 0 B.esz with
   |true=>some (.own (B.cells.take (n*B.esz)) n B.esz)
   |false=>frzO v
  |none=>none
 |v=>frzO v
def adW (f:Func):Code:=f.body.getD .skip
def ayb (md:AV) (args:List AV) (h:List Blk):St:=
 {env:=args.zipIdx.map fun (x,i)=>(i,x),hp:=h.zipIdx.map fun (B,i)=>(i,B),md,dfs:= []}
def aZo:AV→Bool
 | .nilI=>true
 | .ifc _ _=>true
 |_=>false
def aEz (ap:AP) (H:aug):List (Nat × List AV)→AV→Hp→Cx→R (AV × Hp)
 | [],mode,hp,c=> .ok (mode,hp) c
 |(f,args)::r,mode,hp,c=>
  match aZo mode && (avh mode).isEmpty with
  |false=> .bad 78
  |true=>
  (az8 ap H (ad9 hp) (av3 hp) mode f args c).bind fun q c=>
  match q.out with
  | .ret _=>aEz ap H r q.md (q.ups++hp) c
  | .pan _=> .bad 75
def aMZ (rd:Nat→Option Blk) (base:Nat):Nat:=(azX rd 20 (List.range base)).length
def aAM (ap:AP) (base:Nat) (F:Func) (env:Env) (hp:Hp) (c:Cx):R (Out × List Blk):=
 let rd:=ad9 hp
 let n:=aMZ rd base
 match aw8 (aCe ap env hp) F.results.toList,aw8 rd (List.range n) with
 |some vs,some h'=>
  match h'.all (fun B=>B.pr||(auh B.cells).all fun b=>Nat.blt b n) with
  |false=> .bad 76
  |true=>
  (aQ7 c (vs.flatMap fun (q:AV × List Bool)=>q.2)).bind fun _ c=>
  let all:=vs.flatMap fun (q:AV × List Bool)=>azX rd 6 (awv (avh q.1))
  match aw8 (azy n rd all) (vs.map fun (q:AV × List Bool)=>q.1) with
  |some [v]=> .ok (.ret v,h') c
  |some l=> .ok (.ret (.tup l),h') c
  |none=> .bad 70
 |_,_=> .bad 71
def aHC (base:Nat) (v:AV) (hp:Hp) (c:Cx):R (Out × List Blk):=
 let n:=aMZ (ad9 hp) base
 match azy n (ad9 hp) (azX (ad9 hp) 6 (awv (avh v))) v,aw8 (ad9 hp) (List.range n) with
 |some v,some h'=>
  match h'.all (fun B=>B.pr||(auh B.cells).all fun b=>Nat.blt b n) with
  |false=> .bad 77
  |true=> .ok (.pan v,h') c
 |_,_=> .bad 72
def aDE (ap:AP) (H:aug) (base:Nat) (F:Func) (e:an_) (s:St) (c:Cx):R (Out × List Blk × AV):=
 let go (mode:AV):R (Out × List Blk × AV):=
  (aEz ap H s.dfs mode s.hp c).bind fun (mode,hp) c=>
  match mode with
  | .nilI=>(aAM ap base F s.env hp c).bind fun (o,h) c=> .ok (o,h,s.md) c
  | .ifc t v=>(aHC base (.ifc t v) hp c).bind fun (o,h) c=> .ok (o,h,s.md) c
  |_=> .bad 74
 match e with
 | .normal| .ret=>go .nilI
 | .panic (.ifc t v)=>match (avh v).isEmpty with|true=>go (.ifc t v)|false=> .bad 79
 |_=> .bad 73
def aNB (ap:AP) (H:aug) (lf:Nat) (md:AV) (F:AF) (args:List AV) (h:List Blk) (c:Cx):R (Out × List Blk × AV):=
 match adW F.fn with
 | .seq (.region _ ops false) rest=>
  match ops.toList with
  | o ::r=>
   match o.op,o.guard,o.dst with
   | .call {callee:= .builtin .recover,..},none,some d=>
    let s0:=ayb .dead args h
    (azL ap H (o::r) r (av3 s0.hp) {env:=(d,md)::s0.env,hp:=s0.hp,md:= .dead,dfs:= [],dec:= [],feet:= []} c).bind fun (s,p) c=>
    match p with
    |some _=> .bad 81
    | none=>(axk ap H h.length F.keep lf rest (norm h.length F.keep ⟨s.env,s.hp,s.md,s.dfs⟩) c).bind fun (e,s) c=>
     match s.dfs with
     |_::_=> .bad 82
     | []=>match e with
      | .normal| .ret=>(aAM ap h.length F.fn s.env s.hp c).bind fun (o,h) c=> .ok (o,h,.nilI) c
      |_=> .bad 83
   |_,_,_=> .bad 84
  | []=> .bad 85
 |_=> .bad 86
def az7 (ap:AP) (H:aug) (lf:Nat) (md:AV) (f:Nat) (args:List AV) (h:List Blk) (c:Cx):R (Out × List Blk × AV):=
 match ap.fnAt f with
 |none=> .bad 80
 |some F=>match md with
  | .dead=>(axk ap H h.length F.keep lf (adW F.fn) (ayb .dead args h) c).bind fun (e,s) c=>aDE ap H h.length F.fn e s c
  |md=>match aZo md && (avh md).isEmpty with|true=>aNB ap H lf md F args h c|false=> .bad 87
theorem aBg {S:anR}:∀ {l:List AV} {vs:List Value},PRL S l vs→l.length=vs.length
 | [],[],_=>rfl
 |_::_,_::_,h=>by simp only [PRL] at h;simp [aBg h.2]
 | [],_::_,h=>by simp [PRL] at h
 |_::_,[],h=>by simp [PRL] at h
theorem auc {g:HpF} {m:anV} {S:anR}:∀ {l:List AV} {vs:List Value},VRL g m S l vs→l.length=vs.length
 | [],[],_=>rfl
 |_::_,_::_,h=>by simp only [VRL] at h;simp [auc h.2]
 | [],_::_,h=>by simp [VRL] at h
 |_::_,[],h=>by simp [VRL] at h
theorem aKT {S:anR}:∀ {l:List AV} {vs:List Value} (_:PRL S l vs) (i:Nat) {x:AV},l[i]? =some x→∃ v,vs[i]? =some v∧PR S x v
 | [],[],_,i,x,hx=>by simp at hx
 |a::l,v::vs,h,0,x,hx=>by simp only [PRL] at h;simp at hx;subst hx;exact ⟨v,rfl,h.1⟩
 |a::l,v::vs,h,i+1,x,hx=>by simp only [PRL] at h;simp at hx;simpa using aKT h.2 i hx
 | [],_::_,h,_,_,_=>by simp [PRL] at h
 |_::_,[],h,_,_,_=>by simp [PRL] at h
theorem azs {g:HpF} {m:anV} {S:anR}:∀ {l:List AV} {vs:List Value} (_:VRL g m S l vs) (i:Nat) {x:AV},l[i]? =some x→∃ v,vs[i]? =some v∧VR g m S x v
 | [],[],_,i,x,hx=>by simp at hx
 |a::l,v::vs,h,0,x,hx=>by simp only [VRL] at h;simp at hx;subst hx;exact ⟨v,rfl,h.1⟩
 |a::l,v::vs,h,i+1,x,hx=>by simp only [VRL] at h;simp at hx;simpa using azs h.2 i hx
 | [],_::_,h,_,_,_=>by simp [VRL] at h
 |_::_,[],h,_,_,_=>by simp [VRL] at h
theorem ax1 {S:anR}:∀ {l l':List AV} {vs vs':List Value},PRL S l vs→PRL S l' vs'→PRL S (l++l') (vs++vs')
 | [],_,[],_,_,h'=>by simpa using h'
 |_::_,_,_::_,_,h,h'=>by simp only [PRL] at h;simp only [List.cons_append,PRL];exact ⟨h.1,ax1 h.2 h'⟩
 | [],_,_::_,_,h,_=>by simp [PRL] at h
 |_::_,_,[],_,h,_=>by simp [PRL] at h
theorem av2 {g:HpF} {m:anV} {S:anR}:∀ {l l':List AV} {vs vs':List Value},VRL g m S l vs→VRL g m S l' vs'→VRL g m S (l++l') (vs++vs')
 | [],_,[],_,_,h'=>by simpa using h'
 |_::_,_,_::_,_,h,h'=>by simp only [VRL] at h;simp only [List.cons_append,VRL];exact ⟨h.1,av2 h.2 h'⟩
 | [],_,_::_,_,h,_=>by simp [VRL] at h
 |_::_,_,[],_,h,_=>by simp [VRL] at h
theorem axa {S:anR}:∀ (n:Nat) {l:List AV} {vs:List Value},PRL S l vs→PRL S (l.take n) (vs.take n)
 |0,_,_,_=>by simp [PRL]
 |n+1,[],[],_=>by simp [PRL]
 |n+1,_::_,_::_,h=>by simp only [PRL] at h;simp only [List.take_succ_cons,PRL];exact ⟨h.1,axa n h.2⟩
 |_+1,[],_::_,h=>by simp [PRL] at h
 |_+1,_::_,[],h=>by simp [PRL] at h
theorem ayZ {S:anR}:∀ (n:Nat) {l:List AV} {vs:List Value},PRL S l vs→PRL S (l.drop n) (vs.drop n)
 |0,_,_,h=>by simpa using h
 |n+1,[],[],_=>by simp [PRL]
 |n+1,_::_,_::_,h=>by simp only [PRL] at h;simpa using ayZ n h.2
 |_+1,[],_::_,h=>by simp [PRL] at h
 |_+1,_::_,[],h=>by simp [PRL] at h
theorem ay1 {g:HpF} {m:anV} {S:anR}:∀ (n:Nat) {l:List AV} {vs:List Value},VRL g m S l vs→VRL g m S (l.take n) (vs.take n)
 |0,_,_,_=>by simp [VRL]
 |n+1,[],[],_=>by simp [VRL]
 |n+1,_::_,_::_,h=>by simp only [VRL] at h;simp only [List.take_succ_cons,VRL];exact ⟨h.1,ay1 n h.2⟩
 |_+1,[],_::_,h=>by simp [VRL] at h
 |_+1,_::_,[],h=>by simp [VRL] at h
theorem az4 {g:HpF} {m:anV} {S:anR}:∀ (n:Nat) {l:List AV} {vs:List Value},VRL g m S l vs→VRL g m S (l.drop n) (vs.drop n)
 |0,_,_,h=>by simpa using h
 |n+1,[],[],_=>by simp [VRL]
 |n+1,_::_,_::_,h=>by simp only [VRL] at h;simpa using az4 n h.2
 |_+1,[],_::_,h=>by simp [VRL] at h
 |_+1,_::_,[],h=>by simp [VRL] at h
theorem axb.mono {S S':anR} (h:SLe S S') {b o:Nat} {vs:List Value} (hs:axb S b o vs):axb S' b o vs:=fun j u hu=> ⟨h _ _ _ (hs j u hu).1,(hs j u hu).2⟩
mutual
theorem auC {S S':anR} (h:SLe S S'):∀ (x:AV) {v:Value},PR S x v→PR S' x v
 | .int _ _,_,p=>by simpa only [PR] using p
 | .bool _,_,p=>by simpa only [PR] using p
 | .str _,_,p=>by simpa only [PR] using p
 | .nilS,_,p=>by simpa only [PR] using p
 | .nilP,_,p=>by simpa only [PR] using p
 | .nilF,_,p=>by simpa only [PR] using p
 | .nilI,_,p=>by simpa only [PR] using p
 | .dead,_,_=>by simp only [PR]
 | .agg l,_,p=>by
  simp only [PR] at p ⊢
  obtain ⟨vs,e,q⟩:=p
  exact ⟨vs,e,an6 h l q⟩
 | .tup l,_,p=>by
  simp only [PR] at p ⊢
  obtain ⟨vs,e,q⟩:=p
  exact ⟨vs,e,an6 h l q⟩
 | .sl xs n nn,_,p=>by
  simp only [PR] at p ⊢
  obtain ⟨a,cap,e,hle,q⟩:=p
  refine ⟨a,cap,e,hle, ?_⟩
  rcases q with q|⟨b,o,vs,e1,q,hs⟩
  ·exact .inl q
  ·exact .inr ⟨b,o,vs,e1,an6 h xs q,hs.mono h⟩
 | .pp xs off,_,p=>by
  simp only [PR] at p ⊢
  obtain ⟨b,o,vs,e,q,hs⟩:=p
  exact ⟨b,o,vs,e,an6 h xs q,hs.mono h⟩
 | .mp ks vs,_,p=>by
  simp only [PR] at p ⊢
  rcases p with p|⟨b,kk,vv,e,h0,h1,p1,p2⟩
  ·exact .inl p
  ·exact .inr ⟨b,kk,vv,e,h _ _ _ h0,h _ _ _ h1,an6 h ks p1,an6 h vs p2⟩
 | .fn f a c,_,p=>by
  simp only [PR] at p ⊢
  obtain ⟨va,vc,e,q,r⟩:=p
  exact ⟨va,vc,e,an6 h a q,an6 h c r⟩
 | .ifc t x,_,p=>by
  simp only [PR] at p ⊢
  obtain ⟨u,e,q⟩:=p
  exact ⟨u,e,auC h x q⟩
 | .ref _ _ _ _,_,p=>by simp only [PR] at p
 | .ptr _ _ _,_,p=>by simp only [PR] at p
 | .mr _ _,_,p=>by simp only [PR] at p
 | .own _ _ _,_,p=>by simp only [PR] at p
theorem an6 {S S':anR} (h:SLe S S'):∀ (l:List AV) {vs:List Value},PRL S l vs→PRL S' l vs
 | [],[],_=>by simp only [PRL]
 |x::r,v::vs,p=>by simp only [PRL] at p ⊢;exact ⟨auC h x p.1,an6 h r p.2⟩
 | [],_::_,p=>by simp [PRL] at p
 |_::_,[],p=>by simp [PRL] at p
end
mutual
theorem av7 {g:HpF} {m:anV} {S:anR}:∀ (x:AV) {v:Value},PR S x v→VR g m S x v
 | .int _ _,_,p=>by simpa only [VR] using p
 | .bool _,_,p=>by simpa only [VR] using p
 | .str _,_,p=>by simpa only [VR] using p
 | .nilS,_,p=>by simpa only [VR] using p
 | .nilP,_,p=>by simpa only [VR] using p
 | .nilF,_,p=>by simpa only [VR] using p
 | .nilI,_,p=>by simpa only [VR] using p
 | .sl _ _ _,_,p=>by simpa only [VR] using p
 | .pp _ _,_,p=>by simpa only [VR] using p
 | .mp _ _,_,p=>by simpa only [VR] using p
 | .dead,_,_=>by simp only [VR]
 | .agg l,_,p=>by
  simp only [PR] at p;simp only [VR]
  obtain ⟨vs,e,q⟩:=p
  exact ⟨vs,e,aoa l q⟩
 | .tup l,_,p=>by
  simp only [PR] at p;simp only [VR]
  obtain ⟨vs,e,q⟩:=p
  exact ⟨vs,e,aoa l q⟩
 | .fn f a c,_,p=>by
  simp only [PR] at p;simp only [VR]
  obtain ⟨va,vc,e,q,r⟩:=p
  exact ⟨va,vc,e,aoa a q,aoa c r⟩
 | .ifc t x,_,p=>by
  simp only [PR] at p;simp only [VR]
  obtain ⟨u,e,q⟩:=p
  exact ⟨u,e,av7 x q⟩
 | .ref _ _ _ _,_,p=>by simp only [PR] at p
 | .ptr _ _ _,_,p=>by simp only [PR] at p
 | .mr _ _,_,p=>by simp only [PR] at p
 | .own _ _ _,_,p=>by simp only [PR] at p
theorem aoa {g:HpF} {m:anV} {S:anR}:∀ (l:List AV) {vs:List Value},PRL S l vs→VRL g m S l vs
 | [],[],_=>by simp only [VRL]
 |x::r,v::vs,p=>by simp only [PRL] at p;simp only [VRL];exact ⟨av7 x p.1,aoa r p.2⟩
 | [],_::_,p=>by simp [PRL] at p
 |_::_,[],p=>by simp [PRL] at p
end
def azR (g:HpF) (m:anV) (g':HpF) (m':anV) (ρ:Nat→Nat→Option (Nat × Nat)):Prop:=
 ∀ b ver b' ver',ρ b ver=some (b',ver')→∀ B,g b=some B→ver≤B.ver→
  ∃ B',g' b'=some B'∧ver'≤B'.ver∧(B'.ver=ver'→B.ver=ver∧m' b'=m b∧B'.esz=B.esz)
mutual
theorem aCr {g g':HpF} {m m':anV} {S S':anR} {ρ:Nat→Nat→Option (Nat × Nat)} (hS:SLe S S') (h:azR g m g' m' ρ):∀ (x:AV) {v:Value},VR g m S x v→VR g' m' S' (ren ρ x) v
 | .int k n,_,p=>by simp only [VR] at p;simp only [ren,VR];exact auC hS _ p
 | .bool _,_,p=>by simp only [VR] at p;simp only [ren,VR];exact auC hS _ p
 | .str _,_,p=>by simp only [VR] at p;simp only [ren,VR];exact auC hS _ p
 | .nilS,_,p=>by simp only [VR] at p;simp only [ren,VR];exact auC hS _ p
 | .nilP,_,p=>by simp only [VR] at p;simp only [ren,VR];exact auC hS _ p
 | .nilF,_,p=>by simp only [VR] at p;simp only [ren,VR];exact auC hS _ p
 | .nilI,_,p=>by simp only [VR] at p;simp only [ren,VR];exact auC hS _ p
 | .sl _ _ _,_,p=>by simp only [VR] at p;simp only [ren,VR];exact auC hS _ p
 | .pp _ _,_,p=>by simp only [VR] at p;simp only [ren,VR];exact auC hS _ p
 | .mp _ _,_,p=>by simp only [VR] at p;simp only [ren,VR];exact auC hS _ p
 | .dead,_,_=>by simp only [ren,VR]
 | .own _ _ _,_,p=>by simp only [VR] at p
 | .agg l,_,p=>by
  simp only [VR] at p;simp only [ren,VR]
  obtain ⟨vs,e,q⟩:=p
  exact ⟨vs,e,axc hS h l q⟩
 | .tup l,_,p=>by
  simp only [VR] at p;simp only [ren,VR]
  obtain ⟨vs,e,q⟩:=p
  exact ⟨vs,e,axc hS h l q⟩
 | .fn f a c,_,p=>by
  simp only [VR] at p;simp only [ren,VR]
  obtain ⟨va,vc,e,q,r⟩:=p
  exact ⟨va,vc,e,axc hS h a q,axc hS h c r⟩
 | .ifc t x,_,p=>by
  simp only [VR] at p;simp only [ren,VR]
  obtain ⟨u,e,q⟩:=p
  exact ⟨u,e,aCr hS h x q⟩
 | .ref b ver i n,_,p=>by
  simp only [VR] at p;simp only [ren]
  obtain ⟨B,hB,hv,hsh,q⟩:=p
  cases hρ:ρ b ver with
  |none=>simp only [VR]
  |some bv=>
   obtain ⟨b',ver'⟩:=bv
   obtain ⟨B',hB',hv',hc⟩:=h b ver b' ver' hρ B hB hv
   simp only [VR]
   refine ⟨B',hB',hv',hsh,fun e=> ?_⟩
   obtain ⟨e1,e2,e3⟩:=hc e
   rw [e2,e3]
   exact q e1
 | .ptr b ver off,_,p=>by
  simp only [VR] at p;simp only [ren]
  obtain ⟨B,hB,hv,hsh,q⟩:=p
  cases hρ:ρ b ver with
  |none=>simp only [VR]
  |some bv=>
   obtain ⟨b',ver'⟩:=bv
   obtain ⟨B',hB',hv',hc⟩:=h b ver b' ver' hρ B hB hv
   simp only [VR]
   refine ⟨B',hB',hv',hsh,fun e=> ?_⟩
   obtain ⟨e1,e2,_⟩:=hc e
   rw [e2]
   exact q e1
 | .mr b ver,_,p=>by
  simp only [VR] at p;simp only [ren]
  obtain ⟨B,hB,hv,hsh,q⟩:=p
  cases hρ:ρ b ver with
  |none=>simp only [VR]
  |some bv=>
   obtain ⟨b',ver'⟩:=bv
   obtain ⟨B',hB',hv',hc⟩:=h b ver b' ver' hρ B hB hv
   simp only [VR]
   refine ⟨B',hB',hv',hsh,fun e=> ?_⟩
   obtain ⟨e1,e2,_⟩:=hc e
   rw [e2]
   exact q e1
theorem axc {g g':HpF} {m m':anV} {S S':anR} {ρ:Nat→Nat→Option (Nat × Nat)} (hS:SLe S S') (h:azR g m g' m' ρ):∀ (l:List AV) {vs:List Value},VRL g m S l vs→VRL g' m' S' (axG ρ l) vs
 | [],[],_=>by simp only [axG,VRL]
 |x::r,v::vs,p=>by simp only [VRL] at p;simp only [axG,VRL];exact ⟨aCr hS h x p.1,axc hS h r p.2⟩
 | [],_::_,p=>by simp [VRL] at p
 |_::_,[],p=>by simp [VRL] at p
end
def Ge (g:HpF) (m:anV) (g':HpF) (m':anV):Prop:=
 ∀ b B,g b=some B→∃ B',g' b=some B'∧B'.esz=B.esz∧((B'.ver=B.ver∧m' b=m b)∨B.ver<B'.ver)
theorem Ge.refl (g:HpF) (m:anV):Ge g m g m:=fun _ B h=> ⟨B,h,rfl,.inl ⟨rfl,rfl⟩⟩
theorem Ge.trans {g g' g'':HpF} {m m' m'':anV} (h:Ge g m g' m') (h':Ge g' m' g'' m''):Ge g m g'' m'':=by
 intro b B hB
 obtain ⟨B',hB',e,c⟩:=h b B hB
 obtain ⟨B'',hB'',e',c'⟩:=h' b B' hB'
 refine ⟨B'',hB'',e'.trans e, ?_⟩
 rcases c with ⟨c1,c2⟩|c<;>rcases c' with ⟨d1,d2⟩|d
 ·exact .inl ⟨d1.trans c1,d2.trans c2⟩
 ·exact .inr (by omega)
 ·exact .inr (by omega)
 ·exact .inr (by omega)
mutual
theorem ayu {g g':HpF} {m m':anV} {S S':anR} (hS:SLe S S') (h:Ge g m g' m'):∀ (x:AV) {v:Value},VR g m S x v→VR g' m' S' x v
 | .int k n,_,p=>by simp only [VR] at p ⊢;exact auC hS _ p
 | .bool _,_,p=>by simp only [VR] at p ⊢;exact auC hS _ p
 | .str _,_,p=>by simp only [VR] at p ⊢;exact auC hS _ p
 | .nilS,_,p=>by simp only [VR] at p ⊢;exact auC hS _ p
 | .nilP,_,p=>by simp only [VR] at p ⊢;exact auC hS _ p
 | .nilF,_,p=>by simp only [VR] at p ⊢;exact auC hS _ p
 | .nilI,_,p=>by simp only [VR] at p ⊢;exact auC hS _ p
 | .sl _ _ _,_,p=>by simp only [VR] at p ⊢;exact auC hS _ p
 | .pp _ _,_,p=>by simp only [VR] at p ⊢;exact auC hS _ p
 | .mp _ _,_,p=>by simp only [VR] at p ⊢;exact auC hS _ p
 | .dead,_,_=>by simp only [VR]
 | .own _ _ _,_,p=>by simp only [VR] at p
 | .agg l,_,p=>by
  simp only [VR] at p ⊢
  obtain ⟨vs,e,q⟩:=p
  exact ⟨vs,e,axx hS h l q⟩
 | .tup l,_,p=>by
  simp only [VR] at p ⊢
  obtain ⟨vs,e,q⟩:=p
  exact ⟨vs,e,axx hS h l q⟩
 | .fn f a c,_,p=>by
  simp only [VR] at p ⊢
  obtain ⟨va,vc,e,q,r⟩:=p
  exact ⟨va,vc,e,axx hS h a q,axx hS h c r⟩
 | .ifc t x,_,p=>by
  simp only [VR] at p ⊢
  obtain ⟨u,e,q⟩:=p
  exact ⟨u,e,ayu hS h x q⟩
 | .ref b ver i n,_,p=>by
  simp only [VR] at p ⊢
  obtain ⟨B,hB,hv,hsh,q⟩:=p
  obtain ⟨B',hB',he,hc⟩:=h b B hB
  rcases hc with ⟨c1,c2⟩|c
  ·refine ⟨B',hB',by omega,hsh,fun e=> ?_⟩
   rw [c2,he]
   exact q (by omega)
  ·exact ⟨B',hB',by omega,hsh,fun e=>by omega⟩
 | .ptr b ver off,_,p=>by
  simp only [VR] at p ⊢
  obtain ⟨B,hB,hv,hsh,q⟩:=p
  obtain ⟨B',hB',he,hc⟩:=h b B hB
  rcases hc with ⟨c1,c2⟩|c
  ·refine ⟨B',hB',by omega,hsh,fun e=> ?_⟩
   rw [c2]
   exact q (by omega)
  ·exact ⟨B',hB',by omega,hsh,fun e=>by omega⟩
 | .mr b ver,_,p=>by
  simp only [VR] at p ⊢
  obtain ⟨B,hB,hv,hsh,q⟩:=p
  obtain ⟨B',hB',he,hc⟩:=h b B hB
  rcases hc with ⟨c1,c2⟩|c
  ·refine ⟨B',hB',by omega,hsh,fun e=> ?_⟩
   rw [c2]
   exact q (by omega)
  ·exact ⟨B',hB',by omega,hsh,fun e=>by omega⟩
theorem axx {g g':HpF} {m m':anV} {S S':anR} (hS:SLe S S') (h:Ge g m g' m'):∀ (l:List AV) {vs:List Value},VRL g m S l vs→VRL g' m' S' l vs
 | [],[],_=>by simp only [VRL]
 |x::r,v::vs,p=>by simp only [VRL] at p ⊢;exact ⟨ayu hS h x p.1,axx hS h r p.2⟩
 | [],_::_,p=>by simp [VRL] at p
 |_::_,[],p=>by simp [VRL] at p
end
def axD (ap:AP) (S:anR):Prop:=∀ k xs,(ap.gl[k]?).join=some xs→∃ vs,PRL S xs vs∧axb S k 0 vs
structure awf (P:Program) (ap:AP):Prop where
 ty:∀ t ti,ap.tyAt t=some ti→aPU P t=some ti
def aBt (es:Array MapEntry):Array Value:=#[.agg (es.map (·.key)),.agg (es.map (·.val))]
def awM (w:World) (k z:Nat) (cur:Array Value) (e:TypeId):Prop:=
 (z ≠ awg∧w.heap[k]? =some (.cells cur e (0,0)))∨(z=awg∧∃ es clk,w.heap[k]? =some (.map es clk)∧cur=aBt es)
def au2 (w:World) (k o:Nat):Option Value:=match w.heap[k]? with
 |some (.map es _)=>(aBt es)[o]?
 |_=>match w.cell? ⟨k,o,none⟩ with|some v=>if v.oneCell' then some v else none|none=>none
theorem awM.of {w:World} {k z:Nat} {cur:Array Value} {e:TypeId} (hz:z ≠ awg) (h:w.heap[k]? =some (.cells cur e (0,0))):awM w k z cur e:= .inl ⟨hz,h⟩
theorem awM.cells {w:World} {k z:Nat} {cur:Array Value} {e:TypeId} (h:awM w k z cur e) (hz:z ≠ awg):w.heap[k]? =some (.cells cur e (0,0)):=by
 rcases h with h|h
 ·exact h.2
 ·exact absurd h.1 hz
theorem awM.map {w:World} {k z:Nat} {cur:Array Value} {e:TypeId} (h:awM w k z cur e) (hz:z=awg):∃ es clk,w.heap[k]? =some (.map es clk)∧cur=aBt es:=by
 rcases h with h|h
 ·exact absurd hz h.1
 ·exact h.2
theorem awM.same {w w':World} {k z:Nat} {cur:Array Value} {e:TypeId} (h:awM w k z cur e) (hw:w'.heap[k]? =w.heap[k]?):awM w' k z cur e:=by
 unfold awM;rw [hw];exact h
theorem awM.lt {w:World} {k z:Nat} {cur:Array Value} {e:TypeId} (h:awM w k z cur e):k<w.heap.size:=by
 rcases h with ⟨_,h⟩|⟨_,es,clk,h,_⟩<;>exact (Array.getElem?_eq_some_iff.1 h).1
theorem aJH {w w':World} {k o:Nat} (hw:w'.heap[k]? =w.heap[k]?):au2 w' k o=au2 w k o:=by
 unfold au2;rw [hw,World.cell?_of_block (w:=w) (a:=⟨k,o,none⟩) hw]
theorem aAB {w:World} {k o:Nat} {v:Value} (h:au2 w k o=some v) (hv:v.oneCell'=true):w.cell? ⟨k,o,none⟩=some v:=by
 unfold au2 at h
 split at h
 ·rename_i es clk hk
  exfalso
  unfold aBt at h
  rcases (show o=0∨o=1∨2≤o by omega) with rfl|rfl|ho
  ·cases h;cases hv
  ·cases h;cases hv
  ·rw [Array.getElem?_eq_none (by simpa using ho)] at h;cases h
 ·split at h
  ·rename_i v' hc
   split at h
   ·cases h;exact hc
   ·cases h
  ·cases h
theorem aD7 {w:World} {k o:Nat} {v:Value} (h:w.cell? ⟨k,o,none⟩=some v) (hv:v.oneCell'=true):au2 w k o=some v:=by
 unfold au2
 split
 ·rename_i es clk he
  unfold World.cell? at h
  simp only [he] at h
  cases h
 ·rw [h];simp only;rw [if_pos hv]
theorem aAA {w:World} {k o:Nat} {v:Value} (h:au2 w k o=some v) (hv:v.oneCell'=false):∃ es clk,w.heap[k]? =some (.map es clk)∧(aBt es)[o]? =some v:=by
 unfold au2 at h
 split at h
 ·rename_i es clk he;exact ⟨es,clk,he,h⟩
 ·split at h
  ·split at h
   ·rename_i h1;cases h;rw [hv] at h1;cases h1
   ·cases h
  ·cases h
theorem aId {w:World} {k o:Nat} {v:Value} (h:au2 w k o=some v):k<w.heap.size:=by
 cases hv:v.oneCell' with
 |true=>exact World.block_lt_of_cell? w _ (aAB h hv)
 |false=>
  obtain ⟨_,_,hk,_⟩:=aAA h hv
  exact (Array.getElem?_eq_some_iff.1 hk).1
structure aLP (g:HpF) (m:anV) (S:anR) (w:World) (B:Blk) (k c:Nat):Prop where
 lies:∃ cur e vs rest,awM w k B.esz cur e∧cur.toList=vs++rest∧(B.pr=true→PRL S B.cells vs)∧VRL g m S B.cells vs∧(B.esz ≠ awg→∀ u ∈ vs,u.oneCell'=true)∧(0<B.esz→B.esz ≠ awg→cur.size=c*B.esz∧c≤maxLen)
 fz0:B.fro=false→B.fz=0
 fzle:B.fz≤B.cells.length
structure apS (ap:AP) (g:HpF) (m:anV) (S:anR) (w:World):Prop where
 inj:∀ b b' B B',g b=some B→g b'=some B'→(m b).1=(m b').1→b=b'
 blk:∀ b B,g b=some B→aLP g m S w B (m b).1 (m b).2
 sealed:∀ k o v,S k o=some v→au2 w k o=some v
 own:∀ b B,g b=some B→∀ o v,S (m b).1 o=some v→B.fro=true∧o<B.fz
 glob:axD ap S
structure Fr (g:HpF) (m:anV) (S:anR) (w:World) (g':HpF) (m':anV) (S':anR) (w':World):Prop where
 ge:Ge g m g' m'
 sle:SLe S S'
 os:w'.os=w.os
 tape:w'.tape=w.tape
 output:w'.output=w.output
 size:w.heap.size≤w'.heap.size
 rest:∀ k,k<w.heap.size→(∀ b B,g b=some B→(m b).1 ≠ k)→w'.heap[k]? =w.heap[k]?
 img:∀ b B,g' b=some B→w.heap.size≤(m' b).1∨(∃ B0,g b=some B0∧(m' b).1=(m b).1)
 sealN:∀ k o v,S' k o=some v→S k o=some v∨w.heap.size≤k∨∃ b B,g b=some B∧(m b).1=k
theorem Fr.refl (g:HpF) (m:anV) (S:anR) (w:World):Fr g m S w g m S w:=
 ⟨Ge.refl g m,SLe.refl S,rfl,rfl,rfl,Nat.le_refl _,fun _ _ _=>rfl,fun _ B h=> .inr ⟨B,h,rfl⟩,fun _ _ _ h=> .inl h⟩
theorem Fr.trans {g g' g'':HpF} {m m' m'':anV} {S S' S'':anR} {w w' w'':World} (h:Fr g m S w g' m' S' w') (h':Fr g' m' S' w' g'' m'' S'' w''):Fr g m S w g'' m'' S'' w'':=by
 refine ⟨h.ge.trans h'.ge,h.sle.trans h'.sle,h'.os.trans h.os,h'.tape.trans h.tape,h'.output.trans h.output,Nat.le_trans h.size h'.size, ?_, ?_, ?_⟩
 ·intro k hk hn
  rw [h'.rest k (Nat.lt_of_lt_of_le hk h.size) ?_,h.rest k hk hn]
  intro b B hB e
  rcases h.img b B hB with hi|⟨B0,hB0,hi⟩
  ·omega
  ·exact hn b B0 hB0 (hi ▸ e)
 ·intro b B hB
  rcases h'.img b B hB with hi|⟨B0,hB0,hi⟩
  ·exact .inl (Nat.le_trans h.size hi)
  ·rcases h.img b B0 hB0 with hj|⟨B1,hB1,hj⟩
   ·exact .inl (hi ▸ hj)
   ·exact .inr ⟨B1,hB1,hi.trans hj⟩
 ·intro k o v hv
  rcases h'.sealN k o v hv with h1|h1|⟨b,B,hB,h1⟩
  ·exact h.sealN k o v h1
  ·exact .inr (.inl (Nat.le_trans h.size h1))
  ·rcases h.img b B hB with hi|⟨B0,hB0,hi⟩
   ·exact .inr (.inl (h1 ▸ hi))
   ·exact .inr (.inr ⟨b,B0,hB0,by rw [← h1,hi]⟩)
theorem apS.lt {ap:AP} {g:HpF} {m:anV} {S:anR} {w:World} (h:apS ap g m S w) {b:Nat} {B:Blk} (hB:g b=some B):(m b).1<w.heap.size:=by
 obtain ⟨cur,e,vs,rest,hk,_⟩:=(h.blk b B hB).lies
 exact hk.lt
theorem apS.one {ap:AP} {g:HpF} {m:anV} {S:anR} {w:World} (h:apS ap g m S w) {k o:Nat} {v:Value} (hv:S k o=some v) (h1:v.oneCell'=true):w.cell? ⟨k,o,none⟩=some v:=aAB (h.sealed k o v hv) h1
theorem az9 {w:World} {k j:Nat} {cur:Array Value} {e:TypeId} {fr:Nat × Nat} (h:w.heap[k]? =some (.cells cur e fr)):w.cell? ⟨k,j,none⟩=cur.toList[j]? :=by
 rw [cell_of_row w k j cur e fr h];simp
theorem awM.get {w:World} {k z j:Nat} {cur:Array Value} {e:TypeId} {u:Value} (h:awM w k z cur e) (hu:cur.toList[j]? =some u) (h1:z ≠ awg→u.oneCell'=true):au2 w k j=some u:=by
 rcases h with ⟨hz,h⟩|⟨_,es,clk,h,rfl⟩
 ·exact aD7 (by rw [az9 h];exact hu) (h1 hz)
 ·unfold au2;rw [h];simpa using hu
theorem awe {a b:IntKind} (h:awy a b=true):a=b:=by cases a<;>cases b<;>first|rfl|(exact absurd h (by decide))
theorem anN {a b:Nat} (h:Nat.beq a b=true):a=b:=Nat.eq_of_beq_eq_true h
theorem avI {a b:Nat} (h:Nat.ble a b=true):a≤b:=Nat.le_of_ble_eq_true h
theorem avv {a b:Nat} (h:Nat.blt a b=true):a<b:=by
 have:Nat.ble (a+1) b=true:=h
 exact avI this
theorem aTV {S:anR} {x:AV} {v:Value} (h:PR S x v) (hl:ayc x=true):v.oneCell'=true:=by
 cases x<;>simp only [PR] at h<;>first
  |(subst h;rfl)
  |(rcases h with ⟨rfl,_⟩|⟨_,_,_,rfl,_⟩<;>rfl)
  |(obtain ⟨_,_,_,rfl,_⟩:=h;rfl)
  |(obtain ⟨_,_,rfl,_⟩:=h;rfl)
  |(obtain ⟨_,rfl,_⟩:=h;first|rfl|exact absurd hl (by simp [ayc]))
  |(exact absurd hl (by simp [ayc]))
theorem aJw {g:HpF} {m:anV} {S:anR} {x:AV} {v:Value} (h:VR g m S x v) (hl:ayc x=true):v.oneCell'=true:=by
 cases x<;>simp only [VR] at h<;>first
  | (exact aTV h hl)
    |(obtain ⟨_,_,_,⟨_,_,rfl⟩,_⟩:=h;rfl)
  |(obtain ⟨_,_,_,⟨_,_,_,rfl⟩,_⟩:=h;rfl)
  |(obtain ⟨_,_,rfl,_⟩:=h;rfl)
  |(obtain ⟨_,rfl,_⟩:=h;first|rfl|exact absurd hl (by simp [ayc]))
  |(exact absurd hl (by simp [ayc]))
end AM
namespace AM
open Go
structure TyR (P:Program) (t:Nat) (ti:TI) (i:TypeInfo) (d:TypeDesc) (z:Value):Prop where
 info:P.info? t=some i
 und:P.underlying t=some d
 d_eq:ti.d=awG P (some d)
 size:ti.size=i.size
 bytes:ti.bytes=i.bytes
 zero:i.zero=some z
 zcells:ti.zero=z.cells.toList.map aEU
 zleaf:∀ x ∈ ti.zero,ayc x=true
 zsize:z.cells.size=i.size
 lks:ti.lks.length=i.size
 pos:0<i.size
 zagg:aWj i d=true
 fld:aOd P d=true
 small:i.size<awg
theorem ava {P:Program} {ap:AP} (hap:awf P ap) {t:Nat} {ti:TI} (h:ap.tyAt t=some ti):∃ i d z,TyR P t ti i d z:=by
 have h1:=hap.ty t ti h
 unfold aPU at h1
 cases hi:P.info? t with
 |none=>simp [hi] at h1
 | some i=>
  cases hd:P.underlying t with
  |none=>simp [hi,hd] at h1
  | some d=>
   simp only [hi,hd] at h1
   split at h1
   ·rename_i hc
    simp only [Bool.and_eq_true] at hc
    obtain ⟨⟨⟨⟨⟨⟨c1,c0⟩,c2⟩,c3⟩,c4⟩,c5⟩,c6⟩:=hc
    cases hz:i.zero with
    |none=>simp [hz] at c5
    | some z=>
     cases h1
     have ez:aFz i=z.cells.toList.map aEU:=by simp [aFz,hz]
     refine ⟨i,d,z,hi,hd,rfl,rfl,rfl,hz,ez, ?_, ?_,anN c1,avv c4,c0.1,c0.2,avv c6⟩
     ·intro x hx;exact List.all_eq_true.1 c2 x hx
     ·have:=anN c3
      rw [ez] at this
      simpa using this
   ·cases h1
theorem avY {P:Program} {d:TypeDesc} {e:Nat} (h:awG P (some d)= .slice e):d= .slice e:=by cases d<;>simp [awG] at h;subst h;rfl
theorem aCk {P:Program} {d:TypeDesc} {n e:Nat} (h:awG P (some d)= .array n e):d= .array n e:=by cases d<;>simp [awG] at h;obtain ⟨rfl,rfl⟩:=h;rfl
theorem aBA {P:Program} {d:TypeDesc} (h:awG P (some d)= .str):d= .string:=by cases d<;>simp [awG] at h;rfl
theorem aPS {P:Program} {d:TypeDesc} {k:IntKind} (h:awG P (some d)= .int k):d= .int k:=by cases d<;>simp [awG] at h;subst h;rfl
theorem aSL {P:Program} {d:TypeDesc} (h:awG P (some d)= .bool):d= .bool:=by cases d<;>simp [awG] at h;rfl
theorem aAQ {P:Program} {d:TypeDesc} {fs:List (Nat × Nat × Nat)} (h:awG P (some d)= .struct fs):
  ∃ fields:Array Field,d= .struct fields∧fs=fields.toList.map fun f=>(f.offset,f.type,match P.info? f.type with|some i=>i.size|none=>0):=by
 cases d<;>simp [awG] at h
 exact ⟨_,rfl,h.symm⟩
theorem aFo {P:Program} (d:TypeDesc):aHp (awG P (some d))=d.isRow:=by cases d<;>simp [awG,aHp,TypeDesc.isRow]
theorem aF1 (S:anR) (v:Value):PR S (aHx v) v:=by
 cases v<;>simp only [aHx,PR]
 case pointer a=>cases a<;>simp only [PR]
 case map a=>
  cases a with
  |none=>simp [PR]
  |some _=>simp only [PR]
 case slice a n c=>
  split<;>simp only [PR]
theorem aH3 (S:anR) (v:Value):PR S (aEU v) v:=by
 cases v<;>simp only [aEU]<;>try exact aF1 S _
 case agg cs=>
  simp only [PR]
  refine ⟨cs.toList,by simp, ?_⟩
  induction cs.toList with
  |nil=>simp [PRL]
  |cons c r ih=>simp only [List.map_cons,PRL];exact ⟨aF1 S c,ih⟩
 case tuple vs=>
  split
  ·rename_i h
   simp only [PR]
   exact ⟨[],by rw [← h],by simp [PRL]⟩
  ·simp only [PR]
theorem aA1 (S:anR):∀ l:List Value,PRL S (l.map aEU) l
 | []=>by simp [PRL]
 |v::r=>by simp only [List.map_cons,PRL];exact ⟨aH3 S v,aA1 S r⟩
theorem aTW {g:HpF} {m:anV} {S:anR} {k:LK} {c:AV} {v:Value} (h:VR g m S c v) (hc:chk k c=true):VR g m S (eta k c) v:=by
 cases k<;>cases c<;>simp [chk] at hc<;>simp only [eta,AV.toInt,AV.toBool,AV.toStr,AV.slX,AV.slN]<;>try exact h
 ·rw [awe hc];exact h
 ·simp only [VR,PR] at h ⊢
  subst h
  exact ⟨none,0,rfl,Nat.le_refl _,.inl ⟨rfl,trivial,trivial,trivial,rfl⟩⟩
 ·simp only [VR,PR] at h ⊢
  obtain ⟨a,cap,e,hle,q⟩:=h
  refine ⟨a,cap,e,hle, ?_⟩
  rcases q with ⟨q1,_,q2,q3,q4⟩|q
  ·exact .inl ⟨q1,trivial,q2,q3,q4⟩
  ·exact .inr q
theorem aC1 {k:LK} {c:AV} (h:chk k c=true):c ≠ .dead:=by intro e;subst e;cases k<;>simp [chk] at h
theorem getD_some {xs:List AV} {i:Nat} (h:xs.getD i .dead ≠ .dead):xs[i]? =some (xs.getD i .dead):=by
 rw [List.getD_eq_getElem?_getD] at h ⊢
 cases hx:xs[i]? with
 |none=>simp [hx] at h
 |some x=>simp
theorem ax9 (xs:List AV) (off:Nat):(xs.drop off).headD .dead=xs.getD off .dead:=by
 rw [List.headD_eq_head?_getD,List.head?_drop,List.getD_eq_getElem?_getD]
theorem aMG (ty:Bool) (xs:List AV) (off:Nat):aCd ty [] xs off= []:=rfl
theorem aBw (ty:Bool) (k:LK) (ks:List LK) (xs:List AV) (off:Nat):aCd ty (k::ks) xs off=(match ty with|true=>eta k (xs.getD off .dead)|false=>xs.getD off .dead)::aCd ty ks xs (off+1):=by
 show _::aLu ty ks (xs.drop off).tail=_::aLu ty ks (xs.drop (off+1))
 rw [List.tail_drop]
 cases ty<;>simp only [ax9]
theorem aLZ (ty:Bool) (k:LK) (ks:List LK) (xs:List AV) (off:Nat):aG5 ty (k::ks) xs off=(match ty with|true=>chk k (xs.getD off .dead)|false=>chk .oth (xs.getD off .dead))::aG5 ty ks xs (off+1):=by
 show _::aNE ty ks (xs.drop off).tail=_::aNE ty ks (xs.drop (off+1))
 rw [List.tail_drop]
 cases ty<;>simp only [ax9]
theorem ayI {g:HpF} {m:anV} {S:anR} (ty:Bool) {xs:List AV} {vs:List Value} (hv:VRL g m S xs vs):∀ (lks:List LK) (off:Nat),(∀ b ∈ aG5 ty lks xs off,b=true)→
  ∃ us:List Value,us.length=lks.length∧(∀ j u,us[j]? =some u→vs[off+j]? =some u)∧VRL g m S (aCd ty lks xs off) us:=by
 intro lks
 induction lks with
 |nil=>exact fun off _=> ⟨[],rfl,fun _ _ h=>by simp at h,by simp [aMG,VRL]⟩
 | cons k ks ih=>
  intro off h
  simp only [aLZ,List.mem_cons,forall_eq_or_imp] at h
  obtain ⟨us,hl,hu,hr⟩:=ih (off+1) h.2
  have key:∃ v,vs[off]? =some v∧VR g m S ((aCd ty (k::ks) xs off).headD .dead) v:=by
   rw [aBw]
   cases ty with
   |true=>
    obtain ⟨v,hv1,hv2⟩:=azs hv off (getD_some (aC1 h.1))
    exact ⟨v,hv1,aTW hv2 h.1⟩
   |false=>
    obtain ⟨v,hv1,hv2⟩:=azs hv off (getD_some (aC1 h.1))
    exact ⟨v,hv1,hv2⟩
  obtain ⟨v,hv1,hv2⟩:=key
  rw [aBw] at hv2
  refine ⟨v::us,by simp [hl], ?_, ?_⟩
  ·intro j u hj
   cases j with
   |zero=>simp at hj;subst hj;simpa using hv1
   |succ j=>simp at hj;rw [show off+(j+1)=off+1+j from by omega];exact hu j u hj
  ·simp only [aBw,VRL];exact ⟨hv2,hr⟩
theorem aEG {P:Program} {w:World} {t:Nat} {ti:TI} {i:TypeInfo} {d:TypeDesc} {z:Value} (ht:TyR P t ti i d z) {g:HpF} {m:anV} {S:anR} {cs:List AV} {us:List Value} {k a:Nat}
  (hl:us.length=ti.lks.length) (hu:∀ j u,us[j]? =some u→w.cell? ⟨k,a+j,none⟩=some u) (hr:VRL g m S cs us) {v:AV} (hv:azg ti cs=some v):
  ∃ cv,(loadVar t ⟨k,a,none⟩).run P w= .ok cv w∧VR g m S v cv:=by
 unfold azg at hv
 rw [ht.d_eq,aFo] at hv
 split at hv
 ·rename_i hrow
  cases hv
  refine ⟨.agg us.toArray,run_loadVar_mid w k a t us d hu ht.und hrow (by simp [ht.info,hl,ht.lks]), ?_⟩
  simp only [VR];exact ⟨us,rfl,hr⟩
 ·rename_i hrow
  split at hv
  ·rename_i c
   cases hv
   cases us with
   |nil=>simp [VRL] at hr
   | cons u r=>
    simp only [VRL] at hr
    refine ⟨u, ?_,hr.1⟩
    have hag:(isAgg t).run P w= .ok false w:=by
     unfold isAgg;rw [Sem.run_bind,run_underlying ht.und w]
     cases d<;>simp_all [TypeDesc.isRow]
    have hc:=hu 0 u rfl
    simp only [Nat.add_zero] at hc
    simp [loadVar,hag,hc]
  ·cases hv
theorem bind_some {α β:Type} {x:Option α} {f:α→Option β} {b:β} (h:x.bind f=some b):∃ a,x=some a∧f a=some b:=by
 cases x with
 |none=>simp at h
 |some a=>exact ⟨a,rfl,h⟩
theorem anP {v v':AV} {bs bs':List Bool} {ups:List (Nat × Blk)} (h:an2 v bs=some (v',ups,bs')):v'=v∧ups= []∧bs'=bs:=by
 unfold an2 at h;cases h;exact ⟨rfl,rfl,rfl⟩
section
variable {P:Program} {ap:AP} {g:HpF} {m:anV} {S:anR} {w:World}
theorem aC5 (hS:apS ap g m S w) {rd:HpF} (hrd:∀ b B,rd b=some B→g b=some B) {t:Nat} {ti:TI} {i:TypeInfo} {d:TypeDesc} {z:Value} (ht:TyR P t ti i d z)
  {p v:AV} {cp:Value} (hp:VR g m S p cp) {ups:List (Nat × Blk)} {bs:List Bool} (h:aIG ti rd p=some (v,ups,bs)) (hbs:∀ b ∈ bs,b=true):
  ups= []∧∃ cv,(Instr.loadAt t cp).run P w= .ok cv w∧VR g m S v cv:=by
 unfold aIG at h
 split at h
 ·rename_i xs off
  obtain ⟨v',hv',h⟩:=bind_some h
  obtain ⟨rfl,rfl,rfl⟩:=anP h
  simp only [VR,PR] at hp
  obtain ⟨b,o,vs,rfl,hp,hs⟩:=hp
  obtain ⟨us,hl,hu,hr⟩:=ayI (g:=g) (m:=m) true (aoa _ hp) ti.lks off hbs
  obtain ⟨cv,h1,h2⟩:=aEG (w:=w) ht (k:=b) (a:=o+off) hl (fun j u hj=>by
   have hq:=hs (off+j) u (hu j u hj);have:=hS.one hq.1 hq.2;rw [Nat.add_assoc];exact this) hr hv'
  exact ⟨rfl,cv,by simpa [Instr.loadAt,Instr.sureAddr] using h1,h2⟩
 ·rename_i b ver off
  obtain ⟨B,hB,h⟩:=bind_some h
  split at h
  ·rename_i hver
   obtain ⟨v',hv',h⟩:=bind_some h
   obtain ⟨rfl,rfl,rfl⟩:=anP h
   simp only [VR] at hp
   obtain ⟨B',hB',_,_,q⟩:=hp
   have hgB:=hrd b B hB
   rw [hgB] at hB';cases hB'
   simp only [Bool.and_eq_true,Bool.not_eq_true'] at hver
   have hnz:B.esz ≠ awg:=fun e=>by rw [e] at hver;exact absurd hver.2 (by decide)
   have q:=q (anN hver.1)
   subst q
   obtain ⟨cur,e,vs,rest,hk,hc,_,hvs,_⟩:=(hS.blk b B hgB).lies
   have hk:=hk.cells hnz
   obtain ⟨us,hl,hu,hr⟩:=ayI _ hvs ti.lks off hbs
   obtain ⟨cv,h1,h2⟩:=aEG (w:=w) ht (k:=(m b).1) (a:=off) hl (fun j u hj=>by
    have hj':=hu j u hj
    rw [az9 hk,hc,List.getElem?_append_left (List.getElem?_eq_some_iff.1 hj').1]
    exact hj') hr hv'
   exact ⟨rfl,cv,by simpa [Instr.loadAt,Instr.sureAddr] using h1,h2⟩
  ·cases h
 ·cases h
theorem aEV {p p':AV} {cp:Value} (hp:VR g m S p cp) {o:Nat} (h:aPb p o=some p'):∃ a:Addr,cp= .pointer (some a)∧VR g m S p' (.pointer (some (a.add o))):=by
 unfold aPb at h
 split at h<;>cases h
 ·rename_i b ver off
  simp only [VR] at hp
  obtain ⟨B,hB,hv,⟨k,o',rfl⟩,q⟩:=hp
  refine ⟨_,rfl, ?_⟩
  simp only [VR]
  refine ⟨B,hB,hv,⟨k,o'+o,by rw [Addr.add_mid]⟩,fun e=> ?_⟩
  have q:=q e
  simp only [Value.pointer.injEq,Option.some.injEq,Addr.mk.injEq] at q
  obtain ⟨q1,q2,_⟩:=q
  rw [Addr.add_mid,q1,q2]
 ·rename_i xs off
  simp only [VR,PR] at hp
  obtain ⟨b,k,vs,rfl,hp,hs⟩:=hp
  refine ⟨_,rfl, ?_⟩
  simp only [VR,PR]
  exact ⟨b,k,vs,by rw [Addr.add_mid,Nat.add_assoc],hp,hs⟩
end
end AM
namespace AM
open Go
section
variable {P:Program} {ap:AP} {g:HpF} {m:anV} {S:anR} {w:World}
theorem aui {b:Bool} {l:List Bool} (h:∀ x ∈ b::l,x=true):b=true∧∀ x ∈ l,x=true:=⟨h b (by simp),fun x hx=>h x (by simp [hx])⟩
theorem aw6 {t:Nat} {ti:TI} {i:TypeInfo} {d:TypeDesc} {z:Value} (ht:TyR P t ti i d z) (w:World):(Go.sizeOf t).run P w= .ok ti.size w:=by
 simp [Go.sizeOf,typeInfo,ht.info,ht.size]
theorem aC3 {x:AV} {cx:Value} (hx:VR g m S x cx) {n:Int} (h:aLa x=some n):∃ k,cx= .int k n:=by
 cases x<;>simp [aLa] at h
 subst h
 simp only [VR,PR] at hx
 exact ⟨_,hx⟩
theorem aDo {t:Nat} {ti:TI} {i:TypeInfo} {d:TypeDesc} {z:Value} (ht:TyR P t ti i d z) {fs:List (Nat × Nat × Nat)} (hd:ti.d= .struct fs) {f o ft sz:Nat} (hf:fs[f]? =some (o,ft,sz)) (hsz:Nat.blt 0 sz=true)
  {p v:AV} {cp:Value} (hp:VR g m S p cp) (hv:aPb p o=some v):∃ cv,(Instr.fieldAt t cp f).run P w= .ok cv w∧VR g m S v cv:=by
 rw [ht.d_eq] at hd
 obtain ⟨fields,rfl,rfl⟩:=aAQ hd
 simp only [List.getElem?_map,Option.map_eq_some_iff] at hf
 obtain ⟨fl,hfl,he⟩:=hf
 simp only [Prod.mk.injEq] at he
 obtain ⟨rfl,rfl,hs⟩:=he
 obtain ⟨a,rfl,hv⟩:=aEV hp hv
 refine ⟨_, ?_,hv⟩
 have hfl':fields[f]? =some fl:=by simpa using hfl
 cases hi:P.info? fl.type with
 |none=>rw [hi] at hs;simp only at hs;subst hs;exact absurd (avv hsz) (by omega)
 |some j=>
  rw [hi] at hs
  have hj:j.size ≠ 0:=by have:=avv hsz;simp only at hs;omega
  simp [Instr.fieldAt,run_underlying ht.und,hfl',Instr.sureAddr,fieldPlace,Go.sizeOf,typeInfo,hi,hj]
theorem aye {i:Int} {n:Nat} (h0:decide (0≤i)=true) (h1:decide (i<n)=true):0≤i∧i<n∧i.toNat<n:=by
 have a:=of_decide_eq_true h0
 have b:=of_decide_eq_true h1
 omega
theorem aCz (hap:awf P ap) {rd:HpF} (hrd:∀ b B,rd b=some B→g b=some B) {t:Nat} {ti:TI} {i:TypeInfo} {d:TypeDesc} {z:Value} (ht:TyR P t ti i d z)
  {x ix v:AV} {cx ci:Value} (hx:VR g m S x cx) (hi:VR g m S ix ci) {ups:List (Nat × Blk)} {bs:List Bool} (h:aBq ap ti rd x ix=some (v,ups,bs)) (hbs:∀ b ∈ bs,b=true):
  ups= []∧∃ cv,(Instr.indexAt t cx ci).run P w= .ok cv w∧VR g m S v cv:=by
 unfold aBq at h
 have hq:=bind_some h;clear h;obtain ⟨n,hn,h⟩:=hq
 obtain ⟨k,rfl⟩:=aC3 hi hn
 split at h
 ·rename_i e hd
  have hq:=bind_some h;clear h;obtain ⟨te,hte,h⟩:=hq
  obtain ⟨ie,de,ze,hte⟩:=ava hap hte
  rw [ht.d_eq] at hd
  have hd:=avY hd
  subst hd
  split at h
  ·rename_i xs len nn
   obtain ⟨rfl,rfl,rfl⟩:=anP h
   obtain ⟨b1,b2⟩:=aui hbs
   obtain ⟨b2,_⟩:=aui b2
   obtain ⟨h0,h1,h2⟩:=aye b1 b2
   simp only [VR,PR] at hx
   obtain ⟨a,cap,rfl,hle,q⟩:=hx
   rcases q with ⟨_,_,_,q,_⟩|⟨b,o,vs,rfl,hp,hs⟩
   ·subst q;omega
   ·refine ⟨rfl,.pointer (some ⟨b,o+n.toNat*te.size,none⟩), ?_, ?_⟩
    ·simp [Instr.indexAt,asIntOf,run_underlying ht.und,h0,h1,aw6 hte,Addr.add_mid]
    ·simp only [VR,PR];exact ⟨b,o,vs,rfl,hp,hs⟩
  ·rename_i b ver j len
   have hq:=bind_some h;clear h;obtain ⟨B,hB,h⟩:=hq
   split at h
   ·rename_i hc
    simp only [Bool.and_eq_true] at hc
    obtain ⟨rfl,rfl,rfl⟩:=anP h
    obtain ⟨b1,b2⟩:=aui hbs
    obtain ⟨b2,_⟩:=aui b2
    obtain ⟨h0,h1,h2⟩:=aye b1 b2
    simp only [VR] at hx
    obtain ⟨B',hB',hv,_,q⟩:=hx
    have hg:=hrd b B hB
    rw [hg] at hB';cases hB'
    obtain ⟨o,rfl,q1,q2,q3⟩:=q (anN hc.1)
    have ho:=q2 (by omega)
    have hes:=anN hc.2
    refine ⟨rfl,.pointer (some ⟨(m b).1,(j+n.toNat)*te.size,none⟩), ?_, ?_⟩
    ·rw [ho,hes]
     simp [Instr.indexAt,asIntOf,run_underlying ht.und,h0,h1,aw6 hte,Addr.add_mid,Nat.add_mul]
    ·simp only [VR];exact ⟨B,hg,by have:=anN hc.1;omega,⟨_,_,rfl⟩,fun _=>trivial⟩
   ·cases h
  ·cases h
 ·rename_i len e hd
  have hq:=bind_some h;clear h;obtain ⟨te,hte,h⟩:=hq
  obtain ⟨ie,de,ze,hte⟩:=ava hap hte
  have hq:=bind_some h;clear h;obtain ⟨p,hp,h⟩:=hq
  obtain ⟨rfl,rfl,rfl⟩:=anP h
  rw [ht.d_eq] at hd
  have hd:=aCk hd
  subst hd
  obtain ⟨b1,b2⟩:=aui hbs
  obtain ⟨b2,_⟩:=aui b2
  obtain ⟨h0,h1,h2⟩:=aye b1 b2
  obtain ⟨a,rfl,hv⟩:=aEV hx hp
  refine ⟨rfl,_, ?_,hv⟩
  simp [Instr.indexAt,asIntOf,run_underlying ht.und,h0,h1,aw6 hte,Instr.sureAddr]
 ·cases h
theorem aEZ {t:Nat} {ti:TI} {i:TypeInfo} {d:TypeDesc} {z:Value} (ht:TyR P t ti i d z) {vs us:List Value} {cs:List AV} {off:Nat}
  (hl:us.length=ti.lks.length) (hu:∀ j u,us[j]? =some u→vs[off+j]? =some u) (hr:VRL g m S cs us) {v:AV} (hv:azg ti cs=some v):
  ∃ cv,(part t vs.toArray off).run P w= .ok cv w∧VR g m S v cv:=by
 have hag:(isAgg t).run P w= .ok d.isRow w:=by
  unfold isAgg;rw [Sem.run_bind,run_underlying ht.und w]
  cases d<;>simp [TypeDesc.isRow]
 unfold azg at hv
 rw [ht.d_eq,aFo] at hv
 split at hv
 ·rename_i hrow
  cases hv
  have hx:(vs.drop off).take ti.size=us:=by
   apply List.ext_getElem?
   intro j
   rw [List.getElem?_take,List.getElem?_drop]
   have hsz:ti.size=us.length:=by rw [hl,ht.lks,ht.size]
   split
   ·rename_i hj
    have hj':j<us.length:=by omega
    have:=hu j us[j] (List.getElem?_eq_getElem hj')
    rw [this,List.getElem?_eq_getElem hj']
   ·rename_i hj
    rw [List.getElem?_eq_none (by omega)]
  refine ⟨.agg us.toArray, ?_, ?_⟩
  ·simp [part,hag,hrow,aw6 ht,hx]
  ·simp only [VR];exact ⟨us,rfl,hr⟩
 ·rename_i hrow
  split at hv
  ·rename_i c
   cases hv
   cases us with
   |nil=>simp [VRL] at hr
   |cons u r=>
    simp only [VRL] at hr
    refine ⟨u, ?_,hr.1⟩
    have hc:=hu 0 u rfl
    simp only [Nat.add_zero] at hc
    have hrow:d.isRow=false:=by simpa using hrow
    simp [part,hag,hrow,hc]
  ·cases hv
theorem aHh (hap:awf P ap) {t:Nat} {ti:TI} {i:TypeInfo} {d:TypeDesc} {z:Value} (ht:TyR P t ti i d z) {x v:AV} {cx:Value} (hx:VR g m S x cx) {f:Nat} {ups:List (Nat × Blk)} {bs:List Bool}
  (h:aJZ ap ti x f=some (v,ups,bs)) (hbs:∀ b ∈ bs,b=true):ups= []∧∃ cv,(Instr.field t cx f).run P w= .ok cv w∧VR g m S v cv:=by
 unfold aJZ at h
 split at h
 ·rename_i fs cs hd
  have hq:=bind_some h;clear h;obtain ⟨⟨o,ft,sz⟩,hf,h⟩:=hq
  have hq:=bind_some h;clear h;obtain ⟨tf,htf,h⟩:=hq
  have hq:=bind_some h;clear h;obtain ⟨v',hv',h⟩:=hq
  obtain ⟨rfl,rfl,rfl⟩:=anP h
  obtain ⟨ie,de,ze,htf⟩:=ava hap htf
  rw [ht.d_eq] at hd
  obtain ⟨fields,rfl,rfl⟩:=aAQ hd
  simp only [List.getElem?_map,Option.map_eq_some_iff] at hf
  obtain ⟨fl,hfl,he⟩:=hf
  simp only [Prod.mk.injEq] at he
  obtain ⟨rfl,rfl,hs⟩:=he
  simp only [VR] at hx
  obtain ⟨vs,rfl,hx⟩:=hx
  obtain ⟨us,hl,hu,hr⟩:=ayI false hx tf.lks fl.offset hbs
  obtain ⟨cv,h1,h2⟩:=aEZ (w:=w) htf hl hu hr hv'
  have hfl':fields[f]? =some fl:=by simpa using hfl
  refine ⟨rfl,cv, ?_,h2⟩
  simp [Instr.field,run_underlying ht.und,hfl',asAgg,h1]
 ·cases h
theorem aOi (s:List UInt8) (i:Nat) (h:i<s.length):(⟨s.toArray⟩:ByteArray)[i]? =some (s.getD i 0):=by
 have hs:i<(⟨s.toArray⟩:ByteArray).size:=by simpa [ByteArray.size] using h
 rw [getElem?_pos _ i hs]
 simp only [ByteArray.getElem_eq_getElem_data,List.getElem_toArray]
 rw [List.getD_eq_getElem?_getD,List.getElem?_eq_getElem h]
 rfl
theorem aHn (hap:awf P ap) {t:Nat} {ti:TI} {i:TypeInfo} {d:TypeDesc} {z:Value} (ht:TyR P t ti i d z) {x ix v:AV} {cx ci:Value} (hx:VR g m S x cx) (hi:VR g m S ix ci) {ups:List (Nat × Blk)} {bs:List Bool}
  (h:aJ3 ap ti x ix=some (v,ups,bs)) (hbs:∀ b ∈ bs,b=true):ups= []∧∃ cv,(Instr.index t cx ci).run P w= .ok cv w∧VR g m S v cv:=by
 unfold aJ3 at h
 have hq:=bind_some h;clear h;obtain ⟨n,hn,h⟩:=hq
 obtain ⟨k,rfl⟩:=aC3 hi hn
 split at h
 ·rename_i s hd
  obtain ⟨rfl,rfl,rfl⟩:=anP h
  obtain ⟨b1,b2⟩:=aui hbs
  obtain ⟨b2,_⟩:=aui b2
  obtain ⟨h0,h1,h2⟩:=aye b1 b2
  rw [ht.d_eq] at hd
  have hd:=aBA hd
  subst hd
  simp only [VR,PR] at hx
  subst hx
  refine ⟨rfl,.int .u8 (s.getD n.toNat 0).toNat, ?_,by simp only [VR,PR]⟩
  simp [Instr.index,asIntOf,run_underlying ht.und,h0,aOi s n.toNat h2]
 ·rename_i len e cs hd
  have hq:=bind_some h;clear h;obtain ⟨te,hte,h⟩:=hq
  have hq:=bind_some h;clear h;obtain ⟨v',hv',h⟩:=hq
  obtain ⟨rfl,rfl,rfl⟩:=anP h
  obtain ⟨ie,de,ze,hte⟩:=ava hap hte
  obtain ⟨b1,b2⟩:=aui hbs
  obtain ⟨b2,b3⟩:=aui b2
  obtain ⟨h0,h1,h2⟩:=aye b1 b2
  rw [ht.d_eq] at hd
  have hd:=aCk hd
  subst hd
  simp only [VR] at hx
  obtain ⟨vs,rfl,hx⟩:=hx
  obtain ⟨us,hl,hu,hr⟩:=ayI true hx te.lks (n.toNat*te.size) b3
  obtain ⟨cv,h1',h2'⟩:=aEZ (w:=w) hte hl hu hr hv'
  refine ⟨rfl,cv, ?_,h2'⟩
  simp [Instr.index,asIntOf,run_underlying ht.und,h0,h1,aw6 hte,h1']
 ·cases h
end
end AM
namespace AM
open Go
section
variable {P:Program} {ap:AP} {g:HpF} {m:anV} {S:anR} {w:World}
def aDS (g:HpF) (m:anV) (S:anR) (x:Option AV) (c:Option Value):Prop:=
 match x,c with
 |none,none=>True
 |some x,some c=>VR g m S x c
 |_,_=>False
theorem avW {x:Option AV} {c:Option Value} (h:aDS g m S x c) {d n:Int} (hn:ayg x d=some n):(x=none∧c=none∧n=d)∨∃ k,c=some (.int k n):=by
 cases x with
 |none=>cases c with
  |none=>simp [ayg] at hn;exact .inl ⟨rfl,rfl,hn.symm⟩
  |some c=>simp [aDS] at h
 | some x=>cases c with
  |none=>simp [aDS] at h
  |some c=>
   cases x<;>simp [ayg] at hn
   subst hn
   simp only [aDS,VR,PR] at h
   subst h
   exact .inr ⟨_,rfl⟩
theorem azI (P:Program) (w:World) (isS:Bool) (len cap:Nat) (lo hi:Option Value) (l h:Int)
  (hl:(lo=none∧l=0)∨∃ k,lo=some (.int k l)) (hh:(hi=none∧h=len)∨∃ k,hi=some (.int k h)) (h0:0≤l) (h1:l≤h) (h2:h≤cap):
  (Instr.sliceBounds isS len cap lo hi none).run P w= .ok (l.toNat,h.toNat,cap) w:=by
 have h4:0≤h:=by omega
 rcases hl with ⟨rfl,rfl⟩|⟨k,rfl⟩<;>rcases hh with ⟨rfl,rfl⟩|⟨k',rfl⟩
 ·simp [Instr.sliceBounds]
 ·simp [Instr.sliceBounds,Instr.sliceBound,asIntOf,h2,h4]
 ·have h3':l≤(len:Int):=h1
  simp [Instr.sliceBounds,Instr.sliceBound,asIntOf,h0,h3']
 ·simp [Instr.sliceBounds,Instr.sliceBound,asIntOf,h0,h2,h4]
  intro hc;omega
theorem aIo (s:List UInt8) (l h:Nat):(⟨s.toArray⟩:ByteArray).extract l h=⟨((s.take h).drop l).toArray⟩:=by
 apply ByteArray.ext
 rw [ByteArray.data_extract]
 apply Array.ext'
 simp [List.extract_eq_take_drop,List.drop_take]
theorem aCi (s:List UInt8):(⟨s.toArray⟩:ByteArray).size=s.length:=by simp [ByteArray.size]
theorem axb.drop {b o:Nat} {vs:List Value} (h:axb S b o vs) (n:Nat):axb S b (o+n) (vs.drop n):=by
 intro j u hj
 rw [List.getElem?_drop] at hj
 rw [Nat.add_assoc]
 exact h _ _ hj
theorem axb.take {b o:Nat} {vs:List Value} (h:axb S b o vs) (n:Nat):axb S b o (vs.take n):=by
 intro j u hj
 rw [List.getElem?_take] at hj
 split at hj
 ·exact h _ _ hj
 ·cases hj
theorem aLU {a b c:Bool} (h:∀ x ∈ [a,b,c],x=true):a=true∧b=true∧c=true:=⟨h a (by simp),h b (by simp),h c (by simp)⟩
theorem aFQ {α:Type} (xs:List α) (n:Nat):(xs.take n).drop n= []:=by
 apply List.drop_eq_nil_of_le;simp;omega
theorem aHM (hap:awf P ap) {rd:HpF} (hrd:∀ b B,rd b=some B→g b=some B) {t:Nat} {ti:TI} {i:TypeInfo} {d:TypeDesc} {z:Value} (ht:TyR P t ti i d z)
  {x v:AV} {cx:Value} (hx:VR g m S x cx) {lo hi mx:Option AV} {clo chi cmx:Option Value} (hlo:aDS g m S lo clo) (hhi:aDS g m S hi chi) (hmx:aDS g m S mx cmx)
  {ups:List (Nat × Blk)} {bs:List Bool} (h:aKD ap ti rd x lo hi mx=some (v,ups,bs)) (hbs:∀ b ∈ bs,b=true):
  ups= []∧∃ cv,(Instr.sliceAt t cx clo chi cmx).run P w= .ok cv w∧VR g m S v cv:=by
 have hmx0:mx=none→cmx=none:=by intro e;subst e;cases cmx<;>simp [aDS] at hmx ⊢
 unfold aKD at h
 split at h
 ·rename_i s hd
  have hq:=bind_some h;clear h;obtain ⟨l,hl,h⟩:=hq
  have hq:=bind_some h;clear h;obtain ⟨u,hu,h⟩:=hq
  obtain ⟨rfl,rfl,rfl⟩:=anP h
  obtain ⟨b1,b2,b3⟩:=aLU hbs
  have b1:=of_decide_eq_true b1
  have b2:=of_decide_eq_true b2
  have b3:=of_decide_eq_true b3
  rw [ht.d_eq] at hd
  have hd:=aBA hd
  subst hd
  simp only [VR,PR] at hx
  subst hx
  rw [hmx0 rfl]
  have hb:=azI P w false s.length s.length clo chi l u ((avW hlo hl).imp (fun h=> ⟨h.2.1,h.2.2⟩) id) ((avW hhi hu).imp (fun h=> ⟨h.2.1,h.2.2⟩) id) b1 b2 b3
  refine ⟨rfl,.string ⟨((s.take u.toNat).drop l.toNat).toArray⟩, ?_,by simp only [VR,PR]⟩
  rw [← aIo]
  simp [Instr.sliceAt,Instr.slice,run_underlying ht.und,aCi,hb]
 ·rename_i e xs n nn hd
  have hq:=bind_some h;clear h;obtain ⟨te,hte,h⟩:=hq
  have hq:=bind_some h;clear h;obtain ⟨l,hl,h⟩:=hq
  have hq:=bind_some h;clear h;obtain ⟨u,hu,h⟩:=hq
  obtain ⟨rfl,rfl,rfl⟩:=anP h
  obtain ⟨ie,de,ze,hte⟩:=ava hap hte
  obtain ⟨b1,b2,b3⟩:=aLU hbs
  have b1:=of_decide_eq_true b1
  have b2:=of_decide_eq_true b2
  have b3:=of_decide_eq_true b3
  rw [ht.d_eq] at hd
  have hd:=avY hd
  subst hd
  simp only [VR,PR] at hx
  obtain ⟨a,cap,rfl,hle,q⟩:=hx
  rw [hmx0 rfl]
  have hb:=azI P w true n cap clo chi l u ((avW hlo hl).imp (fun h=> ⟨h.2.1,h.2.2⟩) id) ((avW hhi hu).imp (fun h=> ⟨h.2.1,h.2.2⟩) id) b1 b2 (by omega)
  refine ⟨rfl,.slice (if cap=l.toNat then a else a.map (·.add (l.toNat*te.size))) (u.toNat - l.toNat) (cap - l.toNat), ?_, ?_⟩
  ·simp [Instr.sliceAt,Instr.slice,run_underlying ht.und,hb,aw6 hte]
  ·simp only [VR,PR]
   refine ⟨_,_,rfl,by omega, ?_⟩
   rcases q with ⟨rfl,q1,rfl,rfl,rfl⟩|⟨b,o,vs,rfl,hp,hs⟩
   ·refine .inl ⟨by simp,q1,by simp,by omega,by omega⟩
   ·refine .inr ?_
    by_cases hc:cap=l.toNat
    ·refine ⟨b,o,[],by rw [if_pos hc], ?_,fun j u h=>by simp at h⟩
     have e:(xs.take (u.toNat*te.size)).drop (l.toNat*te.size)= []:=by
      have:u.toNat=l.toNat:=by omega
      rw [this,aFQ]
     rw [e];simp [PRL]
    ·exact ⟨b,o+l.toNat*te.size,(vs.take (u.toNat*te.size)).drop (l.toNat*te.size),by rw [if_neg hc];simp [Addr.add_mid],ayZ _ (axa _ hp),(hs.take _).drop _⟩
 ·rename_i e b ver j n hd
  have hq:=bind_some h;clear h;obtain ⟨te,hte,h⟩:=hq
  have hq:=bind_some h;clear h;obtain ⟨B,hB,h⟩:=hq
  have hq:=bind_some h;clear h;obtain ⟨l,hl,h⟩:=hq
  have hq:=bind_some h;clear h;obtain ⟨u,hu,h⟩:=hq
  split at h
  ·rename_i hc
   simp only [Bool.and_eq_true] at hc
   obtain ⟨rfl,rfl,rfl⟩:=anP h
   obtain ⟨ie,de,ze,hte⟩:=ava hap hte
   obtain ⟨b1,b2,b3⟩:=aLU hbs
   have b1:=of_decide_eq_true b1
   have b2:=of_decide_eq_true b2
   have b3:=of_decide_eq_true b3
   rw [ht.d_eq] at hd
   have hd:=avY hd
   subst hd
   simp only [VR] at hx
   obtain ⟨B',hB',hv,_,q⟩:=hx
   have hg:=hrd b B hB
   rw [hg] at hB';cases hB'
   obtain ⟨o,rfl,q1,q2,q3⟩:=q (anN hc.1)
   have hes:=anN hc.2
   rw [hmx0 rfl]
   have hb:=azI P w true n ((m b).2 - j) clo chi l u ((avW hlo hl).imp (fun h=> ⟨h.2.1,h.2.2⟩) id) ((avW hhi hu).imp (fun h=> ⟨h.2.1,h.2.2⟩) id) b1 b2 (by omega)
   refine ⟨rfl,.slice (if (m b).2 - j=l.toNat then some ⟨(m b).1,o,none⟩ else some ⟨(m b).1,o+l.toNat*te.size,none⟩) (u.toNat - l.toNat) ((m b).2 - j - l.toNat), ?_, ?_⟩
   ·simp [Instr.sliceAt,Instr.slice,run_underlying ht.und,hb,aw6 hte,Addr.add_mid]
   ·simp only [VR]
    refine ⟨B,hg,hv,(by split<;>exact ⟨_,_,_,rfl⟩),fun _=> ?_⟩
    by_cases hcl:(m b).2 - j=l.toNat
    ·exact ⟨o,by rw [if_pos hcl];congr 1;omega,by omega,fun h=>by omega,q3⟩
    ·refine ⟨o+l.toNat*te.size,by rw [if_neg hcl];congr 1;omega,by omega,fun h=> ?_,q3⟩
     rw [q2 (by omega),hes,Nat.add_mul]
  ·cases h
 ·rename_i e hd
  have hq:=bind_some h;clear h;obtain ⟨te,hte,h⟩:=hq
  have hq:=bind_some h;clear h;obtain ⟨l,hl,h⟩:=hq
  have hq:=bind_some h;clear h;obtain ⟨u,hu,h⟩:=hq
  obtain ⟨rfl,rfl,rfl⟩:=anP h
  obtain ⟨ie,de,ze,hte⟩:=ava hap hte
  have b1:=of_decide_eq_true (hbs (decide (l=0)) (by simp))
  have b2:=of_decide_eq_true (hbs (decide (u=0)) (by simp))
  subst b1
  subst b2
  rw [ht.d_eq] at hd
  have hd:=avY hd
  subst hd
  simp only [VR,PR] at hx
  subst hx
  rw [hmx0 rfl]
  have hb:=azI P w true 0 0 clo chi 0 0 ((avW hlo hl).imp (fun h=> ⟨h.2.1,h.2.2⟩) id) ((avW hhi hu).imp (fun h=> ⟨h.2.1,h.2.2⟩) id) (by omega) (by omega) (by omega)
  refine ⟨rfl,.slice none 0 0, ?_,by simp only [VR,PR]⟩
  simp at hb
  simp [Instr.sliceAt,Instr.slice,run_underlying ht.und,hb,aw6 hte]
 ·cases h
theorem aKb {x v:AV} {cx:Value} (hx:VR g m S x cx) {t:Nat} {ti:TI} {i:TypeInfo} {d:TypeDesc} {z:Value} (ht:TyR P t ti i d z)
  {ups:List (Nat × Blk)} {bs:List Bool} (h:aOF ti.d x=some (v,ups,bs)) (ats:Array TypeId) (hat:ats[0]? =some t) (args:Array Value) (ha:args[0]? =some cx) (ty:Nat):
  ups= []∧∃ cv,(Builtin.len_ ats ty args).run P w= .ok cv w∧VR g m S v cv:=by
 unfold aOF at h
 rw [ht.d_eq] at h
 split at h
 ·rename_i n e hd
  obtain ⟨rfl,rfl,rfl⟩:=anP h
  have hd:=aCk hd
  subst hd
  exact ⟨rfl,.int .i64 n,by simp [Builtin.len_,hat,ha,run_underlying ht.und,goInt],by simp only [VR,PR]⟩
 ·rename_i s hd
  obtain ⟨rfl,rfl,rfl⟩:=anP h
  have hd:=aBA hd
  subst hd
  simp only [VR,PR] at hx
  subst hx
  exact ⟨rfl,.int .i64 s.length,by simp [Builtin.len_,hat,ha,run_underlying ht.und,goInt,aCi],by simp only [VR,PR]⟩
 ·rename_i e xs n nn hd
  obtain ⟨rfl,rfl,rfl⟩:=anP h
  have hd:=avY hd
  subst hd
  simp only [VR,PR] at hx
  obtain ⟨a,cap,rfl,_⟩:=hx
  exact ⟨rfl,.int .i64 n,by simp [Builtin.len_,hat,ha,run_underlying ht.und,goInt],by simp only [VR,PR]⟩
 ·rename_i e b ver j n hd
  obtain ⟨rfl,rfl,rfl⟩:=anP h
  have hd:=avY hd
  subst hd
  simp only [VR] at hx
  obtain ⟨_,_,_,⟨_,_,cap,rfl⟩,_⟩:=hx
  exact ⟨rfl,.int .i64 n,by simp [Builtin.len_,hat,ha,run_underlying ht.und,goInt],by simp only [VR,PR]⟩
 ·rename_i e hd
  obtain ⟨rfl,rfl,rfl⟩:=anP h
  have hd:=avY hd
  subst hd
  simp only [VR,PR] at hx
  subst hx
  exact ⟨rfl,.int .i64 0,by simp [Builtin.len_,hat,ha,run_underlying ht.und,goInt],by simp only [VR,PR]⟩
 ·cases h
theorem aFq (s:List UInt8):(⟨s.toArray⟩:ByteArray).toList=s:=by rw [ByteArray.toList_eq]
theorem aBO:∀ a b:List UInt8,Op.bytesLess a b=av5 a b
 |_,[]=>by simp [Op.bytesLess,av5]
 | [],_::_=>by simp [Op.bytesLess,av5]
 |a::x,b::y=>by simp only [Op.bytesLess,av5,aBO x y]
def aGj:LK→Value→Value→Option Bool
 | .int k,.int k1 a,.int k2 b=>match awy k k1 && awy k k2 with|true=>some (a==b)|false=>none
 | .bool,.bool a,.bool b=>some (a==b)
 | .str,.string a,.string b=>some (a.toList==b.toList)
 |_,_,_=>none
def avO:List LK→List Value→List Value→Option Bool
 | [],[],[]=>some true
 |k::ks,a::as,b::bs=>(aGj k a b).bind fun c=>(avO ks as bs).map fun d=>c && d
 |_,_,_=>none
theorem aBX:∀ (l l':List LK) (xs ys:List Value) (r:Bool),avO (l++l') xs ys=some r→
  ∃ a b,avO l (xs.take l.length) (ys.take l.length)=some a∧avO l' (xs.drop l.length) (ys.drop l.length)=some b∧r=(a && b)
 | [],l',xs,ys,r,h=> ⟨true,r,by simp [avO],by simpa using h,by simp⟩
 |k::l,l',[],_,r,h=>by simp [avO] at h
 |k::l,l',_::_,[],r,h=>by simp [avO] at h
 |k::l,l',x::xs,y::ys,r,h=>by
  simp only [List.cons_append,avO] at h
  obtain ⟨c,hc,h⟩:=bind_some h
  rw [Option.map_eq_some_iff] at h
  obtain ⟨d,hd,rfl⟩:=h
  obtain ⟨a,b,h1,h2,rfl⟩:=aBX l l' xs ys d hd
  exact ⟨c && a,b,by simp [avO,hc,h1],by simpa using h2,by simp [Bool.and_assoc]⟩
theorem aA5:∀ (l:List LK) (xs ys:List Value) (r:Bool),avO l xs ys=some r→xs.length=l.length∧ys.length=l.length
 | [],[],[],_,_=> ⟨rfl,rfl⟩
 |k::l,x::xs,y::ys,r,h=>by
  simp only [avO] at h
  obtain ⟨c,_,h⟩:=bind_some h
  rw [Option.map_eq_some_iff] at h
  obtain ⟨d,hd,_⟩:=h
  have:=aA5 l xs ys d hd
  simp [this.1,this.2]
 | [],_::_,_,_,h=>by simp [avO] at h
 | [],[],_::_,_,h=>by simp [avO] at h
 |_::_,[],_,_,h=>by simp [avO] at h
 |_::_,_::_,[],_,h=>by simp [avO] at h
def aDg (P:Program) (t:TypeId) (xs:List Value):Value:=match P.underlying t with
 |some (.struct _)=> .agg xs.toArray
 |_=>xs.headD undef
def aBD (P:Program) (n:Nat) (t:TypeId) (lks:List LK):Prop:=
 ∀ (d:Nat) (w:World) (xs ys:List Value) (r:Bool),n≤d→avO lks xs ys=some r→(Op.equalIn d t (aDg P t xs) (aDg P t ys)).run P w= .ok r w
theorem aDe {t:TypeId} {lks:List LK} {n:Nat} (hc:ay4 P n t=some lks) {i:TypeInfo} (hi:P.info? t=some i) (hs:i.size=lks.length) (xs:List Value) (off:Nat) (hl:off+lks.length≤xs.length) (w:World):
  (part t xs.toArray off).run P w= .ok (aDg P t ((xs.drop off).take lks.length)) w:=by
 cases n with
 |zero=>simp [ay4] at hc
 | succ n=>
  unfold ay4 at hc
  cases hu:P.underlying t with
  |none=>simp [hu] at hc
  | some d=>
   have hag:(isAgg t).run P w= .ok d.isRow w:=by
    unfold isAgg;rw [Sem.run_bind,run_underlying hu w]
    cases d<;>simp [TypeDesc.isRow]
   cases d<;>simp only [hu] at hc<;>try cases hc
   case struct fs=>
    simp only [TypeDesc.isRow] at hag
    simp [part,hag,Go.sizeOf,typeInfo,hi,hs,aDg,hu]
   all_goals
    simp only [TypeDesc.isRow] at hag
    simp only [List.length_cons,List.length_nil,Nat.zero_add] at hl
    have hx:xs[off]? =some (xs[off]'(by omega)):=List.getElem?_eq_getElem (by omega)
    simp only [part,Sem.run_bind,hag,Result.andThen_ok,Bool.false_eq_true,if_false,aDg,hu]
    have e:((xs.drop off).take [LK.str].length).headD undef=xs[off]'(by omega):=by
     rw [List.headD_eq_head?_getD,List.head?_take,List.head?_drop,hx];simp
    have h2:(xs.toArray)[off]? =some (xs[off]'(by omega)):=by simp
    rw [h2]
    first|exact congrArg (fun v=>Result.ok v w) e.symm|(simp only [List.length_cons,List.length_nil] at e ⊢;exact congrArg (fun v=>Result.ok v w) e.symm)
theorem azT {n:Nat} (ih:∀ t lks,ay4 P n t=some lks→aBD P n t lks):∀ (fs:List Field) (off:Nat) (lks:List LK),aGa P (ay4 P n) fs off=some lks→
  ∀ (d:Nat) (w:World) (xs ys:List Value) (r:Bool),n≤d→xs.length=off+lks.length→ys.length=off+lks.length→avO lks (xs.drop off) (ys.drop off)=some r→
   (Op.eqFields d xs.toArray ys.toArray fs).run P w= .ok r w
 | [],off,lks,hc,d,w,xs,ys,r,hd,hx,hy,h=>by
  simp [aGa] at hc;subst hc
  have e1:xs.drop off= []:=List.drop_eq_nil_of_le (by simp at hx;omega)
  have e2:ys.drop off= []:=List.drop_eq_nil_of_le (by simp at hy;omega)
  rw [e1,e2] at h
  simp [avO] at h;subst h
  simp [Op.eqFields]
 | f ::fs,off,lks,hc,d,w,xs,ys,r,hd,hx,hy,h=>by
  simp only [aGa] at hc
  cases hf:ay4 P n f.type with
  |none=>simp [hf] at hc
  | some l=>
   simp only [hf] at hc
   split at hc
   ·rename_i hcond
    simp only [Bool.and_eq_true,Bool.not_eq_true'] at hcond
    obtain ⟨⟨c1,c2⟩,c3⟩:=hcond
    cases hr:aGa P (ay4 P n) fs (off+l.length) with
    |none=>simp [hr] at hc
    | some l'=>
     simp only [hr] at hc
     cases hc
     cases hi:P.info? f.type with
     |none=>simp [hi] at c3
     |some i=>
      simp only [hi] at c3
      have c3:=anN c3
      have c2:=anN c2
      have hne:f.name ≠ "_" :=by intro e;rw [e] at c1;exact absurd c1 (by decide)
      simp only [List.length_append] at hx hy
      obtain ⟨a,b,h1,h2,rfl⟩:=aBX l l' _ _ r h
      have p1:=aDe hf hi c3 xs off (by omega) w
      have p2:=aDe hf hi c3 ys off (by omega) w
      have p3:=ih f.type l hf d w _ _ a hd h1
      have p4:=azT ih fs (off+l.length) l' hr d w xs ys b hd (by omega) (by omega) (by simpa [List.drop_drop,Nat.add_comm] using h2)
      simp only [Op.eqFields,hne,ne_eq,not_false_eq_true,if_true,Sem.run_bind,c2,p1,p2,p3,Result.andThen_ok]
      cases a
      ·simp
      ·simpa using p4
   ·cases hc
theorem aIg : ∀ (n:Nat) (t:TypeId) (lks:List LK),ay4 P n t=some lks→aBD P n t lks
  |0,_,_,h=>by simp [ay4] at h
  | n + 1,t,lks,h=>by
    intro d w xs ys r hd hr
    obtain ⟨d,rfl⟩:∃ k,d=k+1:=⟨d - 1,by omega⟩
    have hl:=aA5 _ _ _ _ hr
    unfold ay4 at h
    cases hu:P.underlying t with
    |none=>simp [hu] at h
    | some ds=>
      cases ds<;>simp only [hu] at h<;>try cases h
      case struct fs=>
        split at h
        · cases h
        · rename_i hst
          have hfo:P.fieldsOf t=fs:=by simp [Program.fieldsOf,hu]
          have e:=run_equalIn_struct (P:=P) w d t xs.toArray ys.toArray (by rw [hfo];exact hu) hst
          simp only [aDg,hu]
          rw [e,hfo]
          exact azT (aIg n) fs.toList 0 lks h d w xs ys r (by omega) (by simp [hl.1]) (by simp [hl.2]) (by simpa using hr)
      all_goals
        simp only [List.length_cons,List.length_nil,Nat.zero_add] at hl
        match xs,ys,hl,hr with
        | [x], [y],_,hr=>
          simp only [avO,Option.map_some,Bool.and_true] at hr
          obtain ⟨c,hc,hr⟩:=bind_some hr
          cases hr
          simp only [aDg,hu,List.headD_cons]
          cases x<;>cases y<;>simp [aGj] at hc
          first
            | (split at hc
               · rename_i hk
                 simp only [Bool.and_eq_true] at hk
                 obtain rfl:=awe hk.1
                 obtain rfl:=awe hk.2
                 cases hc
                 exact run_equalIn_int (P:=P) w d t _ _ _ _ hu
               · cases hc)
            |(subst hc;rw [run_equalIn_bool' (P:=P) w d t _ _ hu])
            |(subst hc;rw [run_equalIn_string (P:=P) w d t _ _ hu])
end
end AM
namespace AM
open Go
section
variable {P:Program} {ap:AP} {g:HpF} {m:anV} {S:anR} {w:World}
theorem aWf {d:TypeDesc} (h:awG P (some d)= .ptr):∃ e,d= .pointer e:=by cases d<;>simp [awG] at h;exact ⟨_,rfl⟩
theorem aSM {d:TypeDesc} (h:awG P (some d)= .func):∃ a b c,d= .func a b c:=by cases d<;>simp [awG] at h;exact ⟨_,_,_,rfl⟩
theorem aPR {d:TypeDesc} (h:awG P (some d)= .iface):∃ e,d= .interface e:=by cases d<;>simp [awG] at h;exact ⟨_,rfl⟩
theorem aRB {a b:LK} (h:aU0 a b=true):a=b:=by
 cases a<;>cases b<;>simp [aU0] at h
 ·rw [awe h]
 ·rfl
 ·rfl
theorem aIF:∀ {a b:List LK},aGs a b=true→a=b
 | [],[],_=>rfl
 |_::_,_::_,h=>by simp only [aGs,Bool.and_eq_true] at h;rw [aRB h.1,aIF h.2]
 | [],_::_,h=>by simp [aGs] at h
 |_::_,[],h=>by simp [aGs] at h
theorem aJS {k:LK} {a b:AV} {r:Bool} (h:aJR k a b=some r) {x y:Value} (ha:VR g m S a x) (hb:VR g m S b y):aGj k x y=some r:=by
 unfold aJR at h
 split at h
 ·simp only [VR,PR] at ha hb;subst ha;subst hb
  split at h
  ·rename_i hk;cases h;simp [aGj,hk]
  ·cases h
 ·simp only [VR,PR] at ha hb;subst ha;subst hb;simpa [aGj] using h
 ·simp only [VR,PR] at ha hb;subst ha;subst hb
  simpa [aGj,aFq] using h
 ·cases h
theorem aA4:∀ {ks:List LK} {as bs:List AV} {r:Bool} {xs ys:List Value},axf ks as bs=some r→VRL g m S as xs→VRL g m S bs ys→avO ks xs ys=some r
 | [],[],[],r,xs,ys,h,ha,hb=>by
  cases xs<;>cases ys<;>simp [VRL] at ha hb
  simpa [axf,avO] using h
 |k::ks,a::as,b::bs,r,x::xs,y::ys,h,ha,hb=>by
  simp only [axf] at h
  obtain ⟨c,hc,h⟩:=bind_some h
  rw [Option.map_eq_some_iff] at h
  obtain ⟨d,hd,rfl⟩:=h
  simp only [VRL] at ha hb
  simp [avO,aJS hc ha.1 hb.1,aA4 hd ha.2 hb.2]
 | [],_::_,_,_,_,_,h,_,_=>by simp [axf] at h
 | [],[],_::_,_,_,_,h,_,_=>by simp [axf] at h
 |_::_,[],_,_,_,_,h,_,_=>by simp [axf] at h
 |_::_,_::_,[],_,_,_,h,_,_=>by simp [axf] at h
 |_::_,_::_,_::_,_,[],_,_,ha,_=>by simp [VRL] at ha
 |_::_,_::_,_::_,_,_::_,[],_,_,hb=>by simp [VRL] at hb
theorem aJa (hap:awf P ap) {t:Nat} {ti:TI} (h:ap.tyAt t=some ti):ti.cmp=aUw P t∧ti.lks=aGt P 8 t:=by
 have h1:=hap.ty t ti h
 unfold aPU at h1
 split at h1
 ·split at h1
  ·cases h1;exact ⟨rfl,rfl⟩
  ·cases h1
 ·cases h1
theorem axV (op:BinOp) (t:TypeId) (x y:Operand) (a b:Value) (h1:¬ (a= .nilIface∧b= .nilIface)) (h2:∀ xs ys,¬ (a= .agg xs∧b= .agg ys)):(eqGuard op t x y a b).run P w= .ok () w:=by
 unfold eqGuard
 cases op<;>simp only [Sem.run_ite,Sem.run_pure]<;>try (simp;done)
 all_goals
  simp
  split
  ·exact absurd ⟨rfl,rfl⟩ h1
  ·exact absurd ⟨rfl,rfl⟩ (h2 _ _)
  ·rfl
def aLm (op:BinOp) (r:Bool):Bool:=match op with| .neq=> !r|_=>r
theorem aDD {t:Nat} {ca cb:Value} {r:Bool} {x y:Operand} (hg:∀ op,(eqGuard op t x y ca cb).run P w= .ok () w) (h:∀ d,(Op.equalIn (d+1) t ca cb).run P w= .ok r w)
  (h1:binOp .eql t ca cb=(do pure (.bool (← Op.equal t ca cb)))) (h2:binOp .neq t ca cb=(do pure (.bool (!(← Op.equal t ca cb))))) {op:BinOp} (hop:op=BinOp.eql∨op=BinOp.neq):
  (do eqGuard op t x y ca cb;binOp op t ca cb:Sem Value).run P w= .ok (.bool (aLm op r)) w:=by
 have h':(Op.equal t ca cb).run P w= .ok r w:=h 9999
 rcases hop with rfl|rfl
 ·rw [Sem.run_bind,hg,Result.andThen_ok,h1,Sem.run_bind,h'];rfl
 ·rw [Sem.run_bind,hg,Result.andThen_ok,h2,Sem.run_bind,h'];rfl
theorem aGi (hap:awf P ap) {t:Nat} {ti:TI} (hti:ap.tyAt t=some ti) {a b:AV} {ca cb:Value} (ha:VR g m S a ca) (hb:VR g m S b cb) {r:Bool} (h:eqA ti a b=some r) (hn:∀ x ∈ aES a b,x=true) (x y:Operand):
  ∀ op,op=BinOp.eql∨op=BinOp.neq→(do eqGuard op t x y ca cb;binOp op t ca cb:Sem Value).run P w= .ok (.bool (aLm op r)) w:=by
 obtain ⟨i,d,z,ht⟩:=ava hap hti
 intro op hop
 unfold eqA at h
 split at h
 case h_2 fs xs ys hd=>
  split at h
  ·rename_i hcmp
   rw [(aJa hap hti).1] at hcmp
   rw [(aJa hap hti).2] at h
   simp only [VR] at ha hb
   obtain ⟨vs,rfl,ha⟩:=ha
   obtain ⟨us,rfl,hb⟩:=hb
   have hv:=aA4 h ha hb
   unfold aUw at hcmp
   cases hl:ay4 P 8 t with
   |none=>simp [hl] at hcmp
   |some l=>
    simp only [hl,Bool.and_eq_true,Bool.not_eq_true'] at hcmp
    have hl':=aIF hcmp.1
    rw [← hl'] at hv
    have hq:=aIg 8 t l hl 10000 w vs us r (by omega) hv
    rw [ht.d_eq] at hd
    obtain ⟨fields,rfl,_⟩:=aAQ hd
    simp only [aDg,ht.und] at hq
    have hg:=run_eqGuard_agg (P:=P) w op t x y vs.toArray us.toArray hcmp.2
    rcases hop with rfl|rfl
    ·simp [hg,run_eql_struct,hq,aLm]
    ·simp [hg,run_neq_struct,hq,aLm]
  ·cases h
 all_goals try (cases h;done)
 all_goals
  rename_i hd
  rw [ht.d_eq] at hd
  try simp only [VR,PR] at ha hb
 all_goals cases h
 case h_1=>
  have hd:=aSL hd
  subst hd
  subst ha;subst hb
  (refine aDD (fun op=> ?_) (fun dd=> ?_) rfl rfl hop<;>first|exact axV op t x y _ _ (by simp) (by simp)|exact run_equalIn_bool' (P:=P) w dd t _ _ ht.und)
 all_goals
  first
   |(obtain ⟨e,rfl⟩:=aWf hd)
   |(obtain ⟨e,rfl⟩:=aPR hd)
   |(obtain ⟨e1,e2,e3,rfl⟩:=aSM hd)
   |(have hd:=avY hd;subst hd)
 case h_16 xs n nn=>
  subst hb
  obtain ⟨a,cap,rfl,hle,q⟩:=ha
  rcases q with ⟨rfl,rfl,rfl,rfl,rfl⟩|⟨b,o,vs,rfl,_⟩
  ·exact absurd (hn _ (by simp [aES];rfl)) (by decide)
  ·(refine aDD (fun op=> ?_) (fun dd=> ?_) rfl rfl hop<;>first|exact axV op t x y _ _ (by simp) (by simp)|simp [Op.equalIn,run_underlying ht.und])
 case h_17 xs n nn=>
  subst ha
  obtain ⟨a,cap,rfl,hle,q⟩:=hb
  rcases q with ⟨rfl,rfl,rfl,rfl,rfl⟩|⟨b,o,vs,rfl,_⟩
  ·exact absurd (hn _ (by simp [aES];rfl)) (by decide)
  ·(refine aDD (fun op=> ?_) (fun dd=> ?_) rfl rfl hop<;>first|exact axV op t x y _ _ (by simp) (by simp)|simp [Op.equalIn,run_underlying ht.und])
 all_goals
  try subst ha
  try subst hb
  try (obtain ⟨_,_,_,⟨_,_,rfl⟩,_⟩:=ha)
  try (obtain ⟨_,_,_,⟨_,_,rfl⟩,_⟩:=hb)
  try (obtain ⟨_,_,_,⟨_,_,_,rfl⟩,_⟩:=ha)
  try (obtain ⟨_,_,_,⟨_,_,_,rfl⟩,_⟩:=hb)
  try (obtain ⟨_,_,_,rfl,_⟩:=ha)
  try (obtain ⟨_,_,_,rfl,_⟩:=hb)
  try (obtain ⟨_,_,rfl,_⟩:=ha)
  try (obtain ⟨_,_,rfl,_⟩:=hb)
  try (obtain ⟨_,rfl,_⟩:=ha)
  try (obtain ⟨_,rfl,_⟩:=hb)
  (refine aDD (fun op=> ?_) (fun dd=> ?_) rfl rfl hop<;>first|exact axV op t x y _ _ (by simp) (by simp)|simp [Op.equalIn,run_underlying ht.und])
end
end AM
namespace AM
open Go
section
variable {P:Program} {ap:AP} {g:HpF} {m:anV} {S:anR} {w:World}
theorem aJA (a b:List UInt8):(⟨a.toArray⟩:ByteArray)++⟨b.toArray⟩=⟨(a++b).toArray⟩:=by
 apply ByteArray.ext
 rw [ByteArray.data_append]
 simp
theorem aJD (hap:awf P ap) {t:Nat} {ti:TI} (hti:ap.tyAt t=some ti) {a b v:AV} {ca cb:Value} (ha:VR g m S a ca) (hb:VR g m S b cb) {op:BinOp} {ups:List (Nat × Blk)} {bs:List Bool}
  (h:aUd op ti a b=some (v,ups,bs)) (hbs:∀ x ∈ bs,x=true) (x y:Operand):
  ups= []∧∃ cv,(do eqGuard op t x y ca cb;binOp op t ca cb:Sem Value).run P w= .ok cv w∧VR g m S v cv:=by
 unfold aUd at h
 split at h
 ·rename_i k p k' q
  simp only [VR,PR] at ha hb
  subst ha;subst hb
  have hg:(eqGuard op t x y (.int k p) (.int k' q)).run P w= .ok () w:=axV op t x y _ _ (by simp) (by simp)
  rw [Sem.run_bind,hg,Result.andThen_ok]
  split at h
  ·obtain ⟨rfl,rfl,rfl⟩:=anP h
   have h0:=of_decide_eq_true (hbs _ (List.mem_singleton.2 rfl))
   exact ⟨rfl,_,by simp [binOp,Op.shift,show ¬ q<0 by omega];rfl,by simp only [VR,PR]⟩
  ·obtain ⟨rfl,rfl,rfl⟩:=anP h
   have h0:=of_decide_eq_true (hbs _ (List.mem_singleton.2 rfl))
   exact ⟨rfl,_,by simp [binOp,Op.shift,show ¬ q<0 by omega];rfl,by simp only [VR,PR]⟩
  ·split at h
   ·cases h
   ·rename_i hk
    have hk:=awe hk
    subst hk
    split at h
    all_goals try (cases h;done)
    all_goals obtain ⟨rfl,rfl,rfl⟩:=anP h
    case h_4=>
     have h0:(q==0)=false:=by simpa using hbs _ (List.mem_singleton.2 rfl)
     have h0:¬ q=0:=by simpa using h0
     exact ⟨rfl,_,by simp [binOp,Op.intDiv,h0];rfl,by simp only [VR,PR]⟩
    case h_5=>
     have h0:(q==0)=false:=by simpa using hbs _ (List.mem_singleton.2 rfl)
     have h0:¬ q=0:=by simpa using h0
     exact ⟨rfl,_,by simp [binOp,Op.intDiv,h0];rfl,by simp only [VR,PR]⟩
    all_goals exact ⟨rfl,_,by simp only [binOp,Op.intArith,Op.intBits,Op.intCmp,ne_eq,not_true_eq_false,if_false];rfl,by simp only [VR,PR];first|done|rfl⟩
 ·rename_i p q
  simp only [VR,PR] at ha hb
  subst ha;subst hb
  have hg:(eqGuard op t x y (.string ⟨p.toArray⟩) (.string ⟨q.toArray⟩)).run P w= .ok () w:=axV op t x y _ _ (by simp) (by simp)
  rw [Sem.run_bind,hg,Result.andThen_ok]
  split at h
  all_goals try (cases h;done)
  all_goals obtain ⟨rfl,rfl,rfl⟩:=anP h
  case h_1=>
   have h0:=avI (hbs _ (List.mem_singleton.2 rfl))
   have h1:¬ (IntKind.i64.max<((p.length+q.length:Nat):Int)):=by
    have:IntKind.i64.max=9223372036854775807:=by decide
    omega
   refine ⟨rfl,.string ⟨(p++q).toArray⟩, ?_,by simp only [VR,PR]⟩
   simp only [binOp,Op.stringOp,aCi,gt_iff_lt,h1,if_false,aJA,Sem.run_pure]
  all_goals
   refine ⟨rfl,_,rfl, ?_⟩
   simp only [VR,PR,aFq,aBO]
 ·split at h
  ·obtain ⟨r,hr,h⟩:=bind_some h
   obtain ⟨rfl,rfl,rfl⟩:=anP h
   exact ⟨rfl,_,aGi hap hti ha hb hr hbs x y _ (.inl rfl),by simp only [VR,PR];rfl⟩
  ·obtain ⟨r,hr,h⟩:=bind_some h
   obtain ⟨rfl,rfl,rfl⟩:=anP h
   exact ⟨rfl,_,aGi hap hti ha hb hr hbs x y _ (.inr rfl),by simp only [VR,PR];rfl⟩
  ·cases h
theorem aM4 {x v:AV} {cx:Value} (hx:VR g m S x cx) {op:UnOp} {ups:List (Nat × Blk)} {bs:List Bool} (h:unA op x=some (v,ups,bs)):
  ups= []∧∃ cv,(Op.unary op cx).run P w= .ok cv w∧VR g m S v cv:=by
 unfold unA at h
 split at h
 ·obtain ⟨rfl,rfl,rfl⟩:=anP h
  simp only [VR,PR] at hx;subst hx
  exact ⟨rfl,_,rfl,by simp only [VR,PR]⟩
 ·obtain ⟨rfl,rfl,rfl⟩:=anP h
  simp only [VR,PR] at hx;subst hx
  exact ⟨rfl,_,rfl,by simp only [VR,PR]⟩
 ·cases h
theorem aAe {f:AV→AV→Option AV} {F:Value→Value→Sem Value} (hf:∀ a b c ca cb,VR g m S a ca→VR g m S b cb→f a b=some c→∃ cc,(F ca cb).run P w= .ok cc w∧VR g m S c cc):
  ∀ (l:List AV) (cl:List Value) (x v:AV) (cx:Value),VRL g m S l cl→VR g m S x cx→aIq f x l=some v→∃ cv,(cl.foldlM F cx).run P w= .ok cv w∧VR g m S v cv
 | [],[],x,v,cx,_,hx,h=>by simp [aIq] at h;subst h;exact ⟨cx,by simp,hx⟩
 | y::r,cy::cr,x,v,cx,hl,hx,h=>by
  simp only [VRL] at hl
  simp only [aIq] at h
  split at h
  ·rename_i z hz
   obtain ⟨cz,h1,h2⟩:=hf _ _ _ _ _ hx hl.1 hz
   obtain ⟨cv,h3,h4⟩:=aAe hf r cr z v cz hl.2 h2 h
   exact ⟨cv,by simp [List.foldlM_cons,h1,h3],h4⟩
  ·cases h
 | [],_::_,_,_,_,hl,_,_=>by simp [VRL] at hl
 |_::_,[],_,_,_,hl,_,_=>by simp [VRL] at hl
theorem aKh {a b c:AV} {ca cb:Value} (ha:VR g m S a ca) (hb:VR g m S b cb) (h:min2 a b=some c):∃ cc,(Builtin.min2 ca cb).run P w= .ok cc w∧VR g m S c cc:=by
 unfold min2 at h
 split at h
 ·split at h
  ·cases h
   simp only [VR,PR] at ha hb;subst ha;subst hb
   exact ⟨_,rfl,by simp only [VR,PR]⟩
  ·cases h
 ·cases h
theorem aKe {a b c:AV} {ca cb:Value} (ha:VR g m S a ca) (hb:VR g m S b cb) (h:max2 a b=some c):∃ cc,(Builtin.max2 ca cb).run P w= .ok cc w∧VR g m S c cc:=by
 unfold max2 at h
 split at h
 ·split at h
  ·cases h
   simp only [VR,PR] at ha hb;subst ha;subst hb
   exact ⟨_,rfl,by simp only [VR,PR]⟩
  ·cases h
 ·cases h
theorem aMu {l:List AV} {cl:List Value} (hl:VRL g m S l cl) {v:AV} (h:aCx min2 l=some v) (ats:Array TypeId) (ty:Nat):∃ cv,(Builtin.min_ ats ty cl.toArray).run P w= .ok cv w∧VR g m S v cv:=by
 cases l with
 |nil=>simp [aCx] at h
 | cons x r=>cases cl with
  |nil=>simp [VRL] at hl
  |cons cx cr=>
   simp only [VRL] at hl
   obtain ⟨cv,h1,h2⟩:=aAe (P:=P) (w:=w) (F:=Builtin.min2) (fun _ _ _ _ _=>aKh) r cr x v cx hl.2 hl.1 h
   exact ⟨cv,by simpa [Builtin.min_] using h1,h2⟩
theorem aMs {l:List AV} {cl:List Value} (hl:VRL g m S l cl) {v:AV} (h:aCx max2 l=some v) (ats:Array TypeId) (ty:Nat):∃ cv,(Builtin.max_ ats ty cl.toArray).run P w= .ok cv w∧VR g m S v cv:=by
 cases l with
 |nil=>simp [aCx] at h
 | cons x r=>cases cl with
  |nil=>simp [VRL] at hl
  |cons cx cr=>
   simp only [VRL] at hl
   obtain ⟨cv,h1,h2⟩:=aAe (P:=P) (w:=w) (F:=Builtin.max2) (fun _ _ _ _ _=>aKe) r cr x v cx hl.2 hl.1 h
   exact ⟨cv,by simpa [Builtin.max_] using h1,h2⟩
end
end AM
