/- The abstract machine over the code of the model, and the proof that it is sound. No conditions. -/
import Derived.WalkKit
import Derived.Deep.AppendSrc
import Derived.Deep.MidRow
import Derived.WalkLawsBesides
set_option linter.unusedSimpArgs false
set_option linter.unusedVariables false
namespace AM
open Go
inductive AV where
 |int (k:IntKind) (n:Int)
 |bool (b:Bool)
 |str (s:List UInt8)
 |agg (l:List AV)
 |tup (l:List AV)
 |nilS
 |sl (xs:List AV) (n:Nat) (nn:Bool)
 |ref (b ver i n:Nat)
 |own (xs:List AV) (n esz:Nat)
 |ptr (b ver off:Nat)
 |pp (xs:List AV) (off:Nat)
 |mr (b ver:Nat)
 |mp (ks vs:List AV)
 |nilP
 |fn (f:Nat) (first cap:List AV)
 |nilF
 |ifc (t:Nat) (v:AV)
 |nilI
 |dead
inductive LK where
 |int (k:IntKind)
 |bool
 |str
 |sl
 |oth
inductive TD where
 |struct (fs:List (Nat × Nat × Nat))
 |array (n elem:Nat)
 |slice (elem:Nat)
 |int (k:IntKind)
 |str
 |bool
 |iface
 |ptr
 |func
 |map (k e:Nat)
 |oth
structure TI where
 d:TD
 size:Nat
 bytes:Nat
 zero:List AV
 lks:List LK
 cmp:Bool
structure AF where
 fn:Func
 keep:List Nat
 shared:Bool
inductive Tr (α:Type) where
 |nil
 |node (v:Option α) (l r:Tr α)
def Tr.get {α:Type}:Tr α→Nat→Option α
 | .nil,_=>none
 | .node v l r,n=>match Nat.beq n 0 with
  |true=>v
  |false=>match Nat.beq (n % 2) 1 with
   |true=>l.get ((n - 1) / 2)
   |false=>r.get ((n - 1) / 2)
structure AP where
 nty:Nat
 ty:Tr TI
 nfn:Nat
 fn:Tr AF
 gl:List (Option (List AV))
def jf:Nat:=4611686018427387904
def Yu:List AV→Option AV
 | [.agg ks,.agg vs]=>some (.mp ks vs)
 |_=>none
structure bi where
 cells:List AV
 ver:Nat
 fro:Bool
 fz:Nat
 esz:Nat
 pr:Bool
abbrev iW:=List (Nat × AV)
abbrev Hp:=List (Nat × bi)
def aG {α:Type}:List (Nat × α)→Nat→Option α
 | [],_=>none
 |(u,x)::r,t=>match Nat.beq u t with|true=>some x|false=>aG r t
def kN {α β:Type} (f:α→Option β):List α→Option (List β)
 | []=>some []
 |x::r=>match f x with
  |some y=>match kN f r with|some l=>some (y::l)|none=>none
  |none=>none
def iW.get (e:iW) (t:Nat):AV:=(aG e t).getD .dead
def AV.cells:AV→List AV
 | .agg l=>l
 |x=> [x]
def AV.toInt:AV→Int| .int _ n=>n|_=>0
def AV.toBool:AV→Bool| .bool b=>b|_=>false
def AV.toStr:AV→List UInt8| .str s=>s|_=> []
def AV.slX:AV→List AV| .sl xs _ _=>xs|_=> []
def AV.slN:AV→Nat| .sl _ n _=>n|_=>0
def UI:IntKind→Nat
 | .i8=>0| .i16=>1| .i32=>2| .i64=>3| .u8=>4| .u16=>5| .u32=>6| .u64=>7
def jE (a b:IntKind):Bool:=Nat.beq (UI a) (UI b)
def gW:LK→AV→Bool
 | .int k,.int k' _=>jE k k'
 | .bool,.bool _=>true
 | .str,.str _=>true
 | .sl,.sl _ _ _=>true
 | .sl,.nilS=>true
 | .oth,.dead=>false
 | .oth,.agg _=>false
 | .oth,.tup _=>false
 | .oth,.own _ _ _=>false
 | .oth,_=>true
 |_,_=>false
def eta:LK→AV→AV
 | .int k,c=> .int k c.toInt
 | .bool,c=> .bool c.toBool
 | .str,c=> .str c.toStr
 | .sl,c=> .sl c.slX c.slN false
 | .oth,c=>c
def nK:AV→Bool
 | .dead| .agg _| .tup _| .own _ _ _=>false
 |_=>true
mutual
def fD:AV→List Nat
 | .ref b _ _ _=> [b]
 | .ptr b _ _=> [b]
 | .mr b _=> [b]
 | .agg l=>dw l
 | .tup l=>dw l
 | .fn _ f c=>dw f++dw c
 | .ifc _ v=>fD v
 |_=> []
def dw:List AV→List Nat
 | []=> []
 |x::r=>fD x++dw r
end
mutual
def ren (ρ:Nat→Nat→Option (Nat × Nat)):AV→AV
 | .ref b v i n=>match ρ b v with|some (b',v')=> .ref b' v' i n|none=> .dead
 | .ptr b v o=>match ρ b v with|some (b',v')=> .ptr b' v' o|none=> .dead
 | .mr b v=>match ρ b v with|some (b',v')=> .mr b' v'|none=> .dead
 | .agg l=> .agg (lV ρ l)
 | .tup l=> .tup (lV ρ l)
 | .fn f a c=> .fn f (lV ρ a) (lV ρ c)
 | .ifc t v=> .ifc t (ren ρ v)
 |x=>x
def lV (ρ:Nat→Nat→Option (Nat × Nat)):List AV→List AV
 | []=> []
 |x::r=>ren ρ x::lV ρ r
end
def IZ:Value→AV
 | .int k n=> .int k n
 | .bool b=> .bool b
 | .string s=> .str s.data.toList
 | .pointer a=>match a with|none=> .nilP|some _=> .dead
 | .slice a n c=>match a,n,c with|none,0,0=> .nilS|_,_,_=> .dead
 | .nilFunc=> .nilF
 | .nilIface=> .nilI
 | .map a=>match a with|none=> .mp [] []|some _=> .dead
 |_=> .dead
def D5:Value→AV
 | .agg cs=> .agg (cs.toList.map IZ)
 | .tuple vs=>match vs.toList with| []=> .tup []|_=> .dead
 |v=>IZ v
def AP.tyAt (ap:AP) (t:Nat):Option TI:=match Nat.blt t ap.nty with|true=>ap.ty.get t|false=>none
def AP.fnAt (ap:AP) (f:Nat):Option AF:=match Nat.blt f ap.nfn with|true=>ap.fn.get f|false=>none
def pM (l:List Nat) (a:Nat):Bool:=l.any (Nat.beq a)
def jB (l:List Nat):List Nat:=l.foldl (fun acc b=>if pM acc b then acc else acc++ [b]) []
abbrev Hz:=Option (AV × List (Nat × bi) × List Bool)
def bH (v:AV) (bs:List Bool:= []):Hz:=some (v,[],bs)
def PH (ty:Bool):List LK→List AV→List AV
 | [],_=> []
 |k::ks,ys=>(match ty with|true=>eta k (ys.headD .dead)|false=>ys.headD .dead)::PH ty ks ys.tail
def Tu (ty:Bool):List LK→List AV→List Bool
 | [],_=> []
 |k::ks,ys=>(match ty with|true=>gW k (ys.headD .dead)|false=>gW .oth (ys.headD .dead))::Tu ty ks ys.tail
def yB (ty:Bool) (ks:List LK) (xs:List AV) (off:Nat):List AV:=PH ty ks (xs.drop off)
def Ij (ty:Bool) (ks:List LK) (xs:List AV) (off:Nat):List Bool:=Tu ty ks (xs.drop off)
def IL:TD→Bool
 | .struct _=>true
 | .array _ _=>true
 |_=>false
def qF (ti:TI) (cs:List AV):Option AV:=
 match IL ti.d with
 |true=>some (.agg cs)
 |false=>match cs with| [c]=>some c|_=>none
def KH (ti:TI) (rd:Nat→Option bi) (p:AV):Hz:=
 match p with
 | .pp xs off=>(qF ti (yB true ti.lks xs off)).bind fun v=>bH v (Ij true ti.lks xs off)
 | .ptr b ver off=>(rd b).bind fun B=>match Nat.beq B.ver ver && !(Nat.beq B.esz jf) with
  |true=>(qF ti (yB (Nat.blt 0 B.esz && B.pr) ti.lks B.cells off)).bind fun v=>bH v (Ij (Nat.blt 0 B.esz && B.pr) ti.lks B.cells off)
  |false=>none
 |_=>none
def jh (xs:List AV) (off:Nat) (vs:List AV):List AV:=xs.take off++vs++xs.drop (off+vs.length)
def Ou (ti:TI) (rd:Nat→Option bi) (p v:AV):Hz:=
 match p with
 | .ptr b ver off=>(rd b).bind fun B=>
  let vs:=v.cells
  let rs:=dw vs
  match Nat.beq B.ver ver && !B.fro && Nat.beq vs.length ti.size && vs.all nK && !(Nat.beq B.esz jf) with
  |true=>some (.dead,[(b,{B with cells:=jh B.cells off vs,pr:=B.pr && rs.isEmpty})],[Nat.ble (off+vs.length) B.cells.length])
  |false=>none
 |_=>none
def jA (nid:Nat) (cells:List AV) (esz:Nat):Nat × bi:=(nid,{cells,ver:=0,fro:=false,fz:=0,esz,pr:=(dw cells).isEmpty})
def wo (cells:List AV):List (Nat × Nat × AV)→Option (List AV)
 | []=>some cells
 |(off,size,v)::r=>match Nat.beq v.cells.length size && Nat.ble (off+size) cells.length && v.cells.all nK with
  |true=>wo (jh cells off v.cells) r
  |false=>none
def MQ (ap:AP) (ti:TI) (parts:List (Nat × AV)):Hz:=
 match ti.d with
 | .struct fs=>(kN (fun (q:Nat × AV)=>(fs[q.1]?).map fun (x:Nat × Nat × Nat)=>(x.1,x.2.2,q.2)) parts).bind fun ps=>(wo ti.zero ps).bind fun cs=>bH (.agg cs)
 | .array _ e=>(ap.tyAt e).bind fun te=>(wo ti.zero (parts.map fun (i,v)=>(i*te.size,te.size,v))).bind fun cs=>bH (.agg cs)
 |_=>none
def iV (n:Nat) (z:List AV):List AV:=(List.replicate n z).flatten
def tH (ap:AP) (nid:Nat) (ti:TI) (len:Nat) (parts:List (Nat × AV)):Hz:=
 match ti.d with
 | .slice e=>(ap.tyAt e).bind fun te=>
  match Nat.blt 0 te.size && Nat.ble (len*te.size) (2^24) && Nat.beq te.zero.length te.size with
  |true=>(wo (iV len te.zero) (parts.map fun (i,v)=>(i*te.size,te.size,v))).bind fun cs=>
   some (.ref nid 0 0 len,[jA nid cs te.size],[])
  |false=>none
 |_=>none
def Vh (p:AV) (o:Nat):Option AV:=
 match p with
 | .ptr b v off=>some (.ptr b v (off+o))
 | .pp xs off=>some (.pp xs (off+o))
 |_=>none
def O7 (v:AV):Option Int:=match v with| .int _ n=>some n|_=>none
def wW (ap:AP) (ti:TI) (rd:Nat→Option bi) (x i:AV):Hz:=
 (O7 i).bind fun i=>
 match ti.d with
 | .slice e=>(ap.tyAt e).bind fun te=>
  match x with
  | .sl xs n _=>bH (.pp xs (i.toNat*te.size)) [decide (0≤i),decide (i<n)]
  | .ref b ver j n=>(rd b).bind fun B=>match Nat.beq B.ver ver && Nat.beq B.esz te.size with
   |true=>bH (.ptr b ver ((j+i.toNat)*te.size)) [decide (0≤i),decide (i<n)]
   |false=>none
  |_=>none
 | .array n e=>(ap.tyAt e).bind fun te=>(Vh x (i.toNat*te.size)).bind fun p=>bH p [decide (0≤i),decide (i<n)]
 |_=>none
def Nz (ap:AP) (ti:TI) (x i:AV):Hz:=
 (O7 i).bind fun i=>
 match ti.d,x with
 | .str,.str s=>bH (.int .u8 (s.getD i.toNat 0).toNat) [decide (0≤i),decide (i<s.length)]
 | .array n e,.agg cs=>(ap.tyAt e).bind fun te=>
  (qF te (yB true te.lks cs (i.toNat*te.size))).bind fun v=>bH v (decide (0≤i)::decide (i<n)::Ij true te.lks cs (i.toNat*te.size))
 |_,_=>none
def nP (v:Option AV) (d:Int):Option Int:=match v with|none=>some d|some (.int _ n)=>some n|some _=>none
def Oo (ap:AP) (ti:TI) (rd:Nat→Option bi) (x:AV) (lo hi mx:Option AV):Hz:=
 match ti.d,x,mx with
 | .str,.str s,none=>(nP lo 0).bind fun l=>(nP hi s.length).bind fun h=>
   bH (.str ((s.take h.toNat).drop l.toNat)) [decide (0≤l),decide (l≤h),decide (h≤s.length)]
 | .slice e,.sl xs n nn,none=>(ap.tyAt e).bind fun te=>(nP lo 0).bind fun l=>(nP hi n).bind fun h=>
   bH (.sl ((xs.take (h.toNat*te.size)).drop (l.toNat*te.size)) (h.toNat - l.toNat) nn) [decide (0≤l),decide (l≤h),decide (h≤n)]
 | .slice e,.ref b ver j n,none=>(ap.tyAt e).bind fun te=>(rd b).bind fun B=>(nP lo 0).bind fun l=>(nP hi n).bind fun h=>
   match Nat.beq B.ver ver && Nat.beq B.esz te.size with
   |true=>bH (.ref b ver (j+l.toNat) (h.toNat - l.toNat)) [decide (0≤l),decide (l≤h),decide (h≤n)]
   |false=>none
 | .slice e,.nilS,none=>(ap.tyAt e).bind fun _=>(nP lo 0).bind fun l=>(nP hi 0).bind fun h=>bH .nilS [decide (l=0),decide (h=0)]
 |_,_,_=>none
def UK (d:TD) (x:AV):Hz:=
 match d,x with
 | .array n _,_=>bH (.int .i64 n)
 | .str,.str s=>bH (.int .i64 s.length)
 | .slice _,.sl _ n _=>bH (.int .i64 n)
 | .slice _,.ref _ _ _ n=>bH (.int .i64 n)
 | .slice _,.nilS=>bH (.int .i64 0)
 |_,_=>none
def Lt (size:Nat) (rd:Nat→Option bi) (x:AV):Option (List AV × Nat × Bool):=
 match x with
 | .sl xs n _=>some (xs,n,true)
 | .nilS=>some ([],0,true)
 | .str s=>some (s.map fun b=> .int .u8 b.toNat,s.length,true)
 | .ref b ver j n=>(rd b).bind fun B=>match Nat.beq B.ver ver && Nat.beq B.esz size && !(Nat.beq B.esz jf) with
  |true=>some ((B.cells.drop (j*size)).take (n*size),n,B.pr)
  |false=>none
 |_=>none
def Hf:Nat:=2^40
def xE (nid:Nat) (te:TI) (rd:Nat→Option bi) (em:Bool) (s x:AV):Hz:=
 (Lt te.size rd x).bind fun (xs,n,pr)=>
 match Nat.blt 0 te.size && Nat.ble te.bytes 128 with
 |false=>none
 |true=>
 match s with
 | .nilS=>match em with
  |true=>bH .nilS [Nat.beq xs.length (n*te.size)]
  |false=>some (.ref nid 0 0 n,[(nid,⟨xs,0,false,0,te.size,pr⟩)],[Nat.beq xs.length (n*te.size),Nat.ble n Hf])
 | .ref b ver 0 m=>(rd b).bind fun B=>match Nat.beq B.ver ver && Nat.beq B.esz te.size && !(Nat.beq B.esz jf) with
  | true=>some (.ref b (ver+1) 0 (m+n),[(b,{B with cells:=B.cells.take (m*te.size)++xs,ver:=ver+1,pr:=B.pr && pr})],
    [Nat.beq xs.length (n*te.size),Nat.ble (m+n) Hf,Nat.ble (m*te.size) B.cells.length, !B.fro||Nat.ble B.fz (m*te.size)])
  |false=>none
 |_=>none
def wQ:AV→Option Nat
 | .sl _ n _=>some n
 | .nilS=>some 0
 | .str s=>some s.length
 | .ref _ _ _ n=>some n
 |_=>none
def xW (ρ:Operand→AV) (o:Op):Option Nat:=
 match o with
 | .call {callee:= .builtin .append,args,..}=>match args.toList with
  | [s,x]=>match ρ s with
   | .nilS=>wQ (ρ x)
   |_=>none
  |_=>none
 |_=>none
def wY (ap:AP) (nid:Nat) (ti:TI) (l c:AV):Hz:=
 match ti.d,l,c with
 | .slice e,.int _ l,.int _ c=>(ap.tyAt e).bind fun te=>
  match Nat.blt 0 te.size && Nat.beq te.zero.length te.size && Nat.ble te.bytes 128 && (dw te.zero).isEmpty with
  |true=>some (.ref nid 0 0 l.toNat,[(nid,⟨iV l.toNat te.zero,0,false,0,te.size,true⟩)],[decide (0≤l),decide (l=c),decide (l≤2^40)])
  |false=>none
 |_,_,_=>none
def CQ (ap:AP) (ts td:TI) (rd:Nat→Option bi) (x:AV):Hz:=
 match ts.d,td.d,x with
 |_,.int k,.int _ n=>bH (.int k (k.wrap n))
 | .str,.str,.str s=>bH (.str s)
 | .slice e,.str,x=>(ap.tyAt e).bind fun te=>match te.d,x with
  | .int .u8,.str _=>none
  | .int .u8,x=>(Lt 1 rd x).bind fun (xs,n,_)=>bH (.str (xs.map fun c=>UInt8.ofNat c.toInt.toNat)) [Nat.beq xs.length n,xs.all (gW (.int .u8))]
  |_,_=>none
 |_,_,_=>none
def Nb:LK→AV→AV→Option Bool
 | .int k,.int k1 a,.int k2 b=>match jE k k1 && jE k k2 with|true=>some (a==b)|false=>none
 | .bool,.bool a,.bool b=>some (a==b)
 | .str,.str a,.str b=>some (a==b)
 |_,_,_=>none
def kV:List LK→List AV→List AV→Option Bool
 | [],[],[]=>some true
 |k::ks,a::as,b::bs=>(Nb k a b).bind fun c=>(kV ks as bs).map fun d=>c && d
 |_,_,_=>none
def eqA (ti:TI) (a b:AV):Option Bool:=
 match ti.d,a,b with
 | .bool,.bool a,.bool b=>some (a==b)
 | .struct _,.agg xs,.agg ys=>match ti.cmp with|true=>kV ti.lks xs ys|false=>none
 | .ptr,.nilP,.nilP=>some true
 | .ptr,.nilP,.ptr _ _ _=>some false
 | .ptr,.nilP,.pp _ _=>some false
 | .ptr,.ptr _ _ _,.nilP=>some false
 | .ptr,.pp _ _,.nilP=>some false
 | .iface,.nilI,.ifc _ _=>some false
 | .iface,.ifc _ _,.nilI=>some false
 | .func,.nilF,.nilF=>some true
 | .func,.nilF,.fn _ _ _=>some false
 | .func,.fn _ _ _,.nilF=>some false
 | .slice _,.nilS,.nilS=>some true
 | .slice _,.ref _ _ _ _,.nilS=>some false
 | .slice _,.nilS,.ref _ _ _ _=>some false
 | .slice _,.sl _ _ _,.nilS=>some false
 | .slice _,.nilS,.sl _ _ _=>some false
 |_,_,_=>none
def DY (a b:AV):List Bool:=
 match a,b with
 | .sl _ n false,.nilS=> [Nat.blt 0 n]
 | .nilS,.sl _ n false=> [Nat.blt 0 n]
 |_,_=> []
def iO:List UInt8→List UInt8→Bool
 |_,[]=>false
 | [],_::_=>true
 |a::x,b::y=>decide (a<b)||(a==b && iO x y)
def aa6 (op:BinOp) (ti:TI) (x y:AV):Hz:=
 match x,y with
 | .int k a,.int k' b=>
  match op with
  | .shl=>bH (.int k (k.wrap (a*2^(min b.toNat k.bits)))) [decide (0≤b)]
  | .shr=>bH (.int k (a.fdiv (2^(min b.toNat k.bits)))) [decide (0≤b)]
  | _=>match jE k k' with
   |false=>none
   |true=>match op with
    | .add=>bH (.int k (k.wrap (a+b)))
    | .sub=>bH (.int k (k.wrap (a - b)))
    | .mul=>bH (.int k (k.wrap (a*b)))
    | .quo=>bH (.int k (k.wrap (a.tdiv b))) [!(b==0)]
    | .rem=>bH (.int k (a.tmod b)) [!(b==0)]
    | .and=>bH (.int k (k.wrap (BitVec.ofInt k.bits a &&& BitVec.ofInt k.bits b).toNat))
    | .or=>bH (.int k (k.wrap (BitVec.ofInt k.bits a|||BitVec.ofInt k.bits b).toNat))
    | .xor=>bH (.int k (k.wrap (BitVec.ofInt k.bits a^^^BitVec.ofInt k.bits b).toNat))
    | .eql=>bH (.bool (a==b))
    | .neq=>bH (.bool (!(a==b)))
    | .lss=>bH (.bool (decide (a<b)))
    | .leq=>bH (.bool (decide (a≤b)))
    | .gtr=>bH (.bool (decide (b<a)))
    | .geq=>bH (.bool (decide (b≤a)))
    |_=>none
 | .str a,.str b=>
  match op with
  | .add=>bH (.str (a++b)) [Nat.ble (a.length+b.length) 9223372036854775807]
  | .eql=>bH (.bool (a==b))
  | .neq=>bH (.bool (!(a==b)))
  | .lss=>bH (.bool (iO a b))
  | .leq=>bH (.bool (iO a b||a==b))
  | .gtr=>bH (.bool (!(iO a b||a==b)))
  | .geq=>bH (.bool (!iO a b))
  |_=>none
 |x,y=>
  match op with
  | .eql=>(eqA ti x y).bind fun b=>bH (.bool b) (DY x y)
  | .neq=>(eqA ti x y).bind fun b=>bH (.bool (!b)) (DY x y)
  |_=>none
def unA (op:UnOp) (x:AV):Hz:=
 match op,x with
 | .not,.bool b=>bH (.bool (!b))
 | .neg,.int k n=>bH (.int k (k.wrap (0 - n)))
 |_,_=>none
def min2 (a b:AV):Option AV:=match a,b with| .int k x,.int k' y=>(match jE k k' with|true=>some (.int k (if y<x then y else x))|false=>none)|_,_=>none
def max2 (a b:AV):Option AV:=match a,b with| .int k x,.int k' y=>(match jE k k' with|true=>some (.int k (if y>x then y else x))|false=>none)|_,_=>none
def Ko (f:AV→AV→Option AV):AV→List AV→Option AV
 |x,[]=>some x
 |x,y::r=>match f x y with|some z=>Ko f z r|none=>none
def yX (f:AV→AV→Option AV):List AV→Option AV
 | []=>none
 |x::r=>Ko f x r
def Ib (ap:AP) (x:AV) (asserted:Nat) (commaOk:Bool):Hz:=
 (ap.tyAt asserted).bind fun ti=>
 match ti.d with
 | .iface=>none
 | _=>match x with
  | .ifc t v=>match Nat.beq t asserted with
   |true=>bH (match commaOk with|true=> .tup [v,.bool true]|false=>v)
   |false=>match commaOk with|true=>(qF ti ti.zero).bind fun z=>bH (.tup [z,.bool false])|false=>none
  | .nilI=>match commaOk with|true=>(qF ti ti.zero).bind fun z=>bH (.tup [z,.bool false])|false=>none
  |_=>none
def Nr (ap:AP) (ti:TI) (x:AV) (f:Nat):Hz:=
 match ti.d,x with
 | .struct fs,.agg cs=>(fs[f]?).bind fun (o,t,_)=>(ap.tyAt t).bind fun tf=>
  (qF tf (yB false tf.lks cs o)).bind fun v=>bH v (Ij false tf.lks cs o)
 |_,_=>none
def xG:AV→List Nat
 | .ref b _ _ _=> [b]
 | .ptr b _ _=> [b]
 | .mr b _=> [b]
 |_=> []
def Vw (ρ:Operand→AV):Op→List Nat
 | .load _ a=>xG (ρ a)
 | .store _ a _=>xG (ρ a)
 | .indexAddr _ x _=>xG (ρ x)
 | .slice _ x _ _ _=>xG (ρ x)
 | .convert _ _ x=>xG (ρ x)
 | .lookup _ x _ _=>xG (ρ x)
 | .mapUpdate _ x _ _=>xG (ρ x)
 | .insert _ x _ _=>xG (ρ x)
 | .call {callee:= .builtin .append,args,..}=>jB (args.toList.flatMap fun x=>xG (ρ x))
 |_=> []
def oU:TD→AV→Bool
 | .int k,.int k' _=>jE k k'
 | .bool,.bool _=>true
 | .str,.str _=>true
 |_,_=>false
def XK:AV→AV→Bool
 | .int _ a,.int _ b=>a==b
 | .bool a,.bool b=>a==b
 | .str a,.str b=>a==b
 |_,_=>false
def xZ:List AV→List AV→AV→Option AV
 |k0::ks,v0::vs,k=>match XK k k0 with|true=>some v0|false=>xZ ks vs k
 |_,_,_=>none
def Ja (ks:List AV) (k:AV):List AV:=match ks.any (XK k) with|true=>ks|false=>ks++ [k]
def vN:List AV→List AV→AV→AV→List AV
 |k0::ks,v0::vs,k,v=>match XK k k0 with|true=>v::vs|false=>v0::vN ks vs k v
 |_,_,_,v=> [v]
def UU (rd:Nat→Option bi) (x:AV):Option (List AV × List AV):=
 match x with
 | .mp ks vs=>some (ks,vs)
 | .mr b ver=>(rd b).bind fun B=>match Nat.beq B.ver ver && Nat.beq B.esz jf with
  |true=>match B.cells with| [.agg ks,.agg vs]=>some (ks,vs)|_=>none
  |false=>none
 |_=>none
def KF (ok:Bool) (o:Option AV) (z:AV):AV:=match ok with|true=> .tup [o.getD z,.bool o.isSome]|false=>o.getD z
def IQ (ap:AP) (ti:TI) (rd:Nat→Option bi) (x k:AV) (ok:Bool):Hz:=
 match ti.d with
 | .map kt et=>(ap.tyAt kt).bind fun tk=>(ap.tyAt et).bind fun te=>(UU rd x).bind fun q=>(qF te te.zero).bind fun z=>
   bH (KF ok (xZ q.1 q.2 k) z) [oU tk.d k,q.1.all (oU tk.d)]
 |_=>none
def BH (ap:AP) (ti:TI) (rd:Nat→Option bi) (x k v:AV):Hz:=
 match ti.d,x with
 | .map kt _,.mr b ver=>(ap.tyAt kt).bind fun tk=>(rd b).bind fun B=>match Nat.beq B.ver ver && Nat.beq B.esz jf && !B.fro with
  |true=>match B.cells with
   | [.agg ks,.agg vs]=>some (.dead,[(b,{B with cells:= [.agg (Ja ks k),.agg (vN ks vs k v)],pr:=B.pr && (fD v).isEmpty})],[oU tk.d k,ks.all (oU tk.d)])
   |_=>none
  |false=>none
 |_,_=>none
def opA (ap:AP) (nid:Nat) (ρ:Operand→AV) (rd:Nat→Option bi) (dec:Operand→Option Bool) (em:Bool) (o:Op):Hz:=
 match o with
 | .move x=>bH (ρ x)
 | .assign x=>bH (ρ x)
 | .pick c a b=>match dec c with
  |some true=>bH (ρ a)
  |some false=>bH (ρ b)
  |none=>match ρ c,ρ a,ρ b with| .bool c,.bool x,.bool y=>bH (.bool (cond c x y))|_,_,_=>none
 | .alloc e=>(ap.tyAt e).bind fun te=>match Nat.blt 0 te.size && te.zero.all nK with|true=>some (.ptr nid 0 0,[jA nid te.zero 0],[])|false=>none
 | .box e x=>(ap.tyAt e).bind fun te=>let vs:=(ρ x).cells
  match Nat.blt 0 te.size && vs.all nK with|true=>some (.ptr nid 0 0,[jA nid vs 0],[])|false=>none
 | .build t parts=>(ap.tyAt t).bind fun ti=>MQ ap ti (parts.toList.map fun (i,x)=>(i,ρ x))
 | .buildSlice t len parts=>(ap.tyAt t).bind fun ti=>tH ap nid ti len (parts.toList.map fun (i,x)=>(i,ρ x))
 | .load t a=>(ap.tyAt t).bind fun ti=>KH ti rd (ρ a)
 | .store t a x=>(ap.tyAt t).bind fun ti=>Ou ti rd (ρ a) (ρ x)
 | .makeMap _ r=>match r with|none=>some (.mr nid 0,[(nid,⟨[.agg [],.agg []],0,false,0,jf,true⟩)],[])|some _=>none
 | .lookup t x k ok=>(ap.tyAt t).bind fun ti=>IQ ap ti rd (ρ x) (ρ k) ok
 | .mapUpdate t x k v=>(ap.tyAt t).bind fun ti=>BH ap ti rd (ρ x) (ρ k) (ρ v)
 | .insert t x k v=>(ap.tyAt t).bind fun ti=>BH ap ti rd (ρ x) (ρ k) (ρ v)
 | .nilCheck x=>match ρ x with
  | .ptr b v o=>bH (.ptr b v o)
  | .pp xs o=>bH (.pp xs o)
  | .fn f a c=>bH (.fn f a c)
  |_=>none
 | .binOp op t x y _=>(ap.tyAt t).bind fun ti=>aa6 op ti (ρ x) (ρ y)
 | .unOp op _ x=>unA op (ρ x)
 | .convert s d x=>(ap.tyAt s).bind fun ts=>(ap.tyAt d).bind fun td=>CQ ap ts td rd (ρ x)
 | .makeInterface t x=>(ap.tyAt t).bind fun ti=>match ti.d with| .iface=>none|_=>bH (.ifc t (ρ x))
 | .makeFunc (.func f) first cap=>bH (.fn f (first.toList.map ρ) (cap.toList.map ρ))
 | .makeSlice t l c=>(ap.tyAt t).bind fun ti=>wY ap nid ti (ρ l) (ρ c)
 | .slice t x lo hi mx=>(ap.tyAt t).bind fun ti=>Oo ap ti rd (ρ x) (lo.map ρ) (hi.map ρ) (mx.map ρ)
 | .fieldAddr s x f=>(ap.tyAt s).bind fun ti=>match ti.d with
  | .struct fs=>(fs[f]?).bind fun (o,_,sz)=>match Nat.blt 0 sz with|true=>(Vh (ρ x) o).bind fun p=>bH p|false=>none
  |_=>none
 | .field t x f=>(ap.tyAt t).bind fun ti=>Nr ap ti (ρ x) f
 | .indexAddr t x i=>(ap.tyAt t).bind fun ti=>wW ap ti rd (ρ x) (ρ i)
 | .index t x i=>(ap.tyAt t).bind fun ti=>Nz ap ti (ρ x) (ρ i)
 | .typeAssert x _ asserted ok=>Ib ap (ρ x) asserted ok
 | .extract t i=>match ρ t with| .tup l=>(l[i]?).bind fun v=>bH v|_=>none
 | .call {callee:= .builtin b,args,argTypes}=>
  match b with
  | .len=>(args[0]?).bind fun x=>(argTypes[0]?).bind fun t=>(ap.tyAt t).bind fun ti=>UK ti.d (ρ x)
  | .append=>match args.toList,argTypes.toList with
   | [s,x],[t,t1]=>(ap.tyAt t).bind fun ti=>(ap.tyAt t1).bind fun ti1=>match ti.d,ti1.d,ρ x with
    | .slice e,.str,.str y=>(ap.tyAt e).bind fun te=>match Nat.beq te.size 1 with|true=>xE nid te rd em (ρ s) (.str y)|false=>none
    | .slice _,.slice _,.str _=>none
    | .slice e,.slice _,y=>(ap.tyAt e).bind fun te=>xE nid te rd em (ρ s) y
    |_,_,_=>none
   |_,_=>none
  | .min=>(yX min2 (args.toList.map ρ)).bind fun v=>bH v
  | .max=>(yX max2 (args.toList.map ρ)).bind fun v=>bH v
  |_=>none
 |_=>none
def GK (P:Program):Nat→TypeId→List LK
 |0,_=> [.oth]
 |n+1,t=>match P.underlying t with
  |some (.int k)=> [.int k]
  |some .bool=> [.bool]
  |some .string=> [.str]
  |some (.slice _)=> [.sl]
  |some (.struct fs)=>fs.toList.flatMap fun f=>GK P n f.type
  |some (.array m e)=>(List.replicate m (GK P n e)).flatten
  |_=> [.oth]
def jK (P:Program):Option TypeDesc→TD
 |some (.int k)=> .int k
 |some .bool=> .bool
 |some .string=> .str
 |some (.slice e)=> .slice e
 |some (.array n e)=> .array n e
 |some (.struct fs)=> .struct (fs.toList.map fun f=>(f.offset,f.type,match P.info? f.type with|some i=>i.size|none=>0))
 |some (.interface _)=> .iface
 |some (.pointer _)=> .ptr
 |some (.func _ _ _)=> .func
 |some (.map k e)=> .map k e
 |_=> .oth
def Gi (P:Program) (f:TypeId→Option (List LK)):List Field→Nat→Option (List LK)
 | [],_=>some []
 | x::r,off=>match f x.type with
  |some l=>match !(x.name== "_") && Nat.beq x.offset off && (match P.info? x.type with|some i=>Nat.beq i.size l.length|none=>false) with
   |true=>match Gi P f r (off+l.length) with|some l'=>some (l++l')|none=>none
   |false=>none
  |none=>none
def qi (P:Program):Nat→TypeId→Option (List LK)
 |0,_=>none
 |n+1,t=>match P.underlying t with
  |some (.int k)=>some [.int k]
  |some .bool=>some [.bool]
  |some .string=>some [.str]
  |some (.struct fs)=>match P.stoodInHeld t with|true=>none|false=>Gi P (qi P n) fs.toList 0
  |_=>none
def adG (i:TypeInfo) (d:TypeDesc):Bool:=match i.zero,d with
 |some (.agg _),.struct _=>true
 |some (.agg _),.array _ _=>true
 |some (.agg _),_=>false
 |some _,.struct _=>false
 |some _,.array _ _=>false
 |some _,_=>true
 |none,_=>false
def Uj (P:Program) (d:TypeDesc):Bool:=match d with
 | .struct fs=>fs.toList.all fun f=>(P.info? f.type).isSome
 |_=>true
def EZ (i:TypeInfo):List AV:=match i.zero with|some z=>z.cells.toList.map D5|none=> []
def abZ:LK→LK→Bool
 | .int a,.int b=>jE a b
 | .bool,.bool=>true
 | .str,.str=>true
 |_,_=>false
def GI:List LK→List LK→Bool
 | [],[]=>true
 |a::r,b::q=>abZ a b && GI r q
 |_,_=>false
def abr (P:Program) (t:TypeId):Bool:=match qi P 8 t with|some l=>GI l (GK P 8 t) && !P.eqGuardType P.depth t|none=>false
def Wl (P:Program) (t:TypeId):Option TI:=
 match P.info? t,P.underlying t with
 |some i,some d=>
  match Nat.beq (GK P 8 t).length i.size && (adG i d && Uj P d) && (EZ i).all nK && Nat.beq (EZ i).length i.size && Nat.blt 0 i.size && i.zero.isSome && Nat.blt i.size jf with
  |true=>some {d:=jK P (some d),size:=i.size,bytes:=i.bytes,zero:=EZ i,lks:=GK P 8 t,cmp:=abr P t}
  |false=>none
 |_,_=>none
abbrev aX:=Nat→Nat→Option Value
def mD (S S':aX):Prop:=∀ k o v,S k o=some v→S' k o=some v
theorem mD.refl (S:aX):mD S S:=fun _ _ _ h=>h
theorem mD.trans {S S' S'':aX} (h:mD S S') (a:mD S' S''):mD S S'':=fun k o v e=>a k o v (h k o v e)
def kS (S:aX) (b o:Nat) (vs:List Value):Prop:=∀ j u,vs[j]? =some u→S b (o+j)=some u∧u.oneCell'=true
mutual
def PR (S:aX):AV→Value→Prop
 | .int k n,v=>v= .int k n
 | .bool b,v=>v= .bool b
 | .str s,v=>v= .string ⟨s.toArray⟩
 | .agg l,v=> ∃ vs,v= .agg vs.toArray∧dL S l vs
 | .tup l,v=> ∃ vs,v= .tuple vs.toArray∧dL S l vs
 | .nilS,v=>v= .slice none 0 0
 | .sl xs n nn,v=> ∃ a cap,v= .slice a n cap∧n≤cap∧((a=none∧nn=false∧xs= []∧n=0∧cap=0)∨∃ b o vs,a=some ⟨b,o,none⟩∧dL S xs vs∧kS S b o vs)
 | .pp xs off,v=> ∃ b o vs,v= .pointer (some ⟨b,o+off,none⟩)∧dL S xs vs∧kS S b o vs
 | .mp ks vs,v=>(v= .map none∧ks= []∧vs= [])∨∃ b kk vv,v= .map (some b)∧S b 0=some (.agg kk.toArray)∧S b 1=some (.agg vv.toArray)∧dL S ks kk∧dL S vs vv
 | .nilP,v=>v= .pointer none
 | .fn f a c,v=> ∃ va vc,v= .func (.func f) va.toArray vc.toArray∧dL S a va∧dL S c vc
 | .nilF,v=>v= .nilFunc
 | .ifc t x,v=> ∃ u,v= .iface t u∧PR S x u
 | .nilI,v=>v= .nilIface
 | .dead,_=>True
 | .ref _ _ _ _,_=>False
 | .ptr _ _ _,_=>False
 | .mr _ _,_=>False
 | .own _ _ _,_=>False
def dL (S:aX):List AV→List Value→Prop
 | [],[]=>True
 |x::r,v::vs=>PR S x v∧dL S r vs
 |_,_=>False
end
abbrev dU:=Nat→Option bi
abbrev bf:=Nat→Nat × Nat
mutual
def VR (g:dU) (m:bf) (S:aX):AV→Value→Prop
 | .ref b ver i n,v=> ∃ B,g b=some B∧ver≤B.ver∧(∃ k o c',v= .slice (some ⟨k,o,none⟩) n c')∧(B.ver=ver→∃ o,v= .slice (some ⟨(m b).1,o,none⟩) n ((m b).2 - i)∧i+n≤(m b).2∧(i<(m b).2→o=i*B.esz)∧0<B.esz∧B.esz ≠ jf)
 | .ptr b ver off,v=> ∃ B,g b=some B∧ver≤B.ver∧(∃ k o,v= .pointer (some ⟨k,o,none⟩))∧(B.ver=ver→v= .pointer (some ⟨(m b).1,off,none⟩))
 | .mr b ver,v=> ∃ B,g b=some B∧ver≤B.ver∧(∃ k,v= .map (some k))∧(B.ver=ver→v= .map (some (m b).1))
 | .agg l,v=> ∃ vs,v= .agg vs.toArray∧bF g m S l vs
 | .tup l,v=> ∃ vs,v= .tuple vs.toArray∧bF g m S l vs
 | .fn f a c,v=> ∃ va vc,v= .func (.func f) va.toArray vc.toArray∧bF g m S a va∧bF g m S c vc
 | .ifc t x,v=> ∃ u,v= .iface t u∧VR g m S x u
 | .int k n,v=>PR S (.int k n) v
 | .bool b,v=>PR S (.bool b) v
 | .str s,v=>PR S (.str s) v
 | .nilS,v=>PR S .nilS v
 | .sl xs n nn,v=>PR S (.sl xs n nn) v
 | .pp xs off,v=>PR S (.pp xs off) v
 | .mp ks vs,v=>PR S (.mp ks vs) v
 | .nilP,v=>PR S .nilP v
 | .nilF,v=>PR S .nilF v
 | .nilI,v=>PR S .nilI v
 | .dead,_=>True
 | .own _ _ _,_=>False
def bF (g:dU) (m:bf) (S:aX):List AV→List Value→Prop
 | [],[]=>True
 |x::r,v::vs=>VR g m S x v∧bF g m S r vs
 |_,_=>False
end
def aT (x y:AV):Prop:=∀ g m S v,VR g m S x v→VR g m S y v
inductive vI where
 |v (d:Nat) (x:AV)
 |b (d:Nat) (xs:List AV)
 |u (d:Nat)
inductive kQ where
 |ret (v:AV)
 |pan (v:AV)
structure Cx where
 cl:Bool
 orc:List Bool
 bs:List Bool
 ps:List Prop
 ans:List (kQ × List bi)
 hs:List vI
inductive R (α:Type) where
 |ok (a:α) (c:Cx)
 |need
 |bad (n:Nat)
def R.bind {α β:Type} (r:R α) (f:α→Cx→R β):R β:=
 match r with
 | .ok a c=>f a c
 | .need=> .need
 | .bad n=> .bad n
def lit (o b:Bool):Bool:=match o with|true=>b|false=> !b
def XJ (c:Cx) (bs:List Bool):R Unit:=
 match c.cl with
 |true=>match bs.all id with|true=> .ok () c|false=> .bad 1
 |false=> .ok () {c with bs:=bs++c.bs}
def yS (c:Cx) (b:Bool):R Bool:=
 match c.cl with
 |true=> .ok b c
 |false=>match c.orc with
  | []=> .need
  |o::r=> .ok o {c with orc:=r,bs:=lit o b::c.bs}
def Dl (c:Cx) (dst:Option Nat) (v:AV):AV × Cx:=
 match c.hs,dst with
 | .v d x::r,some d'=>match Nat.beq d d' with
  |true=>(x,{c with hs:=r,ps:=aT v x::c.ps})
  |false=>(v,c)
 |_,_=>(v,c)
def Dk (c:Cx) (dst:Option Nat) (ups:List (Nat × bi)):List (Nat × bi) × Cx:=
 match c.hs,dst,ups with
 | .b d xs::r,some d',[(b,B)]=>match Nat.beq d d' with
  |true=>([(b,{B with cells:=xs})],{c with hs:=r,ps:=(B.cells=xs)::c.ps})
  |false=>(ups,c)
 |_,_,_=>(ups,c)
def O5 (c:Cx) (dst:Option Nat):Bool × Cx:=
 match c.hs,dst with
 | .u d::r,some d'=>match Nat.beq d d' with
  |true=>(true,{c with hs:=r})
  |false=>(false,c)
 |_,_=>(false,c)
abbrev dm:=Cx→AV→Nat→List AV→List bi→R (kQ × List bi × AV)
def sU (rd:Nat→Option bi):Nat→List Nat→List Nat
 |0,l=>l
 |n+1,l=>
  let more:=l.flatMap fun b=>match rd b with|some B=>(match B.pr with|true=> []|false=>dw B.cells)|none=> []
  let l':=more.foldl (fun acc b=>if pM acc b then acc else acc++ [b]) l
  match Nat.beq l'.length l.length with|true=>l|false=>sU rd n l'
def frz (rd:Nat→Option bi):Nat→AV→Option AV
 |0,_=>none
 | fuel+1,x=>
  let frzL (l:List AV):Option (List AV):=kN (frz rd fuel) l
  match x with
  | .ref b ver i n=>(rd b).bind fun B=>match Nat.beq B.ver ver with
   |true=>match B.pr with
    |true=>some (.sl ((B.cells.drop (i*B.esz)).take (n*B.esz)) n true)
    |false=>(frzL ((B.cells.drop (i*B.esz)).take (n*B.esz))).map fun l=> .sl l n true
   |false=>none
  | .ptr b ver off=>(rd b).bind fun B=>match Nat.beq B.ver ver && !(Nat.beq B.esz jf) with
   |true=>match B.pr with
    |true=>some (.pp B.cells off)
    |false=>(frzL B.cells).map fun l=> .pp l off
   |false=>none
  | .mr b ver=>(rd b).bind fun B=>match Nat.beq B.ver ver && Nat.beq B.esz jf with
   |true=>match B.pr with
    |true=>Yu B.cells
    |false=>(frzL B.cells).bind Yu
   |false=>none
  | .agg l=>(frzL l).map .agg
  | .tup l=>(frzL l).map .tup
  | .fn f a c=>(frzL a).bind fun a=>(frzL c).map fun c=> .fn f a c
  | .ifc t v=>(frz rd fuel v).map (.ifc t)
  | .own _ _ _=>none
  |x=>some x
def pF (l:List Nat) (b:Nat):Option Nat:=match l with
 | []=>none
 |c::r=>match Nat.beq c b with|true=>some 0|false=>(pF r b).map (· +1)
def I7 (xs:List AV) (esz:Nat):bi:={cells:=xs,ver:=0,fro:=false,fz:=0,esz,pr:=true}
def gz (nid:Nat):List AV→List AV × List bi
 | []=>([],[])
 | .own xs n esz::r=>match gz (nid+1) r with|(l,bs)=>(.ref nid 0 0 n::l,I7 xs esz::bs)
 |x::r=>match gz nid r with|(l,bs)=>(x::l,bs)
def ku (nid:Nat):AV→AV × List bi
 | .tup l=>match gz nid l with|(l,bs)=>(.tup l,bs)
 | .own xs n esz=>(.ref nid 0 0 n,[I7 xs esz])
 |x=>(x,[])
def DZ:Nat→List bi→List (Nat × bi)
 |_,[]=> []
 |n,B::r=>(n,B)::DZ (n+1) r
def L8:List Nat→List bi→List (Nat × bi)
 |b::r,B::q=>(b,B)::L8 r q
 |_,_=> []
def ru:List Nat→Bool
 | []=>true
 |b::r=> !pM r b && ru r
def Az (ρ:Nat→Nat→Option (Nat × Nat)) (v:Nat) (B:bi):bi:={B with cells:=(match B.pr with|true=>B.cells|false=>lV ρ B.cells),ver:=v+B.ver}
def OO (nid:Nat) (fp:List Nat) (vers:Nat→Nat) (n:Nat):Nat→Nat→Option (Nat × Nat):=fun p v=>
 match fp[p]? with
 |some b=>some (b,vers b+v)
 |none=>match Nat.blt p n with|true=>some (nid+(p - fp.length),v)|false=>none
structure SY where
 out:kQ
 ups:List (Nat × bi)
 fp:List Nat
 md:AV
def tN (ap:AP) (H:dm) (rd:Nat→Option bi) (nid:Nat) (md:AV) (f:Nat) (args:List AV) (c:Cx):R SY:=
 let fp:=sU rd 6 (jB (dw args))
 let rd:=fun b=>match pM fp b with|true=>rd b|false=>none
 let shared:=match ap.fnAt f with|some F=>F.shared|none=>false
 match shared with
 | false=>
  match kN (frz rd 6) args with
  |none=> .bad 10
  |some args'=>
   (H c md f args' []).bind fun (out,h',md) c=>
   match h' with
   |_::_=> .bad 14
   | []=>
   let mark:=fp.filterMap fun b=>(rd b).map fun B=>(b,{B with fro:=true,fz:=B.cells.length})
   match out with
   | .ret v=>match ku nid v with|(v,bs)=>match Nat.ble bs.length 4 with|true=> .ok {out:= .ret v,ups:=DZ nid bs++mark,fp,md} c|false=> .bad 13
   | .pan v=> .ok {out:= .pan v,ups:=mark,fp,md} c
 | true=>
  let vers:=fun b=>match rd b with|some B=>B.ver|none=>0
  let ρ:Nat→Nat→Option (Nat × Nat):=fun b v=>match Nat.beq v (vers b) with|true=>(pF fp b).map fun p=>(p,0)|false=>none
  match kN rd fp with
  |none=> .bad 11
  | some bl=>
   (H c md f (lV ρ args) (bl.map fun B=> {B with cells:=(match B.pr with|true=>B.cells|false=>lV ρ B.cells),ver:=0})).bind fun (out,h',md) c=>
   match Nat.ble fp.length h'.length && ru fp with
   |false=> .bad 12
   |true=>
    let ρ':=OO nid fp vers h'.length
    let ups:=(L8 fp h').map fun (b,B)=>(b,Az ρ' (vers b) B)
    let ex:=(h'.drop fp.length).map (Az ρ' 0)
    match out with
    | .ret v=>match ku (nid+(h'.length - fp.length)) (ren ρ' v) with|(v,bs)=>match Nat.ble ((h'.length - fp.length)+bs.length) 4 with|true=> .ok {out:= .ret v,ups:=DZ nid (ex++bs)++ups,fp,md} c|false=> .bad 13
    | .pan v=>match Nat.ble (h'.length - fp.length) 4 with|true=> .ok {out:= .pan (ren ρ' v),ups:=DZ nid (ex++ [])++ups,fp,md} c|false=> .bad 13
inductive bM where
 |normal
 |exit (id:Nat)
 |ret
 |panic (v:AV)
structure St where
 env:iW
 hp:Hp
 md:AV
 dfs:List (Nat × List AV)
structure wK where
 rt:List Nat
 wt:List Nat
 rb:List Nat
 wb:List Nat
structure RS where
 env:iW
 hp:Hp
 md:AV
 dfs:List (Nat × List AV)
 dec:List (Nat × Bool)
 feet:List wK
def uI (l:List Operand):List Nat:=l.filterMap fun| .tmp t=>some t|_=>none
def Iu (o:Oper):List Nat:=match o.dst with|some d=> [d]|none=> []
def pU (env:iW) (dst:Option Nat) (v:AV):iW:=match dst with|some d=>(d,v)::env|none=>env
def qw (ap:AP) (env:iW):Operand→AV
 | .tmp t=>env.get t
 | .const v=>D5 v
 | .global g=>match (ap.gl[g]?).join with|some xs=> .pp xs 0|none=> .dead
 | .func f=> .fn f [] []
def Nu (ops:List Oper) (env:iW) (dec:List (Nat × Bool)) (o:Oper) (c:Cx):R (Bool × List (Nat × Bool)):=
 match o.guard with
 |none=> .ok (true,dec) c
 | some (j,want)=>
  match (ops[j]?).bind (·.dst) with
  |none=> .bad 20
  | some s=>match aG dec s with
   |some b=> .ok (lit want b,dec) c
   |none=>match env.get s with
    | .bool b=>(yS c b).bind fun b' c=> .ok (lit want b',(s,b')::dec) c
    | .tup []=> .ok (false,dec) c
    |_=> .bad 21
def jH (ops:List Oper) (o:Oper):List Nat:=
 match o.guard with
 |none=> []
 |some (j,_)=>match (ops[j]?).bind (·.dst) with|none=> []|some s=> [s]
def Ue (dec:List (Nat × Bool)) (o:Oper):Bool:=match o.dst with|none=>true|some d=>match aG dec d with|none=>true|some _=>false
def LC (ap:AP) (H:dm) (nid:Nat) (ops:List Oper) (o:Oper) (s:RS) (c:Cx):R (RS × Option AV):=
 (Nu ops s.env s.dec o c).bind fun (run,dec) c=>
 let rt:=uI o.op.operands.toList++jH ops o
 match Ue dec o with
 |false=> .bad 35
 |true=>
 match run with
 |false=> .ok ({s with env:=pU s.env o.dst (.tup []),dec,feet:={rt,wt:=Iu o,rb:= [],wb:= []}::s.feet},none) c
 | true=>
  let ρ:=qw ap s.env
  let rdAll:=aG s.hp
  match o.op with
  | .call {callee:= .value g,args,..}=>
   match ρ g with
   | .fn f first cap=>
    (tN ap H rdAll nid .dead f (first++args.toList.map ρ++cap) c).bind fun r c=>
    let foot:wK:={rt,wt:=Iu o,rb:=r.fp,wb:=r.ups.map fun (q:Nat × bi)=>q.1}
    match O5 c o.dst with
    | (true,c)=>match r.out with
     | .ret v=>match r.ups.all (fun (q:Nat × bi)=>pM r.fp q.1) with
      |true=> .ok ({s with env:=pU s.env o.dst v,dec,feet:={rt,wt:=Iu o,rb:=r.fp,wb:= []}::s.feet},none) {c with ps:=(r.ups.map (fun (q:Nat × bi)=>some q.2)=r.ups.map (fun (q:Nat × bi)=>aG s.hp q.1))::c.ps}
      |false=> .bad 36
     | .pan _=> .bad 37
    |(false,c)=>match r.out with
     | .ret v=> .ok ({s with env:=pU s.env o.dst v,hp:=r.ups++s.hp,dec,feet:=foot::s.feet},none) c
     | .pan v=> .ok ({s with hp:=r.ups++s.hp,dec,feet:=foot::s.feet},some v) c
   |_=> .bad 30
  | .call {callee:= .builtin .recover,..}=>
   match s.md with
   | .nilI=> .ok ({s with env:=pU s.env o.dst .nilI,dec,feet:={rt,wt:=Iu o,rb:= [],wb:= []}::s.feet},none) c
   | .ifc t v=> .ok ({s with env:=pU s.env o.dst (.ifc t v),md:= .nilI,dec,feet:={rt,wt:=Iu o,rb:= [],wb:= []}::s.feet},none) c
   |_=> .bad 33
  | .defer {callee:= .value g,args,..}=>
   match ρ g with
   | .fn f first cap=> .ok ({s with env:=pU s.env o.dst .dead,dfs:=(f,first++args.toList.map ρ++cap)::s.dfs,dec,feet:={rt,wt:=Iu o,rb:= [],wb:= []}::s.feet},none) c
   |_=> .bad 34
  | .panic x=>
   match ρ x with
   | .ifc t v=> .ok ({s with dec},some (.ifc t v)) c
   |_=> .bad 31
  | op=>
   let fp:=Vw ρ op
   let rd:=fun b=>match pM fp b with|true=>rdAll b|false=>none
   let decs:Operand→Option Bool:=fun| .tmp t=>aG dec t|_=>none
   (match xW ρ op with|some n=>yS c (Nat.beq n 0)|none=> .ok false c).bind fun em c=>
   match opA ap nid ρ rd decs em op with
   |none=> .bad 32
   | some (v,ups,bs)=>(XJ c bs).bind fun _ c=>
    match Dl c o.dst v with
    |(v,c)=>match Dk c o.dst ups with
     |(ups,c)=> .ok ({s with env:=pU s.env o.dst v,hp:=ups++s.hp,dec,feet:={rt,wt:=Iu o,rb:=fp,wb:=ups.map fun (q:Nat × bi)=>q.1}::s.feet},none) c
def rW (ap:AP) (H:dm) (ops:List Oper):List Oper→Nat→RS→Cx→R (RS × Option AV)
 | [],_,s,c=> .ok (s,none) c
 | o::r,nid,s,c=>(LC ap H nid ops o s c).bind fun (s,p) c=>
  match p with
  |some v=> .ok (s,some v) c
  |none=>match s.feet with
   |f::_=>match f.wb.all (fun x=>Nat.blt x (nid+4)) with|true=>rW ap H ops r (nid+4) s c|false=> .bad 43
   | []=> .bad 44
def DU (a b:List Nat):Bool:=a.any (pM b)
def kF (a b:wK):Bool:=DU a.wt b.rt||DU a.wt b.wt||DU a.rt b.wt||DU a.wb b.rb||DU a.wb b.wb||DU a.rb b.wb
def uw (n:Nat) (bef:List Nat) (feet:List wK):Bool:=
 let l:=feet.reverse.zipIdx
 l.all fun (a,i)=>l.all fun (b,j)=> !(Nat.blt i j)|| !(kF a b||b.wb.any fun x=>Nat.ble (n+4*i) x && Nat.blt x (n+4*i+4))||(bef.getD j 0).testBit i
def CZ (keep:List Nat) (env:iW):List Nat:=keep.flatMap fun t=>fD (env.get t)
def norm (base:Nat) (keep:List Nat) (s:St):St:=
 let env:=s.env
 let hp:=s.hp
 let rd:=aG hp
 let ids:=sU rd 20 (jB (sU rd 20 (List.range base)++CZ keep env++s.dfs.flatMap fun d=>dw d.2))
 let ids:=ids.filter fun b=>(rd b).isSome
 let ρ:Nat→Nat→Option (Nat × Nat):=fun b v=>match rd b with
  |some B=>match Nat.beq B.ver v with
   |true=>(pF ids b).map fun p=>(p,match Nat.blt p base with|true=>v|false=>0)
   |false=>none
  |none=>none
 {env:=keep.map fun t=>(t,ren ρ (env.get t))
  hp:=ids.zipIdx.filterMap fun (b,p)=>(rd b).map fun B=>(p,{B with cells:=(match B.pr with|true=>B.cells|false=>lV ρ B.cells),ver:=match Nat.blt p base with|true=>B.ver|false=>0})
  md:=s.md
  dfs:=s.dfs.map fun d=>(d.1,lV ρ d.2)}
def iK:Hp→Nat
 | []=>0
 |(b,_)::r=>match Nat.blt b (iK r) with|true=>iK r|false=>b+1
def qW (ops:List Oper):Bool:=ops.zipIdx.all fun (o,i)=>o.after.toList.all fun e=> !Region.binds .any e||Nat.blt e.on i
def Jc (ap:AP) (H:dm) (base:Nat) (keep:List Nat) (ops:List Oper) (draw:Bool) (s:St) (c:Cx):R (bM × St):=
 (rW ap H ops ops (iK s.hp) {env:=s.env,hp:=s.hp,md:=s.md,dfs:=s.dfs,dec:= [],feet:= []} c).bind fun (s',p) c=>
 match p with
 | some v=>match draw with
  |true=> .bad 40
  |false=>match (fD v).isEmpty with
   |true=> .ok (.panic v,norm base keep ⟨s'.env,s'.hp,s'.md,s'.dfs⟩) c
   |false=> .ok (.panic v,⟨s'.env,s'.hp,s'.md,s'.dfs⟩) c
 |none=>
  match !draw||(uw (iK s.hp) (Region.before ops.toArray).toList s'.feet && qW ops && Nat.beq s'.dfs.length s.dfs.length) with
  |true=> .ok (.normal,norm base keep ⟨s'.env,s'.hp,s'.md,s'.dfs⟩) c
  |false=> .bad 41
def O8 (f:St→Cx→R (bM × St)):Nat→St→Cx→R (bM × St)
 |0,_,_=> .bad 50
 |n+1,s,c=>(f s c).bind fun (e,s) c=>match e with
  | .normal=>O8 f n s c
  |e=> .ok (e,s) c
def kZ (ap:AP) (H:dm) (base:Nat) (keep:List Nat) (lf:Nat):Code→St→Cx→R (bM × St)
 | .skip,s,c=> .ok (.normal,s) c
 | .label _,s,c=> .ok (.normal,s) c
 | .region _ ops draw,s,c=>Jc ap H base keep ops.toList draw s c
 | .seq a b,s,c=>(kZ ap H base keep lf a s c).bind fun (e,s) c=>match e with
  | .normal=>kZ ap H base keep lf b s c
  |e=> .ok (e,s) c
 | .cond t a b,s,c=>match qw ap s.env t with
  | .bool x=>(yS c x).bind fun x c=>match x with
   |true=>kZ ap H base keep lf a s c
   |false=>kZ ap H base keep lf b s c
  |_=> .bad 60
 | .block id b,s,c=>(kZ ap H base keep lf b s c).bind fun (e,s) c=>match e with
  | .exit id'=>match Nat.beq id' id with|true=> .ok (.normal,s) c|false=> .ok (.exit id',s) c
  |e=> .ok (e,s) c
 | .loop b,s,c=>O8 (kZ ap H base keep lf b) lf s c
 | .exit id,s,c=> .ok (.exit id,s) c
 | .ret,s,c=> .ok (.ret,s) c
 | .scope b,s,c=>kZ ap H base keep lf b s c
 |_,_,_=> .bad 61
def yC (ap:AP) (env:iW) (hp:Hp):ResultVar→Option (AV × List Bool)
 | .tmp t=>some (env.get t,[])
 | .cell a t=>(ap.tyAt t).bind fun ti=>(KH ti (aG hp) (env.get a)).map fun (v,_,bs)=>(v,bs)
def gK (l:List Nat) (b:Nat):Nat:=(l.filter (Nat.beq b)).length
def XP (base:Nat) (rd:Nat→Option bi) (v:AV):Option AV:=
 let fp:=sU rd 6 (jB (fD v))
 match fp.all (fun b=>Nat.ble base b) with
 |true=>frz (fun b=>match pM fp b with|true=>rd b|false=>none) 6 v
 |false=>none
def qY (base:Nat) (rd:Nat→Option bi) (all:List Nat) (v:AV):Option AV:=
 let frzO (v:AV):Option AV:=match (fD v).all (fun b=>Nat.blt b base) with|true=>some v|false=>XP base rd v
 match v with
 | .ref b ver 0 n=>match rd b with
  |some B=>match Nat.ble base b && Nat.beq B.ver ver && !B.fro && B.pr && Nat.beq (gK all b) 1 && Nat.blt 0 B.esz with
   |true=>some (.own (B.cells.take (n*B.esz)) n B.esz)
   |false=>frzO v
  |none=>none
 |v=>frzO v
def af (f:Func):Code:=f.body.getD .skip
def nJ (md:AV) (args:List AV) (h:List bi):St:=
 {env:=args.zipIdx.map fun (x,i)=>(i,x),hp:=h.zipIdx.map fun (B,i)=>(i,B),md,dfs:= []}
def ajR:AV→Bool
 | .nilI=>true
 | .ifc _ _=>true
 |_=>false
def Dy (ap:AP) (H:dm):List (Nat × List AV)→AV→Hp→Cx→R (AV × Hp)
 | [],mode,hp,c=> .ok (mode,hp) c
 |(f,args)::r,mode,hp,c=>
  match ajR mode && (fD mode).isEmpty with
  |false=> .bad 78
  |true=>
  (tN ap H (aG hp) (iK hp) mode f args c).bind fun q c=>
  match q.out with
  | .ret _=>Dy ap H r q.md (q.ups++hp) c
  | .pan _=> .bad 75
def RN (rd:Nat→Option bi) (base:Nat):Nat:=(sU rd 20 (List.range base)).length
def vk (ap:AP) (base:Nat) (F:Func) (env:iW) (hp:Hp) (c:Cx):R (kQ × List bi):=
 let rd:=aG hp
 let n:=RN rd base
 match kN (yC ap env hp) F.results.toList,kN rd (List.range n) with
 |some vs,some h'=>
  match h'.all (fun B=>B.pr||(dw B.cells).all fun b=>Nat.blt b n) with
  |false=> .bad 76
  |true=>
  (XJ c (vs.flatMap fun (q:AV × List Bool)=>q.2)).bind fun _ c=>
  let all:=vs.flatMap fun (q:AV × List Bool)=>sU rd 6 (jB (fD q.1))
  match kN (qY n rd all) (vs.map fun (q:AV × List Bool)=>q.1) with
  |some [v]=> .ok (.ret v,h') c
  |some l=> .ok (.ret (.tup l),h') c
  |none=> .bad 70
 |_,_=> .bad 71
def I9 (base:Nat) (v:AV) (hp:Hp) (c:Cx):R (kQ × List bi):=
 let n:=RN (aG hp) base
 match qY n (aG hp) (sU (aG hp) 6 (jB (fD v))) v,kN (aG hp) (List.range n) with
 |some v,some h'=>
  match h'.all (fun B=>B.pr||(dw B.cells).all fun b=>Nat.blt b n) with
  |false=> .bad 77
  |true=> .ok (.pan v,h') c
 |_,_=> .bad 72
def Be (ap:AP) (H:dm) (base:Nat) (F:Func) (e:bM) (s:St) (c:Cx):R (kQ × List bi × AV):=
 let go (mode:AV):R (kQ × List bi × AV):=
  (Dy ap H s.dfs mode s.hp c).bind fun (mode,hp) c=>
  match mode with
  | .nilI=>(vk ap base F s.env hp c).bind fun (o,h) c=> .ok (o,h,s.md) c
  | .ifc t v=>(I9 base (.ifc t v) hp c).bind fun (o,h) c=> .ok (o,h,s.md) c
  |_=> .bad 74
 match e with
 | .normal| .ret=>go .nilI
 | .panic (.ifc t v)=>match (fD v).isEmpty with|true=>go (.ifc t v)|false=> .bad 79
 |_=> .bad 73
def Tn (ap:AP) (H:dm) (lf:Nat) (md:AV) (F:AF) (args:List AV) (h:List bi) (c:Cx):R (kQ × List bi × AV):=
 match af F.fn with
 | .seq (.region _ ops false) rest=>
  match ops.toList with
  | o ::r=>
   match o.op,o.guard,o.dst with
   | .call {callee:= .builtin .recover,..},none,some d=>
    let s0:=nJ .dead args h
    (rW ap H (o::r) r (iK s0.hp) {env:=(d,md)::s0.env,hp:=s0.hp,md:= .dead,dfs:= [],dec:= [],feet:= []} c).bind fun (s,p) c=>
    match p with
    |some _=> .bad 81
    | none=>(kZ ap H h.length F.keep lf rest (norm h.length F.keep ⟨s.env,s.hp,s.md,s.dfs⟩) c).bind fun (e,s) c=>
     match s.dfs with
     |_::_=> .bad 82
     | []=>match e with
      | .normal| .ret=>(vk ap h.length F.fn s.env s.hp c).bind fun (o,h) c=> .ok (o,h,.nilI) c
      |_=> .bad 83
   |_,_,_=> .bad 84
  | []=> .bad 85
 |_=> .bad 86
def tK (ap:AP) (H:dm) (lf:Nat) (md:AV) (f:Nat) (args:List AV) (h:List bi) (c:Cx):R (kQ × List bi × AV):=
 match ap.fnAt f with
 |none=> .bad 80
 |some F=>match md with
  | .dead=>(kZ ap H h.length F.keep lf (af F.fn) (nJ .dead args h) c).bind fun (e,s) c=>Be ap H h.length F.fn e s c
  |md=>match ajR md && (fD md).isEmpty with|true=>Tn ap H lf md F args h c|false=> .bad 87
theorem wL {S:aX}:∀ {l:List AV} {vs:List Value},dL S l vs→l.length=vs.length
 | [],[],_=>rfl
 |_::_,_::_,h=>by simp only [dL] at h;simp [wL h.2]
 | [],_::_,h=>by simp [dL] at h
 |_::_,[],h=>by simp [dL] at h
theorem cZ {g:dU} {m:bf} {S:aX}:∀ {l:List AV} {vs:List Value},bF g m S l vs→l.length=vs.length
 | [],[],_=>rfl
 |_::_,_::_,h=>by simp only [bF] at h;simp [cZ h.2]
 | [],_::_,h=>by simp [bF] at h
 |_::_,[],h=>by simp [bF] at h
theorem OI {S:aX}:∀ {l:List AV} {vs:List Value} (_:dL S l vs) (i:Nat) {x:AV},l[i]? =some x→∃ v,vs[i]? =some v∧PR S x v
 | [],[],_,i,x,hx=>by simp at hx
 |a::l,v::vs,h,0,x,hx=>by simp only [dL] at h;simp at hx;subst hx;exact ⟨v,rfl,h.1⟩
 |a::l,v::vs,h,i+1,x,hx=>by simp only [dL] at h;simp at hx;simpa using OI h.2 i hx
 | [],_::_,h,_,_,_=>by simp [dL] at h
 |_::_,[],h,_,_,_=>by simp [dL] at h
theorem qQ {g:dU} {m:bf} {S:aX}:∀ {l:List AV} {vs:List Value} (_:bF g m S l vs) (i:Nat) {x:AV},l[i]? =some x→∃ v,vs[i]? =some v∧VR g m S x v
 | [],[],_,i,x,hx=>by simp at hx
 |a::l,v::vs,h,0,x,hx=>by simp only [bF] at h;simp at hx;subst hx;exact ⟨v,rfl,h.1⟩
 |a::l,v::vs,h,i+1,x,hx=>by simp only [bF] at h;simp at hx;simpa using qQ h.2 i hx
 | [],_::_,h,_,_,_=>by simp [bF] at h
 |_::_,[],h,_,_,_=>by simp [bF] at h
theorem mZ {S:aX}:∀ {l l':List AV} {vs vs':List Value},dL S l vs→dL S l' vs'→dL S (l++l') (vs++vs')
 | [],_,[],_,_,h'=>by simpa using h'
 |_::_,_,_::_,_,h,h'=>by simp only [dL] at h;simp only [List.cons_append,dL];exact ⟨h.1,mZ h.2 h'⟩
 | [],_,_::_,_,h,_=>by simp [dL] at h
 |_::_,_,[],_,h,_=>by simp [dL] at h
theorem iI {g:dU} {m:bf} {S:aX}:∀ {l l':List AV} {vs vs':List Value},bF g m S l vs→bF g m S l' vs'→bF g m S (l++l') (vs++vs')
 | [],_,[],_,_,h'=>by simpa using h'
 |_::_,_,_::_,_,h,h'=>by simp only [bF] at h;simp only [List.cons_append,bF];exact ⟨h.1,iI h.2 h'⟩
 | [],_,_::_,_,h,_=>by simp [bF] at h
 |_::_,_,[],_,h,_=>by simp [bF] at h
theorem kR {S:aX}:∀ (n:Nat) {l:List AV} {vs:List Value},dL S l vs→dL S (l.take n) (vs.take n)
 |0,_,_,_=>by simp [dL]
 |n+1,[],[],_=>by simp [dL]
 |n+1,_::_,_::_,h=>by simp only [dL] at h;simp only [List.take_succ_cons,dL];exact ⟨h.1,kR n h.2⟩
 |_+1,[],_::_,h=>by simp [dL] at h
 |_+1,_::_,[],h=>by simp [dL] at h
theorem p_ {S:aX}:∀ (n:Nat) {l:List AV} {vs:List Value},dL S l vs→dL S (l.drop n) (vs.drop n)
 |0,_,_,h=>by simpa using h
 |n+1,[],[],_=>by simp [dL]
 |n+1,_::_,_::_,h=>by simp only [dL] at h;simpa using p_ n h.2
 |_+1,[],_::_,h=>by simp [dL] at h
 |_+1,_::_,[],h=>by simp [dL] at h
theorem qf {g:dU} {m:bf} {S:aX}:∀ (n:Nat) {l:List AV} {vs:List Value},bF g m S l vs→bF g m S (l.take n) (vs.take n)
 |0,_,_,_=>by simp [bF]
 |n+1,[],[],_=>by simp [bF]
 |n+1,_::_,_::_,h=>by simp only [bF] at h;simp only [List.take_succ_cons,bF];exact ⟨h.1,qf n h.2⟩
 |_+1,[],_::_,h=>by simp [bF] at h
 |_+1,_::_,[],h=>by simp [bF] at h
theorem tC {g:dU} {m:bf} {S:aX}:∀ (n:Nat) {l:List AV} {vs:List Value},bF g m S l vs→bF g m S (l.drop n) (vs.drop n)
 |0,_,_,h=>by simpa using h
 |n+1,[],[],_=>by simp [bF]
 |n+1,_::_,_::_,h=>by simp only [bF] at h;simpa using tC n h.2
 |_+1,[],_::_,h=>by simp [bF] at h
 |_+1,_::_,[],h=>by simp [bF] at h
theorem kS.mono {S S':aX} (h:mD S S') {b o:Nat} {vs:List Value} (hs:kS S b o vs):kS S' b o vs:=fun j u a=> ⟨h _ _ _ (hs j u a).1,(hs j u a).2⟩
mutual
theorem dD {S S':aX} (h:mD S S'):∀ (x:AV) {v:Value},PR S x v→PR S' x v
 | .int _ _,_,p=>by simpa only [PR] using p
 | .bool _,_,p=>by simpa only [PR] using p
 | .str _,_,p=>by simpa only [PR] using p
 | .nilS,_,p=>by simpa only [PR] using p
 | .nilP,_,p=>by simpa only [PR] using p
 | .nilF,_,p=>by simpa only [PR] using p
 | .nilI,_,p=>by simpa only [PR] using p
 | .dead,_,_=>by simp only [PR]
 | .agg l,_,p=>by
  simp only [PR] at p ⊢
  obtain ⟨vs,e,q⟩:=p
  exact ⟨vs,e,bP h l q⟩
 | .tup l,_,p=>by
  simp only [PR] at p ⊢
  obtain ⟨vs,e,q⟩:=p
  exact ⟨vs,e,bP h l q⟩
 | .sl xs n nn,_,p=>by
  simp only [PR] at p ⊢
  obtain ⟨a,i,e,d,q⟩:=p
  refine ⟨a,i,e,d, ?_⟩
  rcases q with q|⟨b,o,vs,B,q,hs⟩
  ·exact .inl q
  ·exact .inr ⟨b,o,vs,B,bP h xs q,hs.mono h⟩
 | .pp xs off,_,p=>by
  simp only [PR] at p ⊢
  obtain ⟨b,o,vs,e,q,hs⟩:=p
  exact ⟨b,o,vs,e,bP h xs q,hs.mono h⟩
 | .mp ks vs,_,p=>by
  simp only [PR] at p ⊢
  rcases p with p|⟨b,k,s,e,h0,A,z,y⟩
  ·exact .inl p
  ·exact .inr ⟨b,k,s,e,h _ _ _ h0,h _ _ _ A,bP h ks z,bP h vs y⟩
 | .fn f a c,_,p=>by
  simp only [PR] at p ⊢
  obtain ⟨C,j,e,q,r⟩:=p
  exact ⟨C,j,e,bP h a q,bP h c r⟩
 | .ifc t x,_,p=>by
  simp only [PR] at p ⊢
  obtain ⟨u,e,q⟩:=p
  exact ⟨u,e,dD h x q⟩
 | .ref _ _ _ _,_,p=>by simp only [PR] at p
 | .ptr _ _ _,_,p=>by simp only [PR] at p
 | .mr _ _,_,p=>by simp only [PR] at p
 | .own _ _ _,_,p=>by simp only [PR] at p
theorem bP {S S':aX} (h:mD S S'):∀ (l:List AV) {vs:List Value},dL S l vs→dL S' l vs
 | [],[],_=>by simp only [dL]
 |x::r,v::vs,p=>by simp only [dL] at p ⊢;exact ⟨dD h x p.1,bP h r p.2⟩
 | [],_::_,p=>by simp [dL] at p
 |_::_,[],p=>by simp [dL] at p
end
mutual
theorem iQ {g:dU} {m:bf} {S:aX}:∀ (x:AV) {v:Value},PR S x v→VR g m S x v
 | .int _ _,_,p=>by simpa only [VR] using p
 | .bool _,_,p=>by simpa only [VR] using p
 | .str _,_,p=>by simpa only [VR] using p
 | .nilS,_,p=>by simpa only [VR] using p
 | .nilP,_,p=>by simpa only [VR] using p
 | .nilF,_,p=>by simpa only [VR] using p
 | .nilI,_,p=>by simpa only [VR] using p
 | .sl _ _ _,_,p=>by simpa only [VR] using p
 | .pp _ _,_,p=>by simpa only [VR] using p
 | .mp _ _,_,p=>by simpa only [VR] using p
 | .dead,_,_=>by simp only [VR]
 | .agg l,_,p=>by
  simp only [PR] at p;simp only [VR]
  obtain ⟨vs,e,q⟩:=p
  exact ⟨vs,e,bW l q⟩
 | .tup l,_,p=>by
  simp only [PR] at p;simp only [VR]
  obtain ⟨vs,e,q⟩:=p
  exact ⟨vs,e,bW l q⟩
 | .fn f a c,_,p=>by
  simp only [PR] at p;simp only [VR]
  obtain ⟨d,b,e,q,r⟩:=p
  exact ⟨d,b,e,bW a q,bW c r⟩
 | .ifc t x,_,p=>by
  simp only [PR] at p;simp only [VR]
  obtain ⟨u,e,q⟩:=p
  exact ⟨u,e,iQ x q⟩
 | .ref _ _ _ _,_,p=>by simp only [PR] at p
 | .ptr _ _ _,_,p=>by simp only [PR] at p
 | .mr _ _,_,p=>by simp only [PR] at p
 | .own _ _ _,_,p=>by simp only [PR] at p
theorem bW {g:dU} {m:bf} {S:aX}:∀ (l:List AV) {vs:List Value},dL S l vs→bF g m S l vs
 | [],[],_=>by simp only [bF]
 |x::r,v::vs,p=>by simp only [dL] at p;simp only [bF];exact ⟨iQ x p.1,bW r p.2⟩
 | [],_::_,p=>by simp [dL] at p
 |_::_,[],p=>by simp [dL] at p
end
def sH (g:dU) (m:bf) (g':dU) (m':bf) (ρ:Nat→Nat→Option (Nat × Nat)):Prop:=
 ∀ b ver b' ver',ρ b ver=some (b',ver')→∀ B,g b=some B→ver≤B.ver→
  ∃ B',g' b'=some B'∧ver'≤B'.ver∧(B'.ver=ver'→B.ver=ver∧m' b'=m b∧B'.esz=B.esz)
mutual
theorem yP {g g':dU} {m G:bf} {S S':aX} {ρ:Nat→Nat→Option (Nat × Nat)} (j:mD S S') (h:sH g m g' G ρ):∀ (x:AV) {v:Value},VR g m S x v→VR g' G S' (ren ρ x) v
 | .int k n,_,p=>by simp only [VR] at p;simp only [ren,VR];exact dD j _ p
 | .bool _,_,p=>by simp only [VR] at p;simp only [ren,VR];exact dD j _ p
 | .str _,_,p=>by simp only [VR] at p;simp only [ren,VR];exact dD j _ p
 | .nilS,_,p=>by simp only [VR] at p;simp only [ren,VR];exact dD j _ p
 | .nilP,_,p=>by simp only [VR] at p;simp only [ren,VR];exact dD j _ p
 | .nilF,_,p=>by simp only [VR] at p;simp only [ren,VR];exact dD j _ p
 | .nilI,_,p=>by simp only [VR] at p;simp only [ren,VR];exact dD j _ p
 | .sl _ _ _,_,p=>by simp only [VR] at p;simp only [ren,VR];exact dD j _ p
 | .pp _ _,_,p=>by simp only [VR] at p;simp only [ren,VR];exact dD j _ p
 | .mp _ _,_,p=>by simp only [VR] at p;simp only [ren,VR];exact dD j _ p
 | .dead,_,_=>by simp only [ren,VR]
 | .own _ _ _,_,p=>by simp only [VR] at p
 | .agg l,_,p=>by
  simp only [VR] at p;simp only [ren,VR]
  obtain ⟨vs,e,q⟩:=p
  exact ⟨vs,e,kT j h l q⟩
 | .tup l,_,p=>by
  simp only [VR] at p;simp only [ren,VR]
  obtain ⟨vs,e,q⟩:=p
  exact ⟨vs,e,kT j h l q⟩
 | .fn f a c,_,p=>by
  simp only [VR] at p;simp only [ren,VR]
  obtain ⟨J,H,e,q,r⟩:=p
  exact ⟨J,H,e,kT j h a q,kT j h c r⟩
 | .ifc t x,_,p=>by
  simp only [VR] at p;simp only [ren,VR]
  obtain ⟨u,e,q⟩:=p
  exact ⟨u,e,yP j h x q⟩
 | .ref b ver i n,_,p=>by
  simp only [VR] at p;simp only [ren]
  obtain ⟨B,C,z,y,q⟩:=p
  cases hρ:ρ b ver with
  |none=>simp only [VR]
  |some bv=>
   obtain ⟨D,d⟩:=bv
   obtain ⟨B',o,s,A⟩:=h b ver D d hρ B C z
   simp only [VR]
   refine ⟨B',o,s,y,fun e=> ?_⟩
   obtain ⟨E,F,I⟩:=A e
   rw [F,I]
   exact q E
 | .ptr b ver off,_,p=>by
  simp only [VR] at p;simp only [ren]
  obtain ⟨B,C,z,y,q⟩:=p
  cases hρ:ρ b ver with
  |none=>simp only [VR]
  |some bv=>
   obtain ⟨D,d⟩:=bv
   obtain ⟨B',o,s,A⟩:=h b ver D d hρ B C z
   simp only [VR]
   refine ⟨B',o,s,y,fun e=> ?_⟩
   obtain ⟨E,F,_⟩:=A e
   rw [F]
   exact q E
 | .mr b ver,_,p=>by
  simp only [VR] at p;simp only [ren]
  obtain ⟨B,C,z,y,q⟩:=p
  cases hρ:ρ b ver with
  |none=>simp only [VR]
  |some bv=>
   obtain ⟨D,d⟩:=bv
   obtain ⟨B',o,s,A⟩:=h b ver D d hρ B C z
   simp only [VR]
   refine ⟨B',o,s,y,fun e=> ?_⟩
   obtain ⟨E,F,_⟩:=A e
   rw [F]
   exact q E
theorem kT {g g':dU} {m a:bf} {S S':aX} {ρ:Nat→Nat→Option (Nat × Nat)} (b:mD S S') (h:sH g m g' a ρ):∀ (l:List AV) {vs:List Value},bF g m S l vs→bF g' a S' (lV ρ l) vs
 | [],[],_=>by simp only [lV,bF]
 |x::r,v::vs,p=>by simp only [bF] at p;simp only [lV,bF];exact ⟨yP b h x p.1,kT b h r p.2⟩
 | [],_::_,p=>by simp [bF] at p
 |_::_,[],p=>by simp [bF] at p
end
def Ge (g:dU) (m:bf) (g':dU) (m':bf):Prop:=
 ∀ b B,g b=some B→∃ B',g' b=some B'∧B'.esz=B.esz∧((B'.ver=B.ver∧m' b=m b)∨B.ver<B'.ver)
theorem Ge.refl (g:dU) (m:bf):Ge g m g m:=fun _ B h=> ⟨B,h,rfl,.inl ⟨rfl,rfl⟩⟩
theorem Ge.trans {g g' f:dU} {m k a:bf} (h:Ge g m g' k) (p:Ge g' k f a):Ge g m f a:=by
 intro b B q
 obtain ⟨B',j,e,c⟩:=h b B q
 obtain ⟨B'',i,t,o⟩:=p b B' j
 refine ⟨B'',i,t.trans e, ?_⟩
 rcases c with ⟨s,r⟩|c<;>rcases o with ⟨n,l⟩|d
 ·exact .inl ⟨n.trans s,l.trans r⟩
 ·exact .inr (by omega)
 ·exact .inr (by omega)
 ·exact .inr (by omega)
mutual
theorem oz {g g':dU} {m C:bf} {S S':aX} (o:mD S S') (h:Ge g m g' C):∀ (x:AV) {v:Value},VR g m S x v→VR g' C S' x v
 | .int k n,_,p=>by simp only [VR] at p ⊢;exact dD o _ p
 | .bool _,_,p=>by simp only [VR] at p ⊢;exact dD o _ p
 | .str _,_,p=>by simp only [VR] at p ⊢;exact dD o _ p
 | .nilS,_,p=>by simp only [VR] at p ⊢;exact dD o _ p
 | .nilP,_,p=>by simp only [VR] at p ⊢;exact dD o _ p
 | .nilF,_,p=>by simp only [VR] at p ⊢;exact dD o _ p
 | .nilI,_,p=>by simp only [VR] at p ⊢;exact dD o _ p
 | .sl _ _ _,_,p=>by simp only [VR] at p ⊢;exact dD o _ p
 | .pp _ _,_,p=>by simp only [VR] at p ⊢;exact dD o _ p
 | .mp _ _,_,p=>by simp only [VR] at p ⊢;exact dD o _ p
 | .dead,_,_=>by simp only [VR]
 | .own _ _ _,_,p=>by simp only [VR] at p
 | .agg l,_,p=>by
  simp only [VR] at p ⊢
  obtain ⟨vs,e,q⟩:=p
  exact ⟨vs,e,lK o h l q⟩
 | .tup l,_,p=>by
  simp only [VR] at p ⊢
  obtain ⟨vs,e,q⟩:=p
  exact ⟨vs,e,lK o h l q⟩
 | .fn f a c,_,p=>by
  simp only [VR] at p ⊢
  obtain ⟨G,F,e,q,r⟩:=p
  exact ⟨G,F,e,lK o h a q,lK o h c r⟩
 | .ifc t x,_,p=>by
  simp only [VR] at p ⊢
  obtain ⟨u,e,q⟩:=p
  exact ⟨u,e,oz o h x q⟩
 | .ref b ver i n,_,p=>by
  simp only [VR] at p ⊢
  obtain ⟨B,y,D,j,q⟩:=p
  obtain ⟨B',d,A,s⟩:=h b B y
  rcases s with ⟨E,z⟩|c
  ·refine ⟨B',d,by omega,j,fun e=> ?_⟩
   rw [z,A]
   exact q (by omega)
  ·exact ⟨B',d,by omega,j,fun e=>by omega⟩
 | .ptr b ver off,_,p=>by
  simp only [VR] at p ⊢
  obtain ⟨B,y,D,j,q⟩:=p
  obtain ⟨B',d,A,s⟩:=h b B y
  rcases s with ⟨E,z⟩|c
  ·refine ⟨B',d,by omega,j,fun e=> ?_⟩
   rw [z]
   exact q (by omega)
  ·exact ⟨B',d,by omega,j,fun e=>by omega⟩
 | .mr b ver,_,p=>by
  simp only [VR] at p ⊢
  obtain ⟨B,y,D,j,q⟩:=p
  obtain ⟨B',d,A,s⟩:=h b B y
  rcases s with ⟨E,z⟩|c
  ·refine ⟨B',d,by omega,j,fun e=> ?_⟩
   rw [z]
   exact q (by omega)
  ·exact ⟨B',d,by omega,j,fun e=>by omega⟩
theorem lK {g g':dU} {m a:bf} {S S':aX} (b:mD S S') (h:Ge g m g' a):∀ (l:List AV) {vs:List Value},bF g m S l vs→bF g' a S' l vs
 | [],[],_=>by simp only [bF]
 |x::r,v::vs,p=>by simp only [bF] at p ⊢;exact ⟨oz b h x p.1,lK b h r p.2⟩
 | [],_::_,p=>by simp [bF] at p
 |_::_,[],p=>by simp [bF] at p
end
def lS (ap:AP) (S:aX):Prop:=∀ k xs,(ap.gl[k]?).join=some xs→∃ vs,dL S xs vs∧kS S k 0 vs
structure je (P:Program) (ap:AP):Prop where
 ty:∀ t ti,ap.tyAt t=some ti→Wl P t=some ti
def wZ (es:Array MapEntry):Array Value:=#[.agg (es.map (·.key)),.agg (es.map (·.val))]
def jR (w:World) (k z:Nat) (cur:Array Value) (e:TypeId):Prop:=
 (z ≠ jf∧w.heap[k]? =some (.cells cur e (0,0)))∨(z=jf∧∃ es clk,w.heap[k]? =some (.map es clk)∧cur=wZ es)
def dX (w:World) (k o:Nat):Option Value:=match w.heap[k]? with
 |some (.map es _)=>(wZ es)[o]?
 |_=>match w.cell? ⟨k,o,none⟩ with|some v=>if v.oneCell' then some v else none|none=>none
theorem jR.of {w:World} {k z:Nat} {cur:Array Value} {e:TypeId} (a:z ≠ jf) (h:w.heap[k]? =some (.cells cur e (0,0))):jR w k z cur e:= .inl ⟨a,h⟩
theorem jR.cells {w:World} {k z:Nat} {cur:Array Value} {e:TypeId} (h:jR w k z cur e) (a:z ≠ jf):w.heap[k]? =some (.cells cur e (0,0)):=by
 rcases h with h|h
 ·exact h.2
 ·exact absurd h.1 a
theorem jR.map {w:World} {k z:Nat} {cur:Array Value} {e:TypeId} (h:jR w k z cur e) (a:z=jf):∃ es clk,w.heap[k]? =some (.map es clk)∧cur=wZ es:=by
 rcases h with h|h
 ·exact absurd a h.1
 ·exact h.2
theorem jR.same {w w':World} {k z:Nat} {cur:Array Value} {e:TypeId} (h:jR w k z cur e) (a:w'.heap[k]? =w.heap[k]?):jR w' k z cur e:=by
 unfold jR;rw [a];exact h
theorem jR.lt {w:World} {k z:Nat} {cur:Array Value} {e:TypeId} (h:jR w k z cur e):k<w.heap.size:=by
 rcases h with ⟨_,h⟩|⟨_,b,a,h,_⟩<;>exact (Array.getElem?_eq_some_iff.1 h).1
theorem MR {w w':World} {k o:Nat} (b:w'.heap[k]? =w.heap[k]?):dX w' k o=dX w k o:=by
 unfold dX;rw [b,World.cell?_of_block (w:=w) (a:=⟨k,o,none⟩) b]
theorem uQ {w:World} {k o:Nat} {v:Value} (h:dX w k o=some v) (a:v.oneCell'=true):w.cell? ⟨k,o,none⟩=some v:=by
 unfold dX at h
 split at h
 ·rename_i d c e
  exfalso
  unfold wZ at h
  rcases (show o=0∨o=1∨2≤o by omega) with rfl|rfl|ho
  ·cases h;cases a
  ·cases h;cases a
  ·rw [Array.getElem?_eq_none (by simpa using ho)] at h;cases h
 ·split at h
  ·rename_i f b
   split at h
   ·cases h;exact b
   ·cases h
  ·cases h
theorem Ci {w:World} {k o:Nat} {v:Value} (h:w.cell? ⟨k,o,none⟩=some v) (a:v.oneCell'=true):dX w k o=some v:=by
 unfold dX
 split
 ·rename_i d c b
  unfold World.cell? at h
  simp only [b] at h
  cases h
 ·rw [h];simp only;rw [if_pos a]
theorem uP {w:World} {k o:Nat} {v:Value} (h:dX w k o=some v) (d:v.oneCell'=false):∃ b a,w.heap[k]? =some (.map b a)∧(wZ b)[o]? =some v:=by
 unfold dX at h
 split at h
 ·rename_i b a e;exact ⟨b,a,e,h⟩
 ·split at h
  ·split at h
   ·rename_i c;cases h;rw [d] at c;cases c
   ·cases h
  ·cases h
theorem JK {w:World} {k o:Nat} {v:Value} (h:dX w k o=some v):k<w.heap.size:=by
 cases a:v.oneCell' with
 |true=>exact World.block_lt_of_cell? w _ (uQ h a)
 |false=>
  obtain ⟨_,_,b,_⟩:=uP h a
  exact (Array.getElem?_eq_some_iff.1 b).1
structure Qc (g:dU) (m:bf) (S:aX) (w:World) (B:bi) (k c:Nat):Prop where
 lies:∃ cur e vs rest,jR w k B.esz cur e∧cur.toList=vs++rest∧(B.pr=true→dL S B.cells vs)∧bF g m S B.cells vs∧(B.esz ≠ jf→∀ u ∈ vs,u.oneCell'=true)∧(0<B.esz→B.esz ≠ jf→cur.size=c*B.esz∧c≤maxLen)
 fz0:B.fro=false→B.fz=0
 fzle:B.fz≤B.cells.length
structure b_ (ap:AP) (g:dU) (m:bf) (S:aX) (w:World):Prop where
 inj:∀ b b' B B',g b=some B→g b'=some B'→(m b).1=(m b').1→b=b'
 blk:∀ b B,g b=some B→Qc g m S w B (m b).1 (m b).2
 sealed:∀ k o v,S k o=some v→dX w k o=some v
 own:∀ b B,g b=some B→∀ o v,S (m b).1 o=some v→B.fro=true∧o<B.fz
 glob:lS ap S
structure Fr (g:dU) (m:bf) (S:aX) (w:World) (g':dU) (m':bf) (S':aX) (w':World):Prop where
 ge:Ge g m g' m'
 sle:mD S S'
 os:w'.os=w.os
 tape:w'.tape=w.tape
 output:w'.output=w.output
 size:w.heap.size≤w'.heap.size
 rest:∀ k,k<w.heap.size→(∀ b B,g b=some B→(m b).1 ≠ k)→w'.heap[k]? =w.heap[k]?
 img:∀ b B,g' b=some B→w.heap.size≤(m' b).1∨(∃ B0,g b=some B0∧(m' b).1=(m b).1)
 sealN:∀ k o v,S' k o=some v→S k o=some v∨w.heap.size≤k∨∃ b B,g b=some B∧(m b).1=k
theorem Fr.refl (g:dU) (m:bf) (S:aX) (w:World):Fr g m S w g m S w:=
 ⟨Ge.refl g m,mD.refl S,rfl,rfl,rfl,Nat.le_refl _,fun _ _ _=>rfl,fun _ B h=> .inr ⟨B,h,rfl⟩,fun _ _ _ h=> .inl h⟩
theorem Fr.trans {g g' j:dU} {m t i:bf} {S S' S'':aX} {w w' l:World} (h:Fr g m S w g' t S' w') (d:Fr g' t S' w' j i S'' l):Fr g m S w j i S'' l:=by
 refine ⟨h.ge.trans d.ge,h.sle.trans d.sle,d.os.trans h.os,d.tape.trans h.tape,d.output.trans h.output,Nat.le_trans h.size d.size, ?_, ?_, ?_⟩
 ·intro k s r
  rw [d.rest k (Nat.lt_of_lt_of_le s h.size) ?_,h.rest k s r]
  intro b B n e
  rcases h.img b B n with c|⟨B0,a,c⟩
  ·omega
  ·exact r b B0 a (c ▸ e)
 ·intro b B n
  rcases d.img b B n with c|⟨B0,a,c⟩
  ·exact .inl (Nat.le_trans h.size c)
  ·rcases h.img b B0 a with q|⟨B1,p,q⟩
   ·exact .inl (c ▸ q)
   ·exact .inr ⟨B1,p,c.trans q⟩
 ·intro k o v u
  rcases d.sealN k o v u with f|f|⟨b,B,n,f⟩
  ·exact h.sealN k o v f
  ·exact .inr (.inl (Nat.le_trans h.size f))
  ·rcases h.img b B n with c|⟨B0,a,c⟩
   ·exact .inr (.inl (f ▸ c))
   ·exact .inr (.inr ⟨b,B0,a,by rw [← f,c]⟩)
theorem b_.lt {ap:AP} {g:dU} {m:bf} {S:aX} {w:World} (h:b_ ap g m S w) {b:Nat} {B:bi} (a:g b=some B):(m b).1<w.heap.size:=by
 obtain ⟨cur,e,vs,rest,c,_⟩:=(h.blk b B a).lies
 exact c.lt
theorem b_.one {ap:AP} {g:dU} {m:bf} {S:aX} {w:World} (h:b_ ap g m S w) {k o:Nat} {v:Value} (a:S k o=some v) (b:v.oneCell'=true):w.cell? ⟨k,o,none⟩=some v:=uQ (h.sealed k o v a) b
theorem tV {w:World} {k j:Nat} {cur:Array Value} {e:TypeId} {a:Nat × Nat} (h:w.heap[k]? =some (.cells cur e a)):w.cell? ⟨k,j,none⟩=cur.toList[j]? :=by
 rw [cell_of_row w k j cur e a h];simp
theorem jR.get {w:World} {k z j:Nat} {cur:Array Value} {e:TypeId} {u:Value} (h:jR w k z cur e) (a:cur.toList[j]? =some u) (d:z ≠ jf→u.oneCell'=true):dX w k j=some u:=by
 rcases h with ⟨b,h⟩|⟨_,f,c,h,rfl⟩
 ·exact Ci (by rw [tV h];exact a) (d b)
 ·unfold dX;rw [h];simpa using a
theorem jc {a b:IntKind} (h:jE a b=true):a=b:=by cases a<;>cases b<;>first|rfl|(exact absurd h (by decide))
theorem aO {a b:Nat} (h:Nat.beq a b=true):a=b:=Nat.eq_of_beq_eq_true h
theorem gU {a b:Nat} (h:Nat.ble a b=true):a≤b:=Nat.le_of_ble_eq_true h
theorem gp {a b:Nat} (h:Nat.blt a b=true):a<b:=by
 have:Nat.ble (a+1) b=true:=h
 exact gU this
theorem aaM {S:aX} {x:AV} {v:Value} (h:PR S x v) (a:nK x=true):v.oneCell'=true:=by
 cases x<;>simp only [PR] at h<;>first
  |(subst h;rfl)
  |(rcases h with ⟨rfl,_⟩|⟨_,_,_,rfl,_⟩<;>rfl)
  |(obtain ⟨_,_,_,rfl,_⟩:=h;rfl)
  |(obtain ⟨_,_,rfl,_⟩:=h;rfl)
  |(obtain ⟨_,rfl,_⟩:=h;first|rfl|exact absurd a (by simp [nK]))
  |(exact absurd a (by simp [nK]))
theorem MH {g:dU} {m:bf} {S:aX} {x:AV} {v:Value} (h:VR g m S x v) (a:nK x=true):v.oneCell'=true:=by
 cases x<;>simp only [VR] at h<;>first
  | (exact aaM h a)
    |(obtain ⟨_,_,_,⟨_,_,rfl⟩,_⟩:=h;rfl)
  |(obtain ⟨_,_,_,⟨_,_,_,rfl⟩,_⟩:=h;rfl)
  |(obtain ⟨_,_,rfl,_⟩:=h;rfl)
  |(obtain ⟨_,rfl,_⟩:=h;first|rfl|exact absurd a (by simp [nK]))
  |(exact absurd a (by simp [nK]))
end AM
namespace AM
open Go
structure E8 (P:Program) (t:Nat) (ti:TI) (i:TypeInfo) (d:TypeDesc) (z:Value):Prop where
 info:P.info? t=some i
 und:P.underlying t=some d
 d_eq:ti.d=jK P (some d)
 size:ti.size=i.size
 bytes:ti.bytes=i.bytes
 zero:i.zero=some z
 zcells:ti.zero=z.cells.toList.map D5
 zleaf:∀ x ∈ ti.zero,nK x=true
 zsize:z.cells.size=i.size
 lks:ti.lks.length=i.size
 pos:0<i.size
 zagg:adG i d=true
 fld:Uj P d=true
 small:i.size<jf
theorem fA {P:Program} {ap:AP} (f:je P ap) {t:Nat} {j:TI} (h:ap.tyAt t=some j):∃ i d z,E8 P t j i d z:=by
 have a:=f.ty t j h
 unfold Wl at a
 cases b:P.info? t with
 |none=>simp [b] at a
 | some i=>
  cases e:P.underlying t with
  |none=>simp [b,e] at a
  | some d=>
   simp only [b,e] at a
   split at a
   ·rename_i l
    simp only [Bool.and_eq_true] at l
    obtain ⟨⟨⟨⟨⟨⟨u,k⟩,s⟩,o⟩,v⟩,q⟩,r⟩:=l
    cases c:i.zero with
    |none=>simp [c] at q
    | some z=>
     cases a
     have n:EZ i=z.cells.toList.map D5:=by simp [EZ,c]
     refine ⟨i,d,z,b,e,rfl,rfl,rfl,c,n, ?_, ?_,aO u,gp v,k.1,k.2,gp r⟩
     ·intro x p;exact List.all_eq_true.1 s x p
     ·have:=aO o
      rw [n] at this
      simpa using this
   ·cases a
theorem iF {P:Program} {d:TypeDesc} {e:Nat} (h:jK P (some d)= .slice e):d= .slice e:=by cases d<;>simp [jK] at h;subst h;rfl
theorem yK {P:Program} {d:TypeDesc} {n e:Nat} (h:jK P (some d)= .array n e):d= .array n e:=by cases d<;>simp [jK] at h;obtain ⟨rfl,rfl⟩:=h;rfl
theorem xq {P:Program} {d:TypeDesc} (h:jK P (some d)= .str):d= .string:=by cases d<;>simp [jK] at h;rfl
theorem Wi {P:Program} {d:TypeDesc} {k:IntKind} (h:jK P (some d)= .int k):d= .int k:=by cases d<;>simp [jK] at h;subst h;rfl
theorem Zu {P:Program} {d:TypeDesc} (h:jK P (some d)= .bool):d= .bool:=by cases d<;>simp [jK] at h;rfl
theorem vF {P:Program} {d:TypeDesc} {a:List (Nat × Nat × Nat)} (h:jK P (some d)= .struct a):
  ∃ fields:Array Field,d= .struct fields∧a=fields.toList.map fun f=>(f.offset,f.type,match P.info? f.type with|some i=>i.size|none=>0):=by
 cases d<;>simp [jK] at h
 exact ⟨_,rfl,h.symm⟩
theorem EN {P:Program} (d:TypeDesc):IL (jK P (some d))=d.isRow:=by cases d<;>simp [jK,IL,TypeDesc.isRow]
theorem FV (S:aX) (v:Value):PR S (IZ v) v:=by
 cases v<;>simp only [IZ,PR]
 case pointer a=>cases a<;>simp only [PR]
 case map a=>
  cases a with
  |none=>simp [PR]
  |some _=>simp only [PR]
 case slice a n c=>
  split<;>simp only [PR]
theorem JA (S:aX) (v:Value):PR S (D5 v) v:=by
 cases v<;>simp only [D5]<;>try exact FV S _
 case agg cs=>
  simp only [PR]
  refine ⟨cs.toList,by simp, ?_⟩
  induction cs.toList with
  |nil=>simp [dL]
  |cons c r ih=>simp only [List.map_cons,dL];exact ⟨FV S c,ih⟩
 case tuple vs=>
  split
  ·rename_i h
   simp only [PR]
   exact ⟨[],by rw [← h],by simp [dL]⟩
  ·simp only [PR]
theorem vT (S:aX):∀ l:List Value,dL S (l.map D5) l
 | []=>by simp [dL]
 |v::r=>by simp only [List.map_cons,dL];exact ⟨JA S v,vT S r⟩
theorem aaN {g:dU} {m:bf} {S:aX} {k:LK} {c:AV} {v:Value} (h:VR g m S c v) (f:gW k c=true):VR g m S (eta k c) v:=by
 cases k<;>cases c<;>simp [gW] at f<;>simp only [eta,AV.toInt,AV.toBool,AV.toStr,AV.slX,AV.slN]<;>try exact h
 ·rw [jc f];exact h
 ·simp only [VR,PR] at h ⊢
  subst h
  exact ⟨none,0,rfl,Nat.le_refl _,.inl ⟨rfl,trivial,trivial,trivial,rfl⟩⟩
 ·simp only [VR,PR] at h ⊢
  obtain ⟨a,b,e,d,q⟩:=h
  refine ⟨a,b,e,d, ?_⟩
  rcases q with ⟨l,_,i,j,n⟩|q
  ·exact .inl ⟨l,trivial,i,j,n⟩
  ·exact .inr q
theorem zT {k:LK} {c:AV} (h:gW k c=true):c ≠ .dead:=by intro e;subst e;cases k<;>simp [gW] at h
theorem getD_some {a:List AV} {i:Nat} (h:a.getD i .dead ≠ .dead):a[i]? =some (a.getD i .dead):=by
 rw [List.getD_eq_getElem?_getD] at h ⊢
 cases b:a[i]? with
 |none=>simp [b] at h
 |some x=>simp
theorem nH (b:List AV) (a:Nat):(b.drop a).headD .dead=b.getD a .dead:=by
 rw [List.headD_eq_head?_getD,List.head?_drop,List.getD_eq_getElem?_getD]
theorem Q9 (ty:Bool) (b:List AV) (a:Nat):yB ty [] b a= []:=rfl
theorem xf (ty:Bool) (k:LK) (ks:List LK) (b:List AV) (a:Nat):yB ty (k::ks) b a=(match ty with|true=>eta k (b.getD a .dead)|false=>b.getD a .dead)::yB ty ks b (a+1):=by
 show _::PH ty ks (b.drop a).tail=_::PH ty ks (b.drop (a+1))
 rw [List.tail_drop]
 cases ty<;>simp only [nH]
theorem Qm (ty:Bool) (k:LK) (ks:List LK) (b:List AV) (a:Nat):Ij ty (k::ks) b a=(match ty with|true=>gW k (b.getD a .dead)|false=>gW .oth (b.getD a .dead))::Ij ty ks b (a+1):=by
 show _::Tu ty ks (b.drop a).tail=_::Tu ty ks (b.drop (a+1))
 rw [List.tail_drop]
 cases ty<;>simp only [nH]
theorem oW {g:dU} {m:bf} {S:aX} (ty:Bool) {f:List AV} {vs:List Value} (l:bF g m S f vs):∀ (lks:List LK) (a:Nat),(∀ b ∈ Ij ty lks f a,b=true)→
  ∃ e:List Value,e.length=lks.length∧(∀ j u,e[j]? =some u→vs[a+j]? =some u)∧bF g m S (yB ty lks f a) e:=by
 intro lks
 induction lks with
 |nil=>exact fun a _=> ⟨[],rfl,fun _ _ h=>by simp at h,by simp [Q9,bF]⟩
 | cons k ks ih=>
  intro a h
  simp only [Qm,List.mem_cons,forall_eq_or_imp] at h
  obtain ⟨e,o,n,p⟩:=ih (a+1) h.2
  have key:∃ v,vs[a]? =some v∧VR g m S ((yB ty (k::ks) f a).headD .dead) v:=by
   rw [xf]
   cases ty with
   |true=>
    obtain ⟨v,d,c⟩:=qQ l a (getD_some (zT h.1))
    exact ⟨v,d,aaN c h.1⟩
   |false=>
    obtain ⟨v,d,c⟩:=qQ l a (getD_some (zT h.1))
    exact ⟨v,d,c⟩
  obtain ⟨v,d,c⟩:=key
  rw [xf] at c
  refine ⟨v::e,by simp [o], ?_, ?_⟩
  ·intro j u i
   cases j with
   |zero=>simp at i;subst i;simpa using d
   |succ j=>simp at i;rw [show a+(j+1)=a+1+j from by omega];exact n j u i
  ·simp only [xf,bF];exact ⟨c,p⟩
theorem DK {P:Program} {w:World} {t:Nat} {h:TI} {i:TypeInfo} {d:TypeDesc} {z:Value} (f:E8 P t h i d z) {g:dU} {m:bf} {S:aX} {o:List AV} {e:List Value} {k a:Nat}
  (hl:e.length=h.lks.length) (hu:∀ j u,e[j]? =some u→w.cell? ⟨k,a+j,none⟩=some u) (hr:bF g m S o e) {v:AV} (hv:qF h o=some v):
  ∃ cv,(loadVar t ⟨k,a,none⟩).run P w= .ok cv w∧VR g m S v cv:=by
 unfold qF at hv
 rw [f.d_eq,EN] at hv
 split at hv
 ·rename_i b
  cases hv
  refine ⟨.agg e.toArray,run_loadVar_mid w k a t e d hu f.und b (by simp [f.info,hl,f.lks]), ?_⟩
  simp only [VR];exact ⟨e,rfl,hr⟩
 ·rename_i b
  split at hv
  ·rename_i c
   cases hv
   cases e with
   |nil=>simp [bF] at hr
   | cons u r=>
    simp only [bF] at hr
    refine ⟨u, ?_,hr.1⟩
    have l:(isAgg t).run P w= .ok false w:=by
     unfold isAgg;rw [Sem.run_bind,run_underlying f.und w]
     cases d<;>simp_all [TypeDesc.isRow]
    have n:=hu 0 u rfl
    simp only [Nat.add_zero] at n
    simp [loadVar,l,n]
  ·cases hv
theorem bind_some {α β:Type} {x:Option α} {f:α→Option β} {b:β} (h:x.bind f=some b):∃ a,x=some a∧f a=some b:=by
 cases x with
 |none=>simp at h
 |some a=>exact ⟨a,rfl,h⟩
theorem aU {v b:AV} {bs a:List Bool} {ups:List (Nat × bi)} (h:bH v bs=some (b,ups,a)):b=v∧ups= []∧a=bs:=by
 unfold bH at h;cases h;exact ⟨rfl,rfl,rfl⟩
section
variable {P:Program} {ap:AP} {g:dU} {m:bf} {S:aX} {w:World}
theorem zZ (M:b_ ap g m S w) {rd:dU} (y:∀ b B,rd b=some B→g b=some B) {t:Nat} {x:TI} {i:TypeInfo} {d:TypeDesc} {z:Value} (K:E8 P t x i d z)
  {p v:AV} {cp:Value} (hp:VR g m S p cp) {ups:List (Nat × bi)} {bs:List Bool} (h:KH x rd p=some (v,ups,bs)) (hbs:∀ b ∈ bs,b=true):
  ups= []∧∃ cv,(Instr.loadAt t cp).run P w= .ok cv w∧VR g m S v cv:=by
 unfold KH at h
 split at h
 ·rename_i T f
  obtain ⟨R,l,h⟩:=bind_some h
  obtain ⟨rfl,rfl,rfl⟩:=aU h
  simp only [VR,PR] at hp
  obtain ⟨b,o,vs,rfl,hp,hs⟩:=hp
  obtain ⟨Q,D,C,H⟩:=oW (g:=g) (m:=m) true (bW _ hp) x.lks f hbs
  obtain ⟨cv,A,I⟩:=DK (w:=w) K (k:=b) (a:=o+f) D (fun j u G=>by
   have L:=hs (f+j) u (C j u G);have:=M.one L.1 L.2;rw [Nat.add_assoc];exact this) H l
  exact ⟨rfl,cv,by simpa [Instr.loadAt,Instr.sureAddr] using A,I⟩
 ·rename_i b ver f
  obtain ⟨B,N,h⟩:=bind_some h
  split at h
  ·rename_i c
   obtain ⟨R,l,h⟩:=bind_some h
   obtain ⟨rfl,rfl,rfl⟩:=aU h
   simp only [VR] at hp
   obtain ⟨B',n,_,_,q⟩:=hp
   have r:=y b B N
   rw [r] at n;cases n
   simp only [Bool.and_eq_true,Bool.not_eq_true'] at c
   have J:B.esz ≠ jf:=fun e=>by rw [e] at c;exact absurd c.2 (by decide)
   have q:=q (aO c.1)
   subst q
   obtain ⟨cur,e,vs,rest,F,O,_,E,_⟩:=(M.blk b B r).lies
   have F:=F.cells J
   obtain ⟨Q,D,C,H⟩:=oW _ E x.lks f hbs
   obtain ⟨cv,A,I⟩:=DK (w:=w) K (k:=(m b).1) (a:=f) D (fun j u G=>by
    have s:=C j u G
    rw [tV F,O,List.getElem?_append_left (List.getElem?_eq_some_iff.1 s).1]
    exact s) H l
   exact ⟨rfl,cv,by simpa [Instr.loadAt,Instr.sureAddr] using A,I⟩
  ·cases h
 ·cases h
theorem D6 {p f:AV} {d:Value} (hp:VR g m S p d) {o:Nat} (h:Vh p o=some f):∃ a:Addr,d= .pointer (some a)∧VR g m S f (.pointer (some (a.add o))):=by
 unfold Vh at h
 split at h<;>cases h
 ·rename_i b ver c
  simp only [VR] at hp
  obtain ⟨B,r,n,⟨k,i,rfl⟩,q⟩:=hp
  refine ⟨_,rfl, ?_⟩
  simp only [VR]
  refine ⟨B,r,n,⟨k,i+o,by rw [Addr.add_mid]⟩,fun e=> ?_⟩
  have q:=q e
  simp only [Value.pointer.injEq,Option.some.injEq,Addr.mk.injEq] at q
  obtain ⟨l,j,_⟩:=q
  rw [Addr.add_mid,l,j]
 ·rename_i s c
  simp only [VR,PR] at hp
  obtain ⟨b,k,vs,rfl,hp,hs⟩:=hp
  refine ⟨_,rfl, ?_⟩
  simp only [VR,PR]
  exact ⟨b,k,vs,by rw [Addr.add_mid,Nat.add_assoc],hp,hs⟩
end
end AM
namespace AM
open Go
section
variable {P:Program} {ap:AP} {g:dU} {m:bf} {S:aX} {w:World}
theorem dA {b:Bool} {l:List Bool} (h:∀ x ∈ b::l,x=true):b=true∧∀ x ∈ l,x=true:=⟨h b (by simp),fun x a=>h x (by simp [a])⟩
theorem kL {t:Nat} {b:TI} {i:TypeInfo} {d:TypeDesc} {z:Value} (a:E8 P t b i d z) (w:World):(Go.sizeOf t).run P w= .ok b.size w:=by
 simp [Go.sizeOf,typeInfo,a.info,a.size]
theorem zX {x:AV} {a:Value} (b:VR g m S x a) {n:Int} (h:O7 x=some n):∃ k,a= .int k n:=by
 cases x<;>simp [O7] at h
 subst h
 simp only [VR,PR] at b
 exact ⟨_,b⟩
theorem AB {t:Nat} {s:TI} {i:TypeInfo} {d:TypeDesc} {z:Value} (n:E8 P t s i d z) {r:List (Nat × Nat × Nat)} (q:s.d= .struct r) {f o B y:Nat} (l:r[f]? =some (o,B,y)) (b:Nat.blt 0 y=true)
  {p v:AV} {cp:Value} (hp:VR g m S p cp) (k:Vh p o=some v):∃ cv,(Instr.fieldAt t cp f).run P w= .ok cv w∧VR g m S v cv:=by
 rw [n.d_eq] at q
 obtain ⟨fields,rfl,rfl⟩:=vF q
 simp only [List.getElem?_map,Option.map_eq_some_iff] at l
 obtain ⟨x,e,u⟩:=l
 simp only [Prod.mk.injEq] at u
 obtain ⟨rfl,rfl,hs⟩:=u
 obtain ⟨a,rfl,k⟩:=D6 hp k
 refine ⟨_, ?_,k⟩
 have c:fields[f]? =some x:=by simpa using e
 cases h:P.info? x.type with
 |none=>rw [h] at hs;simp only at hs;subst hs;exact absurd (gp b) (by omega)
 |some j=>
  rw [h] at hs
  have A:j.size ≠ 0:=by have:=gp b;simp only at hs;omega
  simp [Instr.fieldAt,run_underlying n.und,c,Instr.sureAddr,fieldPlace,Go.sizeOf,typeInfo,h,A]
theorem nN {i:Int} {n:Nat} (h0:decide (0≤i)=true) (c:decide (i<n)=true):0≤i∧i<n∧i.toNat<n:=by
 have a:=of_decide_eq_true h0
 have b:=of_decide_eq_true c
 omega
theorem yZ (D:je P ap) {rd:dU} (F:∀ b B,rd b=some B→g b=some B) {t:Nat} {J:TI} {i:TypeInfo} {d:TypeDesc} {z:Value} (C:E8 P t J i d z)
  {x ix v:AV} {cx ci:Value} (hx:VR g m S x cx) (hi:VR g m S ix ci) {ups:List (Nat × bi)} {bs:List Bool} (h:wW ap J rd x ix=some (v,ups,bs)) (hbs:∀ b ∈ bs,b=true):
  ups= []∧∃ cv,(Instr.indexAt t cx ci).run P w= .ok cv w∧VR g m S v cv:=by
 unfold wW at h
 have r:=bind_some h;clear h;obtain ⟨n,M,h⟩:=r
 obtain ⟨k,rfl⟩:=zX hi M
 split at h
 ·rename_i e l
  have r:=bind_some h;clear h;obtain ⟨H,c,h⟩:=r
  obtain ⟨N,R,U,c⟩:=fA D c
  rw [C.d_eq] at l
  have l:=iF l
  subst l
  split at h
  ·rename_i X u nn
   obtain ⟨rfl,rfl,rfl⟩:=aU h
   obtain ⟨s,f⟩:=dA hbs
   obtain ⟨f,_⟩:=dA f
   obtain ⟨h0,y,L⟩:=nN s f
   simp only [VR,PR] at hx
   obtain ⟨a,W,rfl,V,q⟩:=hx
   rcases q with ⟨_,_,_,q,_⟩|⟨b,o,vs,rfl,hp,hs⟩
   ·subst q;omega
   ·refine ⟨rfl,.pointer (some ⟨b,o+n.toNat*H.size,none⟩), ?_, ?_⟩
    ·simp [Instr.indexAt,asIntOf,run_underlying C.und,h0,y,kL c,Addr.add_mid]
    ·simp only [VR,PR];exact ⟨b,o,vs,rfl,hp,hs⟩
  ·rename_i b ver j u
   have r:=bind_some h;clear h;obtain ⟨B,Q,h⟩:=r
   split at h
   ·rename_i E
    simp only [Bool.and_eq_true] at E
    obtain ⟨rfl,rfl,rfl⟩:=aU h
    obtain ⟨s,f⟩:=dA hbs
    obtain ⟨f,_⟩:=dA f
    obtain ⟨h0,y,L⟩:=nN s f
    simp only [VR] at hx
    obtain ⟨B',A,I,_,q⟩:=hx
    have K:=F b B Q
    rw [K] at A;cases A
    obtain ⟨o,rfl,Z,T,Y⟩:=q (aO E.1)
    have O:=T (by omega)
    have G:=aO E.2
    refine ⟨rfl,.pointer (some ⟨(m b).1,(j+n.toNat)*H.size,none⟩), ?_, ?_⟩
    ·rw [O,G]
     simp [Instr.indexAt,asIntOf,run_underlying C.und,h0,y,kL c,Addr.add_mid,Nat.add_mul]
    ·simp only [VR];exact ⟨B,K,by have:=aO E.1;omega,⟨_,_,rfl⟩,fun _=>trivial⟩
   ·cases h
  ·cases h
 ·rename_i u e l
  have r:=bind_some h;clear h;obtain ⟨H,c,h⟩:=r
  obtain ⟨N,R,U,c⟩:=fA D c
  have r:=bind_some h;clear h;obtain ⟨p,hp,h⟩:=r
  obtain ⟨rfl,rfl,rfl⟩:=aU h
  rw [C.d_eq] at l
  have l:=yK l
  subst l
  obtain ⟨s,f⟩:=dA hbs
  obtain ⟨f,_⟩:=dA f
  obtain ⟨h0,y,L⟩:=nN s f
  obtain ⟨a,rfl,I⟩:=D6 hx hp
  refine ⟨rfl,_, ?_,I⟩
  simp [Instr.indexAt,asIntOf,run_underlying C.und,h0,y,kL c,Instr.sureAddr]
 ·cases h
theorem D_ {t:Nat} {h:TI} {i:TypeInfo} {d:TypeDesc} {z:Value} (f:E8 P t h i d z) {vs b:List Value} {o:List AV} {e:Nat}
  (hl:b.length=h.lks.length) (hu:∀ j u,b[j]? =some u→vs[e+j]? =some u) (hr:bF g m S o b) {v:AV} (hv:qF h o=some v):
  ∃ cv,(part t vs.toArray e).run P w= .ok cv w∧VR g m S v cv:=by
 have l:(isAgg t).run P w= .ok d.isRow w:=by
  unfold isAgg;rw [Sem.run_bind,run_underlying f.und w]
  cases d<;>simp [TypeDesc.isRow]
 unfold qF at hv
 rw [f.d_eq,EN] at hv
 split at hv
 ·rename_i a
  cases hv
  have s:(vs.drop e).take h.size=b:=by
   apply List.ext_getElem?
   intro j
   rw [List.getElem?_take,List.getElem?_drop]
   have p:h.size=b.length:=by rw [hl,f.lks,f.size]
   split
   ·rename_i q
    have k:j<b.length:=by omega
    have:=hu j b[j] (List.getElem?_eq_getElem k)
    rw [this,List.getElem?_eq_getElem k]
   ·rename_i q
    rw [List.getElem?_eq_none (by omega)]
  refine ⟨.agg b.toArray, ?_, ?_⟩
  ·simp [part,l,a,kL f,s]
  ·simp only [VR];exact ⟨b,rfl,hr⟩
 ·rename_i a
  split at hv
  ·rename_i c
   cases hv
   cases b with
   |nil=>simp [bF] at hr
   |cons u r=>
    simp only [bF] at hr
    refine ⟨u, ?_,hr.1⟩
    have n:=hu 0 u rfl
    simp only [Nat.add_zero] at n
    have a:d.isRow=false:=by simpa using a
    simp [part,l,a,n]
  ·cases hv
theorem IB (n:je P ap) {t:Nat} {q:TI} {i:TypeInfo} {d:TypeDesc} {z:Value} (u:E8 P t q i d z) {x v:AV} {y:Value} (j:VR g m S x y) {f:Nat} {ups:List (Nat × bi)} {bs:List Bool}
  (h:Nr ap q x f=some (v,ups,bs)) (hbs:∀ b ∈ bs,b=true):ups= []∧∃ cv,(Instr.field t y f).run P w= .ok cv w∧VR g m S v cv:=by
 unfold Nr at h
 split at h
 ·rename_i H N A
  have c:=bind_some h;clear h;obtain ⟨⟨o,L,J⟩,s,h⟩:=c
  have c:=bind_some h;clear h;obtain ⟨tf,a,h⟩:=c
  have c:=bind_some h;clear h;obtain ⟨O,l,h⟩:=c
  obtain ⟨rfl,rfl,rfl⟩:=aU h
  obtain ⟨G,I,K,a⟩:=fA n a
  rw [u.d_eq] at A
  obtain ⟨fields,rfl,rfl⟩:=vF A
  simp only [List.getElem?_map,Option.map_eq_some_iff] at s
  obtain ⟨r,k,p⟩:=s
  simp only [Prod.mk.injEq] at p
  obtain ⟨rfl,rfl,hs⟩:=p
  simp only [VR] at j
  obtain ⟨vs,rfl,j⟩:=j
  obtain ⟨M,D,C,E⟩:=oW false j tf.lks r.offset hbs
  obtain ⟨cv,B,F⟩:=D_ (w:=w) a D C E l
  have e:fields[f]? =some r:=by simpa using k
  refine ⟨rfl,cv, ?_,F⟩
  simp [Instr.field,run_underlying u.und,e,asAgg,B]
 ·cases h
theorem Um (s:List UInt8) (i:Nat) (h:i<s.length):(⟨s.toArray⟩:ByteArray)[i]? =some (s.getD i 0):=by
 have hs:i<(⟨s.toArray⟩:ByteArray).size:=by simpa [ByteArray.size] using h
 rw [getElem?_pos _ i hs]
 simp only [ByteArray.getElem_eq_getElem_data,List.getElem_toArray]
 rw [List.getD_eq_getElem?_getD,List.getElem?_eq_getElem h]
 rfl
theorem IJ (y:je P ap) {t:Nat} {A:TI} {i:TypeInfo} {d:TypeDesc} {z:Value} (o:E8 P t A i d z) {x C v:AV} {D ci:Value} (j:VR g m S x D) (H:VR g m S C ci) {ups:List (Nat × bi)} {bs:List Bool}
  (h:Nz ap A x C=some (v,ups,bs)) (hbs:∀ b ∈ bs,b=true):ups= []∧∃ cv,(Instr.index t D ci).run P w= .ok cv w∧VR g m S v cv:=by
 unfold Nz at h
 have l:=bind_some h;clear h;obtain ⟨n,G,h⟩:=l
 obtain ⟨k,rfl⟩:=zX H G
 split at h
 ·rename_i s a
  obtain ⟨rfl,rfl,rfl⟩:=aU h
  obtain ⟨q,f⟩:=dA hbs
  obtain ⟨f,_⟩:=dA f
  obtain ⟨h0,B,F⟩:=nN q f
  rw [o.d_eq] at a
  have a:=xq a
  subst a
  simp only [VR,PR] at j
  subst j
  refine ⟨rfl,.int .u8 (s.getD n.toNat 0).toNat, ?_,by simp only [VR,PR]⟩
  simp [Instr.index,asIntOf,run_underlying o.und,h0,Um s n.toNat F]
 ·rename_i I e T a
  have l:=bind_some h;clear h;obtain ⟨E,c,h⟩:=l
  have l:=bind_some h;clear h;obtain ⟨U,r,h⟩:=l
  obtain ⟨rfl,rfl,rfl⟩:=aU h
  obtain ⟨N,O,Q,c⟩:=fA y c
  obtain ⟨q,f⟩:=dA hbs
  obtain ⟨f,J⟩:=dA f
  obtain ⟨h0,B,F⟩:=nN q f
  rw [o.d_eq] at a
  have a:=yK a
  subst a
  simp only [VR] at j
  obtain ⟨vs,rfl,j⟩:=j
  obtain ⟨R,L,K,M⟩:=oW true j E.lks (n.toNat*E.size) J
  obtain ⟨cv,u,p⟩:=D_ (w:=w) c L K M r
  refine ⟨rfl,cv, ?_,p⟩
  simp [Instr.index,asIntOf,run_underlying o.und,h0,B,kL c,u]
 ·cases h
end
end AM
namespace AM
open Go
section
variable {P:Program} {ap:AP} {g:dU} {m:bf} {S:aX} {w:World}
def BL (g:dU) (m:bf) (S:aX) (x:Option AV) (c:Option Value):Prop:=
 match x,c with
 |none,none=>True
 |some x,some c=>VR g m S x c
 |_,_=>False
theorem iD {x:Option AV} {c:Option Value} (h:BL g m S x c) {d n:Int} (a:nP x d=some n):(x=none∧c=none∧n=d)∨∃ k,c=some (.int k n):=by
 cases x with
 |none=>cases c with
  |none=>simp [nP] at a;exact .inl ⟨rfl,rfl,a.symm⟩
  |some c=>simp [BL] at h
 | some x=>cases c with
  |none=>simp [BL] at h
  |some c=>
   cases x<;>simp [nP] at a
   subst a
   simp only [BL,VR,PR] at h
   subst h
   exact .inr ⟨_,rfl⟩
theorem rQ (P:Program) (w:World) (c:Bool) (b a:Nat) (f d:Option Value) (l h:Int)
  (hl:(f=none∧l=0)∨∃ k,f=some (.int k l)) (j:(d=none∧h=b)∨∃ k,d=some (.int k h)) (h0:0≤l) (h1:l≤h) (h2:h≤a):
  (Instr.sliceBounds c b a f d none).run P w= .ok (l.toNat,h.toNat,a) w:=by
 have i:0≤h:=by omega
 rcases hl with ⟨rfl,rfl⟩|⟨k,rfl⟩<;>rcases j with ⟨rfl,rfl⟩|⟨o,rfl⟩
 ·simp [Instr.sliceBounds]
 ·simp [Instr.sliceBounds,Instr.sliceBound,asIntOf,h2,i]
 ·have e:l≤(b:Int):=h1
  simp [Instr.sliceBounds,Instr.sliceBound,asIntOf,h0,e]
 ·simp [Instr.sliceBounds,Instr.sliceBound,asIntOf,h0,h2,i]
  intro n;omega
theorem J_ (s:List UInt8) (l h:Nat):(⟨s.toArray⟩:ByteArray).extract l h=⟨((s.take h).drop l).toArray⟩:=by
 apply ByteArray.ext
 rw [ByteArray.data_extract]
 apply Array.ext'
 simp [List.extract_eq_take_drop,List.drop_take]
theorem yH (s:List UInt8):(⟨s.toArray⟩:ByteArray).size=s.length:=by simp [ByteArray.size]
theorem kS.drop {b o:Nat} {vs:List Value} (h:kS S b o vs) (n:Nat):kS S b (o+n) (vs.drop n):=by
 intro j u a
 rw [List.getElem?_drop] at a
 rw [Nat.add_assoc]
 exact h _ _ a
theorem kS.take {b o:Nat} {vs:List Value} (h:kS S b o vs) (n:Nat):kS S b o (vs.take n):=by
 intro j u a
 rw [List.getElem?_take] at a
 split at a
 ·exact h _ _ a
 ·cases a
theorem aaO {a b c:Bool} (h:∀ x ∈ [a,b,c],x=true):a=true∧b=true∧c=true:=⟨h a (by simp),h b (by simp),h c (by simp)⟩
theorem FD {α:Type} (a:List α) (n:Nat):(a.take n).drop n= []:=by
 apply List.drop_eq_nil_of_le;simp;omega
theorem Jh (I:je P ap) {rd:dU} (L:∀ b B,rd b=some B→g b=some B) {t:Nat} {O:TI} {i:TypeInfo} {d:TypeDesc} {z:Value} (E:E8 P t O i d z)
  {x v:AV} {cx:Value} (hx:VR g m S x cx) {lo hi mx:Option AV} {clo chi cmx:Option Value} (hlo:BL g m S lo clo) (hhi:BL g m S hi chi) (hmx:BL g m S mx cmx)
  {ups:List (Nat × bi)} {bs:List Bool} (h:Oo ap O rd x lo hi mx=some (v,ups,bs)) (hbs:∀ b ∈ bs,b=true):
  ups= []∧∃ cv,(Instr.sliceAt t cx clo chi cmx).run P w= .ok cv w∧VR g m S v cv:=by
 have p:mx=none→cmx=none:=by intro e;subst e;cases cmx<;>simp [BL] at hmx ⊢
 unfold Oo at h
 split at h
 ·rename_i s k
  have c:=bind_some h;clear h;obtain ⟨l,H,h⟩:=c
  have c:=bind_some h;clear h;obtain ⟨u,G,h⟩:=c
  obtain ⟨rfl,rfl,rfl⟩:=aU h
  obtain ⟨r,y,C⟩:=aaO hbs
  have r:=of_decide_eq_true r
  have y:=of_decide_eq_true y
  have C:=of_decide_eq_true C
  rw [E.d_eq] at k
  have k:=xq k
  subst k
  simp only [VR,PR] at hx
  subst hx
  rw [p rfl]
  have F:=rQ P w false s.length s.length clo chi l u ((iD hlo H).imp (fun h=> ⟨h.2.1,h.2.2⟩) id) ((iD hhi G).imp (fun h=> ⟨h.2.1,h.2.2⟩) id) r y C
  refine ⟨rfl,.string ⟨((s.take u.toNat).drop l.toNat).toArray⟩, ?_,by simp only [VR,PR]⟩
  rw [← J_]
  simp [Instr.sliceAt,Instr.slice,run_underlying E.und,yH,F]
 ·rename_i e Y n nn k
  have c:=bind_some h;clear h;obtain ⟨A,f,h⟩:=c
  have c:=bind_some h;clear h;obtain ⟨l,H,h⟩:=c
  have c:=bind_some h;clear h;obtain ⟨u,G,h⟩:=c
  obtain ⟨rfl,rfl,rfl⟩:=aU h
  obtain ⟨N,Q,T,f⟩:=fA I f
  obtain ⟨r,y,C⟩:=aaO hbs
  have r:=of_decide_eq_true r
  have y:=of_decide_eq_true y
  have C:=of_decide_eq_true C
  rw [E.d_eq] at k
  have k:=iF k
  subst k
  simp only [VR,PR] at hx
  obtain ⟨a,D,rfl,hle,q⟩:=hx
  rw [p rfl]
  have F:=rQ P w true n D clo chi l u ((iD hlo H).imp (fun h=> ⟨h.2.1,h.2.2⟩) id) ((iD hhi G).imp (fun h=> ⟨h.2.1,h.2.2⟩) id) r y (by omega)
  refine ⟨rfl,.slice (if D=l.toNat then a else a.map (·.add (l.toNat*A.size))) (u.toNat - l.toNat) (D - l.toNat), ?_, ?_⟩
  ·simp [Instr.sliceAt,Instr.slice,run_underlying E.und,F,kL f]
  ·simp only [VR,PR]
   refine ⟨_,_,rfl,by omega, ?_⟩
   rcases q with ⟨rfl,U,rfl,rfl,rfl⟩|⟨b,o,vs,rfl,hp,hs⟩
   ·refine .inl ⟨by simp,U,by simp,by omega,by omega⟩
   ·refine .inr ?_
    by_cases J:D=l.toNat
    ·refine ⟨b,o,[],by rw [if_pos J], ?_,fun j u h=>by simp at h⟩
     have e:(Y.take (u.toNat*A.size)).drop (l.toNat*A.size)= []:=by
      have:u.toNat=l.toNat:=by omega
      rw [this,FD]
     rw [e];simp [dL]
    ·exact ⟨b,o+l.toNat*A.size,(vs.take (u.toNat*A.size)).drop (l.toNat*A.size),by rw [if_neg J];simp [Addr.add_mid],p_ _ (kR _ hp),(hs.take _).drop _⟩
 ·rename_i e b ver j n k
  have c:=bind_some h;clear h;obtain ⟨A,f,h⟩:=c
  have c:=bind_some h;clear h;obtain ⟨B,X,h⟩:=c
  have c:=bind_some h;clear h;obtain ⟨l,H,h⟩:=c
  have c:=bind_some h;clear h;obtain ⟨u,G,h⟩:=c
  split at h
  ·rename_i J
   simp only [Bool.and_eq_true] at J
   obtain ⟨rfl,rfl,rfl⟩:=aU h
   obtain ⟨N,Q,T,f⟩:=fA I f
   obtain ⟨r,y,C⟩:=aaO hbs
   have r:=of_decide_eq_true r
   have y:=of_decide_eq_true y
   have C:=of_decide_eq_true C
   rw [E.d_eq] at k
   have k:=iF k
   subst k
   simp only [VR] at hx
   obtain ⟨B',K,W,_,q⟩:=hx
   have V:=L b B X
   rw [V] at K;cases K
   obtain ⟨o,rfl,U,Z,R⟩:=q (aO J.1)
   have M:=aO J.2
   rw [p rfl]
   have F:=rQ P w true n ((m b).2 - j) clo chi l u ((iD hlo H).imp (fun h=> ⟨h.2.1,h.2.2⟩) id) ((iD hhi G).imp (fun h=> ⟨h.2.1,h.2.2⟩) id) r y (by omega)
   refine ⟨rfl,.slice (if (m b).2 - j=l.toNat then some ⟨(m b).1,o,none⟩ else some ⟨(m b).1,o+l.toNat*A.size,none⟩) (u.toNat - l.toNat) ((m b).2 - j - l.toNat), ?_, ?_⟩
   ·simp [Instr.sliceAt,Instr.slice,run_underlying E.und,F,kL f,Addr.add_mid]
   ·simp only [VR]
    refine ⟨B,V,W,(by split<;>exact ⟨_,_,_,rfl⟩),fun _=> ?_⟩
    by_cases hcl:(m b).2 - j=l.toNat
    ·exact ⟨o,by rw [if_pos hcl];congr 1;omega,by omega,fun h=>by omega,R⟩
    ·refine ⟨o+l.toNat*A.size,by rw [if_neg hcl];congr 1;omega,by omega,fun h=> ?_,R⟩
     rw [Z (by omega),M,Nat.add_mul]
  ·cases h
 ·rename_i e k
  have c:=bind_some h;clear h;obtain ⟨A,f,h⟩:=c
  have c:=bind_some h;clear h;obtain ⟨l,H,h⟩:=c
  have c:=bind_some h;clear h;obtain ⟨u,G,h⟩:=c
  obtain ⟨rfl,rfl,rfl⟩:=aU h
  obtain ⟨N,Q,T,f⟩:=fA I f
  have r:=of_decide_eq_true (hbs (decide (l=0)) (by simp))
  have y:=of_decide_eq_true (hbs (decide (u=0)) (by simp))
  subst r
  subst y
  rw [E.d_eq] at k
  have k:=iF k
  subst k
  simp only [VR,PR] at hx
  subst hx
  rw [p rfl]
  have F:=rQ P w true 0 0 clo chi 0 0 ((iD hlo H).imp (fun h=> ⟨h.2.1,h.2.2⟩) id) ((iD hhi G).imp (fun h=> ⟨h.2.1,h.2.2⟩) id) (by omega) (by omega) (by omega)
  refine ⟨rfl,.slice none 0 0, ?_,by simp only [VR,PR]⟩
  simp at F
  simp [Instr.sliceAt,Instr.slice,run_underlying E.und,F,kL f]
 ·cases h
theorem NK {x v:AV} {o:Value} (f:VR g m S x o) {t:Nat} {p:TI} {i:TypeInfo} {d:TypeDesc} {z:Value} (k:E8 P t p i d z)
  {ups:List (Nat × bi)} {bs:List Bool} (h:UK p.d x=some (v,ups,bs)) (ats:Array TypeId) (hat:ats[0]? =some t) (args:Array Value) (ha:args[0]? =some o) (ty:Nat):
  ups= []∧∃ cv,(Builtin.len_ ats ty args).run P w= .ok cv w∧VR g m S v cv:=by
 unfold UK at h
 rw [k.d_eq] at h
 split at h
 ·rename_i n e c
  obtain ⟨rfl,rfl,rfl⟩:=aU h
  have c:=yK c
  subst c
  exact ⟨rfl,.int .i64 n,by simp [Builtin.len_,hat,ha,run_underlying k.und,goInt],by simp only [VR,PR]⟩
 ·rename_i s c
  obtain ⟨rfl,rfl,rfl⟩:=aU h
  have c:=xq c
  subst c
  simp only [VR,PR] at f
  subst f
  exact ⟨rfl,.int .i64 s.length,by simp [Builtin.len_,hat,ha,run_underlying k.und,goInt,yH],by simp only [VR,PR]⟩
 ·rename_i e q n r c
  obtain ⟨rfl,rfl,rfl⟩:=aU h
  have c:=iF c
  subst c
  simp only [VR,PR] at f
  obtain ⟨a,l,rfl,_⟩:=f
  exact ⟨rfl,.int .i64 n,by simp [Builtin.len_,hat,ha,run_underlying k.und,goInt],by simp only [VR,PR]⟩
 ·rename_i e b ver j n c
  obtain ⟨rfl,rfl,rfl⟩:=aU h
  have c:=iF c
  subst c
  simp only [VR] at f
  obtain ⟨_,_,_,⟨_,_,l,rfl⟩,_⟩:=f
  exact ⟨rfl,.int .i64 n,by simp [Builtin.len_,hat,ha,run_underlying k.und,goInt],by simp only [VR,PR]⟩
 ·rename_i e c
  obtain ⟨rfl,rfl,rfl⟩:=aU h
  have c:=iF c
  subst c
  simp only [VR,PR] at f
  subst f
  exact ⟨rfl,.int .i64 0,by simp [Builtin.len_,hat,ha,run_underlying k.und,goInt],by simp only [VR,PR]⟩
 ·cases h
theorem EP (s:List UInt8):(⟨s.toArray⟩:ByteArray).toList=s:=by rw [ByteArray.toList_eq]
theorem xI:∀ a b:List UInt8,Op.bytesLess a b=iO a b
 |_,[]=>by simp [Op.bytesLess,iO]
 | [],_::_=>by simp [Op.bytesLess,iO]
 |a::x,b::y=>by simp only [Op.bytesLess,iO,xI x y]
def Gu:LK→Value→Value→Option Bool
 | .int k,.int k1 a,.int k2 b=>match jE k k1 && jE k k2 with|true=>some (a==b)|false=>none
 | .bool,.bool a,.bool b=>some (a==b)
 | .str,.string a,.string b=>some (a.toList==b.toList)
 |_,_,_=>none
def h_:List LK→List Value→List Value→Option Bool
 | [],[],[]=>some true
 |k::ks,a::as,b::bs=>(Gu k a b).bind fun c=>(h_ ks as bs).map fun d=>c && d
 |_,_,_=>none
theorem xY:∀ (l e:List LK) (f i:List Value) (r:Bool),h_ (l++e) f i=some r→
  ∃ a b,h_ l (f.take l.length) (i.take l.length)=some a∧h_ e (f.drop l.length) (i.drop l.length)=some b∧r=(a && b)
 | [],e,f,i,r,h=> ⟨true,r,by simp [h_],by simpa using h,by simp⟩
 |k::l,e,[],_,r,h=>by simp [h_] at h
 |k::l,e,_::_,[],r,h=>by simp [h_] at h
 |k::l,e,x::f,y::i,r,h=>by
  simp only [List.cons_append,h_] at h
  obtain ⟨c,j,h⟩:=bind_some h
  rw [Option.map_eq_some_iff] at h
  obtain ⟨d,p,rfl⟩:=h
  obtain ⟨a,b,o,n,rfl⟩:=xY l e f i d p
  exact ⟨c && a,b,by simp [h_,j,o],by simpa using n,by simp [Bool.and_assoc]⟩
theorem v_:∀ (l:List LK) (a b:List Value) (r:Bool),h_ l a b=some r→a.length=l.length∧b.length=l.length
 | [],[],[],_,_=> ⟨rfl,rfl⟩
 |k::l,x::a,y::b,r,h=>by
  simp only [h_] at h
  obtain ⟨c,_,h⟩:=bind_some h
  rw [Option.map_eq_some_iff] at h
  obtain ⟨d,e,_⟩:=h
  have:=v_ l a b d e
  simp [this.1,this.2]
 | [],_::_,_,_,h=>by simp [h_] at h
 | [],[],_::_,_,h=>by simp [h_] at h
 |_::_,[],_,_,h=>by simp [h_] at h
 |_::_,_::_,[],_,h=>by simp [h_] at h
def Ap (P:Program) (t:TypeId) (xs:List Value):Value:=match P.underlying t with
 |some (.struct _)=> .agg xs.toArray
 |_=>xs.headD undef
def sD (P:Program) (n:Nat) (t:TypeId) (lks:List LK):Prop:=
 ∀ (d:Nat) (w:World) (xs ys:List Value) (r:Bool),n≤d→h_ lks xs ys=some r→(Op.equalIn d t (Ap P t xs) (Ap P t ys)).run P w= .ok r w
theorem Ak {t:TypeId} {lks:List LK} {n:Nat} (h:qi P n t=some lks) {i:TypeInfo} (j:P.info? t=some i) (hs:i.size=lks.length) (b:List Value) (a:Nat) (k:a+lks.length≤b.length) (w:World):
  (part t b.toArray a).run P w= .ok (Ap P t ((b.drop a).take lks.length)) w:=by
 cases n with
 |zero=>simp [qi] at h
 | succ n=>
  unfold qi at h
  cases f:P.underlying t with
  |none=>simp [f] at h
  | some d=>
   have c:(isAgg t).run P w= .ok d.isRow w:=by
    unfold isAgg;rw [Sem.run_bind,run_underlying f w]
    cases d<;>simp [TypeDesc.isRow]
   cases d<;>simp only [f] at h<;>try cases h
   case struct fs=>
    simp only [TypeDesc.isRow] at c
    simp [part,c,Go.sizeOf,typeInfo,j,hs,Ap,f]
   all_goals
    simp only [TypeDesc.isRow] at c
    simp only [List.length_cons,List.length_nil,Nat.zero_add] at k
    have o:b[a]? =some (b[a]'(by omega)):=List.getElem?_eq_getElem (by omega)
    simp only [part,Sem.run_bind,c,Result.andThen_ok,Bool.false_eq_true,if_false,Ap,f]
    have e:((b.drop a).take [LK.str].length).headD undef=b[a]'(by omega):=by
     rw [List.headD_eq_head?_getD,List.head?_take,List.head?_drop,o];simp
    have l:(b.toArray)[a]? =some (b[a]'(by omega)):=by simp
    rw [l]
    first|exact congrArg (fun v=>Result.ok v w) e.symm|(simp only [List.length_cons,List.length_nil] at e ⊢;exact congrArg (fun v=>Result.ok v w) e.symm)
theorem sN {n:Nat} (s:∀ t lks,qi P n t=some lks→sD P n t lks):∀ (fs:List Field) (off:Nat) (lks:List LK),Gi P (qi P n) fs off=some lks→
  ∀ (d:Nat) (w:World) (xs ys:List Value) (r:Bool),n≤d→xs.length=off+lks.length→ys.length=off+lks.length→h_ lks (xs.drop off) (ys.drop off)=some r→
   (Op.eqFields d xs.toArray ys.toArray fs).run P w= .ok r w
 | [],off,lks,hc,d,w,xs,ys,r,hd,hx,hy,h=>by
  simp [Gi] at hc;subst hc
  have C:xs.drop off= []:=List.drop_eq_nil_of_le (by simp at hx;omega)
  have D:ys.drop off= []:=List.drop_eq_nil_of_le (by simp at hy;omega)
  rw [C,D] at h
  simp [h_] at h;subst h
  simp [Op.eqFields]
 | f ::fs,off,lks,hc,d,w,xs,ys,r,hd,hx,hy,h=>by
  simp only [Gi] at hc
  cases j:qi P n f.type with
  |none=>simp [j] at hc
  | some l=>
   simp only [j] at hc
   split at hc
   ·rename_i hcond
    simp only [Bool.and_eq_true,Bool.not_eq_true'] at hcond
    obtain ⟨⟨u,q⟩,c⟩:=hcond
    cases p:Gi P (qi P n) fs (off+l.length) with
    |none=>simp [p] at hc
    | some l'=>
     simp only [p] at hc
     cases hc
     cases k:P.info? f.type with
     |none=>simp [k] at c
     |some i=>
      simp only [k] at c
      have c:=aO c
      have q:=aO q
      have o:f.name ≠ "_" :=by intro e;rw [e] at u;exact absurd u (by decide)
      simp only [List.length_append] at hx hy
      obtain ⟨a,b,B,A,rfl⟩:=xY l l' _ _ r h
      have z:=Ak j k c xs off (by omega) w
      have x:=Ak j k c ys off (by omega) w
      have v:=s f.type l j d w _ _ a hd B
      have y:=sN s fs (off+l.length) l' p d w xs ys b hd (by omega) (by omega) (by simpa [List.drop_drop,Nat.add_comm] using A)
      simp only [Op.eqFields,o,ne_eq,not_false_eq_true,if_true,Sem.run_bind,q,z,x,v,Result.andThen_ok]
      cases a
      ·simp
      ·simpa using y
   ·cases hc
theorem JZ : ∀ (n:Nat) (t:TypeId) (lks:List LK),qi P n t=some lks→sD P n t lks
  |0,_,_,h=>by simp [qi] at h
  | n + 1,t,lks,h=>by
    intro d w l p r s b
    obtain ⟨d,rfl⟩:∃ k,d=k+1:=⟨d - 1,by omega⟩
    have j:=v_ _ _ _ _ b
    unfold qi at h
    cases a:P.underlying t with
    |none=>simp [a] at h
    | some ds=>
      cases ds<;>simp only [a] at h<;>try cases h
      case struct fs=>
        split at h
        · cases h
        · rename_i q
          have i:P.fieldsOf t=fs:=by simp [Program.fieldsOf,a]
          have e:=run_equalIn_struct (P:=P) w d t l.toArray p.toArray (by rw [i];exact a) q
          simp only [Ap,a]
          rw [e,i]
          exact sN (JZ n) fs.toList 0 lks h d w l p r (by omega) (by simp [j.1]) (by simp [j.2]) (by simpa using b)
      all_goals
        simp only [List.length_cons,List.length_nil,Nat.zero_add] at j
        match l,p,j,b with
        | [x], [y],_,b=>
          simp only [h_,Option.map_some,Bool.and_true] at b
          obtain ⟨c,f,b⟩:=bind_some b
          cases b
          simp only [Ap,a,List.headD_cons]
          cases x<;>cases y<;>simp [Gu] at f
          first
            | (split at f
               · rename_i o
                 simp only [Bool.and_eq_true] at o
                 obtain rfl:=jc o.1
                 obtain rfl:=jc o.2
                 cases f
                 exact run_equalIn_int (P:=P) w d t _ _ _ _ a
               · cases f)
            |(subst f;rw [run_equalIn_bool' (P:=P) w d t _ _ a])
            |(subst f;rw [run_equalIn_string (P:=P) w d t _ _ a])
end
end AM
namespace AM
open Go
section
variable {P:Program} {ap:AP} {g:dU} {m:bf} {S:aX} {w:World}
theorem adC {d:TypeDesc} (h:jK P (some d)= .ptr):∃ e,d= .pointer e:=by cases d<;>simp [jK] at h;exact ⟨_,rfl⟩
theorem Zv {d:TypeDesc} (h:jK P (some d)= .func):∃ a b c,d= .func a b c:=by cases d<;>simp [jK] at h;exact ⟨_,_,_,rfl⟩
theorem Wh {d:TypeDesc} (h:jK P (some d)= .iface):∃ e,d= .interface e:=by cases d<;>simp [jK] at h;exact ⟨_,rfl⟩
theorem Yg {a b:LK} (h:abZ a b=true):a=b:=by
 cases a<;>cases b<;>simp [abZ] at h
 ·rw [jc h]
 ·rfl
 ·rfl
theorem KG:∀ {a b:List LK},GI a b=true→a=b
 | [],[],_=>rfl
 |_::_,_::_,h=>by simp only [GI,Bool.and_eq_true] at h;rw [Yg h.1,KG h.2]
 | [],_::_,h=>by simp [GI] at h
 |_::_,[],h=>by simp [GI] at h
theorem Nc {k:LK} {a b:AV} {r:Bool} (h:Nb k a b=some r) {x y:Value} (d:VR g m S a x) (c:VR g m S b y):Gu k x y=some r:=by
 unfold Nb at h
 split at h
 ·simp only [VR,PR] at d c;subst d;subst c
  split at h
  ·rename_i e;cases h;simp [Gu,e]
  ·cases h
 ·simp only [VR,PR] at d c;subst d;subst c;simpa [Gu] using h
 ·simp only [VR,PR] at d c;subst d;subst c
  simpa [Gu,EP] using h
 ·cases h
theorem vZ:∀ {ks:List LK} {i bs:List AV} {r:Bool} {e f:List Value},kV ks i bs=some r→bF g m S i e→bF g m S bs f→h_ ks e f=some r
 | [],[],[],r,e,f,h,ha,hb=>by
  cases e<;>cases f<;>simp [bF] at ha hb
  simpa [kV,h_] using h
 |k::ks,a::i,b::bs,r,x::e,y::f,h,ha,hb=>by
  simp only [kV] at h
  obtain ⟨c,j,h⟩:=bind_some h
  rw [Option.map_eq_some_iff] at h
  obtain ⟨d,l,rfl⟩:=h
  simp only [bF] at ha hb
  simp [h_,Nc j ha.1 hb.1,vZ l ha.2 hb.2]
 | [],_::_,_,_,_,_,h,_,_=>by simp [kV] at h
 | [],[],_::_,_,_,_,h,_,_=>by simp [kV] at h
 |_::_,[],_,_,_,_,h,_,_=>by simp [kV] at h
 |_::_,_::_,[],_,_,_,h,_,_=>by simp [kV] at h
 |_::_,_::_,_::_,_,[],_,_,ha,_=>by simp [bF] at ha
 |_::_,_::_,_::_,_,_::_,[],_,_,hb=>by simp [bF] at hb
theorem LG (c:je P ap) {t:Nat} {b:TI} (h:ap.tyAt t=some b):b.cmp=abr P t∧b.lks=GK P 8 t:=by
 have a:=c.ty t b h
 unfold Wl at a
 split at a
 ·split at a
  ·cases a;exact ⟨rfl,rfl⟩
  ·cases a
 ·cases a
theorem mO (c:BinOp) (t:TypeId) (x y:Operand) (a b:Value) (e:¬ (a= .nilIface∧b= .nilIface)) (d:∀ xs ys,¬ (a= .agg xs∧b= .agg ys)):(eqGuard c t x y a b).run P w= .ok () w:=by
 unfold eqGuard
 cases c<;>simp only [Sem.run_ite,Sem.run_pure]<;>try (simp;done)
 all_goals
  simp
  split
  ·exact absurd ⟨rfl,rfl⟩ e
  ·exact absurd ⟨rfl,rfl⟩ (d _ _)
  ·rfl
def Pq (op:BinOp) (r:Bool):Bool:=match op with| .neq=> !r|_=>r
theorem Bd {t:Nat} {a b:Value} {r:Bool} {x y:Operand} (c:∀ op,(eqGuard op t x y a b).run P w= .ok () w) (h:∀ d,(Op.equalIn (d+1) t a b).run P w= .ok r w)
  (h1:binOp .eql t a b=(do pure (.bool (← Op.equal t a b)))) (h2:binOp .neq t a b=(do pure (.bool (!(← Op.equal t a b))))) {op:BinOp} (hop:op=BinOp.eql∨op=BinOp.neq):
  (do eqGuard op t x y a b;binOp op t a b:Sem Value).run P w= .ok (.bool (Pq op r)) w:=by
 have e:(Op.equal t a b).run P w= .ok r w:=h 9999
 rcases hop with rfl|rfl
 ·rw [Sem.run_bind,c,Result.andThen_ok,h1,Sem.run_bind,e];rfl
 ·rw [Sem.run_bind,c,Result.andThen_ok,h2,Sem.run_bind,e];rfl
theorem Gt (A:je P ap) {t:Nat} {L:TI} (u:ap.tyAt t=some L) {a b:AV} {D C:Value} (j:VR g m S a D) (k:VR g m S b C) {r:Bool} (h:eqA L a b=some r) (J:∀ x ∈ DY a b,x=true) (x y:Operand):
  ∀ f,f=BinOp.eql∨f=BinOp.neq→(do eqGuard f t x y D C;binOp f t D C:Sem Value).run P w= .ok (.bool (Pq f r)) w:=by
 obtain ⟨i,d,z,v⟩:=fA A u
 intro f s
 unfold eqA at h
 split at h
 case h_2 fs xs ys p=>
  split at h
  ·rename_i c
   rw [(LG A u).1] at c
   rw [(LG A u).2] at h
   simp only [VR] at j k
   obtain ⟨vs,rfl,j⟩:=j
   obtain ⟨N,rfl,k⟩:=k
   have K:=vZ h j k
   unfold abr at c
   cases E:qi P 8 t with
   |none=>simp [E] at c
   |some l=>
    simp only [E,Bool.and_eq_true,Bool.not_eq_true'] at c
    have I:=KG c.1
    rw [← I] at K
    have F:=JZ 8 t l E 10000 w vs N r (by omega) K
    rw [v.d_eq] at p
    obtain ⟨fields,rfl,_⟩:=vF p
    simp only [Ap,v.und] at F
    have M:=run_eqGuard_agg (P:=P) w f t x y vs.toArray N.toArray c.2
    rcases s with rfl|rfl
    ·simp [M,run_eql_struct,F,Pq]
    ·simp [M,run_neq_struct,F,Pq]
  ·cases h
 all_goals try (cases h;done)
 all_goals
  rename_i p
  rw [v.d_eq] at p
  try simp only [VR,PR] at j k
 all_goals cases h
 case h_1=>
  have p:=Zu p
  subst p
  subst j;subst k
  (refine Bd (fun f=> ?_) (fun B=> ?_) rfl rfl s<;>first|exact mO f t x y _ _ (by simp) (by simp)|exact run_equalIn_bool' (P:=P) w B t _ _ v.und)
 all_goals
  first
   |(obtain ⟨e,rfl⟩:=adC p)
   |(obtain ⟨e,rfl⟩:=Wh p)
   |(obtain ⟨O,R,Q,rfl⟩:=Zv p)
   |(have p:=iF p;subst p)
 case h_16 xs n nn=>
  subst k
  obtain ⟨a,H,rfl,G,q⟩:=j
  rcases q with ⟨rfl,rfl,rfl,rfl,rfl⟩|⟨b,o,vs,rfl,_⟩
  ·exact absurd (J _ (by simp [DY];rfl)) (by decide)
  ·(refine Bd (fun f=> ?_) (fun B=> ?_) rfl rfl s<;>first|exact mO f t x y _ _ (by simp) (by simp)|simp [Op.equalIn,run_underlying v.und])
 case h_17 xs n nn=>
  subst j
  obtain ⟨a,H,rfl,G,q⟩:=k
  rcases q with ⟨rfl,rfl,rfl,rfl,rfl⟩|⟨b,o,vs,rfl,_⟩
  ·exact absurd (J _ (by simp [DY];rfl)) (by decide)
  ·(refine Bd (fun f=> ?_) (fun B=> ?_) rfl rfl s<;>first|exact mO f t x y _ _ (by simp) (by simp)|simp [Op.equalIn,run_underlying v.und])
 all_goals
  try subst j
  try subst k
  try (obtain ⟨_,_,_,⟨_,_,rfl⟩,_⟩:=j)
  try (obtain ⟨_,_,_,⟨_,_,rfl⟩,_⟩:=k)
  try (obtain ⟨_,_,_,⟨_,_,_,rfl⟩,_⟩:=j)
  try (obtain ⟨_,_,_,⟨_,_,_,rfl⟩,_⟩:=k)
  try (obtain ⟨_,_,_,rfl,_⟩:=j)
  try (obtain ⟨_,_,_,rfl,_⟩:=k)
  try (obtain ⟨_,_,rfl,_⟩:=j)
  try (obtain ⟨_,_,rfl,_⟩:=k)
  try (obtain ⟨_,rfl,_⟩:=j)
  try (obtain ⟨_,rfl,_⟩:=k)
  (refine Bd (fun f=> ?_) (fun B=> ?_) rfl rfl s<;>first|exact mO f t x y _ _ (by simp) (by simp)|simp [Op.equalIn,run_underlying v.und])
end
end AM
namespace AM
open Go
section
variable {P:Program} {ap:AP} {g:dU} {m:bf} {S:aX} {w:World}
theorem ML (a b:List UInt8):(⟨a.toArray⟩:ByteArray)++⟨b.toArray⟩=⟨(a++b).toArray⟩:=by
 apply ByteArray.ext
 rw [ByteArray.data_append]
 simp
theorem MP (i:je P ap) {t:Nat} {u:TI} (f:ap.tyAt t=some u) {a b v:AV} {j n:Value} (e:VR g m S a j) (d:VR g m S b n) {c:BinOp} {ups:List (Nat × bi)} {bs:List Bool}
  (h:aa6 c u a b=some (v,ups,bs)) (hbs:∀ x ∈ bs,x=true) (x y:Operand):
  ups= []∧∃ cv,(do eqGuard c t x y j n;binOp c t j n:Sem Value).run P w= .ok cv w∧VR g m S v cv:=by
 unfold aa6 at h
 split at h
 ·rename_i k p z q
  simp only [VR,PR] at e d
  subst e;subst d
  have o:(eqGuard c t x y (.int k p) (.int z q)).run P w= .ok () w:=mO c t x y _ _ (by simp) (by simp)
  rw [Sem.run_bind,o,Result.andThen_ok]
  split at h
  ·obtain ⟨rfl,rfl,rfl⟩:=aU h
   have h0:=of_decide_eq_true (hbs _ (List.mem_singleton.2 rfl))
   exact ⟨rfl,_,by simp [binOp,Op.shift,show ¬ q<0 by omega];rfl,by simp only [VR,PR]⟩
  ·obtain ⟨rfl,rfl,rfl⟩:=aU h
   have h0:=of_decide_eq_true (hbs _ (List.mem_singleton.2 rfl))
   exact ⟨rfl,_,by simp [binOp,Op.shift,show ¬ q<0 by omega];rfl,by simp only [VR,PR]⟩
  ·split at h
   ·cases h
   ·rename_i l
    have l:=jc l
    subst l
    split at h
    all_goals try (cases h;done)
    all_goals obtain ⟨rfl,rfl,rfl⟩:=aU h
    case h_4=>
     have h0:(q==0)=false:=by simpa using hbs _ (List.mem_singleton.2 rfl)
     have h0:¬ q=0:=by simpa using h0
     exact ⟨rfl,_,by simp [binOp,Op.intDiv,h0];rfl,by simp only [VR,PR]⟩
    case h_5=>
     have h0:(q==0)=false:=by simpa using hbs _ (List.mem_singleton.2 rfl)
     have h0:¬ q=0:=by simpa using h0
     exact ⟨rfl,_,by simp [binOp,Op.intDiv,h0];rfl,by simp only [VR,PR]⟩
    all_goals exact ⟨rfl,_,by simp only [binOp,Op.intArith,Op.intBits,Op.intCmp,ne_eq,not_true_eq_false,if_false];rfl,by simp only [VR,PR];first|done|rfl⟩
 ·rename_i p q
  simp only [VR,PR] at e d
  subst e;subst d
  have o:(eqGuard c t x y (.string ⟨p.toArray⟩) (.string ⟨q.toArray⟩)).run P w= .ok () w:=mO c t x y _ _ (by simp) (by simp)
  rw [Sem.run_bind,o,Result.andThen_ok]
  split at h
  all_goals try (cases h;done)
  all_goals obtain ⟨rfl,rfl,rfl⟩:=aU h
  case h_1=>
   have h0:=gU (hbs _ (List.mem_singleton.2 rfl))
   have A:¬ (IntKind.i64.max<((p.length+q.length:Nat):Int)):=by
    have:IntKind.i64.max=9223372036854775807:=by decide
    omega
   refine ⟨rfl,.string ⟨(p++q).toArray⟩, ?_,by simp only [VR,PR]⟩
   simp only [binOp,Op.stringOp,yH,gt_iff_lt,A,if_false,ML,Sem.run_pure]
  all_goals
   refine ⟨rfl,_,rfl, ?_⟩
   simp only [VR,PR,EP,xI]
 ·split at h
  ·obtain ⟨r,s,h⟩:=bind_some h
   obtain ⟨rfl,rfl,rfl⟩:=aU h
   exact ⟨rfl,_,Gt i f e d s hbs x y _ (.inl rfl),by simp only [VR,PR];rfl⟩
  ·obtain ⟨r,s,h⟩:=bind_some h
   obtain ⟨rfl,rfl,rfl⟩:=aU h
   exact ⟨rfl,_,Gt i f e d s hbs x y _ (.inr rfl),by simp only [VR,PR];rfl⟩
  ·cases h
theorem RY {x v:AV} {b:Value} (a:VR g m S x b) {c:UnOp} {ups:List (Nat × bi)} {bs:List Bool} (h:unA c x=some (v,ups,bs)):
  ups= []∧∃ cv,(Op.unary c b).run P w= .ok cv w∧VR g m S v cv:=by
 unfold unA at h
 split at h
 ·obtain ⟨rfl,rfl,rfl⟩:=aU h
  simp only [VR,PR] at a;subst a
  exact ⟨rfl,_,rfl,by simp only [VR,PR]⟩
 ·obtain ⟨rfl,rfl,rfl⟩:=aU h
  simp only [VR,PR] at a;subst a
  exact ⟨rfl,_,rfl,by simp only [VR,PR]⟩
 ·cases h
theorem ug {f:AV→AV→Option AV} {F:Value→Value→Sem Value} (d:∀ a b c ca cb,VR g m S a ca→VR g m S b cb→f a b=some c→∃ cc,(F ca cb).run P w= .ok cc w∧VR g m S c cc):
  ∀ (l:List AV) (cl:List Value) (x v:AV) (cx:Value),bF g m S l cl→VR g m S x cx→Ko f x l=some v→∃ cv,(cl.foldlM F cx).run P w= .ok cv w∧VR g m S v cv
 | [],[],x,v,cx,_,hx,h=>by simp [Ko] at h;subst h;exact ⟨cx,by simp,hx⟩
 | y::r,cy::cr,x,v,cx,hl,hx,h=>by
  simp only [bF] at hl
  simp only [Ko] at h
  split at h
  ·rename_i z e
   obtain ⟨n,j,i⟩:=d _ _ _ _ _ hx hl.1 e
   obtain ⟨cv,k,o⟩:=ug d r cr z v n hl.2 i h
   exact ⟨cv,by simp [List.foldlM_cons,j,k],o⟩
  ·cases h
 | [],_::_,_,_,_,hl,_,_=>by simp [bF] at hl
 |_::_,[],_,_,_,hl,_,_=>by simp [bF] at hl
theorem NT {a b c:AV} {d e:Value} (i:VR g m S a d) (f:VR g m S b e) (h:min2 a b=some c):∃ cc,(Builtin.min2 d e).run P w= .ok cc w∧VR g m S c cc:=by
 unfold min2 at h
 split at h
 ·split at h
  ·cases h
   simp only [VR,PR] at i f;subst i;subst f
   exact ⟨_,rfl,by simp only [VR,PR]⟩
  ·cases h
 ·cases h
theorem NQ {a b c:AV} {d e:Value} (i:VR g m S a d) (f:VR g m S b e) (h:max2 a b=some c):∃ cc,(Builtin.max2 d e).run P w= .ok cc w∧VR g m S c cc:=by
 unfold max2 at h
 split at h
 ·split at h
  ·cases h
   simp only [VR,PR] at i f;subst i;subst f
   exact ⟨_,rfl,by simp only [VR,PR]⟩
  ·cases h
 ·cases h
theorem QP {l:List AV} {cl:List Value} (a:bF g m S l cl) {v:AV} (h:yX min2 l=some v) (b:Array TypeId) (ty:Nat):∃ cv,(Builtin.min_ b ty cl.toArray).run P w= .ok cv w∧VR g m S v cv:=by
 cases l with
 |nil=>simp [yX] at h
 | cons x r=>cases cl with
  |nil=>simp [bF] at a
  |cons cx cr=>
   simp only [bF] at a
   obtain ⟨cv,d,c⟩:=ug (P:=P) (w:=w) (F:=Builtin.min2) (fun _ _ _ _ _=>NT) r cr x v cx a.2 a.1 h
   exact ⟨cv,by simpa [Builtin.min_] using d,c⟩
theorem QN {l:List AV} {cl:List Value} (a:bF g m S l cl) {v:AV} (h:yX max2 l=some v) (b:Array TypeId) (ty:Nat):∃ cv,(Builtin.max_ b ty cl.toArray).run P w= .ok cv w∧VR g m S v cv:=by
 cases l with
 |nil=>simp [yX] at h
 | cons x r=>cases cl with
  |nil=>simp [bF] at a
  |cons cx cr=>
   simp only [bF] at a
   obtain ⟨cv,d,c⟩:=ug (P:=P) (w:=w) (F:=Builtin.max2) (fun _ _ _ _ _=>NQ) r cr x v cx a.2 a.1 h
   exact ⟨cv,by simpa [Builtin.max_] using d,c⟩
end
end AM
