/- The abstract machine over the code of the model, and the proof that it is sound. No conditions. -/
import Derived.WalkKit
import Derived.Deep.AppendSrc
import Derived.Deep.MidRow
import Derived.WalkLawsBesides
set_option linter.unusedSimpArgs false
set_option linter.unusedVariables false
open Nat renaming beq→Xqq,blt→Xx6,ble→Xqm,le_refl→Δ,le_trans→Xqy,add_zero→Xq0,add_assoc→Xzc,add_mul→Xxj,zero_add→Xqf
open List renaming replicate→κ,range→Xq6,cons_append→Xq9,take_succ_cons→Xxu,map_cons→Xqi,getD_eq_getElem?_getD→π,headD_eq_head?_getD→Xwb,head?_drop→Xv9,tail_drop→Xkg,getElem?_map→Xq3,getElem?_take→Xj0,getElem?_drop→Xzf,getElem?_eq_getElem→ξ,drop_eq_nil_of_le→Xzt,length_cons→μ,length_nil→Xqb
open BitVec renaming ofInt→Xqg
open Bool renaming and_eq_true→ο,not_eq_true'→Xqo
open Option renaming map_eq_some_iff→Xqp
namespace AM
open Go
inductive AV where
 |int (k:IntKind) (n:Int)
 |bool (b:Bool)
 |str (s:List UInt8)
 |agg (l:List AV)
 |tup (l:List AV)
 |nilS
 |sl (xs:List AV) (n:Nat) (nn:Bool)
 |ref (b ver i n:Nat)
 |own (xs:List AV) (n esz:Nat)
 |ptr (b ver off:Nat)
 |pp (xs:List AV) (off:Nat)
 |mr (b ver:Nat)
 |mp (ks vs:List AV)
 |nilP
 |fn (f:Nat) (first cap:List AV)
 |nilF
 |ifc (t:Nat) (v:AV)
 |nilI
 |dead
inductive LK where
 |int (k:IntKind)
 |bool
 |str
 |sl
 |oth
inductive TD where
 |struct (fs:List (Nat × Nat × Nat))
 |array (n elem:Nat)
 |slice (elem:Nat)
 |int (k:IntKind)
 |str
 |bool
 |iface
 |ptr
 |func
 |map (k e:Nat)
 |oth
structure TI where
 d:TD
 size:Nat
 bytes:Nat
 zero:List AV
 lks:List LK
 cmp:Bool
structure AF where
 fn:Func
 keep:List Nat
 shared:Bool
inductive Tr (α:Type) where
 |nil
 |node (v:Option α) (l r:Tr α)
def Tr.get {α:Type}:Tr α→Nat→Option α
 | .nil,_=>none
 | .node v l r,n=>match Xqq n 0 with
  |true=>v
  |false=>match Xqq (n % 2) 1 with
   |true=>l.get ((n - 1) / 2)
   |false=>r.get ((n - 1) / 2)
structure AP where
 nty:Nat
 ty:Tr TI
 nfn:Nat
 fn:Tr AF
 gl:List (Option (List AV))
def iL:Nat:=4611686018427387904
def Zk:List AV→Option AV
 | [.agg ks,.agg vs]=>some (.mp ks vs)
 |_=>none
structure a_ where
 cells:List AV
 ver:Nat
 fro:Bool
 fz:Nat
 esz:Nat
 pr:Bool
abbrev iY:=List (Nat × AV)
abbrev Hp:=List (Nat × a_)
def az {α:Type}:List (Nat × α)→Nat→Option α
 | [],_=>none
 |(u,x)::r,t=>match Xqq u t with|true=>some x|false=>az r t
def kz {α β:Type} (f:α→Option β):List α→Option (List β)
 | []=>some []
 |x::r=>match f x with
  |some y=>match kz f r with|some l=>some (y::l)|none=>none
  |none=>none
def iY.get (e:iY) (t:Nat):AV:=(az e t).getD .dead
def AV.cells:AV→List AV
 | .agg l=>l
 |x=> [x]
def AV.toInt:AV→Int| .int _ n=>n|_=>0
def AV.toBool:AV→Bool| .bool b=>b|_=>false
def AV.toStr:AV→List UInt8| .str s=>s|_=> []
def AV.slX:AV→List AV| .sl xs _ _=>xs|_=> []
def AV.slN:AV→Nat| .sl _ n _=>n|_=>0
def VA:IntKind→Nat
 | .i8=>0| .i16=>1| .i32=>2| .i64=>3| .u8=>4| .u16=>5| .u32=>6| .u64=>7
def iO (a b:IntKind):Bool:=Xqq (VA a) (VA b)
def chk:LK→AV→Bool
 | .int k,.int k' _=>iO k k'
 | .bool,.bool _=>true
 | .str,.str _=>true
 | .sl,.sl _ _ _=>true
 | .sl,.nilS=>true
 | .oth,.dead=>false
 | .oth,.agg _=>false
 | .oth,.tup _=>false
 | .oth,.own _ _ _=>false
 | .oth,_=>true
 |_,_=>false
def eta:LK→AV→AV
 | .int k,c=> .int k c.toInt
 | .bool,c=> .bool c.toBool
 | .str,c=> .str c.toStr
 | .sl,c=> .sl c.slX c.slN false
 | .oth,c=>c
def n_:AV→Bool
 | .dead| .agg _| .tup _| .own _ _ _=>false
 |_=>true
mutual
def dR:AV→List Nat
 | .ref b _ _ _=> [b]
 | .ptr b _ _=> [b]
 | .mr b _=> [b]
 | .agg l=>bK l
 | .tup l=>bK l
 | .fn _ f c=>bK f++bK c
 | .ifc _ v=>dR v
 |_=> []
def bK:List AV→List Nat
 | []=> []
 |x::r=>dR x++bK r
end
mutual
def ren (ρ:Nat→Nat→Option (Nat × Nat)):AV→AV
 | .ref b v i n=>match ρ b v with|some (b',v')=> .ref b' v' i n|none=> .dead
 | .ptr b v o=>match ρ b v with|some (b',v')=> .ptr b' v' o|none=> .dead
 | .mr b v=>match ρ b v with|some (b',v')=> .mr b' v'|none=> .dead
 | .agg l=> .agg (mQ ρ l)
 | .tup l=> .tup (mQ ρ l)
 | .fn f a c=> .fn f (mQ ρ a) (mQ ρ c)
 | .ifc t v=> .ifc t (ren ρ v)
 |x=>x
def mQ (ρ:Nat→Nat→Option (Nat × Nat)):List AV→List AV
 | []=> []
 |x::r=>ren ρ x::mQ ρ r
end
def I4:Value→AV
 | .int k n=> .int k n
 | .bool b=> .bool b
 | .string s=> .str s.data.toList
 | .pointer a=>match a with|none=> .nilP|some _=> .dead
 | .slice a n c=>match a,n,c with|none,0,0=> .nilS|_,_,_=> .dead
 | .nilFunc=> .nilF
 | .nilIface=> .nilI
 | .map a=>match a with|none=> .mp [] []|some _=> .dead
 |_=> .dead
def EJ:Value→AV
 | .agg cs=> .agg (cs.toList.map I4)
 | .tuple vs=>match vs.toList with| []=> .tup []|_=> .dead
 |v=>I4 v
def AP.tyAt (ap:AP) (t:Nat):Option TI:=match Xx6 t ap.nty with|true=>ap.ty.get t|false=>none
def AP.fnAt (ap:AP) (f:Nat):Option AF:=match Xx6 f ap.nfn with|true=>ap.fn.get f|false=>none
def rO (l:List Nat) (a:Nat):Bool:=l.any (Xqq a)
def jh (l:List Nat):List Nat:=l.foldl (fun acc b=>if rO acc b then acc else acc++ [b]) []
abbrev Hw:=Option (AV × List (Nat × a_) × List Bool)
def bi (v:AV) (bs:List Bool:= []):Hw:=some (v,[],bs)
def Lj (ty:Bool):List LK→List AV→List AV
 | [],_=> []
 |k::ks,ys=>(match ty with|true=>eta k (ys.headD .dead)|false=>ys.headD .dead)::Lj ty ks ys.tail
def Um (ty:Bool):List LK→List AV→List Bool
 | [],_=> []
 |k::ks,ys=>(match ty with|true=>chk k (ys.headD .dead)|false=>chk .oth (ys.headD .dead))::Um ty ks ys.tail
def uH (ty:Bool) (ks:List LK) (xs:List AV) (off:Nat):List AV:=Lj ty ks (xs.drop off)
def Ib (ty:Bool) (ks:List LK) (xs:List AV) (off:Nat):List Bool:=Um ty ks (xs.drop off)
def IJ:TD→Bool
 | .struct _=>true
 | .array _ _=>true
 |_=>false
def qU (ti:TI) (cs:List AV):Option AV:=
 match IJ ti.d with
 |true=>some (.agg cs)
 |false=>match cs with| [c]=>some c|_=>none
def KI (ti:TI) (rd:Nat→Option a_) (p:AV):Hw:=
 match p with
 | .pp xs off=>(qU ti (uH true ti.lks xs off)).bind fun v=>bi v (Ib true ti.lks xs off)
 | .ptr b ver off=>(rd b).bind fun B=>match Xqq B.ver ver && !(Xqq B.esz iL) with
  |true=>(qU ti (uH (Xx6 0 B.esz && B.pr) ti.lks B.cells off)).bind fun v=>bi v (Ib (Xx6 0 B.esz && B.pr) ti.lks B.cells off)
  |false=>none
 |_=>none
def iP (xs:List AV) (off:Nat) (vs:List AV):List AV:=xs.take off++vs++xs.drop (off+vs.length)
def OC (ti:TI) (rd:Nat→Option a_) (p v:AV):Hw:=
 match p with
 | .ptr b ver off=>(rd b).bind fun B=>
  let vs:=v.cells
  let rs:=bK vs
  match Xqq B.ver ver && !B.fro && Xqq vs.length ti.size && vs.all n_ && !(Xqq B.esz iL) with
  |true=>some (.dead,[(b,{B with cells:=iP B.cells off vs,pr:=B.pr && rs.isEmpty})],[Xqm (off+vs.length) B.cells.length])
  |false=>none
 |_=>none
def jg (nid:Nat) (cells:List AV) (esz:Nat):Nat × a_:=(nid,{cells,ver:=0,fro:=false,fz:=0,esz,pr:=(bK cells).isEmpty})
def wB (cells:List AV):List (Nat × Nat × AV)→Option (List AV)
 | []=>some cells
 |(off,size,v)::r=>match Xqq v.cells.length size && Xqm (off+size) cells.length && v.cells.all n_ with
  |true=>wB (iP cells off v.cells) r
  |false=>none
def MV (ap:AP) (ti:TI) (parts:List (Nat × AV)):Hw:=
 match ti.d with
 | .struct fs=>(kz (fun (q:Nat × AV)=>(fs[q.1]?).map fun (x:Nat × Nat × Nat)=>(x.1,x.2.2,q.2)) parts).bind fun ps=>(wB ti.zero ps).bind fun cs=>bi (.agg cs)
 | .array _ e=>(ap.tyAt e).bind fun te=>(wB ti.zero (parts.map fun (i,v)=>(i*te.size,te.size,v))).bind fun cs=>bi (.agg cs)
 |_=>none
def gp (n:Nat) (z:List AV):List AV:=(κ n z).flatten
def tK (ap:AP) (nid:Nat) (ti:TI) (len:Nat) (parts:List (Nat × AV)):Hw:=
 match ti.d with
 | .slice e=>(ap.tyAt e).bind fun te=>
  match Xx6 0 te.size && Xqm (len*te.size) (2^24) && Xqq te.zero.length te.size with
  |true=>(wB (gp len te.zero) (parts.map fun (i,v)=>(i*te.size,te.size,v))).bind fun cs=>
   some (.ref nid 0 0 len,[jg nid cs te.size],[])
  |false=>none
 |_=>none
def V4 (p:AV) (o:Nat):Option AV:=
 match p with
 | .ptr b v off=>some (.ptr b v (off+o))
 | .pp xs off=>some (.pp xs (off+o))
 |_=>none
def PE (v:AV):Option Int:=match v with| .int _ n=>some n|_=>none
def wX (ap:AP) (ti:TI) (rd:Nat→Option a_) (x i:AV):Hw:=
 (PE i).bind fun i=>
 match ti.d with
 | .slice e=>(ap.tyAt e).bind fun te=>
  match x with
  | .sl xs n _=>bi (.pp xs (i.toNat*te.size)) [decide (0≤i),decide (i<n)]
  | .ref b ver j n=>(rd b).bind fun B=>match Xqq B.ver ver && Xqq B.esz te.size with
   |true=>bi (.ptr b ver ((j+i.toNat)*te.size)) [decide (0≤i),decide (i<n)]
   |false=>none
  |_=>none
 | .array n e=>(ap.tyAt e).bind fun te=>(V4 x (i.toNat*te.size)).bind fun p=>bi p [decide (0≤i),decide (i<n)]
 |_=>none
def NJ (ap:AP) (ti:TI) (x i:AV):Hw:=
 (PE i).bind fun i=>
 match ti.d,x with
 | .str,.str s=>bi (.int .u8 (s.getD i.toNat 0).toNat) [decide (0≤i),decide (i<s.length)]
 | .array n e,.agg cs=>(ap.tyAt e).bind fun te=>
  (qU te (uH true te.lks cs (i.toNat*te.size))).bind fun v=>bi v (decide (0≤i)::decide (i<n)::Ib true te.lks cs (i.toNat*te.size))
 |_,_=>none
def ou (v:Option AV) (d:Int):Option Int:=match v with|none=>some d|some (.int _ n)=>some n|some _=>none
def Oz (ap:AP) (ti:TI) (rd:Nat→Option a_) (x:AV) (lo hi mx:Option AV):Hw:=
 match ti.d,x,mx with
 | .str,.str s,none=>(ou lo 0).bind fun l=>(ou hi s.length).bind fun h=>
   bi (.str ((s.take h.toNat).drop l.toNat)) [decide (0≤l),decide (l≤h),decide (h≤s.length)]
 | .slice e,.sl xs n nn,none=>(ap.tyAt e).bind fun te=>(ou lo 0).bind fun l=>(ou hi n).bind fun h=>
   bi (.sl ((xs.take (h.toNat*te.size)).drop (l.toNat*te.size)) (h.toNat - l.toNat) nn) [decide (0≤l),decide (l≤h),decide (h≤n)]
 | .slice e,.ref b ver j n,none=>(ap.tyAt e).bind fun te=>(rd b).bind fun B=>(ou lo 0).bind fun l=>(ou hi n).bind fun h=>
   match Xqq B.ver ver && Xqq B.esz te.size with
   |true=>bi (.ref b ver (j+l.toNat) (h.toNat - l.toNat)) [decide (0≤l),decide (l≤h),decide (h≤n)]
   |false=>none
 | .slice e,.nilS,none=>(ap.tyAt e).bind fun _=>(ou lo 0).bind fun l=>(ou hi 0).bind fun h=>bi .nilS [decide (l=0),decide (h=0)]
 |_,_,_=>none
def VC (d:TD) (x:AV):Hw:=
 match d,x with
 | .array n _,_=>bi (.int .i64 n)
 | .str,.str s=>bi (.int .i64 s.length)
 | .slice _,.sl _ n _=>bi (.int .i64 n)
 | .slice _,.ref _ _ _ n=>bi (.int .i64 n)
 | .slice _,.nilS=>bi (.int .i64 0)
 |_,_=>none
def LQ (size:Nat) (rd:Nat→Option a_) (x:AV):Option (List AV × Nat × Bool):=
 match x with
 | .sl xs n _=>some (xs,n,true)
 | .nilS=>some ([],0,true)
 | .str s=>some (s.map fun b=> .int .u8 b.toNat,s.length,true)
 | .ref b ver j n=>(rd b).bind fun B=>match Xqq B.ver ver && Xqq B.esz size && !(Xqq B.esz iL) with
  |true=>some ((B.cells.drop (j*size)).take (n*size),n,B.pr)
  |false=>none
 |_=>none
def Hq:Nat:=2^40
def xH (nid:Nat) (te:TI) (rd:Nat→Option a_) (em:Bool) (s x:AV):Hw:=
 (LQ te.size rd x).bind fun (xs,n,pr)=>
 match Xx6 0 te.size && Xqm te.bytes 128 with
 |false=>none
 |true=>
 match s with
 | .nilS=>match em with
  |true=>bi .nilS [Xqq xs.length (n*te.size)]
  |false=>some (.ref nid 0 0 n,[(nid,⟨xs,0,false,0,te.size,pr⟩)],[Xqq xs.length (n*te.size),Xqm n Hq])
 | .ref b ver 0 m=>(rd b).bind fun B=>match Xqq B.ver ver && Xqq B.esz te.size && !(Xqq B.esz iL) with
  | true=>some (.ref b (ver+1) 0 (m+n),[(b,{B with cells:=B.cells.take (m*te.size)++xs,ver:=ver+1,pr:=B.pr && pr})],
    [Xqq xs.length (n*te.size),Xqm (m+n) Hq,Xqm (m*te.size) B.cells.length, !B.fro||Xqm B.fz (m*te.size)])
  |false=>none
 |_=>none
def wQ:AV→Option Nat
 | .sl _ n _=>some n
 | .nilS=>some 0
 | .str s=>some s.length
 | .ref _ _ _ n=>some n
 |_=>none
def yf (ρ:Operand→AV) (o:Op):Option Nat:=
 match o with
 | .call {callee:= .builtin .append,args,..}=>match args.toList with
  | [s,x]=>match ρ s with
   | .nilS=>wQ (ρ x)
   |_=>none
  |_=>none
 |_=>none
def w_ (ap:AP) (nid:Nat) (ti:TI) (l c:AV):Hw:=
 match ti.d,l,c with
 | .slice e,.int _ l,.int _ c=>(ap.tyAt e).bind fun te=>
  match Xx6 0 te.size && Xqq te.zero.length te.size && Xqm te.bytes 128 && (bK te.zero).isEmpty with
  |true=>some (.ref nid 0 0 l.toNat,[(nid,⟨gp l.toNat te.zero,0,false,0,te.size,true⟩)],[decide (0≤l),decide (l=c),decide (l≤2^40)])
  |false=>none
 |_,_,_=>none
def Dy (ap:AP) (ts td:TI) (rd:Nat→Option a_) (x:AV):Hw:=
 match ts.d,td.d,x with
 |_,.int k,.int _ n=>bi (.int k (k.wrap n))
 | .str,.str,.str s=>bi (.str s)
 | .slice e,.str,x=>(ap.tyAt e).bind fun te=>match te.d,x with
  | .int .u8,.str _=>none
  | .int .u8,x=>(LQ 1 rd x).bind fun (xs,n,_)=>bi (.str (xs.map fun c=>UInt8.ofNat c.toInt.toNat)) [Xqq xs.length n,xs.all (chk (.int .u8))]
  |_,_=>none
 |_,_,_=>none
def Nq:LK→AV→AV→Option Bool
 | .int k,.int k1 a,.int k2 b=>match iO k k1 && iO k k2 with|true=>some (a==b)|false=>none
 | .bool,.bool a,.bool b=>some (a==b)
 | .str,.str a,.str b=>some (a==b)
 |_,_,_=>none
def kJ:List LK→List AV→List AV→Option Bool
 | [],[],[]=>some true
 |k::ks,a::as,b::bs=>(Nq k a b).bind fun c=>(kJ ks as bs).map fun d=>c && d
 |_,_,_=>none
def eqA (ti:TI) (a b:AV):Option Bool:=
 match ti.d,a,b with
 | .bool,.bool a,.bool b=>some (a==b)
 | .struct _,.agg xs,.agg ys=>match ti.cmp with|true=>kJ ti.lks xs ys|false=>none
 | .ptr,.nilP,.nilP=>some true
 | .ptr,.nilP,.ptr _ _ _=>some false
 | .ptr,.nilP,.pp _ _=>some false
 | .ptr,.ptr _ _ _,.nilP=>some false
 | .ptr,.pp _ _,.nilP=>some false
 | .iface,.nilI,.ifc _ _=>some false
 | .iface,.ifc _ _,.nilI=>some false
 | .func,.nilF,.nilF=>some true
 | .func,.nilF,.fn _ _ _=>some false
 | .func,.fn _ _ _,.nilF=>some false
 | .slice _,.nilS,.nilS=>some true
 | .slice _,.ref _ _ _ _,.nilS=>some false
 | .slice _,.nilS,.ref _ _ _ _=>some false
 | .slice _,.sl _ _ _,.nilS=>some false
 | .slice _,.nilS,.sl _ _ _=>some false
 |_,_,_=>none
def EF (a b:AV):List Bool:=
 match a,b with
 | .sl _ n false,.nilS=> [Xx6 0 n]
 | .nilS,.sl _ n false=> [Xx6 0 n]
 |_,_=> []
def ig:List UInt8→List UInt8→Bool
 |_,[]=>false
 | [],_::_=>true
 |a::x,b::y=>decide (a<b)||(a==b && ig x y)
def acL (op:BinOp) (ti:TI) (x y:AV):Hw:=
 match x,y with
 | .int k a,.int k' b=>
  match op with
  | .shl=>bi (.int k (k.wrap (a*2^(min b.toNat k.bits)))) [decide (0≤b)]
  | .shr=>bi (.int k (a.fdiv (2^(min b.toNat k.bits)))) [decide (0≤b)]
  | _=>match iO k k' with
   |false=>none
   |true=>match op with
    | .add=>bi (.int k (k.wrap (a+b)))
    | .sub=>bi (.int k (k.wrap (a - b)))
    | .mul=>bi (.int k (k.wrap (a*b)))
    | .quo=>bi (.int k (k.wrap (a.tdiv b))) [!(b==0)]
    | .rem=>bi (.int k (a.tmod b)) [!(b==0)]
    | .and=>bi (.int k (k.wrap (Xqg k.bits a &&& Xqg k.bits b).toNat))
    | .or=>bi (.int k (k.wrap (Xqg k.bits a|||Xqg k.bits b).toNat))
    | .xor=>bi (.int k (k.wrap (Xqg k.bits a^^^Xqg k.bits b).toNat))
    | .eql=>bi (.bool (a==b))
    | .neq=>bi (.bool (!(a==b)))
    | .lss=>bi (.bool (decide (a<b)))
    | .leq=>bi (.bool (decide (a≤b)))
    | .gtr=>bi (.bool (decide (b<a)))
    | .geq=>bi (.bool (decide (b≤a)))
    |_=>none
 | .str a,.str b=>
  match op with
  | .add=>bi (.str (a++b)) [Xqm (a.length+b.length) 9223372036854775807]
  | .eql=>bi (.bool (a==b))
  | .neq=>bi (.bool (!(a==b)))
  | .lss=>bi (.bool (ig a b))
  | .leq=>bi (.bool (ig a b||a==b))
  | .gtr=>bi (.bool (!(ig a b||a==b)))
  | .geq=>bi (.bool (!ig a b))
  |_=>none
 |x,y=>
  match op with
  | .eql=>(eqA ti x y).bind fun b=>bi (.bool b) (EF x y)
  | .neq=>(eqA ti x y).bind fun b=>bi (.bool (!b)) (EF x y)
  |_=>none
def unA (op:UnOp) (x:AV):Hw:=
 match op,x with
 | .not,.bool b=>bi (.bool (!b))
 | .neg,.int k n=>bi (.int k (k.wrap (0 - n)))
 |_,_=>none
def min2 (a b:AV):Option AV:=match a,b with| .int k x,.int k' y=>(match iO k k' with|true=>some (.int k (if y<x then y else x))|false=>none)|_,_=>none
def max2 (a b:AV):Option AV:=match a,b with| .int k x,.int k' y=>(match iO k k' with|true=>some (.int k (if y>x then y else x))|false=>none)|_,_=>none
def Kt (f:AV→AV→Option AV):AV→List AV→Option AV
 |x,[]=>some x
 |x,y::r=>match f x y with|some z=>Kt f z r|none=>none
def zA (f:AV→AV→Option AV):List AV→Option AV
 | []=>none
 |x::r=>Kt f x r
def H8 (ap:AP) (x:AV) (asserted:Nat) (commaOk:Bool):Hw:=
 (ap.tyAt asserted).bind fun ti=>
 match ti.d with
 | .iface=>none
 | _=>match x with
  | .ifc t v=>match Xqq t asserted with
   |true=>bi (match commaOk with|true=> .tup [v,.bool true]|false=>v)
   |false=>match commaOk with|true=>(qU ti ti.zero).bind fun z=>bi (.tup [z,.bool false])|false=>none
  | .nilI=>match commaOk with|true=>(qU ti ti.zero).bind fun z=>bi (.tup [z,.bool false])|false=>none
  |_=>none
def NF (ap:AP) (ti:TI) (x:AV) (f:Nat):Hw:=
 match ti.d,x with
 | .struct fs,.agg cs=>(fs[f]?).bind fun (o,t,_)=>(ap.tyAt t).bind fun tf=>
  (qU tf (uH false tf.lks cs o)).bind fun v=>bi v (Ib false tf.lks cs o)
 |_,_=>none
def xJ:AV→List Nat
 | .ref b _ _ _=> [b]
 | .ptr b _ _=> [b]
 | .mr b _=> [b]
 |_=> []
def WC (ρ:Operand→AV):Op→List Nat
 | .load _ a=>xJ (ρ a)
 | .store _ a _=>xJ (ρ a)
 | .indexAddr _ x _=>xJ (ρ x)
 | .slice _ x _ _ _=>xJ (ρ x)
 | .convert _ _ x=>xJ (ρ x)
 | .lookup _ x _ _=>xJ (ρ x)
 | .mapUpdate _ x _ _=>xJ (ρ x)
 | .insert _ x _ _=>xJ (ρ x)
 | .call {callee:= .builtin .append,args,..}=>jh (args.toList.flatMap fun x=>xJ (ρ x))
 |_=> []
def GV:LK→AV→Bool
 | .int k,.int k' _=>iO k k'
 | .bool,.bool _=>true
 | .str,.str _=>true
 |_,_=>false
def mX:List LK→List AV→Bool
 | [],[]=>true
 |k::r,x::l=>GV k x && mX r l
 |_,_=>false
def kP (ti:TI) (x:AV):Bool:=match ti.d,x with
 | .int k,.int k' _=>iO k k'
 | .bool,.bool _=>true
 | .str,.str _=>true
 | .struct _,.agg l=>ti.cmp && mX ti.lks l
 |_,_=>false
def DT:AV→AV→Bool
 | .int _ a,.int _ b=>a==b
 | .bool a,.bool b=>a==b
 | .str a,.str b=>a==b
 |_,_=>false
def Iq:List AV→List AV→Bool
 | [],[]=>true
 |a::r,b::q=>DT a b && Iq r q
 |_,_=>false
def wU:AV→AV→Bool
 | .int _ a,.int _ b=>a==b
 | .bool a,.bool b=>a==b
 | .str a,.str b=>a==b
 | .agg a,.agg b=>Iq a b
 |_,_=>false
def dK:List AV→List AV→AV→Option AV
 |k0::ks,v0::vs,k=>match wU k k0 with|true=>some v0|false=>dK ks vs k
 |_,_,_=>none
def xg (ks:List AV) (k:AV):List AV:=match ks.any (wU k) with|true=>ks|false=>ks++ [k]
def oP:List AV→List AV→AV→AV→List AV
 |k0::ks,v0::vs,k,v=>match wU k k0 with|true=>v::vs|false=>v0::oP ks vs k v
 |_,_,_,v=> [v]
def VJ (rd:Nat→Option a_) (x:AV):Option (List AV × List AV):=
 match x with
 | .mp ks vs=>some (ks,vs)
 | .mr b ver=>(rd b).bind fun B=>match Xqq B.ver ver && Xqq B.esz iL with
  |true=>match B.cells with| [.agg ks,.agg vs]=>some (ks,vs)|_=>none
  |false=>none
 |_=>none
def PO (ok:Bool) (o:Option AV) (z:AV):AV:=match ok with|true=> .tup [o.getD z,.bool o.isSome]|false=>o.getD z
def IM (ap:AP) (ti:TI) (rd:Nat→Option a_) (x k:AV) (ok:Bool):Hw:=
 match ti.d with
 | .map kt et=>(ap.tyAt kt).bind fun tk=>(ap.tyAt et).bind fun te=>(VJ rd x).bind fun q=>(qU te te.zero).bind fun z=>
   bi (PO ok (dK q.1 q.2 k) z) [kP tk k,q.1.all (kP tk)]
 |_=>none
def CV (ap:AP) (ti:TI) (rd:Nat→Option a_) (x k v:AV):Hw:=
 match ti.d,x with
 | .map kt _,.mr b ver=>(ap.tyAt kt).bind fun tk=>(rd b).bind fun B=>match Xqq B.ver ver && Xqq B.esz iL && !B.fro with
  |true=>match B.cells with
   | [.agg ks,.agg vs]=>some (.dead,[(b,{B with cells:= [.agg (xg ks k),.agg (oP ks vs k v)],pr:=B.pr && (dR v).isEmpty})],[kP tk k,ks.all (kP tk)])
   |_=>none
  |false=>none
 |_,_=>none
def opA (ap:AP) (nid:Nat) (ρ:Operand→AV) (rd:Nat→Option a_) (dec:Operand→Option Bool) (em:Bool) (o:Op):Hw:=
 match o with
 | .move x=>bi (ρ x)
 | .assign x=>bi (ρ x)
 | .pick c a b=>match dec c with
  |some true=>bi (ρ a)
  |some false=>bi (ρ b)
  |none=>match ρ c,ρ a,ρ b with| .bool c,.bool x,.bool y=>bi (.bool (cond c x y))|_,_,_=>none
 | .alloc e=>(ap.tyAt e).bind fun te=>match Xx6 0 te.size && te.zero.all n_ with|true=>some (.ptr nid 0 0,[jg nid te.zero 0],[])|false=>none
 | .box e x=>(ap.tyAt e).bind fun te=>let vs:=(ρ x).cells
  match Xx6 0 te.size && vs.all n_ with|true=>some (.ptr nid 0 0,[jg nid vs 0],[])|false=>none
 | .build t parts=>(ap.tyAt t).bind fun ti=>MV ap ti (parts.toList.map fun (i,x)=>(i,ρ x))
 | .buildSlice t len parts=>(ap.tyAt t).bind fun ti=>tK ap nid ti len (parts.toList.map fun (i,x)=>(i,ρ x))
 | .load t a=>(ap.tyAt t).bind fun ti=>KI ti rd (ρ a)
 | .store t a x=>(ap.tyAt t).bind fun ti=>OC ti rd (ρ a) (ρ x)
 | .makeMap _ r=>match r with|none=>some (.mr nid 0,[(nid,⟨[.agg [],.agg []],0,false,0,iL,true⟩)],[])|some _=>none
 | .lookup t x k ok=>(ap.tyAt t).bind fun ti=>IM ap ti rd (ρ x) (ρ k) ok
 | .mapUpdate t x k v=>(ap.tyAt t).bind fun ti=>CV ap ti rd (ρ x) (ρ k) (ρ v)
 | .insert t x k v=>(ap.tyAt t).bind fun ti=>CV ap ti rd (ρ x) (ρ k) (ρ v)
 | .nilCheck x=>match ρ x with
  | .ptr b v o=>bi (.ptr b v o)
  | .pp xs o=>bi (.pp xs o)
  | .fn f a c=>bi (.fn f a c)
  |_=>none
 | .binOp op t x y _=>(ap.tyAt t).bind fun ti=>acL op ti (ρ x) (ρ y)
 | .unOp op _ x=>unA op (ρ x)
 | .convert s d x=>(ap.tyAt s).bind fun ts=>(ap.tyAt d).bind fun td=>Dy ap ts td rd (ρ x)
 | .makeInterface t x=>(ap.tyAt t).bind fun ti=>match ti.d with| .iface=>none|_=>bi (.ifc t (ρ x))
 | .makeFunc (.func f) first cap=>bi (.fn f (first.toList.map ρ) (cap.toList.map ρ))
 | .makeSlice t l c=>(ap.tyAt t).bind fun ti=>w_ ap nid ti (ρ l) (ρ c)
 | .slice t x lo hi mx=>(ap.tyAt t).bind fun ti=>Oz ap ti rd (ρ x) (lo.map ρ) (hi.map ρ) (mx.map ρ)
 | .fieldAddr s x f=>(ap.tyAt s).bind fun ti=>match ti.d with
  | .struct fs=>(fs[f]?).bind fun (o,_,sz)=>match Xx6 0 sz with|true=>(V4 (ρ x) o).bind fun p=>bi p|false=>none
  |_=>none
 | .field t x f=>(ap.tyAt t).bind fun ti=>NF ap ti (ρ x) f
 | .indexAddr t x i=>(ap.tyAt t).bind fun ti=>wX ap ti rd (ρ x) (ρ i)
 | .index t x i=>(ap.tyAt t).bind fun ti=>NJ ap ti (ρ x) (ρ i)
 | .typeAssert x _ asserted ok=>H8 ap (ρ x) asserted ok
 | .extract t i=>match ρ t with| .tup l=>(l[i]?).bind fun v=>bi v|_=>none
 | .call {callee:= .builtin b,args,argTypes}=>
  match b with
  | .len=>(args[0]?).bind fun x=>(argTypes[0]?).bind fun t=>(ap.tyAt t).bind fun ti=>VC ti.d (ρ x)
  | .append=>match args.toList,argTypes.toList with
   | [s,x],[t,t1]=>(ap.tyAt t).bind fun ti=>(ap.tyAt t1).bind fun ti1=>match ti.d,ti1.d,ρ x with
    | .slice e,.str,.str y=>(ap.tyAt e).bind fun te=>match Xqq te.size 1 with|true=>xH nid te rd em (ρ s) (.str y)|false=>none
    | .slice _,.slice _,.str _=>none
    | .slice e,.slice _,y=>(ap.tyAt e).bind fun te=>xH nid te rd em (ρ s) y
    |_,_,_=>none
   |_,_=>none
  | .min=>(zA min2 (args.toList.map ρ)).bind fun v=>bi v
  | .max=>(zA max2 (args.toList.map ρ)).bind fun v=>bi v
  |_=>none
 |_=>none
def GZ (P:Program):Nat→TypeId→List LK
 |0,_=> [.oth]
 |n+1,t=>match P.underlying t with
  |some (.int k)=> [.int k]
  |some .bool=> [.bool]
  |some .string=> [.str]
  |some (.slice _)=> [.sl]
  |some (.struct fs)=>fs.toList.flatMap fun f=>GZ P n f.type
  |some (.array m e)=>(κ m (GZ P n e)).flatten
  |_=> [.oth]
def jU (P:Program):Option TypeDesc→TD
 |some (.int k)=> .int k
 |some .bool=> .bool
 |some .string=> .str
 |some (.slice e)=> .slice e
 |some (.array n e)=> .array n e
 |some (.struct fs)=> .struct (fs.toList.map fun f=>(f.offset,f.type,match P.info? f.type with|some i=>i.size|none=>0))
 |some (.interface _)=> .iface
 |some (.pointer _)=> .ptr
 |some (.func _ _ _)=> .func
 |some (.map k e)=> .map k e
 |_=> .oth
def xP (P:Program) (f:TypeId→Option (List LK)):List Field→Nat→Option (List LK)
 | [],_=>some []
 | x::r,off=>match f x.type with
  |some l=>match !(x.name== "_") && Xqq x.offset off && (match P.info? x.type with|some i=>Xqq i.size l.length|none=>false) with
   |true=>match xP P f r (off+l.length) with|some l'=>some (l++l')|none=>none
   |false=>none
  |none=>none
def jE (P:Program):Nat→TypeId→Option (List LK)
 |0,_=>none
 |n+1,t=>match P.underlying t with
  |some (.int k)=>some [.int k]
  |some .bool=>some [.bool]
  |some .string=>some [.str]
  |some (.struct fs)=>match P.stoodInHeld t with|true=>none|false=>xP P (jE P n) fs.toList 0
  |_=>none
def afC (i:TypeInfo) (d:TypeDesc):Bool:=match i.zero,d with
 |some (.agg _),.struct _=>true
 |some (.agg _),.array _ _=>true
 |some (.agg _),_=>false
 |some _,.struct _=>false
 |some _,.array _ _=>false
 |some _,_=>true
 |none,_=>false
def Vh (P:Program) (d:TypeDesc):Bool:=match d with
 | .struct fs=>fs.toList.all fun f=>(P.info? f.type).isSome
 |_=>true
def FO (i:TypeInfo):List AV:=match i.zero with|some z=>z.cells.toList.map EJ|none=> []
def ad3:LK→LK→Bool
 | .int a,.int b=>iO a b
 | .bool,.bool=>true
 | .str,.str=>true
 |_,_=>false
def GY:List LK→List LK→Bool
 | [],[]=>true
 |a::r,b::q=>ad3 a b && GY r q
 |_,_=>false
def Yf (P:Program) (t:TypeId):Bool:=match jE P 8 t with|some l=>GY l (GZ P 8 t) && !P.eqGuardType P.depth t|none=>false
def Xo (P:Program) (t:TypeId):Option TI:=
 match P.info? t,P.underlying t with
 |some i,some d=>
  match Xqq (GZ P 8 t).length i.size && (afC i d && Vh P d) && (FO i).all n_ && Xqq (FO i).length i.size && Xx6 0 i.size && i.zero.isSome && Xx6 i.size iL with
  |true=>some {d:=jU P (some d),size:=i.size,bytes:=i.bytes,zero:=FO i,lks:=GZ P 8 t,cmp:=Yf P t}
  |false=>none
 |_,_=>none
abbrev aQ:=Nat→Nat→Option Value
def oM (S S':aQ):Prop:=∀ k o v,S k o=some v→S' k o=some v
theorem oM.refl (S:aQ):oM S S:=fun _ _ _ h=>h
theorem oM.trans {S S' S'':aQ} (h:oM S S') (a:oM S' S''):oM S S'':=fun k o v e=>a k o v (h k o v e)
def kF (S:aQ) (b o:Nat) (vs:List Value):Prop:=∀ j u,vs[j]? =some u→S b (o+j)=some u∧u.oneCell'=true
mutual
def PR (S:aQ):AV→Value→Prop
 | .int k n,v=>v= .int k n
 | .bool b,v=>v= .bool b
 | .str s,v=>v= .string ⟨s.toArray⟩
 | .agg l,v=> ∃ vs,v= .agg vs.toArray∧dO S l vs
 | .tup l,v=> ∃ vs,v= .tuple vs.toArray∧dO S l vs
 | .nilS,v=>v= .slice none 0 0
 | .sl xs n nn,v=> ∃ a cap,v= .slice a n cap∧n≤cap∧(((a=none→nn=false)∧xs= []∧n=0∧cap=0)∨∃ b o vs,a=some ⟨b,o,none⟩∧dO S xs vs∧kF S b o vs)
 | .pp xs off,v=> ∃ b o vs,v= .pointer (some ⟨b,o+off,none⟩)∧dO S xs vs∧kF S b o vs
 | .mp ks vs,v=>(v= .map none∧ks= []∧vs= [])∨∃ b kk vv,v= .map (some b)∧S b 0=some (.agg kk.toArray)∧S b 1=some (.agg vv.toArray)∧dO S ks kk∧dO S vs vv
 | .nilP,v=>v= .pointer none
 | .fn f a c,v=> ∃ va vc,v= .func (.func f) va.toArray vc.toArray∧dO S a va∧dO S c vc
 | .nilF,v=>v= .nilFunc
 | .ifc t x,v=> ∃ u,v= .iface t u∧PR S x u
 | .nilI,v=>v= .nilIface
 | .dead,_=>True
 | .ref _ _ _ _,_=>False
 | .ptr _ _ _,_=>False
 | .mr _ _,_=>False
 | .own _ _ _,_=>False
def dO (S:aQ):List AV→List Value→Prop
 | [],[]=>True
 |x::r,v::vs=>PR S x v∧dO S r vs
 |_,_=>False
end
abbrev dw:=Nat→Option a_
abbrev aV:=Nat→Nat × Nat
mutual
def VR (g:dw) (m:aV) (S:aQ):AV→Value→Prop
 | .ref b ver i n,v=> ∃ B,g b=some B∧ver≤B.ver∧(∃ k o c',v= .slice (some ⟨k,o,none⟩) n c')∧(B.ver=ver→∃ o,v= .slice (some ⟨(m b).1,o,none⟩) n ((m b).2 - i)∧i+n≤(m b).2∧(i<(m b).2→o=i*B.esz)∧0<B.esz∧B.esz ≠ iL)
 | .ptr b ver off,v=> ∃ B,g b=some B∧ver≤B.ver∧(∃ k o,v= .pointer (some ⟨k,o,none⟩))∧(B.ver=ver→v= .pointer (some ⟨(m b).1,off,none⟩))
 | .mr b ver,v=> ∃ B,g b=some B∧ver≤B.ver∧(∃ k,v= .map (some k))∧(B.ver=ver→v= .map (some (m b).1))
 | .agg l,v=> ∃ vs,v= .agg vs.toArray∧bg g m S l vs
 | .tup l,v=> ∃ vs,v= .tuple vs.toArray∧bg g m S l vs
 | .fn f a c,v=> ∃ va vc,v= .func (.func f) va.toArray vc.toArray∧bg g m S a va∧bg g m S c vc
 | .ifc t x,v=> ∃ u,v= .iface t u∧VR g m S x u
 | .int k n,v=>PR S (.int k n) v
 | .bool b,v=>PR S (.bool b) v
 | .str s,v=>PR S (.str s) v
 | .nilS,v=>PR S .nilS v
 | .sl xs n nn,v=>PR S (.sl xs n nn) v
 | .pp xs off,v=>PR S (.pp xs off) v
 | .mp ks vs,v=>PR S (.mp ks vs) v
 | .nilP,v=>PR S .nilP v
 | .nilF,v=>PR S .nilF v
 | .nilI,v=>PR S .nilI v
 | .dead,_=>True
 | .own _ _ _,_=>False
def bg (g:dw) (m:aV) (S:aQ):List AV→List Value→Prop
 | [],[]=>True
 |x::r,v::vs=>VR g m S x v∧bg g m S r vs
 |_,_=>False
end
def aT (x y:AV):Prop:=∀ g m S v,VR g m S x v→VR g m S y v
inductive vU where
 |v (d:Nat) (x:AV)
 |b (d:Nat) (xs:List AV)
 |u (d:Nat)
inductive kD where
 |ret (v:AV)
 |pan (v:AV)
structure Cx where
 cl:Bool
 orc:List Bool
 bs:List Bool
 ps:List Prop
 ans:List (kD × List a_)
 hs:List vU
inductive R (α:Type) where
 |ok (a:α) (c:Cx)
 |need
 |bad (n:Nat)
def R.bind {α β:Type} (r:R α) (f:α→Cx→R β):R β:=
 match r with
 | .ok a c=>f a c
 | .need=> .need
 | .bad n=> .bad n
def lit (o b:Bool):Bool:=match o with|true=>b|false=> !b
def YC (c:Cx) (bs:List Bool):R Unit:=
 match c.cl with
 |true=>match bs.all id with|true=> .ok () c|false=> .bad 1
 |false=> .ok () {c with bs:=bs++c.bs}
def zh (c:Cx) (b:Bool):R Bool:=
 match c.cl with
 |true=> .ok b c
 |false=>match c.orc with
  | []=> .need
  |o::r=> .ok o {c with orc:=r,bs:=lit o b::c.bs}
def D6 (c:Cx) (dst:Option Nat) (v:AV):AV × Cx:=
 match c.hs,dst with
 | .v d x::r,some d'=>match Xqq d d' with
  |true=>(x,{c with hs:=r,ps:=aT v x::c.ps})
  |false=>(v,c)
 |_,_=>(v,c)
def D5 (c:Cx) (dst:Option Nat) (ups:List (Nat × a_)):List (Nat × a_) × Cx:=
 match c.hs,dst,ups with
 | .b d xs::r,some d',[(b,B)]=>match Xqq d d' with
  |true=>([(b,{B with cells:=xs})],{c with hs:=r,ps:=(B.cells=xs)::c.ps})
  |false=>(ups,c)
 |_,_,_=>(ups,c)
def Pv (c:Cx) (dst:Option Nat):Bool × Cx:=
 match c.hs,dst with
 | .u d::r,some d'=>match Xqq d d' with
  |true=>(true,{c with hs:=r})
  |false=>(false,c)
 |_,_=>(false,c)
abbrev b_:=Cx→AV→Nat→List AV→List a_→R (kD × List a_ × AV)
def tq (rd:Nat→Option a_):Nat→List Nat→List Nat
 |0,l=>l
 |n+1,l=>
  let more:=l.flatMap fun b=>match rd b with|some B=>(match B.pr with|true=> []|false=>bK B.cells)|none=> []
  let l':=more.foldl (fun acc b=>if rO acc b then acc else acc++ [b]) l
  match Xqq l'.length l.length with|true=>l|false=>tq rd n l'
def frz (rd:Nat→Option a_):Nat→AV→Option AV
 |0,_=>none
 | fuel+1,x=>
  let frzL (l:List AV):Option (List AV):=kz (frz rd fuel) l
  match x with
  | .ref b ver i n=>(rd b).bind fun B=>match Xqq B.ver ver with
   |true=>match B.pr with
    |true=>some (.sl ((B.cells.drop (i*B.esz)).take (n*B.esz)) n true)
    |false=>(frzL ((B.cells.drop (i*B.esz)).take (n*B.esz))).map fun l=> .sl l n true
   |false=>none
  | .ptr b ver off=>(rd b).bind fun B=>match Xqq B.ver ver && !(Xqq B.esz iL) with
   |true=>match B.pr with
    |true=>some (.pp B.cells off)
    |false=>(frzL B.cells).map fun l=> .pp l off
   |false=>none
  | .mr b ver=>(rd b).bind fun B=>match Xqq B.ver ver && Xqq B.esz iL with
   |true=>match B.pr with
    |true=>Zk B.cells
    |false=>(frzL B.cells).bind Zk
   |false=>none
  | .agg l=>(frzL l).map .agg
  | .tup l=>(frzL l).map .tup
  | .fn f a c=>(frzL a).bind fun a=>(frzL c).map fun c=> .fn f a c
  | .ifc t v=>(frz rd fuel v).map (.ifc t)
  | .own _ _ _=>none
  |x=>some x
def qc (l:List Nat) (b:Nat):Option Nat:=match l with
 | []=>none
 |c::r=>match Xqq c b with|true=>some 0|false=>(qc r b).map (· +1)
def I9 (xs:List AV) (esz:Nat):a_:={cells:=xs,ver:=0,fro:=false,fz:=0,esz,pr:=true}
def fF (nid:Nat):List AV→List AV × List a_
 | []=>([],[])
 | .own xs n esz::r=>match fF (nid+1) r with|(l,bs)=>(.ref nid 0 0 n::l,I9 xs esz::bs)
 |x::r=>match fF nid r with|(l,bs)=>(x::l,bs)
def lI (nid:Nat):AV→AV × List a_
 | .tup l=>match fF nid l with|(l,bs)=>(.tup l,bs)
 | .own xs n esz=>(.ref nid 0 0 n,[I9 xs esz])
 |x=>(x,[])
def EI:Nat→List a_→List (Nat × a_)
 |_,[]=> []
 |n,B::r=>(n,B)::EI (n+1) r
def MB:List Nat→List a_→List (Nat × a_)
 |b::r,B::q=>(b,B)::MB r q
 |_,_=> []
def rV:List Nat→Bool
 | []=>true
 |b::r=> !rO r b && rV r
def BM (ρ:Nat→Nat→Option (Nat × Nat)) (v:Nat) (B:a_):a_:={B with cells:=(match B.pr with|true=>B.cells|false=>mQ ρ B.cells),ver:=v+B.ver}
def OV (nid:Nat) (fp:List Nat) (vers:Nat→Nat) (n:Nat):Nat→Nat→Option (Nat × Nat):=fun p v=>
 match fp[p]? with
 |some b=>some (b,vers b+v)
 |none=>match Xx6 p n with|true=>some (nid+(p - fp.length),v)|false=>none
structure TR where
 out:kD
 ups:List (Nat × a_)
 fp:List Nat
 md:AV
def tV (ap:AP) (H:b_) (rd:Nat→Option a_) (nid:Nat) (md:AV) (f:Nat) (args:List AV) (c:Cx):R TR:=
 let fp:=tq rd 6 (jh (bK args))
 let rd:=fun b=>match rO fp b with|true=>rd b|false=>none
 let shared:=match ap.fnAt f with|some F=>F.shared|none=>false
 match shared with
 | false=>
  match kz (frz rd 6) args with
  |none=> .bad 10
  |some args'=>
   (H c md f args' []).bind fun (out,h',md) c=>
   match h' with
   |_::_=> .bad 14
   | []=>
   let mark:=fp.filterMap fun b=>(rd b).map fun B=>(b,{B with fro:=true,fz:=B.cells.length})
   match out with
   | .ret v=>match lI nid v with|(v,bs)=>match Xqm bs.length 4 with|true=> .ok {out:= .ret v,ups:=EI nid bs++mark,fp,md} c|false=> .bad 13
   | .pan v=> .ok {out:= .pan v,ups:=mark,fp,md} c
 | true=>
  let vers:=fun b=>match rd b with|some B=>B.ver|none=>0
  let ρ:Nat→Nat→Option (Nat × Nat):=fun b v=>match Xqq v (vers b) with|true=>(qc fp b).map fun p=>(p,0)|false=>none
  match kz rd fp with
  |none=> .bad 11
  | some bl=>
   (H c md f (mQ ρ args) (bl.map fun B=> {B with cells:=(match B.pr with|true=>B.cells|false=>mQ ρ B.cells),ver:=0})).bind fun (out,h',md) c=>
   match Xqm fp.length h'.length && rV fp with
   |false=> .bad 12
   |true=>
    let ρ':=OV nid fp vers h'.length
    let ups:=(MB fp h').map fun (b,B)=>(b,BM ρ' (vers b) B)
    let ex:=(h'.drop fp.length).map (BM ρ' 0)
    match out with
    | .ret v=>match lI (nid+(h'.length - fp.length)) (ren ρ' v) with|(v,bs)=>match Xqm ((h'.length - fp.length)+bs.length) 4 with|true=> .ok {out:= .ret v,ups:=EI nid (ex++bs)++ups,fp,md} c|false=> .bad 13
    | .pan v=>match Xqm (h'.length - fp.length) 4 with|true=> .ok {out:= .pan (ren ρ' v),ups:=EI nid (ex++ [])++ups,fp,md} c|false=> .bad 13
inductive bD where
 |normal
 |exit (id:Nat)
 |ret
 |panic (v:AV)
structure St where
 env:iY
 hp:Hp
 md:AV
 dfs:List (Nat × List AV)
structure C9 where
 rt:List Nat
 wt:List Nat
 rb:List Nat
 wb:List Nat
structure RS where
 env:iY
 hp:Hp
 md:AV
 dfs:List (Nat × List AV)
 dec:List (Nat × Bool)
 feet:List C9
def uK (l:List Operand):List Nat:=l.filterMap fun| .tmp t=>some t|_=>none
def Ii (o:Oper):List Nat:=match o.dst with|some d=> [d]|none=> []
def qh (env:iY) (dst:Option Nat) (v:AV):iY:=match dst with|some d=>(d,v)::env|none=>env
def qK (ap:AP) (env:iY):Operand→AV
 | .tmp t=>env.get t
 | .const v=>EJ v
 | .global g=>match (ap.gl[g]?).join with|some xs=> .pp xs 0|none=> .dead
 | .func f=> .fn f [] []
def NG (ops:List Oper) (env:iY) (dec:List (Nat × Bool)) (o:Oper) (c:Cx):R (Bool × List (Nat × Bool)):=
 match o.guard with
 |none=> .ok (true,dec) c
 | some (j,want)=>
  match (ops[j]?).bind (·.dst) with
  |none=> .bad 20
  | some s=>match az dec s with
   |some b=> .ok (lit want b,dec) c
   |none=>match env.get s with
    | .bool b=>(zh c b).bind fun b' c=> .ok (lit want b',(s,b')::dec) c
    | .tup []=> .ok (false,dec) c
    |_=> .bad 21
def jo (ops:List Oper) (o:Oper):List Nat:=
 match o.guard with
 |none=> []
 |some (j,_)=>match (ops[j]?).bind (·.dst) with|none=> []|some s=> [s]
def UJ (dec:List (Nat × Bool)) (o:Oper):Bool:=match o.dst with|none=>true|some d=>match az dec d with|none=>true|some _=>false
def Qz (ap:AP) (H:b_) (nid:Nat) (ops:List Oper) (o:Oper) (s:RS) (c:Cx):R (RS × Option AV):=
 (NG ops s.env s.dec o c).bind fun (run,dec) c=>
 let rt:=uK o.op.operands.toList++jo ops o
 match UJ dec o with
 |false=> .bad 35
 |true=>
 match run with
 |false=> .ok ({s with env:=qh s.env o.dst (.tup []),dec,feet:={rt,wt:=Ii o,rb:= [],wb:= []}::s.feet},none) c
 | true=>
  let ρ:=qK ap s.env
  let rdAll:=az s.hp
  match o.op with
  | .call {callee:= .value g,args,..}=>
   match ρ g with
   | .fn f first cap=>
    (tV ap H rdAll nid .dead f (first++args.toList.map ρ++cap) c).bind fun r c=>
    let foot:C9:={rt,wt:=Ii o,rb:=r.fp,wb:=r.ups.map fun (q:Nat × a_)=>q.1}
    match Pv c o.dst with
    | (true,c)=>match r.out with
     | .ret v=>match r.ups.all (fun (q:Nat × a_)=>rO r.fp q.1) with
      |true=> .ok ({s with env:=qh s.env o.dst v,dec,feet:={rt,wt:=Ii o,rb:=r.fp,wb:= []}::s.feet},none) {c with ps:=(r.ups.map (fun (q:Nat × a_)=>some q.2)=r.ups.map (fun (q:Nat × a_)=>az s.hp q.1))::c.ps}
      |false=> .bad 36
     | .pan _=> .bad 37
    |(false,c)=>match r.out with
     | .ret v=> .ok ({s with env:=qh s.env o.dst v,hp:=r.ups++s.hp,dec,feet:=foot::s.feet},none) c
     | .pan v=> .ok ({s with hp:=r.ups++s.hp,dec,feet:=foot::s.feet},some v) c
   |_=> .bad 30
  | .call {callee:= .builtin .recover,..}=>
   match s.md with
   | .nilI=> .ok ({s with env:=qh s.env o.dst .nilI,dec,feet:={rt,wt:=Ii o,rb:= [],wb:= []}::s.feet},none) c
   | .ifc t v=> .ok ({s with env:=qh s.env o.dst (.ifc t v),md:= .nilI,dec,feet:={rt,wt:=Ii o,rb:= [],wb:= []}::s.feet},none) c
   |_=> .bad 33
  | .defer {callee:= .value g,args,..}=>
   match ρ g with
   | .fn f first cap=> .ok ({s with env:=qh s.env o.dst .dead,dfs:=(f,first++args.toList.map ρ++cap)::s.dfs,dec,feet:={rt,wt:=Ii o,rb:= [],wb:= []}::s.feet},none) c
   |_=> .bad 34
  | .panic x=>
   match ρ x with
   | .ifc t v=> .ok ({s with dec},some (.ifc t v)) c
   |_=> .bad 31
  | op=>
   let fp:=WC ρ op
   let rd:=fun b=>match rO fp b with|true=>rdAll b|false=>none
   let decs:Operand→Option Bool:=fun| .tmp t=>az dec t|_=>none
   (match yf ρ op with|some n=>zh c (Xqq n 0)|none=> .ok false c).bind fun em c=>
   match opA ap nid ρ rd decs em op with
   |none=> .bad 32
   | some (v,ups,bs)=>(YC c bs).bind fun _ c=>
    match D6 c o.dst v with
    |(v,c)=>match D5 c o.dst ups with
     |(ups,c)=> .ok ({s with env:=qh s.env o.dst v,hp:=ups++s.hp,dec,feet:={rt,wt:=Ii o,rb:=fp,wb:=ups.map fun (q:Nat × a_)=>q.1}::s.feet},none) c
def xq (ap:AP) (H:b_) (ops:List Oper):List Oper→Nat→RS→Cx→R (RS × Option AV)
 | [],_,s,c=> .ok (s,none) c
 | o::r,nid,s,c=>(Qz ap H nid ops o s c).bind fun (s,p) c=>
  match p with
  |some v=> .ok (s,some v) c
  |none=>match s.feet with
   |f::_=>match f.wb.all (fun x=>Xx6 x (nid+4)) with|true=>xq ap H ops r (nid+4) s c|false=> .bad 43
   | []=> .bad 44
def Eu (a b:List Nat):Bool:=a.any (rO b)
def jY (a b:C9):Bool:=Eu a.wt b.rt||Eu a.wt b.wt||Eu a.rt b.wt||Eu a.wb b.rb||Eu a.wb b.wb||Eu a.rb b.wb
def EL (n:Nat) (bef:List Nat) (feet:List C9):Bool:=
 let l:=feet.reverse.zipIdx
 l.all fun (a,i)=>l.all fun (b,j)=> !(Xx6 i j)|| !(jY a b||b.wb.any fun x=>Xqm (n+4*i) x && Xx6 x (n+4*i+4))||(bef.getD j 0).testBit i
def DR (keep:List Nat) (env:iY):List Nat:=keep.flatMap fun t=>dR (env.get t)
def norm (base:Nat) (keep:List Nat) (s:St):St:=
 let env:=s.env
 let hp:=s.hp
 let rd:=az hp
 let ids:=tq rd 20 (jh (tq rd 20 (Xq6 base)++DR keep env++s.dfs.flatMap fun d=>bK d.2))
 let ids:=ids.filter fun b=>(rd b).isSome
 let ρ:Nat→Nat→Option (Nat × Nat):=fun b v=>match rd b with
  |some B=>match Xqq B.ver v with
   |true=>(qc ids b).map fun p=>(p,match Xx6 p base with|true=>v|false=>0)
   |false=>none
  |none=>none
 {env:=keep.map fun t=>(t,ren ρ (env.get t))
  hp:=ids.zipIdx.filterMap fun (b,p)=>(rd b).map fun B=>(p,{B with cells:=(match B.pr with|true=>B.cells|false=>mQ ρ B.cells),ver:=match Xx6 p base with|true=>B.ver|false=>0})
  md:=s.md
  dfs:=s.dfs.map fun d=>(d.1,mQ ρ d.2)}
def kU:Hp→Nat
 | []=>0
 |(b,_)::r=>match Xx6 b (kU r) with|true=>kU r|false=>b+1
def yc (ops:List Oper):Bool:=ops.zipIdx.all fun (o,i)=>o.after.toList.all fun e=> !Region.binds .any e||Xx6 e.on i
def Jf (ap:AP) (H:b_) (base:Nat) (keep:List Nat) (ops:List Oper) (draw:Bool) (s:St) (c:Cx):R (bD × St):=
 (xq ap H ops ops (kU s.hp) {env:=s.env,hp:=s.hp,md:=s.md,dfs:=s.dfs,dec:= [],feet:= []} c).bind fun (s',p) c=>
 match p with
 | some v=>match draw with
  |true=> .bad 40
  |false=>match (dR v).isEmpty with
   |true=> .ok (.panic v,norm base keep ⟨s'.env,s'.hp,s'.md,s'.dfs⟩) c
   |false=> .ok (.panic v,⟨s'.env,s'.hp,s'.md,s'.dfs⟩) c
 |none=>
  match !draw||(EL (kU s.hp) (Region.before ops.toArray).toList s'.feet && yc ops && Xqq s'.dfs.length s.dfs.length) with
  |true=> .ok (.normal,norm base keep ⟨s'.env,s'.hp,s'.md,s'.dfs⟩) c
  |false=> .bad 41
def PI (f:St→Cx→R (bD × St)):Nat→St→Cx→R (bD × St)
 |0,_,_=> .bad 50
 |n+1,s,c=>(f s c).bind fun (e,s) c=>match e with
  | .normal=>PI f n s c
  |e=> .ok (e,s) c
def lm (ap:AP) (H:b_) (base:Nat) (keep:List Nat) (lf:Nat):Code→St→Cx→R (bD × St)
 | .skip,s,c=> .ok (.normal,s) c
 | .label _,s,c=> .ok (.normal,s) c
 | .region _ ops draw,s,c=>Jf ap H base keep ops.toList draw s c
 | .seq a b,s,c=>(lm ap H base keep lf a s c).bind fun (e,s) c=>match e with
  | .normal=>lm ap H base keep lf b s c
  |e=> .ok (e,s) c
 | .cond t a b,s,c=>match qK ap s.env t with
  | .bool x=>(zh c x).bind fun x c=>match x with
   |true=>lm ap H base keep lf a s c
   |false=>lm ap H base keep lf b s c
  |_=> .bad 60
 | .block id b,s,c=>(lm ap H base keep lf b s c).bind fun (e,s) c=>match e with
  | .exit id'=>match Xqq id' id with|true=> .ok (.normal,s) c|false=> .ok (.exit id',s) c
  |e=> .ok (e,s) c
 | .loop b,s,c=>PI (lm ap H base keep lf b) lf s c
 | .exit id,s,c=> .ok (.exit id,s) c
 | .ret,s,c=> .ok (.ret,s) c
 | .scope b,s,c=>lm ap H base keep lf b s c
 |_,_,_=> .bad 61
def yG (ap:AP) (env:iY) (hp:Hp):ResultVar→Option (AV × List Bool)
 | .tmp t=>some (env.get t,[])
 | .cell a t=>(ap.tyAt t).bind fun ti=>(KI ti (az hp) (env.get a)).map fun (v,_,bs)=>(v,bs)
def fO (l:List Nat) (b:Nat):Nat:=(l.filter (Xqq b)).length
def YZ (base:Nat) (rd:Nat→Option a_) (v:AV):Option AV:=
 let fp:=tq rd 6 (jh (dR v))
 match fp.all (fun b=>Xqm base b) with
 |true=>frz (fun b=>match rO fp b with|true=>rd b|false=>none) 6 v
 |false=>none
def rJ (base:Nat) (rd:Nat→Option a_) (all:List Nat) (v:AV):Option AV:=
 let frzO (v:AV):Option AV:=match (dR v).all (fun b=>Xx6 b base) with|true=>some v|false=>YZ base rd v
 match v with
 | .ref b ver 0 n=>match rd b with
  |some B=>match Xqm base b && Xqq B.ver ver && !B.fro && B.pr && Xqq (fO all b) 1 && Xx6 0 B.esz with
   |true=>some (.own (B.cells.take (n*B.esz)) n B.esz)
   |false=>frzO v
  |none=>none
 |v=>frzO v
def ah (f:Func):Code:=f.body.getD .skip
def nX (md:AV) (args:List AV) (h:List a_):St:=
 {env:=args.zipIdx.map fun (x,i)=>(i,x),hp:=h.zipIdx.map fun (B,i)=>(i,B),md,dfs:= []}
def ahx:AV→Bool
 | .nilI=>true
 | .ifc _ _=>true
 |_=>false
def Ec (ap:AP) (H:b_):List (Nat × List AV)→AV→Hp→Cx→R (AV × Hp)
 | [],mode,hp,c=> .ok (mode,hp) c
 |(f,args)::r,mode,hp,c=>
  match ahx mode && (dR mode).isEmpty with
  |false=> .bad 78
  |true=>
  (tV ap H (az hp) (kU hp) mode f args c).bind fun q c=>
  match q.out with
  | .ret _=>Ec ap H r q.md (q.ups++hp) c
  | .pan _=> .bad 75
def Tv (rd:Nat→Option a_) (base:Nat):Nat:=(tq rd 20 (Xq6 base)).length
def vJ (ap:AP) (base:Nat) (F:Func) (env:iY) (hp:Hp) (c:Cx):R (kD × List a_):=
 let rd:=az hp
 let n:=Tv rd base
 match kz (yG ap env hp) F.results.toList,kz rd (Xq6 n) with
 |some vs,some h'=>
  match h'.all (fun B=>B.pr||(bK B.cells).all fun b=>Xx6 b n) with
  |false=> .bad 76
  |true=>
  (YC c (vs.flatMap fun (q:AV × List Bool)=>q.2)).bind fun _ c=>
  let all:=vs.flatMap fun (q:AV × List Bool)=>tq rd 6 (jh (dR q.1))
  match kz (rJ n rd all) (vs.map fun (q:AV × List Bool)=>q.1) with
  |some [v]=> .ok (.ret v,h') c
  |some l=> .ok (.ret (.tup l),h') c
  |none=> .bad 70
 |_,_=> .bad 71
def Ja (base:Nat) (v:AV) (hp:Hp) (c:Cx):R (kD × List a_):=
 let n:=Tv (az hp) base
 match rJ n (az hp) (tq (az hp) 6 (jh (dR v))) v,kz (az hp) (Xq6 n) with
 |some v,some h'=>
  match h'.all (fun B=>B.pr||(bK B.cells).all fun b=>Xx6 b n) with
  |false=> .bad 77
  |true=> .ok (.pan v,h') c
 |_,_=> .bad 72
def Ce (ap:AP) (H:b_) (base:Nat) (F:Func) (e:bD) (s:St) (c:Cx):R (kD × List a_ × AV):=
 let go (mode:AV):R (kD × List a_ × AV):=
  (Ec ap H s.dfs mode s.hp c).bind fun (mode,hp) c=>
  match mode with
  | .nilI=>(vJ ap base F s.env hp c).bind fun (o,h) c=> .ok (o,h,s.md) c
  | .ifc t v=>(Ja base (.ifc t v) hp c).bind fun (o,h) c=> .ok (o,h,s.md) c
  |_=> .bad 74
 match e with
 | .normal| .ret=>go .nilI
 | .panic (.ifc t v)=>match (dR v).isEmpty with|true=>go (.ifc t v)|false=> .bad 79
 |_=> .bad 73
def Ui (ap:AP) (H:b_) (lf:Nat) (md:AV) (F:AF) (args:List AV) (h:List a_) (c:Cx):R (kD × List a_ × AV):=
 match ah F.fn with
 | .seq (.region _ ops false) rest=>
  match ops.toList with
  | o ::r=>
   match o.op,o.guard,o.dst with
   | .call {callee:= .builtin .recover,..},none,some d=>
    let s0:=nX .dead args h
    (xq ap H (o::r) r (kU s0.hp) {env:=(d,md)::s0.env,hp:=s0.hp,md:= .dead,dfs:= [],dec:= [],feet:= []} c).bind fun (s,p) c=>
    match p with
    |some _=> .bad 81
    | none=>(lm ap H h.length F.keep lf rest (norm h.length F.keep ⟨s.env,s.hp,s.md,s.dfs⟩) c).bind fun (e,s) c=>
     match s.dfs with
     |_::_=> .bad 82
     | []=>match e with
      | .normal| .ret=>(vJ ap h.length F.fn s.env s.hp c).bind fun (o,h) c=> .ok (o,h,.nilI) c
      |_=> .bad 83
   |_,_,_=> .bad 84
  | []=> .bad 85
 |_=> .bad 86
def tN (ap:AP) (H:b_) (lf:Nat) (md:AV) (f:Nat) (args:List AV) (h:List a_) (c:Cx):R (kD × List a_ × AV):=
 match ap.fnAt f with
 |none=> .bad 80
 |some F=>match md with
  | .dead=>(lm ap H h.length F.keep lf (ah F.fn) (nX .dead args h) c).bind fun (e,s) c=>Ce ap H h.length F.fn e s c
  |md=>match ahx md && (dR md).isEmpty with|true=>Ui ap H lf md F args h c|false=> .bad 87
theorem wK {S:aQ}:∀ {l:List AV} {vs:List Value},dO S l vs→l.length=vs.length
 | [],[],_=>rfl
 |_::_,_::_,h=>by simp only [dO] at h;simp [wK h.2]
 | [],_::_,h=>by simp [dO] at h
 |_::_,[],h=>by simp [dO] at h
theorem bQ {g:dw} {m:aV} {S:aQ}:∀ {l:List AV} {vs:List Value},bg g m S l vs→l.length=vs.length
 | [],[],_=>rfl
 |_::_,_::_,h=>by simp only [bg] at h;simp [bQ h.2]
 | [],_::_,h=>by simp [bg] at h
 |_::_,[],h=>by simp [bg] at h
theorem ry {g:dw} {m:aV} {S:aQ}:∀ {l:List AV} {vs:List Value} (_:bg g m S l vs) (i:Nat) {x:AV},l[i]? =some x→∃ v,vs[i]? =some v∧VR g m S x v
 | [],[],_,i,x,hx=>by simp at hx
 |a::l,v::vs,h,0,x,hx=>by simp only [bg] at h;simp at hx;subst hx;exact ⟨v,rfl,h.1⟩
 |a::l,v::vs,h,i+1,x,hx=>by simp only [bg] at h;simp at hx;simpa using ry h.2 i hx
 | [],_::_,h,_,_,_=>by simp [bg] at h
 |_::_,[],h,_,_,_=>by simp [bg] at h
theorem lC {S:aQ}:∀ {l l':List AV} {vs vs':List Value},dO S l vs→dO S l' vs'→dO S (l++l') (vs++vs')
 | [],_,[],_,_,h'=>by simpa using h'
 |_::_,_,_::_,_,h,h'=>by simp only [dO] at h;simp only [Xq9,dO];exact ⟨h.1,lC h.2 h'⟩
 | [],_,_::_,_,h,_=>by simp [dO] at h
 |_::_,_,[],_,h,_=>by simp [dO] at h
theorem gY {g:dw} {m:aV} {S:aQ}:∀ {l l':List AV} {vs vs':List Value},bg g m S l vs→bg g m S l' vs'→bg g m S (l++l') (vs++vs')
 | [],_,[],_,_,h'=>by simpa using h'
 |_::_,_,_::_,_,h,h'=>by simp only [bg] at h;simp only [Xq9,bg];exact ⟨h.1,gY h.2 h'⟩
 | [],_,_::_,_,h,_=>by simp [bg] at h
 |_::_,_,[],_,h,_=>by simp [bg] at h
theorem kE {S:aQ}:∀ (n:Nat) {l:List AV} {vs:List Value},dO S l vs→dO S (l.take n) (vs.take n)
 |0,_,_,_=>by simp [dO]
 |n+1,[],[],_=>by simp [dO]
 |n+1,_::_,_::_,h=>by simp only [dO] at h;simp only [Xxu,dO];exact ⟨h.1,kE n h.2⟩
 |_+1,[],_::_,h=>by simp [dO] at h
 |_+1,_::_,[],h=>by simp [dO] at h
theorem qp {S:aQ}:∀ (n:Nat) {l:List AV} {vs:List Value},dO S l vs→dO S (l.drop n) (vs.drop n)
 |0,_,_,h=>by simpa using h
 |n+1,[],[],_=>by simp [dO]
 |n+1,_::_,_::_,h=>by simp only [dO] at h;simpa using qp n h.2
 |_+1,[],_::_,h=>by simp [dO] at h
 |_+1,_::_,[],h=>by simp [dO] at h
theorem qx {g:dw} {m:aV} {S:aQ}:∀ (n:Nat) {l:List AV} {vs:List Value},bg g m S l vs→bg g m S (l.take n) (vs.take n)
 |0,_,_,_=>by simp [bg]
 |n+1,[],[],_=>by simp [bg]
 |n+1,_::_,_::_,h=>by simp only [bg] at h;simp only [Xxu,bg];exact ⟨h.1,qx n h.2⟩
 |_+1,[],_::_,h=>by simp [bg] at h
 |_+1,_::_,[],h=>by simp [bg] at h
theorem tJ {g:dw} {m:aV} {S:aQ}:∀ (n:Nat) {l:List AV} {vs:List Value},bg g m S l vs→bg g m S (l.drop n) (vs.drop n)
 |0,_,_,h=>by simpa using h
 |n+1,[],[],_=>by simp [bg]
 |n+1,_::_,_::_,h=>by simp only [bg] at h;simpa using tJ n h.2
 |_+1,[],_::_,h=>by simp [bg] at h
 |_+1,_::_,[],h=>by simp [bg] at h
theorem kF.mono {S S':aQ} (h:oM S S') {b o:Nat} {vs:List Value} (hs:kF S b o vs):kF S' b o vs:=fun j u a=> ⟨h _ _ _ (hs j u a).1,(hs j u a).2⟩
mutual
theorem cZ {S S':aQ} (h:oM S S'):∀ (x:AV) {v:Value},PR S x v→PR S' x v
 | .int _ _,_,p=>by simpa only [PR] using p
 | .bool _,_,p=>by simpa only [PR] using p
 | .str _,_,p=>by simpa only [PR] using p
 | .nilS,_,p=>by simpa only [PR] using p
 | .nilP,_,p=>by simpa only [PR] using p
 | .nilF,_,p=>by simpa only [PR] using p
 | .nilI,_,p=>by simpa only [PR] using p
 | .dead,_,_=>by simp only [PR]
 | .agg l,_,p=>by
  simp only [PR] at p ⊢;obtain ⟨vs,e,q⟩:=p;exact ⟨vs,e,cO h l q⟩
 | .tup l,_,p=>by
  simp only [PR] at p ⊢;obtain ⟨vs,e,q⟩:=p;exact ⟨vs,e,cO h l q⟩
 | .sl xs n nn,_,p=>by
  simp only [PR] at p ⊢;obtain ⟨a,d,e,i,q⟩:=p;refine ⟨a,d,e,i, ?_⟩;rcases q with q|⟨b,o,vs,j,q,hs⟩
  ·exact .inl q
  ·exact .inr ⟨b,o,vs,j,cO h xs q,hs.mono h⟩
 | .pp xs off,_,p=>by
  simp only [PR] at p ⊢;obtain ⟨b,o,vs,e,q,hs⟩:=p;exact ⟨b,o,vs,e,cO h xs q,hs.mono h⟩
 | .mp ks vs,_,p=>by
  simp only [PR] at p ⊢;rcases p with p|⟨b,D,s,e,A,z,k,y⟩
  ·exact .inl p
  ·exact .inr ⟨b,D,s,e,h _ _ _ A,h _ _ _ z,cO h ks k,cO h vs y⟩
 | .fn f a c,_,p=>by
  simp only [PR] at p ⊢;obtain ⟨B,C,e,q,r⟩:=p;exact ⟨B,C,e,cO h a q,cO h c r⟩
 | .ifc t x,_,p=>by
  simp only [PR] at p ⊢;obtain ⟨u,e,q⟩:=p;exact ⟨u,e,cZ h x q⟩
 | .ref _ _ _ _,_,p=>by simp only [PR] at p
 | .ptr _ _ _,_,p=>by simp only [PR] at p
 | .mr _ _,_,p=>by simp only [PR] at p
 | .own _ _ _,_,p=>by simp only [PR] at p
theorem cO {S S':aQ} (h:oM S S'):∀ (l:List AV) {vs:List Value},dO S l vs→dO S' l vs
 | [],[],_=>by simp only [dO]
 |x::r,v::vs,p=>by simp only [dO] at p ⊢;exact ⟨cZ h x p.1,cO h r p.2⟩
 | [],_::_,p=>by simp [dO] at p
 |_::_,[],p=>by simp [dO] at p
end
mutual
theorem iw {g:dw} {m:aV} {S:aQ}:∀ (x:AV) {v:Value},PR S x v→VR g m S x v
 | .int _ _,_,p=>by simpa only [VR] using p
 | .bool _,_,p=>by simpa only [VR] using p
 | .str _,_,p=>by simpa only [VR] using p
 | .nilS,_,p=>by simpa only [VR] using p
 | .nilP,_,p=>by simpa only [VR] using p
 | .nilF,_,p=>by simpa only [VR] using p
 | .nilI,_,p=>by simpa only [VR] using p
 | .sl _ _ _,_,p=>by simpa only [VR] using p
 | .pp _ _,_,p=>by simpa only [VR] using p
 | .mp _ _,_,p=>by simpa only [VR] using p
 | .dead,_,_=>by simp only [VR]
 | .agg l,_,p=>by
  simp only [PR] at p;simp only [VR];obtain ⟨vs,e,q⟩:=p;exact ⟨vs,e,bT l q⟩
 | .tup l,_,p=>by
  simp only [PR] at p;simp only [VR];obtain ⟨vs,e,q⟩:=p;exact ⟨vs,e,bT l q⟩
 | .fn f a c,_,p=>by
  simp only [PR] at p;simp only [VR];obtain ⟨d,b,e,q,r⟩:=p;exact ⟨d,b,e,bT a q,bT c r⟩
 | .ifc t x,_,p=>by
  simp only [PR] at p;simp only [VR];obtain ⟨u,e,q⟩:=p;exact ⟨u,e,iw x q⟩
 | .ref _ _ _ _,_,p=>by simp only [PR] at p
 | .ptr _ _ _,_,p=>by simp only [PR] at p
 | .mr _ _,_,p=>by simp only [PR] at p
 | .own _ _ _,_,p=>by simp only [PR] at p
theorem bT {g:dw} {m:aV} {S:aQ}:∀ (l:List AV) {vs:List Value},dO S l vs→bg g m S l vs
 | [],[],_=>by simp only [bg]
 |x::r,v::vs,p=>by simp only [dO] at p;simp only [bg];exact ⟨iw x p.1,bT r p.2⟩
 | [],_::_,p=>by simp [dO] at p
 |_::_,[],p=>by simp [dO] at p
end
def sO (g:dw) (m:aV) (g':dw) (m':aV) (ρ:Nat→Nat→Option (Nat × Nat)):Prop:=
 ∀ b ver b' ver',ρ b ver=some (b',ver')→∀ B,g b=some B→ver≤B.ver→
  ∃ B',g' b'=some B'∧ver'≤B'.ver∧(B'.ver=ver'→B.ver=ver∧m' b'=m b∧B'.esz=B.esz)
mutual
theorem yZ {g g':dw} {m G:aV} {S S':aQ} {ρ:Nat→Nat→Option (Nat × Nat)} (j:oM S S') (h:sO g m g' G ρ):∀ (x:AV) {v:Value},VR g m S x v→VR g' G S' (ren ρ x) v
 | .int k n,_,p=>by simp only [VR] at p;simp only [ren,VR];exact cZ j _ p
 | .bool _,_,p=>by simp only [VR] at p;simp only [ren,VR];exact cZ j _ p
 | .str _,_,p=>by simp only [VR] at p;simp only [ren,VR];exact cZ j _ p
 | .nilS,_,p=>by simp only [VR] at p;simp only [ren,VR];exact cZ j _ p
 | .nilP,_,p=>by simp only [VR] at p;simp only [ren,VR];exact cZ j _ p
 | .nilF,_,p=>by simp only [VR] at p;simp only [ren,VR];exact cZ j _ p
 | .nilI,_,p=>by simp only [VR] at p;simp only [ren,VR];exact cZ j _ p
 | .sl _ _ _,_,p=>by simp only [VR] at p;simp only [ren,VR];exact cZ j _ p
 | .pp _ _,_,p=>by simp only [VR] at p;simp only [ren,VR];exact cZ j _ p
 | .mp _ _,_,p=>by simp only [VR] at p;simp only [ren,VR];exact cZ j _ p
 | .dead,_,_=>by simp only [ren,VR]
 | .own _ _ _,_,p=>by simp only [VR] at p
 | .agg l,_,p=>by
  simp only [VR] at p;simp only [ren,VR];obtain ⟨vs,e,q⟩:=p;exact ⟨vs,e,kG j h l q⟩
 | .tup l,_,p=>by
  simp only [VR] at p;simp only [ren,VR];obtain ⟨vs,e,q⟩:=p;exact ⟨vs,e,kG j h l q⟩
 | .fn f a c,_,p=>by
  simp only [VR] at p;simp only [ren,VR];obtain ⟨H,J,e,q,r⟩:=p;exact ⟨H,J,e,kG j h a q,kG j h c r⟩
 | .ifc t x,_,p=>by
  simp only [VR] at p;simp only [ren,VR];obtain ⟨u,e,q⟩:=p;exact ⟨u,e,yZ j h x q⟩
 | .ref b ver i n,_,p=>by
  simp only [VR] at p;simp only [ren];obtain ⟨B,C,z,s,q⟩:=p;cases hρ:ρ b ver with
  |none=>simp only [VR]
  |some bv=>
   obtain ⟨D,d⟩:=bv;obtain ⟨B',o,y,F⟩:=h b ver D d hρ B C z;simp only [VR];refine ⟨B',o,y,s,fun e=> ?_⟩;obtain ⟨A,E,I⟩:=F e;rw [E,I];exact q A
 | .ptr b ver off,_,p=>by
  simp only [VR] at p;simp only [ren];obtain ⟨B,C,z,s,q⟩:=p;cases hρ:ρ b ver with
  |none=>simp only [VR]
  |some bv=>
   obtain ⟨D,d⟩:=bv;obtain ⟨B',o,y,F⟩:=h b ver D d hρ B C z;simp only [VR];refine ⟨B',o,y,s,fun e=> ?_⟩;obtain ⟨A,E,_⟩:=F e;rw [E];exact q A
 | .mr b ver,_,p=>by
  simp only [VR] at p;simp only [ren];obtain ⟨B,C,z,s,q⟩:=p;cases hρ:ρ b ver with
  |none=>simp only [VR]
  |some bv=>
   obtain ⟨D,d⟩:=bv;obtain ⟨B',o,y,F⟩:=h b ver D d hρ B C z;simp only [VR];refine ⟨B',o,y,s,fun e=> ?_⟩;obtain ⟨A,E,_⟩:=F e;rw [E];exact q A
theorem kG {g g':dw} {m a:aV} {S S':aQ} {ρ:Nat→Nat→Option (Nat × Nat)} (b:oM S S') (h:sO g m g' a ρ):∀ (l:List AV) {vs:List Value},bg g m S l vs→bg g' a S' (mQ ρ l) vs
 | [],[],_=>by simp only [mQ,bg]
 |x::r,v::vs,p=>by simp only [bg] at p;simp only [mQ,bg];exact ⟨yZ b h x p.1,kG b h r p.2⟩
 | [],_::_,p=>by simp [bg] at p
 |_::_,[],p=>by simp [bg] at p
end
def Ge (g:dw) (m:aV) (g':dw) (m':aV):Prop:=
 ∀ b B,g b=some B→∃ B',g' b=some B'∧B'.esz=B.esz∧((B'.ver=B.ver∧m' b=m b)∨B.ver<B'.ver)
theorem Ge.refl (g:dw) (m:aV):Ge g m g m:=fun _ B h=> ⟨B,h,rfl,.inl ⟨rfl,rfl⟩⟩
theorem Ge.trans {g g' i:dw} {m k a:aV} (h:Ge g m g' k) (r:Ge g' k i a):Ge g m i a:=by
 intro b B p;obtain ⟨B',j,e,c⟩:=h b B p;obtain ⟨B'',f,e',s⟩:=r b B' j;refine ⟨B'',f,e'.trans e, ?_⟩;rcases c with ⟨o,q⟩|c<;>rcases s with ⟨n,l⟩|d
 ·exact .inl ⟨n.trans o,l.trans q⟩
 ·exact .inr (by omega)
 ·exact .inr (by omega)
 ·exact .inr (by omega)
mutual
theorem oU {g g':dw} {m E:aV} {S S':aQ} (o:oM S S') (h:Ge g m g' E):∀ (x:AV) {v:Value},VR g m S x v→VR g' E S' x v
 | .int k n,_,p=>by simp only [VR] at p ⊢;exact cZ o _ p
 | .bool _,_,p=>by simp only [VR] at p ⊢;exact cZ o _ p
 | .str _,_,p=>by simp only [VR] at p ⊢;exact cZ o _ p
 | .nilS,_,p=>by simp only [VR] at p ⊢;exact cZ o _ p
 | .nilP,_,p=>by simp only [VR] at p ⊢;exact cZ o _ p
 | .nilF,_,p=>by simp only [VR] at p ⊢;exact cZ o _ p
 | .nilI,_,p=>by simp only [VR] at p ⊢;exact cZ o _ p
 | .sl _ _ _,_,p=>by simp only [VR] at p ⊢;exact cZ o _ p
 | .pp _ _,_,p=>by simp only [VR] at p ⊢;exact cZ o _ p
 | .mp _ _,_,p=>by simp only [VR] at p ⊢;exact cZ o _ p
 | .dead,_,_=>by simp only [VR]
 | .own _ _ _,_,p=>by simp only [VR] at p
 | .agg l,_,p=>by
  simp only [VR] at p ⊢;obtain ⟨vs,e,q⟩:=p;exact ⟨vs,e,lX o h l q⟩
 | .tup l,_,p=>by
  simp only [VR] at p ⊢;obtain ⟨vs,e,q⟩:=p;exact ⟨vs,e,lX o h l q⟩
 | .fn f a c,_,p=>by
  simp only [VR] at p ⊢;obtain ⟨F,G,e,q,r⟩:=p;exact ⟨F,G,e,lX o h a q,lX o h c r⟩
 | .ifc t x,_,p=>by
  simp only [VR] at p ⊢;obtain ⟨u,e,q⟩:=p;exact ⟨u,e,oU o h x q⟩
 | .ref b ver i n,_,p=>by
  simp only [VR] at p ⊢;obtain ⟨B,s,C,j,q⟩:=p;obtain ⟨B',d,A,z⟩:=h b B s;rcases z with ⟨D,y⟩|c
  ·refine ⟨B',d,by omega,j,fun e=> ?_⟩;rw [y,A];exact q (by omega)
  ·exact ⟨B',d,by omega,j,fun e=>by omega⟩
 | .ptr b ver off,_,p=>by
  simp only [VR] at p ⊢;obtain ⟨B,s,C,j,q⟩:=p;obtain ⟨B',d,A,z⟩:=h b B s;rcases z with ⟨D,y⟩|c
  ·refine ⟨B',d,by omega,j,fun e=> ?_⟩;rw [y];exact q (by omega)
  ·exact ⟨B',d,by omega,j,fun e=>by omega⟩
 | .mr b ver,_,p=>by
  simp only [VR] at p ⊢;obtain ⟨B,s,C,j,q⟩:=p;obtain ⟨B',d,A,z⟩:=h b B s;rcases z with ⟨D,y⟩|c
  ·refine ⟨B',d,by omega,j,fun e=> ?_⟩;rw [y];exact q (by omega)
  ·exact ⟨B',d,by omega,j,fun e=>by omega⟩
theorem lX {g g':dw} {m a:aV} {S S':aQ} (b:oM S S') (h:Ge g m g' a):∀ (l:List AV) {vs:List Value},bg g m S l vs→bg g' a S' l vs
 | [],[],_=>by simp only [bg]
 |x::r,v::vs,p=>by simp only [bg] at p ⊢;exact ⟨oU b h x p.1,lX b h r p.2⟩
 | [],_::_,p=>by simp [bg] at p
 |_::_,[],p=>by simp [bg] at p
end
def TT (ap:AP) (S:aQ):Prop:=∀ k xs,(ap.gl[k]?).join=some xs→∃ vs,dO S xs vs∧kF S k 0 vs
structure iU (P:Program) (ap:AP):Prop where
 ty:∀ t ti,ap.tyAt t=some ti→Xo P t=some ti
def xe (es:Array MapEntry):Array Value:=#[.agg (es.map (·.key)),.agg (es.map (·.val))]
def jB (w:World) (k z:Nat) (cur:Array Value) (e:TypeId):Prop:=
 (z ≠ iL∧w.heap[k]? =some (.cells cur e (0,0)))∨(z=iL∧∃ es clk,w.heap[k]? =some (.map es clk)∧cur=xe es)
def kH (w:World) (k o:Nat):Option Value:=match w.heap[k]? with
 |some (.map es _)=>(xe es)[o]?
 |_=>match w.cell? ⟨k,o,none⟩ with|some v=>if v.oneCell' then some v else none|none=>none
theorem jB.of {w:World} {k z:Nat} {cur:Array Value} {e:TypeId} (a:z ≠ iL) (h:w.heap[k]? =some (.cells cur e (0,0))):jB w k z cur e:= .inl ⟨a,h⟩
theorem jB.cells {w:World} {k z:Nat} {cur:Array Value} {e:TypeId} (h:jB w k z cur e) (a:z ≠ iL):w.heap[k]? =some (.cells cur e (0,0)):=by
 rcases h with h|h
 ·exact h.2
 ·exact absurd h.1 a
theorem jB.map {w:World} {k z:Nat} {cur:Array Value} {e:TypeId} (h:jB w k z cur e) (a:z=iL):∃ es clk,w.heap[k]? =some (.map es clk)∧cur=xe es:=by
 rcases h with h|h
 ·exact absurd a h.1
 ·exact h.2
theorem jB.same {w w':World} {k z:Nat} {cur:Array Value} {e:TypeId} (h:jB w k z cur e) (a:w'.heap[k]? =w.heap[k]?):jB w' k z cur e:=by
 unfold jB;rw [a];exact h
theorem jB.lt {w:World} {k z:Nat} {cur:Array Value} {e:TypeId} (h:jB w k z cur e):k<w.heap.size:=by
 rcases h with ⟨_,h⟩|⟨_,b,a,h,_⟩<;>exact (Array.getElem?_eq_some_iff.1 h).1
theorem MW {w w':World} {k o:Nat} (b:w'.heap[k]? =w.heap[k]?):kH w' k o=kH w k o:=by
 unfold kH;rw [b,World.cell?_of_block (w:=w) (a:=⟨k,o,none⟩) b]
theorem zi {w:World} {k o:Nat} {v:Value} (h:kH w k o=some v) (a:v.oneCell'=true):w.cell? ⟨k,o,none⟩=some v:=by
 unfold kH at h;split at h
 ·rename_i d b f;exfalso;unfold xe at h;rcases (show o=0∨o=1∨2≤o by omega) with rfl|rfl|ho
  ·cases h;cases a
  ·cases h;cases a
  ·rw [Array.getElem?_eq_none (by simpa using ho)] at h;cases h
 ·split at h
  ·rename_i e c;split at h
   ·cases h;exact c
   ·cases h
  ·cases h
theorem Dt {w:World} {k o:Nat} {v:Value} (h:w.cell? ⟨k,o,none⟩=some v) (a:v.oneCell'=true):kH w k o=some v:=by
 unfold kH;split
 ·rename_i d b c;unfold World.cell? at h;simp only [c] at h;cases h
 ·rw [h];simp only;rw [if_pos a]
theorem uT {w:World} {k o:Nat} {v:Value} (h:kH w k o=some v) (d:v.oneCell'=false):∃ b a,w.heap[k]? =some (.map b a)∧(xe b)[o]? =some v:=by
 unfold kH at h;split at h
 ·rename_i b a e;exact ⟨b,a,e,h⟩
 ·split at h
  ·split at h
   ·rename_i c;cases h;rw [d] at c;cases c
   ·cases h
  ·cases h
theorem Ul {w:World} {k o:Nat} {v:Value} (h:kH w k o=some v):k<w.heap.size:=by
 cases a:v.oneCell' with
 |true=>exact World.block_lt_of_cell? w _ (zi h a)
 |false=>
  obtain ⟨_,_,b,_⟩:=uT h a;exact (Array.getElem?_eq_some_iff.1 b).1
structure QN (g:dw) (m:aV) (S:aQ) (w:World) (B:a_) (k c:Nat):Prop where
 lies:∃ cur e vs rest,jB w k B.esz cur e∧cur.toList=vs++rest∧(B.pr=true→dO S B.cells vs)∧bg g m S B.cells vs∧(B.esz ≠ iL→∀ u ∈ vs,u.oneCell'=true)∧(0<B.esz→B.esz ≠ iL→cur.size=c*B.esz∧c≤maxLen)
 fz0:B.fro=false→B.fz=0
 fzle:B.fz≤B.cells.length
structure bP (ap:AP) (g:dw) (m:aV) (S:aQ) (w:World):Prop where
 inj:∀ b b' B B',g b=some B→g b'=some B'→(m b).1=(m b').1→b=b'
 blk:∀ b B,g b=some B→QN g m S w B (m b).1 (m b).2
 sealed:∀ k o v,S k o=some v→kH w k o=some v
 own:∀ b B,g b=some B→∀ o v,S (m b).1 o=some v→B.fro=true∧o<B.fz
 glob:TT ap S
structure Fr (g:dw) (m:aV) (S:aQ) (w:World) (g':dw) (m':aV) (S':aQ) (w':World):Prop where
 ge:Ge g m g' m'
 sle:oM S S'
 os:w'.os=w.os
 tape:w'.tape=w.tape
 output:w'.output=w.output
 size:w.heap.size≤w'.heap.size
 rest:∀ k,k<w.heap.size→(∀ b B,g b=some B→(m b).1 ≠ k)→w'.heap[k]? =w.heap[k]?
 img:∀ b B,g' b=some B→w.heap.size≤(m' b).1∨(∃ B0,g b=some B0∧(m' b).1=(m b).1)
 sealN:∀ k o v,S' k o=some v→S k o=some v∨w.heap.size≤k∨∃ b B,g b=some B∧(m b).1=k
theorem Fr.refl (g:dw) (m:aV) (S:aQ) (w:World):Fr g m S w g m S w:=
 ⟨Ge.refl g m,oM.refl S,rfl,rfl,rfl,Δ _,fun _ _ _=>rfl,fun _ B h=> .inr ⟨B,h,rfl⟩,fun _ _ _ h=> .inl h⟩
theorem Fr.trans {g g' l:dw} {m r i:aV} {S S' S'':aQ} {w w' n:World} (h:Fr g m S w g' r S' w') (d:Fr g' r S' w' l i S'' n):Fr g m S w l i S'' n:=by
 refine ⟨h.ge.trans d.ge,h.sle.trans d.sle,d.os.trans h.os,d.tape.trans h.tape,d.output.trans h.output,Xqy h.size d.size, ?_, ?_, ?_⟩
 ·intro k t s;rw [d.rest k (Nat.lt_of_lt_of_le t h.size) ?_,h.rest k t s];intro b B j e;rcases h.img b B j with c|⟨B0,a,c⟩
  ·omega
  ·exact s b B0 a (c ▸ e)
 ·intro b B j;rcases d.img b B j with c|⟨B0,a,c⟩
  ·exact .inl (Xqy h.size c)
  ·rcases h.img b B0 a with p|⟨B1,q,p⟩
   ·exact .inl (c ▸ p)
   ·exact .inr ⟨B1,q,c.trans p⟩
 ·intro k o v u;rcases d.sealN k o v u with f|f|⟨b,B,j,f⟩
  ·exact h.sealN k o v f
  ·exact .inr (.inl (Xqy h.size f))
  ·rcases h.img b B j with c|⟨B0,a,c⟩
   ·exact .inr (.inl (f ▸ c))
   ·exact .inr (.inr ⟨b,B0,a,by rw [← f,c]⟩)
theorem bP.lt {ap:AP} {g:dw} {m:aV} {S:aQ} {w:World} (h:bP ap g m S w) {b:Nat} {B:a_} (a:g b=some B):(m b).1<w.heap.size:=by
 obtain ⟨cur,e,vs,rest,c,_⟩:=(h.blk b B a).lies;exact c.lt
theorem bP.one {ap:AP} {g:dw} {m:aV} {S:aQ} {w:World} (h:bP ap g m S w) {k o:Nat} {v:Value} (a:S k o=some v) (b:v.oneCell'=true):w.cell? ⟨k,o,none⟩=some v:=zi (h.sealed k o v a) b
theorem tX {w:World} {k j:Nat} {cur:Array Value} {e:TypeId} {a:Nat × Nat} (h:w.heap[k]? =some (.cells cur e a)):w.cell? ⟨k,j,none⟩=cur.toList[j]? :=by
 rw [cell_of_row w k j cur e a h];simp
theorem jB.get {w:World} {k z j:Nat} {cur:Array Value} {e:TypeId} {u:Value} (h:jB w k z cur e) (a:cur.toList[j]? =some u) (c:z ≠ iL→u.oneCell'=true):kH w k j=some u:=by
 rcases h with ⟨d,h⟩|⟨_,f,b,h,rfl⟩
 ·exact Dt (by rw [tX h];exact a) (c d)
 ·unfold kH;rw [h];simpa using a
theorem fP {a b:IntKind} (h:iO a b=true):a=b:=by cases a<;>cases b<;>first|rfl|(exact absurd h (by decide))
theorem aJ {a b:Nat} (h:Xqq a b=true):a=b:=Nat.eq_of_beq_eq_true h
theorem fU {a b:Nat} (h:Xqm a b=true):a≤b:=Nat.le_of_ble_eq_true h
theorem fV {a b:Nat} (h:Xx6 a b=true):a<b:=by
 have:Xqm (a+1) b=true:=h;exact fU this
theorem acm {S:aQ} {x:AV} {v:Value} (h:PR S x v) (a:n_ x=true):v.oneCell'=true:=by
 cases x<;>simp only [PR] at h<;>first
  |(subst h;rfl)
  |(rcases h with ⟨rfl,_⟩|⟨_,_,_,rfl,_⟩<;>rfl)
  |(obtain ⟨_,_,_,rfl,_⟩:=h;rfl)
  |(obtain ⟨_,_,rfl,_⟩:=h;rfl)
  |(obtain ⟨_,rfl,_⟩:=h;first|rfl|exact absurd a (by simp [n_]))
  |(exact absurd a (by simp [n_]))
theorem ML {g:dw} {m:aV} {S:aQ} {x:AV} {v:Value} (h:VR g m S x v) (a:n_ x=true):v.oneCell'=true:=by
 cases x<;>simp only [VR] at h<;>first
  | (exact acm h a)
    |(obtain ⟨_,_,_,⟨_,_,rfl⟩,_⟩:=h;rfl)
  |(obtain ⟨_,_,_,⟨_,_,_,rfl⟩,_⟩:=h;rfl)
  |(obtain ⟨_,_,rfl,_⟩:=h;rfl)
  |(obtain ⟨_,rfl,_⟩:=h;first|rfl|exact absurd a (by simp [n_]))
  |(exact absurd a (by simp [n_]))
end AM
namespace AM
open Go
structure BV (P:Program) (t:Nat) (ti:TI) (i:TypeInfo) (d:TypeDesc) (z:Value):Prop where
 info:P.info? t=some i
 und:P.underlying t=some d
 d_eq:ti.d=jU P (some d)
 size:ti.size=i.size
 bytes:ti.bytes=i.bytes
 zero:i.zero=some z
 zcells:ti.zero=z.cells.toList.map EJ
 zleaf:∀ x ∈ ti.zero,n_ x=true
 zsize:z.cells.size=i.size
 lks:ti.lks.length=i.size
 pos:0<i.size
 zagg:afC i d=true
 fld:Vh P d=true
 small:i.size<iL
theorem dM {P:Program} {ap:AP} (f:iU P ap) {t:Nat} {e:TI} (h:ap.tyAt t=some e):∃ i d z,BV P t e i d z:=by
 have a:=f.ty t e h;unfold Xo at a;cases b:P.info? t with
 |none=>simp [b] at a
 | some i=>
  cases hd:P.underlying t with
  |none=>simp [b,hd] at a
  | some d=>
   simp only [b,hd] at a;split at a
   ·rename_i l;simp only [ο] at l;obtain ⟨⟨⟨⟨⟨⟨n,k⟩,r⟩,q⟩,u⟩,o⟩,p⟩:=l;cases c:i.zero with
    |none=>simp [c] at o
    | some z=>
     cases a;have j:FO i=z.cells.toList.map EJ:=by simp [FO,c]
     refine ⟨i,d,z,b,hd,rfl,rfl,rfl,c,j, ?_, ?_,aJ n,fV u,k.1,k.2,fV p⟩
     ·intro x s;exact List.all_eq_true.1 r x s
     ·have:=aJ q;rw [j] at this;simpa using this
   ·cases a
theorem gV {P:Program} {d:TypeDesc} {e:Nat} (h:jU P (some d)= .slice e):d= .slice e:=by cases d<;>simp [jU] at h;subst h;rfl
theorem yN {P:Program} {d:TypeDesc} {n e:Nat} (h:jU P (some d)= .array n e):d= .array n e:=by cases d<;>simp [jU] at h;obtain ⟨rfl,rfl⟩:=h;rfl
theorem xx {P:Program} {d:TypeDesc} (h:jU P (some d)= .str):d= .string:=by cases d<;>simp [jU] at h;rfl
theorem Xl {P:Program} {d:TypeDesc} {k:IntKind} (h:jU P (some d)= .int k):d= .int k:=by cases d<;>simp [jU] at h;subst h;rfl
theorem aa8 {P:Program} {d:TypeDesc} (h:jU P (some d)= .bool):d= .bool:=by cases d<;>simp [jU] at h;rfl
theorem vN {P:Program} {d:TypeDesc} {a:List (Nat × Nat × Nat)} (h:jU P (some d)= .struct a):
  ∃ fields:Array Field,d= .struct fields∧a=fields.toList.map fun f=>(f.offset,f.type,match P.info? f.type with|some i=>i.size|none=>0):=by
 cases d<;>simp [jU] at h
 exact ⟨_,rfl,h.symm⟩
theorem Fq {P:Program} (d:TypeDesc):IJ (jU P (some d))=d.isRow:=by cases d<;>simp [jU,IJ,TypeDesc.isRow]
theorem Gm (S:aQ) (v:Value):PR S (I4 v) v:=by
 cases v<;>simp only [I4,PR]
 case pointer a=>cases a<;>simp only [PR]
 case map a=>
  cases a with
  |none=>simp [PR]
  |some _=>simp only [PR]
 case slice a n c=>
  split<;>simp only [PR]
theorem JD (S:aQ) (v:Value):PR S (EJ v) v:=by
 cases v<;>simp only [EJ]<;>try exact Gm S _
 case agg cs=>
  simp only [PR];refine ⟨cs.toList,by simp, ?_⟩
  induction cs.toList with
  |nil=>simp [dO]
  |cons c r ih=>simp only [Xqi,dO];exact ⟨Gm S c,ih⟩
 case tuple vs=>
  split
  ·rename_i h;simp only [PR];exact ⟨[],by rw [← h],by simp [dO]⟩
  ·simp only [PR]
theorem wo (S:aQ):∀ l:List Value,dO S (l.map EJ) l
 | []=>by simp [dO]
 |v::r=>by simp only [Xqi,dO];exact ⟨JD S v,wo S r⟩
theorem acn {g:dw} {m:aV} {S:aQ} {k:LK} {c:AV} {v:Value} (h:VR g m S c v) (f:chk k c=true):VR g m S (eta k c) v:=by
 cases k<;>cases c<;>simp [chk] at f<;>simp only [eta,AV.toInt,AV.toBool,AV.toStr,AV.slX,AV.slN]<;>try exact h
 ·rw [fP f];exact h
 ·simp only [VR,PR] at h ⊢;subst h;exact ⟨none,0,rfl,Δ _,.inl ⟨fun _=>trivial,trivial,trivial,rfl⟩⟩
 ·simp only [VR,PR] at h ⊢;obtain ⟨a,d,e,b,q⟩:=h;refine ⟨a,d,e,b, ?_⟩;rcases q with ⟨n,i,j,l⟩|q
  ·exact .inl ⟨fun _=>trivial,i,j,l⟩
  ·exact .inr q
theorem AU {k:LK} {c:AV} (h:chk k c=true):c ≠ .dead:=by intro e;subst e;cases k<;>simp [chk] at h
theorem getD_some {a:List AV} {i:Nat} (h:a.getD i .dead ≠ .dead):a[i]? =some (a.getD i .dead):=by
 rw [π] at h ⊢;cases b:a[i]? with
 |none=>simp [b] at h
 |some x=>simp
theorem nV (b:List AV) (a:Nat):(b.drop a).headD .dead=b.getD a .dead:=by
 rw [Xwb,Xv9,π]
theorem SE (ty:Bool) (b:List AV) (a:Nat):uH ty [] b a= []:=rfl
theorem xk (ty:Bool) (k:LK) (ks:List LK) (b:List AV) (a:Nat):uH ty (k::ks) b a=(match ty with|true=>eta k (b.getD a .dead)|false=>b.getD a .dead)::uH ty ks b (a+1):=by
 show _::Lj ty ks (b.drop a).tail=_::Lj ty ks (b.drop (a+1));rw [Xkg];cases ty<;>simp only [nV]
theorem QW (ty:Bool) (k:LK) (ks:List LK) (b:List AV) (a:Nat):Ib ty (k::ks) b a=(match ty with|true=>chk k (b.getD a .dead)|false=>chk .oth (b.getD a .dead))::Ib ty ks b (a+1):=by
 show _::Um ty ks (b.drop a).tail=_::Um ty ks (b.drop (a+1));rw [Xkg];cases ty<;>simp only [nV]
theorem pO {g:dw} {m:aV} {S:aQ} (ty:Bool) {f:List AV} {vs:List Value} (l:bg g m S f vs):∀ (lks:List LK) (a:Nat),(∀ b ∈ Ib ty lks f a,b=true)→
  ∃ e:List Value,e.length=lks.length∧(∀ j u,e[j]? =some u→vs[a+j]? =some u)∧bg g m S (uH ty lks f a) e:=by
 intro lks
 induction lks with
 |nil=>exact fun a _=> ⟨[],rfl,fun _ _ h=>by simp at h,by simp [SE,bg]⟩
 | cons k ks ih=>
  intro a h;simp only [QW,List.mem_cons,forall_eq_or_imp] at h;obtain ⟨e,n,o,p⟩:=ih (a+1) h.2;have key:∃ v,vs[a]? =some v∧VR g m S ((uH ty (k::ks) f a).headD .dead) v:=by
   rw [xk];cases ty with
   |true=>
    obtain ⟨v,d,c⟩:=ry l a (getD_some (AU h.1));exact ⟨v,d,acn c h.1⟩
   |false=>
    obtain ⟨v,d,c⟩:=ry l a (getD_some (AU h.1));exact ⟨v,d,c⟩
  obtain ⟨v,d,c⟩:=key;rw [xk] at c;refine ⟨v::e,by simp [n], ?_, ?_⟩
  ·intro j u i;cases j with
   |zero=>simp at i;subst i;simpa using d
   |succ j=>simp at i;rw [show a+(j+1)=a+1+j from by omega];exact o j u i
  ·simp only [xk,bg];exact ⟨c,p⟩
theorem En {P:Program} {w:World} {t:Nat} {h:TI} {i:TypeInfo} {d:TypeDesc} {z:Value} (f:BV P t h i d z) {g:dw} {m:aV} {S:aQ} {cs:List AV} {e:List Value} {k a:Nat}
  (hl:e.length=h.lks.length) (hu:∀ j u,e[j]? =some u→w.cell? ⟨k,a+j,none⟩=some u) (hr:bg g m S cs e) {v:AV} (hv:qU h cs=some v):
  ∃ cv,(loadVar t ⟨k,a,none⟩).run P w= .ok cv w∧VR g m S v cv:=by
 unfold qU at hv;rw [f.d_eq,Fq] at hv;split at hv
 ·rename_i b;cases hv;refine ⟨.agg e.toArray,run_loadVar_mid w k a t e d hu f.und b (by simp [f.info,hl,f.lks]), ?_⟩;simp only [VR];exact ⟨e,rfl,hr⟩
 ·rename_i b;split at hv
  ·rename_i c;cases hv;cases e with
   |nil=>simp [bg] at hr
   | cons u r=>
    simp only [bg] at hr;refine ⟨u, ?_,hr.1⟩;have l:(isAgg t).run P w= .ok false w:=by
     unfold isAgg;rw [Sem.run_bind,run_underlying f.und w];cases d<;>simp_all [TypeDesc.isRow]
    have n:=hu 0 u rfl;simp only [Xq0] at n;simp [loadVar,l,n]
  ·cases hv
theorem bind_some {α β:Type} {x:Option α} {f:α→Option β} {b:β} (h:x.bind f=some b):∃ a,x=some a∧f a=some b:=by
 cases x with
 |none=>simp at h
 |some a=>exact ⟨a,rfl,h⟩
theorem aO {v b:AV} {bs a:List Bool} {ups:List (Nat × a_)} (h:bi v bs=some (b,ups,a)):b=v∧ups= []∧a=bs:=by
 unfold bi at h;cases h;exact ⟨rfl,rfl,rfl⟩
section
variable {P:Program} {ap:AP} {g:dw} {m:aV} {S:aQ} {w:World}
theorem A_ (L:bP ap g m S w) {rd:dw} (E:∀ b B,rd b=some B→g b=some B) {t:Nat} {x:TI} {i:TypeInfo} {d:TypeDesc} {z:Value} (M:BV P t x i d z)
  {p v:AV} {cp:Value} (hp:VR g m S p cp) {ups:List (Nat × a_)} {bs:List Bool} (h:KI x rd p=some (v,ups,bs)) (hbs:∀ b ∈ bs,b=true):
  ups= []∧∃ cv,(Instr.loadAt t cp).run P w= .ok cv w∧VR g m S v cv:=by
 unfold KI at h;split at h
 ·rename_i T f;obtain ⟨R,l,h⟩:=bind_some h;obtain ⟨rfl,rfl,rfl⟩:=aO h;simp only [VR,PR] at hp;obtain ⟨b,o,vs,rfl,hp,hs⟩:=hp;obtain ⟨N,y,G,I⟩:=pO (g:=g) (m:=m) true (bT _ hp) x.lks f hbs;obtain ⟨cv,F,A⟩:=En (w:=w) M (k:=b) (a:=o+f) y (fun j u D=>by
   have K:=hs (f+j) u (G j u D);have:=L.one K.1 K.2;rw [Xzc];exact this) I l
  exact ⟨rfl,cv,by simpa [Instr.loadAt,Instr.sureAddr] using F,A⟩
 ·rename_i b ver f;obtain ⟨B,Q,h⟩:=bind_some h;split at h
  ·rename_i c;obtain ⟨R,l,h⟩:=bind_some h;obtain ⟨rfl,rfl,rfl⟩:=aO h;simp only [VR] at hp;obtain ⟨B',s,_,_,q⟩:=hp;have n:=E b B Q;rw [n] at s;cases s;simp only [ο,Xqo] at c;have H:B.esz ≠ iL:=fun e=>by rw [e] at c;exact absurd c.2 (by decide)
   have q:=q (aJ c.1);subst q;obtain ⟨cur,e,vs,rest,J,O,_,C,_⟩:=(L.blk b B n).lies;have J:=J.cells H;obtain ⟨N,y,G,I⟩:=pO _ C x.lks f hbs;obtain ⟨cv,F,A⟩:=En (w:=w) M (k:=(m b).1) (a:=f) y (fun j u D=>by
    have r:=G j u D;rw [tX J,O,List.getElem?_append_left (List.getElem?_eq_some_iff.1 r).1];exact r) I l
   exact ⟨rfl,cv,by simpa [Instr.loadAt,Instr.sureAddr] using F,A⟩
  ·cases h
 ·cases h
theorem EK {p f:AV} {d:Value} (hp:VR g m S p d) {o:Nat} (h:V4 p o=some f):∃ a:Addr,d= .pointer (some a)∧VR g m S f (.pointer (some (a.add o))):=by
 unfold V4 at h;split at h<;>cases h
 ·rename_i b ver c;simp only [VR] at hp;obtain ⟨B,n,i,⟨k,l,rfl⟩,q⟩:=hp;refine ⟨_,rfl, ?_⟩;simp only [VR];refine ⟨B,n,i,⟨k,l+o,by rw [Addr.add_mid]⟩,fun e=> ?_⟩;have q:=q e;simp only [Value.pointer.injEq,Option.some.injEq,Addr.mk.injEq] at q;obtain ⟨j,r,_⟩:=q;rw [Addr.add_mid,j,r]
 ·rename_i s c;simp only [VR,PR] at hp;obtain ⟨b,k,vs,rfl,hp,hs⟩:=hp;refine ⟨_,rfl, ?_⟩;simp only [VR,PR];exact ⟨b,k,vs,by rw [Addr.add_mid,Xzc],hp,hs⟩
end
end AM
namespace AM
open Go
section
variable {P:Program} {ap:AP} {g:dw} {m:aV} {S:aQ} {w:World}
theorem bZ {b:Bool} {l:List Bool} (h:∀ x ∈ b::l,x=true):b=true∧∀ x ∈ l,x=true:=⟨h b (by simp),fun x a=>h x (by simp [a])⟩
theorem ku {t:Nat} {a:TI} {i:TypeInfo} {d:TypeDesc} {z:Value} (b:BV P t a i d z) (w:World):(Go.sizeOf t).run P w= .ok a.size w:=by
 simp [Go.sizeOf,typeInfo,b.info,b.size]
theorem AZ {x:AV} {b:Value} (a:VR g m S x b) {n:Int} (h:PE x=some n):∃ k,b= .int k n:=by
 cases x<;>simp [PE] at h
 subst h;simp only [VR,PR] at a;exact ⟨_,a⟩
theorem BO {t:Nat} {q:TI} {i:TypeInfo} {d:TypeDesc} {z:Value} (u:BV P t q i d z) {r:List (Nat × Nat × Nat)} (hd:q.d= .struct r) {f o y l:Nat} (x:r[f]? =some (o,y,l)) (b:Xx6 0 l=true)
  {p v:AV} {cp:Value} (hp:VR g m S p cp) (e:V4 p o=some v):∃ cv,(Instr.fieldAt t cp f).run P w= .ok cv w∧VR g m S v cv:=by
 rw [u.d_eq] at hd;obtain ⟨fields,rfl,rfl⟩:=vN hd;simp only [Xq3,Xqp] at x;obtain ⟨s,h,n⟩:=x;simp only [Prod.mk.injEq] at n;obtain ⟨rfl,rfl,hs⟩:=n;obtain ⟨a,rfl,e⟩:=EK hp e;refine ⟨_, ?_,e⟩;have c:fields[f]? =some s:=by simpa using h
 cases k:P.info? s.type with
 |none=>rw [k] at hs;simp only at hs;subst hs;exact absurd (fV b) (by omega)
 |some j=>
  rw [k] at hs;have A:j.size ≠ 0:=by have:=fV b;simp only at hs;omega
  simp [Instr.fieldAt,run_underlying u.und,c,Instr.sureAddr,fieldPlace,Go.sizeOf,typeInfo,k,A]
theorem oh {i:Int} {n:Nat} (c:decide (0≤i)=true) (d:decide (i<n)=true):0≤i∧i<n∧i.toNat<n:=by
 have a:=of_decide_eq_true c;have b:=of_decide_eq_true d;omega
theorem zC (s:iU P ap) {rd:dw} (G:∀ b B,rd b=some B→g b=some B) {t:Nat} {J:TI} {i:TypeInfo} {d:TypeDesc} {z:Value} (D:BV P t J i d z)
  {x ix v:AV} {cx ci:Value} (hx:VR g m S x cx) (hi:VR g m S ix ci) {ups:List (Nat × a_)} {bs:List Bool} (h:wX ap J rd x ix=some (v,ups,bs)) (hbs:∀ b ∈ bs,b=true):
  ups= []∧∃ cv,(Instr.indexAt t cx ci).run P w= .ok cv w∧VR g m S v cv:=by
 unfold wX at h;have l:=bind_some h;clear h;obtain ⟨n,Q,h⟩:=l;obtain ⟨k,rfl⟩:=AZ hi Q;split at h
 ·rename_i e hd;have l:=bind_some h;clear h;obtain ⟨H,c,h⟩:=l;obtain ⟨R,N,T,c⟩:=dM s c;rw [D.d_eq] at hd;have hd:=gV hd;subst hd;split at h
  ·rename_i Y r nn;obtain ⟨rfl,rfl,rfl⟩:=aO h;obtain ⟨u,f⟩:=bZ hbs;obtain ⟨f,_⟩:=bZ f;obtain ⟨C,A,K⟩:=oh u f;simp only [VR,PR] at hx;obtain ⟨a,M,rfl,O,q⟩:=hx;rcases q with ⟨_,_,q,_⟩|⟨b,o,vs,rfl,hp,hs⟩
   ·subst q;omega
   ·refine ⟨rfl,.pointer (some ⟨b,o+n.toNat*H.size,none⟩), ?_, ?_⟩
    ·simp [Instr.indexAt,asIntOf,run_underlying D.und,C,A,ku c,Addr.add_mid]
    ·simp only [VR,PR];exact ⟨b,o,vs,rfl,hp,hs⟩
  ·rename_i b ver j r;have l:=bind_some h;clear h;obtain ⟨B,V,h⟩:=l;split at h
   ·rename_i E;simp only [ο] at E;obtain ⟨rfl,rfl,rfl⟩:=aO h;obtain ⟨u,f⟩:=bZ hbs;obtain ⟨f,_⟩:=bZ f;obtain ⟨C,A,K⟩:=oh u f;simp only [VR] at hx;obtain ⟨B',y,I,_,q⟩:=hx;have L:=G b B V;rw [L] at y;cases y;obtain ⟨o,rfl,X,W,Z⟩:=q (aJ E.1);have U:=W (by omega);have F:=aJ E.2;refine ⟨rfl,.pointer (some ⟨(m b).1,(j+n.toNat)*H.size,none⟩), ?_, ?_⟩
    ·rw [U,F];simp [Instr.indexAt,asIntOf,run_underlying D.und,C,A,ku c,Addr.add_mid,Xxj]
    ·simp only [VR];exact ⟨B,L,by have:=aJ E.1;omega,⟨_,_,rfl⟩,fun _=>trivial⟩
   ·cases h
  ·cases h
 ·rename_i r e hd;have l:=bind_some h;clear h;obtain ⟨H,c,h⟩:=l;obtain ⟨R,N,T,c⟩:=dM s c;have l:=bind_some h;clear h;obtain ⟨p,hp,h⟩:=l;obtain ⟨rfl,rfl,rfl⟩:=aO h;rw [D.d_eq] at hd;have hd:=yN hd;subst hd;obtain ⟨u,f⟩:=bZ hbs;obtain ⟨f,_⟩:=bZ f;obtain ⟨C,A,K⟩:=oh u f;obtain ⟨a,rfl,I⟩:=EK hx hp;refine ⟨rfl,_, ?_,I⟩;simp [Instr.indexAt,asIntOf,run_underlying D.und,C,A,ku c,Instr.sureAddr]
 ·cases h
theorem EO {t:Nat} {h:TI} {i:TypeInfo} {d:TypeDesc} {z:Value} (l:BV P t h i d z) {vs b:List Value} {cs:List AV} {e:Nat}
  (hl:b.length=h.lks.length) (hu:∀ j u,b[j]? =some u→vs[e+j]? =some u) (hr:bg g m S cs b) {v:AV} (hv:qU h cs=some v):
  ∃ cv,(part t vs.toArray e).run P w= .ok cv w∧VR g m S v cv:=by
 have k:(isAgg t).run P w= .ok d.isRow w:=by
  unfold isAgg;rw [Sem.run_bind,run_underlying l.und w];cases d<;>simp [TypeDesc.isRow]
 unfold qU at hv;rw [l.d_eq,Fq] at hv;split at hv
 ·rename_i a;cases hv;have o:(vs.drop e).take h.size=b:=by
   apply List.ext_getElem?;intro j;rw [Xj0,Xzf];have p:h.size=b.length:=by rw [hl,l.lks,l.size]
   split
   ·rename_i q;have f:j<b.length:=by omega
    have:=hu j b[j] (ξ f);rw [this,ξ f]
   ·rename_i q;rw [List.getElem?_eq_none (by omega)]
  refine ⟨.agg b.toArray, ?_, ?_⟩
  ·simp [part,k,a,ku l,o]
  ·simp only [VR];exact ⟨b,rfl,hr⟩
 ·rename_i a;split at hv
  ·rename_i c;cases hv;cases b with
   |nil=>simp [bg] at hr
   |cons u r=>
    simp only [bg] at hr;refine ⟨u, ?_,hr.1⟩;have n:=hu 0 u rfl;simp only [Xq0] at n;have a:d.isRow=false:=by simpa using a
    simp [part,k,a,n]
  ·cases hv
theorem Iw (l:iU P ap) {t:Nat} {p:TI} {i:TypeInfo} {d:TypeDesc} {z:Value} (y:BV P t p i d z) {x v:AV} {u:Value} (j:VR g m S x u) {f:Nat} {ups:List (Nat × a_)} {bs:List Bool}
  (h:NF ap p x f=some (v,ups,bs)) (hbs:∀ b ∈ bs,b=true):ups= []∧∃ cv,(Instr.field t u f).run P w= .ok cv w∧VR g m S v cv:=by
 unfold NF at h;split at h
 ·rename_i G cs hd;have c:=bind_some h;clear h;obtain ⟨⟨o,L,F⟩,s,h⟩:=c;have c:=bind_some h;clear h;obtain ⟨tf,a,h⟩:=c;have c:=bind_some h;clear h;obtain ⟨M,n,h⟩:=c;obtain ⟨rfl,rfl,rfl⟩:=aO h;obtain ⟨J,H,K,a⟩:=dM l a;rw [y.d_eq] at hd;obtain ⟨fields,rfl,rfl⟩:=vN hd;simp only [Xq3,Xqp] at s;obtain ⟨q,k,r⟩:=s;simp only [Prod.mk.injEq] at r;obtain ⟨rfl,rfl,hs⟩:=r;simp only [VR] at j;obtain ⟨vs,rfl,j⟩:=j;obtain ⟨I,A,D,E⟩:=pO false j tf.lks q.offset hbs;obtain ⟨cv,C,B⟩:=EO (w:=w) a A D E n;have e:fields[f]? =some q:=by simpa using k
  refine ⟨rfl,cv, ?_,B⟩;simp [Instr.field,run_underlying y.und,e,asAgg,C]
 ·cases h
theorem Vm (s:List UInt8) (i:Nat) (h:i<s.length):(⟨s.toArray⟩:ByteArray)[i]? =some (s.getD i 0):=by
 have hs:i<(⟨s.toArray⟩:ByteArray).size:=by simpa [ByteArray.size] using h
 rw [getElem?_pos _ i hs];simp only [ByteArray.getElem_eq_getElem_data,List.getElem_toArray];rw [π,ξ h];rfl
theorem IG (p:iU P ap) {t:Nat} {A:TI} {i:TypeInfo} {d:TypeDesc} {z:Value} (l:BV P t A i d z) {x F v:AV} {E ci:Value} (f:VR g m S x E) (L:VR g m S F ci) {ups:List (Nat × a_)} {bs:List Bool}
  (h:NJ ap A x F=some (v,ups,bs)) (hbs:∀ b ∈ bs,b=true):ups= []∧∃ cv,(Instr.index t E ci).run P w= .ok cv w∧VR g m S v cv:=by
 unfold NJ at h;have j:=bind_some h;clear h;obtain ⟨n,J,h⟩:=j;obtain ⟨k,rfl⟩:=AZ L J;split at h
 ·rename_i s hd;obtain ⟨rfl,rfl,rfl⟩:=aO h;obtain ⟨q,c⟩:=bZ hbs;obtain ⟨c,_⟩:=bZ c;obtain ⟨u,C,B⟩:=oh q c;rw [l.d_eq] at hd;have hd:=xx hd;subst hd;simp only [VR,PR] at f;subst f;refine ⟨rfl,.int .u8 (s.getD n.toNat 0).toNat, ?_,by simp only [VR,PR]⟩;simp [Instr.index,asIntOf,run_underlying l.und,u,Vm s n.toNat B]
 ·rename_i H e cs hd;have j:=bind_some h;clear h;obtain ⟨D,a,h⟩:=j;have j:=bind_some h;clear h;obtain ⟨T,y,h⟩:=j;obtain ⟨rfl,rfl,rfl⟩:=aO h;obtain ⟨Q,N,R,a⟩:=dM p a;obtain ⟨q,c⟩:=bZ hbs;obtain ⟨c,I⟩:=bZ c;obtain ⟨u,C,B⟩:=oh q c;rw [l.d_eq] at hd;have hd:=yN hd;subst hd;simp only [VR] at f;obtain ⟨vs,rfl,f⟩:=f;obtain ⟨O,G,K,M⟩:=pO true f D.lks (n.toNat*D.size) I;obtain ⟨cv,o,r⟩:=EO (w:=w) a G K M y;refine ⟨rfl,cv, ?_,r⟩;simp [Instr.index,asIntOf,run_underlying l.und,u,C,ku a,o]
 ·cases h
end
end AM
namespace AM
open Go
section
variable {P:Program} {ap:AP} {g:dw} {m:aV} {S:aQ} {w:World}
def CW (g:dw) (m:aV) (S:aQ) (x:Option AV) (c:Option Value):Prop:=
 match x,c with
 |none,none=>True
 |some x,some c=>VR g m S x c
 |_,_=>False
theorem gK {x:Option AV} {c:Option Value} (h:CW g m S x c) {d n:Int} (a:ou x d=some n):(x=none∧c=none∧n=d)∨∃ k,c=some (.int k n):=by
 cases x with
 |none=>cases c with
  |none=>simp [ou] at a;exact .inl ⟨rfl,rfl,a.symm⟩
  |some c=>simp [CW] at h
 | some x=>cases c with
  |none=>simp [CW] at h
  |some c=>
   cases x<;>simp [ou] at a
   subst a;simp only [CW,VR,PR] at h;subst h;exact .inr ⟨_,rfl⟩
theorem sG (P:Program) (w:World) (c:Bool) (b a:Nat) (d e:Option Value) (l h:Int)
  (hl:(d=none∧l=0)∨∃ k,d=some (.int k l)) (j:(e=none∧h=b)∨∃ k,e=some (.int k h)) (h0:0≤l) (h1:l≤h) (h2:h≤a):
  (Instr.sliceBounds c b a d e none).run P w= .ok (l.toNat,h.toNat,a) w:=by
 have i:0≤h:=by omega
 rcases hl with ⟨rfl,rfl⟩|⟨k,rfl⟩<;>rcases j with ⟨rfl,rfl⟩|⟨n,rfl⟩
 ·simp [Instr.sliceBounds]
 ·simp [Instr.sliceBounds,Instr.sliceBound,asIntOf,h2,i]
 ·have f:l≤(b:Int):=h1;simp [Instr.sliceBounds,Instr.sliceBound,asIntOf,h0,f]
 ·simp [Instr.sliceBounds,Instr.sliceBound,asIntOf,h0,h2,i];intro o;omega
theorem Kr (s:List UInt8) (l h:Nat):(⟨s.toArray⟩:ByteArray).extract l h=⟨((s.take h).drop l).toArray⟩:=by
 apply ByteArray.ext;rw [ByteArray.data_extract];apply Array.ext';simp [List.extract_eq_take_drop,List.drop_take]
theorem yM (s:List UInt8):(⟨s.toArray⟩:ByteArray).size=s.length:=by simp [ByteArray.size]
theorem kF.drop {b o:Nat} {vs:List Value} (h:kF S b o vs) (n:Nat):kF S b (o+n) (vs.drop n):=by
 intro j u a;rw [Xzf] at a;rw [Xzc];exact h _ _ a
theorem kF.take {b o:Nat} {vs:List Value} (h:kF S b o vs) (n:Nat):kF S b o (vs.take n):=by
 intro j u a;rw [Xj0] at a;split at a
 ·exact h _ _ a
 ·cases a
theorem acp {a b c:Bool} (h:∀ x ∈ [a,b,c],x=true):a=true∧b=true∧c=true:=⟨h a (by simp),h b (by simp),h c (by simp)⟩
theorem FZ {α:Type} (a:List α) (n:Nat):(a.take n).drop n= []:=by
 apply Xzt;simp;omega
theorem Jo (G:iU P ap) {rd:dw} (L:∀ b B,rd b=some B→g b=some B) {t:Nat} {N:TI} {i:TypeInfo} {d:TypeDesc} {z:Value} (E:BV P t N i d z)
  {x v:AV} {cx:Value} (hx:VR g m S x cx) {lo hi mx:Option AV} {clo chi cmx:Option Value} (hlo:CW g m S lo clo) (hhi:CW g m S hi chi) (hmx:CW g m S mx cmx)
  {ups:List (Nat × a_)} {bs:List Bool} (h:Oz ap N rd x lo hi mx=some (v,ups,bs)) (hbs:∀ b ∈ bs,b=true):
  ups= []∧∃ cv,(Instr.sliceAt t cx clo chi cmx).run P w= .ok cv w∧VR g m S v cv:=by
 have k:mx=none→cmx=none:=by intro e;subst e;cases cmx<;>simp [CW] at hmx ⊢
 unfold Oz at h;split at h
 ·rename_i s hd;have f:=bind_some h;clear h;obtain ⟨l,F,h⟩:=f;have f:=bind_some h;clear h;obtain ⟨u,H,h⟩:=f;obtain ⟨rfl,rfl,rfl⟩:=aO h;obtain ⟨p,r,C⟩:=acp hbs;have p:=of_decide_eq_true p;have r:=of_decide_eq_true r;have C:=of_decide_eq_true C;rw [E.d_eq] at hd;have hd:=xx hd;subst hd;simp only [VR,PR] at hx;subst hx;rw [k rfl];have D:=sG P w false s.length s.length clo chi l u ((gK hlo F).imp (fun h=> ⟨h.2.1,h.2.2⟩) id) ((gK hhi H).imp (fun h=> ⟨h.2.1,h.2.2⟩) id) p r C;refine ⟨rfl,.string ⟨((s.take u.toNat).drop l.toNat).toArray⟩, ?_,by simp only [VR,PR]⟩;rw [← Kr];simp [Instr.sliceAt,Instr.slice,run_underlying E.und,yM,D]
 ·rename_i e W n nn hd;have f:=bind_some h;clear h;obtain ⟨y,c,h⟩:=f;have f:=bind_some h;clear h;obtain ⟨l,F,h⟩:=f;have f:=bind_some h;clear h;obtain ⟨u,H,h⟩:=f;obtain ⟨rfl,rfl,rfl⟩:=aO h;obtain ⟨R,O,T,c⟩:=dM G c;obtain ⟨p,r,C⟩:=acp hbs;have p:=of_decide_eq_true p;have r:=of_decide_eq_true r;have C:=of_decide_eq_true C;rw [E.d_eq] at hd;have hd:=gV hd;subst hd;simp only [VR,PR] at hx;obtain ⟨a,A,rfl,X,q⟩:=hx;rw [k rfl];have D:=sG P w true n A clo chi l u ((gK hlo F).imp (fun h=> ⟨h.2.1,h.2.2⟩) id) ((gK hhi H).imp (fun h=> ⟨h.2.1,h.2.2⟩) id) p r (by omega);refine ⟨rfl,.slice (if A=l.toNat then a else a.map (·.add (l.toNat*y.size))) (u.toNat - l.toNat) (A - l.toNat), ?_, ?_⟩
  ·simp [Instr.sliceAt,Instr.slice,run_underlying E.und,D,ku c]
  ·simp only [VR,PR];refine ⟨_,_,rfl,by omega, ?_⟩;rcases q with ⟨M,rfl,rfl,rfl⟩|⟨b,o,vs,rfl,hp,hs⟩
   ·refine .inl ⟨fun h=>M ?_,by simp,by omega,by omega⟩;split at h
    ·exact h
    ·simpa using h
   ·refine .inr ?_;by_cases I:A=l.toNat
    ·refine ⟨b,o,[],by rw [if_pos I], ?_,fun j u h=>by simp at h⟩;have e:(W.take (u.toNat*y.size)).drop (l.toNat*y.size)= []:=by
      have:u.toNat=l.toNat:=by omega
      rw [this,FZ]
     rw [e];simp [dO]
    ·exact ⟨b,o+l.toNat*y.size,(vs.take (u.toNat*y.size)).drop (l.toNat*y.size),by rw [if_neg I];simp [Addr.add_mid],qp _ (kE _ hp),(hs.take _).drop _⟩
 ·rename_i e b ver j n hd;have f:=bind_some h;clear h;obtain ⟨y,c,h⟩:=f;have f:=bind_some h;clear h;obtain ⟨B,Y,h⟩:=f;have f:=bind_some h;clear h;obtain ⟨l,F,h⟩:=f;have f:=bind_some h;clear h;obtain ⟨u,H,h⟩:=f;split at h
  ·rename_i I;simp only [ο] at I;obtain ⟨rfl,rfl,rfl⟩:=aO h;obtain ⟨R,O,T,c⟩:=dM G c;obtain ⟨p,r,C⟩:=acp hbs;have p:=of_decide_eq_true p;have r:=of_decide_eq_true r;have C:=of_decide_eq_true C;rw [E.d_eq] at hd;have hd:=gV hd;subst hd;simp only [VR] at hx;obtain ⟨B',J,V,_,q⟩:=hx;have U:=L b B Y;rw [U] at J;cases J;obtain ⟨o,rfl,M,Z,Q⟩:=q (aJ I.1);have K:=aJ I.2;rw [k rfl];have D:=sG P w true n ((m b).2 - j) clo chi l u ((gK hlo F).imp (fun h=> ⟨h.2.1,h.2.2⟩) id) ((gK hhi H).imp (fun h=> ⟨h.2.1,h.2.2⟩) id) p r (by omega);refine ⟨rfl,.slice (if (m b).2 - j=l.toNat then some ⟨(m b).1,o,none⟩ else some ⟨(m b).1,o+l.toNat*y.size,none⟩) (u.toNat - l.toNat) ((m b).2 - j - l.toNat), ?_, ?_⟩
   ·simp [Instr.sliceAt,Instr.slice,run_underlying E.und,D,ku c,Addr.add_mid]
   ·simp only [VR];refine ⟨B,U,V,(by split<;>exact ⟨_,_,_,rfl⟩),fun _=> ?_⟩;by_cases hcl:(m b).2 - j=l.toNat
    ·exact ⟨o,by rw [if_pos hcl];congr 1;omega,by omega,fun h=>by omega,Q⟩
    ·refine ⟨o+l.toNat*y.size,by rw [if_neg hcl];congr 1;omega,by omega,fun h=> ?_,Q⟩;rw [Z (by omega),K,Xxj]
  ·cases h
 ·rename_i e hd;have f:=bind_some h;clear h;obtain ⟨y,c,h⟩:=f;have f:=bind_some h;clear h;obtain ⟨l,F,h⟩:=f;have f:=bind_some h;clear h;obtain ⟨u,H,h⟩:=f;obtain ⟨rfl,rfl,rfl⟩:=aO h;obtain ⟨R,O,T,c⟩:=dM G c;have p:=of_decide_eq_true (hbs (decide (l=0)) (by simp));have r:=of_decide_eq_true (hbs (decide (u=0)) (by simp));subst p;subst r;rw [E.d_eq] at hd;have hd:=gV hd;subst hd;simp only [VR,PR] at hx;subst hx;rw [k rfl];have D:=sG P w true 0 0 clo chi 0 0 ((gK hlo F).imp (fun h=> ⟨h.2.1,h.2.2⟩) id) ((gK hhi H).imp (fun h=> ⟨h.2.1,h.2.2⟩) id) (by omega) (by omega) (by omega);refine ⟨rfl,.slice none 0 0, ?_,by simp only [VR,PR]⟩;simp at D;simp [Instr.sliceAt,Instr.slice,run_underlying E.und,D,ku c]
 ·cases h
theorem NP {x v:AV} {l:Value} (c:VR g m S x l) {t:Nat} {o:TI} {i:TypeInfo} {d:TypeDesc} {z:Value} (f:BV P t o i d z)
  {ups:List (Nat × a_)} {bs:List Bool} (h:VC o.d x=some (v,ups,bs)) (ats:Array TypeId) (hat:ats[0]? =some t) (args:Array Value) (ha:args[0]? =some l) (ty:Nat):
  ups= []∧∃ cv,(Builtin.len_ ats ty args).run P w= .ok cv w∧VR g m S v cv:=by
 unfold VC at h;rw [f.d_eq] at h;split at h
 ·rename_i n e hd;obtain ⟨rfl,rfl,rfl⟩:=aO h;have hd:=yN hd;subst hd;exact ⟨rfl,.int .i64 n,by simp [Builtin.len_,hat,ha,run_underlying f.und,goInt],by simp only [VR,PR]⟩
 ·rename_i s hd;obtain ⟨rfl,rfl,rfl⟩:=aO h;have hd:=xx hd;subst hd;simp only [VR,PR] at c;subst c;exact ⟨rfl,.int .i64 s.length,by simp [Builtin.len_,hat,ha,run_underlying f.und,goInt,yM],by simp only [VR,PR]⟩
 ·rename_i e p n q hd;obtain ⟨rfl,rfl,rfl⟩:=aO h;have hd:=gV hd;subst hd;simp only [VR,PR] at c;obtain ⟨a,k,rfl,_⟩:=c;exact ⟨rfl,.int .i64 n,by simp [Builtin.len_,hat,ha,run_underlying f.und,goInt],by simp only [VR,PR]⟩
 ·rename_i e b ver j n hd;obtain ⟨rfl,rfl,rfl⟩:=aO h;have hd:=gV hd;subst hd;simp only [VR] at c;obtain ⟨_,_,_,⟨_,_,k,rfl⟩,_⟩:=c;exact ⟨rfl,.int .i64 n,by simp [Builtin.len_,hat,ha,run_underlying f.und,goInt],by simp only [VR,PR]⟩
 ·rename_i e hd;obtain ⟨rfl,rfl,rfl⟩:=aO h;have hd:=gV hd;subst hd;simp only [VR,PR] at c;subst c;exact ⟨rfl,.int .i64 0,by simp [Builtin.len_,hat,ha,run_underlying f.und,goInt],by simp only [VR,PR]⟩
 ·cases h
theorem xy (s:List UInt8):(⟨s.toArray⟩:ByteArray).toList=s:=by rw [ByteArray.toList_eq]
theorem xM:∀ a b:List UInt8,Op.bytesLess a b=ig a b
 |_,[]=>by simp [Op.bytesLess,ig]
 | [],_::_=>by simp [Op.bytesLess,ig]
 |a::x,b::y=>by simp only [Op.bytesLess,ig,xM x y]
def sU:LK→Value→Value→Option Bool
 | .int k,.int k1 a,.int k2 b=>match iO k k1 && iO k k2 with|true=>some (a==b)|false=>none
 | .bool,.bool a,.bool b=>some (a==b)
 | .str,.string a,.string b=>some (a.toList==b.toList)
 |_,_,_=>none
def dI:List LK→List Value→List Value→Option Bool
 | [],[],[]=>some true
 |k::ks,a::as,b::bs=>(sU k a b).bind fun c=>(dI ks as bs).map fun d=>c && d
 |_,_,_=>none
theorem rH:∀ (l e:List LK) (i f:List Value) (r:Bool),dI (l++e) i f=some r→
  ∃ a b,dI l (i.take l.length) (f.take l.length)=some a∧dI e (i.drop l.length) (f.drop l.length)=some b∧r=(a && b)
 | [],e,i,f,r,h=> ⟨true,r,by simp [dI],by simpa using h,by simp⟩
 |k::l,e,[],_,r,h=>by simp [dI] at h
 |k::l,e,_::_,[],r,h=>by simp [dI] at h
 |k::l,e,x::i,y::f,r,h=>by
  simp only [Xq9,dI] at h;obtain ⟨c,o,h⟩:=bind_some h;rw [Xqp] at h;obtain ⟨d,hd,rfl⟩:=h;obtain ⟨a,b,j,n,rfl⟩:=rH l e i f d hd;exact ⟨c && a,b,by simp [dI,o,j],by simpa using n,by simp [Bool.and_assoc]⟩
theorem p_:∀ (l:List LK) (b a:List Value) (r:Bool),dI l b a=some r→b.length=l.length∧a.length=l.length
 | [],[],[],_,_=> ⟨rfl,rfl⟩
 |k::l,x::b,y::a,r,h=>by
  simp only [dI] at h;obtain ⟨c,_,h⟩:=bind_some h;rw [Xqp] at h;obtain ⟨d,hd,_⟩:=h;have:=p_ l b a d hd;simp [this.1,this.2]
 | [],_::_,_,_,h=>by simp [dI] at h
 | [],[],_::_,_,h=>by simp [dI] at h
 |_::_,[],_,_,h=>by simp [dI] at h
 |_::_,_::_,[],_,h=>by simp [dI] at h
def uN (P:Program) (t:TypeId) (xs:List Value):Value:=match P.underlying t with
 |some (.struct _)=> .agg xs.toArray
 |_=>xs.headD undef
def xB (P:Program) (n:Nat) (t:TypeId) (lks:List LK):Prop:=
 ∀ (d:Nat) (w:World) (xs ys:List Value) (r:Bool),n≤d→dI lks xs ys=some r→(Op.equalIn d t (uN P t xs) (uN P t ys)).run P w= .ok r w
theorem uJ {t:TypeId} {lks:List LK} {n:Nat} (h:jE P n t=some lks) {i:TypeInfo} (j:P.info? t=some i) (hs:i.size=lks.length) (c:List Value) (a:Nat) (k:a+lks.length≤c.length) (w:World):
  (part t c.toArray a).run P w= .ok (uN P t ((c.drop a).take lks.length)) w:=by
 cases n with
 |zero=>simp [jE] at h
 | succ n=>
  unfold jE at h;cases f:P.underlying t with
  |none=>simp [f] at h
  | some d=>
   have b:(isAgg t).run P w= .ok d.isRow w:=by
    unfold isAgg;rw [Sem.run_bind,run_underlying f w];cases d<;>simp [TypeDesc.isRow]
   cases d<;>simp only [f] at h<;>try cases h
   case struct fs=>
    simp only [TypeDesc.isRow] at b;simp [part,b,Go.sizeOf,typeInfo,j,hs,uN,f]
   all_goals
    simp only [TypeDesc.isRow] at b;simp only [μ,Xqb,Xqf] at k;have l:c[a]? =some (c[a]'(by omega)):=ξ (by omega);simp only [part,Sem.run_bind,b,Result.andThen_ok,Bool.false_eq_true,if_false,uN,f];have e:((c.drop a).take [LK.str].length).headD undef=c[a]'(by omega):=by
     rw [Xwb,List.head?_take,Xv9,l];simp
    have o:(c.toArray)[a]? =some (c[a]'(by omega)):=by simp
    rw [o]
    first|exact congrArg (fun v=>Result.ok v w) e.symm|(simp only [μ,Xqb] at e ⊢;exact congrArg (fun v=>Result.ok v w) e.symm)
theorem sV {n:Nat} (s:∀ t lks,jE P n t=some lks→xB P n t lks):∀ (fs:List Field) (off:Nat) (lks:List LK),xP P (jE P n) fs off=some lks→
  ∀ (d:Nat) (w:World) (xs ys:List Value) (r:Bool),n≤d→xs.length=off+lks.length→ys.length=off+lks.length→dI lks (xs.drop off) (ys.drop off)=some r→
   (Op.eqFields d xs.toArray ys.toArray fs).run P w= .ok r w
 | [],off,lks,hc,d,w,xs,ys,r,hd,hx,hy,h=>by
  simp [xP] at hc;subst hc;have v:xs.drop off= []:=Xzt (by simp at hx;omega);have B:ys.drop off= []:=Xzt (by simp at hy;omega);rw [v,B] at h;simp [dI] at h;subst h;simp [Op.eqFields]
 | f ::fs,off,lks,hc,d,w,xs,ys,r,hd,hx,hy,h=>by
  simp only [xP] at hc;cases j:jE P n f.type with
  |none=>simp [j] at hc
  | some l=>
   simp only [j] at hc;split at hc
   ·rename_i hcond;simp only [ο,Xqo] at hcond;obtain ⟨⟨u,p⟩,c⟩:=hcond;cases q:xP P (jE P n) fs (off+l.length) with
    |none=>simp [q] at hc
    | some l'=>
     simp only [q] at hc;cases hc;cases k:P.info? f.type with
     |none=>simp [k] at c
     |some i=>
      simp only [k] at c;have c:=aJ c;have p:=aJ p;have o:f.name ≠ "_" :=by intro e;rw [e] at u;exact absurd u (by decide)
      simp only [List.length_append] at hx hy;obtain ⟨a,b,z,A,rfl⟩:=rH l l' _ _ r h;have x:=uJ j k c xs off (by omega) w;have y:=uJ j k c ys off (by omega) w;have D:=s f.type l j d w _ _ a hd z;have C:=sV s fs (off+l.length) l' q d w xs ys b hd (by omega) (by omega) (by simpa [List.drop_drop,Nat.add_comm] using A);simp only [Op.eqFields,o,ne_eq,not_false_eq_true,if_true,Sem.run_bind,p,x,y,D,Result.andThen_ok];cases a
      ·simp
      ·simpa using C
   ·cases hc
theorem Dw : ∀ (n:Nat) (t:TypeId) (lks:List LK),jE P n t=some lks→xB P n t lks
  |0,_,_,h=>by simp [jE] at h
  | n + 1,t,lks,h=>by
    intro d w q l r hd b;obtain ⟨d,rfl⟩:∃ k,d=k+1:=⟨d - 1,by omega⟩
    have j:=p_ _ _ _ _ b;unfold jE at h;cases a:P.underlying t with
    |none=>simp [a] at h
    | some ds=>
      cases ds<;>simp only [a] at h<;>try cases h
      case struct fs=>
        split at h
        · cases h
        · rename_i o;have i:P.fieldsOf t=fs:=by simp [Program.fieldsOf,a]
          have e:=run_equalIn_struct (P:=P) w d t q.toArray l.toArray (by rw [i];exact a) o;simp only [uN,a];rw [e,i];exact sV (Dw n) fs.toList 0 lks h d w q l r (by omega) (by simp [j.1]) (by simp [j.2]) (by simpa using b)
      all_goals
        simp only [μ,Xqb,Xqf] at j
        match q,l,j,b with
        | [x], [y],_,b=>
          simp only [dI,Option.map_some,Bool.and_true] at b;obtain ⟨c,f,b⟩:=bind_some b;cases b;simp only [uN,a,List.headD_cons];cases x<;>cases y<;>simp [sU] at f
          first
            | (split at f
               · rename_i p;simp only [ο] at p;obtain rfl:=fP p.1;obtain rfl:=fP p.2;cases f;exact run_equalIn_int (P:=P) w d t _ _ _ _ a
               · cases f)
            |(subst f;rw [run_equalIn_bool' (P:=P) w d t _ _ a])
            |(subst f;rw [run_equalIn_string (P:=P) w d t _ _ a])
end
end AM
namespace AM
open Go
section
variable {P:Program} {ap:AP} {g:dw} {m:aV} {S:aQ} {w:World}
theorem afy {d:TypeDesc} (h:jU P (some d)= .ptr):∃ e,d= .pointer e:=by cases d<;>simp [jU] at h;exact ⟨_,rfl⟩
theorem aa9 {d:TypeDesc} (h:jU P (some d)= .func):∃ a b c,d= .func a b c:=by cases d<;>simp [jU] at h;exact ⟨_,_,_,rfl⟩
theorem Xk {d:TypeDesc} (h:jU P (some d)= .iface):∃ e,d= .interface e:=by cases d<;>simp [jU] at h;exact ⟨_,rfl⟩
theorem Zb {a b:LK} (h:ad3 a b=true):a=b:=by
 cases a<;>cases b<;>simp [ad3] at h
 ·rw [fP h]
 ·rfl
 ·rfl
theorem Em:∀ {a b:List LK},GY a b=true→a=b
 | [],[],_=>rfl
 |_::_,_::_,h=>by simp only [GY,ο] at h;rw [Zb h.1,Em h.2]
 | [],_::_,h=>by simp [GY] at h
 |_::_,[],h=>by simp [GY] at h
theorem Nr {k:LK} {a b:AV} {r:Bool} (h:Nq k a b=some r) {x y:Value} (d:VR g m S a x) (c:VR g m S b y):sU k x y=some r:=by
 unfold Nq at h;split at h
 ·simp only [VR,PR] at d c;subst d;subst c;split at h
  ·rename_i e;cases h;simp [sU,e]
  ·cases h
 ·simp only [VR,PR] at d c;subst d;subst c;simpa [sU] using h
 ·simp only [VR,PR] at d c;subst d;subst c;simpa [sU,xy] using h
 ·cases h
theorem wz:∀ {ks:List LK} {i bs:List AV} {r:Bool} {f e:List Value},kJ ks i bs=some r→bg g m S i f→bg g m S bs e→dI ks f e=some r
 | [],[],[],r,f,e,h,ha,hb=>by
  cases f<;>cases e<;>simp [bg] at ha hb
  simpa [kJ,dI] using h
 |k::ks,a::i,b::bs,r,x::f,y::e,h,ha,hb=>by
  simp only [kJ] at h;obtain ⟨c,j,h⟩:=bind_some h;rw [Xqp] at h;obtain ⟨d,hd,rfl⟩:=h;simp only [bg] at ha hb;simp [dI,Nr j ha.1 hb.1,wz hd ha.2 hb.2]
 | [],_::_,_,_,_,_,h,_,_=>by simp [kJ] at h
 | [],[],_::_,_,_,_,h,_,_=>by simp [kJ] at h
 |_::_,[],_,_,_,_,h,_,_=>by simp [kJ] at h
 |_::_,_::_,[],_,_,_,h,_,_=>by simp [kJ] at h
 |_::_,_::_,_::_,_,[],_,_,ha,_=>by simp [bg] at ha
 |_::_,_::_,_::_,_,_::_,[],_,_,hb=>by simp [bg] at hb
theorem yP (c:iU P ap) {t:Nat} {b:TI} (h:ap.tyAt t=some b):b.cmp=Yf P t∧b.lks=GZ P 8 t:=by
 have a:=c.ty t b h;unfold Xo at a;split at a
 ·split at a
  ·cases a;exact ⟨rfl,rfl⟩
  ·cases a
 ·cases a
theorem j_ (c:BinOp) (t:TypeId) (x y:Operand) (a b:Value) (d:¬ (a= .nilIface∧b= .nilIface)) (e:∀ xs ys,¬ (a= .agg xs∧b= .agg ys)):(eqGuard c t x y a b).run P w= .ok () w:=by
 unfold eqGuard;cases c<;>simp only [Sem.run_ite,Sem.run_pure]<;>try (simp;done)
 all_goals
  simp;split
  ·exact absurd ⟨rfl,rfl⟩ d
  ·exact absurd ⟨rfl,rfl⟩ (e _ _)
  ·rfl
def PX (op:BinOp) (r:Bool):Bool:=match op with| .neq=> !r|_=>r
theorem uY {t:Nat} {b a:Value} {r:Bool} {x y:Operand} (e:∀ op,(eqGuard op t x y b a).run P w= .ok () w) (h:∀ d,(Op.equalIn (d+1) t b a).run P w= .ok r w)
  (h1:binOp .eql t b a=(do pure (.bool (← Op.equal t b a)))) (h2:binOp .neq t b a=(do pure (.bool (!(← Op.equal t b a))))) {op:BinOp} (hop:op=BinOp.eql∨op=BinOp.neq):
  (do eqGuard op t x y b a;binOp op t b a:Sem Value).run P w= .ok (.bool (PX op r)) w:=by
 have c:(Op.equal t b a).run P w= .ok r w:=h 9999;rcases hop with rfl|rfl
 ·rw [Sem.run_bind,e,Result.andThen_ok,h1,Sem.run_bind,c];rfl
 ·rw [Sem.run_bind,e,Result.andThen_ok,h2,Sem.run_bind,c];rfl
theorem GI (v:iU P ap) {t:Nat} {L:TI} (A:ap.tyAt t=some L) {a b:AV} {I J:Value} (s:VR g m S a I) (k:VR g m S b J) {r:Bool} (h:eqA L a b=some r) (M:∀ x ∈ EF a b,x=true) (x y:Operand):
  ∀ f,f=BinOp.eql∨f=BinOp.neq→(do eqGuard f t x y I J;binOp f t I J:Sem Value).run P w= .ok (.bool (PX f r)) w:=by
 obtain ⟨i,d,z,u⟩:=dM v A;intro f j;unfold eqA at h;split at h
 case h_2 fs xs ys hd=>
  split at h
  ·rename_i c;rw [(yP v A).1] at c;rw [(yP v A).2] at h;simp only [VR] at s k;obtain ⟨vs,rfl,s⟩:=s;obtain ⟨N,rfl,k⟩:=k;have K:=wz h s k;unfold Yf at c;cases D:jE P 8 t with
   |none=>simp [D] at c
   |some l=>
    simp only [D,ο,Xqo] at c;have F:=Em c.1;rw [← F] at K;have G:=Dw 8 t l D 10000 w vs N r (by omega) K;rw [u.d_eq] at hd;obtain ⟨fields,rfl,_⟩:=vN hd;simp only [uN,u.und] at G;have O:=run_eqGuard_agg (P:=P) w f t x y vs.toArray N.toArray c.2;rcases j with rfl|rfl
    ·simp [O,run_eql_struct,G,PX]
    ·simp [O,run_neq_struct,G,PX]
  ·cases h
 all_goals try (cases h;done)
 all_goals
  rename_i hd;rw [u.d_eq] at hd
  try simp only [VR,PR] at s k
 all_goals cases h
 case h_1=>
  have hd:=aa8 hd;subst hd;subst s;subst k
  (refine uY (fun f=> ?_) (fun B=> ?_) rfl rfl j<;>first|exact j_ f t x y _ _ (by simp) (by simp)|exact run_equalIn_bool' (P:=P) w B t _ _ u.und)
 all_goals
  first
   |(obtain ⟨e,rfl⟩:=afy hd)
   |(obtain ⟨e,rfl⟩:=Xk hd)
   |(obtain ⟨R,Q,T,rfl⟩:=aa9 hd)
   |(have hd:=gV hd;subst hd)
 case h_16 xs n nn=>
  subst k;obtain ⟨a,E,rfl,H,q⟩:=s;rcases q with ⟨C,rfl,rfl,rfl⟩|⟨b,o,vs,rfl,_⟩
  ·cases a with
   |none=>
    cases C rfl;exact absurd (M _ (by simp [EF];rfl)) (by decide)
   |some p=>(refine uY (fun f=> ?_) (fun B=> ?_) rfl rfl j<;>first|exact j_ f t x y _ _ (by simp) (by simp)|simp [Op.equalIn,run_underlying u.und])
  ·(refine uY (fun f=> ?_) (fun B=> ?_) rfl rfl j<;>first|exact j_ f t x y _ _ (by simp) (by simp)|simp [Op.equalIn,run_underlying u.und])
 case h_17 xs n nn=>
  subst s;obtain ⟨a,E,rfl,H,q⟩:=k;rcases q with ⟨C,rfl,rfl,rfl⟩|⟨b,o,vs,rfl,_⟩
  ·cases a with
   |none=>
    cases C rfl;exact absurd (M _ (by simp [EF];rfl)) (by decide)
   |some p=>(refine uY (fun f=> ?_) (fun B=> ?_) rfl rfl j<;>first|exact j_ f t x y _ _ (by simp) (by simp)|simp [Op.equalIn,run_underlying u.und])
  ·(refine uY (fun f=> ?_) (fun B=> ?_) rfl rfl j<;>first|exact j_ f t x y _ _ (by simp) (by simp)|simp [Op.equalIn,run_underlying u.und])
 all_goals
  try subst s
  try subst k
  try (obtain ⟨_,_,_,⟨_,_,rfl⟩,_⟩:=s)
  try (obtain ⟨_,_,_,⟨_,_,rfl⟩,_⟩:=k)
  try (obtain ⟨_,_,_,⟨_,_,_,rfl⟩,_⟩:=s)
  try (obtain ⟨_,_,_,⟨_,_,_,rfl⟩,_⟩:=k)
  try (obtain ⟨_,_,_,rfl,_⟩:=s)
  try (obtain ⟨_,_,_,rfl,_⟩:=k)
  try (obtain ⟨_,_,rfl,_⟩:=s)
  try (obtain ⟨_,_,rfl,_⟩:=k)
  try (obtain ⟨_,rfl,_⟩:=s)
  try (obtain ⟨_,rfl,_⟩:=k)
  (refine uY (fun f=> ?_) (fun B=> ?_) rfl rfl j<;>first|exact j_ f t x y _ _ (by simp) (by simp)|simp [Op.equalIn,run_underlying u.und])
end
end AM
namespace AM
open Go
section
variable {P:Program} {ap:AP} {g:dw} {m:aV} {S:aQ} {w:World}
theorem MP (a b:List UInt8):(⟨a.toArray⟩:ByteArray)++⟨b.toArray⟩=⟨(a++b).toArray⟩:=by
 apply ByteArray.ext;rw [ByteArray.data_append];simp
theorem MS (i:iU P ap) {t:Nat} {z:TI} (j:ap.tyAt t=some z) {a b v:AV} {l n:Value} (f:VR g m S a l) (e:VR g m S b n) {d:BinOp} {ups:List (Nat × a_)} {bs:List Bool}
  (h:acL d z a b=some (v,ups,bs)) (hbs:∀ x ∈ bs,x=true) (x y:Operand):
  ups= []∧∃ cv,(do eqGuard d t x y l n;binOp d t l n:Sem Value).run P w= .ok cv w∧VR g m S v cv:=by
 unfold acL at h;split at h
 ·rename_i k p A q;simp only [VR,PR] at f e;subst f;subst e;have u:(eqGuard d t x y (.int k p) (.int A q)).run P w= .ok () w:=j_ d t x y _ _ (by simp) (by simp);rw [Sem.run_bind,u,Result.andThen_ok];split at h
  ·obtain ⟨rfl,rfl,rfl⟩:=aO h;have c:=of_decide_eq_true (hbs _ (List.mem_singleton.2 rfl));exact ⟨rfl,_,by simp [binOp,Op.shift,show ¬ q<0 by omega];rfl,by simp only [VR,PR]⟩
  ·obtain ⟨rfl,rfl,rfl⟩:=aO h;have c:=of_decide_eq_true (hbs _ (List.mem_singleton.2 rfl));exact ⟨rfl,_,by simp [binOp,Op.shift,show ¬ q<0 by omega];rfl,by simp only [VR,PR]⟩
  ·split at h
   ·cases h
   ·rename_i s;have s:=fP s;subst s;split at h
    all_goals try (cases h;done)
    all_goals obtain ⟨rfl,rfl,rfl⟩:=aO h
    case h_4=>
     have c:(q==0)=false:=by simpa using hbs _ (List.mem_singleton.2 rfl)
     have c:¬ q=0:=by simpa using c
     exact ⟨rfl,_,by simp [binOp,Op.intDiv,c];rfl,by simp only [VR,PR]⟩
    case h_5=>
     have c:(q==0)=false:=by simpa using hbs _ (List.mem_singleton.2 rfl)
     have c:¬ q=0:=by simpa using c
     exact ⟨rfl,_,by simp [binOp,Op.intDiv,c];rfl,by simp only [VR,PR]⟩
    all_goals exact ⟨rfl,_,by simp only [binOp,Op.intArith,Op.intBits,Op.intCmp,ne_eq,not_true_eq_false,if_false];rfl,by simp only [VR,PR];first|done|rfl⟩
 ·rename_i p q;simp only [VR,PR] at f e;subst f;subst e;have u:(eqGuard d t x y (.string ⟨p.toArray⟩) (.string ⟨q.toArray⟩)).run P w= .ok () w:=j_ d t x y _ _ (by simp) (by simp);rw [Sem.run_bind,u,Result.andThen_ok];split at h
  all_goals try (cases h;done)
  all_goals obtain ⟨rfl,rfl,rfl⟩:=aO h
  case h_1=>
   have c:=fU (hbs _ (List.mem_singleton.2 rfl));have B:¬ (IntKind.i64.max<((p.length+q.length:Nat):Int)):=by
    have:IntKind.i64.max=9223372036854775807:=by decide
    omega
   refine ⟨rfl,.string ⟨(p++q).toArray⟩, ?_,by simp only [VR,PR]⟩;simp only [binOp,Op.stringOp,yM,gt_iff_lt,B,if_false,MP,Sem.run_pure]
  all_goals
   refine ⟨rfl,_,rfl, ?_⟩;simp only [VR,PR,xy,xM]
 ·split at h
  ·obtain ⟨r,o,h⟩:=bind_some h;obtain ⟨rfl,rfl,rfl⟩:=aO h;exact ⟨rfl,_,GI i j f e o hbs x y _ (.inl rfl),by simp only [VR,PR];rfl⟩
  ·obtain ⟨r,o,h⟩:=bind_some h;obtain ⟨rfl,rfl,rfl⟩:=aO h;exact ⟨rfl,_,GI i j f e o hbs x y _ (.inr rfl),by simp only [VR,PR];rfl⟩
  ·cases h
theorem TC {x v:AV} {c:Value} (a:VR g m S x c) {b:UnOp} {ups:List (Nat × a_)} {bs:List Bool} (h:unA b x=some (v,ups,bs)):
  ups= []∧∃ cv,(Op.unary b c).run P w= .ok cv w∧VR g m S v cv:=by
 unfold unA at h;split at h
 ·obtain ⟨rfl,rfl,rfl⟩:=aO h;simp only [VR,PR] at a;subst a;exact ⟨rfl,_,rfl,by simp only [VR,PR]⟩
 ·obtain ⟨rfl,rfl,rfl⟩:=aO h;simp only [VR,PR] at a;subst a;exact ⟨rfl,_,rfl,by simp only [VR,PR]⟩
 ·cases h
theorem um {f:AV→AV→Option AV} {F:Value→Value→Sem Value} (d:∀ a b c ca cb,VR g m S a ca→VR g m S b cb→f a b=some c→∃ cc,(F ca cb).run P w= .ok cc w∧VR g m S c cc):
  ∀ (l:List AV) (cl:List Value) (x v:AV) (cx:Value),bg g m S l cl→VR g m S x cx→Kt f x l=some v→∃ cv,(cl.foldlM F cx).run P w= .ok cv w∧VR g m S v cv
 | [],[],x,v,cx,_,hx,h=>by simp [Kt] at h;subst h;exact ⟨cx,by simp,hx⟩
 | y::r,cy::cr,x,v,cx,hl,hx,h=>by
  simp only [bg] at hl;simp only [Kt] at h;split at h
  ·rename_i z k;obtain ⟨e,i,o⟩:=d _ _ _ _ _ hx hl.1 k;obtain ⟨cv,j,n⟩:=um d r cr z v e hl.2 o h;exact ⟨cv,by simp [List.foldlM_cons,i,j],n⟩
  ·cases h
 | [],_::_,_,_,_,hl,_,_=>by simp [bg] at hl
 |_::_,[],_,_,_,hl,_,_=>by simp [bg] at hl
theorem NU {a b c:AV} {i e:Value} (f:VR g m S a i) (d:VR g m S b e) (h:min2 a b=some c):∃ cc,(Builtin.min2 i e).run P w= .ok cc w∧VR g m S c cc:=by
 unfold min2 at h;split at h
 ·split at h
  ·cases h;simp only [VR,PR] at f d;subst f;subst d;exact ⟨_,rfl,by simp only [VR,PR]⟩
  ·cases h
 ·cases h
theorem NR {a b c:AV} {i e:Value} (f:VR g m S a i) (d:VR g m S b e) (h:max2 a b=some c):∃ cc,(Builtin.max2 i e).run P w= .ok cc w∧VR g m S c cc:=by
 unfold max2 at h;split at h
 ·split at h
  ·cases h;simp only [VR,PR] at f d;subst f;subst d;exact ⟨_,rfl,by simp only [VR,PR]⟩
  ·cases h
 ·cases h
theorem RU {l:List AV} {cl:List Value} (a:bg g m S l cl) {v:AV} (h:zA min2 l=some v) (b:Array TypeId) (ty:Nat):∃ cv,(Builtin.min_ b ty cl.toArray).run P w= .ok cv w∧VR g m S v cv:=by
 cases l with
 |nil=>simp [zA] at h
 | cons x r=>cases cl with
  |nil=>simp [bg] at a
  |cons cx cr=>
   simp only [bg] at a;obtain ⟨cv,c,d⟩:=um (P:=P) (w:=w) (F:=Builtin.min2) (fun _ _ _ _ _=>NU) r cr x v cx a.2 a.1 h;exact ⟨cv,by simpa [Builtin.min_] using c,d⟩
theorem RN {l:List AV} {cl:List Value} (a:bg g m S l cl) {v:AV} (h:zA max2 l=some v) (b:Array TypeId) (ty:Nat):∃ cv,(Builtin.max_ b ty cl.toArray).run P w= .ok cv w∧VR g m S v cv:=by
 cases l with
 |nil=>simp [zA] at h
 | cons x r=>cases cl with
  |nil=>simp [bg] at a
  |cons cx cr=>
   simp only [bg] at a;obtain ⟨cv,c,d⟩:=um (P:=P) (w:=w) (F:=Builtin.max2) (fun _ _ _ _ _=>NR) r cr x v cx a.2 a.1 h;exact ⟨cv,by simpa [Builtin.max_] using c,d⟩
end
end AM
