/- The abstract machine over the code of the model, and the proof that it is sound. No conditions. -/
import Derived.WalkKit
import Derived.Deep.AppendSrc
import Derived.Deep.MidRow
import Derived.WalkLawsBesides
set_option linter.unusedSimpArgs false
set_option linter.unusedVariables false
open Nat renaming beq→Xqn,blt→Xjd,ble→Xqk,le_refl→φ,le_trans→Xxa,add_zero→Xq3,add_assoc→Xzi,add_mul→Xxn,zero_add→Θ
open List renaming replicate→θ,range→Xq1,cons_append→Xqx,take_succ_cons→Xx3,map_cons→Xqc,getD_eq_getElem?_getD→ν,headD_eq_head?_getD→Xwn,head?_drop→Xki,tail_drop→Xkr,getElem?_map→Xqy,getElem?_take→Xju,getElem?_drop→Xj1,getElem?_eq_getElem→ξ,drop_eq_nil_of_le→Xzu,length_cons→μ,length_nil→χ
open BitVec renaming ofInt→Xql
open Bool renaming and_eq_true→π,not_eq_true'→Xqq
open Option renaming map_eq_some_iff→Xqp
namespace AM
open Go
inductive AV where
 |int (k:IntKind) (n:Int)
 |bool (b:Bool)
 |str (s:List UInt8)
 |agg (l:List AV)
 |tup (l:List AV)
 |nilS
 |sl (xs:List AV) (n:Nat) (nn:Bool)
 |ref (b ver i n:Nat)
 |own (xs:List AV) (n esz:Nat)
 |ptr (b ver off:Nat)
 |pp (xs:List AV) (off:Nat)
 |mr (b ver:Nat)
 |mp (ks vs:List AV)
 |nilP
 |fn (f:Nat) (first cap:List AV)
 |nilF
 |ifc (t:Nat) (v:AV)
 |nilI
 |dead
inductive LK where
 |int (k:IntKind)
 |bool
 |str
 |sl
 |oth
inductive TD where
 |struct (fs:List (Nat × Nat × Nat))
 |array (n elem:Nat)
 |slice (elem:Nat)
 |int (k:IntKind)
 |str
 |bool
 |iface
 |ptr
 |func
 |map (k e:Nat)
 |oth
structure TI where
 d:TD
 size:Nat
 bytes:Nat
 zero:List AV
 lks:List LK
 cmp:Bool
structure AF where
 fn:Func
 keep:List Nat
 shared:Bool
inductive Tr (α:Type) where
 |nil
 |node (v:Option α) (l r:Tr α)
def Tr.get {α:Type}:Tr α→Nat→Option α
 | .nil,_=>none
 | .node v l r,n=>match Xqn n 0 with
  |true=>v
  |false=>match Xqn (n % 2) 1 with
   |true=>l.get ((n - 1) / 2)
   |false=>r.get ((n - 1) / 2)
structure AP where
 nty:Nat
 ty:Tr TI
 nfn:Nat
 fn:Tr AF
 gl:List (Option (List AV))
def fw:Nat:=4611686018427387904
def RV:List AV→Option AV
 | [.agg ks,.agg vs]=>some (.mp ks vs)
 |_=>none
structure aR where
 cells:List AV
 ver:Nat
 fro:Bool
 fz:Nat
 esz:Nat
 pr:Bool
abbrev eZ:=List (Nat × AV)
abbrev Hp:=List (Nat × aR)
def ax {α:Type}:List (Nat × α)→Nat→Option α
 | [],_=>none
 |(u,x)::r,t=>match Xqn u t with|true=>some x|false=>ax r t
def iq {α β:Type} (f:α→Option β):List α→Option (List β)
 | []=>some []
 |x::r=>match f x with
  |some y=>match iq f r with|some l=>some (y::l)|none=>none
  |none=>none
def eZ.get (e:eZ) (t:Nat):AV:=(ax e t).getD .dead
def AV.cells:AV→List AV
 | .agg l=>l
 |x=> [x]
def AV.toInt:AV→Int| .int _ n=>n|_=>0
def AV.toBool:AV→Bool| .bool b=>b|_=>false
def AV.toStr:AV→List UInt8| .str s=>s|_=> []
def AV.slX:AV→List AV| .sl xs _ _=>xs|_=> []
def AV.slN:AV→Nat| .sl _ n _=>n|_=>0
def Nn:IntKind→Nat
 | .i8=>0| .i16=>1| .i32=>2| .i64=>3| .u8=>4| .u16=>5| .u32=>6| .u64=>7
def fD (a b:IntKind):Bool:=Xqn (Nn a) (Nn b)
def chk:LK→AV→Bool
 | .int k,.int k' _=>fD k k'
 | .bool,.bool _=>true
 | .str,.str _=>true
 | .sl,.sl _ _ _=>true
 | .sl,.nilS=>true
 | .oth,.dead=>false
 | .oth,.agg _=>false
 | .oth,.tup _=>false
 | .oth,.own _ _ _=>false
 | .oth,_=>true
 |_,_=>false
def eta:LK→AV→AV
 | .int k,c=> .int k c.toInt
 | .bool,c=> .bool c.toBool
 | .str,c=> .str c.toStr
 | .sl,c=> .sl c.slX c.slN false
 | .oth,c=>c
def kw:AV→Bool
 | .dead| .agg _| .tup _| .own _ _ _=>false
 |_=>true
mutual
def cR:AV→List Nat
 | .ref b _ _ _=> [b]
 | .ptr b _ _=> [b]
 | .mr b _=> [b]
 | .agg l=>bE l
 | .tup l=>bE l
 | .fn _ f c=>bE f++bE c
 | .ifc _ v=>cR v
 |_=> []
def bE:List AV→List Nat
 | []=> []
 |x::r=>cR x++bE r
end
mutual
def ren (ρ:Nat→Nat→Option (Nat × Nat)):AV→AV
 | .ref b v i n=>match ρ b v with|some (b',v')=> .ref b' v' i n|none=> .dead
 | .ptr b v o=>match ρ b v with|some (b',v')=> .ptr b' v' o|none=> .dead
 | .mr b v=>match ρ b v with|some (b',v')=> .mr b' v'|none=> .dead
 | .agg l=> .agg (ju ρ l)
 | .tup l=> .tup (ju ρ l)
 | .fn f a c=> .fn f (ju ρ a) (ju ρ c)
 | .ifc t v=> .ifc t (ren ρ v)
 |x=>x
def ju (ρ:Nat→Nat→Option (Nat × Nat)):List AV→List AV
 | []=> []
 |x::r=>ren ρ x::ju ρ r
end
def Dn:Value→AV
 | .int k n=> .int k n
 | .bool b=> .bool b
 | .string s=> .str s.data.toList
 | .pointer a=>match a with|none=> .nilP|some _=> .dead
 | .slice a n c=>match a,n,c with|none,0,0=> .nilS|_,_,_=> .dead
 | .nilFunc=> .nilF
 | .nilIface=> .nilI
 | .map a=>match a with|none=> .mp [] []|some _=> .dead
 |_=> .dead
def zq:Value→AV
 | .agg cs=> .agg (cs.toList.map Dn)
 | .tuple vs=>match vs.toList with| []=> .tup []|_=> .dead
 |v=>Dn v
def AP.tyAt (ap:AP) (t:Nat):Option TI:=match Xjd t ap.nty with|true=>ap.ty.get t|false=>none
def AP.fnAt (ap:AP) (f:Nat):Option AF:=match Xjd f ap.nfn with|true=>ap.fn.get f|false=>none
def lQ (l:List Nat) (a:Nat):Bool:=l.any (Xqn a)
def fU (l:List Nat):List Nat:=l.foldl (fun acc b=>if lQ acc b then acc else acc++ [b]) []
abbrev Cr:=Option (AV × List (Nat × aR) × List Bool)
def aY (v:AV) (bs:List Bool:= []):Cr:=some (v,[],bs)
def Fq (ty:Bool):List LK→List AV→List AV
 | [],_=> []
 |k::ks,ys=>(match ty with|true=>eta k (ys.headD .dead)|false=>ys.headD .dead)::Fq ty ks ys.tail
def L_ (ty:Bool):List LK→List AV→List Bool
 | [],_=> []
 |k::ks,ys=>(match ty with|true=>chk k (ys.headD .dead)|false=>chk .oth (ys.headD .dead))::L_ ty ks ys.tail
def pR (ty:Bool) (ks:List LK) (xs:List AV) (off:Nat):List AV:=Fq ty ks (xs.drop off)
def CF (ty:Bool) (ks:List LK) (xs:List AV) (off:Nat):List Bool:=L_ ty ks (xs.drop off)
def C9:TD→Bool
 | .struct _=>true
 | .array _ _=>true
 |_=>false
def mQ (ti:TI) (cs:List AV):Option AV:=
 match C9 ti.d with
 |true=>some (.agg cs)
 |false=>match cs with| [c]=>some c|_=>none
def EW (ti:TI) (rd:Nat→Option aR) (p:AV):Cr:=
 match p with
 | .pp xs off=>(mQ ti (pR true ti.lks xs off)).bind fun v=>aY v (CF true ti.lks xs off)
 | .ptr b ver off=>(rd b).bind fun B=>match Xqn B.ver ver && !(Xqn B.esz fw) with
  |true=>(mQ ti (pR (Xjd 0 B.esz && B.pr) ti.lks B.cells off)).bind fun v=>aY v (CF (Xjd 0 B.esz && B.pr) ti.lks B.cells off)
  |false=>none
 |_=>none
def fE (xs:List AV) (off:Nat) (vs:List AV):List AV:=xs.take off++vs++xs.drop (off+vs.length)
def HF (ti:TI) (rd:Nat→Option aR) (p v:AV):Cr:=
 match p with
 | .ptr b ver off=>(rd b).bind fun B=>
  let vs:=v.cells
  let rs:=bE vs
  match Xqn B.ver ver && !B.fro && Xqn vs.length ti.size && vs.all kw && !(Xqn B.esz fw) with
  |true=>some (.dead,[(b,{B with cells:=fE B.cells off vs,pr:=B.pr && rs.isEmpty})],[Xqk (off+vs.length) B.cells.length])
  |false=>none
 |_=>none
def fT (nid:Nat) (cells:List AV) (esz:Nat):Nat × aR:=(nid,{cells,ver:=0,fro:=false,fz:=0,esz,pr:=(bE cells).isEmpty})
def rp (cells:List AV):List (Nat × Nat × AV)→Option (List AV)
 | []=>some cells
 |(off,size,v)::r=>match Xqn v.cells.length size && Xqk (off+size) cells.length && v.cells.all kw with
  |true=>rp (fE cells off v.cells) r
  |false=>none
def Gq (ap:AP) (ti:TI) (parts:List (Nat × AV)):Cr:=
 match ti.d with
 | .struct fs=>(iq (fun (q:Nat × AV)=>(fs[q.1]?).map fun (x:Nat × Nat × Nat)=>(x.1,x.2.2,q.2)) parts).bind fun ps=>(rp ti.zero ps).bind fun cs=>aY (.agg cs)
 | .array _ e=>(ap.tyAt e).bind fun te=>(rp ti.zero (parts.map fun (i,v)=>(i*te.size,te.size,v))).bind fun cs=>aY (.agg cs)
 |_=>none
def dX (n:Nat) (z:List AV):List AV:=(θ n z).flatten
def oM (ap:AP) (nid:Nat) (ti:TI) (len:Nat) (parts:List (Nat × AV)):Cr:=
 match ti.d with
 | .slice e=>(ap.tyAt e).bind fun te=>
  match Xjd 0 te.size && Xqk (len*te.size) (2^24) && Xqn te.zero.length te.size with
  |true=>(rp (dX len te.zero) (parts.map fun (i,v)=>(i*te.size,te.size,v))).bind fun cs=>
   some (.ref nid 0 0 len,[fT nid cs te.size],[])
  |false=>none
 |_=>none
def N0 (p:AV) (o:Nat):Option AV:=
 match p with
 | .ptr b v off=>some (.ptr b v (off+o))
 | .pp xs off=>some (.pp xs (off+o))
 |_=>none
def IA (v:AV):Option Int:=match v with| .int _ n=>some n|_=>none
def si (ap:AP) (ti:TI) (rd:Nat→Option aR) (x i:AV):Cr:=
 (IA i).bind fun i=>
 match ti.d with
 | .slice e=>(ap.tyAt e).bind fun te=>
  match x with
  | .sl xs n _=>aY (.pp xs (i.toNat*te.size)) [decide (0≤i),decide (i<n)]
  | .ref b ver j n=>(rd b).bind fun B=>match Xqn B.ver ver && Xqn B.esz te.size with
   |true=>aY (.ptr b ver ((j+i.toNat)*te.size)) [decide (0≤i),decide (i<n)]
   |false=>none
  |_=>none
 | .array n e=>(ap.tyAt e).bind fun te=>(N0 x (i.toNat*te.size)).bind fun p=>aY p [decide (0≤i),decide (i<n)]
 |_=>none
def GW (ap:AP) (ti:TI) (x i:AV):Cr:=
 (IA i).bind fun i=>
 match ti.d,x with
 | .str,.str s=>aY (.int .u8 (s.getD i.toNat 0).toNat) [decide (0≤i),decide (i<s.length)]
 | .array n e,.agg cs=>(ap.tyAt e).bind fun te=>
  (mQ te (pR true te.lks cs (i.toNat*te.size))).bind fun v=>aY v (decide (0≤i)::decide (i<n)::CF true te.lks cs (i.toNat*te.size))
 |_,_=>none
def kG (v:Option AV) (d:Int):Option Int:=match v with|none=>some d|some (.int _ n)=>some n|some _=>none
def Hz (ap:AP) (ti:TI) (rd:Nat→Option aR) (x:AV) (lo hi mx:Option AV):Cr:=
 match ti.d,x,mx with
 | .str,.str s,none=>(kG lo 0).bind fun l=>(kG hi s.length).bind fun h=>
   aY (.str ((s.take h.toNat).drop l.toNat)) [decide (0≤l),decide (l≤h),decide (h≤s.length)]
 | .slice e,.sl xs n nn,none=>(ap.tyAt e).bind fun te=>(kG lo 0).bind fun l=>(kG hi n).bind fun h=>
   aY (.sl ((xs.take (h.toNat*te.size)).drop (l.toNat*te.size)) (h.toNat - l.toNat) nn) [decide (0≤l),decide (l≤h),decide (h≤n)]
 | .slice e,.ref b ver j n,none=>(ap.tyAt e).bind fun te=>(rd b).bind fun B=>(kG lo 0).bind fun l=>(kG hi n).bind fun h=>
   match Xqn B.ver ver && Xqn B.esz te.size with
   |true=>aY (.ref b ver (j+l.toNat) (h.toNat - l.toNat)) [decide (0≤l),decide (l≤h),decide (h≤n)]
   |false=>none
 | .slice e,.nilS,none=>(ap.tyAt e).bind fun _=>(kG lo 0).bind fun l=>(kG hi 0).bind fun h=>aY .nilS [decide (l=0),decide (h=0)]
 |_,_,_=>none
def Nq (d:TD) (x:AV):Cr:=
 match d,x with
 | .array n _,_=>aY (.int .i64 n)
 | .str,.str s=>aY (.int .i64 s.length)
 | .slice _,.sl _ n _=>aY (.int .i64 n)
 | .slice _,.ref _ _ _ n=>aY (.int .i64 n)
 | .slice _,.nilS=>aY (.int .i64 0)
 |_,_=>none
def FF (size:Nat) (rd:Nat→Option aR) (x:AV):Option (List AV × Nat × Bool):=
 match x with
 | .sl xs n _=>some (xs,n,true)
 | .nilS=>some ([],0,true)
 | .str s=>some (s.map fun b=> .int .u8 b.toNat,s.length,true)
 | .ref b ver j n=>(rd b).bind fun B=>match Xqn B.ver ver && Xqn B.esz size && !(Xqn B.esz fw) with
  |true=>some ((B.cells.drop (j*size)).take (n*size),n,B.pr)
  |false=>none
 |_=>none
def Cc:Nat:=2^40
def sZ (nid:Nat) (te:TI) (rd:Nat→Option aR) (em:Bool) (s x:AV):Cr:=
 (FF te.size rd x).bind fun (xs,n,pr)=>
 match Xjd 0 te.size && Xqk te.bytes 128 with
 |false=>none
 |true=>
 match s with
 | .nilS=>match em with
  |true=>aY .nilS [Xqn xs.length (n*te.size)]
  |false=>some (.ref nid 0 0 n,[(nid,⟨xs,0,false,0,te.size,pr⟩)],[Xqn xs.length (n*te.size),Xqk n Cc])
 | .ref b ver 0 m=>(rd b).bind fun B=>match Xqn B.ver ver && Xqn B.esz te.size && !(Xqn B.esz fw) with
  | true=>some (.ref b (ver+1) 0 (m+n),[(b,{B with cells:=B.cells.take (m*te.size)++xs,ver:=ver+1,pr:=B.pr && pr})],
    [Xqn xs.length (n*te.size),Xqk (m+n) Cc,Xqk (m*te.size) B.cells.length, !B.fro||Xqk B.fz (m*te.size)])
  |false=>none
 |_=>none
def rU:AV→Option Nat
 | .sl _ n _=>some n
 | .nilS=>some 0
 | .str s=>some s.length
 | .ref _ _ _ n=>some n
 |_=>none
def tP (ρ:Operand→AV) (o:Op):Option Nat:=
 match o with
 | .call {callee:= .builtin .append,args,..}=>match args.toList with
  | [s,x]=>match ρ s with
   | .nilS=>rU (ρ x)
   |_=>none
  |_=>none
 |_=>none
def sn (ap:AP) (nid:Nat) (ti:TI) (l c:AV):Cr:=
 match ti.d,l,c with
 | .slice e,.int _ l,.int _ c=>(ap.tyAt e).bind fun te=>
  match Xjd 0 te.size && Xqn te.zero.length te.size && Xqk te.bytes 128 && (bE te.zero).isEmpty with
  |true=>some (.ref nid 0 0 l.toNat,[(nid,⟨dX l.toNat te.zero,0,false,0,te.size,true⟩)],[decide (0≤l),decide (l=c),decide (l≤2^40)])
  |false=>none
 |_,_,_=>none
def xU (ap:AP) (ts td:TI) (rd:Nat→Option aR) (x:AV):Cr:=
 match ts.d,td.d,x with
 |_,.int k,.int _ n=>aY (.int k (k.wrap n))
 | .str,.str,.str s=>aY (.str s)
 | .slice e,.str,x=>(ap.tyAt e).bind fun te=>match te.d,x with
  | .int .u8,.str _=>none
  | .int .u8,x=>(FF 1 rd x).bind fun (xs,n,_)=>aY (.str (xs.map fun c=>UInt8.ofNat c.toInt.toNat)) [Xqn xs.length n,xs.all (chk (.int .u8))]
  |_,_=>none
 |_,_,_=>none
def GH:LK→AV→AV→Option Bool
 | .int k,.int k1 a,.int k2 b=>match fD k k1 && fD k k2 with|true=>some (a==b)|false=>none
 | .bool,.bool a,.bool b=>some (a==b)
 | .str,.str a,.str b=>some (a==b)
 |_,_,_=>none
def iC:List LK→List AV→List AV→Option Bool
 | [],[],[]=>some true
 |k::ks,a::as,b::bs=>(GH k a b).bind fun c=>(iC ks as bs).map fun d=>c && d
 |_,_,_=>none
def eqA (ti:TI) (a b:AV):Option Bool:=
 match ti.d,a,b with
 | .bool,.bool a,.bool b=>some (a==b)
 | .struct _,.agg xs,.agg ys=>match ti.cmp with|true=>iC ti.lks xs ys|false=>none
 | .ptr,.nilP,.nilP=>some true
 | .ptr,.nilP,.ptr _ _ _=>some false
 | .ptr,.nilP,.pp _ _=>some false
 | .ptr,.ptr _ _ _,.nilP=>some false
 | .ptr,.pp _ _,.nilP=>some false
 | .iface,.nilI,.ifc _ _=>some false
 | .iface,.ifc _ _,.nilI=>some false
 | .func,.nilF,.nilF=>some true
 | .func,.nilF,.fn _ _ _=>some false
 | .func,.fn _ _ _,.nilF=>some false
 | .slice _,.nilS,.nilS=>some true
 | .slice _,.ref _ _ _ _,.nilS=>some false
 | .slice _,.nilS,.ref _ _ _ _=>some false
 | .slice _,.sl _ _ _,.nilS=>some false
 | .slice _,.nilS,.sl _ _ _=>some false
 |_,_,_=>none
def zj (a b:AV):List Bool:=
 match a,b with
 | .sl _ n false,.nilS=> [Xjd 0 n]
 | .nilS,.sl _ n false=> [Xjd 0 n]
 |_,_=> []
def eV:List UInt8→List UInt8→Bool
 |_,[]=>false
 | [],_::_=>true
 |a::x,b::y=>decide (a<b)||(a==b && eV x y)
def Vy (op:BinOp) (ti:TI) (x y:AV):Cr:=
 match x,y with
 | .int k a,.int k' b=>
  match op with
  | .shl=>aY (.int k (k.wrap (a*2^(min b.toNat k.bits)))) [decide (0≤b)]
  | .shr=>aY (.int k (a.fdiv (2^(min b.toNat k.bits)))) [decide (0≤b)]
  | _=>match fD k k' with
   |false=>none
   |true=>match op with
    | .add=>aY (.int k (k.wrap (a+b)))
    | .sub=>aY (.int k (k.wrap (a - b)))
    | .mul=>aY (.int k (k.wrap (a*b)))
    | .quo=>aY (.int k (k.wrap (a.tdiv b))) [!(b==0)]
    | .rem=>aY (.int k (a.tmod b)) [!(b==0)]
    | .and=>aY (.int k (k.wrap (Xql k.bits a &&& Xql k.bits b).toNat))
    | .or=>aY (.int k (k.wrap (Xql k.bits a|||Xql k.bits b).toNat))
    | .xor=>aY (.int k (k.wrap (Xql k.bits a^^^Xql k.bits b).toNat))
    | .eql=>aY (.bool (a==b))
    | .neq=>aY (.bool (!(a==b)))
    | .lss=>aY (.bool (decide (a<b)))
    | .leq=>aY (.bool (decide (a≤b)))
    | .gtr=>aY (.bool (decide (b<a)))
    | .geq=>aY (.bool (decide (b≤a)))
    |_=>none
 | .str a,.str b=>
  match op with
  | .add=>aY (.str (a++b)) [Xqk (a.length+b.length) 9223372036854775807]
  | .eql=>aY (.bool (a==b))
  | .neq=>aY (.bool (!(a==b)))
  | .lss=>aY (.bool (eV a b))
  | .leq=>aY (.bool (eV a b||a==b))
  | .gtr=>aY (.bool (!(eV a b||a==b)))
  | .geq=>aY (.bool (!eV a b))
  |_=>none
 |x,y=>
  match op with
  | .eql=>(eqA ti x y).bind fun b=>aY (.bool b) (zj x y)
  | .neq=>(eqA ti x y).bind fun b=>aY (.bool (!b)) (zj x y)
  |_=>none
def unA (op:UnOp) (x:AV):Cr:=
 match op,x with
 | .not,.bool b=>aY (.bool (!b))
 | .neg,.int k n=>aY (.int k (k.wrap (0 - n)))
 |_,_=>none
def min2 (a b:AV):Option AV:=match a,b with| .int k x,.int k' y=>(match fD k k' with|true=>some (.int k (if y<x then y else x))|false=>none)|_,_=>none
def max2 (a b:AV):Option AV:=match a,b with| .int k x,.int k' y=>(match fD k k' with|true=>some (.int k (if y>x then y else x))|false=>none)|_,_=>none
def EC (f:AV→AV→Option AV):AV→List AV→Option AV
 |x,[]=>some x
 |x,y::r=>match f x y with|some z=>EC f z r|none=>none
def uR (f:AV→AV→Option AV):List AV→Option AV
 | []=>none
 |x::r=>EC f x r
def Cz (ap:AP) (x:AV) (asserted:Nat) (commaOk:Bool):Cr:=
 (ap.tyAt asserted).bind fun ti=>
 match ti.d with
 | .iface=>none
 | _=>match x with
  | .ifc t v=>match Xqn t asserted with
   |true=>aY (match commaOk with|true=> .tup [v,.bool true]|false=>v)
   |false=>match commaOk with|true=>(mQ ti ti.zero).bind fun z=>aY (.tup [z,.bool false])|false=>none
  | .nilI=>match commaOk with|true=>(mQ ti ti.zero).bind fun z=>aY (.tup [z,.bool false])|false=>none
  |_=>none
def GR (ap:AP) (ti:TI) (x:AV) (f:Nat):Cr:=
 match ti.d,x with
 | .struct fs,.agg cs=>(fs[f]?).bind fun (o,t,_)=>(ap.tyAt t).bind fun tf=>
  (mQ tf (pR false tf.lks cs o)).bind fun v=>aY v (CF false tf.lks cs o)
 |_,_=>none
def tq:AV→List Nat
 | .ref b _ _ _=> [b]
 | .ptr b _ _=> [b]
 | .mr b _=> [b]
 |_=> []
def Ov (ρ:Operand→AV):Op→List Nat
 | .load _ a=>tq (ρ a)
 | .store _ a _=>tq (ρ a)
 | .indexAddr _ x _=>tq (ρ x)
 | .slice _ x _ _ _=>tq (ρ x)
 | .convert _ _ x=>tq (ρ x)
 | .lookup _ x _ _=>tq (ρ x)
 | .mapUpdate _ x _ _=>tq (ρ x)
 | .insert _ x _ _=>tq (ρ x)
 | .call {callee:= .builtin .append,args,..}=>fU (args.toList.flatMap fun x=>tq (ρ x))
 |_=> []
def BM:LK→AV→Bool
 | .int k,.int k' _=>fD k k'
 | .bool,.bool _=>true
 | .str,.str _=>true
 |_,_=>false
def jy:List LK→List AV→Bool
 | [],[]=>true
 |k::r,x::l=>BM k x && jy r l
 |_,_=>false
def iF (ti:TI) (x:AV):Bool:=match ti.d,x with
 | .int k,.int k' _=>fD k k'
 | .bool,.bool _=>true
 | .str,.str _=>true
 | .struct _,.agg l=>ti.cmp && jy ti.lks l
 |_,_=>false
def yf:AV→AV→Bool
 | .int _ a,.int _ b=>a==b
 | .bool a,.bool b=>a==b
 | .str a,.str b=>a==b
 |_,_=>false
def CS:List AV→List AV→Bool
 | [],[]=>true
 |a::r,b::q=>yf a b && CS r q
 |_,_=>false
def q_:AV→AV→Bool
 | .int _ a,.int _ b=>a==b
 | .bool a,.bool b=>a==b
 | .str a,.str b=>a==b
 | .agg a,.agg b=>CS a b
 |_,_=>false
def cE:List AV→List AV→AV→Option AV
 |k0::ks,v0::vs,k=>match q_ k k0 with|true=>some v0|false=>cE ks vs k
 |_,_,_=>none
def sA (ks:List AV) (k:AV):List AV:=match ks.any (q_ k) with|true=>ks|false=>ks++ [k]
def kU:List AV→List AV→AV→AV→List AV
 |k0::ks,v0::vs,k,v=>match q_ k k0 with|true=>v::vs|false=>v0::kU ks vs k v
 |_,_,_,v=> [v]
def NE (rd:Nat→Option aR) (x:AV):Option (List AV × List AV):=
 match x with
 | .mp ks vs=>some (ks,vs)
 | .mr b ver=>(rd b).bind fun B=>match Xqn B.ver ver && Xqn B.esz fw with
  |true=>match B.cells with| [.agg ks,.agg vs]=>some (ks,vs)|_=>none
  |false=>none
 |_=>none
def EU (ok:Bool) (o:Option AV) (z:AV):AV:=match ok with|true=> .tup [o.getD z,.bool o.isSome]|false=>o.getD z
def Db (ap:AP) (ti:TI) (rd:Nat→Option aR) (x k:AV) (ok:Bool):Cr:=
 match ti.d with
 | .map kt et=>(ap.tyAt kt).bind fun tk=>(ap.tyAt et).bind fun te=>(NE rd x).bind fun q=>(mQ te te.zero).bind fun z=>
   aY (EU ok (cE q.1 q.2 k) z) [iF tk k,q.1.all (iF tk)]
 |_=>none
def xy (ap:AP) (ti:TI) (rd:Nat→Option aR) (x k v:AV):Cr:=
 match ti.d,x with
 | .map kt _,.mr b ver=>(ap.tyAt kt).bind fun tk=>(rd b).bind fun B=>match Xqn B.ver ver && Xqn B.esz fw && !B.fro with
  |true=>match B.cells with
   | [.agg ks,.agg vs]=>some (.dead,[(b,{B with cells:= [.agg (sA ks k),.agg (kU ks vs k v)],pr:=B.pr && (cR v).isEmpty})],[iF tk k,ks.all (iF tk)])
   |_=>none
  |false=>none
 |_,_=>none
def opA (ap:AP) (nid:Nat) (ρ:Operand→AV) (rd:Nat→Option aR) (dec:Operand→Option Bool) (em:Bool) (o:Op):Cr:=
 match o with
 | .move x=>aY (ρ x)
 | .assign x=>aY (ρ x)
 | .pick c a b=>match dec c with
  |some true=>aY (ρ a)
  |some false=>aY (ρ b)
  |none=>match ρ c,ρ a,ρ b with| .bool c,.bool x,.bool y=>aY (.bool (cond c x y))|_,_,_=>none
 | .alloc e=>(ap.tyAt e).bind fun te=>match Xjd 0 te.size && te.zero.all kw with|true=>some (.ptr nid 0 0,[fT nid te.zero 0],[])|false=>none
 | .box e x=>(ap.tyAt e).bind fun te=>let vs:=(ρ x).cells
  match Xjd 0 te.size && vs.all kw with|true=>some (.ptr nid 0 0,[fT nid vs 0],[])|false=>none
 | .build t parts=>(ap.tyAt t).bind fun ti=>Gq ap ti (parts.toList.map fun (i,x)=>(i,ρ x))
 | .buildSlice t len parts=>(ap.tyAt t).bind fun ti=>oM ap nid ti len (parts.toList.map fun (i,x)=>(i,ρ x))
 | .load t a=>(ap.tyAt t).bind fun ti=>EW ti rd (ρ a)
 | .store t a x=>(ap.tyAt t).bind fun ti=>HF ti rd (ρ a) (ρ x)
 | .makeMap _ r=>match r with|none=>some (.mr nid 0,[(nid,⟨[.agg [],.agg []],0,false,0,fw,true⟩)],[])|some _=>none
 | .lookup t x k ok=>(ap.tyAt t).bind fun ti=>Db ap ti rd (ρ x) (ρ k) ok
 | .mapUpdate t x k v=>(ap.tyAt t).bind fun ti=>xy ap ti rd (ρ x) (ρ k) (ρ v)
 | .insert t x k v=>(ap.tyAt t).bind fun ti=>xy ap ti rd (ρ x) (ρ k) (ρ v)
 | .nilCheck x=>match ρ x with
  | .ptr b v o=>aY (.ptr b v o)
  | .pp xs o=>aY (.pp xs o)
  | .fn f a c=>aY (.fn f a c)
  |_=>none
 | .binOp op t x y _=>(ap.tyAt t).bind fun ti=>Vy op ti (ρ x) (ρ y)
 | .unOp op _ x=>unA op (ρ x)
 | .convert s d x=>(ap.tyAt s).bind fun ts=>(ap.tyAt d).bind fun td=>xU ap ts td rd (ρ x)
 | .makeInterface t x=>(ap.tyAt t).bind fun ti=>match ti.d with| .iface=>none|_=>aY (.ifc t (ρ x))
 | .makeFunc (.func f) first cap=>aY (.fn f (first.toList.map ρ) (cap.toList.map ρ))
 | .makeSlice t l c=>(ap.tyAt t).bind fun ti=>sn ap nid ti (ρ l) (ρ c)
 | .slice t x lo hi mx=>(ap.tyAt t).bind fun ti=>Hz ap ti rd (ρ x) (lo.map ρ) (hi.map ρ) (mx.map ρ)
 | .fieldAddr s x f=>(ap.tyAt s).bind fun ti=>match ti.d with
  | .struct fs=>(fs[f]?).bind fun (o,_,sz)=>match Xjd 0 sz with|true=>(N0 (ρ x) o).bind fun p=>aY p|false=>none
  |_=>none
 | .field t x f=>(ap.tyAt t).bind fun ti=>GR ap ti (ρ x) f
 | .indexAddr t x i=>(ap.tyAt t).bind fun ti=>si ap ti rd (ρ x) (ρ i)
 | .index t x i=>(ap.tyAt t).bind fun ti=>GW ap ti (ρ x) (ρ i)
 | .typeAssert x _ asserted ok=>Cz ap (ρ x) asserted ok
 | .extract t i=>match ρ t with| .tup l=>(l[i]?).bind fun v=>aY v|_=>none
 | .call {callee:= .builtin b,args,argTypes}=>
  match b with
  | .len=>(args[0]?).bind fun x=>(argTypes[0]?).bind fun t=>(ap.tyAt t).bind fun ti=>Nq ti.d (ρ x)
  | .append=>match args.toList,argTypes.toList with
   | [s,x],[t,t1]=>(ap.tyAt t).bind fun ti=>(ap.tyAt t1).bind fun ti1=>match ti.d,ti1.d,ρ x with
    | .slice e,.str,.str y=>(ap.tyAt e).bind fun te=>match Xqn te.size 1 with|true=>sZ nid te rd em (ρ s) (.str y)|false=>none
    | .slice _,.slice _,.str _=>none
    | .slice e,.slice _,y=>(ap.tyAt e).bind fun te=>sZ nid te rd em (ρ s) y
    |_,_,_=>none
   |_,_=>none
  | .min=>(uR min2 (args.toList.map ρ)).bind fun v=>aY v
  | .max=>(uR max2 (args.toList.map ρ)).bind fun v=>aY v
  |_=>none
 |_=>none
def BP (P:Program):Nat→TypeId→List LK
 |0,_=> [.oth]
 |n+1,t=>match P.underlying t with
  |some (.int k)=> [.int k]
  |some .bool=> [.bool]
  |some .string=> [.str]
  |some (.slice _)=> [.sl]
  |some (.struct fs)=>fs.toList.flatMap fun f=>BP P n f.type
  |some (.array m e)=>(θ m (BP P n e)).flatten
  |_=> [.oth]
def gX (P:Program):Option TypeDesc→TD
 |some (.int k)=> .int k
 |some .bool=> .bool
 |some .string=> .str
 |some (.slice e)=> .slice e
 |some (.array n e)=> .array n e
 |some (.struct fs)=> .struct (fs.toList.map fun f=>(f.offset,f.type,match P.info? f.type with|some i=>i.size|none=>0))
 |some (.interface _)=> .iface
 |some (.pointer _)=> .ptr
 |some (.func _ _ _)=> .func
 |some (.map k e)=> .map k e
 |_=> .oth
def tF (P:Program) (f:TypeId→Option (List LK)):List Field→Nat→Option (List LK)
 | [],_=>some []
 | x::r,off=>match f x.type with
  |some l=>match !(x.name== "_") && Xqn x.offset off && (match P.info? x.type with|some i=>Xqn i.size l.length|none=>false) with
   |true=>match tF P f r (off+l.length) with|some l'=>some (l++l')|none=>none
   |false=>none
  |none=>none
def gB (P:Program):Nat→TypeId→Option (List LK)
 |0,_=>none
 |n+1,t=>match P.underlying t with
  |some (.int k)=>some [.int k]
  |some .bool=>some [.bool]
  |some .string=>some [.str]
  |some (.struct fs)=>match P.stoodInHeld t with|true=>none|false=>tF P (gB P n) fs.toList 0
  |_=>none
def Yy (i:TypeInfo) (d:TypeDesc):Bool:=match i.zero,d with
 |some (.agg _),.struct _=>true
 |some (.agg _),.array _ _=>true
 |some (.agg _),_=>false
 |some _,.struct _=>false
 |some _,.array _ _=>false
 |some _,_=>true
 |none,_=>false
def MV (P:Program) (d:TypeDesc):Bool:=match d with
 | .struct fs=>fs.toList.all fun f=>(P.info? f.type).isSome
 |_=>true
def Aq (i:TypeInfo):List AV:=match i.zero with|some z=>z.cells.toList.map zq|none=> []
def WZ:LK→LK→Bool
 | .int a,.int b=>fD a b
 | .bool,.bool=>true
 | .str,.str=>true
 |_,_=>false
def BO:List LK→List LK→Bool
 | [],[]=>true
 |a::r,b::q=>WZ a b && BO r q
 |_,_=>false
def Qn (P:Program) (t:TypeId):Bool:=match gB P 8 t with|some l=>BO l (BP P 8 t) && !P.eqGuardType P.depth t|none=>false
def Pi (P:Program) (t:TypeId):Option TI:=
 match P.info? t,P.underlying t with
 |some i,some d=>
  match Xqn (BP P 8 t).length i.size && (Yy i d && MV P d) && (Aq i).all kw && Xqn (Aq i).length i.size && Xjd 0 i.size && i.zero.isSome && Xjd i.size fw with
  |true=>some {d:=gX P (some d),size:=i.size,bytes:=i.bytes,zero:=Aq i,lks:=BP P 8 t,cmp:=Qn P t}
  |false=>none
 |_,_=>none
abbrev aO:=Nat→Nat→Option Value
def jF (S S':aO):Prop:=∀ k o v,S k o=some v→S' k o=some v
theorem jF.refl (S:aO):jF S S:=fun _ _ _ h=>h
theorem jF.trans {S S' S'':aO} (h:jF S S') (a:jF S' S''):jF S S'':=fun k o v e=>a k o v (h k o v e)
def iA (S:aO) (b o:Nat) (vs:List Value):Prop:=∀ j u,vs[j]? =some u→S b (o+j)=some u∧u.oneCell'=true
mutual
def PR (S:aO):AV→Value→Prop
 | .int k n,v=>v= .int k n
 | .bool b,v=>v= .bool b
 | .str s,v=>v= .string ⟨s.toArray⟩
 | .agg l,v=> ∃ vs,v= .agg vs.toArray∧bZ S l vs
 | .tup l,v=> ∃ vs,v= .tuple vs.toArray∧bZ S l vs
 | .nilS,v=>v= .slice none 0 0
 | .sl xs n nn,v=> ∃ a cap,v= .slice a n cap∧n≤cap∧((a=none∧nn=false∧xs= []∧n=0∧cap=0)∨∃ b o vs,a=some ⟨b,o,none⟩∧bZ S xs vs∧iA S b o vs)
 | .pp xs off,v=> ∃ b o vs,v= .pointer (some ⟨b,o+off,none⟩)∧bZ S xs vs∧iA S b o vs
 | .mp ks vs,v=>(v= .map none∧ks= []∧vs= [])∨∃ b kk vv,v= .map (some b)∧S b 0=some (.agg kk.toArray)∧S b 1=some (.agg vv.toArray)∧bZ S ks kk∧bZ S vs vv
 | .nilP,v=>v= .pointer none
 | .fn f a c,v=> ∃ va vc,v= .func (.func f) va.toArray vc.toArray∧bZ S a va∧bZ S c vc
 | .nilF,v=>v= .nilFunc
 | .ifc t x,v=> ∃ u,v= .iface t u∧PR S x u
 | .nilI,v=>v= .nilIface
 | .dead,_=>True
 | .ref _ _ _ _,_=>False
 | .ptr _ _ _,_=>False
 | .mr _ _,_=>False
 | .own _ _ _,_=>False
def bZ (S:aO):List AV→List Value→Prop
 | [],[]=>True
 |x::r,v::vs=>PR S x v∧bZ S r vs
 |_,_=>False
end
abbrev bV:=Nat→Option aR
abbrev aQ:=Nat→Nat × Nat
mutual
def VR (g:bV) (m:aQ) (S:aO):AV→Value→Prop
 | .ref b ver i n,v=> ∃ B,g b=some B∧ver≤B.ver∧(∃ k o c',v= .slice (some ⟨k,o,none⟩) n c')∧(B.ver=ver→∃ o,v= .slice (some ⟨(m b).1,o,none⟩) n ((m b).2 - i)∧i+n≤(m b).2∧(i<(m b).2→o=i*B.esz)∧0<B.esz∧B.esz ≠ fw)
 | .ptr b ver off,v=> ∃ B,g b=some B∧ver≤B.ver∧(∃ k o,v= .pointer (some ⟨k,o,none⟩))∧(B.ver=ver→v= .pointer (some ⟨(m b).1,off,none⟩))
 | .mr b ver,v=> ∃ B,g b=some B∧ver≤B.ver∧(∃ k,v= .map (some k))∧(B.ver=ver→v= .map (some (m b).1))
 | .agg l,v=> ∃ vs,v= .agg vs.toArray∧aW g m S l vs
 | .tup l,v=> ∃ vs,v= .tuple vs.toArray∧aW g m S l vs
 | .fn f a c,v=> ∃ va vc,v= .func (.func f) va.toArray vc.toArray∧aW g m S a va∧aW g m S c vc
 | .ifc t x,v=> ∃ u,v= .iface t u∧VR g m S x u
 | .int k n,v=>PR S (.int k n) v
 | .bool b,v=>PR S (.bool b) v
 | .str s,v=>PR S (.str s) v
 | .nilS,v=>PR S .nilS v
 | .sl xs n nn,v=>PR S (.sl xs n nn) v
 | .pp xs off,v=>PR S (.pp xs off) v
 | .mp ks vs,v=>PR S (.mp ks vs) v
 | .nilP,v=>PR S .nilP v
 | .nilF,v=>PR S .nilF v
 | .nilI,v=>PR S .nilI v
 | .dead,_=>True
 | .own _ _ _,_=>False
def aW (g:bV) (m:aQ) (S:aO):List AV→List Value→Prop
 | [],[]=>True
 |x::r,v::vs=>VR g m S x v∧aW g m S r vs
 |_,_=>False
end
def aN (x y:AV):Prop:=∀ g m S v,VR g m S x v→VR g m S y v
inductive qP where
 |v (d:Nat) (x:AV)
 |b (d:Nat) (xs:List AV)
 |u (d:Nat)
inductive iy where
 |ret (v:AV)
 |pan (v:AV)
structure Cx where
 cl:Bool
 orc:List Bool
 bs:List Bool
 ps:List Prop
 ans:List (iy × List aR)
 hs:List qP
inductive R (α:Type) where
 |ok (a:α) (c:Cx)
 |need
 |bad (n:Nat)
def R.bind {α β:Type} (r:R α) (f:α→Cx→R β):R β:=
 match r with
 | .ok a c=>f a c
 | .need=> .need
 | .bad n=> .bad n
def lit (o b:Bool):Bool:=match o with|true=>b|false=> !b
def QM (c:Cx) (bs:List Bool):R Unit:=
 match c.cl with
 |true=>match bs.all id with|true=> .ok () c|false=> .bad 1
 |false=> .ok () {c with bs:=bs++c.bs}
def uN (c:Cx) (b:Bool):R Bool:=
 match c.cl with
 |true=> .ok b c
 |false=>match c.orc with
  | []=> .need
  |o::r=> .ok o {c with orc:=r,bs:=lit o b::c.bs}
def yw (c:Cx) (dst:Option Nat) (v:AV):AV × Cx:=
 match c.hs,dst with
 | .v d x::r,some d'=>match Xqn d d' with
  |true=>(x,{c with hs:=r,ps:=aN v x::c.ps})
  |false=>(v,c)
 |_,_=>(v,c)
def yu (c:Cx) (dst:Option Nat) (ups:List (Nat × aR)):List (Nat × aR) × Cx:=
 match c.hs,dst,ups with
 | .b d xs::r,some d',[(b,B)]=>match Xqn d d' with
  |true=>([(b,{B with cells:=xs})],{c with hs:=r,ps:=(B.cells=xs)::c.ps})
  |false=>(ups,c)
 |_,_,_=>(ups,c)
def Iu (c:Cx) (dst:Option Nat):Bool × Cx:=
 match c.hs,dst with
 | .u d::r,some d'=>match Xqn d d' with
  |true=>(true,{c with hs:=r})
  |false=>(false,c)
 |_,_=>(false,c)
abbrev bL:=Cx→AV→Nat→List AV→List aR→R (iy × List aR × AV)
def oF (rd:Nat→Option aR):Nat→List Nat→List Nat
 |0,l=>l
 |n+1,l=>
  let more:=l.flatMap fun b=>match rd b with|some B=>(match B.pr with|true=> []|false=>bE B.cells)|none=> []
  let l':=more.foldl (fun acc b=>if lQ acc b then acc else acc++ [b]) l
  match Xqn l'.length l.length with|true=>l|false=>oF rd n l'
def frz (rd:Nat→Option aR):Nat→AV→Option AV
 |0,_=>none
 | fuel+1,x=>
  let frzL (l:List AV):Option (List AV):=iq (frz rd fuel) l
  match x with
  | .ref b ver i n=>(rd b).bind fun B=>match Xqn B.ver ver with
   |true=>match B.pr with
    |true=>some (.sl ((B.cells.drop (i*B.esz)).take (n*B.esz)) n true)
    |false=>(frzL ((B.cells.drop (i*B.esz)).take (n*B.esz))).map fun l=> .sl l n true
   |false=>none
  | .ptr b ver off=>(rd b).bind fun B=>match Xqn B.ver ver && !(Xqn B.esz fw) with
   |true=>match B.pr with
    |true=>some (.pp B.cells off)
    |false=>(frzL B.cells).map fun l=> .pp l off
   |false=>none
  | .mr b ver=>(rd b).bind fun B=>match Xqn B.ver ver && Xqn B.esz fw with
   |true=>match B.pr with
    |true=>RV B.cells
    |false=>(frzL B.cells).bind RV
   |false=>none
  | .agg l=>(frzL l).map .agg
  | .tup l=>(frzL l).map .tup
  | .fn f a c=>(frzL a).bind fun a=>(frzL c).map fun c=> .fn f a c
  | .ifc t v=>(frz rd fuel v).map (.ifc t)
  | .own _ _ _=>none
  |x=>some x
def lN (l:List Nat) (b:Nat):Option Nat:=match l with
 | []=>none
 |c::r=>match Xqn c b with|true=>some 0|false=>(lN r b).map (· +1)
def Dt (xs:List AV) (esz:Nat):aR:={cells:=xs,ver:=0,fro:=false,fz:=0,esz,pr:=true}
def dM (nid:Nat):List AV→List AV × List aR
 | []=>([],[])
 | .own xs n esz::r=>match dM (nid+1) r with|(l,bs)=>(.ref nid 0 0 n::l,Dt xs esz::bs)
 |x::r=>match dM nid r with|(l,bs)=>(x::l,bs)
def gW (nid:Nat):AV→AV × List aR
 | .tup l=>match dM nid l with|(l,bs)=>(.tup l,bs)
 | .own xs n esz=>(.ref nid 0 0 n,[Dt xs esz])
 |x=>(x,[])
def zo:Nat→List aR→List (Nat × aR)
 |_,[]=> []
 |n,B::r=>(n,B)::zo (n+1) r
def F5:List Nat→List aR→List (Nat × aR)
 |b::r,B::q=>(b,B)::F5 r q
 |_,_=> []
def nK:List Nat→Bool
 | []=>true
 |b::r=> !lQ r b && nK r
def wD (ρ:Nat→Nat→Option (Nat × Nat)) (v:Nat) (B:aR):aR:={B with cells:=(match B.pr with|true=>B.cells|false=>ju ρ B.cells),ver:=v+B.ver}
def H0 (nid:Nat) (fp:List Nat) (vers:Nat→Nat) (n:Nat):Nat→Nat→Option (Nat × Nat):=fun p v=>
 match fp[p]? with
 |some b=>some (b,vers b+v)
 |none=>match Xjd p n with|true=>some (nid+(p - fp.length),v)|false=>none
structure LP where
 out:iy
 ups:List (Nat × aR)
 fp:List Nat
 md:AV
def oO (ap:AP) (H:bL) (rd:Nat→Option aR) (nid:Nat) (md:AV) (f:Nat) (args:List AV) (c:Cx):R LP:=
 let fp:=oF rd 6 (fU (bE args))
 let rd:=fun b=>match lQ fp b with|true=>rd b|false=>none
 let shared:=match ap.fnAt f with|some F=>F.shared|none=>false
 match shared with
 | false=>
  match iq (frz rd 6) args with
  |none=> .bad 10
  |some args'=>
   (H c md f args' []).bind fun (out,h',md) c=>
   match h' with
   |_::_=> .bad 14
   | []=>
   let mark:=fp.filterMap fun b=>(rd b).map fun B=>(b,{B with fro:=true,fz:=B.cells.length})
   match out with
   | .ret v=>match gW nid v with|(v,bs)=>match Xqk bs.length 4 with|true=> .ok {out:= .ret v,ups:=zo nid bs++mark,fp,md} c|false=> .bad 13
   | .pan v=> .ok {out:= .pan v,ups:=mark,fp,md} c
 | true=>
  let vers:=fun b=>match rd b with|some B=>B.ver|none=>0
  let ρ:Nat→Nat→Option (Nat × Nat):=fun b v=>match Xqn v (vers b) with|true=>(lN fp b).map fun p=>(p,0)|false=>none
  match iq rd fp with
  |none=> .bad 11
  | some bl=>
   (H c md f (ju ρ args) (bl.map fun B=> {B with cells:=(match B.pr with|true=>B.cells|false=>ju ρ B.cells),ver:=0})).bind fun (out,h',md) c=>
   match Xqk fp.length h'.length && nK fp with
   |false=> .bad 12
   |true=>
    let ρ':=H0 nid fp vers h'.length
    let ups:=(F5 fp h').map fun (b,B)=>(b,wD ρ' (vers b) B)
    let ex:=(h'.drop fp.length).map (wD ρ' 0)
    match out with
    | .ret v=>match gW (nid+(h'.length - fp.length)) (ren ρ' v) with|(v,bs)=>match Xqk ((h'.length - fp.length)+bs.length) 4 with|true=> .ok {out:= .ret v,ups:=zo nid (ex++bs)++ups,fp,md} c|false=> .bad 13
    | .pan v=>match Xqk (h'.length - fp.length) 4 with|true=> .ok {out:= .pan (ren ρ' v),ups:=zo nid (ex++ [])++ups,fp,md} c|false=> .bad 13
inductive br where
 |normal
 |exit (id:Nat)
 |ret
 |panic (v:AV)
structure St where
 env:eZ
 hp:Hp
 md:AV
 dfs:List (Nat × List AV)
structure rN where
 rt:List Nat
 wt:List Nat
 rb:List Nat
 wb:List Nat
structure RS where
 env:eZ
 hp:Hp
 md:AV
 dfs:List (Nat × List AV)
 dec:List (Nat × Bool)
 feet:List rN
def qa (l:List Operand):List Nat:=l.filterMap fun| .tmp t=>some t|_=>none
def CN (o:Oper):List Nat:=match o.dst with|some d=> [d]|none=> []
def lT (env:eZ) (dst:Option Nat) (v:AV):eZ:=match dst with|some d=>(d,v)::env|none=>env
def mG (ap:AP) (env:eZ):Operand→AV
 | .tmp t=>env.get t
 | .const v=>zq v
 | .global g=>match (ap.gl[g]?).join with|some xs=> .pp xs 0|none=> .dead
 | .func f=> .fn f [] []
def GS (ops:List Oper) (env:eZ) (dec:List (Nat × Bool)) (o:Oper) (c:Cx):R (Bool × List (Nat × Bool)):=
 match o.guard with
 |none=> .ok (true,dec) c
 | some (j,want)=>
  match (ops[j]?).bind (·.dst) with
  |none=> .bad 20
  | some s=>match ax dec s with
   |some b=> .ok (lit want b,dec) c
   |none=>match env.get s with
    | .bool b=>(uN c b).bind fun b' c=> .ok (lit want b',(s,b')::dec) c
    | .tup []=> .ok (false,dec) c
    |_=> .bad 21
def gb (ops:List Oper) (o:Oper):List Nat:=
 match o.guard with
 |none=> []
 |some (j,_)=>match (ops[j]?).bind (·.dst) with|none=> []|some s=> [s]
def Ms (dec:List (Nat × Bool)) (o:Oper):Bool:=match o.dst with|none=>true|some d=>match ax dec d with|none=>true|some _=>false
def FH (ap:AP) (H:bL) (nid:Nat) (ops:List Oper) (o:Oper) (s:RS) (c:Cx):R (RS × Option AV):=
 (GS ops s.env s.dec o c).bind fun (run,dec) c=>
 let rt:=qa o.op.operands.toList++gb ops o
 match Ms dec o with
 |false=> .bad 35
 |true=>
 match run with
 |false=> .ok ({s with env:=lT s.env o.dst (.tup []),dec,feet:={rt,wt:=CN o,rb:= [],wb:= []}::s.feet},none) c
 | true=>
  let ρ:=mG ap s.env
  let rdAll:=ax s.hp
  match o.op with
  | .call {callee:= .value g,args,..}=>
   match ρ g with
   | .fn f first cap=>
    (oO ap H rdAll nid .dead f (first++args.toList.map ρ++cap) c).bind fun r c=>
    let foot:rN:={rt,wt:=CN o,rb:=r.fp,wb:=r.ups.map fun (q:Nat × aR)=>q.1}
    match Iu c o.dst with
    | (true,c)=>match r.out with
     | .ret v=>match r.ups.all (fun (q:Nat × aR)=>lQ r.fp q.1) with
      |true=> .ok ({s with env:=lT s.env o.dst v,dec,feet:={rt,wt:=CN o,rb:=r.fp,wb:= []}::s.feet},none) {c with ps:=(r.ups.map (fun (q:Nat × aR)=>some q.2)=r.ups.map (fun (q:Nat × aR)=>ax s.hp q.1))::c.ps}
      |false=> .bad 36
     | .pan _=> .bad 37
    |(false,c)=>match r.out with
     | .ret v=> .ok ({s with env:=lT s.env o.dst v,hp:=r.ups++s.hp,dec,feet:=foot::s.feet},none) c
     | .pan v=> .ok ({s with hp:=r.ups++s.hp,dec,feet:=foot::s.feet},some v) c
   |_=> .bad 30
  | .call {callee:= .builtin .recover,..}=>
   match s.md with
   | .nilI=> .ok ({s with env:=lT s.env o.dst .nilI,dec,feet:={rt,wt:=CN o,rb:= [],wb:= []}::s.feet},none) c
   | .ifc t v=> .ok ({s with env:=lT s.env o.dst (.ifc t v),md:= .nilI,dec,feet:={rt,wt:=CN o,rb:= [],wb:= []}::s.feet},none) c
   |_=> .bad 33
  | .defer {callee:= .value g,args,..}=>
   match ρ g with
   | .fn f first cap=> .ok ({s with env:=lT s.env o.dst .dead,dfs:=(f,first++args.toList.map ρ++cap)::s.dfs,dec,feet:={rt,wt:=CN o,rb:= [],wb:= []}::s.feet},none) c
   |_=> .bad 34
  | .panic x=>
   match ρ x with
   | .ifc t v=> .ok ({s with dec},some (.ifc t v)) c
   |_=> .bad 31
  | op=>
   let fp:=Ov ρ op
   let rd:=fun b=>match lQ fp b with|true=>rdAll b|false=>none
   let decs:Operand→Option Bool:=fun| .tmp t=>ax dec t|_=>none
   (match tP ρ op with|some n=>uN c (Xqn n 0)|none=> .ok false c).bind fun em c=>
   match opA ap nid ρ rd decs em op with
   |none=> .bad 32
   | some (v,ups,bs)=>(QM c bs).bind fun _ c=>
    match yw c o.dst v with
    |(v,c)=>match yu c o.dst ups with
     |(ups,c)=> .ok ({s with env:=lT s.env o.dst v,hp:=ups++s.hp,dec,feet:={rt,wt:=CN o,rb:=fp,wb:=ups.map fun (q:Nat × aR)=>q.1}::s.feet},none) c
def nY (ap:AP) (H:bL) (ops:List Oper):List Oper→Nat→RS→Cx→R (RS × Option AV)
 | [],_,s,c=> .ok (s,none) c
 | o::r,nid,s,c=>(FH ap H nid ops o s c).bind fun (s,p) c=>
  match p with
  |some v=> .ok (s,some v) c
  |none=>match s.feet with
   |f::_=>match f.wb.all (fun x=>Xjd x (nid+4)) with|true=>nY ap H ops r (nid+4) s c|false=> .bad 43
   | []=> .bad 44
def yY (a b:List Nat):Bool:=a.any (lQ b)
def ia (a b:rN):Bool:=yY a.wt b.rt||yY a.wt b.wt||yY a.rt b.wt||yY a.wb b.rb||yY a.wb b.wb||yY a.rb b.wb
def pL (n:Nat) (bef:List Nat) (feet:List rN):Bool:=
 let l:=feet.reverse.zipIdx
 l.all fun (a,i)=>l.all fun (b,j)=> !(Xjd i j)|| !(ia a b||b.wb.any fun x=>Xqk (n+4*i) x && Xjd x (n+4*i+4))||(bef.getD j 0).testBit i
def ye (keep:List Nat) (env:eZ):List Nat:=keep.flatMap fun t=>cR (env.get t)
def norm (base:Nat) (keep:List Nat) (s:St):St:=
 let env:=s.env
 let hp:=s.hp
 let rd:=ax hp
 let ids:=oF rd 20 (fU (oF rd 20 (Xq1 base)++ye keep env++s.dfs.flatMap fun d=>bE d.2))
 let ids:=ids.filter fun b=>(rd b).isSome
 let ρ:Nat→Nat→Option (Nat × Nat):=fun b v=>match rd b with
  |some B=>match Xqn B.ver v with
   |true=>(lN ids b).map fun p=>(p,match Xjd p base with|true=>v|false=>0)
   |false=>none
  |none=>none
 {env:=keep.map fun t=>(t,ren ρ (env.get t))
  hp:=ids.zipIdx.filterMap fun (b,p)=>(rd b).map fun B=>(p,{B with cells:=(match B.pr with|true=>B.cells|false=>ju ρ B.cells),ver:=match Xjd p base with|true=>B.ver|false=>0})
  md:=s.md
  dfs:=s.dfs.map fun d=>(d.1,ju ρ d.2)}
def eT:Hp→Nat
 | []=>0
 |(b,_)::r=>match Xjd b (eT r) with|true=>eT r|false=>b+1
def nA (ops:List Oper):Bool:=ops.zipIdx.all fun (o,i)=>o.after.toList.all fun e=> !Region.binds .any e||Xjd e.on i
def Dz (ap:AP) (H:bL) (base:Nat) (keep:List Nat) (ops:List Oper) (draw:Bool) (s:St) (c:Cx):R (br × St):=
 (nY ap H ops ops (eT s.hp) {env:=s.env,hp:=s.hp,md:=s.md,dfs:=s.dfs,dec:= [],feet:= []} c).bind fun (s',p) c=>
 match p with
 | some v=>match draw with
  |true=> .bad 40
  |false=>match (cR v).isEmpty with
   |true=> .ok (.panic v,norm base keep ⟨s'.env,s'.hp,s'.md,s'.dfs⟩) c
   |false=> .ok (.panic v,⟨s'.env,s'.hp,s'.md,s'.dfs⟩) c
 |none=>
  match !draw||(pL (eT s.hp) (Region.before ops.toArray).toList s'.feet && nA ops && Xqn s'.dfs.length s.dfs.length) with
  |true=> .ok (.normal,norm base keep ⟨s'.env,s'.hp,s'.md,s'.dfs⟩) c
  |false=> .bad 41
def IC (f:St→Cx→R (br × St)):Nat→St→Cx→R (br × St)
 |0,_,_=> .bad 50
 |n+1,s,c=>(f s c).bind fun (e,s) c=>match e with
  | .normal=>IC f n s c
  |e=> .ok (e,s) c
def iR (ap:AP) (H:bL) (base:Nat) (keep:List Nat) (lf:Nat):Code→St→Cx→R (br × St)
 | .skip,s,c=> .ok (.normal,s) c
 | .label _,s,c=> .ok (.normal,s) c
 | .region _ ops draw,s,c=>Dz ap H base keep ops.toList draw s c
 | .seq a b,s,c=>(iR ap H base keep lf a s c).bind fun (e,s) c=>match e with
  | .normal=>iR ap H base keep lf b s c
  |e=> .ok (e,s) c
 | .cond t a b,s,c=>match mG ap s.env t with
  | .bool x=>(uN c x).bind fun x c=>match x with
   |true=>iR ap H base keep lf a s c
   |false=>iR ap H base keep lf b s c
  |_=> .bad 60
 | .block id b,s,c=>(iR ap H base keep lf b s c).bind fun (e,s) c=>match e with
  | .exit id'=>match Xqn id' id with|true=> .ok (.normal,s) c|false=> .ok (.exit id',s) c
  |e=> .ok (e,s) c
 | .loop b,s,c=>IC (iR ap H base keep lf b) lf s c
 | .exit id,s,c=> .ok (.exit id,s) c
 | .ret,s,c=> .ok (.ret,s) c
 | .scope b,s,c=>iR ap H base keep lf b s c
 |_,_,_=> .bad 61
def um (ap:AP) (env:eZ) (hp:Hp):ResultVar→Option (AV × List Bool)
 | .tmp t=>some (env.get t,[])
 | .cell a t=>(ap.tyAt t).bind fun ti=>(EW ti (ax hp) (env.get a)).map fun (v,_,bs)=>(v,bs)
def dU (l:List Nat) (b:Nat):Nat:=(l.filter (Xqn b)).length
def Q8 (base:Nat) (rd:Nat→Option aR) (v:AV):Option AV:=
 let fp:=oF rd 6 (fU (cR v))
 match fp.all (fun b=>Xqk base b) with
 |true=>frz (fun b=>match lQ fp b with|true=>rd b|false=>none) 6 v
 |false=>none
def nC (base:Nat) (rd:Nat→Option aR) (all:List Nat) (v:AV):Option AV:=
 let frzO (v:AV):Option AV:=match (cR v).all (fun b=>Xjd b base) with|true=>some v|false=>Q8 base rd v
 match v with
 | .ref b ver 0 n=>match rd b with
  |some B=>match Xqk base b && Xqn B.ver ver && !B.fro && B.pr && Xqn (dU all b) 1 && Xjd 0 B.esz with
   |true=>some (.own (B.cells.take (n*B.esz)) n B.esz)
   |false=>frzO v
  |none=>none
 |v=>frzO v
def af (f:Func):Code:=f.body.getD .skip
def ku (md:AV) (args:List AV) (h:List aR):St:=
 {env:=args.zipIdx.map fun (x,i)=>(i,x),hp:=h.zipIdx.map fun (B,i)=>(i,B),md,dfs:= []}
def aas:AV→Bool
 | .nilI=>true
 | .ifc _ _=>true
 |_=>false
def yI (ap:AP) (H:bL):List (Nat × List AV)→AV→Hp→Cx→R (AV × Hp)
 | [],mode,hp,c=> .ok (mode,hp) c
 |(f,args)::r,mode,hp,c=>
  match aas mode && (cR mode).isEmpty with
  |false=> .bad 78
  |true=>
  (oO ap H (ax hp) (eT hp) mode f args c).bind fun q c=>
  match q.out with
  | .ret _=>yI ap H r q.md (q.ups++hp) c
  | .pan _=> .bad 75
def Lc (rd:Nat→Option aR) (base:Nat):Nat:=(oF rd 20 (Xq1 base)).length
def qH (ap:AP) (base:Nat) (F:Func) (env:eZ) (hp:Hp) (c:Cx):R (iy × List aR):=
 let rd:=ax hp
 let n:=Lc rd base
 match iq (um ap env hp) F.results.toList,iq rd (Xq1 n) with
 |some vs,some h'=>
  match h'.all (fun B=>B.pr||(bE B.cells).all fun b=>Xjd b n) with
  |false=> .bad 76
  |true=>
  (QM c (vs.flatMap fun (q:AV × List Bool)=>q.2)).bind fun _ c=>
  let all:=vs.flatMap fun (q:AV × List Bool)=>oF rd 6 (fU (cR q.1))
  match iq (nC n rd all) (vs.map fun (q:AV × List Bool)=>q.1) with
  |some [v]=> .ok (.ret v,h') c
  |some l=> .ok (.ret (.tup l),h') c
  |none=> .bad 70
 |_,_=> .bad 71
def Dv (base:Nat) (v:AV) (hp:Hp) (c:Cx):R (iy × List aR):=
 let n:=Lc (ax hp) base
 match nC n (ax hp) (oF (ax hp) 6 (fU (cR v))) v,iq (ax hp) (Xq1 n) with
 |some v,some h'=>
  match h'.all (fun B=>B.pr||(bE B.cells).all fun b=>Xjd b n) with
  |false=> .bad 77
  |true=> .ok (.pan v,h') c
 |_,_=> .bad 72
def wY (ap:AP) (H:bL) (base:Nat) (F:Func) (e:br) (s:St) (c:Cx):R (iy × List aR × AV):=
 let go (mode:AV):R (iy × List aR × AV):=
  (yI ap H s.dfs mode s.hp c).bind fun (mode,hp) c=>
  match mode with
  | .nilI=>(qH ap base F s.env hp c).bind fun (o,h) c=> .ok (o,h,s.md) c
  | .ifc t v=>(Dv base (.ifc t v) hp c).bind fun (o,h) c=> .ok (o,h,s.md) c
  |_=> .bad 74
 match e with
 | .normal| .ret=>go .nilI
 | .panic (.ifc t v)=>match (cR v).isEmpty with|true=>go (.ifc t v)|false=> .bad 79
 |_=> .bad 73
def L7 (ap:AP) (H:bL) (lf:Nat) (md:AV) (F:AF) (args:List AV) (h:List aR) (c:Cx):R (iy × List aR × AV):=
 match af F.fn with
 | .seq (.region _ ops false) rest=>
  match ops.toList with
  | o ::r=>
   match o.op,o.guard,o.dst with
   | .call {callee:= .builtin .recover,..},none,some d=>
    let s0:=ku .dead args h
    (nY ap H (o::r) r (eT s0.hp) {env:=(d,md)::s0.env,hp:=s0.hp,md:= .dead,dfs:= [],dec:= [],feet:= []} c).bind fun (s,p) c=>
    match p with
    |some _=> .bad 81
    | none=>(iR ap H h.length F.keep lf rest (norm h.length F.keep ⟨s.env,s.hp,s.md,s.dfs⟩) c).bind fun (e,s) c=>
     match s.dfs with
     |_::_=> .bad 82
     | []=>match e with
      | .normal| .ret=>(qH ap h.length F.fn s.env s.hp c).bind fun (o,h) c=> .ok (o,h,.nilI) c
      |_=> .bad 83
   |_,_,_=> .bad 84
  | []=> .bad 85
 |_=> .bad 86
def oN (ap:AP) (H:bL) (lf:Nat) (md:AV) (f:Nat) (args:List AV) (h:List aR) (c:Cx):R (iy × List aR × AV):=
 match ap.fnAt f with
 |none=> .bad 80
 |some F=>match md with
  | .dead=>(iR ap H h.length F.keep lf (af F.fn) (ku .dead args h) c).bind fun (e,s) c=>wY ap H h.length F.fn e s c
  |md=>match aas md && (cR md).isEmpty with|true=>L7 ap H lf md F args h c|false=> .bad 87
theorem rO {S:aO}:∀ {l:List AV} {vs:List Value},bZ S l vs→l.length=vs.length
 | [],[],_=>rfl
 |_::_,_::_,h=>by simp only [bZ] at h;simp [rO h.2]
 | [],_::_,h=>by simp [bZ] at h
 |_::_,[],h=>by simp [bZ] at h
theorem bI {g:bV} {m:aQ} {S:aO}:∀ {l:List AV} {vs:List Value},aW g m S l vs→l.length=vs.length
 | [],[],_=>rfl
 |_::_,_::_,h=>by simp only [aW] at h;simp [bI h.2]
 | [],_::_,h=>by simp [aW] at h
 |_::_,[],h=>by simp [aW] at h
theorem HV {S:aO}:∀ {l:List AV} {vs:List Value} (_:bZ S l vs) (i:Nat) {x:AV},l[i]? =some x→∃ v,vs[i]? =some v∧PR S x v
 | [],[],_,i,x,hx=>by simp at hx
 |a::l,v::vs,h,0,x,hx=>by simp only [bZ] at h;simp at hx;subst hx;exact ⟨v,rfl,h.1⟩
 |a::l,v::vs,h,i+1,x,hx=>by simp only [bZ] at h;simp at hx;simpa using HV h.2 i hx
 | [],_::_,h,_,_,_=>by simp [bZ] at h
 |_::_,[],h,_,_,_=>by simp [bZ] at h
theorem m_ {g:bV} {m:aQ} {S:aO}:∀ {l:List AV} {vs:List Value} (_:aW g m S l vs) (i:Nat) {x:AV},l[i]? =some x→∃ v,vs[i]? =some v∧VR g m S x v
 | [],[],_,i,x,hx=>by simp at hx
 |a::l,v::vs,h,0,x,hx=>by simp only [aW] at h;simp at hx;subst hx;exact ⟨v,rfl,h.1⟩
 |a::l,v::vs,h,i+1,x,hx=>by simp only [aW] at h;simp at hx;simpa using m_ h.2 i hx
 | [],_::_,h,_,_,_=>by simp [aW] at h
 |_::_,[],h,_,_,_=>by simp [aW] at h
theorem jT {S:aO}:∀ {l l':List AV} {vs vs':List Value},bZ S l vs→bZ S l' vs'→bZ S (l++l') (vs++vs')
 | [],_,[],_,_,h'=>by simpa using h'
 |_::_,_,_::_,_,h,h'=>by simp only [bZ] at h;simp only [Xqx,bZ];exact ⟨h.1,jT h.2 h'⟩
 | [],_,_::_,_,h,_=>by simp [bZ] at h
 |_::_,_,[],_,h,_=>by simp [bZ] at h
theorem eS {g:bV} {m:aQ} {S:aO}:∀ {l l':List AV} {vs vs':List Value},aW g m S l vs→aW g m S l' vs'→aW g m S (l++l') (vs++vs')
 | [],_,[],_,_,h'=>by simpa using h'
 |_::_,_,_::_,_,h,h'=>by simp only [aW] at h;simp only [Xqx,aW];exact ⟨h.1,eS h.2 h'⟩
 | [],_,_::_,_,h,_=>by simp [aW] at h
 |_::_,_,[],_,h,_=>by simp [aW] at h
theorem iz {S:aO}:∀ (n:Nat) {l:List AV} {vs:List Value},bZ S l vs→bZ S (l.take n) (vs.take n)
 |0,_,_,_=>by simp [bZ]
 |n+1,[],[],_=>by simp [bZ]
 |n+1,_::_,_::_,h=>by simp only [bZ] at h;simp only [Xx3,bZ];exact ⟨h.1,iz n h.2⟩
 |_+1,[],_::_,h=>by simp [bZ] at h
 |_+1,_::_,[],h=>by simp [bZ] at h
theorem mg {S:aO}:∀ (n:Nat) {l:List AV} {vs:List Value},bZ S l vs→bZ S (l.drop n) (vs.drop n)
 |0,_,_,h=>by simpa using h
 |n+1,[],[],_=>by simp [bZ]
 |n+1,_::_,_::_,h=>by simp only [bZ] at h;simpa using mg n h.2
 |_+1,[],_::_,h=>by simp [bZ] at h
 |_+1,_::_,[],h=>by simp [bZ] at h
theorem mi {g:bV} {m:aQ} {S:aO}:∀ (n:Nat) {l:List AV} {vs:List Value},aW g m S l vs→aW g m S (l.take n) (vs.take n)
 |0,_,_,_=>by simp [aW]
 |n+1,[],[],_=>by simp [aW]
 |n+1,_::_,_::_,h=>by simp only [aW] at h;simp only [Xx3,aW];exact ⟨h.1,mi n h.2⟩
 |_+1,[],_::_,h=>by simp [aW] at h
 |_+1,_::_,[],h=>by simp [aW] at h
theorem oL {g:bV} {m:aQ} {S:aO}:∀ (n:Nat) {l:List AV} {vs:List Value},aW g m S l vs→aW g m S (l.drop n) (vs.drop n)
 |0,_,_,h=>by simpa using h
 |n+1,[],[],_=>by simp [aW]
 |n+1,_::_,_::_,h=>by simp only [aW] at h;simpa using oL n h.2
 |_+1,[],_::_,h=>by simp [aW] at h
 |_+1,_::_,[],h=>by simp [aW] at h
theorem iA.mono {S S':aO} (h:jF S S') {b o:Nat} {vs:List Value} (hs:iA S b o vs):iA S' b o vs:=fun j u a=> ⟨h _ _ _ (hs j u a).1,(hs j u a).2⟩
mutual
theorem bP {S S':aO} (h:jF S S'):∀ (x:AV) {v:Value},PR S x v→PR S' x v
 | .int _ _,_,p=>by simpa only [PR] using p
 | .bool _,_,p=>by simpa only [PR] using p
 | .str _,_,p=>by simpa only [PR] using p
 | .nilS,_,p=>by simpa only [PR] using p
 | .nilP,_,p=>by simpa only [PR] using p
 | .nilF,_,p=>by simpa only [PR] using p
 | .nilI,_,p=>by simpa only [PR] using p
 | .dead,_,_=>by simp only [PR]
 | .agg l,_,p=>by
  simp only [PR] at p ⊢;obtain ⟨vs,e,q⟩:=p;exact ⟨vs,e,bk h l q⟩
 | .tup l,_,p=>by
  simp only [PR] at p ⊢;obtain ⟨vs,e,q⟩:=p;exact ⟨vs,e,bk h l q⟩
 | .sl xs n nn,_,p=>by
  simp only [PR] at p ⊢;obtain ⟨a,d,e,i,q⟩:=p;refine ⟨a,d,e,i, ?_⟩;rcases q with q|⟨b,o,vs,A,q,hs⟩
  ·exact .inl q
  ·exact .inr ⟨b,o,vs,A,bk h xs q,hs.mono h⟩
 | .pp xs off,_,p=>by
  simp only [PR] at p ⊢;obtain ⟨b,o,vs,e,q,hs⟩:=p;exact ⟨b,o,vs,e,bk h xs q,hs.mono h⟩
 | .mp ks vs,_,p=>by
  simp only [PR] at p ⊢;rcases p with p|⟨b,B,s,e,h0,j,y,k⟩
  ·exact .inl p
  ·exact .inr ⟨b,B,s,e,h _ _ _ h0,h _ _ _ j,bk h ks y,bk h vs k⟩
 | .fn f a c,_,p=>by
  simp only [PR] at p ⊢;obtain ⟨C,z,e,q,r⟩:=p;exact ⟨C,z,e,bk h a q,bk h c r⟩
 | .ifc t x,_,p=>by
  simp only [PR] at p ⊢;obtain ⟨u,e,q⟩:=p;exact ⟨u,e,bP h x q⟩
 | .ref _ _ _ _,_,p=>by simp only [PR] at p
 | .ptr _ _ _,_,p=>by simp only [PR] at p
 | .mr _ _,_,p=>by simp only [PR] at p
 | .own _ _ _,_,p=>by simp only [PR] at p
theorem bk {S S':aO} (h:jF S S'):∀ (l:List AV) {vs:List Value},bZ S l vs→bZ S' l vs
 | [],[],_=>by simp only [bZ]
 |x::r,v::vs,p=>by simp only [bZ] at p ⊢;exact ⟨bP h x p.1,bk h r p.2⟩
 | [],_::_,p=>by simp [bZ] at p
 |_::_,[],p=>by simp [bZ] at p
end
mutual
theorem eW {g:bV} {m:aQ} {S:aO}:∀ (x:AV) {v:Value},PR S x v→VR g m S x v
 | .int _ _,_,p=>by simpa only [VR] using p
 | .bool _,_,p=>by simpa only [VR] using p
 | .str _,_,p=>by simpa only [VR] using p
 | .nilS,_,p=>by simpa only [VR] using p
 | .nilP,_,p=>by simpa only [VR] using p
 | .nilF,_,p=>by simpa only [VR] using p
 | .nilI,_,p=>by simpa only [VR] using p
 | .sl _ _ _,_,p=>by simpa only [VR] using p
 | .pp _ _,_,p=>by simpa only [VR] using p
 | .mp _ _,_,p=>by simpa only [VR] using p
 | .dead,_,_=>by simp only [VR]
 | .agg l,_,p=>by
  simp only [PR] at p;simp only [VR];obtain ⟨vs,e,q⟩:=p;exact ⟨vs,e,bu l q⟩
 | .tup l,_,p=>by
  simp only [PR] at p;simp only [VR];obtain ⟨vs,e,q⟩:=p;exact ⟨vs,e,bu l q⟩
 | .fn f a c,_,p=>by
  simp only [PR] at p;simp only [VR];obtain ⟨d,b,e,q,r⟩:=p;exact ⟨d,b,e,bu a q,bu c r⟩
 | .ifc t x,_,p=>by
  simp only [PR] at p;simp only [VR];obtain ⟨u,e,q⟩:=p;exact ⟨u,e,eW x q⟩
 | .ref _ _ _ _,_,p=>by simp only [PR] at p
 | .ptr _ _ _,_,p=>by simp only [PR] at p
 | .mr _ _,_,p=>by simp only [PR] at p
 | .own _ _ _,_,p=>by simp only [PR] at p
theorem bu {g:bV} {m:aQ} {S:aO}:∀ (l:List AV) {vs:List Value},bZ S l vs→aW g m S l vs
 | [],[],_=>by simp only [aW]
 |x::r,v::vs,p=>by simp only [bZ] at p;simp only [aW];exact ⟨eW x p.1,bu r p.2⟩
 | [],_::_,p=>by simp [bZ] at p
 |_::_,[],p=>by simp [bZ] at p
end
def ol (g:bV) (m:aQ) (g':bV) (m':aQ) (ρ:Nat→Nat→Option (Nat × Nat)):Prop:=
 ∀ b ver b' ver',ρ b ver=some (b',ver')→∀ B,g b=some B→ver≤B.ver→
  ∃ B',g' b'=some B'∧ver'≤B'.ver∧(B'.ver=ver'→B.ver=ver∧m' b'=m b∧B'.esz=B.esz)
mutual
theorem uK {g g':bV} {m G:aQ} {S S':aO} {ρ:Nat→Nat→Option (Nat × Nat)} (j:jF S S') (h:ol g m g' G ρ):∀ (x:AV) {v:Value},VR g m S x v→VR g' G S' (ren ρ x) v
 | .int k n,_,p=>by simp only [VR] at p;simp only [ren,VR];exact bP j _ p
 | .bool _,_,p=>by simp only [VR] at p;simp only [ren,VR];exact bP j _ p
 | .str _,_,p=>by simp only [VR] at p;simp only [ren,VR];exact bP j _ p
 | .nilS,_,p=>by simp only [VR] at p;simp only [ren,VR];exact bP j _ p
 | .nilP,_,p=>by simp only [VR] at p;simp only [ren,VR];exact bP j _ p
 | .nilF,_,p=>by simp only [VR] at p;simp only [ren,VR];exact bP j _ p
 | .nilI,_,p=>by simp only [VR] at p;simp only [ren,VR];exact bP j _ p
 | .sl _ _ _,_,p=>by simp only [VR] at p;simp only [ren,VR];exact bP j _ p
 | .pp _ _,_,p=>by simp only [VR] at p;simp only [ren,VR];exact bP j _ p
 | .mp _ _,_,p=>by simp only [VR] at p;simp only [ren,VR];exact bP j _ p
 | .dead,_,_=>by simp only [ren,VR]
 | .own _ _ _,_,p=>by simp only [VR] at p
 | .agg l,_,p=>by
  simp only [VR] at p;simp only [ren,VR];obtain ⟨vs,e,q⟩:=p;exact ⟨vs,e,iB j h l q⟩
 | .tup l,_,p=>by
  simp only [VR] at p;simp only [ren,VR];obtain ⟨vs,e,q⟩:=p;exact ⟨vs,e,iB j h l q⟩
 | .fn f a c,_,p=>by
  simp only [VR] at p;simp only [ren,VR];obtain ⟨J,H,e,q,r⟩:=p;exact ⟨J,H,e,iB j h a q,iB j h c r⟩
 | .ifc t x,_,p=>by
  simp only [VR] at p;simp only [ren,VR];obtain ⟨u,e,q⟩:=p;exact ⟨u,e,uK j h x q⟩
 | .ref b ver i n,_,p=>by
  simp only [VR] at p;simp only [ren];obtain ⟨B,F,D,y,q⟩:=p;cases hρ:ρ b ver with
  |none=>simp only [VR]
  |some bv=>
   obtain ⟨z,d⟩:=bv;obtain ⟨B',o,s,C⟩:=h b ver z d hρ B F D;simp only [VR];refine ⟨B',o,s,y,fun e=> ?_⟩;obtain ⟨E,A,I⟩:=C e;rw [A,I];exact q E
 | .ptr b ver off,_,p=>by
  simp only [VR] at p;simp only [ren];obtain ⟨B,F,D,y,q⟩:=p;cases hρ:ρ b ver with
  |none=>simp only [VR]
  |some bv=>
   obtain ⟨z,d⟩:=bv;obtain ⟨B',o,s,C⟩:=h b ver z d hρ B F D;simp only [VR];refine ⟨B',o,s,y,fun e=> ?_⟩;obtain ⟨E,A,_⟩:=C e;rw [A];exact q E
 | .mr b ver,_,p=>by
  simp only [VR] at p;simp only [ren];obtain ⟨B,F,D,y,q⟩:=p;cases hρ:ρ b ver with
  |none=>simp only [VR]
  |some bv=>
   obtain ⟨z,d⟩:=bv;obtain ⟨B',o,s,C⟩:=h b ver z d hρ B F D;simp only [VR];refine ⟨B',o,s,y,fun e=> ?_⟩;obtain ⟨E,A,_⟩:=C e;rw [A];exact q E
theorem iB {g g':bV} {m b:aQ} {S S':aO} {ρ:Nat→Nat→Option (Nat × Nat)} (a:jF S S') (h:ol g m g' b ρ):∀ (l:List AV) {vs:List Value},aW g m S l vs→aW g' b S' (ju ρ l) vs
 | [],[],_=>by simp only [ju,aW]
 |x::r,v::vs,p=>by simp only [aW] at p;simp only [ju,aW];exact ⟨uK a h x p.1,iB a h r p.2⟩
 | [],_::_,p=>by simp [aW] at p
 |_::_,[],p=>by simp [aW] at p
end
def Ge (g:bV) (m:aQ) (g':bV) (m':aQ):Prop:=
 ∀ b B,g b=some B→∃ B',g' b=some B'∧B'.esz=B.esz∧((B'.ver=B.ver∧m' b=m b)∨B.ver<B'.ver)
theorem Ge.refl (g:bV) (m:aQ):Ge g m g m:=fun _ B h=> ⟨B,h,rfl,.inl ⟨rfl,rfl⟩⟩
theorem Ge.trans {g g' i:bV} {m k a:aQ} (h:Ge g m g' k) (l:Ge g' k i a):Ge g m i a:=by
 intro b B s;obtain ⟨B',j,e,c⟩:=h b B s;obtain ⟨B'',f,e',p⟩:=l b B' j;refine ⟨B'',f,e'.trans e, ?_⟩;rcases c with ⟨n,q⟩|c<;>rcases p with ⟨o,r⟩|d
 ·exact .inl ⟨o.trans n,r.trans q⟩
 ·exact .inr (by omega)
 ·exact .inr (by omega)
 ·exact .inr (by omega)
mutual
theorem kW {g g':bV} {m D:aQ} {S S':aO} (o:jF S S') (h:Ge g m g' D):∀ (x:AV) {v:Value},VR g m S x v→VR g' D S' x v
 | .int k n,_,p=>by simp only [VR] at p ⊢;exact bP o _ p
 | .bool _,_,p=>by simp only [VR] at p ⊢;exact bP o _ p
 | .str _,_,p=>by simp only [VR] at p ⊢;exact bP o _ p
 | .nilS,_,p=>by simp only [VR] at p ⊢;exact bP o _ p
 | .nilP,_,p=>by simp only [VR] at p ⊢;exact bP o _ p
 | .nilF,_,p=>by simp only [VR] at p ⊢;exact bP o _ p
 | .nilI,_,p=>by simp only [VR] at p ⊢;exact bP o _ p
 | .sl _ _ _,_,p=>by simp only [VR] at p ⊢;exact bP o _ p
 | .pp _ _,_,p=>by simp only [VR] at p ⊢;exact bP o _ p
 | .mp _ _,_,p=>by simp only [VR] at p ⊢;exact bP o _ p
 | .dead,_,_=>by simp only [VR]
 | .own _ _ _,_,p=>by simp only [VR] at p
 | .agg l,_,p=>by
  simp only [VR] at p ⊢;obtain ⟨vs,e,q⟩:=p;exact ⟨vs,e,jl o h l q⟩
 | .tup l,_,p=>by
  simp only [VR] at p ⊢;obtain ⟨vs,e,q⟩:=p;exact ⟨vs,e,jl o h l q⟩
 | .fn f a c,_,p=>by
  simp only [VR] at p ⊢;obtain ⟨G,F,e,q,r⟩:=p;exact ⟨G,F,e,jl o h a q,jl o h c r⟩
 | .ifc t x,_,p=>by
  simp only [VR] at p ⊢;obtain ⟨u,e,q⟩:=p;exact ⟨u,e,kW o h x q⟩
 | .ref b ver i n,_,p=>by
  simp only [VR] at p ⊢;obtain ⟨B,z,E,j,q⟩:=p;obtain ⟨B',d,A,s⟩:=h b B z;rcases s with ⟨C,y⟩|c
  ·refine ⟨B',d,by omega,j,fun e=> ?_⟩;rw [y,A];exact q (by omega)
  ·exact ⟨B',d,by omega,j,fun e=>by omega⟩
 | .ptr b ver off,_,p=>by
  simp only [VR] at p ⊢;obtain ⟨B,z,E,j,q⟩:=p;obtain ⟨B',d,A,s⟩:=h b B z;rcases s with ⟨C,y⟩|c
  ·refine ⟨B',d,by omega,j,fun e=> ?_⟩;rw [y];exact q (by omega)
  ·exact ⟨B',d,by omega,j,fun e=>by omega⟩
 | .mr b ver,_,p=>by
  simp only [VR] at p ⊢;obtain ⟨B,z,E,j,q⟩:=p;obtain ⟨B',d,A,s⟩:=h b B z;rcases s with ⟨C,y⟩|c
  ·refine ⟨B',d,by omega,j,fun e=> ?_⟩;rw [y];exact q (by omega)
  ·exact ⟨B',d,by omega,j,fun e=>by omega⟩
theorem jl {g g':bV} {m b:aQ} {S S':aO} (a:jF S S') (h:Ge g m g' b):∀ (l:List AV) {vs:List Value},aW g m S l vs→aW g' b S' l vs
 | [],[],_=>by simp only [aW]
 |x::r,v::vs,p=>by simp only [aW] at p ⊢;exact ⟨kW a h x p.1,jl a h r p.2⟩
 | [],_::_,p=>by simp [aW] at p
 |_::_,[],p=>by simp [aW] at p
end
def js (ap:AP) (S:aO):Prop:=∀ k xs,(ap.gl[k]?).join=some xs→∃ vs,bZ S xs vs∧iA S k 0 vs
structure fe (P:Program) (ap:AP):Prop where
 ty:∀ t ti,ap.tyAt t=some ti→Pi P t=some ti
def su (es:Array MapEntry):Array Value:=#[.agg (es.map (·.key)),.agg (es.map (·.val))]
def gA (w:World) (k z:Nat) (cur:Array Value) (e:TypeId):Prop:=
 (z ≠ fw∧w.heap[k]? =some (.cells cur e (0,0)))∨(z=fw∧∃ es clk,w.heap[k]? =some (.map es clk)∧cur=su es)
def cf (w:World) (k o:Nat):Option Value:=match w.heap[k]? with
 |some (.map es _)=>(su es)[o]?
 |_=>match w.cell? ⟨k,o,none⟩ with|some v=>if v.oneCell' then some v else none|none=>none
theorem gA.of {w:World} {k z:Nat} {cur:Array Value} {e:TypeId} (a:z ≠ fw) (h:w.heap[k]? =some (.cells cur e (0,0))):gA w k z cur e:= .inl ⟨a,h⟩
theorem gA.cells {w:World} {k z:Nat} {cur:Array Value} {e:TypeId} (h:gA w k z cur e) (a:z ≠ fw):w.heap[k]? =some (.cells cur e (0,0)):=by
 rcases h with h|h
 ·exact h.2
 ·exact absurd h.1 a
theorem gA.map {w:World} {k z:Nat} {cur:Array Value} {e:TypeId} (h:gA w k z cur e) (a:z=fw):∃ es clk,w.heap[k]? =some (.map es clk)∧cur=su es:=by
 rcases h with h|h
 ·exact absurd a h.1
 ·exact h.2
theorem gA.same {w w':World} {k z:Nat} {cur:Array Value} {e:TypeId} (h:gA w k z cur e) (a:w'.heap[k]? =w.heap[k]?):gA w' k z cur e:=by
 unfold gA;rw [a];exact h
theorem gA.lt {w:World} {k z:Nat} {cur:Array Value} {e:TypeId} (h:gA w k z cur e):k<w.heap.size:=by
 rcases h with ⟨_,h⟩|⟨_,b,a,h,_⟩<;>exact (Array.getElem?_eq_some_iff.1 h).1
theorem Gr {w w':World} {k o:Nat} (b:w'.heap[k]? =w.heap[k]?):cf w' k o=cf w k o:=by
 unfold cf;rw [b,World.cell?_of_block (w:=w) (a:=⟨k,o,none⟩) b]
theorem qm {w:World} {k o:Nat} {v:Value} (h:cf w k o=some v) (a:v.oneCell'=true):w.cell? ⟨k,o,none⟩=some v:=by
 unfold cf at h;split at h
 ·rename_i e c d;exfalso;unfold su at h;rcases (show o=0∨o=1∨2≤o by omega) with rfl|rfl|ho
  ·cases h;cases a
  ·cases h;cases a
  ·rw [Array.getElem?_eq_none (by simpa using ho)] at h;cases h
 ·split at h
  ·rename_i f b;split at h
   ·cases h;exact b
   ·cases h
  ·cases h
theorem xQ {w:World} {k o:Nat} {v:Value} (h:w.cell? ⟨k,o,none⟩=some v) (c:v.oneCell'=true):cf w k o=some v:=by
 unfold cf;split
 ·rename_i d b a;unfold World.cell? at h;simp only [a] at h;cases h
 ·rw [h];simp only;rw [if_pos c]
theorem ql {w:World} {k o:Nat} {v:Value} (h:cf w k o=some v) (e:v.oneCell'=false):∃ b a,w.heap[k]? =some (.map b a)∧(su b)[o]? =some v:=by
 unfold cf at h;split at h
 ·rename_i b a d;exact ⟨b,a,d,h⟩
 ·split at h
  ·split at h
   ·rename_i c;cases h;rw [e] at c;cases c
   ·cases h
  ·cases h
theorem Ef {w:World} {k o:Nat} {v:Value} (h:cf w k o=some v):k<w.heap.size:=by
 cases a:v.oneCell' with
 |true=>exact World.block_lt_of_cell? w _ (qm h a)
 |false=>
  obtain ⟨_,_,b,_⟩:=ql h a;exact (Array.getElem?_eq_some_iff.1 b).1
structure JK (g:bV) (m:aQ) (S:aO) (w:World) (B:aR) (k c:Nat):Prop where
 lies:∃ cur e vs rest,gA w k B.esz cur e∧cur.toList=vs++rest∧(B.pr=true→bZ S B.cells vs)∧aW g m S B.cells vs∧(B.esz ≠ fw→∀ u ∈ vs,u.oneCell'=true)∧(0<B.esz→B.esz ≠ fw→cur.size=c*B.esz∧c≤maxLen)
 fz0:B.fro=false→B.fz=0
 fzle:B.fz≤B.cells.length
structure bF (ap:AP) (g:bV) (m:aQ) (S:aO) (w:World):Prop where
 inj:∀ b b' B B',g b=some B→g b'=some B'→(m b).1=(m b').1→b=b'
 blk:∀ b B,g b=some B→JK g m S w B (m b).1 (m b).2
 sealed:∀ k o v,S k o=some v→cf w k o=some v
 own:∀ b B,g b=some B→∀ o v,S (m b).1 o=some v→B.fro=true∧o<B.fz
 glob:js ap S
structure Fr (g:bV) (m:aQ) (S:aO) (w:World) (g':bV) (m':aQ) (S':aO) (w':World):Prop where
 ge:Ge g m g' m'
 sle:jF S S'
 os:w'.os=w.os
 tape:w'.tape=w.tape
 output:w'.output=w.output
 size:w.heap.size≤w'.heap.size
 rest:∀ k,k<w.heap.size→(∀ b B,g b=some B→(m b).1 ≠ k)→w'.heap[k]? =w.heap[k]?
 img:∀ b B,g' b=some B→w.heap.size≤(m' b).1∨(∃ B0,g b=some B0∧(m' b).1=(m b).1)
 sealN:∀ k o v,S' k o=some v→S k o=some v∨w.heap.size≤k∨∃ b B,g b=some B∧(m b).1=k
theorem Fr.refl (g:bV) (m:aQ) (S:aO) (w:World):Fr g m S w g m S w:=
 ⟨Ge.refl g m,jF.refl S,rfl,rfl,rfl,φ _,fun _ _ _=>rfl,fun _ B h=> .inr ⟨B,h,rfl⟩,fun _ _ _ h=> .inl h⟩
theorem Fr.trans {g g' l:bV} {m s i:aQ} {S S' S'':aO} {w w' j:World} (h:Fr g m S w g' s S' w') (d:Fr g' s S' w' l i S'' j):Fr g m S w l i S'' j:=by
 refine ⟨h.ge.trans d.ge,h.sle.trans d.sle,d.os.trans h.os,d.tape.trans h.tape,d.output.trans h.output,Xxa h.size d.size, ?_, ?_, ?_⟩
 ·intro k r t;rw [d.rest k (Nat.lt_of_lt_of_le r h.size) ?_,h.rest k r t];intro b B n e;rcases h.img b B n with a|⟨B0,c,a⟩
  ·omega
  ·exact t b B0 c (a ▸ e)
 ·intro b B n;rcases d.img b B n with a|⟨B0,c,a⟩
  ·exact .inl (Xxa h.size a)
  ·rcases h.img b B0 c with p|⟨B1,q,p⟩
   ·exact .inl (a ▸ p)
   ·exact .inr ⟨B1,q,a.trans p⟩
 ·intro k o v u;rcases d.sealN k o v u with f|f|⟨b,B,n,f⟩
  ·exact h.sealN k o v f
  ·exact .inr (.inl (Xxa h.size f))
  ·rcases h.img b B n with a|⟨B0,c,a⟩
   ·exact .inr (.inl (f ▸ a))
   ·exact .inr (.inr ⟨b,B0,c,by rw [← f,a]⟩)
theorem bF.lt {ap:AP} {g:bV} {m:aQ} {S:aO} {w:World} (h:bF ap g m S w) {b:Nat} {B:aR} (c:g b=some B):(m b).1<w.heap.size:=by
 obtain ⟨cur,e,vs,rest,a,_⟩:=(h.blk b B c).lies;exact a.lt
theorem bF.one {ap:AP} {g:bV} {m:aQ} {S:aO} {w:World} (h:bF ap g m S w) {k o:Nat} {v:Value} (b:S k o=some v) (a:v.oneCell'=true):w.cell? ⟨k,o,none⟩=some v:=qm (h.sealed k o v b) a
theorem oP {w:World} {k j:Nat} {cur:Array Value} {e:TypeId} {a:Nat × Nat} (h:w.heap[k]? =some (.cells cur e a)):w.cell? ⟨k,j,none⟩=cur.toList[j]? :=by
 rw [cell_of_row w k j cur e a h];simp
theorem gA.get {w:World} {k z j:Nat} {cur:Array Value} {e:TypeId} {u:Value} (h:gA w k z cur e) (a:cur.toList[j]? =some u) (b:z ≠ fw→u.oneCell'=true):cf w k j=some u:=by
 rcases h with ⟨c,h⟩|⟨_,f,d,h,rfl⟩
 ·exact xQ (by rw [oP h];exact a) (b c)
 ·unfold cf;rw [h];simpa using a
theorem dV {a b:IntKind} (h:fD a b=true):a=b:=by cases a<;>cases b<;>first|rfl|(exact absurd h (by decide))
theorem aK {a b:Nat} (h:Xqn a b=true):a=b:=Nat.eq_of_beq_eq_true h
theorem dZ {a b:Nat} (h:Xqk a b=true):a≤b:=Nat.le_of_ble_eq_true h
theorem dG {a b:Nat} (h:Xjd a b=true):a<b:=by
 have:Xqk (a+1) b=true:=h;exact dZ this
theorem Vb {S:aO} {x:AV} {v:Value} (h:PR S x v) (a:kw x=true):v.oneCell'=true:=by
 cases x<;>simp only [PR] at h<;>first
  |(subst h;rfl)
  |(rcases h with ⟨rfl,_⟩|⟨_,_,_,rfl,_⟩<;>rfl)
  |(obtain ⟨_,_,_,rfl,_⟩:=h;rfl)
  |(obtain ⟨_,_,rfl,_⟩:=h;rfl)
  |(obtain ⟨_,rfl,_⟩:=h;first|rfl|exact absurd a (by simp [kw]))
  |(exact absurd a (by simp [kw]))
theorem Gg {g:bV} {m:aQ} {S:aO} {x:AV} {v:Value} (h:VR g m S x v) (a:kw x=true):v.oneCell'=true:=by
 cases x<;>simp only [VR] at h<;>first
  | (exact Vb h a)
    |(obtain ⟨_,_,_,⟨_,_,rfl⟩,_⟩:=h;rfl)
  |(obtain ⟨_,_,_,⟨_,_,_,rfl⟩,_⟩:=h;rfl)
  |(obtain ⟨_,_,rfl,_⟩:=h;rfl)
  |(obtain ⟨_,rfl,_⟩:=h;first|rfl|exact absurd a (by simp [kw]))
  |(exact absurd a (by simp [kw]))
end AM
namespace AM
open Go
structure wR (P:Program) (t:Nat) (ti:TI) (i:TypeInfo) (d:TypeDesc) (z:Value):Prop where
 info:P.info? t=some i
 und:P.underlying t=some d
 d_eq:ti.d=gX P (some d)
 size:ti.size=i.size
 bytes:ti.bytes=i.bytes
 zero:i.zero=some z
 zcells:ti.zero=z.cells.toList.map zq
 zleaf:∀ x ∈ ti.zero,kw x=true
 zsize:z.cells.size=i.size
 lks:ti.lks.length=i.size
 pos:0<i.size
 zagg:Yy i d=true
 fld:MV P d=true
 small:i.size<fw
theorem cO {P:Program} {ap:AP} (f:fe P ap) {t:Nat} {c:TI} (h:ap.tyAt t=some c):∃ i d z,wR P t c i d z:=by
 have a:=f.ty t c h;unfold Pi at a;cases b:P.info? t with
 |none=>simp [b] at a
 | some i=>
  cases hd:P.underlying t with
  |none=>simp [b,hd] at a
  | some d=>
   simp only [b,hd] at a;split at a
   ·rename_i k;simp only [π] at k;obtain ⟨⟨⟨⟨⟨⟨n,j⟩,q⟩,p⟩,u⟩,o⟩,s⟩:=k;cases e:i.zero with
    |none=>simp [e] at o
    | some z=>
     cases a;have l:Aq i=z.cells.toList.map zq:=by simp [Aq,e]
     refine ⟨i,d,z,b,hd,rfl,rfl,rfl,e,l, ?_, ?_,aK n,dG u,j.1,j.2,dG s⟩
     ·intro x r;exact List.all_eq_true.1 q x r
     ·have:=aK p;rw [l] at this;simpa using this
   ·cases a
theorem eO {P:Program} {d:TypeDesc} {e:Nat} (h:gX P (some d)= .slice e):d= .slice e:=by cases d<;>simp [gX] at h;subst h;rfl
theorem uy {P:Program} {d:TypeDesc} {n e:Nat} (h:gX P (some d)= .array n e):d= .array n e:=by cases d<;>simp [gX] at h;obtain ⟨rfl,rfl⟩:=h;rfl
theorem sL {P:Program} {d:TypeDesc} (h:gX P (some d)= .str):d= .string:=by cases d<;>simp [gX] at h;rfl
theorem Pf {P:Program} {d:TypeDesc} {k:IntKind} (h:gX P (some d)= .int k):d= .int k:=by cases d<;>simp [gX] at h;subst h;rfl
theorem Tv {P:Program} {d:TypeDesc} (h:gX P (some d)= .bool):d= .bool:=by cases d<;>simp [gX] at h;rfl
theorem qK {P:Program} {d:TypeDesc} {a:List (Nat × Nat × Nat)} (h:gX P (some d)= .struct a):
  ∃ fields:Array Field,d= .struct fields∧a=fields.toList.map fun f=>(f.offset,f.type,match P.info? f.type with|some i=>i.size|none=>0):=by
 cases d<;>simp [gX] at h
 exact ⟨_,rfl,h.symm⟩
theorem Af {P:Program} (d:TypeDesc):C9 (gX P (some d))=d.isRow:=by cases d<;>simp [gX,C9,TypeDesc.isRow]
theorem Bg (S:aO) (v:Value):PR S (Dn v) v:=by
 cases v<;>simp only [Dn,PR]
 case pointer a=>cases a<;>simp only [PR]
 case map a=>
  cases a with
  |none=>simp [PR]
  |some _=>simp only [PR]
 case slice a n c=>
  split<;>simp only [PR]
theorem D6 (S:aO) (v:Value):PR S (zq v) v:=by
 cases v<;>simp only [zq]<;>try exact Bg S _
 case agg cs=>
  simp only [PR];refine ⟨cs.toList,by simp, ?_⟩
  induction cs.toList with
  |nil=>simp [bZ]
  |cons c r ih=>simp only [Xqc,bZ];exact ⟨Bg S c,ih⟩
 case tuple vs=>
  split
  ·rename_i h;simp only [PR];exact ⟨[],by rw [← h],by simp [bZ]⟩
  ·simp only [PR]
theorem qX (S:aO):∀ l:List Value,bZ S (l.map zq) l
 | []=>by simp [bZ]
 |v::r=>by simp only [Xqc,bZ];exact ⟨D6 S v,qX S r⟩
theorem Vc {g:bV} {m:aQ} {S:aO} {k:LK} {c:AV} {v:Value} (h:VR g m S c v) (f:chk k c=true):VR g m S (eta k c) v:=by
 cases k<;>cases c<;>simp [chk] at f<;>simp only [eta,AV.toInt,AV.toBool,AV.toStr,AV.slX,AV.slN]<;>try exact h
 ·rw [dV f];exact h
 ·simp only [VR,PR] at h ⊢;subst h;exact ⟨none,0,rfl,φ _,.inl ⟨rfl,trivial,trivial,trivial,rfl⟩⟩
 ·simp only [VR,PR] at h ⊢;obtain ⟨a,d,e,b,q⟩:=h;refine ⟨a,d,e,b, ?_⟩;rcases q with ⟨n,_,j,l,i⟩|q
  ·exact .inl ⟨n,trivial,j,l,i⟩
  ·exact .inr q
theorem vN {k:LK} {c:AV} (h:chk k c=true):c ≠ .dead:=by intro e;subst e;cases k<;>simp [chk] at h
theorem getD_some {a:List AV} {i:Nat} (h:a.getD i .dead ≠ .dead):a[i]? =some (a.getD i .dead):=by
 rw [ν] at h ⊢;cases b:a[i]? with
 |none=>simp [b] at h
 |some x=>simp
theorem km (b:List AV) (a:Nat):(b.drop a).headD .dead=b.getD a .dead:=by
 rw [Xwn,Xki,ν]
theorem KT (ty:Bool) (b:List AV) (a:Nat):pR ty [] b a= []:=rfl
theorem sF (ty:Bool) (k:LK) (ks:List LK) (b:List AV) (a:Nat):pR ty (k::ks) b a=(match ty with|true=>eta k (b.getD a .dead)|false=>b.getD a .dead)::pR ty ks b (a+1):=by
 show _::Fq ty ks (b.drop a).tail=_::Fq ty ks (b.drop (a+1));rw [Xkr];cases ty<;>simp only [km]
theorem JV (ty:Bool) (k:LK) (ks:List LK) (b:List AV) (a:Nat):CF ty (k::ks) b a=(match ty with|true=>chk k (b.getD a .dead)|false=>chk .oth (b.getD a .dead))::CF ty ks b (a+1):=by
 show _::L_ ty ks (b.drop a).tail=_::L_ ty ks (b.drop (a+1));rw [Xkr];cases ty<;>simp only [km]
theorem lB {g:bV} {m:aQ} {S:aO} (ty:Bool) {i:List AV} {vs:List Value} (l:aW g m S i vs):∀ (lks:List LK) (a:Nat),(∀ b ∈ CF ty lks i a,b=true)→
  ∃ e:List Value,e.length=lks.length∧(∀ j u,e[j]? =some u→vs[a+j]? =some u)∧aW g m S (pR ty lks i a) e:=by
 intro lks
 induction lks with
 |nil=>exact fun a _=> ⟨[],rfl,fun _ _ h=>by simp at h,by simp [KT,aW]⟩
 | cons k ks ih=>
  intro a h;simp only [JV,List.mem_cons,forall_eq_or_imp] at h;obtain ⟨e,o,p,n⟩:=ih (a+1) h.2;have key:∃ v,vs[a]? =some v∧VR g m S ((pR ty (k::ks) i a).headD .dead) v:=by
   rw [sF];cases ty with
   |true=>
    obtain ⟨v,d,c⟩:=m_ l a (getD_some (vN h.1));exact ⟨v,d,Vc c h.1⟩
   |false=>
    obtain ⟨v,d,c⟩:=m_ l a (getD_some (vN h.1));exact ⟨v,d,c⟩
  obtain ⟨v,d,c⟩:=key;rw [sF] at c;refine ⟨v::e,by simp [o], ?_, ?_⟩
  ·intro j u f;cases j with
   |zero=>simp at f;subst f;simpa using d
   |succ j=>simp at f;rw [show a+(j+1)=a+1+j from by omega];exact p j u f
  ·simp only [sF,aW];exact ⟨c,n⟩
theorem yS {P:Program} {w:World} {t:Nat} {l:TI} {i:TypeInfo} {d:TypeDesc} {z:Value} (f:wR P t l i d z) {g:bV} {m:aQ} {S:aO} {o:List AV} {e:List Value} {k a:Nat}
  (hl:e.length=l.lks.length) (hu:∀ j u,e[j]? =some u→w.cell? ⟨k,a+j,none⟩=some u) (hr:aW g m S o e) {v:AV} (hv:mQ l o=some v):
  ∃ cv,(loadVar t ⟨k,a,none⟩).run P w= .ok cv w∧VR g m S v cv:=by
 unfold mQ at hv;rw [f.d_eq,Af] at hv;split at hv
 ·rename_i b;cases hv;refine ⟨.agg e.toArray,run_loadVar_mid w k a t e d hu f.und b (by simp [f.info,hl,f.lks]), ?_⟩;simp only [VR];exact ⟨e,rfl,hr⟩
 ·rename_i b;split at hv
  ·rename_i c;cases hv;cases e with
   |nil=>simp [aW] at hr
   | cons u r=>
    simp only [aW] at hr;refine ⟨u, ?_,hr.1⟩;have h:(isAgg t).run P w= .ok false w:=by
     unfold isAgg;rw [Sem.run_bind,run_underlying f.und w];cases d<;>simp_all [TypeDesc.isRow]
    have n:=hu 0 u rfl;simp only [Xq3] at n;simp [loadVar,h,n]
  ·cases hv
theorem bind_some {α β:Type} {x:Option α} {f:α→Option β} {b:β} (h:x.bind f=some b):∃ a,x=some a∧f a=some b:=by
 cases x with
 |none=>simp at h
 |some a=>exact ⟨a,rfl,h⟩
theorem aL {v b:AV} {bs a:List Bool} {ups:List (Nat × aR)} (h:aY v bs=some (b,ups,a)):b=v∧ups= []∧a=bs:=by
 unfold aY at h;cases h;exact ⟨rfl,rfl,rfl⟩
section
variable {P:Program} {ap:AP} {g:bV} {m:aQ} {S:aO} {w:World}
theorem vV (L:bF ap g m S w) {rd:bV} (A:∀ b B,rd b=some B→g b=some B) {t:Nat} {x:TI} {i:TypeInfo} {d:TypeDesc} {z:Value} (M:wR P t x i d z)
  {p v:AV} {cp:Value} (hp:VR g m S p cp) {ups:List (Nat × aR)} {bs:List Bool} (h:EW x rd p=some (v,ups,bs)) (hbs:∀ b ∈ bs,b=true):
  ups= []∧∃ cv,(Instr.loadAt t cp).run P w= .ok cv w∧VR g m S v cv:=by
 unfold EW at h;split at h
 ·rename_i T f;obtain ⟨R,l,h⟩:=bind_some h;obtain ⟨rfl,rfl,rfl⟩:=aL h;simp only [VR,PR] at hp;obtain ⟨b,o,vs,rfl,hp,hs⟩:=hp;obtain ⟨O,D,J,I⟩:=lB (g:=g) (m:=m) true (bu _ hp) x.lks f hbs;obtain ⟨cv,F,E⟩:=yS (w:=w) M (k:=b) (a:=o+f) D (fun j u G=>by
   have K:=hs (f+j) u (J j u G);have:=L.one K.1 K.2;rw [Xzi];exact this) I l
  exact ⟨rfl,cv,by simpa [Instr.loadAt,Instr.sureAddr] using F,E⟩
 ·rename_i b ver f;obtain ⟨B,N,h⟩:=bind_some h;split at h
  ·rename_i c;obtain ⟨R,l,h⟩:=bind_some h;obtain ⟨rfl,rfl,rfl⟩:=aL h;simp only [VR] at hp;obtain ⟨B',r,_,_,q⟩:=hp;have n:=A b B N;rw [n] at r;cases r;simp only [π,Xqq] at c;have C:B.esz ≠ fw:=fun e=>by rw [e] at c;exact absurd c.2 (by decide)
   have q:=q (aK c.1);subst q;obtain ⟨cur,e,vs,rest,y,Q,_,H,_⟩:=(L.blk b B n).lies;have y:=y.cells C;obtain ⟨O,D,J,I⟩:=lB _ H x.lks f hbs;obtain ⟨cv,F,E⟩:=yS (w:=w) M (k:=(m b).1) (a:=f) D (fun j u G=>by
    have s:=J j u G;rw [oP y,Q,List.getElem?_append_left (List.getElem?_eq_some_iff.1 s).1];exact s) I l
   exact ⟨rfl,cv,by simpa [Instr.loadAt,Instr.sureAddr] using F,E⟩
  ·cases h
 ·cases h
theorem zr {p d:AV} {f:Value} (hp:VR g m S p f) {o:Nat} (h:N0 p o=some d):∃ a:Addr,f= .pointer (some a)∧VR g m S d (.pointer (some (a.add o))):=by
 unfold N0 at h;split at h<;>cases h
 ·rename_i b ver c;simp only [VR] at hp;obtain ⟨B,l,r,⟨k,j,rfl⟩,q⟩:=hp;refine ⟨_,rfl, ?_⟩;simp only [VR];refine ⟨B,l,r,⟨k,j+o,by rw [Addr.add_mid]⟩,fun e=> ?_⟩;have q:=q e;simp only [Value.pointer.injEq,Option.some.injEq,Addr.mk.injEq] at q;obtain ⟨n,i,_⟩:=q;rw [Addr.add_mid,n,i]
 ·rename_i s c;simp only [VR,PR] at hp;obtain ⟨b,k,vs,rfl,hp,hs⟩:=hp;refine ⟨_,rfl, ?_⟩;simp only [VR,PR];exact ⟨b,k,vs,by rw [Addr.add_mid,Xzi],hp,hs⟩
end
end AM
namespace AM
open Go
section
variable {P:Program} {ap:AP} {g:bV} {m:aQ} {S:aO} {w:World}
theorem bN {b:Bool} {l:List Bool} (h:∀ x ∈ b::l,x=true):b=true∧∀ x ∈ l,x=true:=⟨h b (by simp),fun x a=>h x (by simp [a])⟩
theorem ic {t:Nat} {a:TI} {i:TypeInfo} {d:TypeDesc} {z:Value} (b:wR P t a i d z) (w:World):(Go.sizeOf t).run P w= .ok a.size w:=by
 simp [Go.sizeOf,typeInfo,b.info,b.size]
theorem vP {x:AV} {a:Value} (b:VR g m S x a) {n:Int} (h:IA x=some n):∃ k,a= .int k n:=by
 cases x<;>simp [IA] at h
 subst h;simp only [VR,PR] at b;exact ⟨_,b⟩
theorem wF {t:Nat} {s:TI} {i:TypeInfo} {d:TypeDesc} {z:Value} (x:wR P t s i d z) {u:List (Nat × Nat × Nat)} (hd:s.d= .struct u) {f o A l:Nat} (q:u[f]? =some (o,A,l)) (c:Xjd 0 l=true)
  {p v:AV} {cp:Value} (hp:VR g m S p cp) (k:N0 p o=some v):∃ cv,(Instr.fieldAt t cp f).run P w= .ok cv w∧VR g m S v cv:=by
 rw [x.d_eq] at hd;obtain ⟨fields,rfl,rfl⟩:=qK hd;simp only [Xqy,Xqp] at q;obtain ⟨r,h,n⟩:=q;simp only [Prod.mk.injEq] at n;obtain ⟨rfl,rfl,hs⟩:=n;obtain ⟨a,rfl,k⟩:=zr hp k;refine ⟨_, ?_,k⟩;have b:fields[f]? =some r:=by simpa using h
 cases e:P.info? r.type with
 |none=>rw [e] at hs;simp only at hs;subst hs;exact absurd (dG c) (by omega)
 |some j=>
  rw [e] at hs;have y:j.size ≠ 0:=by have:=dG c;simp only at hs;omega
  simp [Instr.fieldAt,run_underlying x.und,b,Instr.sureAddr,fieldPlace,Go.sizeOf,typeInfo,e,y]
theorem kC {i:Int} {n:Nat} (h0:decide (0≤i)=true) (c:decide (i<n)=true):0≤i∧i<n∧i.toNat<n:=by
 have a:=of_decide_eq_true h0;have b:=of_decide_eq_true c;omega
theorem uT (C:fe P ap) {rd:bV} (E:∀ b B,rd b=some B→g b=some B) {t:Nat} {J:TI} {i:TypeInfo} {d:TypeDesc} {z:Value} (u:wR P t J i d z)
  {x ix v:AV} {cx ci:Value} (hx:VR g m S x cx) (hi:VR g m S ix ci) {ups:List (Nat × aR)} {bs:List Bool} (h:si ap J rd x ix=some (v,ups,bs)) (hbs:∀ b ∈ bs,b=true):
  ups= []∧∃ cv,(Instr.indexAt t cx ci).run P w= .ok cv w∧VR g m S v cv:=by
 unfold si at h;have l:=bind_some h;clear h;obtain ⟨n,Q,h⟩:=l;obtain ⟨k,rfl⟩:=vP hi Q;split at h
 ·rename_i e hd;have l:=bind_some h;clear h;obtain ⟨F,c,h⟩:=l;obtain ⟨R,U,M,c⟩:=cO C c;rw [u.d_eq] at hd;have hd:=eO hd;subst hd;split at h
  ·rename_i X s Z;obtain ⟨rfl,rfl,rfl⟩:=aL h;obtain ⟨r,f⟩:=bN hbs;obtain ⟨f,_⟩:=bN f;obtain ⟨h0,y,H⟩:=kC r f;simp only [VR,PR] at hx;obtain ⟨a,L,rfl,N,q⟩:=hx;rcases q with ⟨_,_,_,q,_⟩|⟨b,o,vs,rfl,hp,hs⟩
   ·subst q;omega
   ·refine ⟨rfl,.pointer (some ⟨b,o+n.toNat*F.size,none⟩), ?_, ?_⟩
    ·simp [Instr.indexAt,asIntOf,run_underlying u.und,h0,y,ic c,Addr.add_mid]
    ·simp only [VR,PR];exact ⟨b,o,vs,rfl,hp,hs⟩
  ·rename_i b ver j s;have l:=bind_some h;clear h;obtain ⟨B,O,h⟩:=l;split at h
   ·rename_i D;simp only [π] at D;obtain ⟨rfl,rfl,rfl⟩:=aL h;obtain ⟨r,f⟩:=bN hbs;obtain ⟨f,_⟩:=bN f;obtain ⟨h0,y,H⟩:=kC r f;simp only [VR] at hx;obtain ⟨B',A,K,_,q⟩:=hx;have I:=E b B O;rw [I] at A;cases A;obtain ⟨o,rfl,W,T,Y⟩:=q (aK D.1);have V:=T (by omega);have G:=aK D.2;refine ⟨rfl,.pointer (some ⟨(m b).1,(j+n.toNat)*F.size,none⟩), ?_, ?_⟩
    ·rw [V,G];simp [Instr.indexAt,asIntOf,run_underlying u.und,h0,y,ic c,Addr.add_mid,Xxn]
    ·simp only [VR];exact ⟨B,I,by have:=aK D.1;omega,⟨_,_,rfl⟩,fun _=>trivial⟩
   ·cases h
  ·cases h
 ·rename_i s e hd;have l:=bind_some h;clear h;obtain ⟨F,c,h⟩:=l;obtain ⟨R,U,M,c⟩:=cO C c;have l:=bind_some h;clear h;obtain ⟨p,hp,h⟩:=l;obtain ⟨rfl,rfl,rfl⟩:=aL h;rw [u.d_eq] at hd;have hd:=uy hd;subst hd;obtain ⟨r,f⟩:=bN hbs;obtain ⟨f,_⟩:=bN f;obtain ⟨h0,y,H⟩:=kC r f;obtain ⟨a,rfl,K⟩:=zr hx hp;refine ⟨rfl,_, ?_,K⟩;simp [Instr.indexAt,asIntOf,run_underlying u.und,h0,y,ic c,Instr.sureAddr]
 ·cases h
theorem zx {t:Nat} {k:TI} {i:TypeInfo} {d:TypeDesc} {z:Value} (l:wR P t k i d z) {vs b:List Value} {o:List AV} {e:Nat}
  (hl:b.length=k.lks.length) (hu:∀ j u,b[j]? =some u→vs[e+j]? =some u) (hr:aW g m S o b) {v:AV} (hv:mQ k o=some v):
  ∃ cv,(part t vs.toArray e).run P w= .ok cv w∧VR g m S v cv:=by
 have f:(isAgg t).run P w= .ok d.isRow w:=by
  unfold isAgg;rw [Sem.run_bind,run_underlying l.und w];cases d<;>simp [TypeDesc.isRow]
 unfold mQ at hv;rw [l.d_eq,Af] at hv;split at hv
 ·rename_i a;cases hv;have s:(vs.drop e).take k.size=b:=by
   apply List.ext_getElem?;intro j;rw [Xju,Xj1];have q:k.size=b.length:=by rw [hl,l.lks,l.size]
   split
   ·rename_i p;have h:j<b.length:=by omega
    have:=hu j b[j] (ξ h);rw [this,ξ h]
   ·rename_i p;rw [List.getElem?_eq_none (by omega)]
  refine ⟨.agg b.toArray, ?_, ?_⟩
  ·simp [part,f,a,ic l,s]
  ·simp only [VR];exact ⟨b,rfl,hr⟩
 ·rename_i a;split at hv
  ·rename_i c;cases hv;cases b with
   |nil=>simp [aW] at hr
   |cons u r=>
    simp only [aW] at hr;refine ⟨u, ?_,hr.1⟩;have n:=hu 0 u rfl;simp only [Xq3] at n;have a:d.isRow=false:=by simpa using a
    simp [part,f,a,n]
  ·cases hv
theorem CV (l:fe P ap) {t:Nat} {y:TI} {i:TypeInfo} {d:TypeDesc} {z:Value} (s:wR P t y i d z) {x v:AV} {u:Value} (j:VR g m S x u) {f:Nat} {ups:List (Nat × aR)} {bs:List Bool}
  (h:GR ap y x f=some (v,ups,bs)) (hbs:∀ b ∈ bs,b=true):ups= []∧∃ cv,(Instr.field t u f).run P w= .ok cv w∧VR g m S v cv:=by
 unfold GR at h;split at h
 ·rename_i H G hd;have e:=bind_some h;clear h;obtain ⟨⟨o,K,M⟩,q,h⟩:=e;have e:=bind_some h;clear h;obtain ⟨tf,a,h⟩:=e;have e:=bind_some h;clear h;obtain ⟨N,k,h⟩:=e;obtain ⟨rfl,rfl,rfl⟩:=aL h;obtain ⟨L,F,I,a⟩:=cO l a;rw [s.d_eq] at hd;obtain ⟨fields,rfl,rfl⟩:=qK hd;simp only [Xqy,Xqp] at q;obtain ⟨r,n,p⟩:=q;simp only [Prod.mk.injEq] at p;obtain ⟨rfl,rfl,hs⟩:=p;simp only [VR] at j;obtain ⟨vs,rfl,j⟩:=j;obtain ⟨J,A,E,D⟩:=lB false j tf.lks r.offset hbs;obtain ⟨cv,C,B⟩:=zx (w:=w) a A E D k;have c:fields[f]? =some r:=by simpa using n
  refine ⟨rfl,cv, ?_,B⟩;simp [Instr.field,run_underlying s.und,c,asAgg,C]
 ·cases h
theorem MZ (s:List UInt8) (i:Nat) (h:i<s.length):(⟨s.toArray⟩:ByteArray)[i]? =some (s.getD i 0):=by
 have hs:i<(⟨s.toArray⟩:ByteArray).size:=by simpa [ByteArray.size] using h
 rw [getElem?_pos _ i hs];simp only [ByteArray.getElem_eq_getElem_data,List.getElem_toArray];rw [ν,ξ h];rfl
theorem C6 (u:fe P ap) {t:Nat} {E:TI} {i:TypeInfo} {d:TypeDesc} {z:Value} (l:wR P t E i d z) {x B v:AV} {D ci:Value} (f:VR g m S x D) (F:VR g m S B ci) {ups:List (Nat × aR)} {bs:List Bool}
  (h:GW ap E x B=some (v,ups,bs)) (hbs:∀ b ∈ bs,b=true):ups= []∧∃ cv,(Instr.index t D ci).run P w= .ok cv w∧VR g m S v cv:=by
 unfold GW at h;have j:=bind_some h;clear h;obtain ⟨n,I,h⟩:=j;obtain ⟨k,rfl⟩:=vP F I;split at h
 ·rename_i s hd;obtain ⟨rfl,rfl,rfl⟩:=aL h;obtain ⟨p,c⟩:=bN hbs;obtain ⟨c,_⟩:=bN c;obtain ⟨h0,C,y⟩:=kC p c;rw [l.d_eq] at hd;have hd:=sL hd;subst hd;simp only [VR,PR] at f;subst f;refine ⟨rfl,.int .u8 (s.getD n.toNat 0).toNat, ?_,by simp only [VR,PR]⟩;simp [Instr.index,asIntOf,run_underlying l.und,h0,MZ s n.toNat y]
 ·rename_i H e O hd;have j:=bind_some h;clear h;obtain ⟨A,a,h⟩:=j;have j:=bind_some h;clear h;obtain ⟨M,r,h⟩:=j;obtain ⟨rfl,rfl,rfl⟩:=aL h;obtain ⟨T,N,Q,a⟩:=cO u a;obtain ⟨p,c⟩:=bN hbs;obtain ⟨c,J⟩:=bN c;obtain ⟨h0,C,y⟩:=kC p c;rw [l.d_eq] at hd;have hd:=uy hd;subst hd;simp only [VR] at f;obtain ⟨vs,rfl,f⟩:=f;obtain ⟨R,G,L,K⟩:=lB true f A.lks (n.toNat*A.size) J;obtain ⟨cv,o,q⟩:=zx (w:=w) a G L K r;refine ⟨rfl,cv, ?_,q⟩;simp [Instr.index,asIntOf,run_underlying l.und,h0,C,ic a,o]
 ·cases h
end
end AM
namespace AM
open Go
section
variable {P:Program} {ap:AP} {g:bV} {m:aQ} {S:aO} {w:World}
def xA (g:bV) (m:aQ) (S:aO) (x:Option AV) (c:Option Value):Prop:=
 match x,c with
 |none,none=>True
 |some x,some c=>VR g m S x c
 |_,_=>False
theorem eL {x:Option AV} {c:Option Value} (h:xA g m S x c) {d n:Int} (a:kG x d=some n):(x=none∧c=none∧n=d)∨∃ k,c=some (.int k n):=by
 cases x with
 |none=>cases c with
  |none=>simp [kG] at a;exact .inl ⟨rfl,rfl,a.symm⟩
  |some c=>simp [xA] at h
 | some x=>cases c with
  |none=>simp [xA] at h
  |some c=>
   cases x<;>simp [kG] at a
   subst a;simp only [xA,VR,PR] at h;subst h;exact .inr ⟨_,rfl⟩
theorem nU (P:Program) (w:World) (c:Bool) (a b:Nat) (e f:Option Value) (l h:Int)
  (hl:(e=none∧l=0)∨∃ k,e=some (.int k l)) (j:(f=none∧h=a)∨∃ k,f=some (.int k h)) (h0:0≤l) (h1:l≤h) (h2:h≤b):
  (Instr.sliceBounds c a b e f none).run P w= .ok (l.toNat,h.toNat,b) w:=by
 have i:0≤h:=by omega
 rcases hl with ⟨rfl,rfl⟩|⟨k,rfl⟩<;>rcases j with ⟨rfl,rfl⟩|⟨n,rfl⟩
 ·simp [Instr.sliceBounds]
 ·simp [Instr.sliceBounds,Instr.sliceBound,asIntOf,h2,i]
 ·have d:l≤(a:Int):=h1;simp [Instr.sliceBounds,Instr.sliceBound,asIntOf,h0,d]
 ·simp [Instr.sliceBounds,Instr.sliceBound,asIntOf,h0,h2,i];intro o;omega
theorem EA (s:List UInt8) (l h:Nat):(⟨s.toArray⟩:ByteArray).extract l h=⟨((s.take h).drop l).toArray⟩:=by
 apply ByteArray.ext;rw [ByteArray.data_extract];apply Array.ext';simp [List.extract_eq_take_drop,List.drop_take]
theorem uw (s:List UInt8):(⟨s.toArray⟩:ByteArray).size=s.length:=by simp [ByteArray.size]
theorem iA.drop {b o:Nat} {vs:List Value} (h:iA S b o vs) (n:Nat):iA S b (o+n) (vs.drop n):=by
 intro j u a;rw [Xj1] at a;rw [Xzi];exact h _ _ a
theorem iA.take {b o:Nat} {vs:List Value} (h:iA S b o vs) (n:Nat):iA S b o (vs.take n):=by
 intro j u a;rw [Xju] at a;split at a
 ·exact h _ _ a
 ·cases a
theorem PX {a b c:Bool} (h:∀ x ∈ [a,b,c],x=true):a=true∧b=true∧c=true:=⟨h a (by simp),h b (by simp),h c (by simp)⟩
theorem AU {α:Type} (a:List α) (n:Nat):(a.take n).drop n= []:=by
 apply Xzu;simp;omega
theorem DH (H:fe P ap) {rd:bV} (K:∀ b B,rd b=some B→g b=some B) {t:Nat} {U:TI} {i:TypeInfo} {d:TypeDesc} {z:Value} (D:wR P t U i d z)
  {x v:AV} {cx:Value} (hx:VR g m S x cx) {lo hi mx:Option AV} {clo chi cmx:Option Value} (hlo:xA g m S lo clo) (hhi:xA g m S hi chi) (hmx:xA g m S mx cmx)
  {ups:List (Nat × aR)} {bs:List Bool} (h:Hz ap U rd x lo hi mx=some (v,ups,bs)) (hbs:∀ b ∈ bs,b=true):
  ups= []∧∃ cv,(Instr.sliceAt t cx clo chi cmx).run P w= .ok cv w∧VR g m S v cv:=by
 have k:mx=none→cmx=none:=by intro e;subst e;cases cmx<;>simp [xA] at hmx ⊢
 unfold Hz at h;split at h
 ·rename_i s hd;have c:=bind_some h;clear h;obtain ⟨l,F,h⟩:=c;have c:=bind_some h;clear h;obtain ⟨u,G,h⟩:=c;obtain ⟨rfl,rfl,rfl⟩:=aL h;obtain ⟨p,r,C⟩:=PX hbs;have p:=of_decide_eq_true p;have r:=of_decide_eq_true r;have C:=of_decide_eq_true C;rw [D.d_eq] at hd;have hd:=sL hd;subst hd;simp only [VR,PR] at hx;subst hx;rw [k rfl];have E:=nU P w false s.length s.length clo chi l u ((eL hlo F).imp (fun h=> ⟨h.2.1,h.2.2⟩) id) ((eL hhi G).imp (fun h=> ⟨h.2.1,h.2.2⟩) id) p r C;refine ⟨rfl,.string ⟨((s.take u.toNat).drop l.toNat).toArray⟩, ?_,by simp only [VR,PR]⟩;rw [← EA];simp [Instr.sliceAt,Instr.slice,run_underlying D.und,uw,E]
 ·rename_i e Y n nn hd;have c:=bind_some h;clear h;obtain ⟨y,f,h⟩:=c;have c:=bind_some h;clear h;obtain ⟨l,F,h⟩:=c;have c:=bind_some h;clear h;obtain ⟨u,G,h⟩:=c;obtain ⟨rfl,rfl,rfl⟩:=aL h;obtain ⟨R,M,N,f⟩:=cO H f;obtain ⟨p,r,C⟩:=PX hbs;have p:=of_decide_eq_true p;have r:=of_decide_eq_true r;have C:=of_decide_eq_true C;rw [D.d_eq] at hd;have hd:=eO hd;subst hd;simp only [VR,PR] at hx;obtain ⟨a,A,rfl,V,q⟩:=hx;rw [k rfl];have E:=nU P w true n A clo chi l u ((eL hlo F).imp (fun h=> ⟨h.2.1,h.2.2⟩) id) ((eL hhi G).imp (fun h=> ⟨h.2.1,h.2.2⟩) id) p r (by omega);refine ⟨rfl,.slice (if A=l.toNat then a else a.map (·.add (l.toNat*y.size))) (u.toNat - l.toNat) (A - l.toNat), ?_, ?_⟩
  ·simp [Instr.sliceAt,Instr.slice,run_underlying D.und,E,ic f]
  ·simp only [VR,PR];refine ⟨_,_,rfl,by omega, ?_⟩;rcases q with ⟨rfl,Q,rfl,rfl,rfl⟩|⟨b,o,vs,rfl,hp,hs⟩
   ·refine .inl ⟨by simp,Q,by simp,by omega,by omega⟩
   ·refine .inr ?_;by_cases I:A=l.toNat
    ·refine ⟨b,o,[],by rw [if_pos I], ?_,fun j u h=>by simp at h⟩;have e:(Y.take (u.toNat*y.size)).drop (l.toNat*y.size)= []:=by
      have:u.toNat=l.toNat:=by omega
      rw [this,AU]
     rw [e];simp [bZ]
    ·exact ⟨b,o+l.toNat*y.size,(vs.take (u.toNat*y.size)).drop (l.toNat*y.size),by rw [if_neg I];simp [Addr.add_mid],mg _ (iz _ hp),(hs.take _).drop _⟩
 ·rename_i e b ver j n hd;have c:=bind_some h;clear h;obtain ⟨y,f,h⟩:=c;have c:=bind_some h;clear h;obtain ⟨B,W,h⟩:=c;have c:=bind_some h;clear h;obtain ⟨l,F,h⟩:=c;have c:=bind_some h;clear h;obtain ⟨u,G,h⟩:=c;split at h
  ·rename_i I;simp only [π] at I;obtain ⟨rfl,rfl,rfl⟩:=aL h;obtain ⟨R,M,N,f⟩:=cO H f;obtain ⟨p,r,C⟩:=PX hbs;have p:=of_decide_eq_true p;have r:=of_decide_eq_true r;have C:=of_decide_eq_true C;rw [D.d_eq] at hd;have hd:=eO hd;subst hd;simp only [VR] at hx;obtain ⟨B',J,Z,_,q⟩:=hx;have O:=K b B W;rw [O] at J;cases J;obtain ⟨o,rfl,Q,X,T⟩:=q (aK I.1);have L:=aK I.2;rw [k rfl];have E:=nU P w true n ((m b).2 - j) clo chi l u ((eL hlo F).imp (fun h=> ⟨h.2.1,h.2.2⟩) id) ((eL hhi G).imp (fun h=> ⟨h.2.1,h.2.2⟩) id) p r (by omega);refine ⟨rfl,.slice (if (m b).2 - j=l.toNat then some ⟨(m b).1,o,none⟩ else some ⟨(m b).1,o+l.toNat*y.size,none⟩) (u.toNat - l.toNat) ((m b).2 - j - l.toNat), ?_, ?_⟩
   ·simp [Instr.sliceAt,Instr.slice,run_underlying D.und,E,ic f,Addr.add_mid]
   ·simp only [VR];refine ⟨B,O,Z,(by split<;>exact ⟨_,_,_,rfl⟩),fun _=> ?_⟩;by_cases hcl:(m b).2 - j=l.toNat
    ·exact ⟨o,by rw [if_pos hcl];congr 1;omega,by omega,fun h=>by omega,T⟩
    ·refine ⟨o+l.toNat*y.size,by rw [if_neg hcl];congr 1;omega,by omega,fun h=> ?_,T⟩;rw [X (by omega),L,Xxn]
  ·cases h
 ·rename_i e hd;have c:=bind_some h;clear h;obtain ⟨y,f,h⟩:=c;have c:=bind_some h;clear h;obtain ⟨l,F,h⟩:=c;have c:=bind_some h;clear h;obtain ⟨u,G,h⟩:=c;obtain ⟨rfl,rfl,rfl⟩:=aL h;obtain ⟨R,M,N,f⟩:=cO H f;have p:=of_decide_eq_true (hbs (decide (l=0)) (by simp));have r:=of_decide_eq_true (hbs (decide (u=0)) (by simp));subst p;subst r;rw [D.d_eq] at hd;have hd:=eO hd;subst hd;simp only [VR,PR] at hx;subst hx;rw [k rfl];have E:=nU P w true 0 0 clo chi 0 0 ((eL hlo F).imp (fun h=> ⟨h.2.1,h.2.2⟩) id) ((eL hhi G).imp (fun h=> ⟨h.2.1,h.2.2⟩) id) (by omega) (by omega) (by omega);refine ⟨rfl,.slice none 0 0, ?_,by simp only [VR,PR]⟩;simp at E;simp [Instr.sliceAt,Instr.slice,run_underlying D.und,E,ic f]
 ·cases h
theorem G6 {x v:AV} {l:Value} (c:VR g m S x l) {t:Nat} {o:TI} {i:TypeInfo} {d:TypeDesc} {z:Value} (f:wR P t o i d z)
  {ups:List (Nat × aR)} {bs:List Bool} (h:Nq o.d x=some (v,ups,bs)) (ats:Array TypeId) (hat:ats[0]? =some t) (args:Array Value) (ha:args[0]? =some l) (ty:Nat):
  ups= []∧∃ cv,(Builtin.len_ ats ty args).run P w= .ok cv w∧VR g m S v cv:=by
 unfold Nq at h;rw [f.d_eq] at h;split at h
 ·rename_i n e hd;obtain ⟨rfl,rfl,rfl⟩:=aL h;have hd:=uy hd;subst hd;exact ⟨rfl,.int .i64 n,by simp [Builtin.len_,hat,ha,run_underlying f.und,goInt],by simp only [VR,PR]⟩
 ·rename_i s hd;obtain ⟨rfl,rfl,rfl⟩:=aL h;have hd:=sL hd;subst hd;simp only [VR,PR] at c;subst c;exact ⟨rfl,.int .i64 s.length,by simp [Builtin.len_,hat,ha,run_underlying f.und,goInt,uw],by simp only [VR,PR]⟩
 ·rename_i e p n q hd;obtain ⟨rfl,rfl,rfl⟩:=aL h;have hd:=eO hd;subst hd;simp only [VR,PR] at c;obtain ⟨a,k,rfl,_⟩:=c;exact ⟨rfl,.int .i64 n,by simp [Builtin.len_,hat,ha,run_underlying f.und,goInt],by simp only [VR,PR]⟩
 ·rename_i e b ver j n hd;obtain ⟨rfl,rfl,rfl⟩:=aL h;have hd:=eO hd;subst hd;simp only [VR] at c;obtain ⟨_,_,_,⟨_,_,k,rfl⟩,_⟩:=c;exact ⟨rfl,.int .i64 n,by simp [Builtin.len_,hat,ha,run_underlying f.und,goInt],by simp only [VR,PR]⟩
 ·rename_i e hd;obtain ⟨rfl,rfl,rfl⟩:=aL h;have hd:=eO hd;subst hd;simp only [VR,PR] at c;subst c;exact ⟨rfl,.int .i64 0,by simp [Builtin.len_,hat,ha,run_underlying f.und,goInt],by simp only [VR,PR]⟩
 ·cases h
theorem sM (s:List UInt8):(⟨s.toArray⟩:ByteArray).toList=s:=by rw [ByteArray.toList_eq]
theorem tz:∀ a b:List UInt8,Op.bytesLess a b=eV a b
 |_,[]=>by simp [Op.bytesLess,eV]
 | [],_::_=>by simp [Op.bytesLess,eV]
 |a::x,b::y=>by simp only [Op.bytesLess,eV,tz x y]
def ou:LK→Value→Value→Option Bool
 | .int k,.int k1 a,.int k2 b=>match fD k k1 && fD k k2 with|true=>some (a==b)|false=>none
 | .bool,.bool a,.bool b=>some (a==b)
 | .str,.string a,.string b=>some (a.toList==b.toList)
 |_,_,_=>none
def cG:List LK→List Value→List Value→Option Bool
 | [],[],[]=>some true
 |k::ks,a::as,b::bs=>(ou k a b).bind fun c=>(cG ks as bs).map fun d=>c && d
 |_,_,_=>none
theorem nB:∀ (l e:List LK) (f i:List Value) (r:Bool),cG (l++e) f i=some r→
  ∃ a b,cG l (f.take l.length) (i.take l.length)=some a∧cG e (f.drop l.length) (i.drop l.length)=some b∧r=(a && b)
 | [],e,f,i,r,h=> ⟨true,r,by simp [cG],by simpa using h,by simp⟩
 |k::l,e,[],_,r,h=>by simp [cG] at h
 |k::l,e,_::_,[],r,h=>by simp [cG] at h
 |k::l,e,x::f,y::i,r,h=>by
  simp only [Xqx,cG] at h;obtain ⟨c,n,h⟩:=bind_some h;rw [Xqp] at h;obtain ⟨d,hd,rfl⟩:=h;obtain ⟨a,b,j,o,rfl⟩:=nB l e f i d hd;exact ⟨c && a,b,by simp [cG,n,j],by simpa using o,by simp [Bool.and_assoc]⟩
theorem lM:∀ (l:List LK) (a b:List Value) (r:Bool),cG l a b=some r→a.length=l.length∧b.length=l.length
 | [],[],[],_,_=> ⟨rfl,rfl⟩
 |k::l,x::a,y::b,r,h=>by
  simp only [cG] at h;obtain ⟨c,_,h⟩:=bind_some h;rw [Xqp] at h;obtain ⟨d,hd,_⟩:=h;have:=lM l a b d hd;simp [this.1,this.2]
 | [],_::_,_,_,h=>by simp [cG] at h
 | [],[],_::_,_,h=>by simp [cG] at h
 |_::_,[],_,_,h=>by simp [cG] at h
 |_::_,_::_,[],_,h=>by simp [cG] at h
def qc (P:Program) (t:TypeId) (xs:List Value):Value:=match P.underlying t with
 |some (.struct _)=> .agg xs.toArray
 |_=>xs.headD undef
def sP (P:Program) (n:Nat) (t:TypeId) (lks:List LK):Prop:=
 ∀ (d:Nat) (w:World) (xs ys:List Value) (r:Bool),n≤d→cG lks xs ys=some r→(Op.equalIn d t (qc P t xs) (qc P t ys)).run P w= .ok r w
theorem pX {t:TypeId} {lks:List LK} {n:Nat} (h:gB P n t=some lks) {i:TypeInfo} (k:P.info? t=some i) (hs:i.size=lks.length) (b:List Value) (a:Nat) (l:a+lks.length≤b.length) (w:World):
  (part t b.toArray a).run P w= .ok (qc P t ((b.drop a).take lks.length)) w:=by
 cases n with
 |zero=>simp [gB] at h
 | succ n=>
  unfold gB at h;cases f:P.underlying t with
  |none=>simp [f] at h
  | some d=>
   have c:(isAgg t).run P w= .ok d.isRow w:=by
    unfold isAgg;rw [Sem.run_bind,run_underlying f w];cases d<;>simp [TypeDesc.isRow]
   cases d<;>simp only [f] at h<;>try cases h
   case struct fs=>
    simp only [TypeDesc.isRow] at c;simp [part,c,Go.sizeOf,typeInfo,k,hs,qc,f]
   all_goals
    simp only [TypeDesc.isRow] at c;simp only [μ,χ,Θ] at l;have j:b[a]? =some (b[a]'(by omega)):=ξ (by omega);simp only [part,Sem.run_bind,c,Result.andThen_ok,Bool.false_eq_true,if_false,qc,f];have e:((b.drop a).take [LK.str].length).headD undef=b[a]'(by omega):=by
     rw [Xwn,List.head?_take,Xki,j];simp
    have o:(b.toArray)[a]? =some (b[a]'(by omega)):=by simp
    rw [o]
    first|exact congrArg (fun v=>Result.ok v w) e.symm|(simp only [μ,χ] at e ⊢;exact congrArg (fun v=>Result.ok v w) e.symm)
theorem ow {n:Nat} (u:∀ t lks,gB P n t=some lks→sP P n t lks):∀ (fs:List Field) (off:Nat) (lks:List LK),tF P (gB P n) fs off=some lks→
  ∀ (d:Nat) (w:World) (xs ys:List Value) (r:Bool),n≤d→xs.length=off+lks.length→ys.length=off+lks.length→cG lks (xs.drop off) (ys.drop off)=some r→
   (Op.eqFields d xs.toArray ys.toArray fs).run P w= .ok r w
 | [],off,lks,hc,d,w,xs,ys,r,hd,hx,hy,h=>by
  simp [tF] at hc;subst hc;have B:xs.drop off= []:=Xzu (by simp at hx;omega);have z:ys.drop off= []:=Xzu (by simp at hy;omega);rw [B,z] at h;simp [cG] at h;subst h;simp [Op.eqFields]
 | f ::fs,off,lks,hc,d,w,xs,ys,r,hd,hx,hy,h=>by
  simp only [tF] at hc;cases j:gB P n f.type with
  |none=>simp [j] at hc
  | some l=>
   simp only [j] at hc;split at hc
   ·rename_i hcond;simp only [π,Xqq] at hcond;obtain ⟨⟨s,o⟩,c⟩:=hcond;cases p:tF P (gB P n) fs (off+l.length) with
    |none=>simp [p] at hc
    | some l'=>
     simp only [p] at hc;cases hc;cases k:P.info? f.type with
     |none=>simp [k] at c
     |some i=>
      simp only [k] at c;have c:=aK c;have o:=aK o;have q:f.name ≠ "_" :=by intro e;rw [e] at s;exact absurd s (by decide)
      simp only [List.length_append] at hx hy;obtain ⟨a,b,v,A,rfl⟩:=nB l l' _ _ r h;have y:=pX j k c xs off (by omega) w;have x:=pX j k c ys off (by omega) w;have C:=u f.type l j d w _ _ a hd v;have D:=ow u fs (off+l.length) l' p d w xs ys b hd (by omega) (by omega) (by simpa [List.drop_drop,Nat.add_comm] using A);simp only [Op.eqFields,q,ne_eq,not_false_eq_true,if_true,Sem.run_bind,o,y,x,C,Result.andThen_ok];cases a
      ·simp
      ·simpa using D
   ·cases hc
theorem xS : ∀ (n:Nat) (t:TypeId) (lks:List LK),gB P n t=some lks→sP P n t lks
  |0,_,_,h=>by simp [gB] at h
  | n + 1,t,lks,h=>by
    intro d w p q r hd b;obtain ⟨d,rfl⟩:∃ k,d=k+1:=⟨d - 1,by omega⟩
    have j:=lM _ _ _ _ b;unfold gB at h;cases a:P.underlying t with
    |none=>simp [a] at h
    | some ds=>
      cases ds<;>simp only [a] at h<;>try cases h
      case struct fs=>
        split at h
        · cases h
        · rename_i o;have i:P.fieldsOf t=fs:=by simp [Program.fieldsOf,a]
          have e:=run_equalIn_struct (P:=P) w d t p.toArray q.toArray (by rw [i];exact a) o;simp only [qc,a];rw [e,i];exact ow (xS n) fs.toList 0 lks h d w p q r (by omega) (by simp [j.1]) (by simp [j.2]) (by simpa using b)
      all_goals
        simp only [μ,χ,Θ] at j
        match p,q,j,b with
        | [x], [y],_,b=>
          simp only [cG,Option.map_some,Bool.and_true] at b;obtain ⟨c,f,b⟩:=bind_some b;cases b;simp only [qc,a,List.headD_cons];cases x<;>cases y<;>simp [ou] at f
          first
            | (split at f
               · rename_i l;simp only [π] at l;obtain rfl:=dV l.1;obtain rfl:=dV l.2;cases f;exact run_equalIn_int (P:=P) w d t _ _ _ _ a
               · cases f)
            |(subst f;rw [run_equalIn_bool' (P:=P) w d t _ _ a])
            |(subst f;rw [run_equalIn_string (P:=P) w d t _ _ a])
end
end AM
namespace AM
open Go
section
variable {P:Program} {ap:AP} {g:bV} {m:aQ} {S:aO} {w:World}
theorem Yt {d:TypeDesc} (h:gX P (some d)= .ptr):∃ e,d= .pointer e:=by cases d<;>simp [gX] at h;exact ⟨_,rfl⟩
theorem Tw {d:TypeDesc} (h:gX P (some d)= .func):∃ a b c,d= .func a b c:=by cases d<;>simp [gX] at h;exact ⟨_,_,_,rfl⟩
theorem Pe {d:TypeDesc} (h:gX P (some d)= .iface):∃ e,d= .interface e:=by cases d<;>simp [gX] at h;exact ⟨_,rfl⟩
theorem RB {a b:LK} (h:WZ a b=true):a=b:=by
 cases a<;>cases b<;>simp [WZ] at h
 ·rw [dV h]
 ·rfl
 ·rfl
theorem yQ:∀ {a b:List LK},BO a b=true→a=b
 | [],[],_=>rfl
 |_::_,_::_,h=>by simp only [BO,π] at h;rw [RB h.1,yQ h.2]
 | [],_::_,h=>by simp [BO] at h
 |_::_,[],h=>by simp [BO] at h
theorem GI {k:LK} {a b:AV} {r:Bool} (h:GH k a b=some r) {x y:Value} (c:VR g m S a x) (d:VR g m S b y):ou k x y=some r:=by
 unfold GH at h;split at h
 ·simp only [VR,PR] at c d;subst c;subst d;split at h
  ·rename_i e;cases h;simp [ou,e]
  ·cases h
 ·simp only [VR,PR] at c d;subst c;subst d;simpa [ou] using h
 ·simp only [VR,PR] at c d;subst c;subst d;simpa [ou,sM] using h
 ·cases h
theorem rf:∀ {ks:List LK} {i bs:List AV} {r:Bool} {e f:List Value},iC ks i bs=some r→aW g m S i e→aW g m S bs f→cG ks e f=some r
 | [],[],[],r,e,f,h,ha,hb=>by
  cases e<;>cases f<;>simp [aW] at ha hb
  simpa [iC,cG] using h
 |k::ks,a::i,b::bs,r,x::e,y::f,h,ha,hb=>by
  simp only [iC] at h;obtain ⟨c,j,h⟩:=bind_some h;rw [Xqp] at h;obtain ⟨d,hd,rfl⟩:=h;simp only [aW] at ha hb;simp [cG,GI j ha.1 hb.1,rf hd ha.2 hb.2]
 | [],_::_,_,_,_,_,h,_,_=>by simp [iC] at h
 | [],[],_::_,_,_,_,h,_,_=>by simp [iC] at h
 |_::_,[],_,_,_,_,h,_,_=>by simp [iC] at h
 |_::_,_::_,[],_,_,_,h,_,_=>by simp [iC] at h
 |_::_,_::_,_::_,_,[],_,_,ha,_=>by simp [aW] at ha
 |_::_,_::_,_::_,_,_::_,[],_,_,hb=>by simp [aW] at hb
theorem uz (c:fe P ap) {t:Nat} {b:TI} (h:ap.tyAt t=some b):b.cmp=Qn P t∧b.lks=BP P 8 t:=by
 have a:=c.ty t b h;unfold Pi at a;split at a
 ·split at a
  ·cases a;exact ⟨rfl,rfl⟩
  ·cases a
 ·cases a
theorem jO (c:BinOp) (t:TypeId) (x y:Operand) (a b:Value) (d:¬ (a= .nilIface∧b= .nilIface)) (e:∀ xs ys,¬ (a= .agg xs∧b= .agg ys)):(eqGuard c t x y a b).run P w= .ok () w:=by
 unfold eqGuard;cases c<;>simp only [Sem.run_ite,Sem.run_pure]<;>try (simp;done)
 all_goals
  simp;split
  ·exact absurd ⟨rfl,rfl⟩ d
  ·exact absurd ⟨rfl,rfl⟩ (e _ _)
  ·rfl
def IZ (op:BinOp) (r:Bool):Bool:=match op with| .neq=> !r|_=>r
theorem wX {t:Nat} {b a:Value} {r:Bool} {x y:Operand} (e:∀ op,(eqGuard op t x y b a).run P w= .ok () w) (h:∀ d,(Op.equalIn (d+1) t b a).run P w= .ok r w)
  (h1:binOp .eql t b a=(do pure (.bool (← Op.equal t b a)))) (h2:binOp .neq t b a=(do pure (.bool (!(← Op.equal t b a))))) {op:BinOp} (hop:op=BinOp.eql∨op=BinOp.neq):
  (do eqGuard op t x y b a;binOp op t b a:Sem Value).run P w= .ok (.bool (IZ op r)) w:=by
 have c:(Op.equal t b a).run P w= .ok r w:=h 9999;rcases hop with rfl|rfl
 ·rw [Sem.run_bind,e,Result.andThen_ok,h1,Sem.run_bind,c];rfl
 ·rw [Sem.run_bind,e,Result.andThen_ok,h2,Sem.run_bind,c];rfl
theorem BC (v:fe P ap) {t:Nat} {L:TI} (s:ap.tyAt t=some L) {a b:AV} {H F:Value} (j:VR g m S a H) (k:VR g m S b F) {r:Bool} (h:eqA L a b=some r) (K:∀ x ∈ zj a b,x=true) (x y:Operand):
  ∀ f,f=BinOp.eql∨f=BinOp.neq→(do eqGuard f t x y H F;binOp f t H F:Sem Value).run P w= .ok (.bool (IZ f r)) w:=by
 obtain ⟨i,d,z,u⟩:=cO v s;intro f p;unfold eqA at h;split at h
 case h_2 fs xs ys hd=>
  split at h
  ·rename_i c;rw [(uz v s).1] at c;rw [(uz v s).2] at h;simp only [VR] at j k;obtain ⟨vs,rfl,j⟩:=j;obtain ⟨I,rfl,k⟩:=k;have M:=rf h j k;unfold Qn at c;cases C:gB P 8 t with
   |none=>simp [C] at c
   |some l=>
    simp only [C,π,Xqq] at c;have G:=yQ c.1;rw [← G] at M;have B:=xS 8 t l C 10000 w vs I r (by omega) M;rw [u.d_eq] at hd;obtain ⟨fields,rfl,_⟩:=qK hd;simp only [qc,u.und] at B;have J:=run_eqGuard_agg (P:=P) w f t x y vs.toArray I.toArray c.2;rcases p with rfl|rfl
    ·simp [J,run_eql_struct,B,IZ]
    ·simp [J,run_neq_struct,B,IZ]
  ·cases h
 all_goals try (cases h;done)
 all_goals
  rename_i hd;rw [u.d_eq] at hd
  try simp only [VR,PR] at j k
 all_goals cases h
 case h_1=>
  have hd:=Tv hd;subst hd;subst j;subst k
  (refine wX (fun f=> ?_) (fun A=> ?_) rfl rfl p<;>first|exact jO f t x y _ _ (by simp) (by simp)|exact run_equalIn_bool' (P:=P) w A t _ _ u.und)
 all_goals
  first
   |(obtain ⟨e,rfl⟩:=Yt hd)
   |(obtain ⟨e,rfl⟩:=Pe hd)
   |(obtain ⟨O,N,Q,rfl⟩:=Tw hd)
   |(have hd:=eO hd;subst hd)
 case h_16 xs n nn=>
  subst k;obtain ⟨a,D,rfl,E,q⟩:=j;rcases q with ⟨rfl,rfl,rfl,rfl,rfl⟩|⟨b,o,vs,rfl,_⟩
  ·exact absurd (K _ (by simp [zj];rfl)) (by decide)
  ·(refine wX (fun f=> ?_) (fun A=> ?_) rfl rfl p<;>first|exact jO f t x y _ _ (by simp) (by simp)|simp [Op.equalIn,run_underlying u.und])
 case h_17 xs n nn=>
  subst j;obtain ⟨a,D,rfl,E,q⟩:=k;rcases q with ⟨rfl,rfl,rfl,rfl,rfl⟩|⟨b,o,vs,rfl,_⟩
  ·exact absurd (K _ (by simp [zj];rfl)) (by decide)
  ·(refine wX (fun f=> ?_) (fun A=> ?_) rfl rfl p<;>first|exact jO f t x y _ _ (by simp) (by simp)|simp [Op.equalIn,run_underlying u.und])
 all_goals
  try subst j
  try subst k
  try (obtain ⟨_,_,_,⟨_,_,rfl⟩,_⟩:=j)
  try (obtain ⟨_,_,_,⟨_,_,rfl⟩,_⟩:=k)
  try (obtain ⟨_,_,_,⟨_,_,_,rfl⟩,_⟩:=j)
  try (obtain ⟨_,_,_,⟨_,_,_,rfl⟩,_⟩:=k)
  try (obtain ⟨_,_,_,rfl,_⟩:=j)
  try (obtain ⟨_,_,_,rfl,_⟩:=k)
  try (obtain ⟨_,_,rfl,_⟩:=j)
  try (obtain ⟨_,_,rfl,_⟩:=k)
  try (obtain ⟨_,rfl,_⟩:=j)
  try (obtain ⟨_,rfl,_⟩:=k)
  (refine wX (fun f=> ?_) (fun A=> ?_) rfl rfl p<;>first|exact jO f t x y _ _ (by simp) (by simp)|simp [Op.equalIn,run_underlying u.und])
end
end AM
namespace AM
open Go
section
variable {P:Program} {ap:AP} {g:bV} {m:aQ} {S:aO} {w:World}
theorem Gl (a b:List UInt8):(⟨a.toArray⟩:ByteArray)++⟨b.toArray⟩=⟨(a++b).toArray⟩:=by
 apply ByteArray.ext;rw [ByteArray.data_append];simp
theorem Gp (i:fe P ap) {t:Nat} {u:TI} (f:ap.tyAt t=some u) {a b v:AV} {s n:Value} (d:VR g m S a s) (e:VR g m S b n) {c:BinOp} {ups:List (Nat × aR)} {bs:List Bool}
  (h:Vy c u a b=some (v,ups,bs)) (hbs:∀ x ∈ bs,x=true) (x y:Operand):
  ups= []∧∃ cv,(do eqGuard c t x y s n;binOp c t s n:Sem Value).run P w= .ok cv w∧VR g m S v cv:=by
 unfold Vy at h;split at h
 ·rename_i k p A q;simp only [VR,PR] at d e;subst d;subst e;have o:(eqGuard c t x y (.int k p) (.int A q)).run P w= .ok () w:=jO c t x y _ _ (by simp) (by simp);rw [Sem.run_bind,o,Result.andThen_ok];split at h
  ·obtain ⟨rfl,rfl,rfl⟩:=aL h;have h0:=of_decide_eq_true (hbs _ (List.mem_singleton.2 rfl));exact ⟨rfl,_,by simp [binOp,Op.shift,show ¬ q<0 by omega];rfl,by simp only [VR,PR]⟩
  ·obtain ⟨rfl,rfl,rfl⟩:=aL h;have h0:=of_decide_eq_true (hbs _ (List.mem_singleton.2 rfl));exact ⟨rfl,_,by simp [binOp,Op.shift,show ¬ q<0 by omega];rfl,by simp only [VR,PR]⟩
  ·split at h
   ·cases h
   ·rename_i j;have j:=dV j;subst j;split at h
    all_goals try (cases h;done)
    all_goals obtain ⟨rfl,rfl,rfl⟩:=aL h
    case h_4=>
     have h0:(q==0)=false:=by simpa using hbs _ (List.mem_singleton.2 rfl)
     have h0:¬ q=0:=by simpa using h0
     exact ⟨rfl,_,by simp [binOp,Op.intDiv,h0];rfl,by simp only [VR,PR]⟩
    case h_5=>
     have h0:(q==0)=false:=by simpa using hbs _ (List.mem_singleton.2 rfl)
     have h0:¬ q=0:=by simpa using h0
     exact ⟨rfl,_,by simp [binOp,Op.intDiv,h0];rfl,by simp only [VR,PR]⟩
    all_goals exact ⟨rfl,_,by simp only [binOp,Op.intArith,Op.intBits,Op.intCmp,ne_eq,not_true_eq_false,if_false];rfl,by simp only [VR,PR];first|done|rfl⟩
 ·rename_i p q;simp only [VR,PR] at d e;subst d;subst e;have o:(eqGuard c t x y (.string ⟨p.toArray⟩) (.string ⟨q.toArray⟩)).run P w= .ok () w:=jO c t x y _ _ (by simp) (by simp);rw [Sem.run_bind,o,Result.andThen_ok];split at h
  all_goals try (cases h;done)
  all_goals obtain ⟨rfl,rfl,rfl⟩:=aL h
  case h_1=>
   have h0:=dZ (hbs _ (List.mem_singleton.2 rfl));have z:¬ (IntKind.i64.max<((p.length+q.length:Nat):Int)):=by
    have:IntKind.i64.max=9223372036854775807:=by decide
    omega
   refine ⟨rfl,.string ⟨(p++q).toArray⟩, ?_,by simp only [VR,PR]⟩;simp only [binOp,Op.stringOp,uw,gt_iff_lt,z,if_false,Gl,Sem.run_pure]
  all_goals
   refine ⟨rfl,_,rfl, ?_⟩;simp only [VR,PR,sM,tz]
 ·split at h
  ·obtain ⟨r,l,h⟩:=bind_some h;obtain ⟨rfl,rfl,rfl⟩:=aL h;exact ⟨rfl,_,BC i f d e l hbs x y _ (.inl rfl),by simp only [VR,PR];rfl⟩
  ·obtain ⟨r,l,h⟩:=bind_some h;obtain ⟨rfl,rfl,rfl⟩:=aL h;exact ⟨rfl,_,BC i f d e l hbs x y _ (.inr rfl),by simp only [VR,PR];rfl⟩
  ·cases h
theorem Lh {x v:AV} {b:Value} (a:VR g m S x b) {c:UnOp} {ups:List (Nat × aR)} {bs:List Bool} (h:unA c x=some (v,ups,bs)):
  ups= []∧∃ cv,(Op.unary c b).run P w= .ok cv w∧VR g m S v cv:=by
 unfold unA at h;split at h
 ·obtain ⟨rfl,rfl,rfl⟩:=aL h;simp only [VR,PR] at a;subst a;exact ⟨rfl,_,rfl,by simp only [VR,PR]⟩
 ·obtain ⟨rfl,rfl,rfl⟩:=aL h;simp only [VR,PR] at a;subst a;exact ⟨rfl,_,rfl,by simp only [VR,PR]⟩
 ·cases h
theorem pg {f:AV→AV→Option AV} {F:Value→Value→Sem Value} (d:∀ a b c ca cb,VR g m S a ca→VR g m S b cb→f a b=some c→∃ cc,(F ca cb).run P w= .ok cc w∧VR g m S c cc):
  ∀ (l:List AV) (cl:List Value) (x v:AV) (cx:Value),aW g m S l cl→VR g m S x cx→EC f x l=some v→∃ cv,(cl.foldlM F cx).run P w= .ok cv w∧VR g m S v cv
 | [],[],x,v,cx,_,hx,h=>by simp [EC] at h;subst h;exact ⟨cx,by simp,hx⟩
 | y::r,cy::cr,x,v,cx,hl,hx,h=>by
  simp only [aW] at hl;simp only [EC] at h;split at h
  ·rename_i z i;obtain ⟨k,e,o⟩:=d _ _ _ _ _ hx hl.1 i;obtain ⟨cv,j,n⟩:=pg d r cr z v k hl.2 o h;exact ⟨cv,by simp [List.foldlM_cons,e,j],n⟩
  ·cases h
 | [],_::_,_,_,_,hl,_,_=>by simp [aW] at hl
 |_::_,[],_,_,_,hl,_,_=>by simp [aW] at hl
theorem Hb {a b c:AV} {f e:Value} (d:VR g m S a f) (i:VR g m S b e) (h:min2 a b=some c):∃ cc,(Builtin.min2 f e).run P w= .ok cc w∧VR g m S c cc:=by
 unfold min2 at h;split at h
 ·split at h
  ·cases h;simp only [VR,PR] at d i;subst d;subst i;exact ⟨_,rfl,by simp only [VR,PR]⟩
  ·cases h
 ·cases h
theorem G9 {a b c:AV} {f e:Value} (d:VR g m S a f) (i:VR g m S b e) (h:max2 a b=some c):∃ cc,(Builtin.max2 f e).run P w= .ok cc w∧VR g m S c cc:=by
 unfold max2 at h;split at h
 ·split at h
  ·cases h;simp only [VR,PR] at d i;subst d;subst i;exact ⟨_,rfl,by simp only [VR,PR]⟩
  ·cases h
 ·cases h
theorem KC {l:List AV} {cl:List Value} (a:aW g m S l cl) {v:AV} (h:uR min2 l=some v) (b:Array TypeId) (ty:Nat):∃ cv,(Builtin.min_ b ty cl.toArray).run P w= .ok cv w∧VR g m S v cv:=by
 cases l with
 |nil=>simp [uR] at h
 | cons x r=>cases cl with
  |nil=>simp [aW] at a
  |cons cx cr=>
   simp only [aW] at a;obtain ⟨cv,c,d⟩:=pg (P:=P) (w:=w) (F:=Builtin.min2) (fun _ _ _ _ _=>Hb) r cr x v cx a.2 a.1 h;exact ⟨cv,by simpa [Builtin.min_] using c,d⟩
theorem Kz {l:List AV} {cl:List Value} (a:aW g m S l cl) {v:AV} (h:uR max2 l=some v) (b:Array TypeId) (ty:Nat):∃ cv,(Builtin.max_ b ty cl.toArray).run P w= .ok cv w∧VR g m S v cv:=by
 cases l with
 |nil=>simp [uR] at h
 | cons x r=>cases cl with
  |nil=>simp [aW] at a
  |cons cx cr=>
   simp only [aW] at a;obtain ⟨cv,c,d⟩:=pg (P:=P) (w:=w) (F:=Builtin.max2) (fun _ _ _ _ _=>G9) r cr x v cx a.2 a.1 h;exact ⟨cv,by simpa [Builtin.max_] using c,d⟩
end
end AM
