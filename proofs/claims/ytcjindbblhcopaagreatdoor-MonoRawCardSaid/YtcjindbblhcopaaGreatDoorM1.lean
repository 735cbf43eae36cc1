/- The abstract machine over the code of the model, and the proof that it is sound. No conditions. -/
import Derived.WalkKit
import Derived.Deep.AppendSrc
import Derived.Deep.MidRow
import Derived.WalkLawsBesides
set_option linter.unusedSimpArgs false
set_option linter.unusedVariables false
open Nat renaming beq→Xqo,blt→Xjb,ble→Ξ,le_refl→Θ,le_trans→Xxm,add_zero→Xq5,add_assoc→Xza,add_mul→Xxp,zero_add→χ
open List renaming replicate→κ,range→Xq2,cons_append→Xq1,take_succ_cons→Xx1,map_cons→Xqf,getD_eq_getElem?_getD→ξ,headD_eq_head?_getD→Xwd,head?_drop→Xv1,tail_drop→Xka,getElem?_map→Xqz,getElem?_take→Xjp,getElem?_drop→Xj0,getElem?_eq_getElem→π,drop_eq_nil_of_le→Xzt,length_cons→ν,length_nil→Δ
open BitVec renaming ofInt→Xqh
open Bool renaming and_eq_true→σ,not_eq_true'→Xqm
open Option renaming map_eq_some_iff→Xqs
namespace AM
open Go
inductive AV where
 |int (k:IntKind) (n:Int)
 |bool (b:Bool)
 |str (s:List UInt8)
 |agg (l:List AV)
 |tup (l:List AV)
 |nilS
 |sl (xs:List AV) (n:Nat) (nn:Bool)
 |ref (b ver i n:Nat)
 |own (xs:List AV) (n esz:Nat)
 |ptr (b ver off:Nat)
 |pp (xs:List AV) (off:Nat)
 |mr (b ver:Nat)
 |mp (ks vs:List AV)
 |nilP
 |fn (f:Nat) (first cap:List AV)
 |nilF
 |ifc (t:Nat) (v:AV)
 |nilI
 |dead
inductive LK where
 |int (k:IntKind)
 |bool
 |str
 |sl
 |oth
inductive TD where
 |struct (fs:List (Nat × Nat × Nat))
 |array (n elem:Nat)
 |slice (elem:Nat)
 |int (k:IntKind)
 |str
 |bool
 |iface
 |ptr
 |func
 |map (k e:Nat)
 |oth
structure TI where
 d:TD
 size:Nat
 bytes:Nat
 zero:List AV
 lks:List LK
 cmp:Bool
structure AF where
 fn:Func
 keep:List Nat
 shared:Bool
inductive Tr (α:Type) where
 |nil
 |node (v:Option α) (l r:Tr α)
def Tr.get {α:Type}:Tr α→Nat→Option α
 | .nil,_=>none
 | .node v l r,n=>match Xqo n 0 with
  |true=>v
  |false=>match Xqo (n % 2) 1 with
   |true=>l.get ((n - 1) / 2)
   |false=>r.get ((n - 1) / 2)
structure AP where
 nty:Nat
 ty:Tr TI
 nfn:Nat
 fn:Tr AF
 gl:List (Option (List AV))
def iU:Nat:=4611686018427387904
def Za:List AV→Option AV
 | [.agg ks,.agg vs]=>some (.mp ks vs)
 |_=>none
structure bi where
 cells:List AV
 ver:Nat
 fro:Bool
 fz:Nat
 esz:Nat
 pr:Bool
abbrev iO:=List (Nat × AV)
abbrev Hp:=List (Nat × bi)
def aG {α:Type}:List (Nat × α)→Nat→Option α
 | [],_=>none
 |(u,x)::r,t=>match Xqo u t with|true=>some x|false=>aG r t
def kP {α β:Type} (f:α→Option β):List α→Option (List β)
 | []=>some []
 |x::r=>match f x with
  |some y=>match kP f r with|some l=>some (y::l)|none=>none
  |none=>none
def iO.get (e:iO) (t:Nat):AV:=(aG e t).getD .dead
def AV.cells:AV→List AV
 | .agg l=>l
 |x=> [x]
def AV.toInt:AV→Int| .int _ n=>n|_=>0
def AV.toBool:AV→Bool| .bool b=>b|_=>false
def AV.toStr:AV→List UInt8| .str s=>s|_=> []
def AV.slX:AV→List AV| .sl xs _ _=>xs|_=> []
def AV.slN:AV→Nat| .sl _ n _=>n|_=>0
def Vt:IntKind→Nat
 | .i8=>0| .i16=>1| .i32=>2| .i64=>3| .u8=>4| .u16=>5| .u32=>6| .u64=>7
def iZ (a b:IntKind):Bool:=Xqo (Vt a) (Vt b)
def chk:LK→AV→Bool
 | .int k,.int k' _=>iZ k k'
 | .bool,.bool _=>true
 | .str,.str _=>true
 | .sl,.sl _ _ _=>true
 | .sl,.nilS=>true
 | .oth,.dead=>false
 | .oth,.agg _=>false
 | .oth,.tup _=>false
 | .oth,.own _ _ _=>false
 | .oth,_=>true
 |_,_=>false
def eta:LK→AV→AV
 | .int k,c=> .int k c.toInt
 | .bool,c=> .bool c.toBool
 | .str,c=> .str c.toStr
 | .sl,c=> .sl c.slX c.slN false
 | .oth,c=>c
def nX:AV→Bool
 | .dead| .agg _| .tup _| .own _ _ _=>false
 |_=>true
mutual
def eX:AV→List Nat
 | .ref b _ _ _=> [b]
 | .ptr b _ _=> [b]
 | .mr b _=> [b]
 | .agg l=>cO l
 | .tup l=>cO l
 | .fn _ f c=>cO f++cO c
 | .ifc _ v=>eX v
 |_=> []
def cO:List AV→List Nat
 | []=> []
 |x::r=>eX x++cO r
end
mutual
def ren (ρ:Nat→Nat→Option (Nat × Nat)):AV→AV
 | .ref b v i n=>match ρ b v with|some (b',v')=> .ref b' v' i n|none=> .dead
 | .ptr b v o=>match ρ b v with|some (b',v')=> .ptr b' v' o|none=> .dead
 | .mr b v=>match ρ b v with|some (b',v')=> .mr b' v'|none=> .dead
 | .agg l=> .agg (mG ρ l)
 | .tup l=> .tup (mG ρ l)
 | .fn f a c=> .fn f (mG ρ a) (mG ρ c)
 | .ifc t v=> .ifc t (ren ρ v)
 |x=>x
def mG (ρ:Nat→Nat→Option (Nat × Nat)):List AV→List AV
 | []=> []
 |x::r=>ren ρ x::mG ρ r
end
def Jk:Value→AV
 | .int k n=> .int k n
 | .bool b=> .bool b
 | .string s=> .str s.data.toList
 | .pointer a=>match a with|none=> .nilP|some _=> .dead
 | .slice a n c=>match a,n,c with|none,0,0=> .nilS|_,_,_=> .dead
 | .nilFunc=> .nilF
 | .nilIface=> .nilI
 | .map a=>match a with|none=> .mp [] []|some _=> .dead
 |_=> .dead
def EE:Value→AV
 | .agg cs=> .agg (cs.toList.map Jk)
 | .tuple vs=>match vs.toList with| []=> .tup []|_=> .dead
 |v=>Jk v
def AP.tyAt (ap:AP) (t:Nat):Option TI:=match Xjb t ap.nty with|true=>ap.ty.get t|false=>none
def AP.fnAt (ap:AP) (f:Nat):Option AF:=match Xjb f ap.nfn with|true=>ap.fn.get f|false=>none
def pY (l:List Nat) (a:Nat):Bool:=l.any (Xqo a)
def jq (l:List Nat):List Nat:=l.foldl (fun acc b=>if pY acc b then acc else acc++ [b]) []
abbrev Ih:=Option (AV × List (Nat × bi) × List Bool)
def bG (v:AV) (bs:List Bool:= []):Ih:=some (v,[],bs)
def Qp (ty:Bool):List LK→List AV→List AV
 | [],_=> []
 |k::ks,ys=>(match ty with|true=>eta k (ys.headD .dead)|false=>ys.headD .dead)::Qp ty ks ys.tail
def Uu (ty:Bool):List LK→List AV→List Bool
 | [],_=> []
 |k::ks,ys=>(match ty with|true=>chk k (ys.headD .dead)|false=>chk .oth (ys.headD .dead))::Uu ty ks ys.tail
def yN (ty:Bool) (ks:List LK) (xs:List AV) (off:Nat):List AV:=Qp ty ks (xs.drop off)
def IA (ty:Bool) (ks:List LK) (xs:List AV) (off:Nat):List Bool:=Uu ty ks (xs.drop off)
def I8:TD→Bool
 | .struct _=>true
 | .array _ _=>true
 |_=>false
def qI (ti:TI) (cs:List AV):Option AV:=
 match I8 ti.d with
 |true=>some (.agg cs)
 |false=>match cs with| [c]=>some c|_=>none
def KU (ti:TI) (rd:Nat→Option bi) (p:AV):Ih:=
 match p with
 | .pp xs off=>(qI ti (yN true ti.lks xs off)).bind fun v=>bG v (IA true ti.lks xs off)
 | .ptr b ver off=>(rd b).bind fun B=>match Xqo B.ver ver && !(Xqo B.esz iU) with
  |true=>(qI ti (yN (Xjb 0 B.esz && B.pr) ti.lks B.cells off)).bind fun v=>bG v (IA (Xjb 0 B.esz && B.pr) ti.lks B.cells off)
  |false=>none
 |_=>none
def ja (xs:List AV) (off:Nat) (vs:List AV):List AV:=xs.take off++vs++xs.drop (off+vs.length)
def OQ (ti:TI) (rd:Nat→Option bi) (p v:AV):Ih:=
 match p with
 | .ptr b ver off=>(rd b).bind fun B=>
  let vs:=v.cells
  let rs:=cO vs
  match Xqo B.ver ver && !B.fro && Xqo vs.length ti.size && vs.all nX && !(Xqo B.esz iU) with
  |true=>some (.dead,[(b,{B with cells:=ja B.cells off vs,pr:=B.pr && rs.isEmpty})],[Ξ (off+vs.length) B.cells.length])
  |false=>none
 |_=>none
def jo (nid:Nat) (cells:List AV) (esz:Nat):Nat × bi:=(nid,{cells,ver:=0,fro:=false,fz:=0,esz,pr:=(cO cells).isEmpty})
def wP (cells:List AV):List (Nat × Nat × AV)→Option (List AV)
 | []=>some cells
 |(off,size,v)::r=>match Xqo v.cells.length size && Ξ (off+size) cells.length && v.cells.all nX with
  |true=>wP (ja cells off v.cells) r
  |false=>none
def Nq (ap:AP) (ti:TI) (parts:List (Nat × AV)):Ih:=
 match ti.d with
 | .struct fs=>(kP (fun (q:Nat × AV)=>(fs[q.1]?).map fun (x:Nat × Nat × Nat)=>(x.1,x.2.2,q.2)) parts).bind fun ps=>(wP ti.zero ps).bind fun cs=>bG (.agg cs)
 | .array _ e=>(ap.tyAt e).bind fun te=>(wP ti.zero (parts.map fun (i,v)=>(i*te.size,te.size,v))).bind fun cs=>bG (.agg cs)
 |_=>none
def gp (n:Nat) (z:List AV):List AV:=(κ n z).flatten
def tZ (ap:AP) (nid:Nat) (ti:TI) (len:Nat) (parts:List (Nat × AV)):Ih:=
 match ti.d with
 | .slice e=>(ap.tyAt e).bind fun te=>
  match Xjb 0 te.size && Ξ (len*te.size) (2^24) && Xqo te.zero.length te.size with
  |true=>(wP (gp len te.zero) (parts.map fun (i,v)=>(i*te.size,te.size,v))).bind fun cs=>
   some (.ref nid 0 0 len,[jo nid cs te.size],[])
  |false=>none
 |_=>none
def V6 (p:AV) (o:Nat):Option AV:=
 match p with
 | .ptr b v off=>some (.ptr b v (off+o))
 | .pp xs off=>some (.pp xs (off+o))
 |_=>none
def PW (v:AV):Option Int:=match v with| .int _ n=>some n|_=>none
def xB (ap:AP) (ti:TI) (rd:Nat→Option bi) (x i:AV):Ih:=
 (PW i).bind fun i=>
 match ti.d with
 | .slice e=>(ap.tyAt e).bind fun te=>
  match x with
  | .sl xs n _=>bG (.pp xs (i.toNat*te.size)) [decide (0≤i),decide (i<n)]
  | .ref b ver j n=>(rd b).bind fun B=>match Xqo B.ver ver && Xqo B.esz te.size with
   |true=>bG (.ptr b ver ((j+i.toNat)*te.size)) [decide (0≤i),decide (i<n)]
   |false=>none
  |_=>none
 | .array n e=>(ap.tyAt e).bind fun te=>(V6 x (i.toNat*te.size)).bind fun p=>bG p [decide (0≤i),decide (i<n)]
 |_=>none
def NV (ap:AP) (ti:TI) (x i:AV):Ih:=
 (PW i).bind fun i=>
 match ti.d,x with
 | .str,.str s=>bG (.int .u8 (s.getD i.toNat 0).toNat) [decide (0≤i),decide (i<s.length)]
 | .array n e,.agg cs=>(ap.tyAt e).bind fun te=>
  (qI te (yN true te.lks cs (i.toNat*te.size))).bind fun v=>bG v (decide (0≤i)::decide (i<n)::IA true te.lks cs (i.toNat*te.size))
 |_,_=>none
def og (v:Option AV) (d:Int):Option Int:=match v with|none=>some d|some (.int _ n)=>some n|some _=>none
def OI (ap:AP) (ti:TI) (rd:Nat→Option bi) (x:AV) (lo hi mx:Option AV):Ih:=
 match ti.d,x,mx with
 | .str,.str s,none=>(og lo 0).bind fun l=>(og hi s.length).bind fun h=>
   bG (.str ((s.take h.toNat).drop l.toNat)) [decide (0≤l),decide (l≤h),decide (h≤s.length)]
 | .slice e,.sl xs n nn,none=>(ap.tyAt e).bind fun te=>(og lo 0).bind fun l=>(og hi n).bind fun h=>
   bG (.sl ((xs.take (h.toNat*te.size)).drop (l.toNat*te.size)) (h.toNat - l.toNat) nn) [decide (0≤l),decide (l≤h),decide (h≤n)]
 | .slice e,.ref b ver j n,none=>(ap.tyAt e).bind fun te=>(rd b).bind fun B=>(og lo 0).bind fun l=>(og hi n).bind fun h=>
   match Xqo B.ver ver && Xqo B.esz te.size with
   |true=>bG (.ref b ver (j+l.toNat) (h.toNat - l.toNat)) [decide (0≤l),decide (l≤h),decide (h≤n)]
   |false=>none
 | .slice e,.nilS,none=>(ap.tyAt e).bind fun _=>(og lo 0).bind fun l=>(og hi 0).bind fun h=>bG .nilS [decide (l=0),decide (h=0)]
 |_,_,_=>none
def Vw (d:TD) (x:AV):Ih:=
 match d,x with
 | .array n _,_=>bG (.int .i64 n)
 | .str,.str s=>bG (.int .i64 s.length)
 | .slice _,.sl _ n _=>bG (.int .i64 n)
 | .slice _,.ref _ _ _ n=>bG (.int .i64 n)
 | .slice _,.nilS=>bG (.int .i64 0)
 |_,_=>none
def L8 (size:Nat) (rd:Nat→Option bi) (x:AV):Option (List AV × Nat × Bool):=
 match x with
 | .sl xs n _=>some (xs,n,true)
 | .nilS=>some ([],0,true)
 | .str s=>some (s.map fun b=> .int .u8 b.toNat,s.length,true)
 | .ref b ver j n=>(rd b).bind fun B=>match Xqo B.ver ver && Xqo B.esz size && !(Xqo B.esz iU) with
  |true=>some ((B.cells.drop (j*size)).take (n*size),n,B.pr)
  |false=>none
 |_=>none
def H7:Nat:=2^40
def yc (nid:Nat) (te:TI) (rd:Nat→Option bi) (em:Bool) (s x:AV):Ih:=
 (L8 te.size rd x).bind fun (xs,n,pr)=>
 match Xjb 0 te.size && Ξ te.bytes 128 with
 |false=>none
 |true=>
 match s with
 | .nilS=>match em with
  |true=>bG .nilS [Xqo xs.length (n*te.size)]
  |false=>some (.ref nid 0 0 n,[(nid,⟨xs,0,false,0,te.size,pr⟩)],[Xqo xs.length (n*te.size),Ξ n H7])
 | .ref b ver 0 m=>(rd b).bind fun B=>match Xqo B.ver ver && Xqo B.esz te.size && !(Xqo B.esz iU) with
  | true=>some (.ref b (ver+1) 0 (m+n),[(b,{B with cells:=B.cells.take (m*te.size)++xs,ver:=ver+1,pr:=B.pr && pr})],
    [Xqo xs.length (n*te.size),Ξ (m+n) H7,Ξ (m*te.size) B.cells.length, !B.fro||Ξ B.fz (m*te.size)])
  |false=>none
 |_=>none
def xk:AV→Option Nat
 | .sl _ n _=>some n
 | .nilS=>some 0
 | .str s=>some s.length
 | .ref _ _ _ n=>some n
 |_=>none
def yC (ρ:Operand→AV) (o:Op):Option Nat:=
 match o with
 | .call {callee:= .builtin .append,args,..}=>match args.toList with
  | [s,x]=>match ρ s with
   | .nilS=>xk (ρ x)
   |_=>none
  |_=>none
 |_=>none
def xE (ap:AP) (nid:Nat) (ti:TI) (l c:AV):Ih:=
 match ti.d,l,c with
 | .slice e,.int _ l,.int _ c=>(ap.tyAt e).bind fun te=>
  match Xjb 0 te.size && Xqo te.zero.length te.size && Ξ te.bytes 128 && (cO te.zero).isEmpty with
  |true=>some (.ref nid 0 0 l.toNat,[(nid,⟨gp l.toNat te.zero,0,false,0,te.size,true⟩)],[decide (0≤l),decide (l=c),decide (l≤2^40)])
  |false=>none
 |_,_,_=>none
def Dn (ap:AP) (ts td:TI) (rd:Nat→Option bi) (x:AV):Ih:=
 match ts.d,td.d,x with
 |_,.int k,.int _ n=>bG (.int k (k.wrap n))
 | .str,.str,.str s=>bG (.str s)
 | .slice e,.str,x=>(ap.tyAt e).bind fun te=>match te.d,x with
  | .int .u8,.str _=>none
  | .int .u8,x=>(L8 1 rd x).bind fun (xs,n,_)=>bG (.str (xs.map fun c=>UInt8.ofNat c.toInt.toNat)) [Xqo xs.length n,xs.all (chk (.int .u8))]
  |_,_=>none
 |_,_,_=>none
def NH:LK→AV→AV→Option Bool
 | .int k,.int k1 a,.int k2 b=>match iZ k k1 && iZ k k2 with|true=>some (a==b)|false=>none
 | .bool,.bool a,.bool b=>some (a==b)
 | .str,.str a,.str b=>some (a==b)
 |_,_,_=>none
def kW:List LK→List AV→List AV→Option Bool
 | [],[],[]=>some true
 |k::ks,a::as,b::bs=>(NH k a b).bind fun c=>(kW ks as bs).map fun d=>c && d
 |_,_,_=>none
def eqA (ti:TI) (a b:AV):Option Bool:=
 match ti.d,a,b with
 | .bool,.bool a,.bool b=>some (a==b)
 | .struct _,.agg xs,.agg ys=>match ti.cmp with|true=>kW ti.lks xs ys|false=>none
 | .ptr,.nilP,.nilP=>some true
 | .ptr,.nilP,.ptr _ _ _=>some false
 | .ptr,.nilP,.pp _ _=>some false
 | .ptr,.ptr _ _ _,.nilP=>some false
 | .ptr,.pp _ _,.nilP=>some false
 | .iface,.nilI,.ifc _ _=>some false
 | .iface,.ifc _ _,.nilI=>some false
 | .func,.nilF,.nilF=>some true
 | .func,.nilF,.fn _ _ _=>some false
 | .func,.fn _ _ _,.nilF=>some false
 | .slice _,.nilS,.nilS=>some true
 | .slice _,.ref _ _ _ _,.nilS=>some false
 | .slice _,.nilS,.ref _ _ _ _=>some false
 | .slice _,.sl _ _ _,.nilS=>some false
 | .slice _,.nilS,.sl _ _ _=>some false
 |_,_,_=>none
def EC (a b:AV):List Bool:=
 match a,b with
 | .sl _ n false,.nilS=> [Xjb 0 n]
 | .nilS,.sl _ n false=> [Xjb 0 n]
 |_,_=> []
def iF:List UInt8→List UInt8→Bool
 |_,[]=>false
 | [],_::_=>true
 |a::x,b::y=>decide (a<b)||(a==b && iF x y)
def ab9 (op:BinOp) (ti:TI) (x y:AV):Ih:=
 match x,y with
 | .int k a,.int k' b=>
  match op with
  | .shl=>bG (.int k (k.wrap (a*2^(min b.toNat k.bits)))) [decide (0≤b)]
  | .shr=>bG (.int k (a.fdiv (2^(min b.toNat k.bits)))) [decide (0≤b)]
  | _=>match iZ k k' with
   |false=>none
   |true=>match op with
    | .add=>bG (.int k (k.wrap (a+b)))
    | .sub=>bG (.int k (k.wrap (a - b)))
    | .mul=>bG (.int k (k.wrap (a*b)))
    | .quo=>bG (.int k (k.wrap (a.tdiv b))) [!(b==0)]
    | .rem=>bG (.int k (a.tmod b)) [!(b==0)]
    | .and=>bG (.int k (k.wrap (Xqh k.bits a &&& Xqh k.bits b).toNat))
    | .or=>bG (.int k (k.wrap (Xqh k.bits a|||Xqh k.bits b).toNat))
    | .xor=>bG (.int k (k.wrap (Xqh k.bits a^^^Xqh k.bits b).toNat))
    | .eql=>bG (.bool (a==b))
    | .neq=>bG (.bool (!(a==b)))
    | .lss=>bG (.bool (decide (a<b)))
    | .leq=>bG (.bool (decide (a≤b)))
    | .gtr=>bG (.bool (decide (b<a)))
    | .geq=>bG (.bool (decide (b≤a)))
    |_=>none
 | .str a,.str b=>
  match op with
  | .add=>bG (.str (a++b)) [Ξ (a.length+b.length) 9223372036854775807]
  | .eql=>bG (.bool (a==b))
  | .neq=>bG (.bool (!(a==b)))
  | .lss=>bG (.bool (iF a b))
  | .leq=>bG (.bool (iF a b||a==b))
  | .gtr=>bG (.bool (!(iF a b||a==b)))
  | .geq=>bG (.bool (!iF a b))
  |_=>none
 |x,y=>
  match op with
  | .eql=>(eqA ti x y).bind fun b=>bG (.bool b) (EC x y)
  | .neq=>(eqA ti x y).bind fun b=>bG (.bool (!b)) (EC x y)
  |_=>none
def unA (op:UnOp) (x:AV):Ih:=
 match op,x with
 | .not,.bool b=>bG (.bool (!b))
 | .neg,.int k n=>bG (.int k (k.wrap (0 - n)))
 |_,_=>none
def min2 (a b:AV):Option AV:=match a,b with| .int k x,.int k' y=>(match iZ k k' with|true=>some (.int k (if y<x then y else x))|false=>none)|_,_=>none
def max2 (a b:AV):Option AV:=match a,b with| .int k x,.int k' y=>(match iZ k k' with|true=>some (.int k (if y>x then y else x))|false=>none)|_,_=>none
def KD (f:AV→AV→Option AV):AV→List AV→Option AV
 |x,[]=>some x
 |x,y::r=>match f x y with|some z=>KD f z r|none=>none
def zC (f:AV→AV→Option AV):List AV→Option AV
 | []=>none
 |x::r=>KD f x r
def Iq (ap:AP) (x:AV) (asserted:Nat) (commaOk:Bool):Ih:=
 (ap.tyAt asserted).bind fun ti=>
 match ti.d with
 | .iface=>none
 | _=>match x with
  | .ifc t v=>match Xqo t asserted with
   |true=>bG (match commaOk with|true=> .tup [v,.bool true]|false=>v)
   |false=>match commaOk with|true=>(qI ti ti.zero).bind fun z=>bG (.tup [z,.bool false])|false=>none
  | .nilI=>match commaOk with|true=>(qI ti ti.zero).bind fun z=>bG (.tup [z,.bool false])|false=>none
  |_=>none
def NS (ap:AP) (ti:TI) (x:AV) (f:Nat):Ih:=
 match ti.d,x with
 | .struct fs,.agg cs=>(fs[f]?).bind fun (o,t,_)=>(ap.tyAt t).bind fun tf=>
  (qI tf (yN false tf.lks cs o)).bind fun v=>bG v (IA false tf.lks cs o)
 |_,_=>none
def yg:AV→List Nat
 | .ref b _ _ _=> [b]
 | .ptr b _ _=> [b]
 | .mr b _=> [b]
 |_=> []
def Wv (ρ:Operand→AV):Op→List Nat
 | .load _ a=>yg (ρ a)
 | .store _ a _=>yg (ρ a)
 | .indexAddr _ x _=>yg (ρ x)
 | .slice _ x _ _ _=>yg (ρ x)
 | .convert _ _ x=>yg (ρ x)
 | .lookup _ x _ _=>yg (ρ x)
 | .mapUpdate _ x _ _=>yg (ρ x)
 | .insert _ x _ _=>yg (ρ x)
 | .call {callee:= .builtin .append,args,..}=>jq (args.toList.flatMap fun x=>yg (ρ x))
 |_=> []
def G9:LK→AV→Bool
 | .int k,.int k' _=>iZ k k'
 | .bool,.bool _=>true
 | .str,.str _=>true
 |_,_=>false
def mO:List LK→List AV→Bool
 | [],[]=>true
 |k::r,x::l=>G9 k x && mO r l
 |_,_=>false
def lu (ti:TI) (x:AV):Bool:=match ti.d,x with
 | .int k,.int k' _=>iZ k k'
 | .bool,.bool _=>true
 | .str,.str _=>true
 | .struct _,.agg l=>ti.cmp && mO ti.lks l
 |_,_=>false
def IM:AV→AV→Bool
 | .int _ a,.int _ b=>a==b
 | .bool a,.bool b=>a==b
 | .str a,.str b=>a==b
 |_,_=>false
def NG:List AV→List AV→Bool
 | [],[]=>true
 |a::r,b::q=>IM a b && NG r q
 |_,_=>false
def PN:AV→AV→Bool
 | .int _ a,.int _ b=>a==b
 | .bool a,.bool b=>a==b
 | .str a,.str b=>a==b
 | .agg a,.agg b=>NG a b
 |_,_=>false
def yE:List AV→List AV→AV→Option AV
 |k0::ks,v0::vs,k=>match PN k k0 with|true=>some v0|false=>yE ks vs k
 |_,_,_=>none
def Jr (ks:List AV) (k:AV):List AV:=match ks.any (PN k) with|true=>ks|false=>ks++ [k]
def wE:List AV→List AV→AV→AV→List AV
 |k0::ks,v0::vs,k,v=>match PN k k0 with|true=>v::vs|false=>v0::wE ks vs k v
 |_,_,_,v=> [v]
def VI (rd:Nat→Option bi) (x:AV):Option (List AV × List AV):=
 match x with
 | .mp ks vs=>some (ks,vs)
 | .mr b ver=>(rd b).bind fun B=>match Xqo B.ver ver && Xqo B.esz iU with
  |true=>match B.cells with| [.agg ks,.agg vs]=>some (ks,vs)|_=>none
  |false=>none
 |_=>none
def KT (ok:Bool) (o:Option AV) (z:AV):AV:=match ok with|true=> .tup [o.getD z,.bool o.isSome]|false=>o.getD z
def Jc (ap:AP) (ti:TI) (rd:Nat→Option bi) (x k:AV) (ok:Bool):Ih:=
 match ti.d with
 | .map kt et=>(ap.tyAt kt).bind fun tk=>(ap.tyAt et).bind fun te=>(VI rd x).bind fun q=>(qI te te.zero).bind fun z=>
   bG (KT ok (yE q.1 q.2 k) z) [lu tk k,q.1.all (lu tk)]
 |_=>none
def Cf (ap:AP) (ti:TI) (rd:Nat→Option bi) (x k v:AV):Ih:=
 match ti.d,x with
 | .map kt _,.mr b ver=>(ap.tyAt kt).bind fun tk=>(rd b).bind fun B=>match Xqo B.ver ver && Xqo B.esz iU && !B.fro with
  |true=>match B.cells with
   | [.agg ks,.agg vs]=>some (.dead,[(b,{B with cells:= [.agg (Jr ks k),.agg (wE ks vs k v)],pr:=B.pr && (eX v).isEmpty})],[lu tk k,ks.all (lu tk)])
   |_=>none
  |false=>none
 |_,_=>none
def opA (ap:AP) (nid:Nat) (ρ:Operand→AV) (rd:Nat→Option bi) (dec:Operand→Option Bool) (em:Bool) (o:Op):Ih:=
 match o with
 | .move x=>bG (ρ x)
 | .assign x=>bG (ρ x)
 | .pick c a b=>match dec c with
  |some true=>bG (ρ a)
  |some false=>bG (ρ b)
  |none=>match ρ c,ρ a,ρ b with| .bool c,.bool x,.bool y=>bG (.bool (cond c x y))|_,_,_=>none
 | .alloc e=>(ap.tyAt e).bind fun te=>match Xjb 0 te.size && te.zero.all nX with|true=>some (.ptr nid 0 0,[jo nid te.zero 0],[])|false=>none
 | .box e x=>(ap.tyAt e).bind fun te=>let vs:=(ρ x).cells
  match Xjb 0 te.size && vs.all nX with|true=>some (.ptr nid 0 0,[jo nid vs 0],[])|false=>none
 | .build t parts=>(ap.tyAt t).bind fun ti=>Nq ap ti (parts.toList.map fun (i,x)=>(i,ρ x))
 | .buildSlice t len parts=>(ap.tyAt t).bind fun ti=>tZ ap nid ti len (parts.toList.map fun (i,x)=>(i,ρ x))
 | .load t a=>(ap.tyAt t).bind fun ti=>KU ti rd (ρ a)
 | .store t a x=>(ap.tyAt t).bind fun ti=>OQ ti rd (ρ a) (ρ x)
 | .makeMap _ r=>match r with|none=>some (.mr nid 0,[(nid,⟨[.agg [],.agg []],0,false,0,iU,true⟩)],[])|some _=>none
 | .lookup t x k ok=>(ap.tyAt t).bind fun ti=>Jc ap ti rd (ρ x) (ρ k) ok
 | .mapUpdate t x k v=>(ap.tyAt t).bind fun ti=>Cf ap ti rd (ρ x) (ρ k) (ρ v)
 | .insert t x k v=>(ap.tyAt t).bind fun ti=>Cf ap ti rd (ρ x) (ρ k) (ρ v)
 | .nilCheck x=>match ρ x with
  | .ptr b v o=>bG (.ptr b v o)
  | .pp xs o=>bG (.pp xs o)
  | .fn f a c=>bG (.fn f a c)
  |_=>none
 | .binOp op t x y _=>(ap.tyAt t).bind fun ti=>ab9 op ti (ρ x) (ρ y)
 | .unOp op _ x=>unA op (ρ x)
 | .convert s d x=>(ap.tyAt s).bind fun ts=>(ap.tyAt d).bind fun td=>Dn ap ts td rd (ρ x)
 | .makeInterface t x=>(ap.tyAt t).bind fun ti=>match ti.d with| .iface=>none|_=>bG (.ifc t (ρ x))
 | .makeFunc (.func f) first cap=>bG (.fn f (first.toList.map ρ) (cap.toList.map ρ))
 | .makeSlice t l c=>(ap.tyAt t).bind fun ti=>xE ap nid ti (ρ l) (ρ c)
 | .slice t x lo hi mx=>(ap.tyAt t).bind fun ti=>OI ap ti rd (ρ x) (lo.map ρ) (hi.map ρ) (mx.map ρ)
 | .fieldAddr s x f=>(ap.tyAt s).bind fun ti=>match ti.d with
  | .struct fs=>(fs[f]?).bind fun (o,_,sz)=>match Xjb 0 sz with|true=>(V6 (ρ x) o).bind fun p=>bG p|false=>none
  |_=>none
 | .field t x f=>(ap.tyAt t).bind fun ti=>NS ap ti (ρ x) f
 | .indexAddr t x i=>(ap.tyAt t).bind fun ti=>xB ap ti rd (ρ x) (ρ i)
 | .index t x i=>(ap.tyAt t).bind fun ti=>NV ap ti (ρ x) (ρ i)
 | .typeAssert x _ asserted ok=>Iq ap (ρ x) asserted ok
 | .extract t i=>match ρ t with| .tup l=>(l[i]?).bind fun v=>bG v|_=>none
 | .call {callee:= .builtin b,args,argTypes}=>
  match b with
  | .len=>(args[0]?).bind fun x=>(argTypes[0]?).bind fun t=>(ap.tyAt t).bind fun ti=>Vw ti.d (ρ x)
  | .append=>match args.toList,argTypes.toList with
   | [s,x],[t,t1]=>(ap.tyAt t).bind fun ti=>(ap.tyAt t1).bind fun ti1=>match ti.d,ti1.d,ρ x with
    | .slice e,.str,.str y=>(ap.tyAt e).bind fun te=>match Xqo te.size 1 with|true=>yc nid te rd em (ρ s) (.str y)|false=>none
    | .slice _,.slice _,.str _=>none
    | .slice e,.slice _,y=>(ap.tyAt e).bind fun te=>yc nid te rd em (ρ s) y
    |_,_,_=>none
   |_,_=>none
  | .min=>(zC min2 (args.toList.map ρ)).bind fun v=>bG v
  | .max=>(zC max2 (args.toList.map ρ)).bind fun v=>bG v
  |_=>none
 |_=>none
def He (P:Program):Nat→TypeId→List LK
 |0,_=> [.oth]
 |n+1,t=>match P.underlying t with
  |some (.int k)=> [.int k]
  |some .bool=> [.bool]
  |some .string=> [.str]
  |some (.slice _)=> [.sl]
  |some (.struct fs)=>fs.toList.flatMap fun f=>He P n f.type
  |some (.array m e)=>(κ m (He P n e)).flatten
  |_=> [.oth]
def kw (P:Program):Option TypeDesc→TD
 |some (.int k)=> .int k
 |some .bool=> .bool
 |some .string=> .str
 |some (.slice e)=> .slice e
 |some (.array n e)=> .array n e
 |some (.struct fs)=> .struct (fs.toList.map fun f=>(f.offset,f.type,match P.info? f.type with|some i=>i.size|none=>0))
 |some (.interface _)=> .iface
 |some (.pointer _)=> .ptr
 |some (.func _ _ _)=> .func
 |some (.map k e)=> .map k e
 |_=> .oth
def yu (P:Program) (f:TypeId→Option (List LK)):List Field→Nat→Option (List LK)
 | [],_=>some []
 | x::r,off=>match f x.type with
  |some l=>match !(x.name== "_") && Xqo x.offset off && (match P.info? x.type with|some i=>Xqo i.size l.length|none=>false) with
   |true=>match yu P f r (off+l.length) with|some l'=>some (l++l')|none=>none
   |false=>none
  |none=>none
def jK (P:Program):Nat→TypeId→Option (List LK)
 |0,_=>none
 |n+1,t=>match P.underlying t with
  |some (.int k)=>some [.int k]
  |some .bool=>some [.bool]
  |some .string=>some [.str]
  |some (.struct fs)=>match P.stoodInHeld t with|true=>none|false=>yu P (jK P n) fs.toList 0
  |_=>none
def aeY (i:TypeInfo) (d:TypeDesc):Bool:=match i.zero,d with
 |some (.agg _),.struct _=>true
 |some (.agg _),.array _ _=>true
 |some (.agg _),_=>false
 |some _,.struct _=>false
 |some _,.array _ _=>false
 |some _,_=>true
 |none,_=>false
def UX (P:Program) (d:TypeDesc):Bool:=match d with
 | .struct fs=>fs.toList.all fun f=>(P.info? f.type).isSome
 |_=>true
def FK (i:TypeInfo):List AV:=match i.zero with|some z=>z.cells.toList.map EE|none=> []
def acX:LK→LK→Bool
 | .int a,.int b=>iZ a b
 | .bool,.bool=>true
 | .str,.str=>true
 |_,_=>false
def Ha:List LK→List LK→Bool
 | [],[]=>true
 |a::r,b::q=>acX a b && Ha r q
 |_,_=>false
def Yc (P:Program) (t:TypeId):Bool:=match jK P 8 t with|some l=>Ha l (He P 8 t) && !P.eqGuardType P.depth t|none=>false
def Xk (P:Program) (t:TypeId):Option TI:=
 match P.info? t,P.underlying t with
 |some i,some d=>
  match Xqo (He P 8 t).length i.size && (aeY i d && UX P d) && (FK i).all nX && Xqo (FK i).length i.size && Xjb 0 i.size && i.zero.isSome && Xjb i.size iU with
  |true=>some {d:=kw P (some d),size:=i.size,bytes:=i.bytes,zero:=FK i,lks:=He P 8 t,cmp:=Yc P t}
  |false=>none
 |_,_=>none
abbrev aU:=Nat→Nat→Option Value
def mY (S S':aU):Prop:=∀ k o v,S k o=some v→S' k o=some v
theorem mY.refl (S:aU):mY S S:=fun _ _ _ h=>h
theorem mY.trans {S S' S'':aU} (h:mY S S') (a:mY S' S''):mY S S'':=fun k o v e=>a k o v (h k o v e)
def kT (S:aU) (b o:Nat) (vs:List Value):Prop:=∀ j u,vs[j]? =some u→S b (o+j)=some u∧u.oneCell'=true
mutual
def PR (S:aU):AV→Value→Prop
 | .int k n,v=>v= .int k n
 | .bool b,v=>v= .bool b
 | .str s,v=>v= .string ⟨s.toArray⟩
 | .agg l,v=> ∃ vs,v= .agg vs.toArray∧dD S l vs
 | .tup l,v=> ∃ vs,v= .tuple vs.toArray∧dD S l vs
 | .nilS,v=>v= .slice none 0 0
 | .sl xs n nn,v=> ∃ a cap,v= .slice a n cap∧n≤cap∧(((a=none→nn=false)∧xs= []∧n=0∧cap=0)∨∃ b o vs,a=some ⟨b,o,none⟩∧dD S xs vs∧kT S b o vs)
 | .pp xs off,v=> ∃ b o vs,v= .pointer (some ⟨b,o+off,none⟩)∧dD S xs vs∧kT S b o vs
 | .mp ks vs,v=>(v= .map none∧ks= []∧vs= [])∨∃ b kk vv,v= .map (some b)∧S b 0=some (.agg kk.toArray)∧S b 1=some (.agg vv.toArray)∧dD S ks kk∧dD S vs vv
 | .nilP,v=>v= .pointer none
 | .fn f a c,v=> ∃ va vc,v= .func (.func f) va.toArray vc.toArray∧dD S a va∧dD S c vc
 | .nilF,v=>v= .nilFunc
 | .ifc t x,v=> ∃ u,v= .iface t u∧PR S x u
 | .nilI,v=>v= .nilIface
 | .dead,_=>True
 | .ref _ _ _ _,_=>False
 | .ptr _ _ _,_=>False
 | .mr _ _,_=>False
 | .own _ _ _,_=>False
def dD (S:aU):List AV→List Value→Prop
 | [],[]=>True
 |x::r,v::vs=>PR S x v∧dD S r vs
 |_,_=>False
end
abbrev dM:=Nat→Option bi
abbrev a_:=Nat→Nat × Nat
mutual
def VR (g:dM) (m:a_) (S:aU):AV→Value→Prop
 | .ref b ver i n,v=> ∃ B,g b=some B∧ver≤B.ver∧(∃ k o c',v= .slice (some ⟨k,o,none⟩) n c')∧(B.ver=ver→∃ o,v= .slice (some ⟨(m b).1,o,none⟩) n ((m b).2 - i)∧i+n≤(m b).2∧(i<(m b).2→o=i*B.esz)∧0<B.esz∧B.esz ≠ iU)
 | .ptr b ver off,v=> ∃ B,g b=some B∧ver≤B.ver∧(∃ k o,v= .pointer (some ⟨k,o,none⟩))∧(B.ver=ver→v= .pointer (some ⟨(m b).1,off,none⟩))
 | .mr b ver,v=> ∃ B,g b=some B∧ver≤B.ver∧(∃ k,v= .map (some k))∧(B.ver=ver→v= .map (some (m b).1))
 | .agg l,v=> ∃ vs,v= .agg vs.toArray∧bD g m S l vs
 | .tup l,v=> ∃ vs,v= .tuple vs.toArray∧bD g m S l vs
 | .fn f a c,v=> ∃ va vc,v= .func (.func f) va.toArray vc.toArray∧bD g m S a va∧bD g m S c vc
 | .ifc t x,v=> ∃ u,v= .iface t u∧VR g m S x u
 | .int k n,v=>PR S (.int k n) v
 | .bool b,v=>PR S (.bool b) v
 | .str s,v=>PR S (.str s) v
 | .nilS,v=>PR S .nilS v
 | .sl xs n nn,v=>PR S (.sl xs n nn) v
 | .pp xs off,v=>PR S (.pp xs off) v
 | .mp ks vs,v=>PR S (.mp ks vs) v
 | .nilP,v=>PR S .nilP v
 | .nilF,v=>PR S .nilF v
 | .nilI,v=>PR S .nilI v
 | .dead,_=>True
 | .own _ _ _,_=>False
def bD (g:dM) (m:a_) (S:aU):List AV→List Value→Prop
 | [],[]=>True
 |x::r,v::vs=>VR g m S x v∧bD g m S r vs
 |_,_=>False
end
def aZ (x y:AV):Prop:=∀ g m S v,VR g m S x v→VR g m S y v
inductive ww where
 |v (d:Nat) (x:AV)
 |b (d:Nat) (xs:List AV)
 |u (d:Nat)
inductive kC where
 |ret (v:AV)
 |pan (v:AV)
structure Cx where
 cl:Bool
 orc:List Bool
 bs:List Bool
 ps:List Prop
 ans:List (kC × List bi)
 hs:List ww
inductive R (α:Type) where
 |ok (a:α) (c:Cx)
 |need
 |bad (n:Nat)
def R.bind {α β:Type} (r:R α) (f:α→Cx→R β):R β:=
 match r with
 | .ok a c=>f a c
 | .need=> .need
 | .bad n=> .bad n
def lit (o b:Bool):Bool:=match o with|true=>b|false=> !b
def Yz (c:Cx) (bs:List Bool):R Unit:=
 match c.cl with
 |true=>match bs.all id with|true=> .ok () c|false=> .bad 1
 |false=> .ok () {c with bs:=bs++c.bs}
def zu (c:Cx) (b:Bool):R Bool:=
 match c.cl with
 |true=> .ok b c
 |false=>match c.orc with
  | []=> .need
  |o::r=> .ok o {c with orc:=r,bs:=lit o b::c.bs}
def DR (c:Cx) (dst:Option Nat) (v:AV):AV × Cx:=
 match c.hs,dst with
 | .v d x::r,some d'=>match Xqo d d' with
  |true=>(x,{c with hs:=r,ps:=aZ v x::c.ps})
  |false=>(v,c)
 |_,_=>(v,c)
def DN (c:Cx) (dst:Option Nat) (ups:List (Nat × bi)):List (Nat × bi) × Cx:=
 match c.hs,dst,ups with
 | .b d xs::r,some d',[(b,B)]=>match Xqo d d' with
  |true=>([(b,{B with cells:=xs})],{c with hs:=r,ps:=(B.cells=xs)::c.ps})
  |false=>(ups,c)
 |_,_,_=>(ups,c)
def PP (c:Cx) (dst:Option Nat):Bool × Cx:=
 match c.hs,dst with
 | .u d::r,some d'=>match Xqo d d' with
  |true=>(true,{c with hs:=r})
  |false=>(false,c)
 |_,_=>(false,c)
abbrev dw:=Cx→AV→Nat→List AV→List bi→R (kC × List bi × AV)
def tC (rd:Nat→Option bi):Nat→List Nat→List Nat
 |0,l=>l
 |n+1,l=>
  let more:=l.flatMap fun b=>match rd b with|some B=>(match B.pr with|true=> []|false=>cO B.cells)|none=> []
  let l':=more.foldl (fun acc b=>if pY acc b then acc else acc++ [b]) l
  match Xqo l'.length l.length with|true=>l|false=>tC rd n l'
def frz (rd:Nat→Option bi):Nat→AV→Option AV
 |0,_=>none
 | fuel+1,x=>
  let frzL (l:List AV):Option (List AV):=kP (frz rd fuel) l
  match x with
  | .ref b ver i n=>(rd b).bind fun B=>match Xqo B.ver ver with
   |true=>match B.pr with
    |true=>some (.sl ((B.cells.drop (i*B.esz)).take (n*B.esz)) n true)
    |false=>(frzL ((B.cells.drop (i*B.esz)).take (n*B.esz))).map fun l=> .sl l n true
   |false=>none
  | .ptr b ver off=>(rd b).bind fun B=>match Xqo B.ver ver && !(Xqo B.esz iU) with
   |true=>match B.pr with
    |true=>some (.pp B.cells off)
    |false=>(frzL B.cells).map fun l=> .pp l off
   |false=>none
  | .mr b ver=>(rd b).bind fun B=>match Xqo B.ver ver && Xqo B.esz iU with
   |true=>match B.pr with
    |true=>Za B.cells
    |false=>(frzL B.cells).bind Za
   |false=>none
  | .agg l=>(frzL l).map .agg
  | .tup l=>(frzL l).map .tup
  | .fn f a c=>(frzL a).bind fun a=>(frzL c).map fun c=> .fn f a c
  | .ifc t v=>(frz rd fuel v).map (.ifc t)
  | .own _ _ _=>none
  |x=>some x
def pV (l:List Nat) (b:Nat):Option Nat:=match l with
 | []=>none
 |c::r=>match Xqo c b with|true=>some 0|false=>(pV r b).map (· +1)
def Jn (xs:List AV) (esz:Nat):bi:={cells:=xs,ver:=0,fro:=false,fz:=0,esz,pr:=true}
def fZ (nid:Nat):List AV→List AV × List bi
 | []=>([],[])
 | .own xs n esz::r=>match fZ (nid+1) r with|(l,bs)=>(.ref nid 0 0 n::l,Jn xs esz::bs)
 |x::r=>match fZ nid r with|(l,bs)=>(x::l,bs)
def jZ (nid:Nat):AV→AV × List bi
 | .tup l=>match fZ nid l with|(l,bs)=>(.tup l,bs)
 | .own xs n esz=>(.ref nid 0 0 n,[Jn xs esz])
 |x=>(x,[])
def ED:Nat→List bi→List (Nat × bi)
 |_,[]=> []
 |n,B::r=>(n,B)::ED (n+1) r
def ML:List Nat→List bi→List (Nat × bi)
 |b::r,B::q=>(b,B)::ML r q
 |_,_=> []
def rO:List Nat→Bool
 | []=>true
 |b::r=> !pY r b && rO r
def Bg (ρ:Nat→Nat→Option (Nat × Nat)) (v:Nat) (B:bi):bi:={B with cells:=(match B.pr with|true=>B.cells|false=>mG ρ B.cells),ver:=v+B.ver}
def Pg (nid:Nat) (fp:List Nat) (vers:Nat→Nat) (n:Nat):Nat→Nat→Option (Nat × Nat):=fun p v=>
 match fp[p]? with
 |some b=>some (b,vers b+v)
 |none=>match Xjb p n with|true=>some (nid+(p - fp.length),v)|false=>none
structure Uf where
 out:kC
 ups:List (Nat × bi)
 fp:List Nat
 md:AV
def uf (ap:AP) (H:dw) (rd:Nat→Option bi) (nid:Nat) (md:AV) (f:Nat) (args:List AV) (c:Cx):R Uf:=
 let fp:=tC rd 6 (jq (cO args))
 let rd:=fun b=>match pY fp b with|true=>rd b|false=>none
 let shared:=match ap.fnAt f with|some F=>F.shared|none=>false
 match shared with
 | false=>
  match kP (frz rd 6) args with
  |none=> .bad 10
  |some args'=>
   (H c md f args' []).bind fun (out,h',md) c=>
   match h' with
   |_::_=> .bad 14
   | []=>
   let mark:=fp.filterMap fun b=>(rd b).map fun B=>(b,{B with fro:=true,fz:=B.cells.length})
   match out with
   | .ret v=>match jZ nid v with|(v,bs)=>match Ξ bs.length 4 with|true=> .ok {out:= .ret v,ups:=ED nid bs++mark,fp,md} c|false=> .bad 13
   | .pan v=> .ok {out:= .pan v,ups:=mark,fp,md} c
 | true=>
  let vers:=fun b=>match rd b with|some B=>B.ver|none=>0
  let ρ:Nat→Nat→Option (Nat × Nat):=fun b v=>match Xqo v (vers b) with|true=>(pV fp b).map fun p=>(p,0)|false=>none
  match kP rd fp with
  |none=> .bad 11
  | some bl=>
   (H c md f (mG ρ args) (bl.map fun B=> {B with cells:=(match B.pr with|true=>B.cells|false=>mG ρ B.cells),ver:=0})).bind fun (out,h',md) c=>
   match Ξ fp.length h'.length && rO fp with
   |false=> .bad 12
   |true=>
    let ρ':=Pg nid fp vers h'.length
    let ups:=(ML fp h').map fun (b,B)=>(b,Bg ρ' (vers b) B)
    let ex:=(h'.drop fp.length).map (Bg ρ' 0)
    match out with
    | .ret v=>match jZ (nid+(h'.length - fp.length)) (ren ρ' v) with|(v,bs)=>match Ξ ((h'.length - fp.length)+bs.length) 4 with|true=> .ok {out:= .ret v,ups:=ED nid (ex++bs)++ups,fp,md} c|false=> .bad 13
    | .pan v=>match Ξ (h'.length - fp.length) 4 with|true=> .ok {out:= .pan (ren ρ' v),ups:=ED nid (ex++ [])++ups,fp,md} c|false=> .bad 13
inductive bK where
 |normal
 |exit (id:Nat)
 |ret
 |panic (v:AV)
structure St where
 env:iO
 hp:Hp
 md:AV
 dfs:List (Nat × List AV)
structure wY where
 rt:List Nat
 wt:List Nat
 rb:List Nat
 wb:List Nat
structure RS where
 env:iO
 hp:Hp
 md:AV
 dfs:List (Nat × List AV)
 dec:List (Nat × Bool)
 feet:List wY
def uX (l:List Operand):List Nat:=l.filterMap fun| .tmp t=>some t|_=>none
def II (o:Oper):List Nat:=match o.dst with|some d=> [d]|none=> []
def qf (env:iO) (dst:Option Nat) (v:AV):iO:=match dst with|some d=>(d,v)::env|none=>env
def qB (ap:AP) (env:iO):Operand→AV
 | .tmp t=>env.get t
 | .const v=>EE v
 | .global g=>match (ap.gl[g]?).join with|some xs=> .pp xs 0|none=> .dead
 | .func f=> .fn f [] []
def NT (ops:List Oper) (env:iO) (dec:List (Nat × Bool)) (o:Oper) (c:Cx):R (Bool × List (Nat × Bool)):=
 match o.guard with
 |none=> .ok (true,dec) c
 | some (j,want)=>
  match (ops[j]?).bind (·.dst) with
  |none=> .bad 20
  | some s=>match aG dec s with
   |some b=> .ok (lit want b,dec) c
   |none=>match env.get s with
    | .bool b=>(zu c b).bind fun b' c=> .ok (lit want b',(s,b')::dec) c
    | .tup []=> .ok (false,dec) c
    |_=> .bad 21
def jy (ops:List Oper) (o:Oper):List Nat:=
 match o.guard with
 |none=> []
 |some (j,_)=>match (ops[j]?).bind (·.dst) with|none=> []|some s=> [s]
def UQ (dec:List (Nat × Bool)) (o:Oper):Bool:=match o.dst with|none=>true|some d=>match aG dec d with|none=>true|some _=>false
def L_ (ap:AP) (H:dw) (nid:Nat) (ops:List Oper) (o:Oper) (s:RS) (c:Cx):R (RS × Option AV):=
 (NT ops s.env s.dec o c).bind fun (run,dec) c=>
 let rt:=uX o.op.operands.toList++jy ops o
 match UQ dec o with
 |false=> .bad 35
 |true=>
 match run with
 |false=> .ok ({s with env:=qf s.env o.dst (.tup []),dec,feet:={rt,wt:=II o,rb:= [],wb:= []}::s.feet},none) c
 | true=>
  let ρ:=qB ap s.env
  let rdAll:=aG s.hp
  match o.op with
  | .call {callee:= .value g,args,..}=>
   match ρ g with
   | .fn f first cap=>
    (uf ap H rdAll nid .dead f (first++args.toList.map ρ++cap) c).bind fun r c=>
    let foot:wY:={rt,wt:=II o,rb:=r.fp,wb:=r.ups.map fun (q:Nat × bi)=>q.1}
    match PP c o.dst with
    | (true,c)=>match r.out with
     | .ret v=>match r.ups.all (fun (q:Nat × bi)=>pY r.fp q.1) with
      |true=> .ok ({s with env:=qf s.env o.dst v,dec,feet:={rt,wt:=II o,rb:=r.fp,wb:= []}::s.feet},none) {c with ps:=(r.ups.map (fun (q:Nat × bi)=>some q.2)=r.ups.map (fun (q:Nat × bi)=>aG s.hp q.1))::c.ps}
      |false=> .bad 36
     | .pan _=> .bad 37
    |(false,c)=>match r.out with
     | .ret v=> .ok ({s with env:=qf s.env o.dst v,hp:=r.ups++s.hp,dec,feet:=foot::s.feet},none) c
     | .pan v=> .ok ({s with hp:=r.ups++s.hp,dec,feet:=foot::s.feet},some v) c
   |_=> .bad 30
  | .call {callee:= .builtin .recover,..}=>
   match s.md with
   | .nilI=> .ok ({s with env:=qf s.env o.dst .nilI,dec,feet:={rt,wt:=II o,rb:= [],wb:= []}::s.feet},none) c
   | .ifc t v=> .ok ({s with env:=qf s.env o.dst (.ifc t v),md:= .nilI,dec,feet:={rt,wt:=II o,rb:= [],wb:= []}::s.feet},none) c
   |_=> .bad 33
  | .defer {callee:= .value g,args,..}=>
   match ρ g with
   | .fn f first cap=> .ok ({s with env:=qf s.env o.dst .dead,dfs:=(f,first++args.toList.map ρ++cap)::s.dfs,dec,feet:={rt,wt:=II o,rb:= [],wb:= []}::s.feet},none) c
   |_=> .bad 34
  | .panic x=>
   match ρ x with
   | .ifc t v=> .ok ({s with dec},some (.ifc t v)) c
   |_=> .bad 31
  | op=>
   let fp:=Wv ρ op
   let rd:=fun b=>match pY fp b with|true=>rdAll b|false=>none
   let decs:Operand→Option Bool:=fun| .tmp t=>aG dec t|_=>none
   (match yC ρ op with|some n=>zu c (Xqo n 0)|none=> .ok false c).bind fun em c=>
   match opA ap nid ρ rd decs em op with
   |none=> .bad 32
   | some (v,ups,bs)=>(Yz c bs).bind fun _ c=>
    match DR c o.dst v with
    |(v,c)=>match DN c o.dst ups with
     |(ups,c)=> .ok ({s with env:=qf s.env o.dst v,hp:=ups++s.hp,dec,feet:={rt,wt:=II o,rb:=fp,wb:=ups.map fun (q:Nat × bi)=>q.1}::s.feet},none) c
def sF (ap:AP) (H:dw) (ops:List Oper):List Oper→Nat→RS→Cx→R (RS × Option AV)
 | [],_,s,c=> .ok (s,none) c
 | o::r,nid,s,c=>(L_ ap H nid ops o s c).bind fun (s,p) c=>
  match p with
  |some v=> .ok (s,some v) c
  |none=>match s.feet with
   |f::_=>match f.wb.all (fun x=>Xjb x (nid+4)) with|true=>sF ap H ops r (nid+4) s c|false=> .bad 43
   | []=> .bad 44
def Et (a b:List Nat):Bool:=a.any (pY b)
def kG (a b:wY):Bool:=Et a.wt b.rt||Et a.wt b.wt||Et a.rt b.wt||Et a.wb b.rb||Et a.wb b.wb||Et a.rb b.wb
def uK (n:Nat) (bef:List Nat) (feet:List wY):Bool:=
 let l:=feet.reverse.zipIdx
 l.all fun (a,i)=>l.all fun (b,j)=> !(Xjb i j)|| !(kG a b||b.wb.any fun x=>Ξ (n+4*i) x && Xjb x (n+4*i+4))||(bef.getD j 0).testBit i
def Dz (keep:List Nat) (env:iO):List Nat:=keep.flatMap fun t=>eX (env.get t)
def norm (base:Nat) (keep:List Nat) (s:St):St:=
 let env:=s.env
 let hp:=s.hp
 let rd:=aG hp
 let ids:=tC rd 20 (jq (tC rd 20 (Xq2 base)++Dz keep env++s.dfs.flatMap fun d=>cO d.2))
 let ids:=ids.filter fun b=>(rd b).isSome
 let ρ:Nat→Nat→Option (Nat × Nat):=fun b v=>match rd b with
  |some B=>match Xqo B.ver v with
   |true=>(pV ids b).map fun p=>(p,match Xjb p base with|true=>v|false=>0)
   |false=>none
  |none=>none
 {env:=keep.map fun t=>(t,ren ρ (env.get t))
  hp:=ids.zipIdx.filterMap fun (b,p)=>(rd b).map fun B=>(p,{B with cells:=(match B.pr with|true=>B.cells|false=>mG ρ B.cells),ver:=match Xjb p base with|true=>B.ver|false=>0})
  md:=s.md
  dfs:=s.dfs.map fun d=>(d.1,mG ρ d.2)}
def iC:Hp→Nat
 | []=>0
 |(b,_)::r=>match Xjb b (iC r) with|true=>iC r|false=>b+1
def qZ (ops:List Oper):Bool:=ops.zipIdx.all fun (o,i)=>o.after.toList.all fun e=> !Region.binds .any e||Xjb e.on i
def Ju (ap:AP) (H:dw) (base:Nat) (keep:List Nat) (ops:List Oper) (draw:Bool) (s:St) (c:Cx):R (bK × St):=
 (sF ap H ops ops (iC s.hp) {env:=s.env,hp:=s.hp,md:=s.md,dfs:=s.dfs,dec:= [],feet:= []} c).bind fun (s',p) c=>
 match p with
 | some v=>match draw with
  |true=> .bad 40
  |false=>match (eX v).isEmpty with
   |true=> .ok (.panic v,norm base keep ⟨s'.env,s'.hp,s'.md,s'.dfs⟩) c
   |false=> .ok (.panic v,⟨s'.env,s'.hp,s'.md,s'.dfs⟩) c
 |none=>
  match !draw||(uK (iC s.hp) (Region.before ops.toArray).toList s'.feet && qZ ops && Xqo s'.dfs.length s.dfs.length) with
  |true=> .ok (.normal,norm base keep ⟨s'.env,s'.hp,s'.md,s'.dfs⟩) c
  |false=> .bad 41
def PY (f:St→Cx→R (bK × St)):Nat→St→Cx→R (bK × St)
 |0,_,_=> .bad 50
 |n+1,s,c=>(f s c).bind fun (e,s) c=>match e with
  | .normal=>PY f n s c
  |e=> .ok (e,s) c
def lq (ap:AP) (H:dw) (base:Nat) (keep:List Nat) (lf:Nat):Code→St→Cx→R (bK × St)
 | .skip,s,c=> .ok (.normal,s) c
 | .label _,s,c=> .ok (.normal,s) c
 | .region _ ops draw,s,c=>Ju ap H base keep ops.toList draw s c
 | .seq a b,s,c=>(lq ap H base keep lf a s c).bind fun (e,s) c=>match e with
  | .normal=>lq ap H base keep lf b s c
  |e=> .ok (e,s) c
 | .cond t a b,s,c=>match qB ap s.env t with
  | .bool x=>(zu c x).bind fun x c=>match x with
   |true=>lq ap H base keep lf a s c
   |false=>lq ap H base keep lf b s c
  |_=> .bad 60
 | .block id b,s,c=>(lq ap H base keep lf b s c).bind fun (e,s) c=>match e with
  | .exit id'=>match Xqo id' id with|true=> .ok (.normal,s) c|false=> .ok (.exit id',s) c
  |e=> .ok (e,s) c
 | .loop b,s,c=>PY (lq ap H base keep lf b) lf s c
 | .exit id,s,c=> .ok (.exit id,s) c
 | .ret,s,c=> .ok (.ret,s) c
 | .scope b,s,c=>lq ap H base keep lf b s c
 |_,_,_=> .bad 61
def yP (ap:AP) (env:iO) (hp:Hp):ResultVar→Option (AV × List Bool)
 | .tmp t=>some (env.get t,[])
 | .cell a t=>(ap.tyAt t).bind fun ti=>(KU ti (aG hp) (env.get a)).map fun (v,_,bs)=>(v,bs)
def gu (l:List Nat) (b:Nat):Nat:=(l.filter (Xqo b)).length
def YE (base:Nat) (rd:Nat→Option bi) (v:AV):Option AV:=
 let fp:=tC rd 6 (jq (eX v))
 match fp.all (fun b=>Ξ base b) with
 |true=>frz (fun b=>match pY fp b with|true=>rd b|false=>none) 6 v
 |false=>none
def rD (base:Nat) (rd:Nat→Option bi) (all:List Nat) (v:AV):Option AV:=
 let frzO (v:AV):Option AV:=match (eX v).all (fun b=>Xjb b base) with|true=>some v|false=>YE base rd v
 match v with
 | .ref b ver 0 n=>match rd b with
  |some B=>match Ξ base b && Xqo B.ver ver && !B.fro && B.pr && Xqo (gu all b) 1 && Xjb 0 B.esz with
   |true=>some (.own (B.cells.take (n*B.esz)) n B.esz)
   |false=>frzO v
  |none=>none
 |v=>frzO v
def af (f:Func):Code:=f.body.getD .skip
def nU (md:AV) (args:List AV) (h:List bi):St:=
 {env:=args.zipIdx.map fun (x,i)=>(i,x),hp:=h.zipIdx.map fun (B,i)=>(i,B),md,dfs:= []}
def agG:AV→Bool
 | .nilI=>true
 | .ifc _ _=>true
 |_=>false
def D9 (ap:AP) (H:dw):List (Nat × List AV)→AV→Hp→Cx→R (AV × Hp)
 | [],mode,hp,c=> .ok (mode,hp) c
 |(f,args)::r,mode,hp,c=>
  match agG mode && (eX mode).isEmpty with
  |false=> .bad 78
  |true=>
  (uf ap H (aG hp) (iC hp) mode f args c).bind fun q c=>
  match q.out with
  | .ret _=>D9 ap H r q.md (q.ups++hp) c
  | .pan _=> .bad 75
def Tv (rd:Nat→Option bi) (base:Nat):Nat:=(tC rd 20 (Xq2 base)).length
def vU (ap:AP) (base:Nat) (F:Func) (env:iO) (hp:Hp) (c:Cx):R (kC × List bi):=
 let rd:=aG hp
 let n:=Tv rd base
 match kP (yP ap env hp) F.results.toList,kP rd (Xq2 n) with
 |some vs,some h'=>
  match h'.all (fun B=>B.pr||(cO B.cells).all fun b=>Xjb b n) with
  |false=> .bad 76
  |true=>
  (Yz c (vs.flatMap fun (q:AV × List Bool)=>q.2)).bind fun _ c=>
  let all:=vs.flatMap fun (q:AV × List Bool)=>tC rd 6 (jq (eX q.1))
  match kP (rD n rd all) (vs.map fun (q:AV × List Bool)=>q.1) with
  |some [v]=> .ok (.ret v,h') c
  |some l=> .ok (.ret (.tup l),h') c
  |none=> .bad 70
 |_,_=> .bad 71
def Jp (base:Nat) (v:AV) (hp:Hp) (c:Cx):R (kC × List bi):=
 let n:=Tv (aG hp) base
 match rD n (aG hp) (tC (aG hp) 6 (jq (eX v))) v,kP (aG hp) (Xq2 n) with
 |some v,some h'=>
  match h'.all (fun B=>B.pr||(cO B.cells).all fun b=>Xjb b n) with
  |false=> .bad 77
  |true=> .ok (.pan v,h') c
 |_,_=> .bad 72
def BO (ap:AP) (H:dw) (base:Nat) (F:Func) (e:bK) (s:St) (c:Cx):R (kC × List bi × AV):=
 let go (mode:AV):R (kC × List bi × AV):=
  (D9 ap H s.dfs mode s.hp c).bind fun (mode,hp) c=>
  match mode with
  | .nilI=>(vU ap base F s.env hp c).bind fun (o,h) c=> .ok (o,h,s.md) c
  | .ifc t v=>(Jp base (.ifc t v) hp c).bind fun (o,h) c=> .ok (o,h,s.md) c
  |_=> .bad 74
 match e with
 | .normal| .ret=>go .nilI
 | .panic (.ifc t v)=>match (eX v).isEmpty with|true=>go (.ifc t v)|false=> .bad 79
 |_=> .bad 73
def Ur (ap:AP) (H:dw) (lf:Nat) (md:AV) (F:AF) (args:List AV) (h:List bi) (c:Cx):R (kC × List bi × AV):=
 match af F.fn with
 | .seq (.region _ ops false) rest=>
  match ops.toList with
  | o ::r=>
   match o.op,o.guard,o.dst with
   | .call {callee:= .builtin .recover,..},none,some d=>
    let s0:=nU .dead args h
    (sF ap H (o::r) r (iC s0.hp) {env:=(d,md)::s0.env,hp:=s0.hp,md:= .dead,dfs:= [],dec:= [],feet:= []} c).bind fun (s,p) c=>
    match p with
    |some _=> .bad 81
    | none=>(lq ap H h.length F.keep lf rest (norm h.length F.keep ⟨s.env,s.hp,s.md,s.dfs⟩) c).bind fun (e,s) c=>
     match s.dfs with
     |_::_=> .bad 82
     | []=>match e with
      | .normal| .ret=>(vU ap h.length F.fn s.env s.hp c).bind fun (o,h) c=> .ok (o,h,.nilI) c
      |_=> .bad 83
   |_,_,_=> .bad 84
  | []=> .bad 85
 |_=> .bad 86
def t_ (ap:AP) (H:dw) (lf:Nat) (md:AV) (f:Nat) (args:List AV) (h:List bi) (c:Cx):R (kC × List bi × AV):=
 match ap.fnAt f with
 |none=> .bad 80
 |some F=>match md with
  | .dead=>(lq ap H h.length F.keep lf (af F.fn) (nU .dead args h) c).bind fun (e,s) c=>BO ap H h.length F.fn e s c
  |md=>match agG md && (eX md).isEmpty with|true=>Ur ap H lf md F args h c|false=> .bad 87
theorem wZ {S:aU}:∀ {l:List AV} {vs:List Value},dD S l vs→l.length=vs.length
 | [],[],_=>rfl
 |_::_,_::_,h=>by simp only [dD] at h;simp [wZ h.2]
 | [],_::_,h=>by simp [dD] at h
 |_::_,[],h=>by simp [dD] at h
theorem dm {g:dM} {m:a_} {S:aU}:∀ {l:List AV} {vs:List Value},bD g m S l vs→l.length=vs.length
 | [],[],_=>rfl
 |_::_,_::_,h=>by simp only [bD] at h;simp [dm h.2]
 | [],_::_,h=>by simp [bD] at h
 |_::_,[],h=>by simp [bD] at h
theorem O5 {S:aU}:∀ {l:List AV} {vs:List Value} (_:dD S l vs) (i:Nat) {x:AV},l[i]? =some x→∃ v,vs[i]? =some v∧PR S x v
 | [],[],_,i,x,hx=>by simp at hx
 |a::l,v::vs,h,0,x,hx=>by simp only [dD] at h;simp at hx;subst hx;exact ⟨v,rfl,h.1⟩
 |a::l,v::vs,h,i+1,x,hx=>by simp only [dD] at h;simp at hx;simpa using O5 h.2 i hx
 | [],_::_,h,_,_,_=>by simp [dD] at h
 |_::_,[],h,_,_,_=>by simp [dD] at h
theorem qU {g:dM} {m:a_} {S:aU}:∀ {l:List AV} {vs:List Value} (_:bD g m S l vs) (i:Nat) {x:AV},l[i]? =some x→∃ v,vs[i]? =some v∧VR g m S x v
 | [],[],_,i,x,hx=>by simp at hx
 |a::l,v::vs,h,0,x,hx=>by simp only [bD] at h;simp at hx;subst hx;exact ⟨v,rfl,h.1⟩
 |a::l,v::vs,h,i+1,x,hx=>by simp only [bD] at h;simp at hx;simpa using qU h.2 i hx
 | [],_::_,h,_,_,_=>by simp [bD] at h
 |_::_,[],h,_,_,_=>by simp [bD] at h
theorem lC {S:aU}:∀ {l l':List AV} {vs vs':List Value},dD S l vs→dD S l' vs'→dD S (l++l') (vs++vs')
 | [],_,[],_,_,h'=>by simpa using h'
 |_::_,_,_::_,_,h,h'=>by simp only [dD] at h;simp only [Xq1,dD];exact ⟨h.1,lC h.2 h'⟩
 | [],_,_::_,_,h,_=>by simp [dD] at h
 |_::_,_,[],_,h,_=>by simp [dD] at h
theorem iy {g:dM} {m:a_} {S:aU}:∀ {l l':List AV} {vs vs':List Value},bD g m S l vs→bD g m S l' vs'→bD g m S (l++l') (vs++vs')
 | [],_,[],_,_,h'=>by simpa using h'
 |_::_,_,_::_,_,h,h'=>by simp only [bD] at h;simp only [Xq1,bD];exact ⟨h.1,iy h.2 h'⟩
 | [],_,_::_,_,h,_=>by simp [bD] at h
 |_::_,_,[],_,h,_=>by simp [bD] at h
theorem kR {S:aU}:∀ (n:Nat) {l:List AV} {vs:List Value},dD S l vs→dD S (l.take n) (vs.take n)
 |0,_,_,_=>by simp [dD]
 |n+1,[],[],_=>by simp [dD]
 |n+1,_::_,_::_,h=>by simp only [dD] at h;simp only [Xx1,dD];exact ⟨h.1,kR n h.2⟩
 |_+1,[],_::_,h=>by simp [dD] at h
 |_+1,_::_,[],h=>by simp [dD] at h
theorem qi {S:aU}:∀ (n:Nat) {l:List AV} {vs:List Value},dD S l vs→dD S (l.drop n) (vs.drop n)
 |0,_,_,h=>by simpa using h
 |n+1,[],[],_=>by simp [dD]
 |n+1,_::_,_::_,h=>by simp only [dD] at h;simpa using qi n h.2
 |_+1,[],_::_,h=>by simp [dD] at h
 |_+1,_::_,[],h=>by simp [dD] at h
theorem ql {g:dM} {m:a_} {S:aU}:∀ (n:Nat) {l:List AV} {vs:List Value},bD g m S l vs→bD g m S (l.take n) (vs.take n)
 |0,_,_,_=>by simp [bD]
 |n+1,[],[],_=>by simp [bD]
 |n+1,_::_,_::_,h=>by simp only [bD] at h;simp only [Xx1,bD];exact ⟨h.1,ql n h.2⟩
 |_+1,[],_::_,h=>by simp [bD] at h
 |_+1,_::_,[],h=>by simp [bD] at h
theorem tX {g:dM} {m:a_} {S:aU}:∀ (n:Nat) {l:List AV} {vs:List Value},bD g m S l vs→bD g m S (l.drop n) (vs.drop n)
 |0,_,_,h=>by simpa using h
 |n+1,[],[],_=>by simp [bD]
 |n+1,_::_,_::_,h=>by simp only [bD] at h;simpa using tX n h.2
 |_+1,[],_::_,h=>by simp [bD] at h
 |_+1,_::_,[],h=>by simp [bD] at h
theorem kT.mono {S S':aU} (h:mY S S') {b o:Nat} {vs:List Value} (hs:kT S b o vs):kT S' b o vs:=fun j u a=> ⟨h _ _ _ (hs j u a).1,(hs j u a).2⟩
mutual
theorem dH {S S':aU} (h:mY S S'):∀ (x:AV) {v:Value},PR S x v→PR S' x v
 | .int _ _,_,p=>by simpa only [PR] using p
 | .bool _,_,p=>by simpa only [PR] using p
 | .str _,_,p=>by simpa only [PR] using p
 | .nilS,_,p=>by simpa only [PR] using p
 | .nilP,_,p=>by simpa only [PR] using p
 | .nilF,_,p=>by simpa only [PR] using p
 | .nilI,_,p=>by simpa only [PR] using p
 | .dead,_,_=>by simp only [PR]
 | .agg l,_,p=>by
  simp only [PR] at p ⊢;obtain ⟨vs,e,q⟩:=p;exact ⟨vs,e,bM h l q⟩
 | .tup l,_,p=>by
  simp only [PR] at p ⊢;obtain ⟨vs,e,q⟩:=p;exact ⟨vs,e,bM h l q⟩
 | .sl xs n nn,_,p=>by
  simp only [PR] at p ⊢;obtain ⟨a,i,e,d,q⟩:=p;refine ⟨a,i,e,d, ?_⟩;rcases q with q|⟨b,o,vs,C,q,hs⟩
  ·exact .inl q
  ·exact .inr ⟨b,o,vs,C,bM h xs q,hs.mono h⟩
 | .pp xs off,_,p=>by
  simp only [PR] at p ⊢;obtain ⟨b,o,vs,e,q,hs⟩:=p;exact ⟨b,o,vs,e,bM h xs q,hs.mono h⟩
 | .mp ks vs,_,p=>by
  simp only [PR] at p ⊢;rcases p with p|⟨b,y,z,e,h0,A,s,k⟩
  ·exact .inl p
  ·exact .inr ⟨b,y,z,e,h _ _ _ h0,h _ _ _ A,bM h ks s,bM h vs k⟩
 | .fn f a c,_,p=>by
  simp only [PR] at p ⊢;obtain ⟨B,j,e,q,r⟩:=p;exact ⟨B,j,e,bM h a q,bM h c r⟩
 | .ifc t x,_,p=>by
  simp only [PR] at p ⊢;obtain ⟨u,e,q⟩:=p;exact ⟨u,e,dH h x q⟩
 | .ref _ _ _ _,_,p=>by simp only [PR] at p
 | .ptr _ _ _,_,p=>by simp only [PR] at p
 | .mr _ _,_,p=>by simp only [PR] at p
 | .own _ _ _,_,p=>by simp only [PR] at p
theorem bM {S S':aU} (h:mY S S'):∀ (l:List AV) {vs:List Value},dD S l vs→dD S' l vs
 | [],[],_=>by simp only [dD]
 |x::r,v::vs,p=>by simp only [dD] at p ⊢;exact ⟨dH h x p.1,bM h r p.2⟩
 | [],_::_,p=>by simp [dD] at p
 |_::_,[],p=>by simp [dD] at p
end
mutual
theorem iH {g:dM} {m:a_} {S:aU}:∀ (x:AV) {v:Value},PR S x v→VR g m S x v
 | .int _ _,_,p=>by simpa only [VR] using p
 | .bool _,_,p=>by simpa only [VR] using p
 | .str _,_,p=>by simpa only [VR] using p
 | .nilS,_,p=>by simpa only [VR] using p
 | .nilP,_,p=>by simpa only [VR] using p
 | .nilF,_,p=>by simpa only [VR] using p
 | .nilI,_,p=>by simpa only [VR] using p
 | .sl _ _ _,_,p=>by simpa only [VR] using p
 | .pp _ _,_,p=>by simpa only [VR] using p
 | .mp _ _,_,p=>by simpa only [VR] using p
 | .dead,_,_=>by simp only [VR]
 | .agg l,_,p=>by
  simp only [PR] at p;simp only [VR];obtain ⟨vs,e,q⟩:=p;exact ⟨vs,e,bY l q⟩
 | .tup l,_,p=>by
  simp only [PR] at p;simp only [VR];obtain ⟨vs,e,q⟩:=p;exact ⟨vs,e,bY l q⟩
 | .fn f a c,_,p=>by
  simp only [PR] at p;simp only [VR];obtain ⟨d,b,e,q,r⟩:=p;exact ⟨d,b,e,bY a q,bY c r⟩
 | .ifc t x,_,p=>by
  simp only [PR] at p;simp only [VR];obtain ⟨u,e,q⟩:=p;exact ⟨u,e,iH x q⟩
 | .ref _ _ _ _,_,p=>by simp only [PR] at p
 | .ptr _ _ _,_,p=>by simp only [PR] at p
 | .mr _ _,_,p=>by simp only [PR] at p
 | .own _ _ _,_,p=>by simp only [PR] at p
theorem bY {g:dM} {m:a_} {S:aU}:∀ (l:List AV) {vs:List Value},dD S l vs→bD g m S l vs
 | [],[],_=>by simp only [bD]
 |x::r,v::vs,p=>by simp only [dD] at p;simp only [bD];exact ⟨iH x p.1,bY r p.2⟩
 | [],_::_,p=>by simp [dD] at p
 |_::_,[],p=>by simp [dD] at p
end
def sN (g:dM) (m:a_) (g':dM) (m':a_) (ρ:Nat→Nat→Option (Nat × Nat)):Prop:=
 ∀ b ver b' ver',ρ b ver=some (b',ver')→∀ B,g b=some B→ver≤B.ver→
  ∃ B',g' b'=some B'∧ver'≤B'.ver∧(B'.ver=ver'→B.ver=ver∧m' b'=m b∧B'.esz=B.esz)
mutual
theorem zo {g g':dM} {m G:a_} {S S':aU} {ρ:Nat→Nat→Option (Nat × Nat)} (j:mY S S') (h:sN g m g' G ρ):∀ (x:AV) {v:Value},VR g m S x v→VR g' G S' (ren ρ x) v
 | .int k n,_,p=>by simp only [VR] at p;simp only [ren,VR];exact dH j _ p
 | .bool _,_,p=>by simp only [VR] at p;simp only [ren,VR];exact dH j _ p
 | .str _,_,p=>by simp only [VR] at p;simp only [ren,VR];exact dH j _ p
 | .nilS,_,p=>by simp only [VR] at p;simp only [ren,VR];exact dH j _ p
 | .nilP,_,p=>by simp only [VR] at p;simp only [ren,VR];exact dH j _ p
 | .nilF,_,p=>by simp only [VR] at p;simp only [ren,VR];exact dH j _ p
 | .nilI,_,p=>by simp only [VR] at p;simp only [ren,VR];exact dH j _ p
 | .sl _ _ _,_,p=>by simp only [VR] at p;simp only [ren,VR];exact dH j _ p
 | .pp _ _,_,p=>by simp only [VR] at p;simp only [ren,VR];exact dH j _ p
 | .mp _ _,_,p=>by simp only [VR] at p;simp only [ren,VR];exact dH j _ p
 | .dead,_,_=>by simp only [ren,VR]
 | .own _ _ _,_,p=>by simp only [VR] at p
 | .agg l,_,p=>by
  simp only [VR] at p;simp only [ren,VR];obtain ⟨vs,e,q⟩:=p;exact ⟨vs,e,kU j h l q⟩
 | .tup l,_,p=>by
  simp only [VR] at p;simp only [ren,VR];obtain ⟨vs,e,q⟩:=p;exact ⟨vs,e,kU j h l q⟩
 | .fn f a c,_,p=>by
  simp only [VR] at p;simp only [ren,VR];obtain ⟨I,H,e,q,r⟩:=p;exact ⟨I,H,e,kU j h a q,kU j h c r⟩
 | .ifc t x,_,p=>by
  simp only [VR] at p;simp only [ren,VR];obtain ⟨u,e,q⟩:=p;exact ⟨u,e,zo j h x q⟩
 | .ref b ver i n,_,p=>by
  simp only [VR] at p;simp only [ren];obtain ⟨B,D,E,o,q⟩:=p;cases hρ:ρ b ver with
  |none=>simp only [VR]
  |some bv=>
   obtain ⟨A,d⟩:=bv;obtain ⟨B',s,y,F⟩:=h b ver A d hρ B D E;simp only [VR];refine ⟨B',s,y,o,fun e=> ?_⟩;obtain ⟨z,C,J⟩:=F e;rw [C,J];exact q z
 | .ptr b ver off,_,p=>by
  simp only [VR] at p;simp only [ren];obtain ⟨B,D,E,o,q⟩:=p;cases hρ:ρ b ver with
  |none=>simp only [VR]
  |some bv=>
   obtain ⟨A,d⟩:=bv;obtain ⟨B',s,y,F⟩:=h b ver A d hρ B D E;simp only [VR];refine ⟨B',s,y,o,fun e=> ?_⟩;obtain ⟨z,C,_⟩:=F e;rw [C];exact q z
 | .mr b ver,_,p=>by
  simp only [VR] at p;simp only [ren];obtain ⟨B,D,E,o,q⟩:=p;cases hρ:ρ b ver with
  |none=>simp only [VR]
  |some bv=>
   obtain ⟨A,d⟩:=bv;obtain ⟨B',s,y,F⟩:=h b ver A d hρ B D E;simp only [VR];refine ⟨B',s,y,o,fun e=> ?_⟩;obtain ⟨z,C,_⟩:=F e;rw [C];exact q z
theorem kU {g g':dM} {m b:a_} {S S':aU} {ρ:Nat→Nat→Option (Nat × Nat)} (a:mY S S') (h:sN g m g' b ρ):∀ (l:List AV) {vs:List Value},bD g m S l vs→bD g' b S' (mG ρ l) vs
 | [],[],_=>by simp only [mG,bD]
 |x::r,v::vs,p=>by simp only [bD] at p;simp only [mG,bD];exact ⟨zo a h x p.1,kU a h r p.2⟩
 | [],_::_,p=>by simp [bD] at p
 |_::_,[],p=>by simp [bD] at p
end
def Ge (g:dM) (m:a_) (g':dM) (m':a_):Prop:=
 ∀ b B,g b=some B→∃ B',g' b=some B'∧B'.esz=B.esz∧((B'.ver=B.ver∧m' b=m b)∨B.ver<B'.ver)
theorem Ge.refl (g:dM) (m:a_):Ge g m g m:=fun _ B h=> ⟨B,h,rfl,.inl ⟨rfl,rfl⟩⟩
theorem Ge.trans {g g' f:dM} {m k i:a_} (h:Ge g m g' k) (p:Ge g' k f i):Ge g m f i:=by
 intro b B q;obtain ⟨B',j,e,c⟩:=h b B q;obtain ⟨B'',a,e',n⟩:=p b B' j;refine ⟨B'',a,e'.trans e, ?_⟩;rcases c with ⟨l,o⟩|c<;>rcases n with ⟨s,r⟩|d
 ·exact .inl ⟨s.trans l,r.trans o⟩
 ·exact .inr (by omega)
 ·exact .inr (by omega)
 ·exact .inr (by omega)
mutual
theorem oM {g g':dM} {m E:a_} {S S':aU} (o:mY S S') (h:Ge g m g' E):∀ (x:AV) {v:Value},VR g m S x v→VR g' E S' x v
 | .int k n,_,p=>by simp only [VR] at p ⊢;exact dH o _ p
 | .bool _,_,p=>by simp only [VR] at p ⊢;exact dH o _ p
 | .str _,_,p=>by simp only [VR] at p ⊢;exact dH o _ p
 | .nilS,_,p=>by simp only [VR] at p ⊢;exact dH o _ p
 | .nilP,_,p=>by simp only [VR] at p ⊢;exact dH o _ p
 | .nilF,_,p=>by simp only [VR] at p ⊢;exact dH o _ p
 | .nilI,_,p=>by simp only [VR] at p ⊢;exact dH o _ p
 | .sl _ _ _,_,p=>by simp only [VR] at p ⊢;exact dH o _ p
 | .pp _ _,_,p=>by simp only [VR] at p ⊢;exact dH o _ p
 | .mp _ _,_,p=>by simp only [VR] at p ⊢;exact dH o _ p
 | .dead,_,_=>by simp only [VR]
 | .own _ _ _,_,p=>by simp only [VR] at p
 | .agg l,_,p=>by
  simp only [VR] at p ⊢;obtain ⟨vs,e,q⟩:=p;exact ⟨vs,e,lW o h l q⟩
 | .tup l,_,p=>by
  simp only [VR] at p ⊢;obtain ⟨vs,e,q⟩:=p;exact ⟨vs,e,lW o h l q⟩
 | .fn f a c,_,p=>by
  simp only [VR] at p ⊢;obtain ⟨G,F,e,q,r⟩:=p;exact ⟨G,F,e,lW o h a q,lW o h c r⟩
 | .ifc t x,_,p=>by
  simp only [VR] at p ⊢;obtain ⟨u,e,q⟩:=p;exact ⟨u,e,oM o h x q⟩
 | .ref b ver i n,_,p=>by
  simp only [VR] at p ⊢;obtain ⟨B,y,D,d,q⟩:=p;obtain ⟨B',j,A,z⟩:=h b B y;rcases z with ⟨C,s⟩|c
  ·refine ⟨B',j,by omega,d,fun e=> ?_⟩;rw [s,A];exact q (by omega)
  ·exact ⟨B',j,by omega,d,fun e=>by omega⟩
 | .ptr b ver off,_,p=>by
  simp only [VR] at p ⊢;obtain ⟨B,y,D,d,q⟩:=p;obtain ⟨B',j,A,z⟩:=h b B y;rcases z with ⟨C,s⟩|c
  ·refine ⟨B',j,by omega,d,fun e=> ?_⟩;rw [s];exact q (by omega)
  ·exact ⟨B',j,by omega,d,fun e=>by omega⟩
 | .mr b ver,_,p=>by
  simp only [VR] at p ⊢;obtain ⟨B,y,D,d,q⟩:=p;obtain ⟨B',j,A,z⟩:=h b B y;rcases z with ⟨C,s⟩|c
  ·refine ⟨B',j,by omega,d,fun e=> ?_⟩;rw [s];exact q (by omega)
  ·exact ⟨B',j,by omega,d,fun e=>by omega⟩
theorem lW {g g':dM} {m b:a_} {S S':aU} (a:mY S S') (h:Ge g m g' b):∀ (l:List AV) {vs:List Value},bD g m S l vs→bD g' b S' l vs
 | [],[],_=>by simp only [bD]
 |x::r,v::vs,p=>by simp only [bD] at p ⊢;exact ⟨oM a h x p.1,lW a h r p.2⟩
 | [],_::_,p=>by simp [bD] at p
 |_::_,[],p=>by simp [bD] at p
end
def mi (ap:AP) (S:aU):Prop:=∀ k xs,(ap.gl[k]?).join=some xs→∃ vs,dD S xs vs∧kT S k 0 vs
structure iM (P:Program) (ap:AP):Prop where
 ty:∀ t ti,ap.tyAt t=some ti→Xk P t=some ti
def xF (es:Array MapEntry):Array Value:=#[.agg (es.map (·.key)),.agg (es.map (·.val))]
def jI (w:World) (k z:Nat) (cur:Array Value) (e:TypeId):Prop:=
 (z ≠ iU∧w.heap[k]? =some (.cells cur e (0,0)))∨(z=iU∧∃ es clk,w.heap[k]? =some (.map es clk)∧cur=xF es)
def dU (w:World) (k o:Nat):Option Value:=match w.heap[k]? with
 |some (.map es _)=>(xF es)[o]?
 |_=>match w.cell? ⟨k,o,none⟩ with|some v=>if v.oneCell' then some v else none|none=>none
theorem jI.of {w:World} {k z:Nat} {cur:Array Value} {e:TypeId} (a:z ≠ iU) (h:w.heap[k]? =some (.cells cur e (0,0))):jI w k z cur e:= .inl ⟨a,h⟩
theorem jI.cells {w:World} {k z:Nat} {cur:Array Value} {e:TypeId} (h:jI w k z cur e) (a:z ≠ iU):w.heap[k]? =some (.cells cur e (0,0)):=by
 rcases h with h|h
 ·exact h.2
 ·exact absurd h.1 a
theorem jI.map {w:World} {k z:Nat} {cur:Array Value} {e:TypeId} (h:jI w k z cur e) (a:z=iU):∃ es clk,w.heap[k]? =some (.map es clk)∧cur=xF es:=by
 rcases h with h|h
 ·exact absurd a h.1
 ·exact h.2
theorem jI.same {w w':World} {k z:Nat} {cur:Array Value} {e:TypeId} (h:jI w k z cur e) (a:w'.heap[k]? =w.heap[k]?):jI w' k z cur e:=by
 unfold jI;rw [a];exact h
theorem jI.lt {w:World} {k z:Nat} {cur:Array Value} {e:TypeId} (h:jI w k z cur e):k<w.heap.size:=by
 rcases h with ⟨_,h⟩|⟨_,b,a,h,_⟩<;>exact (Array.getElem?_eq_some_iff.1 h).1
theorem Nr {w w':World} {k o:Nat} (b:w'.heap[k]? =w.heap[k]?):dU w' k o=dU w k o:=by
 unfold dU;rw [b,World.cell?_of_block (w:=w) (a:=⟨k,o,none⟩) b]
theorem vG {w:World} {k o:Nat} {v:Value} (h:dU w k o=some v) (a:v.oneCell'=true):w.cell? ⟨k,o,none⟩=some v:=by
 unfold dU at h;split at h
 ·rename_i d b e;exfalso;unfold xF at h;rcases (show o=0∨o=1∨2≤o by omega) with rfl|rfl|ho
  ·cases h;cases a
  ·cases h;cases a
  ·rw [Array.getElem?_eq_none (by simpa using ho)] at h;cases h
 ·split at h
  ·rename_i f c;split at h
   ·cases h;exact c
   ·cases h
  ·cases h
theorem Dc {w:World} {k o:Nat} {v:Value} (h:w.cell? ⟨k,o,none⟩=some v) (c:v.oneCell'=true):dU w k o=some v:=by
 unfold dU;split
 ·rename_i d b a;unfold World.cell? at h;simp only [a] at h;cases h
 ·rw [h];simp only;rw [if_pos c]
theorem vF {w:World} {k o:Nat} {v:Value} (h:dU w k o=some v) (e:v.oneCell'=false):∃ b a,w.heap[k]? =some (.map b a)∧(xF b)[o]? =some v:=by
 unfold dU at h;split at h
 ·rename_i b a d;exact ⟨b,a,d,h⟩
 ·split at h
  ·split at h
   ·rename_i c;cases h;rw [e] at c;cases c
   ·cases h
  ·cases h
theorem J_ {w:World} {k o:Nat} {v:Value} (h:dU w k o=some v):k<w.heap.size:=by
 cases a:v.oneCell' with
 |true=>exact World.block_lt_of_cell? w _ (vG h a)
 |false=>
  obtain ⟨_,_,b,_⟩:=vF h a;exact (Array.getElem?_eq_some_iff.1 b).1
structure QP (g:dM) (m:a_) (S:aU) (w:World) (B:bi) (k c:Nat):Prop where
 lies:∃ cur e vs rest,jI w k B.esz cur e∧cur.toList=vs++rest∧(B.pr=true→dD S B.cells vs)∧bD g m S B.cells vs∧(B.esz ≠ iU→∀ u ∈ vs,u.oneCell'=true)∧(0<B.esz→B.esz ≠ iU→cur.size=c*B.esz∧c≤maxLen)
 fz0:B.fro=false→B.fz=0
 fzle:B.fz≤B.cells.length
structure cZ (ap:AP) (g:dM) (m:a_) (S:aU) (w:World):Prop where
 inj:∀ b b' B B',g b=some B→g b'=some B'→(m b).1=(m b').1→b=b'
 blk:∀ b B,g b=some B→QP g m S w B (m b).1 (m b).2
 sealed:∀ k o v,S k o=some v→dU w k o=some v
 own:∀ b B,g b=some B→∀ o v,S (m b).1 o=some v→B.fro=true∧o<B.fz
 glob:mi ap S
structure Fr (g:dM) (m:a_) (S:aU) (w:World) (g':dM) (m':a_) (S':aU) (w':World):Prop where
 ge:Ge g m g' m'
 sle:mY S S'
 os:w'.os=w.os
 tape:w'.tape=w.tape
 output:w'.output=w.output
 size:w.heap.size≤w'.heap.size
 rest:∀ k,k<w.heap.size→(∀ b B,g b=some B→(m b).1 ≠ k)→w'.heap[k]? =w.heap[k]?
 img:∀ b B,g' b=some B→w.heap.size≤(m' b).1∨(∃ B0,g b=some B0∧(m' b).1=(m b).1)
 sealN:∀ k o v,S' k o=some v→S k o=some v∨w.heap.size≤k∨∃ b B,g b=some B∧(m b).1=k
theorem Fr.refl (g:dM) (m:a_) (S:aU) (w:World):Fr g m S w g m S w:=
 ⟨Ge.refl g m,mY.refl S,rfl,rfl,rfl,Θ _,fun _ _ _=>rfl,fun _ B h=> .inr ⟨B,h,rfl⟩,fun _ _ _ h=> .inl h⟩
theorem Fr.trans {g g' j:dM} {m t n:a_} {S S' S'':aU} {w w' l:World} (h:Fr g m S w g' t S' w') (d:Fr g' t S' w' j n S'' l):Fr g m S w j n S'' l:=by
 refine ⟨h.ge.trans d.ge,h.sle.trans d.sle,d.os.trans h.os,d.tape.trans h.tape,d.output.trans h.output,Xxm h.size d.size, ?_, ?_, ?_⟩
 ·intro k s r;rw [d.rest k (Nat.lt_of_lt_of_le s h.size) ?_,h.rest k s r];intro b B i e;rcases h.img b B i with a|⟨B0,c,a⟩
  ·omega
  ·exact r b B0 c (a ▸ e)
 ·intro b B i;rcases d.img b B i with a|⟨B0,c,a⟩
  ·exact .inl (Xxm h.size a)
  ·rcases h.img b B0 c with q|⟨B1,p,q⟩
   ·exact .inl (a ▸ q)
   ·exact .inr ⟨B1,p,a.trans q⟩
 ·intro k o v u;rcases d.sealN k o v u with f|f|⟨b,B,i,f⟩
  ·exact h.sealN k o v f
  ·exact .inr (.inl (Xxm h.size f))
  ·rcases h.img b B i with a|⟨B0,c,a⟩
   ·exact .inr (.inl (f ▸ a))
   ·exact .inr (.inr ⟨b,B0,c,by rw [← f,a]⟩)
theorem cZ.lt {ap:AP} {g:dM} {m:a_} {S:aU} {w:World} (h:cZ ap g m S w) {b:Nat} {B:bi} (c:g b=some B):(m b).1<w.heap.size:=by
 obtain ⟨cur,e,vs,rest,a,_⟩:=(h.blk b B c).lies;exact a.lt
theorem cZ.one {ap:AP} {g:dM} {m:a_} {S:aU} {w:World} (h:cZ ap g m S w) {k o:Nat} {v:Value} (a:S k o=some v) (b:v.oneCell'=true):w.cell? ⟨k,o,none⟩=some v:=vG (h.sealed k o v a) b
theorem ug {w:World} {k j:Nat} {cur:Array Value} {e:TypeId} {a:Nat × Nat} (h:w.heap[k]? =some (.cells cur e a)):w.cell? ⟨k,j,none⟩=cur.toList[j]? :=by
 rw [cell_of_row w k j cur e a h];simp
theorem jI.get {w:World} {k z j:Nat} {cur:Array Value} {e:TypeId} {u:Value} (h:jI w k z cur e) (a:cur.toList[j]? =some u) (d:z ≠ iU→u.oneCell'=true):dU w k j=some u:=by
 rcases h with ⟨b,h⟩|⟨_,f,c,h,rfl⟩
 ·exact Dc (by rw [ug h];exact a) (d b)
 ·unfold dU;rw [h];simpa using a
theorem gy {a b:IntKind} (h:iZ a b=true):a=b:=by cases a<;>cases b<;>first|rfl|(exact absurd h (by decide))
theorem aO {a b:Nat} (h:Xqo a b=true):a=b:=Nat.eq_of_beq_eq_true h
theorem gG {a b:Nat} (h:Ξ a b=true):a≤b:=Nat.le_of_ble_eq_true h
theorem fU {a b:Nat} (h:Xjb a b=true):a<b:=by
 have:Ξ (a+1) b=true:=h;exact gG this
theorem abN {S:aU} {x:AV} {v:Value} (h:PR S x v) (a:nX x=true):v.oneCell'=true:=by
 cases x<;>simp only [PR] at h<;>first
  |(subst h;rfl)
  |(rcases h with ⟨rfl,_⟩|⟨_,_,_,rfl,_⟩<;>rfl)
  |(obtain ⟨_,_,_,rfl,_⟩:=h;rfl)
  |(obtain ⟨_,_,rfl,_⟩:=h;rfl)
  |(obtain ⟨_,rfl,_⟩:=h;first|rfl|exact absurd a (by simp [nX]))
  |(exact absurd a (by simp [nX]))
theorem MZ {g:dM} {m:a_} {S:aU} {x:AV} {v:Value} (h:VR g m S x v) (a:nX x=true):v.oneCell'=true:=by
 cases x<;>simp only [VR] at h<;>first
  | (exact abN h a)
    |(obtain ⟨_,_,_,⟨_,_,rfl⟩,_⟩:=h;rfl)
  |(obtain ⟨_,_,_,⟨_,_,_,rfl⟩,_⟩:=h;rfl)
  |(obtain ⟨_,_,rfl,_⟩:=h;rfl)
  |(obtain ⟨_,rfl,_⟩:=h;first|rfl|exact absurd a (by simp [nX]))
  |(exact absurd a (by simp [nX]))
end AM
namespace AM
open Go
structure BI (P:Program) (t:Nat) (ti:TI) (i:TypeInfo) (d:TypeDesc) (z:Value):Prop where
 info:P.info? t=some i
 und:P.underlying t=some d
 d_eq:ti.d=kw P (some d)
 size:ti.size=i.size
 bytes:ti.bytes=i.bytes
 zero:i.zero=some z
 zcells:ti.zero=z.cells.toList.map EE
 zleaf:∀ x ∈ ti.zero,nX x=true
 zsize:z.cells.size=i.size
 lks:ti.lks.length=i.size
 pos:0<i.size
 zagg:aeY i d=true
 fld:UX P d=true
 small:i.size<iU
theorem eQ {P:Program} {ap:AP} (e:iM P ap) {t:Nat} {c:TI} (h:ap.tyAt t=some c):∃ i d z,BI P t c i d z:=by
 have a:=e.ty t c h;unfold Xk at a;cases b:P.info? t with
 |none=>simp [b] at a
 | some i=>
  cases hd:P.underlying t with
  |none=>simp [b,hd] at a
  | some d=>
   simp only [b,hd] at a;split at a
   ·rename_i l;simp only [σ] at l;obtain ⟨⟨⟨⟨⟨⟨n,j⟩,p⟩,o⟩,s⟩,r⟩,q⟩:=l;cases f:i.zero with
    |none=>simp [f] at r
    | some z=>
     cases a;have k:FK i=z.cells.toList.map EE:=by simp [FK,f]
     refine ⟨i,d,z,b,hd,rfl,rfl,rfl,f,k, ?_, ?_,aO n,fU s,j.1,j.2,fU q⟩
     ·intro x u;exact List.all_eq_true.1 p x u
     ·have:=aO o;rw [k] at this;simpa using this
   ·cases a
theorem ig {P:Program} {d:TypeDesc} {e:Nat} (h:kw P (some d)= .slice e):d= .slice e:=by cases d<;>simp [kw] at h;subst h;rfl
theorem yY {P:Program} {d:TypeDesc} {n e:Nat} (h:kw P (some d)= .array n e):d= .array n e:=by cases d<;>simp [kw] at h;obtain ⟨rfl,rfl⟩:=h;rfl
theorem xP {P:Program} {d:TypeDesc} (h:kw P (some d)= .str):d= .string:=by cases d<;>simp [kw] at h;rfl
theorem Xi {P:Program} {d:TypeDesc} {k:IntKind} (h:kw P (some d)= .int k):d= .int k:=by cases d<;>simp [kw] at h;subst h;rfl
theorem aaz {P:Program} {d:TypeDesc} (h:kw P (some d)= .bool):d= .bool:=by cases d<;>simp [kw] at h;rfl
theorem vX {P:Program} {d:TypeDesc} {a:List (Nat × Nat × Nat)} (h:kw P (some d)= .struct a):
  ∃ fields:Array Field,d= .struct fields∧a=fields.toList.map fun f=>(f.offset,f.type,match P.info? f.type with|some i=>i.size|none=>0):=by
 cases d<;>simp [kw] at h
 exact ⟨_,rfl,h.symm⟩
theorem Fp {P:Program} (d:TypeDesc):I8 (kw P (some d))=d.isRow:=by cases d<;>simp [kw,I8,TypeDesc.isRow]
theorem Gt (S:aU) (v:Value):PR S (Jk v) v:=by
 cases v<;>simp only [Jk,PR]
 case pointer a=>cases a<;>simp only [PR]
 case map a=>
  cases a with
  |none=>simp [PR]
  |some _=>simp only [PR]
 case slice a n c=>
  split<;>simp only [PR]
theorem JV (S:aU) (v:Value):PR S (EE v) v:=by
 cases v<;>simp only [EE]<;>try exact Gt S _
 case agg cs=>
  simp only [PR];refine ⟨cs.toList,by simp, ?_⟩
  induction cs.toList with
  |nil=>simp [dD]
  |cons c r ih=>simp only [Xqf,dD];exact ⟨Gt S c,ih⟩
 case tuple vs=>
  split
  ·rename_i h;simp only [PR];exact ⟨[],by rw [← h],by simp [dD]⟩
  ·simp only [PR]
theorem wJ (S:aU):∀ l:List Value,dD S (l.map EE) l
 | []=>by simp [dD]
 |v::r=>by simp only [Xqf,dD];exact ⟨JV S v,wJ S r⟩
theorem abO {g:dM} {m:a_} {S:aU} {k:LK} {c:AV} {v:Value} (h:VR g m S c v) (f:chk k c=true):VR g m S (eta k c) v:=by
 cases k<;>cases c<;>simp [chk] at f<;>simp only [eta,AV.toInt,AV.toBool,AV.toStr,AV.slX,AV.slN]<;>try exact h
 ·rw [gy f];exact h
 ·simp only [VR,PR] at h ⊢;subst h;exact ⟨none,0,rfl,Θ _,.inl ⟨fun _=>trivial,trivial,trivial,rfl⟩⟩
 ·simp only [VR,PR] at h ⊢;obtain ⟨a,d,e,b,q⟩:=h;refine ⟨a,d,e,b, ?_⟩;rcases q with ⟨n,i,l,j⟩|q
  ·exact .inl ⟨fun _=>trivial,i,l,j⟩
  ·exact .inr q
theorem Ak {k:LK} {c:AV} (h:chk k c=true):c ≠ .dead:=by intro e;subst e;cases k<;>simp [chk] at h
theorem getD_some {a:List AV} {i:Nat} (h:a.getD i .dead ≠ .dead):a[i]? =some (a.getD i .dead):=by
 rw [ξ] at h ⊢;cases b:a[i]? with
 |none=>simp [b] at h
 |some x=>simp
theorem nS (b:List AV) (a:Nat):(b.drop a).headD .dead=b.getD a .dead:=by
 rw [Xwd,Xv1,ξ]
theorem SH (ty:Bool) (b:List AV) (a:Nat):yN ty [] b a= []:=rfl
theorem xJ (ty:Bool) (k:LK) (ks:List LK) (b:List AV) (a:Nat):yN ty (k::ks) b a=(match ty with|true=>eta k (b.getD a .dead)|false=>b.getD a .dead)::yN ty ks b (a+1):=by
 show _::Qp ty ks (b.drop a).tail=_::Qp ty ks (b.drop (a+1));rw [Xka];cases ty<;>simp only [nS]
theorem QW (ty:Bool) (k:LK) (ks:List LK) (b:List AV) (a:Nat):IA ty (k::ks) b a=(match ty with|true=>chk k (b.getD a .dead)|false=>chk .oth (b.getD a .dead))::IA ty ks b (a+1):=by
 show _::Uu ty ks (b.drop a).tail=_::Uu ty ks (b.drop (a+1));rw [Xka];cases ty<;>simp only [nS]
theorem pq {g:dM} {m:a_} {S:aU} (ty:Bool) {f:List AV} {vs:List Value} (l:bD g m S f vs):∀ (lks:List LK) (a:Nat),(∀ b ∈ IA ty lks f a,b=true)→
  ∃ e:List Value,e.length=lks.length∧(∀ j u,e[j]? =some u→vs[a+j]? =some u)∧bD g m S (yN ty lks f a) e:=by
 intro lks
 induction lks with
 |nil=>exact fun a _=> ⟨[],rfl,fun _ _ h=>by simp at h,by simp [SH,bD]⟩
 | cons k ks ih=>
  intro a h;simp only [QW,List.mem_cons,forall_eq_or_imp] at h;obtain ⟨e,o,n,p⟩:=ih (a+1) h.2;have key:∃ v,vs[a]? =some v∧VR g m S ((yN ty (k::ks) f a).headD .dead) v:=by
   rw [xJ];cases ty with
   |true=>
    obtain ⟨v,d,c⟩:=qU l a (getD_some (Ak h.1));exact ⟨v,d,abO c h.1⟩
   |false=>
    obtain ⟨v,d,c⟩:=qU l a (getD_some (Ak h.1));exact ⟨v,d,c⟩
  obtain ⟨v,d,c⟩:=key;rw [xJ] at c;refine ⟨v::e,by simp [o], ?_, ?_⟩
  ·intro j u i;cases j with
   |zero=>simp at i;subst i;simpa using d
   |succ j=>simp at i;rw [show a+(j+1)=a+1+j from by omega];exact n j u i
  ·simp only [xJ,bD];exact ⟨c,p⟩
theorem Em {P:Program} {w:World} {t:Nat} {l:TI} {i:TypeInfo} {d:TypeDesc} {z:Value} (f:BI P t l i d z) {g:dM} {m:a_} {S:aU} {cs:List AV} {e:List Value} {k a:Nat}
  (hl:e.length=l.lks.length) (hu:∀ j u,e[j]? =some u→w.cell? ⟨k,a+j,none⟩=some u) (hr:bD g m S cs e) {v:AV} (hv:qI l cs=some v):
  ∃ cv,(loadVar t ⟨k,a,none⟩).run P w= .ok cv w∧VR g m S v cv:=by
 unfold qI at hv;rw [f.d_eq,Fp] at hv;split at hv
 ·rename_i b;cases hv;refine ⟨.agg e.toArray,run_loadVar_mid w k a t e d hu f.und b (by simp [f.info,hl,f.lks]), ?_⟩;simp only [VR];exact ⟨e,rfl,hr⟩
 ·rename_i b;split at hv
  ·rename_i c;cases hv;cases e with
   |nil=>simp [bD] at hr
   | cons u r=>
    simp only [bD] at hr;refine ⟨u, ?_,hr.1⟩;have h:(isAgg t).run P w= .ok false w:=by
     unfold isAgg;rw [Sem.run_bind,run_underlying f.und w];cases d<;>simp_all [TypeDesc.isRow]
    have n:=hu 0 u rfl;simp only [Xq5] at n;simp [loadVar,h,n]
  ·cases hv
theorem bind_some {α β:Type} {x:Option α} {f:α→Option β} {b:β} (h:x.bind f=some b):∃ a,x=some a∧f a=some b:=by
 cases x with
 |none=>simp at h
 |some a=>exact ⟨a,rfl,h⟩
theorem aT {v b:AV} {bs a:List Bool} {ups:List (Nat × bi)} (h:bG v bs=some (b,ups,a)):b=v∧ups= []∧a=bs:=by
 unfold bG at h;cases h;exact ⟨rfl,rfl,rfl⟩
section
variable {P:Program} {ap:AP} {g:dM} {m:a_} {S:aU} {w:World}
theorem Az (K:cZ ap g m S w) {rd:dM} (G:∀ b B,rd b=some B→g b=some B) {t:Nat} {x:TI} {i:TypeInfo} {d:TypeDesc} {z:Value} (L:BI P t x i d z)
  {p v:AV} {cp:Value} (hp:VR g m S p cp) {ups:List (Nat × bi)} {bs:List Bool} (h:KU x rd p=some (v,ups,bs)) (hbs:∀ b ∈ bs,b=true):
  ups= []∧∃ cv,(Instr.loadAt t cp).run P w= .ok cv w∧VR g m S v cv:=by
 unfold KU at h;split at h
 ·rename_i T f;obtain ⟨O,l,h⟩:=bind_some h;obtain ⟨rfl,rfl,rfl⟩:=aT h;simp only [VR,PR] at hp;obtain ⟨b,o,vs,rfl,hp,hs⟩:=hp;obtain ⟨N,I,y,J⟩:=pq (g:=g) (m:=m) true (bY _ hp) x.lks f hbs;obtain ⟨cv,E,D⟩:=Em (w:=w) L (k:=b) (a:=o+f) I (fun j u C=>by
   have M:=hs (f+j) u (y j u C);have:=K.one M.1 M.2;rw [Xza];exact this) J l
  exact ⟨rfl,cv,by simpa [Instr.loadAt,Instr.sureAddr] using E,D⟩
 ·rename_i b ver f;obtain ⟨B,R,h⟩:=bind_some h;split at h
  ·rename_i c;obtain ⟨O,l,h⟩:=bind_some h;obtain ⟨rfl,rfl,rfl⟩:=aT h;simp only [VR] at hp;obtain ⟨B',s,_,_,q⟩:=hp;have r:=G b B R;rw [r] at s;cases s;simp only [σ,Xqm] at c;have A:B.esz ≠ iU:=fun e=>by rw [e] at c;exact absurd c.2 (by decide)
   have q:=q (aO c.1);subst q;obtain ⟨cur,e,vs,rest,F,Q,_,H,_⟩:=(K.blk b B r).lies;have F:=F.cells A;obtain ⟨N,I,y,J⟩:=pq _ H x.lks f hbs;obtain ⟨cv,E,D⟩:=Em (w:=w) L (k:=(m b).1) (a:=f) I (fun j u C=>by
    have n:=y j u C;rw [ug F,Q,List.getElem?_append_left (List.getElem?_eq_some_iff.1 n).1];exact n) J l
   exact ⟨rfl,cv,by simpa [Instr.loadAt,Instr.sureAddr] using E,D⟩
  ·cases h
 ·cases h
theorem EF {p f:AV} {d:Value} (hp:VR g m S p d) {o:Nat} (h:V6 p o=some f):∃ a:Addr,d= .pointer (some a)∧VR g m S f (.pointer (some (a.add o))):=by
 unfold V6 at h;split at h<;>cases h
 ·rename_i b ver c;simp only [VR] at hp;obtain ⟨B,j,n,⟨k,i,rfl⟩,q⟩:=hp;refine ⟨_,rfl, ?_⟩;simp only [VR];refine ⟨B,j,n,⟨k,i+o,by rw [Addr.add_mid]⟩,fun e=> ?_⟩;have q:=q e;simp only [Value.pointer.injEq,Option.some.injEq,Addr.mk.injEq] at q;obtain ⟨r,l,_⟩:=q;rw [Addr.add_mid,r,l]
 ·rename_i s c;simp only [VR,PR] at hp;obtain ⟨b,k,vs,rfl,hp,hs⟩:=hp;refine ⟨_,rfl, ?_⟩;simp only [VR,PR];exact ⟨b,k,vs,by rw [Addr.add_mid,Xza],hp,hs⟩
end
end AM
namespace AM
open Go
section
variable {P:Program} {ap:AP} {g:dM} {m:a_} {S:aU} {w:World}
theorem dB {b:Bool} {l:List Bool} (h:∀ x ∈ b::l,x=true):b=true∧∀ x ∈ l,x=true:=⟨h b (by simp),fun x a=>h x (by simp [a])⟩
theorem kL {t:Nat} {a:TI} {i:TypeInfo} {d:TypeDesc} {z:Value} (b:BI P t a i d z) (w:World):(Go.sizeOf t).run P w= .ok a.size w:=by
 simp [Go.sizeOf,typeInfo,b.info,b.size]
theorem Ar {x:AV} {a:Value} (b:VR g m S x a) {n:Int} (h:PW x=some n):∃ k,a= .int k n:=by
 cases x<;>simp [PW] at h
 subst h;simp only [VR,PR] at b;exact ⟨_,b⟩
theorem Bv {t:Nat} {n:TI} {i:TypeInfo} {d:TypeDesc} {z:Value} (q:BI P t n i d z) {u:List (Nat × Nat × Nat)} (hd:n.d= .struct u) {f o A s:Nat} (r:u[f]? =some (o,A,s)) (c:Xjb 0 s=true)
  {p v:AV} {cp:Value} (hp:VR g m S p cp) (k:V6 p o=some v):∃ cv,(Instr.fieldAt t cp f).run P w= .ok cv w∧VR g m S v cv:=by
 rw [q.d_eq] at hd;obtain ⟨fields,rfl,rfl⟩:=vX hd;simp only [Xqz,Xqs] at r;obtain ⟨x,h,l⟩:=r;simp only [Prod.mk.injEq] at l;obtain ⟨rfl,rfl,hs⟩:=l;obtain ⟨a,rfl,k⟩:=EF hp k;refine ⟨_, ?_,k⟩;have b:fields[f]? =some x:=by simpa using h
 cases e:P.info? x.type with
 |none=>rw [e] at hs;simp only at hs;subst hs;exact absurd (fU c) (by omega)
 |some j=>
  rw [e] at hs;have y:j.size ≠ 0:=by have:=fU c;simp only at hs;omega
  simp [Instr.fieldAt,run_underlying q.und,b,Instr.sureAddr,fieldPlace,Go.sizeOf,typeInfo,e,y]
theorem nZ {i:Int} {n:Nat} (h0:decide (0≤i)=true) (c:decide (i<n)=true):0≤i∧i<n∧i.toNat<n:=by
 have a:=of_decide_eq_true h0;have b:=of_decide_eq_true c;omega
theorem zG (s:iM P ap) {rd:dM} (G:∀ b B,rd b=some B→g b=some B) {t:Nat} {J:TI} {i:TypeInfo} {d:TypeDesc} {z:Value} (A:BI P t J i d z)
  {x ix v:AV} {cx ci:Value} (hx:VR g m S x cx) (hi:VR g m S ix ci) {ups:List (Nat × bi)} {bs:List Bool} (h:xB ap J rd x ix=some (v,ups,bs)) (hbs:∀ b ∈ bs,b=true):
  ups= []∧∃ cv,(Instr.indexAt t cx ci).run P w= .ok cv w∧VR g m S v cv:=by
 unfold xB at h;have l:=bind_some h;clear h;obtain ⟨n,L,h⟩:=l;obtain ⟨k,rfl⟩:=Ar hi L;split at h
 ·rename_i e hd;have l:=bind_some h;clear h;obtain ⟨F,c,h⟩:=l;obtain ⟨M,V,N,c⟩:=eQ s c;rw [A.d_eq] at hd;have hd:=ig hd;subst hd;split at h
  ·rename_i W u Z;obtain ⟨rfl,rfl,rfl⟩:=aT h;obtain ⟨r,f⟩:=dB hbs;obtain ⟨f,_⟩:=dB f;obtain ⟨h0,y,I⟩:=nZ r f;simp only [VR,PR] at hx;obtain ⟨a,T,rfl,O,q⟩:=hx;rcases q with ⟨_,_,q,_⟩|⟨b,o,vs,rfl,hp,hs⟩
   ·subst q;omega
   ·refine ⟨rfl,.pointer (some ⟨b,o+n.toNat*F.size,none⟩), ?_, ?_⟩
    ·simp [Instr.indexAt,asIntOf,run_underlying A.und,h0,y,kL c,Addr.add_mid]
    ·simp only [VR,PR];exact ⟨b,o,vs,rfl,hp,hs⟩
  ·rename_i b ver j u;have l:=bind_some h;clear h;obtain ⟨B,U,h⟩:=l;split at h
   ·rename_i D;simp only [σ] at D;obtain ⟨rfl,rfl,rfl⟩:=aT h;obtain ⟨r,f⟩:=dB hbs;obtain ⟨f,_⟩:=dB f;obtain ⟨h0,y,I⟩:=nZ r f;simp only [VR] at hx;obtain ⟨B',C,H,_,q⟩:=hx;have K:=G b B U;rw [K] at C;cases C;obtain ⟨o,rfl,X,Q,Y⟩:=q (aO D.1);have R:=Q (by omega);have E:=aO D.2;refine ⟨rfl,.pointer (some ⟨(m b).1,(j+n.toNat)*F.size,none⟩), ?_, ?_⟩
    ·rw [R,E];simp [Instr.indexAt,asIntOf,run_underlying A.und,h0,y,kL c,Addr.add_mid,Xxp]
    ·simp only [VR];exact ⟨B,K,by have:=aO D.1;omega,⟨_,_,rfl⟩,fun _=>trivial⟩
   ·cases h
  ·cases h
 ·rename_i u e hd;have l:=bind_some h;clear h;obtain ⟨F,c,h⟩:=l;obtain ⟨M,V,N,c⟩:=eQ s c;have l:=bind_some h;clear h;obtain ⟨p,hp,h⟩:=l;obtain ⟨rfl,rfl,rfl⟩:=aT h;rw [A.d_eq] at hd;have hd:=yY hd;subst hd;obtain ⟨r,f⟩:=dB hbs;obtain ⟨f,_⟩:=dB f;obtain ⟨h0,y,I⟩:=nZ r f;obtain ⟨a,rfl,H⟩:=EF hx hp;refine ⟨rfl,_, ?_,H⟩;simp [Instr.indexAt,asIntOf,run_underlying A.und,h0,y,kL c,Instr.sureAddr]
 ·cases h
theorem EJ {t:Nat} {k:TI} {i:TypeInfo} {d:TypeDesc} {z:Value} (l:BI P t k i d z) {vs b:List Value} {cs:List AV} {e:Nat}
  (hl:b.length=k.lks.length) (hu:∀ j u,b[j]? =some u→vs[e+j]? =some u) (hr:bD g m S cs b) {v:AV} (hv:qI k cs=some v):
  ∃ cv,(part t vs.toArray e).run P w= .ok cv w∧VR g m S v cv:=by
 have h:(isAgg t).run P w= .ok d.isRow w:=by
  unfold isAgg;rw [Sem.run_bind,run_underlying l.und w];cases d<;>simp [TypeDesc.isRow]
 unfold qI at hv;rw [l.d_eq,Fp] at hv;split at hv
 ·rename_i a;cases hv;have q:(vs.drop e).take k.size=b:=by
   apply List.ext_getElem?;intro j;rw [Xjp,Xj0];have p:k.size=b.length:=by rw [hl,l.lks,l.size]
   split
   ·rename_i o;have f:j<b.length:=by omega
    have:=hu j b[j] (π f);rw [this,π f]
   ·rename_i o;rw [List.getElem?_eq_none (by omega)]
  refine ⟨.agg b.toArray, ?_, ?_⟩
  ·simp [part,h,a,kL l,q]
  ·simp only [VR];exact ⟨b,rfl,hr⟩
 ·rename_i a;split at hv
  ·rename_i c;cases hv;cases b with
   |nil=>simp [bD] at hr
   |cons u r=>
    simp only [bD] at hr;refine ⟨u, ?_,hr.1⟩;have n:=hu 0 u rfl;simp only [Xq5] at n;have a:d.isRow=false:=by simpa using a
    simp [part,h,a,n]
  ·cases hv
theorem IQ (l:iM P ap) {t:Nat} {s:TI} {i:TypeInfo} {d:TypeDesc} {z:Value} (u:BI P t s i d z) {x v:AV} {y:Value} (j:VR g m S x y) {f:Nat} {ups:List (Nat × bi)} {bs:List Bool}
  (h:NS ap s x f=some (v,ups,bs)) (hbs:∀ b ∈ bs,b=true):ups= []∧∃ cv,(Instr.field t y f).run P w= .ok cv w∧VR g m S v cv:=by
 unfold NS at h;split at h
 ·rename_i K cs hd;have e:=bind_some h;clear h;obtain ⟨⟨o,L,I⟩,p,h⟩:=e;have e:=bind_some h;clear h;obtain ⟨tf,a,h⟩:=e;have e:=bind_some h;clear h;obtain ⟨J,n,h⟩:=e;obtain ⟨rfl,rfl,rfl⟩:=aT h;obtain ⟨F,M,G,a⟩:=eQ l a;rw [u.d_eq] at hd;obtain ⟨fields,rfl,rfl⟩:=vX hd;simp only [Xqz,Xqs] at p;obtain ⟨q,k,r⟩:=p;simp only [Prod.mk.injEq] at r;obtain ⟨rfl,rfl,hs⟩:=r;simp only [VR] at j;obtain ⟨vs,rfl,j⟩:=j;obtain ⟨H,D,A,E⟩:=pq false j tf.lks q.offset hbs;obtain ⟨cv,C,B⟩:=EJ (w:=w) a D A E n;have c:fields[f]? =some q:=by simpa using k
  refine ⟨rfl,cv, ?_,B⟩;simp [Instr.field,run_underlying u.und,c,asAgg,C]
 ·cases h
theorem U4 (s:List UInt8) (i:Nat) (h:i<s.length):(⟨s.toArray⟩:ByteArray)[i]? =some (s.getD i 0):=by
 have hs:i<(⟨s.toArray⟩:ByteArray).size:=by simpa [ByteArray.size] using h
 rw [getElem?_pos _ i hs];simp only [ByteArray.getElem_eq_getElem_data,List.getElem_toArray];rw [ξ,π h];rfl
theorem I5 (q:iM P ap) {t:Nat} {C:TI} {i:TypeInfo} {d:TypeDesc} {z:Value} (l:BI P t C i d z) {x D v:AV} {E ci:Value} (f:VR g m S x E) (I:VR g m S D ci) {ups:List (Nat × bi)} {bs:List Bool}
  (h:NV ap C x D=some (v,ups,bs)) (hbs:∀ b ∈ bs,b=true):ups= []∧∃ cv,(Instr.index t E ci).run P w= .ok cv w∧VR g m S v cv:=by
 unfold NV at h;have j:=bind_some h;clear h;obtain ⟨n,F,h⟩:=j;obtain ⟨k,rfl⟩:=Ar I F;split at h
 ·rename_i s hd;obtain ⟨rfl,rfl,rfl⟩:=aT h;obtain ⟨o,c⟩:=dB hbs;obtain ⟨c,_⟩:=dB c;obtain ⟨h0,B,A⟩:=nZ o c;rw [l.d_eq] at hd;have hd:=xP hd;subst hd;simp only [VR,PR] at f;subst f;refine ⟨rfl,.int .u8 (s.getD n.toNat 0).toNat, ?_,by simp only [VR,PR]⟩;simp [Instr.index,asIntOf,run_underlying l.und,h0,U4 s n.toNat A]
 ·rename_i H e cs hd;have j:=bind_some h;clear h;obtain ⟨y,a,h⟩:=j;have j:=bind_some h;clear h;obtain ⟨Q,u,h⟩:=j;obtain ⟨rfl,rfl,rfl⟩:=aT h;obtain ⟨M,R,N,a⟩:=eQ q a;obtain ⟨o,c⟩:=dB hbs;obtain ⟨c,J⟩:=dB c;obtain ⟨h0,B,A⟩:=nZ o c;rw [l.d_eq] at hd;have hd:=yY hd;subst hd;simp only [VR] at f;obtain ⟨vs,rfl,f⟩:=f;obtain ⟨O,K,G,L⟩:=pq true f y.lks (n.toNat*y.size) J;obtain ⟨cv,r,p⟩:=EJ (w:=w) a K G L u;refine ⟨rfl,cv, ?_,p⟩;simp [Instr.index,asIntOf,run_underlying l.und,h0,B,kL a,r]
 ·cases h
end
end AM
namespace AM
open Go
section
variable {P:Program} {ap:AP} {g:dM} {m:a_} {S:aU} {w:World}
def Cm (g:dM) (m:a_) (S:aU) (x:Option AV) (c:Option Value):Prop:=
 match x,c with
 |none,none=>True
 |some x,some c=>VR g m S x c
 |_,_=>False
theorem g_ {x:Option AV} {c:Option Value} (h:Cm g m S x c) {d n:Int} (a:og x d=some n):(x=none∧c=none∧n=d)∨∃ k,c=some (.int k n):=by
 cases x with
 |none=>cases c with
  |none=>simp [og] at a;exact .inl ⟨rfl,rfl,a.symm⟩
  |some c=>simp [Cm] at h
 | some x=>cases c with
  |none=>simp [Cm] at h
  |some c=>
   cases x<;>simp [og] at a
   subst a;simp only [Cm,VR,PR] at h;subst h;exact .inr ⟨_,rfl⟩
theorem rZ (P:Program) (w:World) (e:Bool) (b a:Nat) (f c:Option Value) (l h:Int)
  (hl:(f=none∧l=0)∨∃ k,f=some (.int k l)) (j:(c=none∧h=b)∨∃ k,c=some (.int k h)) (h0:0≤l) (h1:l≤h) (h2:h≤a):
  (Instr.sliceBounds e b a f c none).run P w= .ok (l.toNat,h.toNat,a) w:=by
 have i:0≤h:=by omega
 rcases hl with ⟨rfl,rfl⟩|⟨k,rfl⟩<;>rcases j with ⟨rfl,rfl⟩|⟨n,rfl⟩
 ·simp [Instr.sliceBounds]
 ·simp [Instr.sliceBounds,Instr.sliceBound,asIntOf,h2,i]
 ·have d:l≤(b:Int):=h1;simp [Instr.sliceBounds,Instr.sliceBound,asIntOf,h0,d]
 ·simp [Instr.sliceBounds,Instr.sliceBound,asIntOf,h0,h2,i];intro o;omega
theorem KC (s:List UInt8) (l h:Nat):(⟨s.toArray⟩:ByteArray).extract l h=⟨((s.take h).drop l).toArray⟩:=by
 apply ByteArray.ext;rw [ByteArray.data_extract];apply Array.ext';simp [List.extract_eq_take_drop,List.drop_take]
theorem yV (s:List UInt8):(⟨s.toArray⟩:ByteArray).size=s.length:=by simp [ByteArray.size]
theorem kT.drop {b o:Nat} {vs:List Value} (h:kT S b o vs) (n:Nat):kT S b (o+n) (vs.drop n):=by
 intro j u a;rw [Xj0] at a;rw [Xza];exact h _ _ a
theorem kT.take {b o:Nat} {vs:List Value} (h:kT S b o vs) (n:Nat):kT S b o (vs.take n):=by
 intro j u a;rw [Xjp] at a;split at a
 ·exact h _ _ a
 ·cases a
theorem abQ {a b c:Bool} (h:∀ x ∈ [a,b,c],x=true):a=true∧b=true∧c=true:=⟨h a (by simp),h b (by simp),h c (by simp)⟩
theorem F_ {α:Type} (a:List α) (n:Nat):(a.take n).drop n= []:=by
 apply Xzt;simp;omega
theorem JB (G:iM P ap) {rd:dM} (L:∀ b B,rd b=some B→g b=some B) {t:Nat} {Q:TI} {i:TypeInfo} {d:TypeDesc} {z:Value} (D:BI P t Q i d z)
  {x v:AV} {cx:Value} (hx:VR g m S x cx) {lo hi mx:Option AV} {clo chi cmx:Option Value} (hlo:Cm g m S lo clo) (hhi:Cm g m S hi chi) (hmx:Cm g m S mx cmx)
  {ups:List (Nat × bi)} {bs:List Bool} (h:OI ap Q rd x lo hi mx=some (v,ups,bs)) (hbs:∀ b ∈ bs,b=true):
  ups= []∧∃ cv,(Instr.sliceAt t cx clo chi cmx).run P w= .ok cv w∧VR g m S v cv:=by
 have k:mx=none→cmx=none:=by intro e;subst e;cases cmx<;>simp [Cm] at hmx ⊢
 unfold OI at h;split at h
 ·rename_i s hd;have f:=bind_some h;clear h;obtain ⟨l,H,h⟩:=f;have f:=bind_some h;clear h;obtain ⟨u,F,h⟩:=f;obtain ⟨rfl,rfl,rfl⟩:=aT h;obtain ⟨p,r,C⟩:=abQ hbs;have p:=of_decide_eq_true p;have r:=of_decide_eq_true r;have C:=of_decide_eq_true C;rw [D.d_eq] at hd;have hd:=xP hd;subst hd;simp only [VR,PR] at hx;subst hx;rw [k rfl];have E:=rZ P w false s.length s.length clo chi l u ((g_ hlo H).imp (fun h=> ⟨h.2.1,h.2.2⟩) id) ((g_ hhi F).imp (fun h=> ⟨h.2.1,h.2.2⟩) id) p r C;refine ⟨rfl,.string ⟨((s.take u.toNat).drop l.toNat).toArray⟩, ?_,by simp only [VR,PR]⟩;rw [← KC];simp [Instr.sliceAt,Instr.slice,run_underlying D.und,yV,E]
 ·rename_i e V n nn hd;have f:=bind_some h;clear h;obtain ⟨y,c,h⟩:=f;have f:=bind_some h;clear h;obtain ⟨l,H,h⟩:=f;have f:=bind_some h;clear h;obtain ⟨u,F,h⟩:=f;obtain ⟨rfl,rfl,rfl⟩:=aT h;obtain ⟨M,U,N,c⟩:=eQ G c;obtain ⟨p,r,C⟩:=abQ hbs;have p:=of_decide_eq_true p;have r:=of_decide_eq_true r;have C:=of_decide_eq_true C;rw [D.d_eq] at hd;have hd:=ig hd;subst hd;simp only [VR,PR] at hx;obtain ⟨a,A,rfl,W,q⟩:=hx;rw [k rfl];have E:=rZ P w true n A clo chi l u ((g_ hlo H).imp (fun h=> ⟨h.2.1,h.2.2⟩) id) ((g_ hhi F).imp (fun h=> ⟨h.2.1,h.2.2⟩) id) p r (by omega);refine ⟨rfl,.slice (if A=l.toNat then a else a.map (·.add (l.toNat*y.size))) (u.toNat - l.toNat) (A - l.toNat), ?_, ?_⟩
  ·simp [Instr.sliceAt,Instr.slice,run_underlying D.und,E,kL c]
  ·simp only [VR,PR];refine ⟨_,_,rfl,by omega, ?_⟩;rcases q with ⟨O,rfl,rfl,rfl⟩|⟨b,o,vs,rfl,hp,hs⟩
   ·refine .inl ⟨fun h=>O ?_,by simp,by omega,by omega⟩;split at h
    ·exact h
    ·simpa using h
   ·refine .inr ?_;by_cases I:A=l.toNat
    ·refine ⟨b,o,[],by rw [if_pos I], ?_,fun j u h=>by simp at h⟩;have e:(V.take (u.toNat*y.size)).drop (l.toNat*y.size)= []:=by
      have:u.toNat=l.toNat:=by omega
      rw [this,F_]
     rw [e];simp [dD]
    ·exact ⟨b,o+l.toNat*y.size,(vs.take (u.toNat*y.size)).drop (l.toNat*y.size),by rw [if_neg I];simp [Addr.add_mid],qi _ (kR _ hp),(hs.take _).drop _⟩
 ·rename_i e b ver j n hd;have f:=bind_some h;clear h;obtain ⟨y,c,h⟩:=f;have f:=bind_some h;clear h;obtain ⟨B,Z,h⟩:=f;have f:=bind_some h;clear h;obtain ⟨l,H,h⟩:=f;have f:=bind_some h;clear h;obtain ⟨u,F,h⟩:=f;split at h
  ·rename_i I;simp only [σ] at I;obtain ⟨rfl,rfl,rfl⟩:=aT h;obtain ⟨M,U,N,c⟩:=eQ G c;obtain ⟨p,r,C⟩:=abQ hbs;have p:=of_decide_eq_true p;have r:=of_decide_eq_true r;have C:=of_decide_eq_true C;rw [D.d_eq] at hd;have hd:=ig hd;subst hd;simp only [VR] at hx;obtain ⟨B',J,Y,_,q⟩:=hx;have T:=L b B Z;rw [T] at J;cases J;obtain ⟨o,rfl,O,X,R⟩:=q (aO I.1);have K:=aO I.2;rw [k rfl];have E:=rZ P w true n ((m b).2 - j) clo chi l u ((g_ hlo H).imp (fun h=> ⟨h.2.1,h.2.2⟩) id) ((g_ hhi F).imp (fun h=> ⟨h.2.1,h.2.2⟩) id) p r (by omega);refine ⟨rfl,.slice (if (m b).2 - j=l.toNat then some ⟨(m b).1,o,none⟩ else some ⟨(m b).1,o+l.toNat*y.size,none⟩) (u.toNat - l.toNat) ((m b).2 - j - l.toNat), ?_, ?_⟩
   ·simp [Instr.sliceAt,Instr.slice,run_underlying D.und,E,kL c,Addr.add_mid]
   ·simp only [VR];refine ⟨B,T,Y,(by split<;>exact ⟨_,_,_,rfl⟩),fun _=> ?_⟩;by_cases hcl:(m b).2 - j=l.toNat
    ·exact ⟨o,by rw [if_pos hcl];congr 1;omega,by omega,fun h=>by omega,R⟩
    ·refine ⟨o+l.toNat*y.size,by rw [if_neg hcl];congr 1;omega,by omega,fun h=> ?_,R⟩;rw [X (by omega),K,Xxp]
  ·cases h
 ·rename_i e hd;have f:=bind_some h;clear h;obtain ⟨y,c,h⟩:=f;have f:=bind_some h;clear h;obtain ⟨l,H,h⟩:=f;have f:=bind_some h;clear h;obtain ⟨u,F,h⟩:=f;obtain ⟨rfl,rfl,rfl⟩:=aT h;obtain ⟨M,U,N,c⟩:=eQ G c;have p:=of_decide_eq_true (hbs (decide (l=0)) (by simp));have r:=of_decide_eq_true (hbs (decide (u=0)) (by simp));subst p;subst r;rw [D.d_eq] at hd;have hd:=ig hd;subst hd;simp only [VR,PR] at hx;subst hx;rw [k rfl];have E:=rZ P w true 0 0 clo chi 0 0 ((g_ hlo H).imp (fun h=> ⟨h.2.1,h.2.2⟩) id) ((g_ hhi F).imp (fun h=> ⟨h.2.1,h.2.2⟩) id) (by omega) (by omega) (by omega);refine ⟨rfl,.slice none 0 0, ?_,by simp only [VR,PR]⟩;simp at E;simp [Instr.sliceAt,Instr.slice,run_underlying D.und,E,kL c]
 ·cases h
theorem Oa {x v:AV} {o:Value} (c:VR g m S x o) {t:Nat} {l:TI} {i:TypeInfo} {d:TypeDesc} {z:Value} (f:BI P t l i d z)
  {ups:List (Nat × bi)} {bs:List Bool} (h:Vw l.d x=some (v,ups,bs)) (ats:Array TypeId) (hat:ats[0]? =some t) (args:Array Value) (ha:args[0]? =some o) (ty:Nat):
  ups= []∧∃ cv,(Builtin.len_ ats ty args).run P w= .ok cv w∧VR g m S v cv:=by
 unfold Vw at h;rw [f.d_eq] at h;split at h
 ·rename_i n e hd;obtain ⟨rfl,rfl,rfl⟩:=aT h;have hd:=yY hd;subst hd;exact ⟨rfl,.int .i64 n,by simp [Builtin.len_,hat,ha,run_underlying f.und,goInt],by simp only [VR,PR]⟩
 ·rename_i s hd;obtain ⟨rfl,rfl,rfl⟩:=aT h;have hd:=xP hd;subst hd;simp only [VR,PR] at c;subst c;exact ⟨rfl,.int .i64 s.length,by simp [Builtin.len_,hat,ha,run_underlying f.und,goInt,yV],by simp only [VR,PR]⟩
 ·rename_i e p n q hd;obtain ⟨rfl,rfl,rfl⟩:=aT h;have hd:=ig hd;subst hd;simp only [VR,PR] at c;obtain ⟨a,k,rfl,_⟩:=c;exact ⟨rfl,.int .i64 n,by simp [Builtin.len_,hat,ha,run_underlying f.und,goInt],by simp only [VR,PR]⟩
 ·rename_i e b ver j n hd;obtain ⟨rfl,rfl,rfl⟩:=aT h;have hd:=ig hd;subst hd;simp only [VR] at c;obtain ⟨_,_,_,⟨_,_,k,rfl⟩,_⟩:=c;exact ⟨rfl,.int .i64 n,by simp [Builtin.len_,hat,ha,run_underlying f.und,goInt],by simp only [VR,PR]⟩
 ·rename_i e hd;obtain ⟨rfl,rfl,rfl⟩:=aT h;have hd:=ig hd;subst hd;simp only [VR,PR] at c;subst c;exact ⟨rfl,.int .i64 0,by simp [Builtin.len_,hat,ha,run_underlying f.und,goInt],by simp only [VR,PR]⟩
 ·cases h
theorem xQ (s:List UInt8):(⟨s.toArray⟩:ByteArray).toList=s:=by rw [ByteArray.toList_eq]
theorem yj:∀ a b:List UInt8,Op.bytesLess a b=iF a b
 |_,[]=>by simp [Op.bytesLess,iF]
 | [],_::_=>by simp [Op.bytesLess,iF]
 |a::x,b::y=>by simp only [Op.bytesLess,iF,yj x y]
def sS:LK→Value→Value→Option Bool
 | .int k,.int k1 a,.int k2 b=>match iZ k k1 && iZ k k2 with|true=>some (a==b)|false=>none
 | .bool,.bool a,.bool b=>some (a==b)
 | .str,.string a,.string b=>some (a.toList==b.toList)
 |_,_,_=>none
def d_:List LK→List Value→List Value→Option Bool
 | [],[],[]=>some true
 |k::ks,a::as,b::bs=>(sS k a b).bind fun c=>(d_ ks as bs).map fun d=>c && d
 |_,_,_=>none
theorem rf:∀ (l e:List LK) (i f:List Value) (r:Bool),d_ (l++e) i f=some r→
  ∃ a b,d_ l (i.take l.length) (f.take l.length)=some a∧d_ e (i.drop l.length) (f.drop l.length)=some b∧r=(a && b)
 | [],e,i,f,r,h=> ⟨true,r,by simp [d_],by simpa using h,by simp⟩
 |k::l,e,[],_,r,h=>by simp [d_] at h
 |k::l,e,_::_,[],r,h=>by simp [d_] at h
 |k::l,e,x::i,y::f,r,h=>by
  simp only [Xq1,d_] at h;obtain ⟨c,n,h⟩:=bind_some h;rw [Xqs] at h;obtain ⟨d,hd,rfl⟩:=h;obtain ⟨a,b,j,o,rfl⟩:=rf l e i f d hd;exact ⟨c && a,b,by simp [d_,n,j],by simpa using o,by simp [Bool.and_assoc]⟩
theorem pU:∀ (l:List LK) (b a:List Value) (r:Bool),d_ l b a=some r→b.length=l.length∧a.length=l.length
 | [],[],[],_,_=> ⟨rfl,rfl⟩
 |k::l,x::b,y::a,r,h=>by
  simp only [d_] at h;obtain ⟨c,_,h⟩:=bind_some h;rw [Xqs] at h;obtain ⟨d,hd,_⟩:=h;have:=pU l b a d hd;simp [this.1,this.2]
 | [],_::_,_,_,h=>by simp [d_] at h
 | [],[],_::_,_,h=>by simp [d_] at h
 |_::_,[],_,_,h=>by simp [d_] at h
 |_::_,_::_,[],_,h=>by simp [d_] at h
def u_ (P:Program) (t:TypeId) (xs:List Value):Value:=match P.underlying t with
 |some (.struct _)=> .agg xs.toArray
 |_=>xs.headD undef
def tJ (P:Program) (n:Nat) (t:TypeId) (lks:List LK):Prop:=
 ∀ (d:Nat) (w:World) (xs ys:List Value) (r:Bool),n≤d→d_ lks xs ys=some r→(Op.equalIn d t (u_ P t xs) (u_ P t ys)).run P w= .ok r w
theorem uS {t:TypeId} {lks:List LK} {n:Nat} (h:jK P n t=some lks) {i:TypeInfo} (j:P.info? t=some i) (hs:i.size=lks.length) (c:List Value) (a:Nat) (k:a+lks.length≤c.length) (w:World):
  (part t c.toArray a).run P w= .ok (u_ P t ((c.drop a).take lks.length)) w:=by
 cases n with
 |zero=>simp [jK] at h
 | succ n=>
  unfold jK at h;cases f:P.underlying t with
  |none=>simp [f] at h
  | some d=>
   have b:(isAgg t).run P w= .ok d.isRow w:=by
    unfold isAgg;rw [Sem.run_bind,run_underlying f w];cases d<;>simp [TypeDesc.isRow]
   cases d<;>simp only [f] at h<;>try cases h
   case struct fs=>
    simp only [TypeDesc.isRow] at b;simp [part,b,Go.sizeOf,typeInfo,j,hs,u_,f]
   all_goals
    simp only [TypeDesc.isRow] at b;simp only [ν,Δ,χ] at k;have o:c[a]? =some (c[a]'(by omega)):=π (by omega);simp only [part,Sem.run_bind,b,Result.andThen_ok,Bool.false_eq_true,if_false,u_,f];have e:((c.drop a).take [LK.str].length).headD undef=c[a]'(by omega):=by
     rw [Xwd,List.head?_take,Xv1,o];simp
    have l:(c.toArray)[a]? =some (c[a]'(by omega)):=by simp
    rw [l]
    first|exact congrArg (fun v=>Result.ok v w) e.symm|(simp only [ν,Δ] at e ⊢;exact congrArg (fun v=>Result.ok v w) e.symm)
theorem sW {n:Nat} (u:∀ t lks,jK P n t=some lks→tJ P n t lks):∀ (fs:List Field) (off:Nat) (lks:List LK),yu P (jK P n) fs off=some lks→
  ∀ (d:Nat) (w:World) (xs ys:List Value) (r:Bool),n≤d→xs.length=off+lks.length→ys.length=off+lks.length→d_ lks (xs.drop off) (ys.drop off)=some r→
   (Op.eqFields d xs.toArray ys.toArray fs).run P w= .ok r w
 | [],off,lks,hc,d,w,xs,ys,r,hd,hx,hy,h=>by
  simp [yu] at hc;subst hc;have D:xs.drop off= []:=Xzt (by simp at hx;omega);have x:ys.drop off= []:=Xzt (by simp at hy;omega);rw [D,x] at h;simp [d_] at h;subst h;simp [Op.eqFields]
 | f ::fs,off,lks,hc,d,w,xs,ys,r,hd,hx,hy,h=>by
  simp only [yu] at hc;cases j:jK P n f.type with
  |none=>simp [j] at hc
  | some l=>
   simp only [j] at hc;split at hc
   ·rename_i hcond;simp only [σ,Xqm] at hcond;obtain ⟨⟨s,o⟩,c⟩:=hcond;cases q:yu P (jK P n) fs (off+l.length) with
    |none=>simp [q] at hc
    | some l'=>
     simp only [q] at hc;cases hc;cases k:P.info? f.type with
     |none=>simp [k] at c
     |some i=>
      simp only [k] at c;have c:=aO c;have o:=aO o;have p:f.name ≠ "_" :=by intro e;rw [e] at s;exact absurd s (by decide)
      simp only [List.length_append] at hx hy;obtain ⟨a,b,B,C,rfl⟩:=rf l l' _ _ r h;have z:=uS j k c xs off (by omega) w;have y:=uS j k c ys off (by omega) w;have v:=u f.type l j d w _ _ a hd B;have A:=sW u fs (off+l.length) l' q d w xs ys b hd (by omega) (by omega) (by simpa [List.drop_drop,Nat.add_comm] using C);simp only [Op.eqFields,p,ne_eq,not_false_eq_true,if_true,Sem.run_bind,o,z,y,v,Result.andThen_ok];cases a
      ·simp
      ·simpa using A
   ·cases hc
theorem Dk : ∀ (n:Nat) (t:TypeId) (lks:List LK),jK P n t=some lks→tJ P n t lks
  |0,_,_,h=>by simp [jK] at h
  | n + 1,t,lks,h=>by
    intro d w p l r hd b;obtain ⟨d,rfl⟩:∃ k,d=k+1:=⟨d - 1,by omega⟩
    have j:=pU _ _ _ _ b;unfold jK at h;cases a:P.underlying t with
    |none=>simp [a] at h
    | some ds=>
      cases ds<;>simp only [a] at h<;>try cases h
      case struct fs=>
        split at h
        · cases h
        · rename_i q;have i:P.fieldsOf t=fs:=by simp [Program.fieldsOf,a]
          have e:=run_equalIn_struct (P:=P) w d t p.toArray l.toArray (by rw [i];exact a) q;simp only [u_,a];rw [e,i];exact sW (Dk n) fs.toList 0 lks h d w p l r (by omega) (by simp [j.1]) (by simp [j.2]) (by simpa using b)
      all_goals
        simp only [ν,Δ,χ] at j
        match p,l,j,b with
        | [x], [y],_,b=>
          simp only [d_,Option.map_some,Bool.and_true] at b;obtain ⟨c,f,b⟩:=bind_some b;cases b;simp only [u_,a,List.headD_cons];cases x<;>cases y<;>simp [sS] at f
          first
            | (split at f
               · rename_i o;simp only [σ] at o;obtain rfl:=gy o.1;obtain rfl:=gy o.2;cases f;exact run_equalIn_int (P:=P) w d t _ _ _ _ a
               · cases f)
            |(subst f;rw [run_equalIn_bool' (P:=P) w d t _ _ a])
            |(subst f;rw [run_equalIn_string (P:=P) w d t _ _ a])
end
end AM
namespace AM
open Go
section
variable {P:Program} {ap:AP} {g:dM} {m:a_} {S:aU} {w:World}
theorem aeU {d:TypeDesc} (h:kw P (some d)= .ptr):∃ e,d= .pointer e:=by cases d<;>simp [kw] at h;exact ⟨_,rfl⟩
theorem aaA {d:TypeDesc} (h:kw P (some d)= .func):∃ a b c,d= .func a b c:=by cases d<;>simp [kw] at h;exact ⟨_,_,_,rfl⟩
theorem Xh {d:TypeDesc} (h:kw P (some d)= .iface):∃ e,d= .interface e:=by cases d<;>simp [kw] at h;exact ⟨_,rfl⟩
theorem Y3 {a b:LK} (h:acX a b=true):a=b:=by
 cases a<;>cases b<;>simp [acX] at h
 ·rw [gy h]
 ·rfl
 ·rfl
theorem Ej:∀ {a b:List LK},Ha a b=true→a=b
 | [],[],_=>rfl
 |_::_,_::_,h=>by simp only [Ha,σ] at h;rw [Y3 h.1,Ej h.2]
 | [],_::_,h=>by simp [Ha] at h
 |_::_,[],h=>by simp [Ha] at h
theorem NI {k:LK} {a b:AV} {r:Bool} (h:NH k a b=some r) {x y:Value} (c:VR g m S a x) (d:VR g m S b y):sS k x y=some r:=by
 unfold NH at h;split at h
 ·simp only [VR,PR] at c d;subst c;subst d;split at h
  ·rename_i e;cases h;simp [sS,e]
  ·cases h
 ·simp only [VR,PR] at c d;subst c;subst d;simpa [sS] using h
 ·simp only [VR,PR] at c d;subst c;subst d;simpa [sS,xQ] using h
 ·cases h
theorem wO:∀ {ks:List LK} {i bs:List AV} {r:Bool} {f e:List Value},kW ks i bs=some r→bD g m S i f→bD g m S bs e→d_ ks f e=some r
 | [],[],[],r,f,e,h,ha,hb=>by
  cases f<;>cases e<;>simp [bD] at ha hb
  simpa [kW,d_] using h
 |k::ks,a::i,b::bs,r,x::f,y::e,h,ha,hb=>by
  simp only [kW] at h;obtain ⟨c,j,h⟩:=bind_some h;rw [Xqs] at h;obtain ⟨d,hd,rfl⟩:=h;simp only [bD] at ha hb;simp [d_,NI j ha.1 hb.1,wO hd ha.2 hb.2]
 | [],_::_,_,_,_,_,h,_,_=>by simp [kW] at h
 | [],[],_::_,_,_,_,h,_,_=>by simp [kW] at h
 |_::_,[],_,_,_,_,h,_,_=>by simp [kW] at h
 |_::_,_::_,[],_,_,_,h,_,_=>by simp [kW] at h
 |_::_,_::_,_::_,_,[],_,_,ha,_=>by simp [bD] at ha
 |_::_,_::_,_::_,_,_::_,[],_,_,hb=>by simp [bD] at hb
theorem yZ (c:iM P ap) {t:Nat} {b:TI} (h:ap.tyAt t=some b):b.cmp=Yc P t∧b.lks=He P 8 t:=by
 have a:=c.ty t b h;unfold Xk at a;split at a
 ·split at a
  ·cases a;exact ⟨rfl,rfl⟩
  ·cases a
 ·cases a
theorem kK (c:BinOp) (t:TypeId) (x y:Operand) (a b:Value) (e:¬ (a= .nilIface∧b= .nilIface)) (d:∀ xs ys,¬ (a= .agg xs∧b= .agg ys)):(eqGuard c t x y a b).run P w= .ok () w:=by
 unfold eqGuard;cases c<;>simp only [Sem.run_ite,Sem.run_pure]<;>try (simp;done)
 all_goals
  simp;split
  ·exact absurd ⟨rfl,rfl⟩ e
  ·exact absurd ⟨rfl,rfl⟩ (d _ _)
  ·rfl
def Qb (op:BinOp) (r:Bool):Bool:=match op with| .neq=> !r|_=>r
theorem vM {t:Nat} {a b:Value} {r:Bool} {x y:Operand} (c:∀ op,(eqGuard op t x y a b).run P w= .ok () w) (h:∀ d,(Op.equalIn (d+1) t a b).run P w= .ok r w)
  (h1:binOp .eql t a b=(do pure (.bool (← Op.equal t a b)))) (h2:binOp .neq t a b=(do pure (.bool (!(← Op.equal t a b))))) {op:BinOp} (hop:op=BinOp.eql∨op=BinOp.neq):
  (do eqGuard op t x y a b;binOp op t a b:Sem Value).run P w= .ok (.bool (Qb op r)) w:=by
 have e:(Op.equal t a b).run P w= .ok r w:=h 9999;rcases hop with rfl|rfl
 ·rw [Sem.run_bind,c,Result.andThen_ok,h1,Sem.run_bind,e];rfl
 ·rw [Sem.run_bind,c,Result.andThen_ok,h2,Sem.run_bind,e];rfl
theorem GX (v:iM P ap) {t:Nat} {N:TI} (A:ap.tyAt t=some N) {a b:AV} {D C:Value} (k:VR g m S a D) (s:VR g m S b C) {r:Bool} (h:eqA N a b=some r) (K:∀ x ∈ EC a b,x=true) (x y:Operand):
  ∀ f,f=BinOp.eql∨f=BinOp.neq→(do eqGuard f t x y D C;binOp f t D C:Sem Value).run P w= .ok (.bool (Qb f r)) w:=by
 obtain ⟨i,d,z,u⟩:=eQ v A;intro f j;unfold eqA at h;split at h
 case h_2 fs xs ys hd=>
  split at h
  ·rename_i c;rw [(yZ v A).1] at c;rw [(yZ v A).2] at h;simp only [VR] at k s;obtain ⟨vs,rfl,k⟩:=k;obtain ⟨L,rfl,s⟩:=s;have M:=wO h k s;unfold Yc at c;cases J:jK P 8 t with
   |none=>simp [J] at c
   |some l=>
    simp only [J,σ,Xqm] at c;have H:=Ej c.1;rw [← H] at M;have I:=Dk 8 t l J 10000 w vs L r (by omega) M;rw [u.d_eq] at hd;obtain ⟨fields,rfl,_⟩:=vX hd;simp only [u_,u.und] at I;have O:=run_eqGuard_agg (P:=P) w f t x y vs.toArray L.toArray c.2;rcases j with rfl|rfl
    ·simp [O,run_eql_struct,I,Qb]
    ·simp [O,run_neq_struct,I,Qb]
  ·cases h
 all_goals try (cases h;done)
 all_goals
  rename_i hd;rw [u.d_eq] at hd
  try simp only [VR,PR] at k s
 all_goals cases h
 case h_1=>
  have hd:=aaz hd;subst hd;subst k;subst s
  (refine vM (fun f=> ?_) (fun B=> ?_) rfl rfl j<;>first|exact kK f t x y _ _ (by simp) (by simp)|exact run_equalIn_bool' (P:=P) w B t _ _ u.und)
 all_goals
  first
   |(obtain ⟨e,rfl⟩:=aeU hd)
   |(obtain ⟨e,rfl⟩:=Xh hd)
   |(obtain ⟨T,Q,R,rfl⟩:=aaA hd)
   |(have hd:=ig hd;subst hd)
 case h_16 xs n nn=>
  subst s;obtain ⟨a,G,rfl,E,q⟩:=k;rcases q with ⟨F,rfl,rfl,rfl⟩|⟨b,o,vs,rfl,_⟩
  ·cases a with
   |none=>
    cases F rfl;exact absurd (K _ (by simp [EC];rfl)) (by decide)
   |some p=>(refine vM (fun f=> ?_) (fun B=> ?_) rfl rfl j<;>first|exact kK f t x y _ _ (by simp) (by simp)|simp [Op.equalIn,run_underlying u.und])
  ·(refine vM (fun f=> ?_) (fun B=> ?_) rfl rfl j<;>first|exact kK f t x y _ _ (by simp) (by simp)|simp [Op.equalIn,run_underlying u.und])
 case h_17 xs n nn=>
  subst k;obtain ⟨a,G,rfl,E,q⟩:=s;rcases q with ⟨F,rfl,rfl,rfl⟩|⟨b,o,vs,rfl,_⟩
  ·cases a with
   |none=>
    cases F rfl;exact absurd (K _ (by simp [EC];rfl)) (by decide)
   |some p=>(refine vM (fun f=> ?_) (fun B=> ?_) rfl rfl j<;>first|exact kK f t x y _ _ (by simp) (by simp)|simp [Op.equalIn,run_underlying u.und])
  ·(refine vM (fun f=> ?_) (fun B=> ?_) rfl rfl j<;>first|exact kK f t x y _ _ (by simp) (by simp)|simp [Op.equalIn,run_underlying u.und])
 all_goals
  try subst k
  try subst s
  try (obtain ⟨_,_,_,⟨_,_,rfl⟩,_⟩:=k)
  try (obtain ⟨_,_,_,⟨_,_,rfl⟩,_⟩:=s)
  try (obtain ⟨_,_,_,⟨_,_,_,rfl⟩,_⟩:=k)
  try (obtain ⟨_,_,_,⟨_,_,_,rfl⟩,_⟩:=s)
  try (obtain ⟨_,_,_,rfl,_⟩:=k)
  try (obtain ⟨_,_,_,rfl,_⟩:=s)
  try (obtain ⟨_,_,rfl,_⟩:=k)
  try (obtain ⟨_,_,rfl,_⟩:=s)
  try (obtain ⟨_,rfl,_⟩:=k)
  try (obtain ⟨_,rfl,_⟩:=s)
  (refine vM (fun f=> ?_) (fun B=> ?_) rfl rfl j<;>first|exact kK f t x y _ _ (by simp) (by simp)|simp [Op.equalIn,run_underlying u.und])
end
end AM
namespace AM
open Go
section
variable {P:Program} {ap:AP} {g:dM} {m:a_} {S:aU} {w:World}
theorem Nc (a b:List UInt8):(⟨a.toArray⟩:ByteArray)++⟨b.toArray⟩=⟨(a++b).toArray⟩:=by
 apply ByteArray.ext;rw [ByteArray.data_append];simp
theorem Nl (f:iM P ap) {t:Nat} {u:TI} (i:ap.tyAt t=some u) {a b v:AV} {o l:Value} (d:VR g m S a o) (e:VR g m S b l) {c:BinOp} {ups:List (Nat × bi)} {bs:List Bool}
  (h:ab9 c u a b=some (v,ups,bs)) (hbs:∀ x ∈ bs,x=true) (x y:Operand):
  ups= []∧∃ cv,(do eqGuard c t x y o l;binOp c t o l:Sem Value).run P w= .ok cv w∧VR g m S v cv:=by
 unfold ab9 at h;split at h
 ·rename_i k p z q;simp only [VR,PR] at d e;subst d;subst e;have n:(eqGuard c t x y (.int k p) (.int z q)).run P w= .ok () w:=kK c t x y _ _ (by simp) (by simp);rw [Sem.run_bind,n,Result.andThen_ok];split at h
  ·obtain ⟨rfl,rfl,rfl⟩:=aT h;have h0:=of_decide_eq_true (hbs _ (List.mem_singleton.2 rfl));exact ⟨rfl,_,by simp [binOp,Op.shift,show ¬ q<0 by omega];rfl,by simp only [VR,PR]⟩
  ·obtain ⟨rfl,rfl,rfl⟩:=aT h;have h0:=of_decide_eq_true (hbs _ (List.mem_singleton.2 rfl));exact ⟨rfl,_,by simp [binOp,Op.shift,show ¬ q<0 by omega];rfl,by simp only [VR,PR]⟩
  ·split at h
   ·cases h
   ·rename_i j;have j:=gy j;subst j;split at h
    all_goals try (cases h;done)
    all_goals obtain ⟨rfl,rfl,rfl⟩:=aT h
    case h_4=>
     have h0:(q==0)=false:=by simpa using hbs _ (List.mem_singleton.2 rfl)
     have h0:¬ q=0:=by simpa using h0
     exact ⟨rfl,_,by simp [binOp,Op.intDiv,h0];rfl,by simp only [VR,PR]⟩
    case h_5=>
     have h0:(q==0)=false:=by simpa using hbs _ (List.mem_singleton.2 rfl)
     have h0:¬ q=0:=by simpa using h0
     exact ⟨rfl,_,by simp [binOp,Op.intDiv,h0];rfl,by simp only [VR,PR]⟩
    all_goals exact ⟨rfl,_,by simp only [binOp,Op.intArith,Op.intBits,Op.intCmp,ne_eq,not_true_eq_false,if_false];rfl,by simp only [VR,PR];first|done|rfl⟩
 ·rename_i p q;simp only [VR,PR] at d e;subst d;subst e;have n:(eqGuard c t x y (.string ⟨p.toArray⟩) (.string ⟨q.toArray⟩)).run P w= .ok () w:=kK c t x y _ _ (by simp) (by simp);rw [Sem.run_bind,n,Result.andThen_ok];split at h
  all_goals try (cases h;done)
  all_goals obtain ⟨rfl,rfl,rfl⟩:=aT h
  case h_1=>
   have h0:=gG (hbs _ (List.mem_singleton.2 rfl));have A:¬ (IntKind.i64.max<((p.length+q.length:Nat):Int)):=by
    have:IntKind.i64.max=9223372036854775807:=by decide
    omega
   refine ⟨rfl,.string ⟨(p++q).toArray⟩, ?_,by simp only [VR,PR]⟩;simp only [binOp,Op.stringOp,yV,gt_iff_lt,A,if_false,Nc,Sem.run_pure]
  all_goals
   refine ⟨rfl,_,rfl, ?_⟩;simp only [VR,PR,xQ,yj]
 ·split at h
  ·obtain ⟨r,s,h⟩:=bind_some h;obtain ⟨rfl,rfl,rfl⟩:=aT h;exact ⟨rfl,_,GX f i d e s hbs x y _ (.inl rfl),by simp only [VR,PR];rfl⟩
  ·obtain ⟨r,s,h⟩:=bind_some h;obtain ⟨rfl,rfl,rfl⟩:=aT h;exact ⟨rfl,_,GX f i d e s hbs x y _ (.inr rfl),by simp only [VR,PR];rfl⟩
  ·cases h
theorem TC {x v:AV} {b:Value} (a:VR g m S x b) {c:UnOp} {ups:List (Nat × bi)} {bs:List Bool} (h:unA c x=some (v,ups,bs)):
  ups= []∧∃ cv,(Op.unary c b).run P w= .ok cv w∧VR g m S v cv:=by
 unfold unA at h;split at h
 ·obtain ⟨rfl,rfl,rfl⟩:=aT h;simp only [VR,PR] at a;subst a;exact ⟨rfl,_,rfl,by simp only [VR,PR]⟩
 ·obtain ⟨rfl,rfl,rfl⟩:=aT h;simp only [VR,PR] at a;subst a;exact ⟨rfl,_,rfl,by simp only [VR,PR]⟩
 ·cases h
theorem uo {f:AV→AV→Option AV} {F:Value→Value→Sem Value} (d:∀ a b c ca cb,VR g m S a ca→VR g m S b cb→f a b=some c→∃ cc,(F ca cb).run P w= .ok cc w∧VR g m S c cc):
  ∀ (l:List AV) (cl:List Value) (x v:AV) (cx:Value),bD g m S l cl→VR g m S x cx→KD f x l=some v→∃ cv,(cl.foldlM F cx).run P w= .ok cv w∧VR g m S v cv
 | [],[],x,v,cx,_,hx,h=>by simp [KD] at h;subst h;exact ⟨cx,by simp,hx⟩
 | y::r,cy::cr,x,v,cx,hl,hx,h=>by
  simp only [bD] at hl;simp only [KD] at h;split at h
  ·rename_i z e;obtain ⟨n,k,j⟩:=d _ _ _ _ _ hx hl.1 e;obtain ⟨cv,o,i⟩:=uo d r cr z v n hl.2 j h;exact ⟨cv,by simp [List.foldlM_cons,k,o],i⟩
  ·cases h
 | [],_::_,_,_,_,hl,_,_=>by simp [bD] at hl
 |_::_,[],_,_,_,hl,_,_=>by simp [bD] at hl
theorem Oh {a b c:AV} {d i:Value} (e:VR g m S a d) (f:VR g m S b i) (h:min2 a b=some c):∃ cc,(Builtin.min2 d i).run P w= .ok cc w∧VR g m S c cc:=by
 unfold min2 at h;split at h
 ·split at h
  ·cases h;simp only [VR,PR] at e f;subst e;subst f;exact ⟨_,rfl,by simp only [VR,PR]⟩
  ·cases h
 ·cases h
theorem Oc {a b c:AV} {d i:Value} (e:VR g m S a d) (f:VR g m S b i) (h:max2 a b=some c):∃ cc,(Builtin.max2 d i).run P w= .ok cc w∧VR g m S c cc:=by
 unfold max2 at h;split at h
 ·split at h
  ·cases h;simp only [VR,PR] at e f;subst e;subst f;exact ⟨_,rfl,by simp only [VR,PR]⟩
  ·cases h
 ·cases h
theorem RU {l:List AV} {cl:List Value} (a:bD g m S l cl) {v:AV} (h:zC min2 l=some v) (b:Array TypeId) (ty:Nat):∃ cv,(Builtin.min_ b ty cl.toArray).run P w= .ok cv w∧VR g m S v cv:=by
 cases l with
 |nil=>simp [zC] at h
 | cons x r=>cases cl with
  |nil=>simp [bD] at a
  |cons cx cr=>
   simp only [bD] at a;obtain ⟨cv,d,c⟩:=uo (P:=P) (w:=w) (F:=Builtin.min2) (fun _ _ _ _ _=>Oh) r cr x v cx a.2 a.1 h;exact ⟨cv,by simpa [Builtin.min_] using d,c⟩
theorem RN {l:List AV} {cl:List Value} (a:bD g m S l cl) {v:AV} (h:zC max2 l=some v) (b:Array TypeId) (ty:Nat):∃ cv,(Builtin.max_ b ty cl.toArray).run P w= .ok cv w∧VR g m S v cv:=by
 cases l with
 |nil=>simp [zC] at h
 | cons x r=>cases cl with
  |nil=>simp [bD] at a
  |cons cx cr=>
   simp only [bD] at a;obtain ⟨cv,d,c⟩:=uo (P:=P) (w:=w) (F:=Builtin.max2) (fun _ _ _ _ _=>Oc) r cr x v cx a.2 a.1 h;exact ⟨cv,by simpa [Builtin.max_] using d,c⟩
end
end AM
