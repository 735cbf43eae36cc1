/- The machine and its soundness. -/
import Derived.WalkKit
import Derived.Deep.AppendSrc
import Derived.Deep.MidRow
import Derived.WalkLawsBesides
set_option linter.unusedSimpArgs false
set_option linter.unusedVariables false
open Nat renaming beq->Xqk,blt->Xjd,ble->Xqr,le_refl->κ,le_trans->Xqs,add_zero->Xq3,add_assoc->Xzm,add_mul->Xxy,zero_add->Ψ
open List renaming replicate->ζ,range->Xqm,cons_append->Xqu,take_succ_cons->Xx6,map_cons->Xqf,getD_eq_getElem?_getD->μ,headD_eq_head?_getD->Xw0,head?_drop->Xkt,tail_drop->Xk2,getElem?_map->Xqx,getElem?_take->Xjn,getElem?_drop->Xj2,getElem?_eq_getElem->ν,drop_eq_nil_of_le->Xwg,length_cons->ο,length_nil->Ξ
open BitVec renaming ofInt->Xqg
open Bool renaming and_eq_true->π,not_eq_true'->Xqt
open Option renaming map_eq_some_iff->Xqq
namespace AM
open Go
inductive AV where
 |int (k:IntKind) (n:Int)
 |bool (b:Bool)
 |str (s:List UInt8)
 |agg (l:List AV)
 |tup (l:List AV)
 |nilS
 |sl (xs:List AV) (n:Nat) (nn:Bool)
 |ref (b ver i n:Nat)
 |own (xs:List AV) (n esz:Nat)
 |ptr (b ver off:Nat)
 |pp (xs:List AV) (off:Nat)
 |mr (b ver:Nat)
 |mp (ks vs:List AV)
 |nilP
 |fn (f:Nat) (first cap:List AV)
 |nilF
 |ifc (t:Nat) (v:AV)
 |nilI
 |dead
inductive LK where
 |int (k:IntKind)
 |bool
 |str
 |sl
 |oth
inductive TD where
 |struct (fs:List (Nat × Nat × Nat))
 |array (n elem:Nat)
 |slice (elem:Nat)
 |int (k:IntKind)
 |str
 |bool
 |iface
 |ptr
 |func
 |map (k e:Nat)
 |oth
structure TI where
 d:TD
 size:Nat
 bytes:Nat
 zero:List AV
 lks:List LK
 cmp:Bool
structure AF where
 fn:Func
 keep:List Nat
 shared:Bool
inductive Tr (α:Type) where
 |nil
 |node (v:Option α) (l r:Tr α)
def Tr.get {α:Type}:Tr α->Nat->Option α
 | .nil,_=>none
 | .node v l r,n=>match Xqk n 0 with
  |true=>v
  |false=>match Xqk (n % 2) 1 with
   |true=>l.get ((n - 1) / 2)
   |false=>r.get ((n - 1) / 2)
structure AP where
 nty:Nat
 ty:Tr TI
 nfn:Nat
 fn:Tr AF
 gl:List (Option (List AV))
def eZ:Nat:=4611686018427387904
def Rv:List AV->Option AV
 | [.agg ks,.agg vs]=>some (.mp ks vs)
 |_=>none
structure aM where
 cells:List AV
 ver:Nat
 fro:Bool
 fz:Nat
 esz:Nat
 pr:Bool
abbrev eW:=List (Nat × AV)
abbrev Hp:=List (Nat × aM)
def look {α:Type}:List (Nat × α)->Nat->Option α
 | [],_=>none
 |(u,x)::r,t=>match Xqk u t with|true=>some x|false=>look r t
def gm {α β:Type} (f:α->Option β):List α->Option (List β)
 | []=>some []
 |x::r=>match f x with
  |some y=>match gm f r with|some l=>some (y::l)|none=>none
  |none=>none
def eW.get (e:eW) (t:Nat):AV:=(look e t).getD .dead
def AV.cells:AV->List AV
 | .agg l=>l
 |x=> [x]
def AV.toInt:AV->Int| .int _ n=>n|_=>0
def AV.toBool:AV->Bool| .bool b=>b|_=>false
def AV.toStr:AV->List UInt8| .str s=>s|_=> []
def AV.slX:AV->List AV| .sl xs _ _=>xs|_=> []
def AV.slN:AV->Nat| .sl _ n _=>n|_=>0
def M_:IntKind->Nat
 | .i8=>0| .i16=>1| .i32=>2| .i64=>3| .u8=>4| .u16=>5| .u32=>6| .u64=>7
def fj (a b:IntKind):Bool:=Xqk (M_ a) (M_ b)
def chk:LK->AV->Bool
 | .int k,.int k' _=>fj k k'
 | .bool,.bool _=>true
 | .str,.str _=>true
 | .sl,.sl _ _ _=>true
 | .sl,.nilS=>true
 | .oth,.dead=>false
 | .oth,.agg _=>false
 | .oth,.tup _=>false
 | .oth,.own _ _ _=>false
 | .oth,_=>true
 |_,_=>false
def eta:LK->AV->AV
 | .int k,c=> .int k c.toInt
 | .bool,c=> .bool c.toBool
 | .str,c=> .str c.toStr
 | .sl,c=> .sl c.slX c.slN false
 | .oth,c=>c
def kO:AV->Bool
 | .dead| .agg _| .tup _| .own _ _ _=>false
 |_=>true
mutual
def cH:AV->List Nat
 | .ref b _ _ _=> [b]
 | .ptr b _ _=> [b]
 | .mr b _=> [b]
 | .agg l=>bD l
 | .tup l=>bD l
 | .fn _ f c=>bD f++bD c
 | .ifc _ v=>cH v
 |_=> []
def bD:List AV->List Nat
 | []=> []
 |x::r=>cH x++bD r
end
mutual
def ren (ρ:Nat->Nat->Option (Nat × Nat)):AV->AV
 | .ref b v i n=>match ρ b v with|some (b',v')=> .ref b' v' i n|none=> .dead
 | .ptr b v o=>match ρ b v with|some (b',v')=> .ptr b' v' o|none=> .dead
 | .mr b v=>match ρ b v with|some (b',v')=> .mr b' v'|none=> .dead
 | .agg l=> .agg (iP ρ l)
 | .tup l=> .tup (iP ρ l)
 | .fn f a c=> .fn f (iP ρ a) (iP ρ c)
 | .ifc t v=> .ifc t (ren ρ v)
 |x=>x
def iP (ρ:Nat->Nat->Option (Nat × Nat)):List AV->List AV
 | []=> []
 |x::r=>ren ρ x::iP ρ r
end
def CW:Value->AV
 | .int k n=> .int k n
 | .bool b=> .bool b
 | .string s=> .str s.data.toList
 | .pointer a=>match a with|none=> .nilP|some _=> .dead
 | .slice a n c=>match a,n,c with|none,0,0=> .nilS|_,_,_=> .dead
 | .nilFunc=> .nilF
 | .nilIface=> .nilI
 | .map a=>match a with|none=> .mp [] []|some _=> .dead
 |_=> .dead
def zg:Value->AV
 | .agg cs=> .agg (cs.toList.map CW)
 | .tuple vs=>match vs.toList with| []=> .tup []|_=> .dead
 |v=>CW v
def AP.tyAt (ap:AP) (t:Nat):Option TI:=match Xjd t ap.nty with|true=>ap.ty.get t|false=>none
def AP.fnAt (ap:AP) (f:Nat):Option AF:=match Xjd f ap.nfn with|true=>ap.fn.get f|false=>none
def lp (l:List Nat) (a:Nat):Bool:=l.any (Xqk a)
def eB (l:List Nat):List Nat:=l.foldl (λacc b=>if lp acc b then acc else acc++ [b]) []
abbrev BS:=Option (AV × List (Nat × aM) × List Bool)
def bf (v:AV) (bs:List Bool:= []):BS:=some (v,[],bs)
def EM (ty:Bool):List LK->List AV->List AV
 | [],_=> []
 |k::ks,ys=>(match ty with|true=>eta k (ys.headD .dead)|false=>ys.headD .dead)::EM ty ks ys.tail
def LR (ty:Bool):List LK->List AV->List Bool
 | [],_=> []
 |k::ks,ys=>(match ty with|true=>chk k (ys.headD .dead)|false=>chk .oth (ys.headD .dead))::LR ty ks ys.tail
def pR (ty:Bool) (ks:List LK) (xs:List AV) (off:Nat):List AV:=EM ty ks (xs.drop off)
def Cg (ty:Bool) (ks:List LK) (xs:List AV) (off:Nat):List Bool:=LR ty ks (xs.drop off)
def CJ:TD->Bool
 | .struct _=>true
 | .array _ _=>true
 |_=>false
def mY (ti:TI) (cs:List AV):Option AV:=
 match CJ ti.d with
 |true=>some (.agg cs)
 |false=>match cs with| [c]=>some c|_=>none
def Er (ti:TI) (rd:Nat->Option aM) (p:AV):BS:=
 match p with
 | .pp xs off=>(mY ti (pR true ti.lks xs off)).bind λv=>bf v (Cg true ti.lks xs off)
 | .ptr b ver off=>(rd b).bind λB=>match Xqk B.ver ver && !(Xqk B.esz eZ) with
  |true=>(mY ti (pR (Xjd 0 B.esz && B.pr) ti.lks B.cells off)).bind λv=>bf v (Cg (Xjd 0 B.esz && B.pr) ti.lks B.cells off)
  |false=>none
 |_=>none
def setCells (xs:List AV) (off:Nat) (vs:List AV):List AV:=xs.take off++vs++xs.drop (off+vs.length)
def Hl (ti:TI) (rd:Nat->Option aM) (p v:AV):BS:=
 match p with
 | .ptr b ver off=>(rd b).bind λB=>
  let vs:=v.cells
  let rs:=bD vs
  match Xqk B.ver ver && !B.fro && Xqk vs.length ti.size && vs.all kO && !(Xqk B.esz eZ) with
  |true=>some (.dead,[(b,{B with cells:=setCells B.cells off vs,pr:=B.pr && rs.isEmpty})],[Xqr (off+vs.length) B.cells.length])
  |false=>none
 |_=>none
def fJ (nid:Nat) (cells:List AV) (esz:Nat):Nat × aM:=(nid,{cells,ver:=0,fro:=false,fz:=0,esz,pr:=(bD cells).isEmpty})
def q_ (cells:List AV):List (Nat × Nat × AV)->Option (List AV)
 | []=>some cells
 |(off,size,v)::r=>match Xqk v.cells.length size && Xqr (off+size) cells.length && v.cells.all kO with
  |true=>q_ (setCells cells off v.cells) r
  |false=>none
def FQ (ap:AP) (ti:TI) (parts:List (Nat × AV)):BS:=
 match ti.d with
 | .struct fs=>(gm (λ(q:Nat × AV)=>(fs[q.1]?).map λ(x:Nat × Nat × Nat)=>(x.1,x.2.2,q.2)) parts).bind λps=>(q_ ti.zero ps).bind λcs=>bf (.agg cs)
 | .array _ e=>(ap.tyAt e).bind λte=>(q_ ti.zero (parts.map λ(i,v)=>(i*te.size,te.size,v))).bind λcs=>bf (.agg cs)
 |_=>none
def dA (n:Nat) (z:List AV):List AV:=(ζ n z).flatten
def oT (ap:AP) (nid:Nat) (ti:TI) (len:Nat) (parts:List (Nat × AV)):BS:=
 match ti.d with
 | .slice e=>(ap.tyAt e).bind λte=>
  match Xjd 0 te.size && Xqr (len*te.size) (2^24) && Xqk te.zero.length te.size with
  |true=>(q_ (dA len te.zero) (parts.map λ(i,v)=>(i*te.size,te.size,v))).bind λcs=>
   some (.ref nid 0 0 len,[fJ nid cs te.size],[])
  |false=>none
 |_=>none
def NX (p:AV) (o:Nat):Option AV:=
 match p with
 | .ptr b v off=>some (.ptr b v (off+o))
 | .pp xs off=>some (.pp xs (off+o))
 |_=>none
def H2 (v:AV):Option Int:=match v with| .int _ n=>some n|_=>none
def rQ (ap:AP) (ti:TI) (rd:Nat->Option aM) (x i:AV):BS:=
 (H2 i).bind λi=>
 match ti.d with
 | .slice e=>(ap.tyAt e).bind λte=>
  match x with
  | .sl xs n _=>bf (.pp xs (i.toNat*te.size)) [decide (0<=i),decide (i<n)]
  | .ref b ver j n=>(rd b).bind λB=>match Xqk B.ver ver && Xqk B.esz te.size with
   |true=>bf (.ptr b ver ((j+i.toNat)*te.size)) [decide (0<=i),decide (i<n)]
   |false=>none
  |_=>none
 | .array n e=>(ap.tyAt e).bind λte=>(NX x (i.toNat*te.size)).bind λp=>bf p [decide (0<=i),decide (i<n)]
 |_=>none
def Gt (ap:AP) (ti:TI) (x i:AV):BS:=
 (H2 i).bind λi=>
 match ti.d,x with
 | .str,.str s=>bf (.int .u8 (s.getD i.toNat 0).toNat) [decide (0<=i),decide (i<s.length)]
 | .array n e,.agg cs=>(ap.tyAt e).bind λte=>
  (mY te (pR true te.lks cs (i.toNat*te.size))).bind λv=>bf v (decide (0<=i)::decide (i<n)::Cg true te.lks cs (i.toNat*te.size))
 |_,_=>none
def kW (v:Option AV) (d:Int):Option Int:=match v with|none=>some d|some (.int _ n)=>some n|some _=>none
def Hg (ap:AP) (ti:TI) (rd:Nat->Option aM) (x:AV) (lo hi mx:Option AV):BS:=
 match ti.d,x,mx with
 | .str,.str s,none=>(kW lo 0).bind λl=>(kW hi s.length).bind λh=>
   bf (.str ((s.take h.toNat).drop l.toNat)) [decide (0<=l),decide (l<=h),decide (h<=s.length)]
 | .slice e,.sl xs n nn,none=>(ap.tyAt e).bind λte=>(kW lo 0).bind λl=>(kW hi n).bind λh=>
   bf (.sl ((xs.take (h.toNat*te.size)).drop (l.toNat*te.size)) (h.toNat - l.toNat) nn) [decide (0<=l),decide (l<=h),decide (h<=n)]
 | .slice e,.ref b ver j n,none=>(ap.tyAt e).bind λte=>(rd b).bind λB=>(kW lo 0).bind λl=>(kW hi n).bind λh=>
   match Xqk B.ver ver && Xqk B.esz te.size with
   |true=>bf (.ref b ver (j+l.toNat) (h.toNat - l.toNat)) [decide (0<=l),decide (l<=h),decide (h<=n)]
   |false=>none
 | .slice e,.nilS,none=>(ap.tyAt e).bind λ_=>(kW lo 0).bind λl=>(kW hi 0).bind λh=>bf .nilS [decide (l=0),decide (h=0)]
 |_,_,_=>none
def Nf (d:TD) (x:AV):BS:=
 match d,x with
 | .array n _,_=>bf (.int .i64 n)
 | .str,.str s=>bf (.int .i64 s.length)
 | .slice _,.sl _ n _=>bf (.int .i64 n)
 | .slice _,.ref _ _ _ n=>bf (.int .i64 n)
 | .slice _,.nilS=>bf (.int .i64 0)
 |_,_=>none
def E9 (size:Nat) (rd:Nat->Option aM) (x:AV):Option (List AV × Nat × Bool):=
 match x with
 | .sl xs n _=>some (xs,n,true)
 | .nilS=>some ([],0,true)
 | .str s=>some (s.map λb=> .int .u8 b.toNat,s.length,true)
 | .ref b ver j n=>(rd b).bind λB=>match Xqk B.ver ver && Xqk B.esz size && !(Xqk B.esz eZ) with
  |true=>some ((B.cells.drop (j*size)).take (n*size),n,B.pr)
  |false=>none
 |_=>none
def ER:Nat:=2^40
def BB (b:Nat):Nat:=match Xqr b 128 with|true=>ER|false=>549755813888
def sH (nid:Nat) (te:TI) (rd:Nat->Option aM) (em:Bool) (s x:AV):BS:=
 (E9 te.size rd x).bind λ(xs,n,pr)=>
 match Xjd 0 te.size && Xqr te.bytes 256 with
 |false=>none
 |true=>
 match s with
 | .nilS=>match em with
  |true=>bf .nilS [Xqk xs.length (n*te.size)]
  |false=>some (.ref nid 0 0 n,[(nid,⟨xs,0,false,0,te.size,pr⟩)],[Xqk xs.length (n*te.size),Xqr n (BB te.bytes)])
 | .ref b ver 0 m=>(rd b).bind λB=>match Xqk B.ver ver && Xqk B.esz te.size && !(Xqk B.esz eZ) with
  | true=>some (.ref b (ver+1) 0 (m+n),[(b,{B with cells:=B.cells.take (m*te.size)++xs,ver:=ver+1,pr:=B.pr && pr})],
    [Xqk xs.length (n*te.size),Xqr (m+n) (BB te.bytes),Xqr (m*te.size) B.cells.length, !B.fro||Xqr B.fz (m*te.size)])
  |false=>none
 |_=>none
def rN:AV->Option Nat
 | .sl _ n _=>some n
 | .nilS=>some 0
 | .str s=>some s.length
 | .ref _ _ _ n=>some n
 |_=>none
def sW (ρ:Operand->AV) (o:Op):Option Nat:=
 match o with
 | .call {callee:= .builtin .append,args,..}=>match args.toList with
  | [s,x]=>match ρ s with
   | .nilS=>rN (ρ x)
   |_=>none
  |_=>none
 |_=>none
def rT (ap:AP) (nid:Nat) (ti:TI) (l c:AV):BS:=
 match ti.d,l,c with
 | .slice e,.int _ l,.int _ c=>(ap.tyAt e).bind λte=>
  match Xjd 0 te.size && Xqk te.zero.length te.size && Xqr te.bytes 128 && (bD te.zero).isEmpty with
  |true=>some (.ref nid 0 0 l.toNat,[(nid,⟨dA l.toNat te.zero,0,false,0,te.size,true⟩)],[decide (0<=l),decide (l=c),decide (l<=2^40)])
  |false=>none
 |_,_,_=>none
def xS (ap:AP) (ts td:TI) (rd:Nat->Option aM) (x:AV):BS:=
 match ts.d,td.d,x with
 |_,.int k,.int _ n=>bf (.int k (k.wrap n))
 | .str,.str,.str s=>bf (.str s)
 | .slice e,.str,x=>(ap.tyAt e).bind λte=>match te.d,x with
  | .int .u8,.str _=>none
  | .int .u8,x=>(E9 1 rd x).bind λ(xs,n,_)=>bf (.str (xs.map λc=>UInt8.ofNat c.toInt.toNat)) [Xqk xs.length n,xs.all (chk (.int .u8))]
  |_,_=>none
 |_,_,_=>none
def Gf:LK->AV->AV->Option Bool
 | .int k,.int k1 a,.int k2 b=>match fj k k1 && fj k k2 with|true=>some (a==b)|false=>none
 | .bool,.bool a,.bool b=>some (a==b)
 | .str,.str a,.str b=>some (a==b)
 |_,_,_=>none
def iD:List LK->List AV->List AV->Option Bool
 | [],[],[]=>some true
 |k::ks,a::as,b::bs=>(Gf k a b).bind λc=>(iD ks as bs).map λd=>c && d
 |_,_,_=>none
def eqA (ti:TI) (a b:AV):Option Bool:=
 match ti.d,a,b with
 | .bool,.bool a,.bool b=>some (a==b)
 | .struct _,.agg xs,.agg ys=>match ti.cmp with|true=>iD ti.lks xs ys|false=>none
 | .ptr,.nilP,.nilP=>some true
 | .ptr,.nilP,.ptr _ _ _=>some false
 | .ptr,.nilP,.pp _ _=>some false
 | .ptr,.ptr _ _ _,.nilP=>some false
 | .ptr,.pp _ _,.nilP=>some false
 | .iface,.nilI,.ifc _ _=>some false
 | .iface,.ifc _ _,.nilI=>some false
 | .func,.nilF,.nilF=>some true
 | .func,.nilF,.fn _ _ _=>some false
 | .func,.fn _ _ _,.nilF=>some false
 | .slice _,.nilS,.nilS=>some true
 | .slice _,.ref _ _ _ _,.nilS=>some false
 | .slice _,.nilS,.ref _ _ _ _=>some false
 | .slice _,.sl _ _ _,.nilS=>some false
 | .slice _,.nilS,.sl _ _ _=>some false
 |_,_,_=>none
def yY (a b:AV):List Bool:=
 match a,b with
 | .sl _ n false,.nilS=> [Xjd 0 n]
 | .nilS,.sl _ n false=> [Xjd 0 n]
 |_,_=> []
def dX:List UInt8->List UInt8->Bool
 |_,[]=>false
 | [],_::_=>true
 |a::x,b::y=>decide (a<b)||(a==b && dX x y)
def Vg (op:BinOp) (ti:TI) (x y:AV):BS:=
 match x,y with
 | .int k a,.int k' b=>
  match op with
  | .shl=>bf (.int k (k.wrap (a*2^(min b.toNat k.bits)))) [decide (0<=b)]
  | .shr=>bf (.int k (a.fdiv (2^(min b.toNat k.bits)))) [decide (0<=b)]
  | _=>match fj k k' with
   |false=>none
   |true=>match op with
    | .add=>bf (.int k (k.wrap (a+b)))
    | .sub=>bf (.int k (k.wrap (a - b)))
    | .mul=>bf (.int k (k.wrap (a*b)))
    | .quo=>bf (.int k (k.wrap (a.tdiv b))) [!(b==0)]
    | .rem=>bf (.int k (a.tmod b)) [!(b==0)]
    | .and=>bf (.int k (k.wrap (Xqg k.bits a &&& Xqg k.bits b).toNat))
    | .or=>bf (.int k (k.wrap (Xqg k.bits a|||Xqg k.bits b).toNat))
    | .xor=>bf (.int k (k.wrap (Xqg k.bits a^^^Xqg k.bits b).toNat))
    | .eql=>bf (.bool (a==b))
    | .neq=>bf (.bool (!(a==b)))
    | .lss=>bf (.bool (decide (a<b)))
    | .leq=>bf (.bool (decide (a<=b)))
    | .gtr=>bf (.bool (decide (b<a)))
    | .geq=>bf (.bool (decide (b<=a)))
    |_=>none
 | .str a,.str b=>
  match op with
  | .add=>bf (.str (a++b)) [Xqr (a.length+b.length) 9223372036854775807]
  | .eql=>bf (.bool (a==b))
  | .neq=>bf (.bool (!(a==b)))
  | .lss=>bf (.bool (dX a b))
  | .leq=>bf (.bool (dX a b||a==b))
  | .gtr=>bf (.bool (!(dX a b||a==b)))
  | .geq=>bf (.bool (!dX a b))
  |_=>none
 |x,y=>
  match op with
  | .eql=>(eqA ti x y).bind λb=>bf (.bool b) (yY x y)
  | .neq=>(eqA ti x y).bind λb=>bf (.bool (!b)) (yY x y)
  |_=>none
def unA (op:UnOp) (x:AV):BS:=
 match op,x with
 | .not,.bool b=>bf (.bool (!b))
 | .neg,.int k n=>bf (.int k (k.wrap (0 - n)))
 |_,_=>none
def min2 (a b:AV):Option AV:=match a,b with| .int k x,.int k' y=>(match fj k k' with|true=>some (.int k (if y<x then y else x))|false=>none)|_,_=>none
def max2 (a b:AV):Option AV:=match a,b with| .int k x,.int k' y=>(match fj k k' with|true=>some (.int k (if y>x then y else x))|false=>none)|_,_=>none
def D9 (f:AV->AV->Option AV):AV->List AV->Option AV
 |x,[]=>some x
 |x,y::r=>match f x y with|some z=>D9 f z r|none=>none
def uA (f:AV->AV->Option AV):List AV->Option AV
 | []=>none
 |x::r=>D9 f x r
def Ca (ap:AP) (x:AV) (asserted:Nat) (commaOk:Bool):BS:=
 (ap.tyAt asserted).bind λti=>
 match ti.d with
 | .iface=>none
 | _=>match x with
  | .ifc t v=>match Xqk t asserted with
   |true=>bf (match commaOk with|true=> .tup [v,.bool true]|false=>v)
   |false=>match commaOk with|true=>(mY ti ti.zero).bind λz=>bf (.tup [z,.bool false])|false=>none
  | .nilI=>match commaOk with|true=>(mY ti ti.zero).bind λz=>bf (.tup [z,.bool false])|false=>none
  |_=>none
def Gq (ap:AP) (ti:TI) (x:AV) (f:Nat):BS:=
 match ti.d,x with
 | .struct fs,.agg cs=>(fs[f]?).bind λ(o,t,_)=>(ap.tyAt t).bind λtf=>
  (mY tf (pR false tf.lks cs o)).bind λv=>bf v (Cg false tf.lks cs o)
 |_,_=>none
def sK:AV->List Nat
 | .ref b _ _ _=> [b]
 | .ptr b _ _=> [b]
 | .mr b _=> [b]
 |_=> []
def Oh (ρ:Operand->AV):Op->List Nat
 | .load _ a=>sK (ρ a)
 | .store _ a _=>sK (ρ a)
 | .indexAddr _ x _=>sK (ρ x)
 | .slice _ x _ _ _=>sK (ρ x)
 | .convert _ _ x=>sK (ρ x)
 | .lookup _ x _ _=>sK (ρ x)
 | .mapUpdate _ x _ _=>sK (ρ x)
 | .insert _ x _ _=>sK (ρ x)
 | .call {callee:= .builtin .append,args,..}=>eB (args.toList.flatMap λx=>sK (ρ x))
 |_=> []
def A_:LK->AV->Bool
 | .int k,.int k' _=>fj k k'
 | .bool,.bool _=>true
 | .str,.str _=>true
 |_,_=>false
def jM:List LK->List AV->Bool
 | [],[]=>true
 |k::r,x::l=>A_ k x && jM r l
 |_,_=>false
def iG (ti:TI) (x:AV):Bool:=match ti.d,x with
 | .int k,.int k' _=>fj k k'
 | .bool,.bool _=>true
 | .str,.str _=>true
 | .struct _,.agg l=>ti.cmp && jM ti.lks l
 |_,_=>false
def wy:AV->AV->Bool
 | .int _ a,.int _ b=>a==b
 | .bool a,.bool b=>a==b
 | .str a,.str b=>a==b
 |_,_=>false
def Ap:List AV->List AV->Bool
 | [],[]=>true
 |a::r,b::q=>wy a b && Ap r q
 |_,_=>false
def oJ:AV->AV->Bool
 | .int _ a,.int _ b=>a==b
 | .bool a,.bool b=>a==b
 | .str a,.str b=>a==b
 | .agg a,.agg b=>Ap a b
 |_,_=>false
def b_:List AV->List AV->AV->Option AV
 |k0::ks,v0::vs,k=>match oJ k k0 with|true=>some v0|false=>b_ ks vs k
 |_,_,_=>none
def nY (ks:List AV) (k:AV):List AV:=match ks.any (oJ k) with|true=>ks|false=>ks++ [k]
def jD:List AV->List AV->AV->AV->List AV
 |k0::ks,v0::vs,k,v=>match oJ k k0 with|true=>v::vs|false=>v0::jD ks vs k v
 |_,_,_,v=> [v]
def Nx (rd:Nat->Option aM) (x:AV):Option (List AV × List AV):=
 match x with
 | .mp ks vs=>some (ks,vs)
 | .mr b ver=>(rd b).bind λB=>match Xqk B.ver ver && Xqk B.esz eZ with
  |true=>match B.cells with| [.agg ks,.agg vs]=>some (ks,vs)|_=>none
  |false=>none
 |_=>none
def Ep (ok:Bool) (o:Option AV) (z:AV):AV:=match ok with|true=> .tup [o.getD z,.bool o.isSome]|false=>o.getD z
def CP (ap:AP) (ti:TI) (rd:Nat->Option aM) (x k:AV) (ok:Bool):BS:=
 match ti.d with
 | .map kt et=>(ap.tyAt kt).bind λtk=>(ap.tyAt et).bind λte=>(Nx rd x).bind λq=>(mY te te.zero).bind λz=>
   bf (Ep ok (b_ q.1 q.2 k) z) [iG tk k,q.1.all (iG tk)]
 |_=>none
def xp (ap:AP) (ti:TI) (rd:Nat->Option aM) (x k v:AV):BS:=
 match ti.d,x with
 | .map kt _,.mr b ver=>(ap.tyAt kt).bind λtk=>(rd b).bind λB=>match Xqk B.ver ver && Xqk B.esz eZ && !B.fro with
  |true=>match B.cells with
   | [.agg ks,.agg vs]=>some (.dead,[(b,{B with cells:= [.agg (nY ks k),.agg (jD ks vs k v)],pr:=B.pr && (cH v).isEmpty})],[iG tk k,ks.all (iG tk)])
   |_=>none
  |false=>none
 |_,_=>none
def opA (ap:AP) (nid:Nat) (ρ:Operand->AV) (rd:Nat->Option aM) (dec:Operand->Option Bool) (em:Bool) (o:Op):BS:=
 match o with
 | .move x=>bf (ρ x)
 | .assign x=>bf (ρ x)
 | .pick c a b=>match dec c with
  |some true=>bf (ρ a)
  |some false=>bf (ρ b)
  |none=>match ρ c,ρ a,ρ b with| .bool c,.bool x,.bool y=>bf (.bool (cond c x y))|_,_,_=>none
 | .alloc e=>(ap.tyAt e).bind λte=>match Xjd 0 te.size && te.zero.all kO with|true=>some (.ptr nid 0 0,[fJ nid te.zero 0],[])|false=>none
 | .box e x=>(ap.tyAt e).bind λte=>let vs:=(ρ x).cells
  match Xjd 0 te.size && vs.all kO with|true=>some (.ptr nid 0 0,[fJ nid vs 0],[])|false=>none
 | .build t parts=>(ap.tyAt t).bind λti=>FQ ap ti (parts.toList.map λ(i,x)=>(i,ρ x))
 | .buildSlice t len parts=>(ap.tyAt t).bind λti=>oT ap nid ti len (parts.toList.map λ(i,x)=>(i,ρ x))
 | .load t a=>(ap.tyAt t).bind λti=>Er ti rd (ρ a)
 | .store t a x=>(ap.tyAt t).bind λti=>Hl ti rd (ρ a) (ρ x)
 | .makeMap _ r=>match r with|none=>some (.mr nid 0,[(nid,⟨[.agg [],.agg []],0,false,0,eZ,true⟩)],[])|some _=>none
 | .lookup t x k ok=>(ap.tyAt t).bind λti=>CP ap ti rd (ρ x) (ρ k) ok
 | .mapUpdate t x k v=>(ap.tyAt t).bind λti=>xp ap ti rd (ρ x) (ρ k) (ρ v)
 | .insert t x k v=>(ap.tyAt t).bind λti=>xp ap ti rd (ρ x) (ρ k) (ρ v)
 | .nilCheck x=>match ρ x with
  | .ptr b v o=>bf (.ptr b v o)
  | .pp xs o=>bf (.pp xs o)
  | .fn f a c=>bf (.fn f a c)
  |_=>none
 | .binOp op t x y _=>(ap.tyAt t).bind λti=>Vg op ti (ρ x) (ρ y)
 | .unOp op _ x=>unA op (ρ x)
 | .convert s d x=>(ap.tyAt s).bind λts=>(ap.tyAt d).bind λtd=>xS ap ts td rd (ρ x)
 | .makeInterface t x=>(ap.tyAt t).bind λti=>match ti.d with| .iface=>none|_=>bf (.ifc t (ρ x))
 | .makeFunc (.func f) first cap=>bf (.fn f (first.toList.map ρ) (cap.toList.map ρ))
 | .makeSlice t l c=>(ap.tyAt t).bind λti=>rT ap nid ti (ρ l) (ρ c)
 | .slice t x lo hi mx=>(ap.tyAt t).bind λti=>Hg ap ti rd (ρ x) (lo.map ρ) (hi.map ρ) (mx.map ρ)
 | .fieldAddr s x f=>(ap.tyAt s).bind λti=>match ti.d with
  | .struct fs=>(fs[f]?).bind λ(o,_,sz)=>match Xjd 0 sz with|true=>(NX (ρ x) o).bind λp=>bf p|false=>none
  |_=>none
 | .field t x f=>(ap.tyAt t).bind λti=>Gq ap ti (ρ x) f
 | .indexAddr t x i=>(ap.tyAt t).bind λti=>rQ ap ti rd (ρ x) (ρ i)
 | .index t x i=>(ap.tyAt t).bind λti=>Gt ap ti (ρ x) (ρ i)
 | .typeAssert x _ asserted ok=>Ca ap (ρ x) asserted ok
 | .extract t i=>match ρ t with| .tup l=>(l[i]?).bind λv=>bf v|_=>none
 | .call {callee:= .builtin b,args,argTypes}=>
  match b with
  | .len=>(args[0]?).bind λx=>(argTypes[0]?).bind λt=>(ap.tyAt t).bind λti=>Nf ti.d (ρ x)
  | .append=>match args.toList,argTypes.toList with
   | [s,x],[t,t1]=>(ap.tyAt t).bind λti=>(ap.tyAt t1).bind λti1=>match ti.d,ti1.d,ρ x with
    | .slice e,.str,.str y=>(ap.tyAt e).bind λte=>match Xqk te.size 1 with|true=>sH nid te rd em (ρ s) (.str y)|false=>none
    | .slice _,.slice _,.str _=>none
    | .slice e,.slice _,y=>(ap.tyAt e).bind λte=>sH nid te rd em (ρ s) y
    |_,_,_=>none
   |_,_=>none
  | .min=>(uA min2 (args.toList.map ρ)).bind λv=>bf v
  | .max=>(uA max2 (args.toList.map ρ)).bind λv=>bf v
  |_=>none
 |_=>none
def Be (P:Program):Nat->TypeId->List LK
 |0,_=> [.oth]
 |n+1,t=>match P.underlying t with
  |some (.int k)=> [.int k]
  |some .bool=> [.bool]
  |some .string=> [.str]
  |some (.slice _)=> [.sl]
  |some (.struct fs)=>fs.toList.flatMap λf=>Be P n f.type
  |some (.array m e)=>(ζ m (Be P n e)).flatten
  |_=> [.oth]
def gX (P:Program):Option TypeDesc->TD
 |some (.int k)=> .int k
 |some .bool=> .bool
 |some .string=> .str
 |some (.slice e)=> .slice e
 |some (.array n e)=> .array n e
 |some (.struct fs)=> .struct (fs.toList.map λf=>(f.offset,f.type,match P.info? f.type with|some i=>i.size|none=>0))
 |some (.interface _)=> .iface
 |some (.pointer _)=> .ptr
 |some (.func _ _ _)=> .func
 |some (.map k e)=> .map k e
 |_=> .oth
def sP (P:Program) (f:TypeId->Option (List LK)):List Field->Nat->Option (List LK)
 | [],_=>some []
 | x::r,off=>match f x.type with
  |some l=>match !(x.name== "_") && Xqk x.offset off && (match P.info? x.type with|some i=>Xqk i.size l.length|none=>false) with
   |true=>match sP P f r (off+l.length) with|some l'=>some (l++l')|none=>none
   |false=>none
  |none=>none
def gB (P:Program):Nat->TypeId->Option (List LK)
 |0,_=>none
 |n+1,t=>match P.underlying t with
  |some (.int k)=>some [.int k]
  |some .bool=>some [.bool]
  |some .string=>some [.str]
  |some (.struct fs)=>match P.stoodInHeld t with|true=>none|false=>sP P (gB P n) fs.toList 0
  |_=>none
def XV (i:TypeInfo) (d:TypeDesc):Bool:=match i.zero,d with
 |some (.agg _),.struct _=>true
 |some (.agg _),.array _ _=>true
 |some (.agg _),_=>false
 |some _,.struct _=>false
 |some _,.array _ _=>false
 |some _,_=>true
 |none,_=>false
def MP (P:Program) (d:TypeDesc):Bool:=match d with
 | .struct fs=>fs.toList.all λf=>(P.info? f.type).isSome
 |_=>true
def Ag (i:TypeInfo):List AV:=match i.zero with|some z=>z.cells.toList.map zg|none=> []
def Wr:LK->LK->Bool
 | .int a,.int b=>fj a b
 | .bool,.bool=>true
 | .str,.str=>true
 |_,_=>false
def Bd:List LK->List LK->Bool
 | [],[]=>true
 |a::r,b::q=>Wr a b && Bd r q
 |_,_=>false
def Qi (P:Program) (t:TypeId):Bool:=match gB P 8 t with|some l=>Bd l (Be P 8 t) && !P.eqGuardType P.depth t|none=>false
def Pw (P:Program) (t:TypeId):Option TI:=
 match P.info? t,P.underlying t with
 |some i,some d=>
  match Xqk (Be P 8 t).length i.size && (XV i d && MP P d) && (Ag i).all kO && Xqk (Ag i).length i.size && Xjd 0 i.size && i.zero.isSome && Xjd i.size eZ with
  |true=>some {d:=gX P (some d),size:=i.size,bytes:=i.bytes,zero:=Ag i,lks:=Be P 8 t,cmp:=Qi P t}
  |false=>none
 |_,_=>none
abbrev aH:=Nat->Nat->Option Value
def eO (S S':aH):Prop:=∀ k o v,S k o=some v->S' k o=some v
theorem eO.refl (S:aH):eO S S:=λ_ _ _ h=>h
theorem eO.trans {S S' S'':aH} (h:eO S S') (a:eO S' S''):eO S S'':=λk o v e=>a k o v (h k o v e)
def iz (S:aH) (b o:Nat) (vs:List Value):Prop:=∀ j u,vs[j]? =some u->S b (o+j)=some u/\u.oneCell'=true
mutual
def PR (S:aH):AV->Value->Prop
 | .int k n,v=>v= .int k n
 | .bool b,v=>v= .bool b
 | .str s,v=>v= .string ⟨s.toArray⟩
 | .agg l,v=> ∃ vs,v= .agg vs.toArray/\bw S l vs
 | .tup l,v=> ∃ vs,v= .tuple vs.toArray/\bw S l vs
 | .nilS,v=>v= .slice none 0 0
 | .sl xs n nn,v=> ∃ a cap,v= .slice a n cap/\n<=cap/\(((a=none->nn=false)/\xs= []/\n=0/\cap=0)\/∃ b o vs,a=some ⟨b,o,none⟩/\bw S xs vs/\iz S b o vs)
 | .pp xs off,v=> ∃ b o vs,v= .pointer (some ⟨b,o+off,none⟩)/\bw S xs vs/\iz S b o vs
 | .mp ks vs,v=>(v= .map none/\ks= []/\vs= [])\/∃ b kk vv,v= .map (some b)/\S b 0=some (.agg kk.toArray)/\S b 1=some (.agg vv.toArray)/\bw S ks kk/\bw S vs vv
 | .nilP,v=>v= .pointer none
 | .fn f a c,v=> ∃ va vc,v= .func (.func f) va.toArray vc.toArray/\bw S a va/\bw S c vc
 | .nilF,v=>v= .nilFunc
 | .ifc t x,v=> ∃ u,v= .iface t u/\PR S x u
 | .nilI,v=>v= .nilIface
 | .dead,_=>True
 | .ref _ _ _ _,_=>False
 | .ptr _ _ _,_=>False
 | .mr _ _,_=>False
 | .own _ _ _,_=>False
def bw (S:aH):List AV->List Value->Prop
 | [],[]=>True
 |x::r,v::vs=>PR S x v/\bw S r vs
 |_,_=>False
end
abbrev bW:=Nat->Option aM
abbrev aN:=Nat->Nat × Nat
mutual
def VR (g:bW) (m:aN) (S:aH):AV->Value->Prop
 | .ref b ver i n,v=> ∃ B,g b=some B/\ver<=B.ver/\(∃ k o c',v= .slice (some ⟨k,o,none⟩) n c')/\(B.ver=ver->∃ o,v= .slice (some ⟨(m b).1,o,none⟩) n ((m b).2 - i)/\i+n<=(m b).2/\(i<(m b).2->o=i*B.esz)/\0<B.esz/\B.esz ≠ eZ)
 | .ptr b ver off,v=> ∃ B,g b=some B/\ver<=B.ver/\(∃ k o,v= .pointer (some ⟨k,o,none⟩))/\(B.ver=ver->v= .pointer (some ⟨(m b).1,off,none⟩))
 | .mr b ver,v=> ∃ B,g b=some B/\ver<=B.ver/\(∃ k,v= .map (some k))/\(B.ver=ver->v= .map (some (m b).1))
 | .agg l,v=> ∃ vs,v= .agg vs.toArray/\aU g m S l vs
 | .tup l,v=> ∃ vs,v= .tuple vs.toArray/\aU g m S l vs
 | .fn f a c,v=> ∃ va vc,v= .func (.func f) va.toArray vc.toArray/\aU g m S a va/\aU g m S c vc
 | .ifc t x,v=> ∃ u,v= .iface t u/\VR g m S x u
 | .int k n,v=>PR S (.int k n) v
 | .bool b,v=>PR S (.bool b) v
 | .str s,v=>PR S (.str s) v
 | .nilS,v=>PR S .nilS v
 | .sl xs n nn,v=>PR S (.sl xs n nn) v
 | .pp xs off,v=>PR S (.pp xs off) v
 | .mp ks vs,v=>PR S (.mp ks vs) v
 | .nilP,v=>PR S .nilP v
 | .nilF,v=>PR S .nilF v
 | .nilI,v=>PR S .nilI v
 | .dead,_=>True
 | .own _ _ _,_=>False
def aU (g:bW) (m:aN) (S:aH):List AV->List Value->Prop
 | [],[]=>True
 |x::r,v::vs=>VR g m S x v/\aU g m S r vs
 |_,_=>False
end
def bC (x y:AV):Prop:=∀ g m S v,VR g m S x v->VR g m S y v
inductive qK where
 |v (d:Nat) (x:AV)
 |b (d:Nat) (xs:List AV)
 |u (d:Nat)
inductive gy where
 |ret (v:AV)
 |pan (v:AV)
structure Cx where
 cl:Bool
 orc:List Bool
 bs:List Bool
 ps:List Prop
 ans:List (gy × List aM)
 hs:List qK
inductive R (α:Type) where
 |ok (a:α) (c:Cx)
 |need
 |bad (n:Nat)
def R.bind {α β:Type} (r:R α) (f:α->Cx->R β):R β:=
 match r with
 | .ok a c=>f a c
 | .need=> .need
 | .bad n=> .bad n
def lit (o b:Bool):Bool:=match o with|true=>b|false=> !b
def Qy (c:Cx) (bs:List Bool):R Unit:=
 match c.cl with
 |true=>match bs.all id with|true=> .ok () c|false=> .bad 1
 |false=> .ok () {c with bs:=bs++c.bs}
def ur (c:Cx) (b:Bool):R Bool:=
 match c.cl with
 |true=> .ok b c
 |false=>match c.orc with
  | []=> .need
  |o::r=> .ok o {c with orc:=r,bs:=lit o b::c.bs}
def yw (c:Cx) (dst:Option Nat) (v:AV):AV × Cx:=
 match c.hs,dst with
 | .v d x::r,some d'=>match Xqk d d' with
  |true=>(x,{c with hs:=r,ps:=bC v x::c.ps})
  |false=>(v,c)
 |_,_=>(v,c)
def yu (c:Cx) (dst:Option Nat) (ups:List (Nat × aM)):List (Nat × aM) × Cx:=
 match c.hs,dst,ups with
 | .b d xs::r,some d',[(b,B)]=>match Xqk d d' with
  |true=>([(b,{B with cells:=xs})],{c with hs:=r,ps:=(B.cells=xs)::c.ps})
  |false=>(ups,c)
 |_,_,_=>(ups,c)
def H0 (c:Cx) (dst:Option Nat):Bool × Cx:=
 match c.hs,dst with
 | .u d::r,some d'=>match Xqk d d' with
  |true=>(true,{c with hs:=r})
  |false=>(false,c)
 |_,_=>(false,c)
abbrev bK:=Cx->AV->Nat->List AV->List aM->R (gy × List aM × AV)
def lW (rd:Nat->Option aM):Nat->List Nat->List Nat
 |0,l=>l
 |n+1,l=>
  let more:=l.flatMap λb=>match rd b with|some B=>(match B.pr with|true=> []|false=>bD B.cells)|none=> []
  let l':=more.foldl (λacc b=>if lp acc b then acc else acc++ [b]) l
  match Xqk l'.length l.length with|true=>l|false=>lW rd n l'
def frz (rd:Nat->Option aM):Nat->AV->Option AV
 |0,_=>none
 | fuel+1,x=>
  let frzL (l:List AV):Option (List AV):=gm (frz rd fuel) l
  match x with
  | .ref b ver i n=>(rd b).bind λB=>match Xqk B.ver ver with
   |true=>match B.pr with
    |true=>some (.sl ((B.cells.drop (i*B.esz)).take (n*B.esz)) n true)
    |false=>(frzL ((B.cells.drop (i*B.esz)).take (n*B.esz))).map λl=> .sl l n true
   |false=>none
  | .ptr b ver off=>(rd b).bind λB=>match Xqk B.ver ver && !(Xqk B.esz eZ) with
   |true=>match B.pr with
    |true=>some (.pp B.cells off)
    |false=>(frzL B.cells).map λl=> .pp l off
   |false=>none
  | .mr b ver=>(rd b).bind λB=>match Xqk B.ver ver && Xqk B.esz eZ with
   |true=>match B.pr with
    |true=>Rv B.cells
    |false=>(frzL B.cells).bind Rv
   |false=>none
  | .agg l=>(frzL l).map .agg
  | .tup l=>(frzL l).map .tup
  | .fn f a c=>(frzL a).bind λa=>(frzL c).map λc=> .fn f a c
  | .ifc t v=>(frz rd fuel v).map (.ifc t)
  | .own _ _ _=>none
  |x=>some x
def lZ (l:List Nat) (b:Nat):Option Nat:=match l with
 | []=>none
 |c::r=>match Xqk c b with|true=>some 0|false=>(lZ r b).map (· +1)
def C0 (xs:List AV) (esz:Nat):aM:={cells:=xs,ver:=0,fro:=false,fz:=0,esz,pr:=true}
def cX (nid:Nat):List AV->List AV × List aM
 | []=>([],[])
 | .own xs n esz::r=>match cX (nid+1) r with|(l,bs)=>(.ref nid 0 0 n::l,C0 xs esz::bs)
 |x::r=>match cX nid r with|(l,bs)=>(x::l,bs)
def gq (nid:Nat):AV->AV × List aM
 | .tup l=>match cX nid l with|(l,bs)=>(.tup l,bs)
 | .own xs n esz=>(.ref nid 0 0 n,[C0 xs esz])
 |x=>(x,[])
def zf:Nat->List aM->List (Nat × aM)
 |_,[]=> []
 |n,B::r=>(n,B)::zf (n+1) r
def FA:List Nat->List aM->List (Nat × aM)
 |b::r,B::q=>(b,B)::FA r q
 |_,_=> []
def nV:List Nat->Bool
 | []=>true
 |b::r=> !lp r b && nV r
def wx (ρ:Nat->Nat->Option (Nat × Nat)) (v:Nat) (B:aM):aM:={B with cells:=(match B.pr with|true=>B.cells|false=>iP ρ B.cells),ver:=v+B.ver}
def HE (nid:Nat) (fp:List Nat) (vers:Nat->Nat) (n:Nat):Nat->Nat->Option (Nat × Nat):=λp v=>
 match fp[p]? with
 |some b=>some (b,vers b+v)
 |none=>match Xjd p n with|true=>some (nid+(p - fp.length),v)|false=>none
structure Lp where
 out:gy
 ups:List (Nat × aM)
 fp:List Nat
 md:AV
def sO (ap:AP) (H:bK) (rd:Nat->Option aM) (nid:Nat) (md:AV) (f:Nat) (args:List AV) (c:Cx):R Lp:=
 let fp:=lW rd 6 (eB (bD args))
 let rd:=λb=>match lp fp b with|true=>rd b|false=>none
 let shared:=match ap.fnAt f with|some F=>F.shared|none=>false
 match shared with
 | false=>
  match gm (frz rd 6) args with
  |none=> .bad 10
  |some args'=>
   (H c md f args' []).bind λ(out,h',md) c=>
   match h' with
   |_::_=> .bad 14
   | []=>
   let mark:=fp.filterMap λb=>(rd b).map λB=>(b,{B with fro:=true,fz:=B.cells.length})
   match out with
   | .ret v=>match gq nid v with|(v,bs)=>match Xqr bs.length 8 with|true=> .ok {out:= .ret v,ups:=zf nid bs++mark,fp,md} c|false=> .bad 13
   | .pan v=> .ok {out:= .pan v,ups:=mark,fp,md} c
 | true=>
  let vers:=λb=>match rd b with|some B=>B.ver|none=>0
  let ρ:Nat->Nat->Option (Nat × Nat):=λb v=>match Xqk v (vers b) with|true=>(lZ fp b).map λp=>(p,0)|false=>none
  match gm rd fp with
  |none=> .bad 11
  | some bl=>
   (H c md f (iP ρ args) (bl.map λB=> {B with cells:=(match B.pr with|true=>B.cells|false=>iP ρ B.cells),ver:=0})).bind λ(out,h',md) c=>
   match Xqr fp.length h'.length && nV fp with
   |false=> .bad 12
   |true=>
    let ρ':=HE nid fp vers h'.length
    let ups:=(FA fp h').map λ(b,B)=>(b,wx ρ' (vers b) B)
    let ex:=(h'.drop fp.length).map (wx ρ' 0)
    match out with
    | .ret v=>match gq (nid+(h'.length - fp.length)) (ren ρ' v) with|(v,bs)=>match Xqr ((h'.length - fp.length)+bs.length) 8 with|true=> .ok {out:= .ret v,ups:=zf nid (ex++bs)++ups,fp,md} c|false=> .bad 13
    | .pan v=>match Xqr (h'.length - fp.length) 8 with|true=> .ok {out:= .pan (ren ρ' v),ups:=zf nid (ex++ [])++ups,fp,md} c|false=> .bad 13
inductive a_ where
 |normal
 |exit (id:Nat)
 |ret
 |panic (v:AV)
structure St where
 env:eW
 hp:Hp
 md:AV
 dfs:List (Nat × List AV)
structure rF where
 rt:List Nat
 wt:List Nat
 rb:List Nat
 wb:List Nat
structure RS where
 env:eW
 hp:Hp
 md:AV
 dfs:List (Nat × List AV)
 dec:List (Nat × Bool)
 feet:List rF
def p_ (l:List Operand):List Nat:=l.filterMap fun| .tmp t=>some t|_=>none
def Cq (o:Oper):List Nat:=match o.dst with|some d=> [d]|none=> []
def mh (env:eW) (dst:Option Nat) (v:AV):eW:=match dst with|some d=>(d,v)::env|none=>env
def mM (ap:AP) (env:eW):Operand->AV
 | .tmp t=>env.get t
 | .const v=>zg v
 | .global g=>match (ap.gl[g]?).join with|some xs=> .pp xs 0|none=> .dead
 | .func f=> .fn f [] []
def Gr (ops:List Oper) (env:eW) (dec:List (Nat × Bool)) (o:Oper) (c:Cx):R (Bool × List (Nat × Bool)):=
 match o.guard with
 |none=> .ok (true,dec) c
 | some (j,want)=>
  match (ops[j]?).bind (·.dst) with
  |none=> .bad 20
  | some s=>match look dec s with
   |some b=> .ok (lit want b,dec) c
   |none=>match env.get s with
    | .bool b=>(ur c b).bind λb' c=> .ok (lit want b',(s,b')::dec) c
    | .tup []=> .ok (false,dec) c
    |_=> .bad 21
def fV (ops:List Oper) (o:Oper):List Nat:=
 match o.guard with
 |none=> []
 |some (j,_)=>match (ops[j]?).bind (·.dst) with|none=> []|some s=> [s]
def Mc (dec:List (Nat × Bool)) (o:Oper):Bool:=match o.dst with|none=>true|some d=>match look dec d with|none=>true|some _=>false
def Fj (ap:AP) (H:bK) (nid:Nat) (ops:List Oper) (o:Oper) (s:RS) (c:Cx):R (RS × Option AV):=
 (Gr ops s.env s.dec o c).bind λ(run,dec) c=>
 let rt:=p_ o.op.operands.toList++fV ops o
 match Mc dec o with
 |false=> .bad 35
 |true=>
 match run with
 |false=> .ok ({s with env:=mh s.env o.dst (.tup []),dec,feet:={rt,wt:=Cq o,rb:= [],wb:= []}::s.feet},none) c
 | true=>
  let ρ:=mM ap s.env
  let rdAll:=look s.hp
  match o.op with
  | .call {callee:= .value g,args,..}=>
   match ρ g with
   | .fn f first cap=>
    (sO ap H rdAll nid .dead f (first++args.toList.map ρ++cap) c).bind λr c=>
    let foot:rF:={rt,wt:=Cq o,rb:=r.fp,wb:=r.ups.map λ(q:Nat × aM)=>q.1}
    match H0 c o.dst with
    | (true,c)=>match r.out with
     | .ret v=>match r.ups.all (λ(q:Nat × aM)=>lp r.fp q.1) with
      |true=> .ok ({s with env:=mh s.env o.dst v,dec,feet:={rt,wt:=Cq o,rb:=r.fp,wb:= []}::s.feet},none) {c with ps:=(r.ups.map (λ(q:Nat × aM)=>some q.2)=r.ups.map (λ(q:Nat × aM)=>look s.hp q.1))::c.ps}
      |false=> .bad 36
     | .pan _=> .bad 37
    |(false,c)=>match r.out with
     | .ret v=> .ok ({s with env:=mh s.env o.dst v,hp:=r.ups++s.hp,dec,feet:=foot::s.feet},none) c
     | .pan v=> .ok ({s with hp:=r.ups++s.hp,dec,feet:=foot::s.feet},some v) c
   |_=> .bad 30
  | .call {callee:= .builtin .recover,..}=>
   match s.md with
   | .nilI=> .ok ({s with env:=mh s.env o.dst .nilI,dec,feet:={rt,wt:=Cq o,rb:= [],wb:= []}::s.feet},none) c
   | .ifc t v=> .ok ({s with env:=mh s.env o.dst (.ifc t v),md:= .nilI,dec,feet:={rt,wt:=Cq o,rb:= [],wb:= []}::s.feet},none) c
   |_=> .bad 33
  | .defer {callee:= .value g,args,..}=>
   match ρ g with
   | .fn f first cap=> .ok ({s with env:=mh s.env o.dst .dead,dfs:=(f,first++args.toList.map ρ++cap)::s.dfs,dec,feet:={rt,wt:=Cq o,rb:= [],wb:= []}::s.feet},none) c
   |_=> .bad 34
  | .panic x=>
   match ρ x with
   | .ifc t v=> .ok ({s with dec},some (.ifc t v)) c
   |_=> .bad 31
  | op=>
   let fp:=Oh ρ op
   let rd:=λb=>match lp fp b with|true=>rdAll b|false=>none
   let decs:Operand->Option Bool:=fun| .tmp t=>look dec t|_=>none
   (match sW ρ op with|some n=>ur c (Xqk n 0)|none=> .ok false c).bind λem c=>
   match opA ap nid ρ rd decs em op with
   |none=> .bad 32
   | some (v,ups,bs)=>(Qy c bs).bind λ_ c=>
    match yw c o.dst v with
    |(v,c)=>match yu c o.dst ups with
     |(ups,c)=> .ok ({s with env:=mh s.env o.dst v,hp:=ups++s.hp,dec,feet:={rt,wt:=Cq o,rb:=fp,wb:=ups.map λ(q:Nat × aM)=>q.1}::s.feet},none) c
def pZ (ap:AP) (H:bK) (ops:List Oper):List Oper->Nat->RS->Cx->R (RS × Option AV)
 | [],_,s,c=> .ok (s,none) c
 | o::r,nid,s,c=>(Fj ap H nid ops o s c).bind λ(s,p) c=>
  match p with
  |some v=> .ok (s,some v) c
  |none=>match s.feet with
   |f::_=>match f.wb.all (λx=>Xjd x (nid+8)) with|true=>pZ ap H ops r (nid+8) s c|false=> .bad 43
   | []=> .bad 44
def yS (a b:List Nat):Bool:=a.any (lp b)
def ia (a b:rF):Bool:=yS a.wt b.rt||yS a.wt b.wt||yS a.rt b.wt||yS a.wb b.rb||yS a.wb b.wb||yS a.rb b.wb
def pM (n:Nat) (bef:List Nat) (feet:List rF):Bool:=
 let l:=feet.reverse.zipIdx
 l.all λ(a,i)=>l.all λ(b,j)=> !(Xjd i j)|| !(ia a b||b.wb.any λx=>Xqr (n+8*i) x && Xjd x (n+8*i+8))||(bef.getD j 0).testBit i
def yc (keep:List Nat) (env:eW):List Nat:=keep.flatMap λt=>cH (env.get t)
def norm (base:Nat) (keep:List Nat) (s:St):St:=
 let env:=s.env
 let hp:=s.hp
 let rd:=look hp
 let ids:=lW rd 20 (eB (lW rd 20 (Xqm base)++yc keep env++s.dfs.flatMap λd=>bD d.2))
 let ids:=ids.filter λb=>(rd b).isSome
 let ρ:Nat->Nat->Option (Nat × Nat):=λb v=>match rd b with
  |some B=>match Xqk B.ver v with
   |true=>(lZ ids b).map λp=>(p,match Xjd p base with|true=>v|false=>0)
   |false=>none
  |none=>none
 {env:=keep.map λt=>(t,ren ρ (env.get t))
  hp:=ids.zipIdx.filterMap λ(b,p)=>(rd b).map λB=>(p,{B with cells:=(match B.pr with|true=>B.cells|false=>iP ρ B.cells),ver:=match Xjd p base with|true=>B.ver|false=>0})
  md:=s.md
  dfs:=s.dfs.map λd=>(d.1,iP ρ d.2)}
def fK:Hp->Nat
 | []=>0
 |(b,_)::r=>match Xjd b (fK r) with|true=>fK r|false=>b+1
def nO (ops:List Oper):Bool:=ops.zipIdx.all λ(o,i)=>o.after.toList.all λe=> !Region.binds .any e||Xjd e.on i
def Da (ap:AP) (H:bK) (base:Nat) (keep:List Nat) (ops:List Oper) (draw:Bool) (s:St) (c:Cx):R (a_ × St):=
 (pZ ap H ops ops (fK s.hp) {env:=s.env,hp:=s.hp,md:=s.md,dfs:=s.dfs,dec:= [],feet:= []} c).bind λ(s',p) c=>
 match p with
 | some v=>match draw with
  |true=> .bad 40
  |false=>match (cH v).isEmpty with
   |true=> .ok (.panic v,norm base keep ⟨s'.env,s'.hp,s'.md,s'.dfs⟩) c
   |false=> .ok (.panic v,⟨s'.env,s'.hp,s'.md,s'.dfs⟩) c
 |none=>
  match !draw||(pM (fK s.hp) (Region.before ops.toArray).toList s'.feet && nO ops && Xqk s'.dfs.length s.dfs.length) with
  |true=> .ok (.normal,norm base keep ⟨s'.env,s'.hp,s'.md,s'.dfs⟩) c
  |false=> .bad 41
def H4 (f:St->Cx->R (a_ × St)):Nat->St->Cx->R (a_ × St)
 |0,_,_=> .bad 50
 |n+1,s,c=>(f s c).bind λ(e,s) c=>match e with
  | .normal=>H4 f n s c
  |e=> .ok (e,s) c
def jv (ap:AP) (H:bK) (base:Nat) (keep:List Nat) (lf:Nat):Code->St->Cx->R (a_ × St)
 | .skip,s,c=> .ok (.normal,s) c
 | .label _,s,c=> .ok (.normal,s) c
 | .region _ ops draw,s,c=>Da ap H base keep ops.toList draw s c
 | .seq a b,s,c=>(jv ap H base keep lf a s c).bind λ(e,s) c=>match e with
  | .normal=>jv ap H base keep lf b s c
  |e=> .ok (e,s) c
 | .cond t a b,s,c=>match mM ap s.env t with
  | .bool x=>(ur c x).bind λx c=>match x with
   |true=>jv ap H base keep lf a s c
   |false=>jv ap H base keep lf b s c
  |_=> .bad 60
 | .block id b,s,c=>(jv ap H base keep lf b s c).bind λ(e,s) c=>match e with
  | .exit id'=>match Xqk id' id with|true=> .ok (.normal,s) c|false=> .ok (.exit id',s) c
  |e=> .ok (e,s) c
 | .loop b,s,c=>H4 (jv ap H base keep lf b) lf s c
 | .exit id,s,c=> .ok (.exit id,s) c
 | .ret,s,c=> .ok (.ret,s) c
 | .scope b,s,c=>jv ap H base keep lf b s c
 |_,_,_=> .bad 61
def qz (ap:AP) (env:eW) (hp:Hp):ResultVar->Option (AV × List Bool)
 | .tmp t=>some (env.get t,[])
 | .cell a t=>(ap.tyAt t).bind λti=>(Er ti (look hp) (env.get a)).map λ(v,_,bs)=>(v,bs)
def dm (l:List Nat) (b:Nat):Nat:=(l.filter (Xqk b)).length
def QU (base:Nat) (rd:Nat->Option aM) (v:AV):Option AV:=
 let fp:=lW rd 6 (eB (cH v))
 match fp.all (λb=>Xqr base b) with
 |true=>frz (λb=>match lp fp b with|true=>rd b|false=>none) 6 v
 |false=>none
def lJ (base:Nat) (rd:Nat->Option aM) (all:List Nat) (v:AV):Option AV:=
 let frzO (v:AV):Option AV:=match (cH v).all (λb=>Xjd b base) with|true=>some v|false=>QU base rd v
 match v with
 | .ref b ver 0 n=>match rd b with
  |some B=>match Xqr base b && Xqk B.ver ver && !B.fro && B.pr && Xqk (dm all b) 1 && Xjd 0 B.esz with
   |true=>some (.own (B.cells.take (n*B.esz)) n B.esz)
   |false=>frzO v
  |none=>none
 |v=>frzO v
def am (f:Func):Code:=f.body.getD .skip
def fI (md:AV) (args:List AV) (h:List aM):St:=
 {env:=args.zipIdx.map λ(x,i)=>(i,x),hp:=h.zipIdx.map λ(B,i)=>(i,B),md,dfs:= []}
def Gx (ap:AP) (H:bK):List (Nat × List AV)->AV->Hp->Cx->R (AV × Hp)
 | [],mode,hp,c=> .ok (mode,hp) c
 |_::_,_,_,_=> .bad 78
def K5 (rd:Nat->Option aM) (base:Nat):Nat:=(lW rd 20 (Xqm base)).length
def xf (ap:AP) (base:Nat) (F:Func) (env:eW) (hp:Hp) (c:Cx):R (gy × List aM):=
 let rd:=look hp
 let n:=K5 rd base
 match gm (qz ap env hp) F.results.toList,gm rd (Xqm n) with
 |some vs,some h'=>
  match h'.all (λB=>B.pr||(bD B.cells).all λb=>Xjd b n) with
  |false=> .bad 76
  |true=>
  (Qy c (vs.flatMap λ(q:AV × List Bool)=>q.2)).bind λ_ c=>
  let all:=vs.flatMap λ(q:AV × List Bool)=>lW rd 6 (eB (cH q.1))
  match gm (lJ n rd all) (vs.map λ(q:AV × List Bool)=>q.1) with
  |some [v]=> .ok (.ret v,h') c
  |some l=> .ok (.ret (.tup l),h') c
  |none=> .bad 70
 |_,_=> .bad 71
def C4 (base:Nat) (v:AV) (hp:Hp) (c:Cx):R (gy × List aM):=
 let n:=K5 (look hp) base
 match lJ n (look hp) (lW (look hp) 6 (eB (cH v))) v,gm (look hp) (Xqm n) with
 |some v,some h'=>
  match h'.all (λB=>B.pr||(bD B.cells).all λb=>Xjd b n) with
  |false=> .bad 77
  |true=> .ok (.pan v,h') c
 |_,_=> .bad 72
def wT (ap:AP) (H:bK) (base:Nat) (F:Func) (e:a_) (s:St) (c:Cx):R (gy × List aM × AV):=
 let go (mode:AV):R (gy × List aM × AV):=
  (Gx ap H s.dfs mode s.hp c).bind λ(mode,hp) c=>
  match mode with
  | .nilI=>(xf ap base F s.env hp c).bind λ(o,h) c=> .ok (o,h,s.md) c
  | .ifc t v=>(C4 base (.ifc t v) hp c).bind λ(o,h) c=> .ok (o,h,s.md) c
  |_=> .bad 74
 match e with
 | .normal| .ret=>go .nilI
 | .panic (.ifc t v)=>match (cH v).isEmpty with|true=>go (.ifc t v)|false=> .bad 79
 |_=> .bad 73
def lF (ap:AP) (H:bK) (lf:Nat) (md:AV) (f:Nat) (args:List AV) (h:List aM) (c:Cx):R (gy × List aM × AV):=
 match ap.fnAt f with
 |none=> .bad 80
 |some F=>match md with
  | .dead=>(jv ap H h.length F.keep lf (am F.fn) (fI .dead args h) c).bind λ(e,s) c=>wT ap H h.length F.fn e s c
  |_=> .bad 87
theorem kz {S:aH}:∀ {l:List AV} {vs:List Value},bw S l vs->l.length=vs.length
 | [],[],_=>rfl
 |_::_,_::_,h=>by simp only [bw] at h;simp [kz h.2]
 | [],_::_,h=>by simp [bw] at h
 |_::_,[],h=>by simp [bw] at h
theorem bA {g:bW} {m:aN} {S:aH}:∀ {l:List AV} {vs:List Value},aU g m S l vs->l.length=vs.length
 | [],[],_=>rfl
 |_::_,_::_,h=>by simp only [aU] at h;simp [bA h.2]
 | [],_::_,h=>by simp [aU] at h
 |_::_,[],h=>by simp [aU] at h
theorem BU {S:aH}:∀ {l:List AV} {vs:List Value} (_:bw S l vs) (i:Nat) {x:AV},l[i]? =some x->∃ v,vs[i]? =some v/\PR S x v
 | [],[],_,i,x,hx=>by simp at hx
 |a::l,v::vs,h,0,x,hx=>by simp only [bw] at h;simp at hx;subst hx;exact ⟨v,rfl,h.1⟩
 |a::l,v::vs,h,i+1,x,hx=>by simp only [bw] at h;simp at hx;simpa using BU h.2 i hx
 | [],_::_,h,_,_,_=>by simp [bw] at h
 |_::_,[],h,_,_,_=>by simp [bw] at h
theorem nH {g:bW} {m:aN} {S:aH}:∀ {l:List AV} {vs:List Value} (_:aU g m S l vs) (i:Nat) {x:AV},l[i]? =some x->∃ v,vs[i]? =some v/\VR g m S x v
 | [],[],_,i,x,hx=>by simp at hx
 |a::l,v::vs,h,0,x,hx=>by simp only [aU] at h;simp at hx;subst hx;exact ⟨v,rfl,h.1⟩
 |a::l,v::vs,h,i+1,x,hx=>by simp only [aU] at h;simp at hx;simpa using nH h.2 i hx
 | [],_::_,h,_,_,_=>by simp [aU] at h
 |_::_,[],h,_,_,_=>by simp [aU] at h
theorem iV {S:aH}:∀ {l l':List AV} {vs vs':List Value},bw S l vs->bw S l' vs'->bw S (l++l') (vs++vs')
 | [],_,[],_,_,h'=>by simpa using h'
 |_::_,_,_::_,_,h,h'=>by simp only [bw] at h;simp only [Xqu,bw];exact ⟨h.1,iV h.2 h'⟩
 | [],_,_::_,_,h,_=>by simp [bw] at h
 |_::_,_,[],_,h,_=>by simp [bw] at h
theorem dQ {g:bW} {m:aN} {S:aH}:∀ {l l':List AV} {vs vs':List Value},aU g m S l vs->aU g m S l' vs'->aU g m S (l++l') (vs++vs')
 | [],_,[],_,_,h'=>by simpa using h'
 |_::_,_,_::_,_,h,h'=>by simp only [aU] at h;simp only [Xqu,aU];exact ⟨h.1,dQ h.2 h'⟩
 | [],_,_::_,_,h,_=>by simp [aU] at h
 |_::_,_,[],_,h,_=>by simp [aU] at h
theorem iy {S:aH}:∀ (n:Nat) {l:List AV} {vs:List Value},bw S l vs->bw S (l.take n) (vs.take n)
 |0,_,_,_=>by simp [bw]
 |n+1,[],[],_=>by simp [bw]
 |n+1,_::_,_::_,h=>by simp only [bw] at h;simp only [Xx6,bw];exact ⟨h.1,iy n h.2⟩
 |_+1,[],_::_,h=>by simp [bw] at h
 |_+1,_::_,[],h=>by simp [bw] at h
theorem ky {S:aH}:∀ (n:Nat) {l:List AV} {vs:List Value},bw S l vs->bw S (l.drop n) (vs.drop n)
 |0,_,_,h=>by simpa using h
 |n+1,[],[],_=>by simp [bw]
 |n+1,_::_,_::_,h=>by simp only [bw] at h;simpa using ky n h.2
 |_+1,[],_::_,h=>by simp [bw] at h
 |_+1,_::_,[],h=>by simp [bw] at h
theorem mC {g:bW} {m:aN} {S:aH}:∀ (n:Nat) {l:List AV} {vs:List Value},aU g m S l vs->aU g m S (l.take n) (vs.take n)
 |0,_,_,_=>by simp [aU]
 |n+1,[],[],_=>by simp [aU]
 |n+1,_::_,_::_,h=>by simp only [aU] at h;simp only [Xx6,aU];exact ⟨h.1,mC n h.2⟩
 |_+1,[],_::_,h=>by simp [aU] at h
 |_+1,_::_,[],h=>by simp [aU] at h
theorem oS {g:bW} {m:aN} {S:aH}:∀ (n:Nat) {l:List AV} {vs:List Value},aU g m S l vs->aU g m S (l.drop n) (vs.drop n)
 |0,_,_,h=>by simpa using h
 |n+1,[],[],_=>by simp [aU]
 |n+1,_::_,_::_,h=>by simp only [aU] at h;simpa using oS n h.2
 |_+1,[],_::_,h=>by simp [aU] at h
 |_+1,_::_,[],h=>by simp [aU] at h
theorem iz.mono {S S':aH} (h:eO S S') {b o:Nat} {vs:List Value} (hs:iz S b o vs):iz S' b o vs:=λj u a=> ⟨h _ _ _ (hs j u a).1,(hs j u a).2⟩
mutual
theorem aQ {S S':aH} (h:eO S S'):∀ (x:AV) {v:Value},PR S x v->PR S' x v
 | .int _ _,_,p=>by simpa only [PR] using p
 | .bool _,_,p=>by simpa only [PR] using p
 | .str _,_,p=>by simpa only [PR] using p
 | .nilS,_,p=>by simpa only [PR] using p
 | .nilP,_,p=>by simpa only [PR] using p
 | .nilF,_,p=>by simpa only [PR] using p
 | .nilI,_,p=>by simpa only [PR] using p
 | .dead,_,_=>by simp only [PR]
 | .agg l,_,p=>by
  simp only [PR] at p ⊢;obtain ⟨vs,e,q⟩:=p;exact ⟨vs,e,aY h l q⟩
 | .tup l,_,p=>by
  simp only [PR] at p ⊢;obtain ⟨vs,e,q⟩:=p;exact ⟨vs,e,aY h l q⟩
 | .sl xs n nn,_,p=>by
  simp only [PR] at p ⊢;obtain ⟨a,cap,e,d,q⟩:=p;refine ⟨a,cap,e,d, ?_⟩;rcases q with q|⟨b,o,vs,z,q,hs⟩
  .exact .inl q
  .exact .inr ⟨b,o,vs,z,aY h xs q,hs.mono h⟩
 | .pp xs off,_,p=>by
  simp only [PR] at p ⊢;obtain ⟨b,o,vs,e,q,hs⟩:=p;exact ⟨b,o,vs,e,aY h xs q,hs.mono h⟩
 | .mp ks vs,_,p=>by
  simp only [PR] at p ⊢;rcases p with p|⟨b,k,B,e,h0,y,j,s⟩
  .exact .inl p
  .exact .inr ⟨b,k,B,e,h _ _ _ h0,h _ _ _ y,aY h ks j,aY h vs s⟩
 | .fn f a c,_,p=>by
  simp only [PR] at p ⊢;obtain ⟨i,A,e,q,r⟩:=p;exact ⟨i,A,e,aY h a q,aY h c r⟩
 | .ifc t x,_,p=>by
  simp only [PR] at p ⊢;obtain ⟨u,e,q⟩:=p;exact ⟨u,e,aQ h x q⟩
 | .ref _ _ _ _,_,p=>by simp only [PR] at p
 | .ptr _ _ _,_,p=>by simp only [PR] at p
 | .mr _ _,_,p=>by simp only [PR] at p
 | .own _ _ _,_,p=>by simp only [PR] at p
theorem aY {S S':aH} (h:eO S S'):∀ (l:List AV) {vs:List Value},bw S l vs->bw S' l vs
 | [],[],_=>by simp only [bw]
 |x::r,v::vs,p=>by simp only [bw] at p ⊢;exact ⟨aQ h x p.1,aY h r p.2⟩
 | [],_::_,p=>by simp [bw] at p
 |_::_,[],p=>by simp [bw] at p
end
mutual
theorem dZ {g:bW} {m:aN} {S:aH}:∀ (x:AV) {v:Value},PR S x v->VR g m S x v
 | .int _ _,_,p=>by simpa only [VR] using p
 | .bool _,_,p=>by simpa only [VR] using p
 | .str _,_,p=>by simpa only [VR] using p
 | .nilS,_,p=>by simpa only [VR] using p
 | .nilP,_,p=>by simpa only [VR] using p
 | .nilF,_,p=>by simpa only [VR] using p
 | .nilI,_,p=>by simpa only [VR] using p
 | .sl _ _ _,_,p=>by simpa only [VR] using p
 | .pp _ _,_,p=>by simpa only [VR] using p
 | .mp _ _,_,p=>by simpa only [VR] using p
 | .dead,_,_=>by simp only [VR]
 | .agg l,_,p=>by
  simp only [PR] at p;simp only [VR];obtain ⟨vs,e,q⟩:=p;exact ⟨vs,e,bz l q⟩
 | .tup l,_,p=>by
  simp only [PR] at p;simp only [VR];obtain ⟨vs,e,q⟩:=p;exact ⟨vs,e,bz l q⟩
 | .fn f a c,_,p=>by
  simp only [PR] at p;simp only [VR];obtain ⟨b,d,e,q,r⟩:=p;exact ⟨b,d,e,bz a q,bz c r⟩
 | .ifc t x,_,p=>by
  simp only [PR] at p;simp only [VR];obtain ⟨u,e,q⟩:=p;exact ⟨u,e,dZ x q⟩
 | .ref _ _ _ _,_,p=>by simp only [PR] at p
 | .ptr _ _ _,_,p=>by simp only [PR] at p
 | .mr _ _,_,p=>by simp only [PR] at p
 | .own _ _ _,_,p=>by simp only [PR] at p
theorem bz {g:bW} {m:aN} {S:aH}:∀ (l:List AV) {vs:List Value},bw S l vs->aU g m S l vs
 | [],[],_=>by simp only [aU]
 |x::r,v::vs,p=>by simp only [bw] at p;simp only [aU];exact ⟨dZ x p.1,bz r p.2⟩
 | [],_::_,p=>by simp [bw] at p
 |_::_,[],p=>by simp [bw] at p
end
def oy (g:bW) (m:aN) (g':bW) (m':aN) (ρ:Nat->Nat->Option (Nat × Nat)):Prop:=
 ∀ b ver b' ver',ρ b ver=some (b',ver')->∀ B,g b=some B->ver<=B.ver->
  ∃ B',g' b'=some B'/\ver'<=B'.ver/\(B'.ver=ver'->B.ver=ver/\m' b'=m b/\B'.esz=B.esz)
mutual
theorem um {g g':bW} {m G:aN} {S S':aH} {ρ:Nat->Nat->Option (Nat × Nat)} (j:eO S S') (h:oy g m g' G ρ):∀ (x:AV) {v:Value},VR g m S x v->VR g' G S' (ren ρ x) v
 | .int k n,_,p=>by simp only [VR] at p;simp only [ren,VR];exact aQ j _ p
 | .bool _,_,p=>by simp only [VR] at p;simp only [ren,VR];exact aQ j _ p
 | .str _,_,p=>by simp only [VR] at p;simp only [ren,VR];exact aQ j _ p
 | .nilS,_,p=>by simp only [VR] at p;simp only [ren,VR];exact aQ j _ p
 | .nilP,_,p=>by simp only [VR] at p;simp only [ren,VR];exact aQ j _ p
 | .nilF,_,p=>by simp only [VR] at p;simp only [ren,VR];exact aQ j _ p
 | .nilI,_,p=>by simp only [VR] at p;simp only [ren,VR];exact aQ j _ p
 | .sl _ _ _,_,p=>by simp only [VR] at p;simp only [ren,VR];exact aQ j _ p
 | .pp _ _,_,p=>by simp only [VR] at p;simp only [ren,VR];exact aQ j _ p
 | .mp _ _,_,p=>by simp only [VR] at p;simp only [ren,VR];exact aQ j _ p
 | .dead,_,_=>by simp only [ren,VR]
 | .own _ _ _,_,p=>by simp only [VR] at p
 | .agg l,_,p=>by
  simp only [VR] at p;simp only [ren,VR];obtain ⟨vs,e,q⟩:=p;exact ⟨vs,e,iB j h l q⟩
 | .tup l,_,p=>by
  simp only [VR] at p;simp only [ren,VR];obtain ⟨vs,e,q⟩:=p;exact ⟨vs,e,iB j h l q⟩
 | .fn f a c,_,p=>by
  simp only [VR] at p;simp only [ren,VR];obtain ⟨I,J,e,q,r⟩:=p;exact ⟨I,J,e,iB j h a q,iB j h c r⟩
 | .ifc t x,_,p=>by
  simp only [VR] at p;simp only [ren,VR];obtain ⟨u,e,q⟩:=p;exact ⟨u,e,um j h x q⟩
 | .ref b ver i n,_,p=>by
  simp only [VR] at p;simp only [ren];obtain ⟨B,F,E,s,q⟩:=p;cases hρ:ρ b ver with
  |none=>simp only [VR]
  |some bv=>
   obtain ⟨C,d⟩:=bv;obtain ⟨B',y,o,z⟩:=h b ver C d hρ B F E;simp only [VR];refine ⟨B',y,o,s,λe=> ?_⟩;obtain ⟨A,D,H⟩:=z e;rw [D,H];exact q A
 | .ptr b ver off,_,p=>by
  simp only [VR] at p;simp only [ren];obtain ⟨B,F,E,s,q⟩:=p;cases hρ:ρ b ver with
  |none=>simp only [VR]
  |some bv=>
   obtain ⟨C,d⟩:=bv;obtain ⟨B',y,o,z⟩:=h b ver C d hρ B F E;simp only [VR];refine ⟨B',y,o,s,λe=> ?_⟩;obtain ⟨A,D,_⟩:=z e;rw [D];exact q A
 | .mr b ver,_,p=>by
  simp only [VR] at p;simp only [ren];obtain ⟨B,F,E,s,q⟩:=p;cases hρ:ρ b ver with
  |none=>simp only [VR]
  |some bv=>
   obtain ⟨C,d⟩:=bv;obtain ⟨B',y,o,z⟩:=h b ver C d hρ B F E;simp only [VR];refine ⟨B',y,o,s,λe=> ?_⟩;obtain ⟨A,D,_⟩:=z e;rw [D];exact q A
theorem iB {g g':bW} {m a:aN} {S S':aH} {ρ:Nat->Nat->Option (Nat × Nat)} (b:eO S S') (h:oy g m g' a ρ):∀ (l:List AV) {vs:List Value},aU g m S l vs->aU g' a S' (iP ρ l) vs
 | [],[],_=>by simp only [iP,aU]
 |x::r,v::vs,p=>by simp only [aU] at p;simp only [iP,aU];exact ⟨um b h x p.1,iB b h r p.2⟩
 | [],_::_,p=>by simp [aU] at p
 |_::_,[],p=>by simp [aU] at p
end
def Ge (g:bW) (m:aN) (g':bW) (m':aN):Prop:=
 ∀ b B,g b=some B->∃ B',g' b=some B'/\B'.esz=B.esz/\((B'.ver=B.ver/\m' b=m b)\/B.ver<B'.ver)
theorem Ge.refl (g:bW) (m:aN):Ge g m g m:=λ_ B h=> ⟨B,h,rfl,.inl ⟨rfl,rfl⟩⟩
theorem Ge.trans {g g' i:bW} {m k a:aN} (h:Ge g m g' k) (p:Ge g' k i a):Ge g m i a:=by
 intro b B s;obtain ⟨B',j,e,c⟩:=h b B s;obtain ⟨B'',f,e',l⟩:=p b B' j;refine ⟨B'',f,e'.trans e, ?_⟩;rcases c with ⟨r,o⟩|c<;>rcases l with ⟨q,n⟩|d
 .exact .inl ⟨q.trans r,n.trans o⟩
 .exact .inr (by omega)
 .exact .inr (by omega)
 .exact .inr (by omega)
mutual
theorem lz {g g':bW} {m C:aN} {S S':aH} (o:eO S S') (h:Ge g m g' C):∀ (x:AV) {v:Value},VR g m S x v->VR g' C S' x v
 | .int k n,_,p=>by simp only [VR] at p ⊢;exact aQ o _ p
 | .bool _,_,p=>by simp only [VR] at p ⊢;exact aQ o _ p
 | .str _,_,p=>by simp only [VR] at p ⊢;exact aQ o _ p
 | .nilS,_,p=>by simp only [VR] at p ⊢;exact aQ o _ p
 | .nilP,_,p=>by simp only [VR] at p ⊢;exact aQ o _ p
 | .nilF,_,p=>by simp only [VR] at p ⊢;exact aQ o _ p
 | .nilI,_,p=>by simp only [VR] at p ⊢;exact aQ o _ p
 | .sl _ _ _,_,p=>by simp only [VR] at p ⊢;exact aQ o _ p
 | .pp _ _,_,p=>by simp only [VR] at p ⊢;exact aQ o _ p
 | .mp _ _,_,p=>by simp only [VR] at p ⊢;exact aQ o _ p
 | .dead,_,_=>by simp only [VR]
 | .own _ _ _,_,p=>by simp only [VR] at p
 | .agg l,_,p=>by
  simp only [VR] at p ⊢;obtain ⟨vs,e,q⟩:=p;exact ⟨vs,e,iA o h l q⟩
 | .tup l,_,p=>by
  simp only [VR] at p ⊢;obtain ⟨vs,e,q⟩:=p;exact ⟨vs,e,iA o h l q⟩
 | .fn f a c,_,p=>by
  simp only [VR] at p ⊢;obtain ⟨F,G,e,q,r⟩:=p;exact ⟨F,G,e,iA o h a q,iA o h c r⟩
 | .ifc t x,_,p=>by
  simp only [VR] at p ⊢;obtain ⟨u,e,q⟩:=p;exact ⟨u,e,lz o h x q⟩
 | .ref b ver i n,_,p=>by
  simp only [VR] at p ⊢;obtain ⟨B,z,E,d,q⟩:=p;obtain ⟨B',j,A,y⟩:=h b B z;rcases y with ⟨D,s⟩|c
  .refine ⟨B',j,by omega,d,λe=> ?_⟩;rw [s,A];exact q (by omega)
  .exact ⟨B',j,by omega,d,λe=>by omega⟩
 | .ptr b ver off,_,p=>by
  simp only [VR] at p ⊢;obtain ⟨B,z,E,d,q⟩:=p;obtain ⟨B',j,A,y⟩:=h b B z;rcases y with ⟨D,s⟩|c
  .refine ⟨B',j,by omega,d,λe=> ?_⟩;rw [s];exact q (by omega)
  .exact ⟨B',j,by omega,d,λe=>by omega⟩
 | .mr b ver,_,p=>by
  simp only [VR] at p ⊢;obtain ⟨B,z,E,d,q⟩:=p;obtain ⟨B',j,A,y⟩:=h b B z;rcases y with ⟨D,s⟩|c
  .refine ⟨B',j,by omega,d,λe=> ?_⟩;rw [s];exact q (by omega)
  .exact ⟨B',j,by omega,d,λe=>by omega⟩
theorem iA {g g':bW} {m a:aN} {S S':aH} (b:eO S S') (h:Ge g m g' a):∀ (l:List AV) {vs:List Value},aU g m S l vs->aU g' a S' l vs
 | [],[],_=>by simp only [aU]
 |x::r,v::vs,p=>by simp only [aU] at p ⊢;exact ⟨lz b h x p.1,iA b h r p.2⟩
 | [],_::_,p=>by simp [aU] at p
 |_::_,[],p=>by simp [aU] at p
end
def cG (ap:AP) (S:aH):Prop:=∀ k xs,(ap.gl[k]?).join=some xs->∃ vs,bw S xs vs/\iz S k 0 vs
structure dP (P:Program) (ap:AP):Prop where
 ty:∀ t ti,ap.tyAt t=some ti->Pw P t=some ti
def rU (es:Array MapEntry):Array Value:=#[.agg (es.map (·.key)),.agg (es.map (·.val))]
def gA (w:World) (k z:Nat) (cur:Array Value) (e:TypeId):Prop:=
 (z ≠ eZ/\w.heap[k]? =some (.cells cur e (0,0)))\/(z=eZ/\∃ es clk,w.heap[k]? =some (.map es clk)/\cur=rU es)
def aR (w:World) (k o:Nat):Option Value:=match w.heap[k]? with
 |some (.map es _)=>(rU es)[o]?
 |_=>match w.cell? ⟨k,o,none⟩ with|some v=>if v.oneCell' then some v else none|none=>none
theorem gA.of {w:World} {k z:Nat} {cur:Array Value} {e:TypeId} (a:z ≠ eZ) (h:w.heap[k]? =some (.cells cur e (0,0))):gA w k z cur e:= .inl ⟨a,h⟩
theorem gA.cells {w:World} {k z:Nat} {cur:Array Value} {e:TypeId} (h:gA w k z cur e) (a:z ≠ eZ):w.heap[k]? =some (.cells cur e (0,0)):=by
 rcases h with h|h
 .exact h.2
 .exact absurd h.1 a
theorem gA.map {w:World} {k z:Nat} {cur:Array Value} {e:TypeId} (h:gA w k z cur e) (a:z=eZ):∃ es clk,w.heap[k]? =some (.map es clk)/\cur=rU es:=by
 rcases h with h|h
 .exact absurd a h.1
 .exact h.2
theorem gA.same {w w':World} {k z:Nat} {cur:Array Value} {e:TypeId} (h:gA w k z cur e) (a:w'.heap[k]? =w.heap[k]?):gA w' k z cur e:=by
 unfold gA;rw [a];exact h
theorem gA.lt {w:World} {k z:Nat} {cur:Array Value} {e:TypeId} (h:gA w k z cur e):k<w.heap.size:=by
 rcases h with ⟨_,h⟩|⟨_,es,a,h,_⟩<;>exact (Array.getElem?_eq_some_iff.1 h).1
theorem eR {w w':World} {k o:Nat} (b:w'.heap[k]? =w.heap[k]?):aR w' k o=aR w k o:=by
 unfold aR;rw [b,World.cell?_of_block (w:=w) (a:=⟨k,o,none⟩) b]
theorem iY {w:World} {k o:Nat} {v:Value} (h:aR w k o=some v) (a:v.oneCell'=true):w.cell? ⟨k,o,none⟩=some v:=by
 unfold aR at h;split at h
 .rename_i es b d;exfalso;unfold rU at h;rcases (show o=0\/o=1\/2<=o by omega) with rfl|rfl|ho
  .cases h;cases a
  .cases h;cases a
  .rw [Array.getElem?_eq_none (by simpa using ho)] at h;cases h
 .split at h
  .rename_i e c;split at h
   .cases h;exact c
   .cases h
  .cases h
theorem eQ {w:World} {k o:Nat} {v:Value} (h:w.cell? ⟨k,o,none⟩=some v) (c:v.oneCell'=true):aR w k o=some v:=by
 unfold aR;split
 .rename_i es a b;unfold World.cell? at h;simp only [b] at h;cases h
 .rw [h];simp only;rw [if_pos c]
theorem qi {w:World} {k o:Nat} {v:Value} (h:aR w k o=some v) (d:v.oneCell'=false):∃ es a,w.heap[k]? =some (.map es a)/\(rU es)[o]? =some v:=by
 unfold aR at h;split at h
 .rename_i es a c;exact ⟨es,a,c,h⟩
 .split at h
  .split at h
   .rename_i b;cases h;rw [d] at b;cases b
   .cases h
  .cases h
theorem ju {w:World} {k o:Nat} {v:Value} (h:aR w k o=some v):k<w.heap.size:=by
 cases a:v.oneCell' with
 |true=>exact World.block_lt_of_cell? w _ (iY h a)
 |false=>
  obtain ⟨_,_,b,_⟩:=qi h a;exact (Array.getElem?_eq_some_iff.1 b).1
structure Jm (g:bW) (m:aN) (S:aH) (w:World) (B:aM) (k c:Nat):Prop where
 lies:∃ cur e vs rest,gA w k B.esz cur e/\cur.toList=vs++rest/\(B.pr=true->bw S B.cells vs)/\aU g m S B.cells vs/\(B.esz ≠ eZ->∀ u ∈ vs,u.oneCell'=true)/\(0<B.esz->B.esz ≠ eZ->cur.size=c*B.esz/\c<=maxLen)
 fz0:B.fro=false->B.fz=0
 fzle:B.fz<=B.cells.length
structure bE (ap:AP) (g:bW) (m:aN) (S:aH) (w:World):Prop where
 inj:∀ b b' B B',g b=some B->g b'=some B'->(m b).1=(m b').1->b=b'
 blk:∀ b B,g b=some B->Jm g m S w B (m b).1 (m b).2
 sealed:∀ k o v,S k o=some v->aR w k o=some v
 own:∀ b B,g b=some B->∀ o v,S (m b).1 o=some v->B.fro=true/\o<B.fz
 glob:cG ap S
structure Fr (g:bW) (m:aN) (S:aH) (w:World) (g':bW) (m':aN) (S':aH) (w':World):Prop where
 ge:Ge g m g' m'
 sle:eO S S'
 os:w'.os=w.os
 tape:w'.tape=w.tape
 output:w'.output=w.output
 size:w.heap.size<=w'.heap.size
 rest:∀ k,k<w.heap.size->(∀ b B,g b=some B->(m b).1 ≠ k)->w'.heap[k]? =w.heap[k]?
 img:∀ b B,g' b=some B->w.heap.size<=(m' b).1\/(∃ B0,g b=some B0/\(m' b).1=(m b).1)
 sealN:∀ k o v,S' k o=some v->S k o=some v\/w.heap.size<=k\/∃ b B,g b=some B/\(m b).1=k
theorem Fr.refl (g:bW) (m:aN) (S:aH) (w:World):Fr g m S w g m S w:=
 ⟨Ge.refl g m,eO.refl S,rfl,rfl,rfl,κ _,λ_ _ _=>rfl,λ_ B h=> .inr ⟨B,h,rfl⟩,λ_ _ _ h=> .inl h⟩
theorem Fr.trans {g g' l:bW} {m r i:aN} {S S' S'':aH} {w w' j:World} (h:Fr g m S w g' r S' w') (d:Fr g' r S' w' l i S'' j):Fr g m S w l i S'' j:=by
 refine ⟨h.ge.trans d.ge,h.sle.trans d.sle,d.os.trans h.os,d.tape.trans h.tape,d.output.trans h.output,Xqs h.size d.size, ?_, ?_, ?_⟩
 .intro k s t;rw [d.rest k (Nat.lt_of_lt_of_le s h.size) ?_,h.rest k s t];intro b B n e;rcases h.img b B n with c|⟨B0,a,c⟩
  .omega
  .exact t b B0 a (c ▸ e)
 .intro b B n;rcases d.img b B n with c|⟨B0,a,c⟩
  .exact .inl (Xqs h.size c)
  .rcases h.img b B0 a with p|⟨B1,q,p⟩
   .exact .inl (c ▸ p)
   .exact .inr ⟨B1,q,c.trans p⟩
 .intro k o v u;rcases d.sealN k o v u with f|f|⟨b,B,n,f⟩
  .exact h.sealN k o v f
  .exact .inr (.inl (Xqs h.size f))
  .rcases h.img b B n with c|⟨B0,a,c⟩
   .exact .inr (.inl (f ▸ c))
   .exact .inr (.inr ⟨b,B0,a,by rw [<- f,c]⟩)
theorem bE.lt {ap:AP} {g:bW} {m:aN} {S:aH} {w:World} (h:bE ap g m S w) {b:Nat} {B:aM} (c:g b=some B):(m b).1<w.heap.size:=by
 obtain ⟨cur,e,vs,rest,a,_⟩:=(h.blk b B c).lies;exact a.lt
theorem bE.one {ap:AP} {g:bW} {m:aN} {S:aH} {w:World} (h:bE ap g m S w) {k o:Nat} {v:Value} (b:S k o=some v) (a:v.oneCell'=true):w.cell? ⟨k,o,none⟩=some v:=iY (h.sealed k o v b) a
theorem oV {w:World} {k j:Nat} {cur:Array Value} {e:TypeId} {fr:Nat × Nat} (h:w.heap[k]? =some (.cells cur e fr)):w.cell? ⟨k,j,none⟩=cur.toList[j]? :=by
 rw [cell_of_row w k j cur e fr h];simp
theorem gA.get {w:World} {k z j:Nat} {cur:Array Value} {e:TypeId} {u:Value} (h:gA w k z cur e) (a:cur.toList[j]? =some u) (c:z ≠ eZ->u.oneCell'=true):aR w k j=some u:=by
 rcases h with ⟨d,h⟩|⟨_,es,b,h,rfl⟩
 .exact eQ (by rw [oV h];exact a) (c d)
 .unfold aR;rw [h];simpa using a
theorem dw {a b:IntKind} (h:fj a b=true):a=b:=by cases a<;>cases b<;>first|rfl|(exact absurd h (by decide))
theorem aG {a b:Nat} (h:Xqk a b=true):a=b:=Nat.eq_of_beq_eq_true h
theorem dB {a b:Nat} (h:Xqr a b=true):a<=b:=Nat.le_of_ble_eq_true h
theorem dC {a b:Nat} (h:Xjd a b=true):a<b:=by
 have:Xqr (a+1) b=true:=h;exact dB this
theorem U5 {S:aH} {x:AV} {v:Value} (h:PR S x v) (a:kO x=true):v.oneCell'=true:=by
 cases x<;>simp only [PR] at h<;>first
  |(subst h;rfl)
  |(rcases h with ⟨rfl,_⟩|⟨_,_,_,rfl,_⟩<;>rfl)
  |(obtain ⟨_,_,_,rfl,_⟩:=h;rfl)
  |(obtain ⟨_,_,rfl,_⟩:=h;rfl)
  |(obtain ⟨_,rfl,_⟩:=h;first|rfl|exact absurd a (by simp [kO]))
  |(exact absurd a (by simp [kO]))
theorem FI {g:bW} {m:aN} {S:aH} {x:AV} {v:Value} (h:VR g m S x v) (a:kO x=true):v.oneCell'=true:=by
 cases x<;>simp only [VR] at h<;>first
  | (exact U5 h a)
    |(obtain ⟨_,_,_,⟨_,_,rfl⟩,_⟩:=h;rfl)
  |(obtain ⟨_,_,_,⟨_,_,_,rfl⟩,_⟩:=h;rfl)
  |(obtain ⟨_,_,rfl,_⟩:=h;rfl)
  |(obtain ⟨_,rfl,_⟩:=h;first|rfl|exact absurd a (by simp [kO]))
  |(exact absurd a (by simp [kO]))
end AM
namespace AM
open Go
structure wK (P:Program) (t:Nat) (ti:TI) (i:TypeInfo) (d:TypeDesc) (z:Value):Prop where
 info:P.info? t=some i
 und:P.underlying t=some d
 d_eq:ti.d=gX P (some d)
 size:ti.size=i.size
 bytes:ti.bytes=i.bytes
 zero:i.zero=some z
 zcells:ti.zero=z.cells.toList.map zg
 zleaf:∀ x ∈ ti.zero,kO x=true
 zsize:z.cells.size=i.size
 lks:ti.lks.length=i.size
 pos:0<i.size
 zagg:XV i d=true
 fld:MP P d=true
 small:i.size<eZ
theorem cB {P:Program} {ap:AP} (e:dP P ap) {t:Nat} {ti:TI} (h:ap.tyAt t=some ti):∃ i d z,wK P t ti i d z:=by
 have a:=e.ty t ti h;unfold Pw at a;cases b:P.info? t with
 |none=>simp [b] at a
 | some i=>
  cases hd:P.underlying t with
  |none=>simp [b,hd] at a
  | some d=>
   simp only [b,hd] at a;split at a
   .rename_i j;simp only [π] at j;obtain ⟨⟨⟨⟨⟨⟨q,f⟩,o⟩,p⟩,n⟩,s⟩,l⟩:=j;cases c:i.zero with
    |none=>simp [c] at s
    | some z=>
     cases a;have k:Ag i=z.cells.toList.map zg:=by simp [Ag,c]
     refine ⟨i,d,z,b,hd,rfl,rfl,rfl,c,k, ?_, ?_,aG q,dC n,f.1,f.2,dC l⟩
     .intro x r;exact List.all_eq_true.1 o x r
     .have:=aG p;rw [k] at this;simpa using this
   .cases a
theorem dM {P:Program} {d:TypeDesc} {e:Nat} (h:gX P (some d)= .slice e):d= .slice e:=by cases d<;>simp [gX] at h;subst h;rfl
theorem ub {P:Program} {d:TypeDesc} {n e:Nat} (h:gX P (some d)= .array n e):d= .array n e:=by cases d<;>simp [gX] at h;obtain ⟨rfl,rfl⟩:=h;rfl
theorem sr {P:Program} {d:TypeDesc} (h:gX P (some d)= .str):d= .string:=by cases d<;>simp [gX] at h;rfl
theorem Pt {P:Program} {d:TypeDesc} {k:IntKind} (h:gX P (some d)= .int k):d= .int k:=by cases d<;>simp [gX] at h;subst h;rfl
theorem SX {P:Program} {d:TypeDesc} (h:gX P (some d)= .bool):d= .bool:=by cases d<;>simp [gX] at h;rfl
theorem qF {P:Program} {d:TypeDesc} {a:List (Nat × Nat × Nat)} (h:gX P (some d)= .struct a):
  ∃ fields:Array Field,d= .struct fields/\a=fields.toList.map λf=>(f.offset,f.type,match P.info? f.type with|some i=>i.size|none=>0):=by
 cases d<;>simp [gX] at h
 exact ⟨_,rfl,h.symm⟩
theorem zV {P:Program} (d:TypeDesc):CJ (gX P (some d))=d.isRow:=by cases d<;>simp [gX,CJ,TypeDesc.isRow]
theorem AG (S:aH) (v:Value):PR S (CW v) v:=by
 cases v<;>simp only [CW,PR]
 case pointer a=>cases a<;>simp only [PR]
 case map a=>
  cases a with
  |none=>simp [PR]
  |some _=>simp only [PR]
 case slice a n c=>
  split<;>simp only [PR]
theorem DF (S:aH) (v:Value):PR S (zg v) v:=by
 cases v<;>simp only [zg]<;>try exact AG S _
 case agg cs=>
  simp only [PR];refine ⟨cs.toList,by simp, ?_⟩
  induction cs.toList with
  |nil=>simp [bw]
  |cons c r ih=>simp only [Xqf,bw];exact ⟨AG S c,ih⟩
 case tuple vs=>
  split
  .rename_i h;simp only [PR];exact ⟨[],by rw [<- h],by simp [bw]⟩
  .simp only [PR]
theorem qV (S:aH):∀ l:List Value,bw S (l.map zg) l
 | []=>by simp [bw]
 |v::r=>by simp only [Xqf,bw];exact ⟨DF S v,qV S r⟩
theorem U7 {g:bW} {m:aN} {S:aH} {k:LK} {c:AV} {v:Value} (h:VR g m S c v) (d:chk k c=true):VR g m S (eta k c) v:=by
 cases k<;>cases c<;>simp [chk] at d<;>simp only [eta,AV.toInt,AV.toBool,AV.toStr,AV.slX,AV.slN]<;>try exact h
 .rw [dw d];exact h
 .simp only [VR,PR] at h ⊢;subst h;exact ⟨none,0,rfl,κ _,.inl ⟨λ_=>trivial,trivial,trivial,rfl⟩⟩
 .simp only [VR,PR] at h ⊢;obtain ⟨a,cap,e,b,q⟩:=h;refine ⟨a,cap,e,b, ?_⟩;rcases q with ⟨l,f,j,i⟩|q
  .exact .inl ⟨λ_=>trivial,f,j,i⟩
  .exact .inr q
theorem vC {k:LK} {c:AV} (h:chk k c=true):c ≠ .dead:=by intro e;subst e;cases k<;>simp [chk] at h
theorem getD_some {a:List AV} {i:Nat} (h:a.getD i .dead ≠ .dead):a[i]? =some (a.getD i .dead):=by
 rw [μ] at h ⊢;cases b:a[i]? with
 |none=>simp [b] at h
 |some x=>simp
theorem kL (b:List AV) (a:Nat):(b.drop a).headD .dead=b.getD a .dead:=by
 rw [Xw0,Xkt,μ]
theorem KE (ty:Bool) (b:List AV) (a:Nat):pR ty [] b a= []:=rfl
theorem rX (ty:Bool) (k:LK) (ks:List LK) (b:List AV) (a:Nat):pR ty (k::ks) b a=(match ty with|true=>eta k (b.getD a .dead)|false=>b.getD a .dead)::pR ty ks b (a+1):=by
 show _::EM ty ks (b.drop a).tail=_::EM ty ks (b.drop (a+1));rw [Xk2];cases ty<;>simp only [kL]
theorem JB (ty:Bool) (k:LK) (ks:List LK) (b:List AV) (a:Nat):Cg ty (k::ks) b a=(match ty with|true=>chk k (b.getD a .dead)|false=>chk .oth (b.getD a .dead))::Cg ty ks b (a+1):=by
 show _::LR ty ks (b.drop a).tail=_::LR ty ks (b.drop (a+1));rw [Xk2];cases ty<;>simp only [kL]
theorem lO {g:bW} {m:aN} {S:aH} (ty:Bool) {i:List AV} {vs:List Value} (l:aU g m S i vs):∀ (lks:List LK) (a:Nat),(∀ b ∈ Cg ty lks i a,b=true)->
  ∃ e:List Value,e.length=lks.length/\(∀ j u,e[j]? =some u->vs[a+j]? =some u)/\aU g m S (pR ty lks i a) e:=by
 intro lks
 induction lks with
 |nil=>exact λa _=> ⟨[],rfl,λ_ _ h=>by simp at h,by simp [KE,aU]⟩
 | cons k ks ih=>
  intro a h;simp only [JB,List.mem_cons,forall_eq_or_imp] at h;obtain ⟨e,n,p,o⟩:=ih (a+1) h.2;have key:∃ v,vs[a]? =some v/\VR g m S ((pR ty (k::ks) i a).headD .dead) v:=by
   rw [rX];cases ty with
   |true=>
    obtain ⟨v,d,c⟩:=nH l a (getD_some (vC h.1));exact ⟨v,d,U7 c h.1⟩
   |false=>
    obtain ⟨v,d,c⟩:=nH l a (getD_some (vC h.1));exact ⟨v,d,c⟩
  obtain ⟨v,d,c⟩:=key;rw [rX] at c;refine ⟨v::e,by simp [n], ?_, ?_⟩
  .intro j u f;cases j with
   |zero=>simp at f;subst f;simpa using d
   |succ j=>simp at f;rw [show a+(j+1)=a+1+j from by omega];exact p j u f
  .simp only [rX,aU];exact ⟨c,o⟩
theorem yM {P:Program} {w:World} {t:Nat} {ti:TI} {i:TypeInfo} {d:TypeDesc} {z:Value} (f:wK P t ti i d z) {g:bW} {m:aN} {S:aH} {cs:List AV} {e:List Value} {k a:Nat}
  (hl:e.length=ti.lks.length) (hu:∀ j u,e[j]? =some u->w.cell? ⟨k,a+j,none⟩=some u) (hr:aU g m S cs e) {v:AV} (hv:mY ti cs=some v):
  ∃ cv,(loadVar t ⟨k,a,none⟩).run P w= .ok cv w/\VR g m S v cv:=by
 unfold mY at hv;rw [f.d_eq,zV] at hv;split at hv
 .rename_i b;cases hv;refine ⟨.agg e.toArray,run_loadVar_mid w k a t e d hu f.und b (by simp [f.info,hl,f.lks]), ?_⟩;simp only [VR];exact ⟨e,rfl,hr⟩
 .rename_i b;split at hv
  .rename_i c;cases hv;cases e with
   |nil=>simp [aU] at hr
   | cons u r=>
    simp only [aU] at hr;refine ⟨u, ?_,hr.1⟩;have h:(isAgg t).run P w= .ok false w:=by
     unfold isAgg;rw [Sem.run_bind,run_underlying f.und w];cases d<;>simp_all [TypeDesc.isRow]
    have l:=hu 0 u rfl;simp only [Xq3] at l;simp [loadVar,h,l]
  .cases hv
theorem bind_some {α β:Type} {x:Option α} {f:α->Option β} {b:β} (h:x.bind f=some b):∃ a,x=some a/\f a=some b:=by
 cases x with
 |none=>simp at h
 |some a=>exact ⟨a,rfl,h⟩
theorem aK {v b:AV} {bs a:List Bool} {ups:List (Nat × aM)} (h:bf v bs=some (b,ups,a)):b=v/\ups= []/\a=bs:=by
 unfold bf at h;cases h;exact ⟨rfl,rfl,rfl⟩
section
variable {P:Program} {ap:AP} {g:bW} {m:aN} {S:aH} {w:World}
theorem vI (L:bE ap g m S w) {rd:bW} (H:∀ b B,rd b=some B->g b=some B) {t:Nat} {ti:TI} {i:TypeInfo} {d:TypeDesc} {z:Value} (K:wK P t ti i d z)
  {p v:AV} {cp:Value} (hp:VR g m S p cp) {ups:List (Nat × aM)} {bs:List Bool} (h:Er ti rd p=some (v,ups,bs)) (hbs:∀ b ∈ bs,b=true):
  ups= []/\∃ cv,(Instr.loadAt t cp).run P w= .ok cv w/\VR g m S v cv:=by
 unfold Er at h;split at h
 .rename_i R f;obtain ⟨M,l,h⟩:=bind_some h;obtain ⟨rfl,rfl,rfl⟩:=aK h;simp only [VR,PR] at hp;obtain ⟨b,o,vs,rfl,hp,hs⟩:=hp;obtain ⟨O,F,G,A⟩:=lO (g:=g) (m:=m) true (bz _ hp) ti.lks f hbs;obtain ⟨cv,C,D⟩:=yM (w:=w) K (k:=b) (a:=o+f) F (λj u x=>by
   have J:=hs (f+j) u (G j u x);have:=L.one J.1 J.2;rw [Xzm];exact this) A l
  exact ⟨rfl,cv,by simpa [Instr.loadAt,Instr.sureAddr] using C,D⟩
 .rename_i b ver f;obtain ⟨B,Q,h⟩:=bind_some h;split at h
  .rename_i c;obtain ⟨M,l,h⟩:=bind_some h;obtain ⟨rfl,rfl,rfl⟩:=aK h;simp only [VR] at hp;obtain ⟨B',n,_,_,q⟩:=hp;have r:=H b B Q;rw [r] at n;cases n;simp only [π,Xqt] at c;have y:B.esz ≠ eZ:=λe=>by rw [e] at c;exact absurd c.2 (by decide)
   have q:=q (aG c.1);subst q;obtain ⟨cur,e,vs,rest,I,N,_,E,_⟩:=(L.blk b B r).lies;have I:=I.cells y;obtain ⟨O,F,G,A⟩:=lO _ E ti.lks f hbs;obtain ⟨cv,C,D⟩:=yM (w:=w) K (k:=(m b).1) (a:=f) F (λj u x=>by
    have s:=G j u x;rw [oV I,N,List.getElem?_append_left (List.getElem?_eq_some_iff.1 s).1];exact s) A l
   exact ⟨rfl,cv,by simpa [Instr.loadAt,Instr.sureAddr] using C,D⟩
  .cases h
 .cases h
theorem zh {p f:AV} {d:Value} (hp:VR g m S p d) {o:Nat} (h:NX p o=some f):∃ a:Addr,d= .pointer (some a)/\VR g m S f (.pointer (some (a.add o))):=by
 unfold NX at h;split at h<;>cases h
 .rename_i b ver c;simp only [VR] at hp;obtain ⟨B,l,r,⟨k,n,rfl⟩,q⟩:=hp;refine ⟨_,rfl, ?_⟩;simp only [VR];refine ⟨B,l,r,⟨k,n+o,by rw [Addr.add_mid]⟩,λe=> ?_⟩;have q:=q e;simp only [Value.pointer.injEq,Option.some.injEq,Addr.mk.injEq] at q;obtain ⟨i,j,_⟩:=q;rw [Addr.add_mid,i,j]
 .rename_i s c;simp only [VR,PR] at hp;obtain ⟨b,k,vs,rfl,hp,hs⟩:=hp;refine ⟨_,rfl, ?_⟩;simp only [VR,PR];exact ⟨b,k,vs,by rw [Addr.add_mid,Xzm],hp,hs⟩
end
end AM
namespace AM
open Go
section
variable {P:Program} {ap:AP} {g:bW} {m:aN} {S:aH} {w:World}
theorem bQ {b:Bool} {l:List Bool} (h:∀ x ∈ b::l,x=true):b=true/\∀ x ∈ l,x=true:=⟨h b (by simp),λx a=>h x (by simp [a])⟩
theorem ij {t:Nat} {ti:TI} {i:TypeInfo} {d:TypeDesc} {z:Value} (a:wK P t ti i d z) (w:World):(Go.sizeOf t).run P w= .ok ti.size w:=by
 simp [Go.sizeOf,typeInfo,a.info,a.size]
theorem vF {x:AV} {a:Value} (b:VR g m S x a) {n:Int} (h:H2 x=some n):∃ k,a= .int k n:=by
 cases x<;>simp [H2] at h
 subst h;simp only [VR,PR] at b;exact ⟨_,b⟩
theorem wA {t:Nat} {ti:TI} {i:TypeInfo} {d:TypeDesc} {z:Value} (u:wK P t ti i d z) {n:List (Nat × Nat × Nat)} (hd:ti.d= .struct n) {f o y q:Nat} (l:n[f]? =some (o,y,q)) (c:Xjd 0 q=true)
  {p v:AV} {cp:Value} (hp:VR g m S p cp) (k:NX p o=some v):∃ cv,(Instr.fieldAt t cp f).run P w= .ok cv w/\VR g m S v cv:=by
 rw [u.d_eq] at hd;obtain ⟨fields,rfl,rfl⟩:=qF hd;simp only [Xqx,Xqq] at l;obtain ⟨s,e,r⟩:=l;simp only [Prod.mk.injEq] at r;obtain ⟨rfl,rfl,hs⟩:=r;obtain ⟨a,rfl,k⟩:=zh hp k;refine ⟨_, ?_,k⟩;have b:fields[f]? =some s:=by simpa using e
 cases h:P.info? s.type with
 |none=>rw [h] at hs;simp only at hs;subst hs;exact absurd (dC c) (by omega)
 |some j=>
  rw [h] at hs;have x:j.size ≠ 0:=by have:=dC c;simp only at hs;omega
  simp [Instr.fieldAt,run_underlying u.und,b,Instr.sureAddr,fieldPlace,Go.sizeOf,typeInfo,h,x]
theorem kR {i:Int} {n:Nat} (h0:decide (0<=i)=true) (c:decide (i<n)=true):0<=i/\i<n/\i.toNat<n:=by
 have a:=of_decide_eq_true h0;have b:=of_decide_eq_true c;omega
theorem uC (s:dP P ap) {rd:bW} (F:∀ b B,rd b=some B->g b=some B) {t:Nat} {ti:TI} {i:TypeInfo} {d:TypeDesc} {z:Value} (y:wK P t ti i d z)
  {x ix v:AV} {cx ci:Value} (hx:VR g m S x cx) (hi:VR g m S ix ci) {ups:List (Nat × aM)} {bs:List Bool} (h:rQ ap ti rd x ix=some (v,ups,bs)) (hbs:∀ b ∈ bs,b=true):
  ups= []/\∃ cv,(Instr.indexAt t cx ci).run P w= .ok cv w/\VR g m S v cv:=by
 unfold rQ at h;have l:=bind_some h;clear h;obtain ⟨n,Q,h⟩:=l;obtain ⟨k,rfl⟩:=vF hi Q;split at h
 .rename_i e hd;have l:=bind_some h;clear h;obtain ⟨E,c,h⟩:=l;obtain ⟨N,K,L,c⟩:=cB s c;rw [y.d_eq] at hd;have hd:=dM hd;subst hd;split at h
  .rename_i U len V;obtain ⟨rfl,rfl,rfl⟩:=aK h;obtain ⟨A,f⟩:=bQ hbs;obtain ⟨f,_⟩:=bQ f;obtain ⟨h0,r,G⟩:=kR A f;simp only [VR,PR] at hx;obtain ⟨a,cap,rfl,O,q⟩:=hx;rcases q with ⟨_,_,q,_⟩|⟨b,o,vs,rfl,hp,hs⟩
   .subst q;omega
   .refine ⟨rfl,.pointer (some ⟨b,o+n.toNat*E.size,none⟩), ?_, ?_⟩
    .simp [Instr.indexAt,asIntOf,run_underlying y.und,h0,r,ij c,Addr.add_mid]
    .simp only [VR,PR];exact ⟨b,o,vs,rfl,hp,hs⟩
  .rename_i b ver j len;have l:=bind_some h;clear h;obtain ⟨B,R,h⟩:=l;split at h
   .rename_i C;simp only [π] at C;obtain ⟨rfl,rfl,rfl⟩:=aK h;obtain ⟨A,f⟩:=bQ hbs;obtain ⟨f,_⟩:=bQ f;obtain ⟨h0,r,G⟩:=kR A f;simp only [VR] at hx;obtain ⟨B',u,I,_,q⟩:=hx;have H:=F b B R;rw [H] at u;cases u;obtain ⟨o,rfl,T,J,W⟩:=q (aG C.1);have M:=J (by omega);have D:=aG C.2;refine ⟨rfl,.pointer (some ⟨(m b).1,(j+n.toNat)*E.size,none⟩), ?_, ?_⟩
    .rw [M,D];simp [Instr.indexAt,asIntOf,run_underlying y.und,h0,r,ij c,Addr.add_mid,Xxy]
    .simp only [VR];exact ⟨B,H,by have:=aG C.1;omega,⟨_,_,rfl⟩,λ_=>trivial⟩
   .cases h
  .cases h
 .rename_i len e hd;have l:=bind_some h;clear h;obtain ⟨E,c,h⟩:=l;obtain ⟨N,K,L,c⟩:=cB s c;have l:=bind_some h;clear h;obtain ⟨p,hp,h⟩:=l;obtain ⟨rfl,rfl,rfl⟩:=aK h;rw [y.d_eq] at hd;have hd:=ub hd;subst hd;obtain ⟨A,f⟩:=bQ hbs;obtain ⟨f,_⟩:=bQ f;obtain ⟨h0,r,G⟩:=kR A f;obtain ⟨a,rfl,I⟩:=zh hx hp;refine ⟨rfl,_, ?_,I⟩;simp [Instr.indexAt,asIntOf,run_underlying y.und,h0,r,ij c,Instr.sureAddr]
 .cases h
theorem zm {t:Nat} {ti:TI} {i:TypeInfo} {d:TypeDesc} {z:Value} (k:wK P t ti i d z) {vs b:List Value} {cs:List AV} {e:Nat}
  (hl:b.length=ti.lks.length) (hu:∀ j u,b[j]? =some u->vs[e+j]? =some u) (hr:aU g m S cs b) {v:AV} (hv:mY ti cs=some v):
  ∃ cv,(part t vs.toArray e).run P w= .ok cv w/\VR g m S v cv:=by
 have f:(isAgg t).run P w= .ok d.isRow w:=by
  unfold isAgg;rw [Sem.run_bind,run_underlying k.und w];cases d<;>simp [TypeDesc.isRow]
 unfold mY at hv;rw [k.d_eq,zV] at hv;split at hv
 .rename_i a;cases hv;have p:(vs.drop e).take ti.size=b:=by
   apply List.ext_getElem?;intro j;rw [Xjn,Xj2];have o:ti.size=b.length:=by rw [hl,k.lks,k.size]
   split
   .rename_i n;have h:j<b.length:=by omega
    have:=hu j b[j] (ν h);rw [this,ν h]
   .rename_i n;rw [List.getElem?_eq_none (by omega)]
  refine ⟨.agg b.toArray, ?_, ?_⟩
  .simp [part,f,a,ij k,p]
  .simp only [VR];exact ⟨b,rfl,hr⟩
 .rename_i a;split at hv
  .rename_i c;cases hv;cases b with
   |nil=>simp [aU] at hr
   |cons u r=>
    simp only [aU] at hr;refine ⟨u, ?_,hr.1⟩;have l:=hu 0 u rfl;simp only [Xq3] at l;have a:d.isRow=false:=by simpa using a
    simp [part,f,a,l]
  .cases hv
theorem CA (l:dP P ap) {t:Nat} {ti:TI} {i:TypeInfo} {d:TypeDesc} {z:Value} (u:wK P t ti i d z) {x v:AV} {q:Value} (j:VR g m S x q) {f:Nat} {ups:List (Nat × aM)} {bs:List Bool}
  (h:Gq ap ti x f=some (v,ups,bs)) (hbs:∀ b ∈ bs,b=true):ups= []/\∃ cv,(Instr.field t q f).run P w= .ok cv w/\VR g m S v cv:=by
 unfold Gq at h;split at h
 .rename_i E cs hd;have e:=bind_some h;clear h;obtain ⟨⟨o,J,G⟩,r,h⟩:=e;have e:=bind_some h;clear h;obtain ⟨tf,a,h⟩:=e;have e:=bind_some h;clear h;obtain ⟨H,n,h⟩:=e;obtain ⟨rfl,rfl,rfl⟩:=aK h;obtain ⟨L,F,I,a⟩:=cB l a;rw [u.d_eq] at hd;obtain ⟨fields,rfl,rfl⟩:=qF hd;simp only [Xqx,Xqq] at r;obtain ⟨p,k,s⟩:=r;simp only [Prod.mk.injEq] at s;obtain ⟨rfl,rfl,hs⟩:=s;simp only [VR] at j;obtain ⟨vs,rfl,j⟩:=j;obtain ⟨K,C,D,y⟩:=lO false j tf.lks p.offset hbs;obtain ⟨cv,A,B⟩:=zm (w:=w) a C D y n;have c:fields[f]? =some p:=by simpa using k
  refine ⟨rfl,cv, ?_,B⟩;simp [Instr.field,run_underlying u.und,c,asAgg,A]
 .cases h
theorem MU (s:List UInt8) (i:Nat) (h:i<s.length):(⟨s.toArray⟩:ByteArray)[i]? =some (s.getD i 0):=by
 have hs:i<(⟨s.toArray⟩:ByteArray).size:=by simpa [ByteArray.size] using h
 rw [getElem?_pos _ i hs];simp only [ByteArray.getElem_eq_getElem_data,List.getElem_toArray];rw [μ,ν h];rfl
theorem CH (p:dP P ap) {t:Nat} {ti:TI} {i:TypeInfo} {d:TypeDesc} {z:Value} (l:wK P t ti i d z) {x B v:AV} {C ci:Value} (f:VR g m S x C) (F:VR g m S B ci) {ups:List (Nat × aM)} {bs:List Bool}
  (h:Gt ap ti x B=some (v,ups,bs)) (hbs:∀ b ∈ bs,b=true):ups= []/\∃ cv,(Instr.index t C ci).run P w= .ok cv w/\VR g m S v cv:=by
 unfold Gt at h;have j:=bind_some h;clear h;obtain ⟨n,J,h⟩:=j;obtain ⟨k,rfl⟩:=vF F J;split at h
 .rename_i s hd;obtain ⟨rfl,rfl,rfl⟩:=aK h;obtain ⟨u,c⟩:=bQ hbs;obtain ⟨c,_⟩:=bQ c;obtain ⟨h0,y,A⟩:=kR u c;rw [l.d_eq] at hd;have hd:=sr hd;subst hd;simp only [VR,PR] at f;subst f;refine ⟨rfl,.int .u8 (s.getD n.toNat 0).toNat, ?_,by simp only [VR,PR]⟩;simp [Instr.index,asIntOf,run_underlying l.und,h0,MU s n.toNat A]
 .rename_i len e cs hd;have j:=bind_some h;clear h;obtain ⟨D,a,h⟩:=j;have j:=bind_some h;clear h;obtain ⟨L,r,h⟩:=j;obtain ⟨rfl,rfl,rfl⟩:=aK h;obtain ⟨O,K,M,a⟩:=cB p a;obtain ⟨u,c⟩:=bQ hbs;obtain ⟨c,G⟩:=bQ c;obtain ⟨h0,y,A⟩:=kR u c;rw [l.d_eq] at hd;have hd:=ub hd;subst hd;simp only [VR] at f;obtain ⟨vs,rfl,f⟩:=f;obtain ⟨N,H,I,E⟩:=lO true f D.lks (n.toNat*D.size) G;obtain ⟨cv,o,q⟩:=zm (w:=w) a H I E r;refine ⟨rfl,cv, ?_,q⟩;simp [Instr.index,asIntOf,run_underlying l.und,h0,y,ij a,o]
 .cases h
end
end AM
namespace AM
open Go
section
variable {P:Program} {ap:AP} {g:bW} {m:aN} {S:aH} {w:World}
def xw (g:bW) (m:aN) (S:aH) (x:Option AV) (c:Option Value):Prop:=
 match x,c with
 |none,none=>True
 |some x,some c=>VR g m S x c
 |_,_=>False
theorem dK {x:Option AV} {c:Option Value} (h:xw g m S x c) {d n:Int} (a:kW x d=some n):(x=none/\c=none/\n=d)\/∃ k,c=some (.int k n):=by
 cases x with
 |none=>cases c with
  |none=>simp [kW] at a;exact .inl ⟨rfl,rfl,a.symm⟩
  |some c=>simp [xw] at h
 | some x=>cases c with
  |none=>simp [xw] at h
  |some c=>
   cases x<;>simp [kW] at a
   subst a;simp only [xw,VR,PR] at h;subst h;exact .inr ⟨_,rfl⟩
theorem oh (P:Program) (w:World) (c:Bool) (len cap:Nat) (b a:Option Value) (l h:Int)
  (hl:(b=none/\l=0)\/∃ k,b=some (.int k l)) (f:(a=none/\h=len)\/∃ k,a=some (.int k h)) (h0:0<=l) (h1:l<=h) (h2:h<=cap):
  (Instr.sliceBounds c len cap b a none).run P w= .ok (l.toNat,h.toNat,cap) w:=by
 have e:0<=h:=by omega
 rcases hl with ⟨rfl,rfl⟩|⟨k,rfl⟩<;>rcases f with ⟨rfl,rfl⟩|⟨j,rfl⟩
 .simp [Instr.sliceBounds]
 .simp [Instr.sliceBounds,Instr.sliceBound,asIntOf,h2,e]
 .have d:l<=(len:Int):=h1;simp [Instr.sliceBounds,Instr.sliceBound,asIntOf,h0,d]
 .simp [Instr.sliceBounds,Instr.sliceBound,asIntOf,h0,h2,e];intro i;omega
theorem D8 (s:List UInt8) (l h:Nat):(⟨s.toArray⟩:ByteArray).extract l h=⟨((s.take h).drop l).toArray⟩:=by
 apply ByteArray.ext;rw [ByteArray.data_extract];apply Array.ext';simp [List.extract_eq_take_drop,List.drop_take]
theorem tS (s:List UInt8):(⟨s.toArray⟩:ByteArray).size=s.length:=by simp [ByteArray.size]
theorem iz.drop {b o:Nat} {vs:List Value} (h:iz S b o vs) (n:Nat):iz S b (o+n) (vs.drop n):=by
 intro j u a;rw [Xj2] at a;rw [Xzm];exact h _ _ a
theorem iz.take {b o:Nat} {vs:List Value} (h:iz S b o vs) (n:Nat):iz S b o (vs.take n):=by
 intro j u a;rw [Xjn] at a;split at a
 .exact h _ _ a
 .cases a
theorem U9 {a b c:Bool} (h:∀ x ∈ [a,b,c],x=true):a=true/\b=true/\c=true:=⟨h a (by simp),h b (by simp),h c (by simp)⟩
theorem Ao {α:Type} (a:List α) (n:Nat):(a.take n).drop n= []:=by
 apply Xwg;simp;omega
theorem Di (E:dP P ap) {rd:bW} (K:∀ b B,rd b=some B->g b=some B) {t:Nat} {ti:TI} {i:TypeInfo} {d:TypeDesc} {z:Value} (D:wK P t ti i d z)
  {x v:AV} {cx:Value} (hx:VR g m S x cx) {lo hi mx:Option AV} {clo chi cmx:Option Value} (hlo:xw g m S lo clo) (hhi:xw g m S hi chi) (hmx:xw g m S mx cmx)
  {ups:List (Nat × aM)} {bs:List Bool} (h:Hg ap ti rd x lo hi mx=some (v,ups,bs)) (hbs:∀ b ∈ bs,b=true):
  ups= []/\∃ cv,(Instr.sliceAt t cx clo chi cmx).run P w= .ok cv w/\VR g m S v cv:=by
 have k:mx=none->cmx=none:=by intro e;subst e;cases cmx<;>simp [xw] at hmx ⊢
 unfold Hg at h;split at h
 .rename_i s hd;have f:=bind_some h;clear h;obtain ⟨l,F,h⟩:=f;have f:=bind_some h;clear h;obtain ⟨u,G,h⟩:=f;obtain ⟨rfl,rfl,rfl⟩:=aK h;obtain ⟨r,p,A⟩:=U9 hbs;have r:=of_decide_eq_true r;have p:=of_decide_eq_true p;have A:=of_decide_eq_true A;rw [D.d_eq] at hd;have hd:=sr hd;subst hd;simp only [VR,PR] at hx;subst hx;rw [k rfl];have C:=oh P w false s.length s.length clo chi l u ((dK hlo F).imp (λh=> ⟨h.2.1,h.2.2⟩) id) ((dK hhi G).imp (λh=> ⟨h.2.1,h.2.2⟩) id) r p A;refine ⟨rfl,.string ⟨((s.take u.toNat).drop l.toNat).toArray⟩, ?_,by simp only [VR,PR]⟩;rw [<- D8];simp [Instr.sliceAt,Instr.slice,run_underlying D.und,tS,C]
 .rename_i e U n Y hd;have f:=bind_some h;clear h;obtain ⟨y,c,h⟩:=f;have f:=bind_some h;clear h;obtain ⟨l,F,h⟩:=f;have f:=bind_some h;clear h;obtain ⟨u,G,h⟩:=f;obtain ⟨rfl,rfl,rfl⟩:=aK h;obtain ⟨O,M,N,c⟩:=cB E c;obtain ⟨r,p,A⟩:=U9 hbs;have r:=of_decide_eq_true r;have p:=of_decide_eq_true p;have A:=of_decide_eq_true A;rw [D.d_eq] at hd;have hd:=dM hd;subst hd;simp only [VR,PR] at hx;obtain ⟨a,cap,rfl,V,q⟩:=hx;rw [k rfl];have C:=oh P w true n cap clo chi l u ((dK hlo F).imp (λh=> ⟨h.2.1,h.2.2⟩) id) ((dK hhi G).imp (λh=> ⟨h.2.1,h.2.2⟩) id) r p (by omega);refine ⟨rfl,.slice (if cap=l.toNat then a else a.map (·.add (l.toNat*y.size))) (u.toNat - l.toNat) (cap - l.toNat), ?_, ?_⟩
  .simp [Instr.sliceAt,Instr.slice,run_underlying D.und,C,ij c]
  .simp only [VR,PR];refine ⟨_,_,rfl,by omega, ?_⟩;rcases q with ⟨L,rfl,rfl,rfl⟩|⟨b,o,vs,rfl,hp,hs⟩
   .refine .inl ⟨λh=>L ?_,by simp,by omega,by omega⟩;split at h
    .exact h
    .simpa using h
   .refine .inr ?_;by_cases H:cap=l.toNat
    .refine ⟨b,o,[],by rw [if_pos H], ?_,λj u h=>by simp at h⟩;have e:(U.take (u.toNat*y.size)).drop (l.toNat*y.size)= []:=by
      have:u.toNat=l.toNat:=by omega
      rw [this,Ao]
     rw [e];simp [bw]
    .exact ⟨b,o+l.toNat*y.size,(vs.take (u.toNat*y.size)).drop (l.toNat*y.size),by rw [if_neg H];simp [Addr.add_mid],ky _ (iy _ hp),(hs.take _).drop _⟩
 .rename_i e b ver j n hd;have f:=bind_some h;clear h;obtain ⟨y,c,h⟩:=f;have f:=bind_some h;clear h;obtain ⟨B,X,h⟩:=f;have f:=bind_some h;clear h;obtain ⟨l,F,h⟩:=f;have f:=bind_some h;clear h;obtain ⟨u,G,h⟩:=f;split at h
  .rename_i H;simp only [π] at H;obtain ⟨rfl,rfl,rfl⟩:=aK h;obtain ⟨O,M,N,c⟩:=cB E c;obtain ⟨r,p,A⟩:=U9 hbs;have r:=of_decide_eq_true r;have p:=of_decide_eq_true p;have A:=of_decide_eq_true A;rw [D.d_eq] at hd;have hd:=dM hd;subst hd;simp only [VR] at hx;obtain ⟨B',I,W,_,q⟩:=hx;have Q:=K b B X;rw [Q] at I;cases I;obtain ⟨o,rfl,L,T,R⟩:=q (aG H.1);have J:=aG H.2;rw [k rfl];have C:=oh P w true n ((m b).2 - j) clo chi l u ((dK hlo F).imp (λh=> ⟨h.2.1,h.2.2⟩) id) ((dK hhi G).imp (λh=> ⟨h.2.1,h.2.2⟩) id) r p (by omega);refine ⟨rfl,.slice (if (m b).2 - j=l.toNat then some ⟨(m b).1,o,none⟩ else some ⟨(m b).1,o+l.toNat*y.size,none⟩) (u.toNat - l.toNat) ((m b).2 - j - l.toNat), ?_, ?_⟩
   .simp [Instr.sliceAt,Instr.slice,run_underlying D.und,C,ij c,Addr.add_mid]
   .simp only [VR];refine ⟨B,Q,W,(by split<;>exact ⟨_,_,_,rfl⟩),λ_=> ?_⟩;by_cases hcl:(m b).2 - j=l.toNat
    .exact ⟨o,by rw [if_pos hcl];congr 1;omega,by omega,λh=>by omega,R⟩
    .refine ⟨o+l.toNat*y.size,by rw [if_neg hcl];congr 1;omega,by omega,λh=> ?_,R⟩;rw [T (by omega),J,Xxy]
  .cases h
 .rename_i e hd;have f:=bind_some h;clear h;obtain ⟨y,c,h⟩:=f;have f:=bind_some h;clear h;obtain ⟨l,F,h⟩:=f;have f:=bind_some h;clear h;obtain ⟨u,G,h⟩:=f;obtain ⟨rfl,rfl,rfl⟩:=aK h;obtain ⟨O,M,N,c⟩:=cB E c;have r:=of_decide_eq_true (hbs (decide (l=0)) (by simp));have p:=of_decide_eq_true (hbs (decide (u=0)) (by simp));subst r;subst p;rw [D.d_eq] at hd;have hd:=dM hd;subst hd;simp only [VR,PR] at hx;subst hx;rw [k rfl];have C:=oh P w true 0 0 clo chi 0 0 ((dK hlo F).imp (λh=> ⟨h.2.1,h.2.2⟩) id) ((dK hhi G).imp (λh=> ⟨h.2.1,h.2.2⟩) id) (by omega) (by omega) (by omega);refine ⟨rfl,.slice none 0 0, ?_,by simp only [VR,PR]⟩;simp at C;simp [Instr.sliceAt,Instr.slice,run_underlying D.und,C,ij c]
 .cases h
theorem Gy {x v:AV} {k:Value} (c:VR g m S x k) {t:Nat} {ti:TI} {i:TypeInfo} {d:TypeDesc} {z:Value} (f:wK P t ti i d z)
  {ups:List (Nat × aM)} {bs:List Bool} (h:Nf ti.d x=some (v,ups,bs)) (ats:Array TypeId) (hat:ats[0]? =some t) (args:Array Value) (ha:args[0]? =some k) (ty:Nat):
  ups= []/\∃ cv,(Builtin.len_ ats ty args).run P w= .ok cv w/\VR g m S v cv:=by
 unfold Nf at h;rw [f.d_eq] at h;split at h
 .rename_i n e hd;obtain ⟨rfl,rfl,rfl⟩:=aK h;have hd:=ub hd;subst hd;exact ⟨rfl,.int .i64 n,by simp [Builtin.len_,hat,ha,run_underlying f.und,goInt],by simp only [VR,PR]⟩
 .rename_i s hd;obtain ⟨rfl,rfl,rfl⟩:=aK h;have hd:=sr hd;subst hd;simp only [VR,PR] at c;subst c;exact ⟨rfl,.int .i64 s.length,by simp [Builtin.len_,hat,ha,run_underlying f.und,goInt,tS],by simp only [VR,PR]⟩
 .rename_i e l n o hd;obtain ⟨rfl,rfl,rfl⟩:=aK h;have hd:=dM hd;subst hd;simp only [VR,PR] at c;obtain ⟨a,cap,rfl,_⟩:=c;exact ⟨rfl,.int .i64 n,by simp [Builtin.len_,hat,ha,run_underlying f.und,goInt],by simp only [VR,PR]⟩
 .rename_i e b ver j n hd;obtain ⟨rfl,rfl,rfl⟩:=aK h;have hd:=dM hd;subst hd;simp only [VR] at c;obtain ⟨_,_,_,⟨_,_,cap,rfl⟩,_⟩:=c;exact ⟨rfl,.int .i64 n,by simp [Builtin.len_,hat,ha,run_underlying f.und,goInt],by simp only [VR,PR]⟩
 .rename_i e hd;obtain ⟨rfl,rfl,rfl⟩:=aK h;have hd:=dM hd;subst hd;simp only [VR,PR] at c;subst c;exact ⟨rfl,.int .i64 0,by simp [Builtin.len_,hat,ha,run_underlying f.und,goInt],by simp only [VR,PR]⟩
 .cases h
theorem su (s:List UInt8):(⟨s.toArray⟩:ByteArray).toList=s:=by rw [ByteArray.toList_eq]
theorem sM:∀ a b:List UInt8,Op.bytesLess a b=dX a b
 |_,[]=>by simp [Op.bytesLess,dX]
 | [],_::_=>by simp [Op.bytesLess,dX]
 |a::x,b::y=>by simp only [Op.bytesLess,dX,sM x y]
def oA:LK->Value->Value->Option Bool
 | .int k,.int k1 a,.int k2 b=>match fj k k1 && fj k k2 with|true=>some (a==b)|false=>none
 | .bool,.bool a,.bool b=>some (a==b)
 | .str,.string a,.string b=>some (a.toList==b.toList)
 |_,_,_=>none
def cE:List LK->List Value->List Value->Option Bool
 | [],[],[]=>some true
 |k::ks,a::as,b::bs=>(oA k a b).bind λc=>(cE ks as bs).map λd=>c && d
 |_,_,_=>none
theorem nP:∀ (l e:List LK) (i f:List Value) (r:Bool),cE (l++e) i f=some r->
  ∃ a b,cE l (i.take l.length) (f.take l.length)=some a/\cE e (i.drop l.length) (f.drop l.length)=some b/\r=(a && b)
 | [],e,i,f,r,h=> ⟨true,r,by simp [cE],by simpa using h,by simp⟩
 |k::l,e,[],_,r,h=>by simp [cE] at h
 |k::l,e,_::_,[],r,h=>by simp [cE] at h
 |k::l,e,x::i,y::f,r,h=>by
  simp only [Xqu,cE] at h;obtain ⟨c,j,h⟩:=bind_some h;rw [Xqq] at h;obtain ⟨d,hd,rfl⟩:=h;obtain ⟨a,b,n,o,rfl⟩:=nP l e i f d hd;exact ⟨c && a,b,by simp [cE,j,n],by simpa using o,by simp [Bool.and_assoc]⟩
theorem lX:∀ (l:List LK) (b a:List Value) (r:Bool),cE l b a=some r->b.length=l.length/\a.length=l.length
 | [],[],[],_,_=> ⟨rfl,rfl⟩
 |k::l,x::b,y::a,r,h=>by
  simp only [cE] at h;obtain ⟨c,_,h⟩:=bind_some h;rw [Xqq] at h;obtain ⟨d,hd,_⟩:=h;have:=lX l b a d hd;simp [this.1,this.2]
 | [],_::_,_,_,h=>by simp [cE] at h
 | [],[],_::_,_,h=>by simp [cE] at h
 |_::_,[],_,_,h=>by simp [cE] at h
 |_::_,_::_,[],_,h=>by simp [cE] at h
def qb (P:Program) (t:TypeId) (xs:List Value):Value:=match P.underlying t with
 |some (.struct _)=> .agg xs.toArray
 |_=>xs.headD undef
def Lq (P:Program) (n:Nat) (t:TypeId) (lks:List LK):Prop:=
 ∀ (d:Nat) (w:World) (xs ys:List Value) (r:Bool),n<=d->cE lks xs ys=some r->(Op.equalIn d t (qb P t xs) (qb P t ys)).run P w= .ok r w
theorem pX {t:TypeId} {lks:List LK} {n:Nat} (f:gB P n t=some lks) {i:TypeInfo} (k:P.info? t=some i) (hs:i.size=lks.length) (b:List Value) (a:Nat) (l:a+lks.length<=b.length) (w:World):
  (part t b.toArray a).run P w= .ok (qb P t ((b.drop a).take lks.length)) w:=by
 cases n with
 |zero=>simp [gB] at f
 | succ n=>
  unfold gB at f;cases h:P.underlying t with
  |none=>simp [h] at f
  | some d=>
   have c:(isAgg t).run P w= .ok d.isRow w:=by
    unfold isAgg;rw [Sem.run_bind,run_underlying h w];cases d<;>simp [TypeDesc.isRow]
   cases d<;>simp only [h] at f<;>try cases f
   case struct fs=>
    simp only [TypeDesc.isRow] at c;simp [part,c,Go.sizeOf,typeInfo,k,hs,qb,h]
   all_goals
    simp only [TypeDesc.isRow] at c;simp only [ο,Ξ,Ψ] at l;have o:b[a]? =some (b[a]'(by omega)):=ν (by omega);simp only [part,Sem.run_bind,c,Result.andThen_ok,Bool.false_eq_true,if_false,qb,h];have e:((b.drop a).take [LK.str].length).headD undef=b[a]'(by omega):=by
     rw [Xw0,List.head?_take,Xkt,o];simp
    have j:(b.toArray)[a]? =some (b[a]'(by omega)):=by simp
    rw [j]
    first|exact congrArg (λv=>Result.ok v w) e.symm|(simp only [ο,Ξ] at e ⊢;exact congrArg (λv=>Result.ok v w) e.symm)
theorem oF {n:Nat} (s:∀ t lks,gB P n t=some lks->Lq P n t lks):∀ (fs:List Field) (off:Nat) (lks:List LK),sP P (gB P n) fs off=some lks->
  ∀ (d:Nat) (w:World) (xs ys:List Value) (r:Bool),n<=d->xs.length=off+lks.length->ys.length=off+lks.length->cE lks (xs.drop off) (ys.drop off)=some r->
   (Op.eqFields d xs.toArray ys.toArray fs).run P w= .ok r w
 | [],off,lks,hc,d,w,xs,ys,r,hd,hx,hy,h=>by
  simp [sP] at hc;subst hc;have B:xs.drop off= []:=Xwg (by simp at hx;omega);have D:ys.drop off= []:=Xwg (by simp at hy;omega);rw [B,D] at h;simp [cE] at h;subst h;simp [Op.eqFields]
 | f ::fs,off,lks,hc,d,w,xs,ys,r,hd,hx,hy,h=>by
  simp only [sP] at hc;cases j:gB P n f.type with
  |none=>simp [j] at hc
  | some l=>
   simp only [j] at hc;split at hc
   .rename_i hcond;simp only [π,Xqt] at hcond;obtain ⟨⟨u,p⟩,c⟩:=hcond;cases o:sP P (gB P n) fs (off+l.length) with
    |none=>simp [o] at hc
    | some l'=>
     simp only [o] at hc;cases hc;cases k:P.info? f.type with
     |none=>simp [k] at c
     |some i=>
      simp only [k] at c;have c:=aG c;have p:=aG p;have q:f.name ≠ "_" :=by intro e;rw [e] at u;exact absurd u (by decide)
      simp only [List.length_append] at hx hy;obtain ⟨a,b,A,C,rfl⟩:=nP l l' _ _ r h;have y:=pX j k c xs off (by omega) w;have z:=pX j k c ys off (by omega) w;have v:=s f.type l j d w _ _ a hd A;have x:=oF s fs (off+l.length) l' o d w xs ys b hd (by omega) (by omega) (by simpa [List.drop_drop,Nat.add_comm] using C);simp only [Op.eqFields,q,ne_eq,not_false_eq_true,if_true,Sem.run_bind,p,y,z,v,Result.andThen_ok];cases a
      .simp
      .simpa using x
   .cases hc
theorem xQ : ∀ (n:Nat) (t:TypeId) (lks:List LK),gB P n t=some lks->Lq P n t lks
  |0,_,_,h=>by simp [gB] at h
  | n + 1,t,lks,h=>by
    intro d w o l r hd b;obtain ⟨d,rfl⟩:∃ k,d=k+1:=⟨d - 1,by omega⟩
    have j:=lX _ _ _ _ b;unfold gB at h;cases a:P.underlying t with
    |none=>simp [a] at h
    | some ds=>
      cases ds<;>simp only [a] at h<;>try cases h
      case struct fs=>
        split at h
        · cases h
        · rename_i p;have i:P.fieldsOf t=fs:=by simp [Program.fieldsOf,a]
          have e:=run_equalIn_struct (P:=P) w d t o.toArray l.toArray (by rw [i];exact a) p;simp only [qb,a];rw [e,i];exact oF (xQ n) fs.toList 0 lks h d w o l r (by omega) (by simp [j.1]) (by simp [j.2]) (by simpa using b)
      all_goals
        simp only [ο,Ξ,Ψ] at j
        match o,l,j,b with
        | [x], [y],_,b=>
          simp only [cE,Option.map_some,Bool.and_true] at b;obtain ⟨c,f,b⟩:=bind_some b;cases b;simp only [qb,a,List.headD_cons];cases x<;>cases y<;>simp [oA] at f
          first
            | (split at f
               · rename_i q;simp only [π] at q;obtain rfl:=dw q.1;obtain rfl:=dw q.2;cases f;exact run_equalIn_int (P:=P) w d t _ _ _ _ a
               · cases f)
            |(subst f;rw [run_equalIn_bool' (P:=P) w d t _ _ a])
            |(subst f;rw [run_equalIn_string (P:=P) w d t _ _ a])
end
end AM
namespace AM
open Go
section
variable {P:Program} {ap:AP} {g:bW} {m:aN} {S:aH} {w:World}
theorem XQ {d:TypeDesc} (h:gX P (some d)= .ptr):∃ e,d= .pointer e:=by cases d<;>simp [gX] at h;exact ⟨_,rfl⟩
theorem SY {d:TypeDesc} (h:gX P (some d)= .func):∃ a b c,d= .func a b c:=by cases d<;>simp [gX] at h;exact ⟨_,_,_,rfl⟩
theorem Ps {d:TypeDesc} (h:gX P (some d)= .iface):∃ e,d= .interface e:=by cases d<;>simp [gX] at h;exact ⟨_,rfl⟩
theorem Rf {a b:LK} (h:Wr a b=true):a=b:=by
 cases a<;>cases b<;>simp [Wr] at h
 .rw [dw h]
 .rfl
 .rfl
theorem yL:∀ {a b:List LK},Bd a b=true->a=b
 | [],[],_=>rfl
 |_::_,_::_,h=>by simp only [Bd,π] at h;rw [Rf h.1,yL h.2]
 | [],_::_,h=>by simp [Bd] at h
 |_::_,[],h=>by simp [Bd] at h
theorem Gg {k:LK} {a b:AV} {r:Bool} (h:Gf k a b=some r) {x y:Value} (c:VR g m S a x) (d:VR g m S b y):oA k x y=some r:=by
 unfold Gf at h;split at h
 .simp only [VR,PR] at c d;subst c;subst d;split at h
  .rename_i e;cases h;simp [oA,e]
  .cases h
 .simp only [VR,PR] at c d;subst c;subst d;simpa [oA] using h
 .simp only [VR,PR] at c d;subst c;subst d;simpa [oA,su] using h
 .cases h
theorem qZ:∀ {ks:List LK} {i bs:List AV} {r:Bool} {f e:List Value},iD ks i bs=some r->aU g m S i f->aU g m S bs e->cE ks f e=some r
 | [],[],[],r,f,e,h,ha,hb=>by
  cases f<;>cases e<;>simp [aU] at ha hb
  simpa [iD,cE] using h
 |k::ks,a::i,b::bs,r,x::f,y::e,h,ha,hb=>by
  simp only [iD] at h;obtain ⟨c,j,h⟩:=bind_some h;rw [Xqq] at h;obtain ⟨d,hd,rfl⟩:=h;simp only [aU] at ha hb;simp [cE,Gg j ha.1 hb.1,qZ hd ha.2 hb.2]
 | [],_::_,_,_,_,_,h,_,_=>by simp [iD] at h
 | [],[],_::_,_,_,_,h,_,_=>by simp [iD] at h
 |_::_,[],_,_,_,_,h,_,_=>by simp [iD] at h
 |_::_,_::_,[],_,_,_,h,_,_=>by simp [iD] at h
 |_::_,_::_,_::_,_,[],_,_,ha,_=>by simp [aU] at ha
 |_::_,_::_,_::_,_,_::_,[],_,_,hb=>by simp [aU] at hb
theorem ud (b:dP P ap) {t:Nat} {ti:TI} (h:ap.tyAt t=some ti):ti.cmp=Qi P t/\ti.lks=Be P 8 t:=by
 have a:=b.ty t ti h;unfold Pw at a;split at a
 .split at a
  .cases a;exact ⟨rfl,rfl⟩
  .cases a
 .cases a
theorem ig (c:BinOp) (t:TypeId) (x y:Operand) (a b:Value) (d:¬ (a= .nilIface/\b= .nilIface)) (e:∀ xs ys,¬ (a= .agg xs/\b= .agg ys)):(eqGuard c t x y a b).run P w= .ok () w:=by
 unfold eqGuard;cases c<;>simp only [Sem.run_ite,Sem.run_pure]<;>try (simp;done)
 all_goals
  simp;split
  .exact absurd ⟨rfl,rfl⟩ d
  .exact absurd ⟨rfl,rfl⟩ (e _ _)
  .rfl
def Ik (op:BinOp) (r:Bool):Bool:=match op with| .neq=> !r|_=>r
theorem qo {t:Nat} {b a:Value} {r:Bool} {x y:Operand} (c:∀ op,(eqGuard op t x y b a).run P w= .ok () w) (h:∀ d,(Op.equalIn (d+1) t b a).run P w= .ok r w)
  (h1:binOp .eql t b a=(do pure (.bool (<- Op.equal t b a)))) (h2:binOp .neq t b a=(do pure (.bool (!(<- Op.equal t b a))))) {op:BinOp} (hop:op=BinOp.eql\/op=BinOp.neq):
  (do eqGuard op t x y b a;binOp op t b a:Sem Value).run P w= .ok (.bool (Ik op r)) w:=by
 have e:(Op.equal t b a).run P w= .ok r w:=h 9999;rcases hop with rfl|rfl
 .rw [Sem.run_bind,c,Result.andThen_ok,h1,Sem.run_bind,e];rfl
 .rw [Sem.run_bind,c,Result.andThen_ok,h2,Sem.run_bind,e];rfl
theorem A0 (v:dP P ap) {t:Nat} {ti:TI} (A:ap.tyAt t=some ti) {a b:AV} {E H:Value} (k:VR g m S a E) (s:VR g m S b H) {r:Bool} (h:eqA ti a b=some r) (L:∀ x ∈ yY a b,x=true) (x y:Operand):
  ∀ f,f=BinOp.eql\/f=BinOp.neq->(do eqGuard f t x y E H;binOp f t E H:Sem Value).run P w= .ok (.bool (Ik f r)) w:=by
 obtain ⟨i,d,z,u⟩:=cB v A;intro f j;unfold eqA at h;split at h
 case h_2 fs xs ys hd=>
  split at h
  .rename_i c;rw [(ud v A).1] at c;rw [(ud v A).2] at h;simp only [VR] at k s;obtain ⟨vs,rfl,k⟩:=k;obtain ⟨J,rfl,s⟩:=s;have M:=qZ h k s;unfold Qi at c;cases F:gB P 8 t with
   |none=>simp [F] at c
   |some l=>
    simp only [F,π,Xqt] at c;have C:=yL c.1;rw [<- C] at M;have I:=xQ 8 t l F 10000 w vs J r (by omega) M;rw [u.d_eq] at hd;obtain ⟨fields,rfl,_⟩:=qF hd;simp only [qb,u.und] at I;have K:=run_eqGuard_agg (P:=P) w f t x y vs.toArray J.toArray c.2;rcases j with rfl|rfl
    .simp [K,run_eql_struct,I,Ik]
    .simp [K,run_neq_struct,I,Ik]
  .cases h
 all_goals try (cases h;done)
 all_goals
  rename_i hd;rw [u.d_eq] at hd
  try simp only [VR,PR] at k s
 all_goals cases h
 case h_1=>
  have hd:=SX hd;subst hd;subst k;subst s
  (refine qo (λf=> ?_) (λB=> ?_) rfl rfl j<;>first|exact ig f t x y _ _ (by simp) (by simp)|exact run_equalIn_bool' (P:=P) w B t _ _ u.und)
 all_goals
  first
   |(obtain ⟨e,rfl⟩:=XQ hd)
   |(obtain ⟨e,rfl⟩:=Ps hd)
   |(obtain ⟨N,Q,O,rfl⟩:=SY hd)
   |(have hd:=dM hd;subst hd)
 case h_16 xs n nn=>
  subst s;obtain ⟨a,cap,rfl,G,q⟩:=k;rcases q with ⟨D,rfl,rfl,rfl⟩|⟨b,o,vs,rfl,_⟩
  .cases a with
   |none=>
    cases D rfl;exact absurd (L _ (by simp [yY];rfl)) (by decide)
   |some p=>(refine qo (λf=> ?_) (λB=> ?_) rfl rfl j<;>first|exact ig f t x y _ _ (by simp) (by simp)|simp [Op.equalIn,run_underlying u.und])
  ·(refine qo (λf=> ?_) (λB=> ?_) rfl rfl j<;>first|exact ig f t x y _ _ (by simp) (by simp)|simp [Op.equalIn,run_underlying u.und])
 case h_17 xs n nn=>
  subst k;obtain ⟨a,cap,rfl,G,q⟩:=s;rcases q with ⟨D,rfl,rfl,rfl⟩|⟨b,o,vs,rfl,_⟩
  .cases a with
   |none=>
    cases D rfl;exact absurd (L _ (by simp [yY];rfl)) (by decide)
   |some p=>(refine qo (λf=> ?_) (λB=> ?_) rfl rfl j<;>first|exact ig f t x y _ _ (by simp) (by simp)|simp [Op.equalIn,run_underlying u.und])
  ·(refine qo (λf=> ?_) (λB=> ?_) rfl rfl j<;>first|exact ig f t x y _ _ (by simp) (by simp)|simp [Op.equalIn,run_underlying u.und])
 all_goals
  try subst k
  try subst s
  try (obtain ⟨_,_,_,⟨_,_,rfl⟩,_⟩:=k)
  try (obtain ⟨_,_,_,⟨_,_,rfl⟩,_⟩:=s)
  try (obtain ⟨_,_,_,⟨_,_,_,rfl⟩,_⟩:=k)
  try (obtain ⟨_,_,_,⟨_,_,_,rfl⟩,_⟩:=s)
  try (obtain ⟨_,_,_,rfl,_⟩:=k)
  try (obtain ⟨_,_,_,rfl,_⟩:=s)
  try (obtain ⟨_,_,rfl,_⟩:=k)
  try (obtain ⟨_,_,rfl,_⟩:=s)
  try (obtain ⟨_,rfl,_⟩:=k)
  try (obtain ⟨_,rfl,_⟩:=s)
  (refine qo (λf=> ?_) (λB=> ?_) rfl rfl j<;>first|exact ig f t x y _ _ (by simp) (by simp)|simp [Op.equalIn,run_underlying u.und])
end
end AM
namespace AM
open Go
section
variable {P:Program} {ap:AP} {g:bW} {m:aN} {S:aH} {w:World}
theorem FL (a b:List UInt8):(⟨a.toArray⟩:ByteArray)++⟨b.toArray⟩=⟨(a++b).toArray⟩:=by
 apply ByteArray.ext;rw [ByteArray.data_append];simp
theorem FP (i:dP P ap) {t:Nat} {ti:TI} (f:ap.tyAt t=some ti) {a b v:AV} {l o:Value} (d:VR g m S a l) (e:VR g m S b o) {c:BinOp} {ups:List (Nat × aM)} {bs:List Bool}
  (h:Vg c ti a b=some (v,ups,bs)) (hbs:∀ x ∈ bs,x=true) (x y:Operand):
  ups= []/\∃ cv,(do eqGuard c t x y l o;binOp c t l o:Sem Value).run P w= .ok cv w/\VR g m S v cv:=by
 unfold Vg at h;split at h
 .rename_i k p u q;simp only [VR,PR] at d e;subst d;subst e;have n:(eqGuard c t x y (.int k p) (.int u q)).run P w= .ok () w:=ig c t x y _ _ (by simp) (by simp);rw [Sem.run_bind,n,Result.andThen_ok];split at h
  .obtain ⟨rfl,rfl,rfl⟩:=aK h;have h0:=of_decide_eq_true (hbs _ (List.mem_singleton.2 rfl));exact ⟨rfl,_,by simp [binOp,Op.shift,show ¬ q<0 by omega];rfl,by simp only [VR,PR]⟩
  .obtain ⟨rfl,rfl,rfl⟩:=aK h;have h0:=of_decide_eq_true (hbs _ (List.mem_singleton.2 rfl));exact ⟨rfl,_,by simp [binOp,Op.shift,show ¬ q<0 by omega];rfl,by simp only [VR,PR]⟩
  .split at h
   .cases h
   .rename_i s;have s:=dw s;subst s;split at h
    all_goals try (cases h;done)
    all_goals obtain ⟨rfl,rfl,rfl⟩:=aK h
    case h_4=>
     have h0:(q==0)=false:=by simpa using hbs _ (List.mem_singleton.2 rfl)
     have h0:¬ q=0:=by simpa using h0
     exact ⟨rfl,_,by simp [binOp,Op.intDiv,h0];rfl,by simp only [VR,PR]⟩
    case h_5=>
     have h0:(q==0)=false:=by simpa using hbs _ (List.mem_singleton.2 rfl)
     have h0:¬ q=0:=by simpa using h0
     exact ⟨rfl,_,by simp [binOp,Op.intDiv,h0];rfl,by simp only [VR,PR]⟩
    all_goals exact ⟨rfl,_,by simp only [binOp,Op.intArith,Op.intBits,Op.intCmp,ne_eq,not_true_eq_false,if_false];rfl,by simp only [VR,PR];first|done|rfl⟩
 .rename_i p q;simp only [VR,PR] at d e;subst d;subst e;have n:(eqGuard c t x y (.string ⟨p.toArray⟩) (.string ⟨q.toArray⟩)).run P w= .ok () w:=ig c t x y _ _ (by simp) (by simp);rw [Sem.run_bind,n,Result.andThen_ok];split at h
  all_goals try (cases h;done)
  all_goals obtain ⟨rfl,rfl,rfl⟩:=aK h
  case h_1=>
   have h0:=dB (hbs _ (List.mem_singleton.2 rfl));have z:¬ (IntKind.i64.max<((p.length+q.length:Nat):Int)):=by
    have:IntKind.i64.max=9223372036854775807:=by decide
    omega
   refine ⟨rfl,.string ⟨(p++q).toArray⟩, ?_,by simp only [VR,PR]⟩;simp only [binOp,Op.stringOp,tS,gt_iff_lt,z,if_false,FL,Sem.run_pure]
  all_goals
   refine ⟨rfl,_,rfl, ?_⟩;simp only [VR,PR,su,sM]
 .split at h
  .obtain ⟨r,j,h⟩:=bind_some h;obtain ⟨rfl,rfl,rfl⟩:=aK h;exact ⟨rfl,_,A0 i f d e j hbs x y _ (.inl rfl),by simp only [VR,PR];rfl⟩
  .obtain ⟨r,j,h⟩:=bind_some h;obtain ⟨rfl,rfl,rfl⟩:=aK h;exact ⟨rfl,_,A0 i f d e j hbs x y _ (.inr rfl),by simp only [VR,PR];rfl⟩
  .cases h
theorem K_ {x v:AV} {b:Value} (a:VR g m S x b) {c:UnOp} {ups:List (Nat × aM)} {bs:List Bool} (h:unA c x=some (v,ups,bs)):
  ups= []/\∃ cv,(Op.unary c b).run P w= .ok cv w/\VR g m S v cv:=by
 unfold unA at h;split at h
 .obtain ⟨rfl,rfl,rfl⟩:=aK h;simp only [VR,PR] at a;subst a;exact ⟨rfl,_,rfl,by simp only [VR,PR]⟩
 .obtain ⟨rfl,rfl,rfl⟩:=aK h;simp only [VR,PR] at a;subst a;exact ⟨rfl,_,rfl,by simp only [VR,PR]⟩
 .cases h
theorem pu {f:AV->AV->Option AV} {F:Value->Value->Sem Value} (d:∀ a b c ca cb,VR g m S a ca->VR g m S b cb->f a b=some c->∃ cc,(F ca cb).run P w= .ok cc w/\VR g m S c cc):
  ∀ (l:List AV) (cl:List Value) (x v:AV) (cx:Value),aU g m S l cl->VR g m S x cx->D9 f x l=some v->∃ cv,(cl.foldlM F cx).run P w= .ok cv w/\VR g m S v cv
 | [],[],x,v,cx,_,hx,h=>by simp [D9] at h;subst h;exact ⟨cx,by simp,hx⟩
 | y::r,cy::cr,x,v,cx,hl,hx,h=>by
  simp only [aU] at hl;simp only [D9] at h;split at h
  .rename_i z k;obtain ⟨o,e,i⟩:=d _ _ _ _ _ hx hl.1 k;obtain ⟨cv,n,j⟩:=pu d r cr z v o hl.2 i h;exact ⟨cv,by simp [List.foldlM_cons,e,n],j⟩
  .cases h
 | [],_::_,_,_,_,hl,_,_=>by simp [aU] at hl
 |_::_,[],_,_,_,hl,_,_=>by simp [aU] at hl
theorem GJ {a b c:AV} {i e:Value} (d:VR g m S a i) (f:VR g m S b e) (h:min2 a b=some c):∃ cc,(Builtin.min2 i e).run P w= .ok cc w/\VR g m S c cc:=by
 unfold min2 at h;split at h
 .split at h
  .cases h;simp only [VR,PR] at d f;subst d;subst f;exact ⟨_,rfl,by simp only [VR,PR]⟩
  .cases h
 .cases h
theorem GG {a b c:AV} {i e:Value} (d:VR g m S a i) (f:VR g m S b e) (h:max2 a b=some c):∃ cc,(Builtin.max2 i e).run P w= .ok cc w/\VR g m S c cc:=by
 unfold max2 at h;split at h
 .split at h
  .cases h;simp only [VR,PR] at d f;subst d;subst f;exact ⟨_,rfl,by simp only [VR,PR]⟩
  .cases h
 .cases h
theorem Kj {l:List AV} {cl:List Value} (a:aU g m S l cl) {v:AV} (h:uA min2 l=some v) (b:Array TypeId) (ty:Nat):∃ cv,(Builtin.min_ b ty cl.toArray).run P w= .ok cv w/\VR g m S v cv:=by
 cases l with
 |nil=>simp [uA] at h
 | cons x r=>cases cl with
  |nil=>simp [aU] at a
  |cons cx cr=>
   simp only [aU] at a;obtain ⟨cv,c,d⟩:=pu (P:=P) (w:=w) (F:=Builtin.min2) (λ_ _ _ _ _=>GJ) r cr x v cx a.2 a.1 h;exact ⟨cv,by simpa [Builtin.min_] using c,d⟩
theorem Kh {l:List AV} {cl:List Value} (a:aU g m S l cl) {v:AV} (h:uA max2 l=some v) (b:Array TypeId) (ty:Nat):∃ cv,(Builtin.max_ b ty cl.toArray).run P w= .ok cv w/\VR g m S v cv:=by
 cases l with
 |nil=>simp [uA] at h
 | cons x r=>cases cl with
  |nil=>simp [aU] at a
  |cons cx cr=>
   simp only [aU] at a;obtain ⟨cv,c,d⟩:=pu (P:=P) (w:=w) (F:=Builtin.max2) (λ_ _ _ _ _=>GG) r cr x v cx a.2 a.1 h;exact ⟨cv,by simpa [Builtin.max_] using c,d⟩
end
end AM
