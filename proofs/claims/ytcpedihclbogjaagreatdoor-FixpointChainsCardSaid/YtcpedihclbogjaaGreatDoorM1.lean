/- The machine and its soundness. -/
import Derived.WalkKit
import Derived.Deep.AppendSrc
import Derived.Deep.MidRow
import Derived.WalkLawsBesides
set_option linter.unusedSimpArgs false
set_option linter.unusedVariables false
open Nat renaming beq->Xqk,blt->Xjk,ble->Xqn,le_refl->κ,le_trans->Xqr,add_zero->Xq4,add_assoc->Xj2,add_mul->Xxy,zero_add->Δ
open List renaming replicate->ζ,range->Xqo,cons_append->Xqt,take_succ_cons->Xx8,map_cons->Xqg,getD_eq_getElem?_getD->ξ,headD_eq_head?_getD->Xw2,head?_drop->Xku,tail_drop->Xk4,getElem?_map->Xqw,getElem?_take->Xjq,getElem?_drop->Xj5,getElem?_eq_getElem->μ,drop_eq_nil_of_le->Xwh,length_cons->ο,length_nil->Xqa
open BitVec renaming ofInt->Xqh
open Bool renaming and_eq_true->τ,not_eq_true'->Xqs
open Option renaming map_eq_some_iff->Xqq
namespace AM
open Go
inductive AV where
 |int (k:IntKind) (n:Int)
 |bool (b:Bool)
 |str (s:List UInt8)
 |agg (l:List AV)
 |tup (l:List AV)
 |nilS
 |sl (xs:List AV) (n:Nat) (nn:Bool)
 |ref (b ver i n:Nat)
 |own (xs:List AV) (n esz:Nat)
 |ptr (b ver off:Nat)
 |pp (xs:List AV) (off:Nat)
 |mr (b ver:Nat)
 |mp (ks vs:List AV)
 |nilP
 |fn (f:Nat) (first cap:List AV)
 |nilF
 |ifc (t:Nat) (v:AV)
 |nilI
 |dead
inductive LK where
 |int (k:IntKind)
 |bool
 |str
 |sl
 |oth
inductive TD where
 |struct (fs:List (Nat × Nat × Nat))
 |array (n elem:Nat)
 |slice (elem:Nat)
 |int (k:IntKind)
 |str
 |bool
 |iface
 |ptr
 |func
 |map (k e:Nat)
 |oth
structure TI where
 d:TD
 size:Nat
 bytes:Nat
 zero:List AV
 lks:List LK
 cmp:Bool
structure AF where
 fn:Func
 keep:List Nat
 shared:Bool
inductive Tr (α:Type) where
 |nil
 |node (v:Option α) (l r:Tr α)
def Tr.get {α:Type}:Tr α->Nat->Option α
 | .nil,_=>none
 | .node v l r,n=>match Xqk n 0 with
  |true=>v
  |false=>match Xqk (n % 2) 1 with
   |true=>l.get ((n - 1) / 2)
   |false=>r.get ((n - 1) / 2)
structure AP where
 nty:Nat
 ty:Tr TI
 nfn:Nat
 fn:Tr AF
 gl:List (Option (List AV))
def je:Nat:=4611686018427387904
def aet:List AV->Option AV
 | [.agg ks,.agg vs]=>some (.mp ks vs)
 |_=>none
structure aU where
 cells:List AV
 ver:Nat
 fro:Bool
 fz:Nat
 esz:Nat
 pr:Bool
abbrev ji:=List (Nat × AV)
abbrev Hp:=List (Nat × aU)
def look {α:Type}:List (Nat × α)->Nat->Option α
 | [],_=>none
 |(u,x)::r,t=>match Xqk u t with|true=>some x|false=>look r t
def lQ {α β:Type} (f:α->Option β):List α->Option (List β)
 | []=>some []
 |x::r=>match f x with
  |some y=>match lQ f r with|some l=>some (y::l)|none=>none
  |none=>none
def ji.get (e:ji) (t:Nat):AV:=(look e t).getD .dead
def AV.cells:AV->List AV
 | .agg l=>l
 |x=> [x]
def AV.toInt:AV->Int| .int _ n=>n|_=>0
def AV.toBool:AV->Bool| .bool b=>b|_=>false
def AV.toStr:AV->List UInt8| .str s=>s|_=> []
def AV.slX:AV->List AV| .sl xs _ _=>xs|_=> []
def AV.slN:AV->Nat| .sl _ n _=>n|_=>0
def aaq:IntKind->Nat
 | .i8=>0| .i16=>1| .i32=>2| .i64=>3| .u8=>4| .u16=>5| .u32=>6| .u64=>7
def jh (a b:IntKind):Bool:=Xqk (aaq a) (aaq b)
def chk:LK->AV->Bool
 | .int k,.int k' _=>jh k k'
 | .bool,.bool _=>true
 | .str,.str _=>true
 | .sl,.sl _ _ _=>true
 | .sl,.nilS=>true
 | .oth,.dead=>false
 | .oth,.agg _=>false
 | .oth,.tup _=>false
 | .oth,.own _ _ _=>false
 | .oth,_=>true
 |_,_=>false
def eta:LK->AV->AV
 | .int k,c=> .int k c.toInt
 | .bool,c=> .bool c.toBool
 | .str,c=> .str c.toStr
 | .sl,c=> .sl c.slX c.slN false
 | .oth,c=>c
def qQ:AV->Bool
 | .dead| .agg _| .tup _| .own _ _ _=>false
 |_=>true
mutual
def eG:AV->List Nat
 | .ref b _ _ _=> [b]
 | .ptr b _ _=> [b]
 | .mr b _=> [b]
 | .agg l=>cZ l
 | .tup l=>cZ l
 | .fn _ f c=>cZ f++cZ c
 | .ifc _ v=>eG v
 |_=> []
def cZ:List AV->List Nat
 | []=> []
 |x::r=>eG x++cZ r
end
mutual
def ren (ρ:Nat->Nat->Option (Nat × Nat)):AV->AV
 | .ref b v i n=>match ρ b v with|some (b',v')=> .ref b' v' i n|none=> .dead
 | .ptr b v o=>match ρ b v with|some (b',v')=> .ptr b' v' o|none=> .dead
 | .mr b v=>match ρ b v with|some (b',v')=> .mr b' v'|none=> .dead
 | .agg l=> .agg (pI ρ l)
 | .tup l=> .tup (pI ρ l)
 | .fn f a c=> .fn f (pI ρ a) (pI ρ c)
 | .ifc t v=> .ifc t (ren ρ v)
 |x=>x
def pI (ρ:Nat->Nat->Option (Nat × Nat)):List AV->List AV
 | []=> []
 |x::r=>ren ρ x::pI ρ r
end
def NT:Value->AV
 | .int k n=> .int k n
 | .bool b=> .bool b
 | .string s=> .str s.data.toList
 | .pointer a=>match a with|none=> .nilP|some _=> .dead
 | .slice a n c=>match a,n,c with|none,0,0=> .nilS|_,_,_=> .dead
 | .nilFunc=> .nilF
 | .nilIface=> .nilI
 | .map a=>match a with|none=> .mp [] []|some _=> .dead
 |_=> .dead
def IY:Value->AV
 | .agg cs=> .agg (cs.toList.map NT)
 | .tuple vs=>match vs.toList with| []=> .tup []|_=> .dead
 |v=>NT v
def AP.tyAt (ap:AP) (t:Nat):Option TI:=match Xjk t ap.nty with|true=>ap.ty.get t|false=>none
def AP.fnAt (ap:AP) (f:Nat):Option AF:=match Xjk f ap.nfn with|true=>ap.fn.get f|false=>none
def rP (l:List Nat) (a:Nat):Bool:=l.any (Xqk a)
def jK (l:List Nat):List Nat:=l.foldl (λacc b=>if rP acc b then acc else acc++ [b]) []
abbrev L_:=Option (AV × List (Nat × aU) × List Bool)
def bH (v:AV) (bs:List Bool:= []):L_:=some (v,[],bs)
def Qj (ty:Bool):List LK->List AV->List AV
 | [],_=> []
 |k::ks,ys=>(match ty with|true=>eta k (ys.headD .dead)|false=>ys.headD .dead)::Qj ty ks ys.tail
def Y7 (ty:Bool):List LK->List AV->List Bool
 | [],_=> []
 |k::ks,ys=>(match ty with|true=>chk k (ys.headD .dead)|false=>chk .oth (ys.headD .dead))::Y7 ty ks ys.tail
def yf (ty:Bool) (ks:List LK) (xs:List AV) (off:Nat):List AV:=Qj ty ks (xs.drop off)
def MO (ty:Bool) (ks:List LK) (xs:List AV) (off:Nat):List Bool:=Y7 ty ks (xs.drop off)
def NE:TD->Bool
 | .struct _=>true
 | .array _ _=>true
 |_=>false
def uG (ti:TI) (cs:List AV):Option AV:=
 match NE ti.d with
 |true=>some (.agg cs)
 |false=>match cs with| [c]=>some c|_=>none
def PQ (ti:TI) (rd:Nat->Option aU) (p:AV):L_:=
 match p with
 | .pp xs off=>(uG ti (yf true ti.lks xs off)).bind λv=>bH v (MO true ti.lks xs off)
 | .ptr b ver off=>(rd b).bind λB=>match Xqk B.ver ver && !(Xqk B.esz je) with
  |true=>(uG ti (yf (Xjk 0 B.esz && B.pr) ti.lks B.cells off)).bind λv=>bH v (MO (Xjk 0 B.esz && B.pr) ti.lks B.cells off)
  |false=>none
 |_=>none
def setCells (xs:List AV) (off:Nat) (vs:List AV):List AV:=xs.take off++vs++xs.drop (off+vs.length)
def Uh (ti:TI) (rd:Nat->Option aU) (p v:AV):L_:=
 match p with
 | .ptr b ver off=>(rd b).bind λB=>
  let vs:=v.cells
  let rs:=cZ vs
  match Xqk B.ver ver && !B.fro && Xqk vs.length ti.size && vs.all qQ && !(Xqk B.esz je) with
  |true=>some (.dead,[(b,{B with cells:=setCells B.cells off vs,pr:=B.pr && rs.isEmpty})],[Xqn (off+vs.length) B.cells.length])
  |false=>none
 |_=>none
def jI (nid:Nat) (cells:List AV) (esz:Nat):Nat × aU:=(nid,{cells,ver:=0,fro:=false,fz:=0,esz,pr:=(cZ cells).isEmpty})
def zD (cells:List AV):List (Nat × Nat × AV)->Option (List AV)
 | []=>some cells
 |(off,size,v)::r=>match Xqk v.cells.length size && Xqn (off+size) cells.length && v.cells.all qQ with
  |true=>zD (setCells cells off v.cells) r
  |false=>none
def Rz (ap:AP) (ti:TI) (parts:List (Nat × AV)):L_:=
 match ti.d with
 | .struct fs=>(lQ (λ(q:Nat × AV)=>(fs[q.1]?).map λ(x:Nat × Nat × Nat)=>(x.1,x.2.2,q.2)) parts).bind λps=>(zD ti.zero ps).bind λcs=>bH (.agg cs)
 | .array _ e=>(ap.tyAt e).bind λte=>(zD ti.zero (parts.map λ(i,v)=>(i*te.size,te.size,v))).bind λcs=>bH (.agg cs)
 |_=>none
def gB (n:Nat) (z:List AV):List AV:=(ζ n z).flatten
def xw (ap:AP) (nid:Nat) (ti:TI) (len:Nat) (parts:List (Nat × AV)):L_:=
 match ti.d with
 | .slice e=>(ap.tyAt e).bind λte=>
  match Xjk 0 te.size && Xqn (len*te.size) (2^24) && Xqk te.zero.length te.size with
  |true=>(zD (gB len te.zero) (parts.map λ(i,v)=>(i*te.size,te.size,v))).bind λcs=>
   some (.ref nid 0 0 len,[jI nid cs te.size],[])
  |false=>none
 |_=>none
def aa9 (p:AV) (o:Nat):Option AV:=
 match p with
 | .ptr b v off=>some (.ptr b v (off+o))
 | .pp xs off=>some (.pp xs (off+o))
 |_=>none
def UZ (v:AV):Option Int:=match v with| .int _ n=>some n|_=>none
def Ai (ap:AP) (ti:TI) (rd:Nat->Option aU) (x i:AV):L_:=
 (UZ i).bind λi=>
 match ti.d with
 | .slice e=>(ap.tyAt e).bind λte=>
  match x with
  | .sl xs n _=>bH (.pp xs (i.toNat*te.size)) [decide (0<=i),decide (i<n)]
  | .ref b ver j n=>(rd b).bind λB=>match Xqk B.ver ver && Xqk B.esz te.size with
   |true=>bH (.ptr b ver ((j+i.toNat)*te.size)) [decide (0<=i),decide (i<n)]
   |false=>none
  |_=>none
 | .array n e=>(ap.tyAt e).bind λte=>(aa9 x (i.toNat*te.size)).bind λp=>bH p [decide (0<=i),decide (i<n)]
 |_=>none
def SQ (ap:AP) (ti:TI) (x i:AV):L_:=
 (UZ i).bind λi=>
 match ti.d,x with
 | .str,.str s=>bH (.int .u8 (s.getD i.toNat 0).toNat) [decide (0<=i),decide (i<s.length)]
 | .array n e,.agg cs=>(ap.tyAt e).bind λte=>
  (uG te (yf true te.lks cs (i.toNat*te.size))).bind λv=>bH v (decide (0<=i)::decide (i<n)::MO true te.lks cs (i.toNat*te.size))
 |_,_=>none
def qZ (v:Option AV) (d:Int):Option Int:=match v with|none=>some d|some (.int _ n)=>some n|some _=>none
def Uc (ap:AP) (ti:TI) (rd:Nat->Option aU) (x:AV) (lo hi mx:Option AV):L_:=
 match ti.d,x,mx with
 | .str,.str s,none=>(qZ lo 0).bind λl=>(qZ hi s.length).bind λh=>
   bH (.str ((s.take h.toNat).drop l.toNat)) [decide (0<=l),decide (l<=h),decide (h<=s.length)]
 | .slice e,.sl xs n nn,none=>(ap.tyAt e).bind λte=>(qZ lo 0).bind λl=>(qZ hi n).bind λh=>
   bH (.sl ((xs.take (h.toNat*te.size)).drop (l.toNat*te.size)) (h.toNat - l.toNat) nn) [decide (0<=l),decide (l<=h),decide (h<=n)]
 | .slice e,.ref b ver j n,none=>(ap.tyAt e).bind λte=>(rd b).bind λB=>(qZ lo 0).bind λl=>(qZ hi n).bind λh=>
   match Xqk B.ver ver && Xqk B.esz te.size with
   |true=>bH (.ref b ver (j+l.toNat) (h.toNat - l.toNat)) [decide (0<=l),decide (l<=h),decide (h<=n)]
   |false=>none
 | .slice e,.nilS,none=>(ap.tyAt e).bind λ_=>(qZ lo 0).bind λl=>(qZ hi 0).bind λh=>bH .nilS [decide (l=0),decide (h=0)]
 |_,_,_=>none
def aau (d:TD) (x:AV):L_:=
 match d,x with
 | .array n _,_=>bH (.int .i64 n)
 | .str,.str s=>bH (.int .i64 s.length)
 | .slice _,.sl _ n _=>bH (.int .i64 n)
 | .slice _,.ref _ _ _ n=>bH (.int .i64 n)
 | .slice _,.nilS=>bH (.int .i64 0)
 |_,_=>none
def QI (size:Nat) (rd:Nat->Option aU) (x:AV):Option (List AV × Nat × Bool):=
 match x with
 | .sl xs n _=>some (xs,n,true)
 | .nilS=>some ([],0,true)
 | .str s=>some (s.map λb=> .int .u8 b.toNat,s.length,true)
 | .ref b ver j n=>(rd b).bind λB=>match Xqk B.ver ver && Xqk B.esz size && !(Xqk B.esz je) with
  |true=>some ((B.cells.drop (j*size)).take (n*size),n,B.pr)
  |false=>none
 |_=>none
def Qp:Nat:=2^40
def LD (b:Nat):Nat:=match Xqn b 128 with|true=>Qp|false=>549755813888
def Be (nid:Nat) (te:TI) (rd:Nat->Option aU) (em:Bool) (s x:AV):L_:=
 (QI te.size rd x).bind λ(xs,n,pr)=>
 match Xjk 0 te.size && Xqn te.bytes 256 with
 |false=>none
 |true=>
 match s with
 | .nilS=>match em with
  |true=>bH .nilS [Xqk xs.length (n*te.size)]
  |false=>some (.ref nid 0 0 n,[(nid,⟨xs,0,false,0,te.size,pr⟩)],[Xqk xs.length (n*te.size),Xqn n (LD te.bytes)])
 | .ref b ver 0 m=>(rd b).bind λB=>match Xqk B.ver ver && Xqk B.esz te.size && !(Xqk B.esz je) with
  | true=>some (.ref b (ver+1) 0 (m+n),[(b,{B with cells:=B.cells.take (m*te.size)++xs,ver:=ver+1,pr:=B.pr && pr})],
    [Xqk xs.length (n*te.size),Xqn (m+n) (LD te.bytes),Xqn (m*te.size) B.cells.length, !B.fro||Xqn B.fz (m*te.size)])
  |false=>none
 |_=>none
def Ae:AV->Option Nat
 | .sl _ n _=>some n
 | .nilS=>some 0
 | .str s=>some s.length
 | .ref _ _ _ n=>some n
 |_=>none
def BI (ρ:Operand->AV) (o:Op):Option Nat:=
 match o with
 | .call {callee:= .builtin .append,args,..}=>match args.toList with
  | [s,x]=>match ρ s with
   | .nilS=>Ae (ρ x)
   |_=>none
  |_=>none
 |_=>none
def Am (ap:AP) (nid:Nat) (ti:TI) (l c:AV):L_:=
 match ti.d,l,c with
 | .slice e,.int _ l,.int _ c=>(ap.tyAt e).bind λte=>
  match Xjk 0 te.size && Xqk te.zero.length te.size && Xqn te.bytes 128 && (cZ te.zero).isEmpty with
  |true=>some (.ref nid 0 0 l.toNat,[(nid,⟨gB l.toNat te.zero,0,false,0,te.size,true⟩)],[decide (0<=l),decide (l=c),decide (l<=2^40)])
  |false=>none
 |_,_,_=>none
def Hf (ap:AP) (ts td:TI) (rd:Nat->Option aU) (x:AV):L_:=
 match ts.d,td.d,x with
 |_,.int k,.int _ n=>bH (.int k (k.wrap n))
 | .str,.str,.str s=>bH (.str s)
 | .slice e,.str,x=>(ap.tyAt e).bind λte=>match te.d,x with
  | .int .u8,.str _=>none
  | .int .u8,x=>(QI 1 rd x).bind λ(xs,n,_)=>bH (.str (xs.map λc=>UInt8.ofNat c.toInt.toNat)) [Xqk xs.length n,xs.all (chk (.int .u8))]
  |_,_=>none
 |_,_,_=>none
def Sm:LK->AV->AV->Option Bool
 | .int k,.int k1 a,.int k2 b=>match jh k k1 && jh k k2 with|true=>some (a==b)|false=>none
 | .bool,.bool a,.bool b=>some (a==b)
 | .str,.str a,.str b=>some (a==b)
 |_,_,_=>none
def mg:List LK->List AV->List AV->Option Bool
 | [],[],[]=>some true
 |k::ks,a::as,b::bs=>(Sm k a b).bind λc=>(mg ks as bs).map λd=>c && d
 |_,_,_=>none
def eqA (ti:TI) (a b:AV):Option Bool:=
 match ti.d,a,b with
 | .bool,.bool a,.bool b=>some (a==b)
 | .struct _,.agg xs,.agg ys=>match ti.cmp with|true=>mg ti.lks xs ys|false=>none
 | .ptr,.nilP,.nilP=>some true
 | .ptr,.nilP,.ptr _ _ _=>some false
 | .ptr,.nilP,.pp _ _=>some false
 | .ptr,.ptr _ _ _,.nilP=>some false
 | .ptr,.pp _ _,.nilP=>some false
 | .iface,.nilI,.ifc _ _=>some false
 | .iface,.ifc _ _,.nilI=>some false
 | .func,.nilF,.nilF=>some true
 | .func,.nilF,.fn _ _ _=>some false
 | .func,.fn _ _ _,.nilF=>some false
 | .slice _,.nilS,.nilS=>some true
 | .slice _,.ref _ _ _ _,.nilS=>some false
 | .slice _,.nilS,.ref _ _ _ _=>some false
 | .slice _,.sl _ _ _,.nilS=>some false
 | .slice _,.nilS,.sl _ _ _=>some false
 |_,_,_=>none
def IU (a b:AV):List Bool:=
 match a,b with
 | .sl _ n false,.nilS=> [Xjk 0 n]
 | .nilS,.sl _ n false=> [Xjk 0 n]
 |_,_=> []
def iC:List UInt8->List UInt8->Bool
 |_,[]=>false
 | [],_::_=>true
 |a::x,b::y=>decide (a<b)||(a==b && iC x y)
def ahK (op:BinOp) (ti:TI) (x y:AV):L_:=
 match x,y with
 | .int k a,.int k' b=>
  match op with
  | .shl=>bH (.int k (k.wrap (a*2^(min b.toNat k.bits)))) [decide (0<=b)]
  | .shr=>bH (.int k (a.fdiv (2^(min b.toNat k.bits)))) [decide (0<=b)]
  | _=>match jh k k' with
   |false=>none
   |true=>match op with
    | .add=>bH (.int k (k.wrap (a+b)))
    | .sub=>bH (.int k (k.wrap (a - b)))
    | .mul=>bH (.int k (k.wrap (a*b)))
    | .quo=>bH (.int k (k.wrap (a.tdiv b))) [!(b==0)]
    | .rem=>bH (.int k (a.tmod b)) [!(b==0)]
    | .and=>bH (.int k (k.wrap (Xqh k.bits a &&& Xqh k.bits b).toNat))
    | .or=>bH (.int k (k.wrap (Xqh k.bits a|||Xqh k.bits b).toNat))
    | .xor=>bH (.int k (k.wrap (Xqh k.bits a^^^Xqh k.bits b).toNat))
    | .eql=>bH (.bool (a==b))
    | .neq=>bH (.bool (!(a==b)))
    | .lss=>bH (.bool (decide (a<b)))
    | .leq=>bH (.bool (decide (a<=b)))
    | .gtr=>bH (.bool (decide (b<a)))
    | .geq=>bH (.bool (decide (b<=a)))
    |_=>none
 | .str a,.str b=>
  match op with
  | .add=>bH (.str (a++b)) [Xqn (a.length+b.length) 9223372036854775807]
  | .eql=>bH (.bool (a==b))
  | .neq=>bH (.bool (!(a==b)))
  | .lss=>bH (.bool (iC a b))
  | .leq=>bH (.bool (iC a b||a==b))
  | .gtr=>bH (.bool (!(iC a b||a==b)))
  | .geq=>bH (.bool (!iC a b))
  |_=>none
 |x,y=>
  match op with
  | .eql=>(eqA ti x y).bind λb=>bH (.bool b) (IU x y)
  | .neq=>(eqA ti x y).bind λb=>bH (.bool (!b)) (IU x y)
  |_=>none
def unA (op:UnOp) (x:AV):L_:=
 match op,x with
 | .not,.bool b=>bH (.bool (!b))
 | .neg,.int k n=>bH (.int k (k.wrap (0 - n)))
 |_,_=>none
def min2 (a b:AV):Option AV:=match a,b with| .int k x,.int k' y=>(match jh k k' with|true=>some (.int k (if y<x then y else x))|false=>none)|_,_=>none
def max2 (a b:AV):Option AV:=match a,b with| .int k x,.int k' y=>(match jh k k' with|true=>some (.int k (if y>x then y else x))|false=>none)|_,_=>none
def Pq (f:AV->AV->Option AV):AV->List AV->Option AV
 |x,[]=>some x
 |x,y::r=>match f x y with|some z=>Pq f z r|none=>none
def DF (f:AV->AV->Option AV):List AV->Option AV
 | []=>none
 |x::r=>Pq f x r
def MI (ap:AP) (x:AV) (asserted:Nat) (commaOk:Bool):L_:=
 (ap.tyAt asserted).bind λti=>
 match ti.d with
 | .iface=>none
 | _=>match x with
  | .ifc t v=>match Xqk t asserted with
   |true=>bH (match commaOk with|true=> .tup [v,.bool true]|false=>v)
   |false=>match commaOk with|true=>(uG ti ti.zero).bind λz=>bH (.tup [z,.bool false])|false=>none
  | .nilI=>match commaOk with|true=>(uG ti ti.zero).bind λz=>bH (.tup [z,.bool false])|false=>none
  |_=>none
def SI (ap:AP) (ti:TI) (x:AV) (f:Nat):L_:=
 match ti.d,x with
 | .struct fs,.agg cs=>(fs[f]?).bind λ(o,t,_)=>(ap.tyAt t).bind λtf=>
  (uG tf (yf false tf.lks cs o)).bind λv=>bH v (MO false tf.lks cs o)
 |_,_=>none
def Bg:AV->List Nat
 | .ref b _ _ _=> [b]
 | .ptr b _ _=> [b]
 | .mr b _=> [b]
 |_=> []
def abo (ρ:Operand->AV):Op->List Nat
 | .load _ a=>Bg (ρ a)
 | .store _ a _=>Bg (ρ a)
 | .indexAddr _ x _=>Bg (ρ x)
 | .slice _ x _ _ _=>Bg (ρ x)
 | .convert _ _ x=>Bg (ρ x)
 | .lookup _ x _ _=>Bg (ρ x)
 | .mapUpdate _ x _ _=>Bg (ρ x)
 | .insert _ x _ _=>Bg (ρ x)
 | .call {callee:= .builtin .append,args,..}=>jK (args.toList.flatMap λx=>Bg (ρ x))
 |_=> []
def KW:LK->AV->Bool
 | .int k,.int k' _=>jh k k'
 | .bool,.bool _=>true
 | .str,.str _=>true
 |_,_=>false
def pR:List LK->List AV->Bool
 | [],[]=>true
 |k::r,x::l=>KW k x && pR r l
 |_,_=>false
def mF (ti:TI) (x:AV):Bool:=match ti.d,x with
 | .int k,.int k' _=>jh k k'
 | .bool,.bool _=>true
 | .str,.str _=>true
 | .struct _,.agg l=>ti.cmp && pR ti.lks l
 |_,_=>false
def FB:AV->AV->Bool
 | .int _ a,.int _ b=>a==b
 | .bool a,.bool b=>a==b
 | .str a,.str b=>a==b
 |_,_=>false
def JU:List AV->List AV->Bool
 | [],[]=>true
 |a::r,b::q=>FB a b && JU r q
 |_,_=>false
def wX:AV->AV->Bool
 | .int _ a,.int _ b=>a==b
 | .bool a,.bool b=>a==b
 | .str a,.str b=>a==b
 | .agg a,.agg b=>JU a b
 |_,_=>false
def dO:List AV->List AV->AV->Option AV
 |k0::ks,v0::vs,k=>match wX k k0 with|true=>some v0|false=>dO ks vs k
 |_,_,_=>none
def vT (ks:List AV) (k:AV):List AV:=match ks.any (wX k) with|true=>ks|false=>ks++ [k]
def oQ:List AV->List AV->AV->AV->List AV
 |k0::ks,v0::vs,k,v=>match wX k k0 with|true=>v::vs|false=>v0::oQ ks vs k v
 |_,_,_,v=> [v]
def aaL (rd:Nat->Option aU) (x:AV):Option (List AV × List AV):=
 match x with
 | .mp ks vs=>some (ks,vs)
 | .mr b ver=>(rd b).bind λB=>match Xqk B.ver ver && Xqk B.esz je with
  |true=>match B.cells with| [.agg ks,.agg vs]=>some (ks,vs)|_=>none
  |false=>none
 |_=>none
def PP (ok:Bool) (o:Option AV) (z:AV):AV:=match ok with|true=> .tup [o.getD z,.bool o.isSome]|false=>o.getD z
def NJ (ap:AP) (ti:TI) (rd:Nat->Option aU) (x k:AV) (ok:Bool):L_:=
 match ti.d with
 | .map kt et=>(ap.tyAt kt).bind λtk=>(ap.tyAt et).bind λte=>(aaL rd x).bind λq=>(uG te te.zero).bind λz=>
   bH (PP ok (dO q.1 q.2 k) z) [mF tk k,q.1.all (mF tk)]
 |_=>none
def Gw (ap:AP) (ti:TI) (rd:Nat->Option aU) (x k v:AV):L_:=
 match ti.d,x with
 | .map kt _,.mr b ver=>(ap.tyAt kt).bind λtk=>(rd b).bind λB=>match Xqk B.ver ver && Xqk B.esz je && !B.fro with
  |true=>match B.cells with
   | [.agg ks,.agg vs]=>some (.dead,[(b,{B with cells:= [.agg (vT ks k),.agg (oQ ks vs k v)],pr:=B.pr && (eG v).isEmpty})],[mF tk k,ks.all (mF tk)])
   |_=>none
  |false=>none
 |_,_=>none
def opA (ap:AP) (nid:Nat) (ρ:Operand->AV) (rd:Nat->Option aU) (dec:Operand->Option Bool) (em:Bool) (o:Op):L_:=
 match o with
 | .move x=>bH (ρ x)
 | .assign x=>bH (ρ x)
 | .pick c a b=>match dec c with
  |some true=>bH (ρ a)
  |some false=>bH (ρ b)
  |none=>match ρ c,ρ a,ρ b with| .bool c,.bool x,.bool y=>bH (.bool (cond c x y))|_,_,_=>none
 | .alloc e=>(ap.tyAt e).bind λte=>match Xjk 0 te.size && te.zero.all qQ with|true=>some (.ptr nid 0 0,[jI nid te.zero 0],[])|false=>none
 | .box e x=>(ap.tyAt e).bind λte=>let vs:=(ρ x).cells
  match Xjk 0 te.size && vs.all qQ with|true=>some (.ptr nid 0 0,[jI nid vs 0],[])|false=>none
 | .build t parts=>(ap.tyAt t).bind λti=>Rz ap ti (parts.toList.map λ(i,x)=>(i,ρ x))
 | .buildSlice t len parts=>(ap.tyAt t).bind λti=>xw ap nid ti len (parts.toList.map λ(i,x)=>(i,ρ x))
 | .load t a=>(ap.tyAt t).bind λti=>PQ ti rd (ρ a)
 | .store t a x=>(ap.tyAt t).bind λti=>Uh ti rd (ρ a) (ρ x)
 | .makeMap _ r=>match r with|none=>some (.mr nid 0,[(nid,⟨[.agg [],.agg []],0,false,0,je,true⟩)],[])|some _=>none
 | .lookup t x k ok=>(ap.tyAt t).bind λti=>NJ ap ti rd (ρ x) (ρ k) ok
 | .mapUpdate t x k v=>(ap.tyAt t).bind λti=>Gw ap ti rd (ρ x) (ρ k) (ρ v)
 | .insert t x k v=>(ap.tyAt t).bind λti=>Gw ap ti rd (ρ x) (ρ k) (ρ v)
 | .nilCheck x=>match ρ x with
  | .ptr b v o=>bH (.ptr b v o)
  | .pp xs o=>bH (.pp xs o)
  | .fn f a c=>bH (.fn f a c)
  |_=>none
 | .binOp op t x y _=>(ap.tyAt t).bind λti=>ahK op ti (ρ x) (ρ y)
 | .unOp op _ x=>unA op (ρ x)
 | .convert s d x=>(ap.tyAt s).bind λts=>(ap.tyAt d).bind λtd=>Hf ap ts td rd (ρ x)
 | .makeInterface t x=>(ap.tyAt t).bind λti=>match ti.d with| .iface=>none|_=>bH (.ifc t (ρ x))
 | .makeFunc (.func f) first cap=>bH (.fn f (first.toList.map ρ) (cap.toList.map ρ))
 | .makeSlice t l c=>(ap.tyAt t).bind λti=>Am ap nid ti (ρ l) (ρ c)
 | .slice t x lo hi mx=>(ap.tyAt t).bind λti=>Uc ap ti rd (ρ x) (lo.map ρ) (hi.map ρ) (mx.map ρ)
 | .fieldAddr s x f=>(ap.tyAt s).bind λti=>match ti.d with
  | .struct fs=>(fs[f]?).bind λ(o,_,sz)=>match Xjk 0 sz with|true=>(aa9 (ρ x) o).bind λp=>bH p|false=>none
  |_=>none
 | .field t x f=>(ap.tyAt t).bind λti=>SI ap ti (ρ x) f
 | .indexAddr t x i=>(ap.tyAt t).bind λti=>Ai ap ti rd (ρ x) (ρ i)
 | .index t x i=>(ap.tyAt t).bind λti=>SQ ap ti (ρ x) (ρ i)
 | .typeAssert x _ asserted ok=>MI ap (ρ x) asserted ok
 | .extract t i=>match ρ t with| .tup l=>(l[i]?).bind λv=>bH v|_=>none
 | .call {callee:= .builtin b,args,argTypes}=>
  match b with
  | .len=>(args[0]?).bind λx=>(argTypes[0]?).bind λt=>(ap.tyAt t).bind λti=>aau ti.d (ρ x)
  | .append=>match args.toList,argTypes.toList with
   | [s,x],[t,t1]=>(ap.tyAt t).bind λti=>(ap.tyAt t1).bind λti1=>match ti.d,ti1.d,ρ x with
    | .slice e,.str,.str y=>(ap.tyAt e).bind λte=>match Xqk te.size 1 with|true=>Be nid te rd em (ρ s) (.str y)|false=>none
    | .slice _,.slice _,.str _=>none
    | .slice e,.slice _,y=>(ap.tyAt e).bind λte=>Be nid te rd em (ρ s) y
    |_,_,_=>none
   |_,_=>none
  | .min=>(DF min2 (args.toList.map ρ)).bind λv=>bH v
  | .max=>(DF max2 (args.toList.map ρ)).bind λv=>bH v
  |_=>none
 |_=>none
def K_ (P:Program):Nat->TypeId->List LK
 |0,_=> [.oth]
 |n+1,t=>match P.underlying t with
  |some (.int k)=> [.int k]
  |some .bool=> [.bool]
  |some .string=> [.str]
  |some (.slice _)=> [.sl]
  |some (.struct fs)=>fs.toList.flatMap λf=>K_ P n f.type
  |some (.array m e)=>(ζ m (K_ P n e)).flatten
  |_=> [.oth]
def lD (P:Program):Option TypeDesc->TD
 |some (.int k)=> .int k
 |some .bool=> .bool
 |some .string=> .str
 |some (.slice e)=> .slice e
 |some (.array n e)=> .array n e
 |some (.struct fs)=> .struct (fs.toList.map λf=>(f.offset,f.type,match P.info? f.type with|some i=>i.size|none=>0))
 |some (.interface _)=> .iface
 |some (.pointer _)=> .ptr
 |some (.func _ _ _)=> .func
 |some (.map k e)=> .map k e
 |_=> .oth
def BA (P:Program) (f:TypeId->Option (List LK)):List Field->Nat->Option (List LK)
 | [],_=>some []
 | x::r,off=>match f x.type with
  |some l=>match !(x.name== "_") && Xqk x.offset off && (match P.info? x.type with|some i=>Xqk i.size l.length|none=>false) with
   |true=>match BA P f r (off+l.length) with|some l'=>some (l++l')|none=>none
   |false=>none
  |none=>none
def kL (P:Program):Nat->TypeId->Option (List LK)
 |0,_=>none
 |n+1,t=>match P.underlying t with
  |some (.int k)=>some [.int k]
  |some .bool=>some [.bool]
  |some .string=>some [.str]
  |some (.struct fs)=>match P.stoodInHeld t with|true=>none|false=>BA P (kL P n) fs.toList 0
  |_=>none
def akb (i:TypeInfo) (d:TypeDesc):Bool:=match i.zero,d with
 |some (.agg _),.struct _=>true
 |some (.agg _),.array _ _=>true
 |some (.agg _),_=>false
 |some _,.struct _=>false
 |some _,.array _ _=>false
 |some _,_=>true
 |none,_=>false
def Z5 (P:Program) (d:TypeDesc):Bool:=match d with
 | .struct fs=>fs.toList.all λf=>(P.info? f.type).isSome
 |_=>true
def JK (i:TypeInfo):List AV:=match i.zero with|some z=>z.cells.toList.map IY|none=> []
def aiO:LK->LK->Bool
 | .int a,.int b=>jh a b
 | .bool,.bool=>true
 | .str,.str=>true
 |_,_=>false
def KZ:List LK->List LK->Bool
 | [],[]=>true
 |a::r,b::q=>aiO a b && KZ r q
 |_,_=>false
def adl (P:Program) (t:TypeId):Bool:=match kL P 8 t with|some l=>KZ l (K_ P 8 t) && !P.eqGuardType P.depth t|none=>false
def acw (P:Program) (t:TypeId):Option TI:=
 match P.info? t,P.underlying t with
 |some i,some d=>
  match Xqk (K_ P 8 t).length i.size && (akb i d && Z5 P d) && (JK i).all qQ && Xqk (JK i).length i.size && Xjk 0 i.size && i.zero.isSome && Xjk i.size je with
  |true=>some {d:=lD P (some d),size:=i.size,bytes:=i.bytes,zero:=JK i,lks:=K_ P 8 t,cmp:=adl P t}
  |false=>none
 |_,_=>none
abbrev aO:=Nat->Nat->Option Value
def iV (S S':aO):Prop:=∀ k o v,S k o=some v->S' k o=some v
theorem iV.refl (S:aO):iV S S:=λ_ _ _ h=>h
theorem iV.trans {S S' S'':aO} (h:iV S S') (a:iV S' S''):iV S S'':=λk o v e=>a k o v (h k o v e)
def lX (S:aO) (b o:Nat) (vs:List Value):Prop:=∀ j u,vs[j]? =some u->S b (o+j)=some u/\u.oneCell'=true
mutual
def PR (S:aO):AV->Value->Prop
 | .int k n,v=>v= .int k n
 | .bool b,v=>v= .bool b
 | .str s,v=>v= .string ⟨s.toArray⟩
 | .agg l,v=> ∃ vs,v= .agg vs.toArray/\bT S l vs
 | .tup l,v=> ∃ vs,v= .tuple vs.toArray/\bT S l vs
 | .nilS,v=>v= .slice none 0 0
 | .sl xs n nn,v=> ∃ a cap,v= .slice a n cap/\n<=cap/\(((a=none->nn=false)/\xs= []/\n=0/\cap=0)\/∃ b o vs,a=some ⟨b,o,none⟩/\bT S xs vs/\lX S b o vs)
 | .pp xs off,v=> ∃ b o vs,v= .pointer (some ⟨b,o+off,none⟩)/\bT S xs vs/\lX S b o vs
 | .mp ks vs,v=>(v= .map none/\ks= []/\vs= [])\/∃ b kk vv,v= .map (some b)/\S b 0=some (.agg kk.toArray)/\S b 1=some (.agg vv.toArray)/\bT S ks kk/\bT S vs vv
 | .nilP,v=>v= .pointer none
 | .fn f a c,v=> ∃ va vc,v= .func (.func f) va.toArray vc.toArray/\bT S a va/\bT S c vc
 | .nilF,v=>v= .nilFunc
 | .ifc t x,v=> ∃ u,v= .iface t u/\PR S x u
 | .nilI,v=>v= .nilIface
 | .dead,_=>True
 | .ref _ _ _ _,_=>False
 | .ptr _ _ _,_=>False
 | .mr _ _,_=>False
 | .own _ _ _,_=>False
def bT (S:aO):List AV->List Value->Prop
 | [],[]=>True
 |x::r,v::vs=>PR S x v/\bT S r vs
 |_,_=>False
end
abbrev dK:=Nat->Option aU
abbrev aW:=Nat->Nat × Nat
mutual
def VR (g:dK) (m:aW) (S:aO):AV->Value->Prop
 | .ref b ver i n,v=> ∃ B,g b=some B/\ver<=B.ver/\(∃ k o c',v= .slice (some ⟨k,o,none⟩) n c')/\(B.ver=ver->∃ o,v= .slice (some ⟨(m b).1,o,none⟩) n ((m b).2 - i)/\i+n<=(m b).2/\(i<(m b).2->o=i*B.esz)/\0<B.esz/\B.esz ≠ je)
 | .ptr b ver off,v=> ∃ B,g b=some B/\ver<=B.ver/\(∃ k o,v= .pointer (some ⟨k,o,none⟩))/\(B.ver=ver->v= .pointer (some ⟨(m b).1,off,none⟩))
 | .mr b ver,v=> ∃ B,g b=some B/\ver<=B.ver/\(∃ k,v= .map (some k))/\(B.ver=ver->v= .map (some (m b).1))
 | .agg l,v=> ∃ vs,v= .agg vs.toArray/\bu g m S l vs
 | .tup l,v=> ∃ vs,v= .tuple vs.toArray/\bu g m S l vs
 | .fn f a c,v=> ∃ va vc,v= .func (.func f) va.toArray vc.toArray/\bu g m S a va/\bu g m S c vc
 | .ifc t x,v=> ∃ u,v= .iface t u/\VR g m S x u
 | .int k n,v=>PR S (.int k n) v
 | .bool b,v=>PR S (.bool b) v
 | .str s,v=>PR S (.str s) v
 | .nilS,v=>PR S .nilS v
 | .sl xs n nn,v=>PR S (.sl xs n nn) v
 | .pp xs off,v=>PR S (.pp xs off) v
 | .mp ks vs,v=>PR S (.mp ks vs) v
 | .nilP,v=>PR S .nilP v
 | .nilF,v=>PR S .nilF v
 | .nilI,v=>PR S .nilI v
 | .dead,_=>True
 | .own _ _ _,_=>False
def bu (g:dK) (m:aW) (S:aO):List AV->List Value->Prop
 | [],[]=>True
 |x::r,v::vs=>VR g m S x v/\bu g m S r vs
 |_,_=>False
end
def bY (x y:AV):Prop:=∀ g m S v,VR g m S x v->VR g m S y v
inductive zh where
 |v (d:Nat) (x:AV)
 |b (d:Nat) (xs:List AV)
 |u (d:Nat)
inductive lG where
 |ret (v:AV)
 |pan (v:AV)
structure Cx where
 cl:Bool
 orc:List Bool
 bs:List Bool
 ps:List Prop
 ans:List (lG × List aU)
 hs:List zh
inductive R (α:Type) where
 |ok (a:α) (c:Cx)
 |need
 |bad (n:Nat)
def R.bind {α β:Type} (r:R α) (f:α->Cx->R β):R β:=
 match r with
 | .ok a c=>f a c
 | .need=> .need
 | .bad n=> .bad n
def lit (o b:Bool):Bool:=match o with|true=>b|false=> !b
def adC (c:Cx) (bs:List Bool):R Unit:=
 match c.cl with
 |true=>match bs.all id with|true=> .ok () c|false=> .bad 1
 |false=> .ok () {c with bs:=bs++c.bs}
def Dw (c:Cx) (b:Bool):R Bool:=
 match c.cl with
 |true=> .ok b c
 |false=>match c.orc with
  | []=> .need
  |o::r=> .ok o {c with orc:=r,bs:=lit o b::c.bs}
def Ih (c:Cx) (dst:Option Nat) (v:AV):AV × Cx:=
 match c.hs,dst with
 | .v d x::r,some d'=>match Xqk d d' with
  |true=>(x,{c with hs:=r,ps:=bY v x::c.ps})
  |false=>(v,c)
 |_,_=>(v,c)
def Ig (c:Cx) (dst:Option Nat) (ups:List (Nat × aU)):List (Nat × aU) × Cx:=
 match c.hs,dst,ups with
 | .b d xs::r,some d',[(b,B)]=>match Xqk d d' with
  |true=>([(b,{B with cells:=xs})],{c with hs:=r,ps:=(B.cells=xs)::c.ps})
  |false=>(ups,c)
 |_,_,_=>(ups,c)
def UV (c:Cx) (dst:Option Nat):Bool × Cx:=
 match c.hs,dst with
 | .u d::r,some d'=>match Xqk d d' with
  |true=>(true,{c with hs:=r})
  |false=>(false,c)
 |_,_=>(false,c)
abbrev dD:=Cx->AV->Nat->List AV->List aU->R (lG × List aU × AV)
def wW (rd:Nat->Option aU):Nat->List Nat->List Nat
 |0,l=>l
 |n+1,l=>
  let more:=l.flatMap λb=>match rd b with|some B=>(match B.pr with|true=> []|false=>cZ B.cells)|none=> []
  let l':=more.foldl (λacc b=>if rP acc b then acc else acc++ [b]) l
  match Xqk l'.length l.length with|true=>l|false=>wW rd n l'
def frz (rd:Nat->Option aU):Nat->AV->Option AV
 |0,_=>none
 | fuel+1,x=>
  let frzL (l:List AV):Option (List AV):=lQ (frz rd fuel) l
  match x with
  | .ref b ver i n=>(rd b).bind λB=>match Xqk B.ver ver with
   |true=>match B.pr with
    |true=>some (.sl ((B.cells.drop (i*B.esz)).take (n*B.esz)) n true)
    |false=>(frzL ((B.cells.drop (i*B.esz)).take (n*B.esz))).map λl=> .sl l n true
   |false=>none
  | .ptr b ver off=>(rd b).bind λB=>match Xqk B.ver ver && !(Xqk B.esz je) with
   |true=>match B.pr with
    |true=>some (.pp B.cells off)
    |false=>(frzL B.cells).map λl=> .pp l off
   |false=>none
  | .mr b ver=>(rd b).bind λB=>match Xqk B.ver ver && Xqk B.esz je with
   |true=>match B.pr with
    |true=>aet B.cells
    |false=>(frzL B.cells).bind aet
   |false=>none
  | .agg l=>(frzL l).map .agg
  | .tup l=>(frzL l).map .tup
  | .fn f a c=>(frzL a).bind λa=>(frzL c).map λc=> .fn f a c
  | .ifc t v=>(frz rd fuel v).map (.ifc t)
  | .own _ _ _=>none
  |x=>some x
def tC (l:List Nat) (b:Nat):Option Nat:=match l with
 | []=>none
 |c::r=>match Xqk c b with|true=>some 0|false=>(tC r b).map (· +1)
def NY (xs:List AV) (esz:Nat):aU:={cells:=xs,ver:=0,fro:=false,fz:=0,esz,pr:=true}
def fK (nid:Nat):List AV->List AV × List aU
 | []=>([],[])
 | .own xs n esz::r=>match fK (nid+1) r with|(l,bs)=>(.ref nid 0 0 n::l,NY xs esz::bs)
 |x::r=>match fK nid r with|(l,bs)=>(x::l,bs)
def kE (nid:Nat):AV->AV × List aU
 | .tup l=>match fK nid l with|(l,bs)=>(.tup l,bs)
 | .own xs n esz=>(.ref nid 0 0 n,[NY xs esz])
 |x=>(x,[])
def IX:Nat->List aU->List (Nat × aU)
 |_,[]=> []
 |n,B::r=>(n,B)::IX (n+1) r
def Q9:List Nat->List aU->List (Nat × aU)
 |b::r,B::q=>(b,B)::Q9 r q
 |_,_=> []
def vO:List Nat->Bool
 | []=>true
 |b::r=> !rP r b && vO r
def Fv (ρ:Nat->Nat->Option (Nat × Nat)) (v:Nat) (B:aU):aU:={B with cells:=(match B.pr with|true=>B.cells|false=>pI ρ B.cells),ver:=v+B.ver}
def Uz (nid:Nat) (fp:List Nat) (vers:Nat->Nat) (n:Nat):Nat->Nat->Option (Nat × Nat):=λp v=>
 match fp[p]? with
 |some b=>some (b,vers b+v)
 |none=>match Xjk p n with|true=>some (nid+(p - fp.length),v)|false=>none
structure YI where
 out:lG
 ups:List (Nat × aU)
 fp:List Nat
 md:AV
def Bz (ap:AP) (H:dD) (rd:Nat->Option aU) (nid:Nat) (md:AV) (f:Nat) (args:List AV) (c:Cx):R YI:=
 let fp:=wW rd 6 (jK (cZ args))
 let rd:=λb=>match rP fp b with|true=>rd b|false=>none
 let shared:=match ap.fnAt f with|some F=>F.shared|none=>false
 match shared with
 | false=>
  match lQ (frz rd 6) args with
  |none=> .bad 10
  |some args'=>
   (H c md f args' []).bind λ(out,h',md) c=>
   match h' with
   |_::_=> .bad 14
   | []=>
   let mark:=fp.filterMap λb=>(rd b).map λB=>(b,{B with fro:=true,fz:=B.cells.length})
   match out with
   | .ret v=>match kE nid v with|(v,bs)=>match Xqn bs.length 4 with|true=> .ok {out:= .ret v,ups:=IX nid bs++mark,fp,md} c|false=> .bad 13
   | .pan v=> .ok {out:= .pan v,ups:=mark,fp,md} c
 | true=>
  let vers:=λb=>match rd b with|some B=>B.ver|none=>0
  let ρ:Nat->Nat->Option (Nat × Nat):=λb v=>match Xqk v (vers b) with|true=>(tC fp b).map λp=>(p,0)|false=>none
  match lQ rd fp with
  |none=> .bad 11
  | some bl=>
   (H c md f (pI ρ args) (bl.map λB=> {B with cells:=(match B.pr with|true=>B.cells|false=>pI ρ B.cells),ver:=0})).bind λ(out,h',md) c=>
   match Xqn fp.length h'.length && vO fp with
   |false=> .bad 12
   |true=>
    let ρ':=Uz nid fp vers h'.length
    let ups:=(Q9 fp h').map λ(b,B)=>(b,Fv ρ' (vers b) B)
    let ex:=(h'.drop fp.length).map (Fv ρ' 0)
    match out with
    | .ret v=>match kE (nid+(h'.length - fp.length)) (ren ρ' v) with|(v,bs)=>match Xqn ((h'.length - fp.length)+bs.length) 4 with|true=> .ok {out:= .ret v,ups:=IX nid (ex++bs)++ups,fp,md} c|false=> .bad 13
    | .pan v=>match Xqn (h'.length - fp.length) 4 with|true=> .ok {out:= .pan (ren ρ' v),ups:=IX nid (ex++ [])++ups,fp,md} c|false=> .bad 13
inductive bI where
 |normal
 |exit (id:Nat)
 |ret
 |panic (v:AV)
structure St where
 env:ji
 hp:Hp
 md:AV
 dfs:List (Nat × List AV)
structure zV where
 rt:List Nat
 wt:List Nat
 rb:List Nat
 wb:List Nat
structure RS where
 env:ji
 hp:Hp
 md:AV
 dfs:List (Nat × List AV)
 dec:List (Nat × Bool)
 feet:List zV
def yx (l:List Operand):List Nat:=l.filterMap fun| .tmp t=>some t|_=>none
def M_ (o:Oper):List Nat:=match o.dst with|some d=> [d]|none=> []
def tN (env:ji) (dst:Option Nat) (v:AV):ji:=match dst with|some d=>(d,v)::env|none=>env
def uq (ap:AP) (env:ji):Operand->AV
 | .tmp t=>env.get t
 | .const v=>IY v
 | .global g=>match (ap.gl[g]?).join with|some xs=> .pp xs 0|none=> .dead
 | .func f=> .fn f [] []
def SK (ops:List Oper) (env:ji) (dec:List (Nat × Bool)) (o:Oper) (c:Cx):R (Bool × List (Nat × Bool)):=
 match o.guard with
 |none=> .ok (true,dec) c
 | some (j,want)=>
  match (ops[j]?).bind (·.dst) with
  |none=> .bad 20
  | some s=>match look dec s with
   |some b=> .ok (lit want b,dec) c
   |none=>match env.get s with
    | .bool b=>(Dw c b).bind λb' c=> .ok (lit want b',(s,b')::dec) c
    | .tup []=> .ok (false,dec) c
    |_=> .bad 21
def jV (ops:List Oper) (o:Oper):List Nat:=
 match o.guard with
 |none=> []
 |some (j,_)=>match (ops[j]?).bind (·.dst) with|none=> []|some s=> [s]
def Zl (dec:List (Nat × Bool)) (o:Oper):Bool:=match o.dst with|none=>true|some d=>match look dec d with|none=>true|some _=>false
def QR (ap:AP) (H:dD) (nid:Nat) (ops:List Oper) (o:Oper) (s:RS) (c:Cx):R (RS × Option AV):=
 (SK ops s.env s.dec o c).bind λ(run,dec) c=>
 let rt:=yx o.op.operands.toList++jV ops o
 match Zl dec o with
 |false=> .bad 35
 |true=>
 match run with
 |false=> .ok ({s with env:=tN s.env o.dst (.tup []),dec,feet:={rt,wt:=M_ o,rb:= [],wb:= []}::s.feet},none) c
 | true=>
  let ρ:=uq ap s.env
  let rdAll:=look s.hp
  match o.op with
  | .call {callee:= .value g,args,..}=>
   match ρ g with
   | .fn f first cap=>
    (Bz ap H rdAll nid .dead f (first++args.toList.map ρ++cap) c).bind λr c=>
    let foot:zV:={rt,wt:=M_ o,rb:=r.fp,wb:=r.ups.map λ(q:Nat × aU)=>q.1}
    match UV c o.dst with
    | (true,c)=>match r.out with
     | .ret v=>match r.ups.all (λ(q:Nat × aU)=>rP r.fp q.1) with
      |true=> .ok ({s with env:=tN s.env o.dst v,dec,feet:={rt,wt:=M_ o,rb:=r.fp,wb:= []}::s.feet},none) {c with ps:=(r.ups.map (λ(q:Nat × aU)=>some q.2)=r.ups.map (λ(q:Nat × aU)=>look s.hp q.1))::c.ps}
      |false=> .bad 36
     | .pan _=> .bad 37
    |(false,c)=>match r.out with
     | .ret v=> .ok ({s with env:=tN s.env o.dst v,hp:=r.ups++s.hp,dec,feet:=foot::s.feet},none) c
     | .pan v=> .ok ({s with hp:=r.ups++s.hp,dec,feet:=foot::s.feet},some v) c
   |_=> .bad 30
  | .call {callee:= .builtin .recover,..}=>
   match s.md with
   | .nilI=> .ok ({s with env:=tN s.env o.dst .nilI,dec,feet:={rt,wt:=M_ o,rb:= [],wb:= []}::s.feet},none) c
   | .ifc t v=> .ok ({s with env:=tN s.env o.dst (.ifc t v),md:= .nilI,dec,feet:={rt,wt:=M_ o,rb:= [],wb:= []}::s.feet},none) c
   |_=> .bad 33
  | .defer {callee:= .value g,args,..}=>
   match ρ g with
   | .fn f first cap=> .ok ({s with env:=tN s.env o.dst .dead,dfs:=(f,first++args.toList.map ρ++cap)::s.dfs,dec,feet:={rt,wt:=M_ o,rb:= [],wb:= []}::s.feet},none) c
   |_=> .bad 34
  | .panic x=>
   match ρ x with
   | .ifc t v=> .ok ({s with dec},some (.ifc t v)) c
   |_=> .bad 31
  | op=>
   let fp:=abo ρ op
   let rd:=λb=>match rP fp b with|true=>rdAll b|false=>none
   let decs:Operand->Option Bool:=fun| .tmp t=>look dec t|_=>none
   (match BI ρ op with|some n=>Dw c (Xqk n 0)|none=> .ok false c).bind λem c=>
   match opA ap nid ρ rd decs em op with
   |none=> .bad 32
   | some (v,ups,bs)=>(adC c bs).bind λ_ c=>
    match Ih c o.dst v with
    |(v,c)=>match Ig c o.dst ups with
     |(ups,c)=> .ok ({s with env:=tN s.env o.dst v,hp:=ups++s.hp,dec,feet:={rt,wt:=M_ o,rb:=fp,wb:=ups.map λ(q:Nat × aU)=>q.1}::s.feet},none) c
def yw (ap:AP) (H:dD) (ops:List Oper):List Oper->Nat->RS->Cx->R (RS × Option AV)
 | [],_,s,c=> .ok (s,none) c
 | o::r,nid,s,c=>(QR ap H nid ops o s c).bind λ(s,p) c=>
  match p with
  |some v=> .ok (s,some v) c
  |none=>match s.feet with
   |f::_=>match f.wb.all (λx=>Xjk x (nid+4)) with|true=>yw ap H ops r (nid+4) s c|false=> .bad 43
   | []=> .bad 44
def IL (a b:List Nat):Bool:=a.any (rP b)
def lJ (a b:zV):Bool:=IL a.wt b.rt||IL a.wt b.wt||IL a.rt b.wt||IL a.wb b.rb||IL a.wb b.wb||IL a.rb b.wb
def xY (n:Nat) (bef:List Nat) (feet:List zV):Bool:=
 let l:=feet.reverse.zipIdx
 l.all λ(a,i)=>l.all λ(b,j)=> !(Xjk i j)|| !(lJ a b||b.wb.any λx=>Xqn (n+4*i) x && Xjk x (n+4*i+4))||(bef.getD j 0).testBit i
def Hy (keep:List Nat) (env:ji):List Nat:=keep.flatMap λt=>eG (env.get t)
def norm (base:Nat) (keep:List Nat) (s:St):St:=
 let env:=s.env
 let hp:=s.hp
 let rd:=look hp
 let ids:=wW rd 20 (jK (wW rd 20 (Xqo base)++Hy keep env++s.dfs.flatMap λd=>cZ d.2))
 let ids:=ids.filter λb=>(rd b).isSome
 let ρ:Nat->Nat->Option (Nat × Nat):=λb v=>match rd b with
  |some B=>match Xqk B.ver v with
   |true=>(tC ids b).map λp=>(p,match Xjk p base with|true=>v|false=>0)
   |false=>none
  |none=>none
 {env:=keep.map λt=>(t,ren ρ (env.get t))
  hp:=ids.zipIdx.filterMap λ(b,p)=>(rd b).map λB=>(p,{B with cells:=(match B.pr with|true=>B.cells|false=>pI ρ B.cells),ver:=match Xjk p base with|true=>B.ver|false=>0})
  md:=s.md
  dfs:=s.dfs.map λd=>(d.1,pI ρ d.2)}
def jJ:Hp->Nat
 | []=>0
 |(b,_)::r=>match Xjk b (jJ r) with|true=>jJ r|false=>b+1
def vG (ops:List Oper):Bool:=ops.zipIdx.all λ(o,i)=>o.after.toList.all λe=> !Region.binds .any e||Xjk e.on i
def Oa (ap:AP) (H:dD) (base:Nat) (keep:List Nat) (ops:List Oper) (draw:Bool) (s:St) (c:Cx):R (bI × St):=
 (yw ap H ops ops (jJ s.hp) {env:=s.env,hp:=s.hp,md:=s.md,dfs:=s.dfs,dec:= [],feet:= []} c).bind λ(s',p) c=>
 match p with
 | some v=>match draw with
  |true=> .bad 40
  |false=>match (eG v).isEmpty with
   |true=> .ok (.panic v,norm base keep ⟨s'.env,s'.hp,s'.md,s'.dfs⟩) c
   |false=> .ok (.panic v,⟨s'.env,s'.hp,s'.md,s'.dfs⟩) c
 |none=>
  match !draw||(xY (jJ s.hp) (Region.before ops.toArray).toList s'.feet && vG ops && Xqk s'.dfs.length s.dfs.length) with
  |true=> .ok (.normal,norm base keep ⟨s'.env,s'.hp,s'.md,s'.dfs⟩) c
  |false=> .bad 41
def U4 (f:St->Cx->R (bI × St)):Nat->St->Cx->R (bI × St)
 |0,_,_=> .bad 50
 |n+1,s,c=>(f s c).bind λ(e,s) c=>match e with
  | .normal=>U4 f n s c
  |e=> .ok (e,s) c
def oH (ap:AP) (H:dD) (base:Nat) (keep:List Nat) (lf:Nat):Code->St->Cx->R (bI × St)
 | .skip,s,c=> .ok (.normal,s) c
 | .label _,s,c=> .ok (.normal,s) c
 | .region _ ops draw,s,c=>Oa ap H base keep ops.toList draw s c
 | .seq a b,s,c=>(oH ap H base keep lf a s c).bind λ(e,s) c=>match e with
  | .normal=>oH ap H base keep lf b s c
  |e=> .ok (e,s) c
 | .cond t a b,s,c=>match uq ap s.env t with
  | .bool x=>(Dw c x).bind λx c=>match x with
   |true=>oH ap H base keep lf a s c
   |false=>oH ap H base keep lf b s c
  |_=> .bad 60
 | .block id b,s,c=>(oH ap H base keep lf b s c).bind λ(e,s) c=>match e with
  | .exit id'=>match Xqk id' id with|true=> .ok (.normal,s) c|false=> .ok (.exit id',s) c
  |e=> .ok (e,s) c
 | .loop b,s,c=>U4 (oH ap H base keep lf b) lf s c
 | .exit id,s,c=> .ok (.exit id,s) c
 | .ret,s,c=> .ok (.ret,s) c
 | .scope b,s,c=>oH ap H base keep lf b s c
 |_,_,_=> .bad 61
def CG (ap:AP) (env:ji) (hp:Hp):ResultVar->Option (AV × List Bool)
 | .tmp t=>some (env.get t,[])
 | .cell a t=>(ap.tyAt t).bind λti=>(PQ ti (look hp) (env.get a)).map λ(v,_,bs)=>(v,bs)
def gq (l:List Nat) (b:Nat):Nat:=(l.filter (Xqk b)).length
def adY (base:Nat) (rd:Nat->Option aU) (v:AV):Option AV:=
 let fp:=wW rd 6 (jK (eG v))
 match fp.all (λb=>Xqn base b) with
 |true=>frz (λb=>match rP fp b with|true=>rd b|false=>none) 6 v
 |false=>none
def vI (base:Nat) (rd:Nat->Option aU) (all:List Nat) (v:AV):Option AV:=
 let frzO (v:AV):Option AV:=match (eG v).all (λb=>Xjk b base) with|true=>some v|false=>adY base rd v
 match v with
 | .ref b ver 0 n=>match rd b with
  |some B=>match Xqn base b && Xqk B.ver ver && !B.fro && B.pr && Xqk (gq all b) 1 && Xjk 0 B.esz with
   |true=>some (.own (B.cells.take (n*B.esz)) n B.esz)
   |false=>frzO v
  |none=>none
 |v=>frzO v
def ax (f:Func):Code:=f.body.getD .skip
def vJ (md:AV) (args:List AV) (h:List aU):St:=
 {env:=args.zipIdx.map λ(x,i)=>(i,x),hp:=h.zipIdx.map λ(B,i)=>(i,B),md,dfs:= []}
def SY (ap:AP) (H:dD):List (Nat × List AV)->AV->Hp->Cx->R (AV × Hp)
 | [],mode,hp,c=> .ok (mode,hp) c
 |_::_,_,_,_=> .bad 78
def Ym (rd:Nat->Option aU) (base:Nat):Nat:=(wW rd 20 (Xqo base)).length
def Gl (ap:AP) (base:Nat) (F:Func) (env:ji) (hp:Hp) (c:Cx):R (lG × List aU):=
 let rd:=look hp
 let n:=Ym rd base
 match lQ (CG ap env hp) F.results.toList,lQ rd (Xqo n) with
 |some vs,some h'=>
  match h'.all (λB=>B.pr||(cZ B.cells).all λb=>Xjk b n) with
  |false=> .bad 76
  |true=>
  (adC c (vs.flatMap λ(q:AV × List Bool)=>q.2)).bind λ_ c=>
  let all:=vs.flatMap λ(q:AV × List Bool)=>wW rd 6 (jK (eG q.1))
  match lQ (vI n rd all) (vs.map λ(q:AV × List Bool)=>q.1) with
  |some [v]=> .ok (.ret v,h') c
  |some l=> .ok (.ret (.tup l),h') c
  |none=> .bad 70
 |_,_=> .bad 71
def N7 (base:Nat) (v:AV) (hp:Hp) (c:Cx):R (lG × List aU):=
 let n:=Ym (look hp) base
 match vI n (look hp) (wW (look hp) 6 (jK (eG v))) v,lQ (look hp) (Xqo n) with
 |some v,some h'=>
  match h'.all (λB=>B.pr||(cZ B.cells).all λb=>Xjk b n) with
  |false=> .bad 77
  |true=> .ok (.pan v,h') c
 |_,_=> .bad 72
def F5 (ap:AP) (H:dD) (base:Nat) (F:Func) (e:bI) (s:St) (c:Cx):R (lG × List aU × AV):=
 let go (mode:AV):R (lG × List aU × AV):=
  (SY ap H s.dfs mode s.hp c).bind λ(mode,hp) c=>
  match mode with
  | .nilI=>(Gl ap base F s.env hp c).bind λ(o,h) c=> .ok (o,h,s.md) c
  | .ifc t v=>(N7 base (.ifc t v) hp c).bind λ(o,h) c=> .ok (o,h,s.md) c
  |_=> .bad 74
 match e with
 | .normal| .ret=>go .nilI
 | .panic (.ifc t v)=>match (eG v).isEmpty with|true=>go (.ifc t v)|false=> .bad 79
 |_=> .bad 73
def sD (ap:AP) (H:dD) (lf:Nat) (md:AV) (f:Nat) (args:List AV) (h:List aU) (c:Cx):R (lG × List aU × AV):=
 match ap.fnAt f with
 |none=> .bad 80
 |some F=>match md with
  | .dead=>(oH ap H h.length F.keep lf (ax F.fn) (vJ .dead args h) c).bind λ(e,s) c=>F5 ap H h.length F.fn e s c
  |_=> .bad 87
theorem qC {S:aO}:∀ {l:List AV} {vs:List Value},bT S l vs->l.length=vs.length
 | [],[],_=>rfl
 |_::_,_::_,h=>by simp only [bT] at h;simp [qC h.2]
 | [],_::_,h=>by simp [bT] at h
 |_::_,[],h=>by simp [bT] at h
theorem di {g:dK} {m:aW} {S:aO}:∀ {l:List AV} {vs:List Value},bu g m S l vs->l.length=vs.length
 | [],[],_=>rfl
 |_::_,_::_,h=>by simp only [bu] at h;simp [di h.2]
 | [],_::_,h=>by simp [bu] at h
 |_::_,[],h=>by simp [bu] at h
theorem Md {S:aO}:∀ {l:List AV} {vs:List Value} (_:bT S l vs) (i:Nat) {x:AV},l[i]? =some x->∃ v,vs[i]? =some v/\PR S x v
 | [],[],_,i,x,hx=>by simp at hx
 |a::l,v::vs,h,0,x,hx=>by simp only [bT] at h;simp at hx;subst hx;exact ⟨v,rfl,h.1⟩
 |a::l,v::vs,h,i+1,x,hx=>by simp only [bT] at h;simp at hx;simpa using Md h.2 i hx
 | [],_::_,h,_,_,_=>by simp [bT] at h
 |_::_,[],h,_,_,_=>by simp [bT] at h
theorem uZ {g:dK} {m:aW} {S:aO}:∀ {l:List AV} {vs:List Value} (_:bu g m S l vs) (i:Nat) {x:AV},l[i]? =some x->∃ v,vs[i]? =some v/\VR g m S x v
 | [],[],_,i,x,hx=>by simp at hx
 |a::l,v::vs,h,0,x,hx=>by simp only [bu] at h;simp at hx;subst hx;exact ⟨v,rfl,h.1⟩
 |a::l,v::vs,h,i+1,x,hx=>by simp only [bu] at h;simp at hx;simpa using uZ h.2 i hx
 | [],_::_,h,_,_,_=>by simp [bu] at h
 |_::_,[],h,_,_,_=>by simp [bu] at h
theorem ny {S:aO}:∀ {l l':List AV} {vs vs':List Value},bT S l vs->bT S l' vs'->bT S (l++l') (vs++vs')
 | [],_,[],_,_,h'=>by simpa using h'
 |_::_,_,_::_,_,h,h'=>by simp only [bT] at h;simp only [Xqt,bT];exact ⟨h.1,ny h.2 h'⟩
 | [],_,_::_,_,h,_=>by simp [bT] at h
 |_::_,_,[],_,h,_=>by simp [bT] at h
theorem iq {g:dK} {m:aW} {S:aO}:∀ {l l':List AV} {vs vs':List Value},bu g m S l vs->bu g m S l' vs'->bu g m S (l++l') (vs++vs')
 | [],_,[],_,_,h'=>by simpa using h'
 |_::_,_,_::_,_,h,h'=>by simp only [bu] at h;simp only [Xqt,bu];exact ⟨h.1,iq h.2 h'⟩
 | [],_,_::_,_,h,_=>by simp [bu] at h
 |_::_,_,[],_,h,_=>by simp [bu] at h
theorem lW {S:aO}:∀ (n:Nat) {l:List AV} {vs:List Value},bT S l vs->bT S (l.take n) (vs.take n)
 |0,_,_,_=>by simp [bT]
 |n+1,[],[],_=>by simp [bT]
 |n+1,_::_,_::_,h=>by simp only [bT] at h;simp only [Xx8,bT];exact ⟨h.1,lW n h.2⟩
 |_+1,[],_::_,h=>by simp [bT] at h
 |_+1,_::_,[],h=>by simp [bT] at h
theorem qB {S:aO}:∀ (n:Nat) {l:List AV} {vs:List Value},bT S l vs->bT S (l.drop n) (vs.drop n)
 |0,_,_,h=>by simpa using h
 |n+1,[],[],_=>by simp [bT]
 |n+1,_::_,_::_,h=>by simp only [bT] at h;simpa using qB n h.2
 |_+1,[],_::_,h=>by simp [bT] at h
 |_+1,_::_,[],h=>by simp [bT] at h
theorem uf {g:dK} {m:aW} {S:aO}:∀ (n:Nat) {l:List AV} {vs:List Value},bu g m S l vs->bu g m S (l.take n) (vs.take n)
 |0,_,_,_=>by simp [bu]
 |n+1,[],[],_=>by simp [bu]
 |n+1,_::_,_::_,h=>by simp only [bu] at h;simp only [Xx8,bu];exact ⟨h.1,uf n h.2⟩
 |_+1,[],_::_,h=>by simp [bu] at h
 |_+1,_::_,[],h=>by simp [bu] at h
theorem xn {g:dK} {m:aW} {S:aO}:∀ (n:Nat) {l:List AV} {vs:List Value},bu g m S l vs->bu g m S (l.drop n) (vs.drop n)
 |0,_,_,h=>by simpa using h
 |n+1,[],[],_=>by simp [bu]
 |n+1,_::_,_::_,h=>by simp only [bu] at h;simpa using xn n h.2
 |_+1,[],_::_,h=>by simp [bu] at h
 |_+1,_::_,[],h=>by simp [bu] at h
theorem lX.mono {S S':aO} (h:iV S S') {b o:Nat} {vs:List Value} (hs:lX S b o vs):lX S' b o vs:=λj u a=> ⟨h _ _ _ (hs j u a).1,(hs j u a).2⟩
mutual
theorem aZ {S S':aO} (h:iV S S'):∀ (x:AV) {v:Value},PR S x v->PR S' x v
 | .int _ _,_,p=>by simpa only [PR] using p
 | .bool _,_,p=>by simpa only [PR] using p
 | .str _,_,p=>by simpa only [PR] using p
 | .nilS,_,p=>by simpa only [PR] using p
 | .nilP,_,p=>by simpa only [PR] using p
 | .nilF,_,p=>by simpa only [PR] using p
 | .nilI,_,p=>by simpa only [PR] using p
 | .dead,_,_=>by simp only [PR]
 | .agg l,_,p=>by
  simp only [PR] at p ⊢;obtain ⟨vs,e,q⟩:=p;exact ⟨vs,e,bD h l q⟩
 | .tup l,_,p=>by
  simp only [PR] at p ⊢;obtain ⟨vs,e,q⟩:=p;exact ⟨vs,e,bD h l q⟩
 | .sl xs n nn,_,p=>by
  simp only [PR] at p ⊢;obtain ⟨a,cap,e,d,q⟩:=p;refine ⟨a,cap,e,d, ?_⟩;rcases q with q|⟨b,o,vs,y,q,hs⟩
  .exact .inl q
  .exact .inr ⟨b,o,vs,y,bD h xs q,hs.mono h⟩
 | .pp xs off,_,p=>by
  simp only [PR] at p ⊢;obtain ⟨b,o,vs,e,q,hs⟩:=p;exact ⟨b,o,vs,e,bD h xs q,hs.mono h⟩
 | .mp ks vs,_,p=>by
  simp only [PR] at p ⊢;rcases p with p|⟨b,z,i,e,h0,s,A,B⟩
  .exact .inl p
  .exact .inr ⟨b,z,i,e,h _ _ _ h0,h _ _ _ s,bD h ks A,bD h vs B⟩
 | .fn f a c,_,p=>by
  simp only [PR] at p ⊢;obtain ⟨k,j,e,q,r⟩:=p;exact ⟨k,j,e,bD h a q,bD h c r⟩
 | .ifc t x,_,p=>by
  simp only [PR] at p ⊢;obtain ⟨u,e,q⟩:=p;exact ⟨u,e,aZ h x q⟩
 | .ref _ _ _ _,_,p=>by simp only [PR] at p
 | .ptr _ _ _,_,p=>by simp only [PR] at p
 | .mr _ _,_,p=>by simp only [PR] at p
 | .own _ _ _,_,p=>by simp only [PR] at p
theorem bD {S S':aO} (h:iV S S'):∀ (l:List AV) {vs:List Value},bT S l vs->bT S' l vs
 | [],[],_=>by simp only [bT]
 |x::r,v::vs,p=>by simp only [bT] at p ⊢;exact ⟨aZ h x p.1,bD h r p.2⟩
 | [],_::_,p=>by simp [bT] at p
 |_::_,[],p=>by simp [bT] at p
end
mutual
theorem iE {g:dK} {m:aW} {S:aO}:∀ (x:AV) {v:Value},PR S x v->VR g m S x v
 | .int _ _,_,p=>by simpa only [VR] using p
 | .bool _,_,p=>by simpa only [VR] using p
 | .str _,_,p=>by simpa only [VR] using p
 | .nilS,_,p=>by simpa only [VR] using p
 | .nilP,_,p=>by simpa only [VR] using p
 | .nilF,_,p=>by simpa only [VR] using p
 | .nilI,_,p=>by simpa only [VR] using p
 | .sl _ _ _,_,p=>by simpa only [VR] using p
 | .pp _ _,_,p=>by simpa only [VR] using p
 | .mp _ _,_,p=>by simpa only [VR] using p
 | .dead,_,_=>by simp only [VR]
 | .agg l,_,p=>by
  simp only [PR] at p;simp only [VR];obtain ⟨vs,e,q⟩:=p;exact ⟨vs,e,bU l q⟩
 | .tup l,_,p=>by
  simp only [PR] at p;simp only [VR];obtain ⟨vs,e,q⟩:=p;exact ⟨vs,e,bU l q⟩
 | .fn f a c,_,p=>by
  simp only [PR] at p;simp only [VR];obtain ⟨b,d,e,q,r⟩:=p;exact ⟨b,d,e,bU a q,bU c r⟩
 | .ifc t x,_,p=>by
  simp only [PR] at p;simp only [VR];obtain ⟨u,e,q⟩:=p;exact ⟨u,e,iE x q⟩
 | .ref _ _ _ _,_,p=>by simp only [PR] at p
 | .ptr _ _ _,_,p=>by simp only [PR] at p
 | .mr _ _,_,p=>by simp only [PR] at p
 | .own _ _ _,_,p=>by simp only [PR] at p
theorem bU {g:dK} {m:aW} {S:aO}:∀ (l:List AV) {vs:List Value},bT S l vs->bu g m S l vs
 | [],[],_=>by simp only [bu]
 |x::r,v::vs,p=>by simp only [bT] at p;simp only [bu];exact ⟨iE x p.1,bU r p.2⟩
 | [],_::_,p=>by simp [bT] at p
 |_::_,[],p=>by simp [bT] at p
end
def wI (g:dK) (m:aW) (g':dK) (m':aW) (ρ:Nat->Nat->Option (Nat × Nat)):Prop:=
 ∀ b ver b' ver',ρ b ver=some (b',ver')->∀ B,g b=some B->ver<=B.ver->
  ∃ B',g' b'=some B'/\ver'<=B'.ver/\(B'.ver=ver'->B.ver=ver/\m' b'=m b/\B'.esz=B.esz)
mutual
theorem Du {g g':dK} {m G:aW} {S S':aO} {ρ:Nat->Nat->Option (Nat × Nat)} (j:iV S S') (h:wI g m g' G ρ):∀ (x:AV) {v:Value},VR g m S x v->VR g' G S' (ren ρ x) v
 | .int k n,_,p=>by simp only [VR] at p;simp only [ren,VR];exact aZ j _ p
 | .bool _,_,p=>by simp only [VR] at p;simp only [ren,VR];exact aZ j _ p
 | .str _,_,p=>by simp only [VR] at p;simp only [ren,VR];exact aZ j _ p
 | .nilS,_,p=>by simp only [VR] at p;simp only [ren,VR];exact aZ j _ p
 | .nilP,_,p=>by simp only [VR] at p;simp only [ren,VR];exact aZ j _ p
 | .nilF,_,p=>by simp only [VR] at p;simp only [ren,VR];exact aZ j _ p
 | .nilI,_,p=>by simp only [VR] at p;simp only [ren,VR];exact aZ j _ p
 | .sl _ _ _,_,p=>by simp only [VR] at p;simp only [ren,VR];exact aZ j _ p
 | .pp _ _,_,p=>by simp only [VR] at p;simp only [ren,VR];exact aZ j _ p
 | .mp _ _,_,p=>by simp only [VR] at p;simp only [ren,VR];exact aZ j _ p
 | .dead,_,_=>by simp only [ren,VR]
 | .own _ _ _,_,p=>by simp only [VR] at p
 | .agg l,_,p=>by
  simp only [VR] at p;simp only [ren,VR];obtain ⟨vs,e,q⟩:=p;exact ⟨vs,e,mf j h l q⟩
 | .tup l,_,p=>by
  simp only [VR] at p;simp only [ren,VR];obtain ⟨vs,e,q⟩:=p;exact ⟨vs,e,mf j h l q⟩
 | .fn f a c,_,p=>by
  simp only [VR] at p;simp only [ren,VR];obtain ⟨I,H,e,q,r⟩:=p;exact ⟨I,H,e,mf j h a q,mf j h c r⟩
 | .ifc t x,_,p=>by
  simp only [VR] at p;simp only [ren,VR];obtain ⟨u,e,q⟩:=p;exact ⟨u,e,Du j h x q⟩
 | .ref b ver i n,_,p=>by
  simp only [VR] at p;simp only [ren];obtain ⟨B,A,F,y,q⟩:=p;cases hρ:ρ b ver with
  |none=>simp only [VR]
  |some bv=>
   obtain ⟨C,d⟩:=bv;obtain ⟨B',o,s,z⟩:=h b ver C d hρ B A F;simp only [VR];refine ⟨B',o,s,y,λe=> ?_⟩;obtain ⟨E,D,J⟩:=z e;rw [D,J];exact q E
 | .ptr b ver off,_,p=>by
  simp only [VR] at p;simp only [ren];obtain ⟨B,A,F,y,q⟩:=p;cases hρ:ρ b ver with
  |none=>simp only [VR]
  |some bv=>
   obtain ⟨C,d⟩:=bv;obtain ⟨B',o,s,z⟩:=h b ver C d hρ B A F;simp only [VR];refine ⟨B',o,s,y,λe=> ?_⟩;obtain ⟨E,D,_⟩:=z e;rw [D];exact q E
 | .mr b ver,_,p=>by
  simp only [VR] at p;simp only [ren];obtain ⟨B,A,F,y,q⟩:=p;cases hρ:ρ b ver with
  |none=>simp only [VR]
  |some bv=>
   obtain ⟨C,d⟩:=bv;obtain ⟨B',o,s,z⟩:=h b ver C d hρ B A F;simp only [VR];refine ⟨B',o,s,y,λe=> ?_⟩;obtain ⟨E,D,_⟩:=z e;rw [D];exact q E
theorem mf {g g':dK} {m b:aW} {S S':aO} {ρ:Nat->Nat->Option (Nat × Nat)} (a:iV S S') (h:wI g m g' b ρ):∀ (l:List AV) {vs:List Value},bu g m S l vs->bu g' b S' (pI ρ l) vs
 | [],[],_=>by simp only [pI,bu]
 |x::r,v::vs,p=>by simp only [bu] at p;simp only [pI,bu];exact ⟨Du a h x p.1,mf a h r p.2⟩
 | [],_::_,p=>by simp [bu] at p
 |_::_,[],p=>by simp [bu] at p
end
def Ge (g:dK) (m:aW) (g':dK) (m':aW):Prop:=
 ∀ b B,g b=some B->∃ B',g' b=some B'/\B'.esz=B.esz/\((B'.ver=B.ver/\m' b=m b)\/B.ver<B'.ver)
theorem Ge.refl (g:dK) (m:aW):Ge g m g m:=λ_ B h=> ⟨B,h,rfl,.inl ⟨rfl,rfl⟩⟩
theorem Ge.trans {g g' i:dK} {m k f:aW} (h:Ge g m g' k) (s:Ge g' k i f):Ge g m i f:=by
 intro b B q;obtain ⟨B',j,e,c⟩:=h b B q;obtain ⟨B'',a,e',r⟩:=s b B' j;refine ⟨B'',a,e'.trans e, ?_⟩;rcases c with ⟨n,l⟩|c<;>rcases r with ⟨o,p⟩|d
 .exact .inl ⟨o.trans n,p.trans l⟩
 .exact .inr (by omega)
 .exact .inr (by omega)
 .exact .inr (by omega)
mutual
theorem rX {g g':dK} {m D:aW} {S S':aO} (o:iV S S') (h:Ge g m g' D):∀ (x:AV) {v:Value},VR g m S x v->VR g' D S' x v
 | .int k n,_,p=>by simp only [VR] at p ⊢;exact aZ o _ p
 | .bool _,_,p=>by simp only [VR] at p ⊢;exact aZ o _ p
 | .str _,_,p=>by simp only [VR] at p ⊢;exact aZ o _ p
 | .nilS,_,p=>by simp only [VR] at p ⊢;exact aZ o _ p
 | .nilP,_,p=>by simp only [VR] at p ⊢;exact aZ o _ p
 | .nilF,_,p=>by simp only [VR] at p ⊢;exact aZ o _ p
 | .nilI,_,p=>by simp only [VR] at p ⊢;exact aZ o _ p
 | .sl _ _ _,_,p=>by simp only [VR] at p ⊢;exact aZ o _ p
 | .pp _ _,_,p=>by simp only [VR] at p ⊢;exact aZ o _ p
 | .mp _ _,_,p=>by simp only [VR] at p ⊢;exact aZ o _ p
 | .dead,_,_=>by simp only [VR]
 | .own _ _ _,_,p=>by simp only [VR] at p
 | .agg l,_,p=>by
  simp only [VR] at p ⊢;obtain ⟨vs,e,q⟩:=p;exact ⟨vs,e,l_ o h l q⟩
 | .tup l,_,p=>by
  simp only [VR] at p ⊢;obtain ⟨vs,e,q⟩:=p;exact ⟨vs,e,l_ o h l q⟩
 | .fn f a c,_,p=>by
  simp only [VR] at p ⊢;obtain ⟨G,F,e,q,r⟩:=p;exact ⟨G,F,e,l_ o h a q,l_ o h c r⟩
 | .ifc t x,_,p=>by
  simp only [VR] at p ⊢;obtain ⟨u,e,q⟩:=p;exact ⟨u,e,rX o h x q⟩
 | .ref b ver i n,_,p=>by
  simp only [VR] at p ⊢;obtain ⟨B,z,E,j,q⟩:=p;obtain ⟨B',d,A,y⟩:=h b B z;rcases y with ⟨C,s⟩|c
  .refine ⟨B',d,by omega,j,λe=> ?_⟩;rw [s,A];exact q (by omega)
  .exact ⟨B',d,by omega,j,λe=>by omega⟩
 | .ptr b ver off,_,p=>by
  simp only [VR] at p ⊢;obtain ⟨B,z,E,j,q⟩:=p;obtain ⟨B',d,A,y⟩:=h b B z;rcases y with ⟨C,s⟩|c
  .refine ⟨B',d,by omega,j,λe=> ?_⟩;rw [s];exact q (by omega)
  .exact ⟨B',d,by omega,j,λe=>by omega⟩
 | .mr b ver,_,p=>by
  simp only [VR] at p ⊢;obtain ⟨B,z,E,j,q⟩:=p;obtain ⟨B',d,A,y⟩:=h b B z;rcases y with ⟨C,s⟩|c
  .refine ⟨B',d,by omega,j,λe=> ?_⟩;rw [s];exact q (by omega)
  .exact ⟨B',d,by omega,j,λe=>by omega⟩
theorem l_ {g g':dK} {m b:aW} {S S':aO} (a:iV S S') (h:Ge g m g' b):∀ (l:List AV) {vs:List Value},bu g m S l vs->bu g' b S' l vs
 | [],[],_=>by simp only [bu]
 |x::r,v::vs,p=>by simp only [bu] at p ⊢;exact ⟨rX a h x p.1,l_ a h r p.2⟩
 | [],_::_,p=>by simp [bu] at p
 |_::_,[],p=>by simp [bu] at p
end
def dY (ap:AP) (S:aO):Prop:=∀ k xs,(ap.gl[k]?).join=some xs->∃ vs,bT S xs vs/\lX S k 0 vs
structure iy (P:Program) (ap:AP):Prop where
 ty:∀ t ti,ap.tyAt t=some ti->acw P t=some ti
def Ap (es:Array MapEntry):Array Value:=#[.agg (es.map (·.key)),.agg (es.map (·.val))]
def kK (w:World) (k z:Nat) (cur:Array Value) (e:TypeId):Prop:=
 (z ≠ je/\w.heap[k]? =some (.cells cur e (0,0)))\/(z=je/\∃ es clk,w.heap[k]? =some (.map es clk)/\cur=Ap es)
def bf (w:World) (k o:Nat):Option Value:=match w.heap[k]? with
 |some (.map es _)=>(Ap es)[o]?
 |_=>match w.cell? ⟨k,o,none⟩ with|some v=>if v.oneCell' then some v else none|none=>none
theorem kK.of {w:World} {k z:Nat} {cur:Array Value} {e:TypeId} (a:z ≠ je) (h:w.heap[k]? =some (.cells cur e (0,0))):kK w k z cur e:= .inl ⟨a,h⟩
theorem kK.cells {w:World} {k z:Nat} {cur:Array Value} {e:TypeId} (h:kK w k z cur e) (a:z ≠ je):w.heap[k]? =some (.cells cur e (0,0)):=by
 rcases h with h|h
 .exact h.2
 .exact absurd h.1 a
theorem kK.map {w:World} {k z:Nat} {cur:Array Value} {e:TypeId} (h:kK w k z cur e) (a:z=je):∃ es clk,w.heap[k]? =some (.map es clk)/\cur=Ap es:=by
 rcases h with h|h
 .exact absurd a h.1
 .exact h.2
theorem kK.same {w w':World} {k z:Nat} {cur:Array Value} {e:TypeId} (h:kK w k z cur e) (a:w'.heap[k]? =w.heap[k]?):kK w' k z cur e:=by
 unfold kK;rw [a];exact h
theorem kK.lt {w:World} {k z:Nat} {cur:Array Value} {e:TypeId} (h:kK w k z cur e):k<w.heap.size:=by
 rcases h with ⟨_,h⟩|⟨_,es,a,h,_⟩<;>exact (Array.getElem?_eq_some_iff.1 h).1
theorem iY {w w':World} {k o:Nat} (b:w'.heap[k]? =w.heap[k]?):bf w' k o=bf w k o:=by
 unfold bf;rw [b,World.cell?_of_block (w:=w) (a:=⟨k,o,none⟩) b]
theorem nH {w:World} {k o:Nat} {v:Value} (h:bf w k o=some v) (a:v.oneCell'=true):w.cell? ⟨k,o,none⟩=some v:=by
 unfold bf at h;split at h
 .rename_i es c d;exfalso;unfold Ap at h;rcases (show o=0\/o=1\/2<=o by omega) with rfl|rfl|ho
  .cases h;cases a
  .cases h;cases a
  .rw [Array.getElem?_eq_none (by simpa using ho)] at h;cases h
 .split at h
  .rename_i e b;split at h
   .cases h;exact b
   .cases h
  .cases h
theorem iW {w:World} {k o:Nat} {v:Value} (h:w.cell? ⟨k,o,none⟩=some v) (a:v.oneCell'=true):bf w k o=some v:=by
 unfold bf;split
 .rename_i es b c;unfold World.cell? at h;simp only [c] at h;cases h
 .rw [h];simp only;rw [if_pos a]
theorem yH {w:World} {k o:Nat} {v:Value} (h:bf w k o=some v) (c:v.oneCell'=false):∃ es a,w.heap[k]? =some (.map es a)/\(Ap es)[o]? =some v:=by
 unfold bf at h;split at h
 .rename_i es a d;exact ⟨es,a,d,h⟩
 .split at h
  .split at h
   .rename_i b;cases h;rw [c] at b;cases b
   .cases h
  .cases h
theorem oG {w:World} {k o:Nat} {v:Value} (h:bf w k o=some v):k<w.heap.size:=by
 cases a:v.oneCell' with
 |true=>exact World.block_lt_of_cell? w _ (nH h a)
 |false=>
  obtain ⟨_,_,b,_⟩:=yH h a;exact (Array.getElem?_eq_some_iff.1 b).1
structure Ws (g:dK) (m:aW) (S:aO) (w:World) (B:aU) (k c:Nat):Prop where
 lies:∃ cur e vs rest,kK w k B.esz cur e/\cur.toList=vs++rest/\(B.pr=true->bT S B.cells vs)/\bu g m S B.cells vs/\(B.esz ≠ je->∀ u ∈ vs,u.oneCell'=true)/\(0<B.esz->B.esz ≠ je->cur.size=c*B.esz/\c<=maxLen)
 fz0:B.fro=false->B.fz=0
 fzle:B.fz<=B.cells.length
structure b_ (ap:AP) (g:dK) (m:aW) (S:aO) (w:World):Prop where
 inj:∀ b b' B B',g b=some B->g b'=some B'->(m b).1=(m b').1->b=b'
 blk:∀ b B,g b=some B->Ws g m S w B (m b).1 (m b).2
 sealed:∀ k o v,S k o=some v->bf w k o=some v
 own:∀ b B,g b=some B->∀ o v,S (m b).1 o=some v->B.fro=true/\o<B.fz
 glob:dY ap S
structure Fr (g:dK) (m:aW) (S:aO) (w:World) (g':dK) (m':aW) (S':aO) (w':World):Prop where
 ge:Ge g m g' m'
 sle:iV S S'
 os:w'.os=w.os
 tape:w'.tape=w.tape
 output:w'.output=w.output
 size:w.heap.size<=w'.heap.size
 rest:∀ k,k<w.heap.size->(∀ b B,g b=some B->(m b).1 ≠ k)->w'.heap[k]? =w.heap[k]?
 img:∀ b B,g' b=some B->w.heap.size<=(m' b).1\/(∃ B0,g b=some B0/\(m' b).1=(m b).1)
 sealN:∀ k o v,S' k o=some v->S k o=some v\/w.heap.size<=k\/∃ b B,g b=some B/\(m b).1=k
theorem Fr.refl (g:dK) (m:aW) (S:aO) (w:World):Fr g m S w g m S w:=
 ⟨Ge.refl g m,iV.refl S,rfl,rfl,rfl,κ _,λ_ _ _=>rfl,λ_ B h=> .inr ⟨B,h,rfl⟩,λ_ _ _ h=> .inl h⟩
theorem Fr.trans {g g' n:dK} {m t l:aW} {S S' S'':aO} {w w' i:World} (h:Fr g m S w g' t S' w') (d:Fr g' t S' w' n l S'' i):Fr g m S w n l S'' i:=by
 refine ⟨h.ge.trans d.ge,h.sle.trans d.sle,d.os.trans h.os,d.tape.trans h.tape,d.output.trans h.output,Xqr h.size d.size, ?_, ?_, ?_⟩
 .intro k r s;rw [d.rest k (Nat.lt_of_lt_of_le r h.size) ?_,h.rest k r s];intro b B j e;rcases h.img b B j with c|⟨B0,a,c⟩
  .omega
  .exact s b B0 a (c ▸ e)
 .intro b B j;rcases d.img b B j with c|⟨B0,a,c⟩
  .exact .inl (Xqr h.size c)
  .rcases h.img b B0 a with q|⟨B1,p,q⟩
   .exact .inl (c ▸ q)
   .exact .inr ⟨B1,p,c.trans q⟩
 .intro k o v u;rcases d.sealN k o v u with f|f|⟨b,B,j,f⟩
  .exact h.sealN k o v f
  .exact .inr (.inl (Xqr h.size f))
  .rcases h.img b B j with c|⟨B0,a,c⟩
   .exact .inr (.inl (f ▸ c))
   .exact .inr (.inr ⟨b,B0,a,by rw [<- f,c]⟩)
theorem b_.lt {ap:AP} {g:dK} {m:aW} {S:aO} {w:World} (h:b_ ap g m S w) {b:Nat} {B:aU} (c:g b=some B):(m b).1<w.heap.size:=by
 obtain ⟨cur,e,vs,rest,a,_⟩:=(h.blk b B c).lies;exact a.lt
theorem b_.one {ap:AP} {g:dK} {m:aW} {S:aO} {w:World} (h:b_ ap g m S w) {k o:Nat} {v:Value} (b:S k o=some v) (a:v.oneCell'=true):w.cell? ⟨k,o,none⟩=some v:=nH (h.sealed k o v b) a
theorem xy {w:World} {k j:Nat} {cur:Array Value} {e:TypeId} {fr:Nat × Nat} (h:w.heap[k]? =some (.cells cur e fr)):w.cell? ⟨k,j,none⟩=cur.toList[j]? :=by
 rw [cell_of_row w k j cur e fr h];simp
theorem kK.get {w:World} {k z j:Nat} {cur:Array Value} {e:TypeId} {u:Value} (h:kK w k z cur e) (a:cur.toList[j]? =some u) (b:z ≠ je->u.oneCell'=true):bf w k j=some u:=by
 rcases h with ⟨c,h⟩|⟨_,es,d,h,rfl⟩
 .exact iW (by rw [xy h];exact a) (b c)
 .unfold bf;rw [h];simpa using a
theorem gy {a b:IntKind} (h:jh a b=true):a=b:=by cases a<;>cases b<;>first|rfl|(exact absurd h (by decide))
theorem aN {a b:Nat} (h:Xqk a b=true):a=b:=Nat.eq_of_beq_eq_true h
theorem gG {a b:Nat} (h:Xqn a b=true):a<=b:=Nat.le_of_ble_eq_true h
theorem gI {a b:Nat} (h:Xjk a b=true):a<b:=by
 have:Xqn (a+1) b=true:=h;exact gG this
theorem ahz {S:aO} {x:AV} {v:Value} (h:PR S x v) (a:qQ x=true):v.oneCell'=true:=by
 cases x<;>simp only [PR] at h<;>first
  |(subst h;rfl)
  |(rcases h with ⟨rfl,_⟩|⟨_,_,_,rfl,_⟩<;>rfl)
  |(obtain ⟨_,_,_,rfl,_⟩:=h;rfl)
  |(obtain ⟨_,_,rfl,_⟩:=h;rfl)
  |(obtain ⟨_,rfl,_⟩:=h;first|rfl|exact absurd a (by simp [qQ]))
  |(exact absurd a (by simp [qQ]))
theorem Rl {g:dK} {m:aW} {S:aO} {x:AV} {v:Value} (h:VR g m S x v) (a:qQ x=true):v.oneCell'=true:=by
 cases x<;>simp only [VR] at h<;>first
  | (exact ahz h a)
    |(obtain ⟨_,_,_,⟨_,_,rfl⟩,_⟩:=h;rfl)
  |(obtain ⟨_,_,_,⟨_,_,_,rfl⟩,_⟩:=h;rfl)
  |(obtain ⟨_,_,rfl,_⟩:=h;rfl)
  |(obtain ⟨_,rfl,_⟩:=h;first|rfl|exact absurd a (by simp [qQ]))
  |(exact absurd a (by simp [qQ]))
end AM
namespace AM
open Go
structure FP (P:Program) (t:Nat) (ti:TI) (i:TypeInfo) (d:TypeDesc) (z:Value):Prop where
 info:P.info? t=some i
 und:P.underlying t=some d
 d_eq:ti.d=lD P (some d)
 size:ti.size=i.size
 bytes:ti.bytes=i.bytes
 zero:i.zero=some z
 zcells:ti.zero=z.cells.toList.map IY
 zleaf:∀ x ∈ ti.zero,qQ x=true
 zsize:z.cells.size=i.size
 lks:ti.lks.length=i.size
 pos:0<i.size
 zagg:akb i d=true
 fld:Z5 P d=true
 small:i.size<je
theorem dQ {P:Program} {ap:AP} (c:iy P ap) {t:Nat} {ti:TI} (h:ap.tyAt t=some ti):∃ i d z,FP P t ti i d z:=by
 have a:=c.ty t ti h;unfold acw at a;cases b:P.info? t with
 |none=>simp [b] at a
 | some i=>
  cases hd:P.underlying t with
  |none=>simp [b,hd] at a
  | some d=>
   simp only [b,hd] at a;split at a
   .rename_i j;simp only [τ] at j;obtain ⟨⟨⟨⟨⟨⟨n,f⟩,l⟩,p⟩,r⟩,s⟩,o⟩:=j;cases e:i.zero with
    |none=>simp [e] at s
    | some z=>
     cases a;have k:JK i=z.cells.toList.map IY:=by simp [JK,e]
     refine ⟨i,d,z,b,hd,rfl,rfl,rfl,e,k, ?_, ?_,aN n,gI r,f.1,f.2,gI o⟩
     .intro x q;exact List.all_eq_true.1 l x q
     .have:=aN p;rw [k] at this;simpa using this
   .cases a
theorem g_ {P:Program} {d:TypeDesc} {e:Nat} (h:lD P (some d)= .slice e):d= .slice e:=by cases d<;>simp [lD] at h;subst h;rfl
theorem Dh {P:Program} {d:TypeDesc} {n e:Nat} (h:lD P (some d)= .array n e):d= .array n e:=by cases d<;>simp [lD] at h;obtain ⟨rfl,rfl⟩:=h;rfl
theorem AU {P:Program} {d:TypeDesc} (h:lD P (some d)= .str):d= .string:=by cases d<;>simp [lD] at h;rfl
theorem acs {P:Program} {d:TypeDesc} {k:IntKind} (h:lD P (some d)= .int k):d= .int k:=by cases d<;>simp [lD] at h;subst h;rfl
theorem afJ {P:Program} {d:TypeDesc} (h:lD P (some d)= .bool):d= .bool:=by cases d<;>simp [lD] at h;rfl
theorem yY {P:Program} {d:TypeDesc} {a:List (Nat × Nat × Nat)} (h:lD P (some d)= .struct a):
  ∃ fields:Array Field,d= .struct fields/\a=fields.toList.map λf=>(f.offset,f.type,match P.info? f.type with|some i=>i.size|none=>0):=by
 cases d<;>simp [lD] at h
 exact ⟨_,rfl,h.symm⟩
theorem JB {P:Program} (d:TypeDesc):NE (lD P (some d))=d.isRow:=by cases d<;>simp [lD,NE,TypeDesc.isRow]
theorem Kq (S:aO) (v:Value):PR S (NT v) v:=by
 cases v<;>simp only [NT,PR]
 case pointer a=>cases a<;>simp only [PR]
 case map a=>
  cases a with
  |none=>simp [PR]
  |some _=>simp only [PR]
 case slice a n c=>
  split<;>simp only [PR]
theorem OM (S:aO) (v:Value):PR S (IY v) v:=by
 cases v<;>simp only [IY]<;>try exact Kq S _
 case agg cs=>
  simp only [PR];refine ⟨cs.toList,by simp, ?_⟩
  induction cs.toList with
  |nil=>simp [bT]
  |cons c r ih=>simp only [Xqg,bT];exact ⟨Kq S c,ih⟩
 case tuple vs=>
  split
  .rename_i h;simp only [PR];exact ⟨[],by rw [<- h],by simp [bT]⟩
  .simp only [PR]
theorem zy (S:aO):∀ l:List Value,bT S (l.map IY) l
 | []=>by simp [bT]
 |v::r=>by simp only [Xqg,bT];exact ⟨OM S v,zy S r⟩
theorem ahA {g:dK} {m:aW} {S:aO} {k:LK} {c:AV} {v:Value} (h:VR g m S c v) (d:chk k c=true):VR g m S (eta k c) v:=by
 cases k<;>cases c<;>simp [chk] at d<;>simp only [eta,AV.toInt,AV.toBool,AV.toStr,AV.slX,AV.slN]<;>try exact h
 .rw [gy d];exact h
 .simp only [VR,PR] at h ⊢;subst h;exact ⟨none,0,rfl,κ _,.inl ⟨λ_=>trivial,trivial,trivial,rfl⟩⟩
 .simp only [VR,PR] at h ⊢;obtain ⟨a,cap,e,b,q⟩:=h;refine ⟨a,cap,e,b, ?_⟩;rcases q with ⟨l,i,f,j⟩|q
  .exact .inl ⟨λ_=>trivial,i,f,j⟩
  .exact .inr q
theorem EC {k:LK} {c:AV} (h:chk k c=true):c ≠ .dead:=by intro e;subst e;cases k<;>simp [chk] at h
theorem getD_some {a:List AV} {i:Nat} (h:a.getD i .dead ≠ .dead):a[i]? =some (a.getD i .dead):=by
 rw [ξ] at h ⊢;cases b:a[i]? with
 |none=>simp [b] at h
 |some x=>simp
theorem qN (b:List AV) (a:Nat):(b.drop a).headD .dead=b.getD a .dead:=by
 rw [Xw2,Xku,ξ]
theorem XU (ty:Bool) (b:List AV) (a:Nat):yf ty [] b a= []:=rfl
theorem Aw (ty:Bool) (k:LK) (ks:List LK) (b:List AV) (a:Nat):yf ty (k::ks) b a=(match ty with|true=>eta k (b.getD a .dead)|false=>b.getD a .dead)::yf ty ks b (a+1):=by
 show _::Qj ty ks (b.drop a).tail=_::Qj ty ks (b.drop (a+1));rw [Xk4];cases ty<;>simp only [qN]
theorem WL (ty:Bool) (k:LK) (ks:List LK) (b:List AV) (a:Nat):MO ty (k::ks) b a=(match ty with|true=>chk k (b.getD a .dead)|false=>chk .oth (b.getD a .dead))::MO ty ks b (a+1):=by
 show _::Y7 ty ks (b.drop a).tail=_::Y7 ty ks (b.drop (a+1));rw [Xk4];cases ty<;>simp only [qN]
theorem sO {g:dK} {m:aW} {S:aO} (ty:Bool) {i:List AV} {vs:List Value} (l:bu g m S i vs):∀ (lks:List LK) (a:Nat),(∀ b ∈ MO ty lks i a,b=true)->
  ∃ e:List Value,e.length=lks.length/\(∀ j u,e[j]? =some u->vs[a+j]? =some u)/\bu g m S (yf ty lks i a) e:=by
 intro lks
 induction lks with
 |nil=>exact λa _=> ⟨[],rfl,λ_ _ h=>by simp at h,by simp [XU,bu]⟩
 | cons k ks ih=>
  intro a h;simp only [WL,List.mem_cons,forall_eq_or_imp] at h;obtain ⟨e,o,p,n⟩:=ih (a+1) h.2;have key:∃ v,vs[a]? =some v/\VR g m S ((yf ty (k::ks) i a).headD .dead) v:=by
   rw [Aw];cases ty with
   |true=>
    obtain ⟨v,d,c⟩:=uZ l a (getD_some (EC h.1));exact ⟨v,d,ahA c h.1⟩
   |false=>
    obtain ⟨v,d,c⟩:=uZ l a (getD_some (EC h.1));exact ⟨v,d,c⟩
  obtain ⟨v,d,c⟩:=key;rw [Aw] at c;refine ⟨v::e,by simp [o], ?_, ?_⟩
  .intro j u f;cases j with
   |zero=>simp at f;subst f;simpa using d
   |succ j=>simp at f;rw [show a+(j+1)=a+1+j from by omega];exact p j u f
  .simp only [Aw,bu];exact ⟨c,n⟩
theorem IC {P:Program} {w:World} {t:Nat} {ti:TI} {i:TypeInfo} {d:TypeDesc} {z:Value} (f:FP P t ti i d z) {g:dK} {m:aW} {S:aO} {cs:List AV} {e:List Value} {k a:Nat}
  (hl:e.length=ti.lks.length) (hu:∀ j u,e[j]? =some u->w.cell? ⟨k,a+j,none⟩=some u) (hr:bu g m S cs e) {v:AV} (hv:uG ti cs=some v):
  ∃ cv,(loadVar t ⟨k,a,none⟩).run P w= .ok cv w/\VR g m S v cv:=by
 unfold uG at hv;rw [f.d_eq,JB] at hv;split at hv
 .rename_i b;cases hv;refine ⟨.agg e.toArray,run_loadVar_mid w k a t e d hu f.und b (by simp [f.info,hl,f.lks]), ?_⟩;simp only [VR];exact ⟨e,rfl,hr⟩
 .rename_i b;split at hv
  .rename_i c;cases hv;cases e with
   |nil=>simp [bu] at hr
   | cons u r=>
    simp only [bu] at hr;refine ⟨u, ?_,hr.1⟩;have h:(isAgg t).run P w= .ok false w:=by
     unfold isAgg;rw [Sem.run_bind,run_underlying f.und w];cases d<;>simp_all [TypeDesc.isRow]
    have l:=hu 0 u rfl;simp only [Xq4] at l;simp [loadVar,h,l]
  .cases hv
theorem bind_some {α β:Type} {x:Option α} {f:α->Option β} {b:β} (h:x.bind f=some b):∃ a,x=some a/\f a=some b:=by
 cases x with
 |none=>simp at h
 |some a=>exact ⟨a,rfl,h⟩
theorem aS {v b:AV} {bs a:List Bool} {ups:List (Nat × aU)} (h:bH v bs=some (b,ups,a)):b=v/\ups= []/\a=bs:=by
 unfold bH at h;cases h;exact ⟨rfl,rfl,rfl⟩
section
variable {P:Program} {ap:AP} {g:dK} {m:aW} {S:aO} {w:World}
theorem EJ (J:b_ ap g m S w) {rd:dK} (G:∀ b B,rd b=some B->g b=some B) {t:Nat} {ti:TI} {i:TypeInfo} {d:TypeDesc} {z:Value} (K:FP P t ti i d z)
  {p v:AV} {cp:Value} (hp:VR g m S p cp) {ups:List (Nat × aU)} {bs:List Bool} (h:PQ ti rd p=some (v,ups,bs)) (hbs:∀ b ∈ bs,b=true):
  ups= []/\∃ cv,(Instr.loadAt t cp).run P w= .ok cv w/\VR g m S v cv:=by
 unfold PQ at h;split at h
 .rename_i R f;obtain ⟨N,l,h⟩:=bind_some h;obtain ⟨rfl,rfl,rfl⟩:=aS h;simp only [VR,PR] at hp;obtain ⟨b,o,vs,rfl,hp,hs⟩:=hp;obtain ⟨O,F,I,E⟩:=sO (g:=g) (m:=m) true (bU _ hp) ti.lks f hbs;obtain ⟨cv,H,y⟩:=IC (w:=w) K (k:=b) (a:=o+f) F (λj u x=>by
   have L:=hs (f+j) u (I j u x);have:=J.one L.1 L.2;rw [Xj2];exact this) E l
  exact ⟨rfl,cv,by simpa [Instr.loadAt,Instr.sureAddr] using H,y⟩
 .rename_i b ver f;obtain ⟨B,Q,h⟩:=bind_some h;split at h
  .rename_i c;obtain ⟨N,l,h⟩:=bind_some h;obtain ⟨rfl,rfl,rfl⟩:=aS h;simp only [VR] at hp;obtain ⟨B',s,_,_,q⟩:=hp;have r:=G b B Q;rw [r] at s;cases s;simp only [τ,Xqs] at c;have D:B.esz ≠ je:=λe=>by rw [e] at c;exact absurd c.2 (by decide)
   have q:=q (aN c.1);subst q;obtain ⟨cur,e,vs,rest,C,M,_,A,_⟩:=(J.blk b B r).lies;have C:=C.cells D;obtain ⟨O,F,I,E⟩:=sO _ A ti.lks f hbs;obtain ⟨cv,H,y⟩:=IC (w:=w) K (k:=(m b).1) (a:=f) F (λj u x=>by
    have n:=I j u x;rw [xy C,M,List.getElem?_append_left (List.getElem?_eq_some_iff.1 n).1];exact n) E l
   exact ⟨rfl,cv,by simpa [Instr.loadAt,Instr.sureAddr] using H,y⟩
  .cases h
 .cases h
theorem IZ {p f:AV} {d:Value} (hp:VR g m S p d) {o:Nat} (h:aa9 p o=some f):∃ a:Addr,d= .pointer (some a)/\VR g m S f (.pointer (some (a.add o))):=by
 unfold aa9 at h;split at h<;>cases h
 .rename_i b ver c;simp only [VR] at hp;obtain ⟨B,l,r,⟨k,n,rfl⟩,q⟩:=hp;refine ⟨_,rfl, ?_⟩;simp only [VR];refine ⟨B,l,r,⟨k,n+o,by rw [Addr.add_mid]⟩,λe=> ?_⟩;have q:=q e;simp only [Value.pointer.injEq,Option.some.injEq,Addr.mk.injEq] at q;obtain ⟨j,i,_⟩:=q;rw [Addr.add_mid,j,i]
 .rename_i s c;simp only [VR,PR] at hp;obtain ⟨b,k,vs,rfl,hp,hs⟩:=hp;refine ⟨_,rfl, ?_⟩;simp only [VR,PR];exact ⟨b,k,vs,by rw [Addr.add_mid,Xj2],hp,hs⟩
end
end AM
namespace AM
open Go
section
variable {P:Program} {ap:AP} {g:dK} {m:aW} {S:aO} {w:World}
theorem dG {b:Bool} {l:List Bool} (h:∀ x ∈ b::l,x=true):b=true/\∀ x ∈ l,x=true:=⟨h b (by simp),λx a=>h x (by simp [a])⟩
theorem lN {t:Nat} {ti:TI} {i:TypeInfo} {d:TypeDesc} {z:Value} (a:FP P t ti i d z) (w:World):(Go.sizeOf t).run P w= .ok ti.size w:=by
 simp [Go.sizeOf,typeInfo,a.info,a.size]
theorem EF {x:AV} {a:Value} (b:VR g m S x a) {n:Int} (h:UZ x=some n):∃ k,a= .int k n:=by
 cases x<;>simp [UZ] at h
 subst h;simp only [VR,PR] at b;exact ⟨_,b⟩
theorem FD {t:Nat} {ti:TI} {i:TypeInfo} {d:TypeDesc} {z:Value} (s:FP P t ti i d z) {l:List (Nat × Nat × Nat)} (hd:ti.d= .struct l) {f o y n:Nat} (u:l[f]? =some (o,y,n)) (c:Xjk 0 n=true)
  {p v:AV} {cp:Value} (hp:VR g m S p cp) (k:aa9 p o=some v):∃ cv,(Instr.fieldAt t cp f).run P w= .ok cv w/\VR g m S v cv:=by
 rw [s.d_eq] at hd;obtain ⟨fields,rfl,rfl⟩:=yY hd;simp only [Xqw,Xqq] at u;obtain ⟨r,e,q⟩:=u;simp only [Prod.mk.injEq] at q;obtain ⟨rfl,rfl,hs⟩:=q;obtain ⟨a,rfl,k⟩:=IZ hp k;refine ⟨_, ?_,k⟩;have b:fields[f]? =some r:=by simpa using e
 cases h:P.info? r.type with
 |none=>rw [h] at hs;simp only at hs;subst hs;exact absurd (gI c) (by omega)
 |some j=>
  rw [h] at hs;have x:j.size ≠ 0:=by have:=gI c;simp only at hs;omega
  simp [Instr.fieldAt,run_underlying s.und,b,Instr.sureAddr,fieldPlace,Go.sizeOf,typeInfo,h,x]
theorem qV {i:Int} {n:Nat} (h0:decide (0<=i)=true) (c:decide (i<n)=true):0<=i/\i<n/\i.toNat<n:=by
 have a:=of_decide_eq_true h0;have b:=of_decide_eq_true c;omega
theorem DJ (r:iy P ap) {rd:dK} (E:∀ b B,rd b=some B->g b=some B) {t:Nat} {ti:TI} {i:TypeInfo} {d:TypeDesc} {z:Value} (A:FP P t ti i d z)
  {x ix v:AV} {cx ci:Value} (hx:VR g m S x cx) (hi:VR g m S ix ci) {ups:List (Nat × aU)} {bs:List Bool} (h:Ai ap ti rd x ix=some (v,ups,bs)) (hbs:∀ b ∈ bs,b=true):
  ups= []/\∃ cv,(Instr.indexAt t cx ci).run P w= .ok cv w/\VR g m S v cv:=by
 unfold Ai at h;have l:=bind_some h;clear h;obtain ⟨n,K,h⟩:=l;obtain ⟨k,rfl⟩:=EF hi K;split at h
 .rename_i e hd;have l:=bind_some h;clear h;obtain ⟨F,c,h⟩:=l;obtain ⟨N,J,R,c⟩:=dQ r c;rw [A.d_eq] at hd;have hd:=g_ hd;subst hd;split at h
  .rename_i V len T;obtain ⟨rfl,rfl,rfl⟩:=aS h;obtain ⟨u,f⟩:=dG hbs;obtain ⟨f,_⟩:=dG f;obtain ⟨h0,y,G⟩:=qV u f;simp only [VR,PR] at hx;obtain ⟨a,cap,rfl,O,q⟩:=hx;rcases q with ⟨_,_,q,_⟩|⟨b,o,vs,rfl,hp,hs⟩
   .subst q;omega
   .refine ⟨rfl,.pointer (some ⟨b,o+n.toNat*F.size,none⟩), ?_, ?_⟩
    .simp [Instr.indexAt,asIntOf,run_underlying A.und,h0,y,lN c,Addr.add_mid]
    .simp only [VR,PR];exact ⟨b,o,vs,rfl,hp,hs⟩
  .rename_i b ver j len;have l:=bind_some h;clear h;obtain ⟨B,Q,h⟩:=l;split at h
   .rename_i C;simp only [τ] at C;obtain ⟨rfl,rfl,rfl⟩:=aS h;obtain ⟨u,f⟩:=dG hbs;obtain ⟨f,_⟩:=dG f;obtain ⟨h0,y,G⟩:=qV u f;simp only [VR] at hx;obtain ⟨B',s,H,_,q⟩:=hx;have I:=E b B Q;rw [I] at s;cases s;obtain ⟨o,rfl,U,L,W⟩:=q (aN C.1);have M:=L (by omega);have D:=aN C.2;refine ⟨rfl,.pointer (some ⟨(m b).1,(j+n.toNat)*F.size,none⟩), ?_, ?_⟩
    .rw [M,D];simp [Instr.indexAt,asIntOf,run_underlying A.und,h0,y,lN c,Addr.add_mid,Xxy]
    .simp only [VR];exact ⟨B,I,by have:=aN C.1;omega,⟨_,_,rfl⟩,λ_=>trivial⟩
   .cases h
  .cases h
 .rename_i len e hd;have l:=bind_some h;clear h;obtain ⟨F,c,h⟩:=l;obtain ⟨N,J,R,c⟩:=dQ r c;have l:=bind_some h;clear h;obtain ⟨p,hp,h⟩:=l;obtain ⟨rfl,rfl,rfl⟩:=aS h;rw [A.d_eq] at hd;have hd:=Dh hd;subst hd;obtain ⟨u,f⟩:=dG hbs;obtain ⟨f,_⟩:=dG f;obtain ⟨h0,y,G⟩:=qV u f;obtain ⟨a,rfl,H⟩:=IZ hx hp;refine ⟨rfl,_, ?_,H⟩;simp [Instr.indexAt,asIntOf,run_underlying A.und,h0,y,lN c,Instr.sureAddr]
 .cases h
theorem I8 {t:Nat} {ti:TI} {i:TypeInfo} {d:TypeDesc} {z:Value} (k:FP P t ti i d z) {vs b:List Value} {cs:List AV} {e:Nat}
  (hl:b.length=ti.lks.length) (hu:∀ j u,b[j]? =some u->vs[e+j]? =some u) (hr:bu g m S cs b) {v:AV} (hv:uG ti cs=some v):
  ∃ cv,(part t vs.toArray e).run P w= .ok cv w/\VR g m S v cv:=by
 have h:(isAgg t).run P w= .ok d.isRow w:=by
  unfold isAgg;rw [Sem.run_bind,run_underlying k.und w];cases d<;>simp [TypeDesc.isRow]
 unfold uG at hv;rw [k.d_eq,JB] at hv;split at hv
 .rename_i a;cases hv;have o:(vs.drop e).take ti.size=b:=by
   apply List.ext_getElem?;intro j;rw [Xjq,Xj5];have p:ti.size=b.length:=by rw [hl,k.lks,k.size]
   split
   .rename_i n;have f:j<b.length:=by omega
    have:=hu j b[j] (μ f);rw [this,μ f]
   .rename_i n;rw [List.getElem?_eq_none (by omega)]
  refine ⟨.agg b.toArray, ?_, ?_⟩
  .simp [part,h,a,lN k,o]
  .simp only [VR];exact ⟨b,rfl,hr⟩
 .rename_i a;split at hv
  .rename_i c;cases hv;cases b with
   |nil=>simp [bu] at hr
   |cons u r=>
    simp only [bu] at hr;refine ⟨u, ?_,hr.1⟩;have l:=hu 0 u rfl;simp only [Xq4] at l;have a:d.isRow=false:=by simpa using a
    simp [part,h,a,l]
  .cases hv
theorem Nq (k:iy P ap) {t:Nat} {ti:TI} {i:TypeInfo} {d:TypeDesc} {z:Value} (s:FP P t ti i d z) {x v:AV} {r:Value} (j:VR g m S x r) {f:Nat} {ups:List (Nat × aU)} {bs:List Bool}
  (h:SI ap ti x f=some (v,ups,bs)) (hbs:∀ b ∈ bs,b=true):ups= []/\∃ cv,(Instr.field t r f).run P w= .ok cv w/\VR g m S v cv:=by
 unfold SI at h;split at h
 .rename_i F cs hd;have e:=bind_some h;clear h;obtain ⟨⟨o,K,G⟩,u,h⟩:=e;have e:=bind_some h;clear h;obtain ⟨tf,a,h⟩:=e;have e:=bind_some h;clear h;obtain ⟨H,l,h⟩:=e;obtain ⟨rfl,rfl,rfl⟩:=aS h;obtain ⟨I,E,L,a⟩:=dQ k a;rw [s.d_eq] at hd;obtain ⟨fields,rfl,rfl⟩:=yY hd;simp only [Xqw,Xqq] at u;obtain ⟨q,n,p⟩:=u;simp only [Prod.mk.injEq] at p;obtain ⟨rfl,rfl,hs⟩:=p;simp only [VR] at j;obtain ⟨vs,rfl,j⟩:=j;obtain ⟨J,B,D,A⟩:=sO false j tf.lks q.offset hbs;obtain ⟨cv,C,y⟩:=I8 (w:=w) a B D A l;have c:fields[f]? =some q:=by simpa using n
  refine ⟨rfl,cv, ?_,y⟩;simp [Instr.field,run_underlying s.und,c,asAgg,C]
 .cases h
theorem aab (s:List UInt8) (i:Nat) (h:i<s.length):(⟨s.toArray⟩:ByteArray)[i]? =some (s.getD i 0):=by
 have hs:i<(⟨s.toArray⟩:ByteArray).size:=by simpa [ByteArray.size] using h
 rw [getElem?_pos _ i hs];simp only [ByteArray.getElem_eq_getElem_data,List.getElem_toArray];rw [ξ,μ h];rfl
theorem ND (o:iy P ap) {t:Nat} {ti:TI} {i:TypeInfo} {d:TypeDesc} {z:Value} (l:FP P t ti i d z) {x A v:AV} {D ci:Value} (f:VR g m S x D) (H:VR g m S A ci) {ups:List (Nat × aU)} {bs:List Bool}
  (h:SQ ap ti x A=some (v,ups,bs)) (hbs:∀ b ∈ bs,b=true):ups= []/\∃ cv,(Instr.index t D ci).run P w= .ok cv w/\VR g m S v cv:=by
 unfold SQ at h;have j:=bind_some h;clear h;obtain ⟨n,F,h⟩:=j;obtain ⟨k,rfl⟩:=EF H F;split at h
 .rename_i s hd;obtain ⟨rfl,rfl,rfl⟩:=aS h;obtain ⟨u,c⟩:=dG hbs;obtain ⟨c,_⟩:=dG c;obtain ⟨h0,B,y⟩:=qV u c;rw [l.d_eq] at hd;have hd:=AU hd;subst hd;simp only [VR,PR] at f;subst f;refine ⟨rfl,.int .u8 (s.getD n.toNat 0).toNat, ?_,by simp only [VR,PR]⟩;simp [Instr.index,asIntOf,run_underlying l.und,h0,aab s n.toNat y]
 .rename_i len e cs hd;have j:=bind_some h;clear h;obtain ⟨C,a,h⟩:=j;have j:=bind_some h;clear h;obtain ⟨L,q,h⟩:=j;obtain ⟨rfl,rfl,rfl⟩:=aS h;obtain ⟨N,K,O,a⟩:=dQ o a;obtain ⟨u,c⟩:=dG hbs;obtain ⟨c,E⟩:=dG c;obtain ⟨h0,B,y⟩:=qV u c;rw [l.d_eq] at hd;have hd:=Dh hd;subst hd;simp only [VR] at f;obtain ⟨vs,rfl,f⟩:=f;obtain ⟨M,I,J,G⟩:=sO true f C.lks (n.toNat*C.size) E;obtain ⟨cv,p,r⟩:=I8 (w:=w) a I J G q;refine ⟨rfl,cv, ?_,r⟩;simp [Instr.index,asIntOf,run_underlying l.und,h0,B,lN a,p]
 .cases h
end
end AM
namespace AM
open Go
section
variable {P:Program} {ap:AP} {g:dK} {m:aW} {S:aO} {w:World}
def Gy (g:dK) (m:aW) (S:aO) (x:Option AV) (c:Option Value):Prop:=
 match x,c with
 |none,none=>True
 |some x,some c=>VR g m S x c
 |_,_=>False
theorem gY {x:Option AV} {c:Option Value} (h:Gy g m S x c) {d n:Int} (a:qZ x d=some n):(x=none/\c=none/\n=d)\/∃ k,c=some (.int k n):=by
 cases x with
 |none=>cases c with
  |none=>simp [qZ] at a;exact .inl ⟨rfl,rfl,a.symm⟩
  |some c=>simp [Gy] at h
 | some x=>cases c with
  |none=>simp [Gy] at h
  |some c=>
   cases x<;>simp [qZ] at a
   subst a;simp only [Gy,VR,PR] at h;subst h;exact .inr ⟨_,rfl⟩
theorem wo (P:Program) (w:World) (c:Bool) (len cap:Nat) (a d:Option Value) (l h:Int)
  (hl:(a=none/\l=0)\/∃ k,a=some (.int k l)) (f:(d=none/\h=len)\/∃ k,d=some (.int k h)) (h0:0<=l) (h1:l<=h) (h2:h<=cap):
  (Instr.sliceBounds c len cap a d none).run P w= .ok (l.toNat,h.toNat,cap) w:=by
 have e:0<=h:=by omega
 rcases hl with ⟨rfl,rfl⟩|⟨k,rfl⟩<;>rcases f with ⟨rfl,rfl⟩|⟨i,rfl⟩
 .simp [Instr.sliceBounds]
 .simp [Instr.sliceBounds,Instr.sliceBound,asIntOf,h2,e]
 .have b:l<=(len:Int):=h1;simp [Instr.sliceBounds,Instr.sliceBound,asIntOf,h0,b]
 .simp [Instr.sliceBounds,Instr.sliceBound,asIntOf,h0,h2,e];intro j;omega
theorem Po (s:List UInt8) (l h:Nat):(⟨s.toArray⟩:ByteArray).extract l h=⟨((s.take h).drop l).toArray⟩:=by
 apply ByteArray.ext;rw [ByteArray.data_extract];apply Array.ext';simp [List.extract_eq_take_drop,List.drop_take]
theorem CV (s:List UInt8):(⟨s.toArray⟩:ByteArray).size=s.length:=by simp [ByteArray.size]
theorem lX.drop {b o:Nat} {vs:List Value} (h:lX S b o vs) (n:Nat):lX S b (o+n) (vs.drop n):=by
 intro j u a;rw [Xj5] at a;rw [Xj2];exact h _ _ a
theorem lX.take {b o:Nat} {vs:List Value} (h:lX S b o vs) (n:Nat):lX S b o (vs.take n):=by
 intro j u a;rw [Xjq] at a;split at a
 .exact h _ _ a
 .cases a
theorem ahC {a b c:Bool} (h:∀ x ∈ [a,b,c],x=true):a=true/\b=true/\c=true:=⟨h a (by simp),h b (by simp),h c (by simp)⟩
theorem JS {α:Type} (a:List α) (n:Nat):(a.take n).drop n= []:=by
 apply Xwh;simp;omega
theorem Ol (E:iy P ap) {rd:dK} (K:∀ b B,rd b=some B->g b=some B) {t:Nat} {ti:TI} {i:TypeInfo} {d:TypeDesc} {z:Value} (D:FP P t ti i d z)
  {x v:AV} {cx:Value} (hx:VR g m S x cx) {lo hi mx:Option AV} {clo chi cmx:Option Value} (hlo:Gy g m S lo clo) (hhi:Gy g m S hi chi) (hmx:Gy g m S mx cmx)
  {ups:List (Nat × aU)} {bs:List Bool} (h:Uc ap ti rd x lo hi mx=some (v,ups,bs)) (hbs:∀ b ∈ bs,b=true):
  ups= []/\∃ cv,(Instr.sliceAt t cx clo chi cmx).run P w= .ok cv w/\VR g m S v cv:=by
 have k:mx=none->cmx=none:=by intro e;subst e;cases cmx<;>simp [Gy] at hmx ⊢
 unfold Uc at h;split at h
 .rename_i s hd;have f:=bind_some h;clear h;obtain ⟨l,F,h⟩:=f;have f:=bind_some h;clear h;obtain ⟨u,G,h⟩:=f;obtain ⟨rfl,rfl,rfl⟩:=aS h;obtain ⟨p,r,A⟩:=ahC hbs;have p:=of_decide_eq_true p;have r:=of_decide_eq_true r;have A:=of_decide_eq_true A;rw [D.d_eq] at hd;have hd:=AU hd;subst hd;simp only [VR,PR] at hx;subst hx;rw [k rfl];have C:=wo P w false s.length s.length clo chi l u ((gY hlo F).imp (λh=> ⟨h.2.1,h.2.2⟩) id) ((gY hhi G).imp (λh=> ⟨h.2.1,h.2.2⟩) id) p r A;refine ⟨rfl,.string ⟨((s.take u.toNat).drop l.toNat).toArray⟩, ?_,by simp only [VR,PR]⟩;rw [<- Po];simp [Instr.sliceAt,Instr.slice,run_underlying D.und,CV,C]
 .rename_i e U n Y hd;have f:=bind_some h;clear h;obtain ⟨y,c,h⟩:=f;have f:=bind_some h;clear h;obtain ⟨l,F,h⟩:=f;have f:=bind_some h;clear h;obtain ⟨u,G,h⟩:=f;obtain ⟨rfl,rfl,rfl⟩:=aS h;obtain ⟨O,L,R,c⟩:=dQ E c;obtain ⟨p,r,A⟩:=ahC hbs;have p:=of_decide_eq_true p;have r:=of_decide_eq_true r;have A:=of_decide_eq_true A;rw [D.d_eq] at hd;have hd:=g_ hd;subst hd;simp only [VR,PR] at hx;obtain ⟨a,cap,rfl,W,q⟩:=hx;rw [k rfl];have C:=wo P w true n cap clo chi l u ((gY hlo F).imp (λh=> ⟨h.2.1,h.2.2⟩) id) ((gY hhi G).imp (λh=> ⟨h.2.1,h.2.2⟩) id) p r (by omega);refine ⟨rfl,.slice (if cap=l.toNat then a else a.map (·.add (l.toNat*y.size))) (u.toNat - l.toNat) (cap - l.toNat), ?_, ?_⟩
  .simp [Instr.sliceAt,Instr.slice,run_underlying D.und,C,lN c]
  .simp only [VR,PR];refine ⟨_,_,rfl,by omega, ?_⟩;rcases q with ⟨M,rfl,rfl,rfl⟩|⟨b,o,vs,rfl,hp,hs⟩
   .refine .inl ⟨λh=>M ?_,by simp,by omega,by omega⟩;split at h
    .exact h
    .simpa using h
   .refine .inr ?_;by_cases H:cap=l.toNat
    .refine ⟨b,o,[],by rw [if_pos H], ?_,λj u h=>by simp at h⟩;have e:(U.take (u.toNat*y.size)).drop (l.toNat*y.size)= []:=by
      have:u.toNat=l.toNat:=by omega
      rw [this,JS]
     rw [e];simp [bT]
    .exact ⟨b,o+l.toNat*y.size,(vs.take (u.toNat*y.size)).drop (l.toNat*y.size),by rw [if_neg H];simp [Addr.add_mid],qB _ (lW _ hp),(hs.take _).drop _⟩
 .rename_i e b ver j n hd;have f:=bind_some h;clear h;obtain ⟨y,c,h⟩:=f;have f:=bind_some h;clear h;obtain ⟨B,X,h⟩:=f;have f:=bind_some h;clear h;obtain ⟨l,F,h⟩:=f;have f:=bind_some h;clear h;obtain ⟨u,G,h⟩:=f;split at h
  .rename_i H;simp only [τ] at H;obtain ⟨rfl,rfl,rfl⟩:=aS h;obtain ⟨O,L,R,c⟩:=dQ E c;obtain ⟨p,r,A⟩:=ahC hbs;have p:=of_decide_eq_true p;have r:=of_decide_eq_true r;have A:=of_decide_eq_true A;rw [D.d_eq] at hd;have hd:=g_ hd;subst hd;simp only [VR] at hx;obtain ⟨B',I,T,_,q⟩:=hx;have N:=K b B X;rw [N] at I;cases I;obtain ⟨o,rfl,M,V,Q⟩:=q (aN H.1);have J:=aN H.2;rw [k rfl];have C:=wo P w true n ((m b).2 - j) clo chi l u ((gY hlo F).imp (λh=> ⟨h.2.1,h.2.2⟩) id) ((gY hhi G).imp (λh=> ⟨h.2.1,h.2.2⟩) id) p r (by omega);refine ⟨rfl,.slice (if (m b).2 - j=l.toNat then some ⟨(m b).1,o,none⟩ else some ⟨(m b).1,o+l.toNat*y.size,none⟩) (u.toNat - l.toNat) ((m b).2 - j - l.toNat), ?_, ?_⟩
   .simp [Instr.sliceAt,Instr.slice,run_underlying D.und,C,lN c,Addr.add_mid]
   .simp only [VR];refine ⟨B,N,T,(by split<;>exact ⟨_,_,_,rfl⟩),λ_=> ?_⟩;by_cases hcl:(m b).2 - j=l.toNat
    .exact ⟨o,by rw [if_pos hcl];congr 1;omega,by omega,λh=>by omega,Q⟩
    .refine ⟨o+l.toNat*y.size,by rw [if_neg hcl];congr 1;omega,by omega,λh=> ?_,Q⟩;rw [V (by omega),J,Xxy]
  .cases h
 .rename_i e hd;have f:=bind_some h;clear h;obtain ⟨y,c,h⟩:=f;have f:=bind_some h;clear h;obtain ⟨l,F,h⟩:=f;have f:=bind_some h;clear h;obtain ⟨u,G,h⟩:=f;obtain ⟨rfl,rfl,rfl⟩:=aS h;obtain ⟨O,L,R,c⟩:=dQ E c;have p:=of_decide_eq_true (hbs (decide (l=0)) (by simp));have r:=of_decide_eq_true (hbs (decide (u=0)) (by simp));subst p;subst r;rw [D.d_eq] at hd;have hd:=g_ hd;subst hd;simp only [VR,PR] at hx;subst hx;rw [k rfl];have C:=wo P w true 0 0 clo chi 0 0 ((gY hlo F).imp (λh=> ⟨h.2.1,h.2.2⟩) id) ((gY hhi G).imp (λh=> ⟨h.2.1,h.2.2⟩) id) (by omega) (by omega) (by omega);refine ⟨rfl,.slice none 0 0, ?_,by simp only [VR,PR]⟩;simp at C;simp [Instr.sliceAt,Instr.slice,run_underlying D.und,C,lN c]
 .cases h
theorem S9 {x v:AV} {k:Value} (c:VR g m S x k) {t:Nat} {ti:TI} {i:TypeInfo} {d:TypeDesc} {z:Value} (f:FP P t ti i d z)
  {ups:List (Nat × aU)} {bs:List Bool} (h:aau ti.d x=some (v,ups,bs)) (ats:Array TypeId) (hat:ats[0]? =some t) (args:Array Value) (ha:args[0]? =some k) (ty:Nat):
  ups= []/\∃ cv,(Builtin.len_ ats ty args).run P w= .ok cv w/\VR g m S v cv:=by
 unfold aau at h;rw [f.d_eq] at h;split at h
 .rename_i n e hd;obtain ⟨rfl,rfl,rfl⟩:=aS h;have hd:=Dh hd;subst hd;exact ⟨rfl,.int .i64 n,by simp [Builtin.len_,hat,ha,run_underlying f.und,goInt],by simp only [VR,PR]⟩
 .rename_i s hd;obtain ⟨rfl,rfl,rfl⟩:=aS h;have hd:=AU hd;subst hd;simp only [VR,PR] at c;subst c;exact ⟨rfl,.int .i64 s.length,by simp [Builtin.len_,hat,ha,run_underlying f.und,goInt,CV],by simp only [VR,PR]⟩
 .rename_i e o n l hd;obtain ⟨rfl,rfl,rfl⟩:=aS h;have hd:=g_ hd;subst hd;simp only [VR,PR] at c;obtain ⟨a,cap,rfl,_⟩:=c;exact ⟨rfl,.int .i64 n,by simp [Builtin.len_,hat,ha,run_underlying f.und,goInt],by simp only [VR,PR]⟩
 .rename_i e b ver j n hd;obtain ⟨rfl,rfl,rfl⟩:=aS h;have hd:=g_ hd;subst hd;simp only [VR] at c;obtain ⟨_,_,_,⟨_,_,cap,rfl⟩,_⟩:=c;exact ⟨rfl,.int .i64 n,by simp [Builtin.len_,hat,ha,run_underlying f.und,goInt],by simp only [VR,PR]⟩
 .rename_i e hd;obtain ⟨rfl,rfl,rfl⟩:=aS h;have hd:=g_ hd;subst hd;simp only [VR,PR] at c;subst c;exact ⟨rfl,.int .i64 0,by simp [Builtin.len_,hat,ha,run_underlying f.und,goInt],by simp only [VR,PR]⟩
 .cases h
theorem AX (s:List UInt8):(⟨s.toArray⟩:ByteArray).toList=s:=by rw [ByteArray.toList_eq]
theorem Bl:∀ a b:List UInt8,Op.bytesLess a b=iC a b
 |_,[]=>by simp [Op.bytesLess,iC]
 | [],_::_=>by simp [Op.bytesLess,iC]
 |a::x,b::y=>by simp only [Op.bytesLess,iC,Bl x y]
def wL:LK->Value->Value->Option Bool
 | .int k,.int k1 a,.int k2 b=>match jh k k1 && jh k k2 with|true=>some (a==b)|false=>none
 | .bool,.bool a,.bool b=>some (a==b)
 | .str,.string a,.string b=>some (a.toList==b.toList)
 |_,_,_=>none
def dW:List LK->List Value->List Value->Option Bool
 | [],[],[]=>some true
 |k::ks,a::as,b::bs=>(wL k a b).bind λc=>(dW ks as bs).map λd=>c && d
 |_,_,_=>none
theorem vH:∀ (l e:List LK) (i f:List Value) (r:Bool),dW (l++e) i f=some r->
  ∃ a b,dW l (i.take l.length) (f.take l.length)=some a/\dW e (i.drop l.length) (f.drop l.length)=some b/\r=(a && b)
 | [],e,i,f,r,h=> ⟨true,r,by simp [dW],by simpa using h,by simp⟩
 |k::l,e,[],_,r,h=>by simp [dW] at h
 |k::l,e,_::_,[],r,h=>by simp [dW] at h
 |k::l,e,x::i,y::f,r,h=>by
  simp only [Xqt,dW] at h;obtain ⟨c,o,h⟩:=bind_some h;rw [Xqq] at h;obtain ⟨d,hd,rfl⟩:=h;obtain ⟨a,b,n,j,rfl⟩:=vH l e i f d hd;exact ⟨c && a,b,by simp [dW,o,n],by simpa using j,by simp [Bool.and_assoc]⟩
theorem tu:∀ (l:List LK) (b a:List Value) (r:Bool),dW l b a=some r->b.length=l.length/\a.length=l.length
 | [],[],[],_,_=> ⟨rfl,rfl⟩
 |k::l,x::b,y::a,r,h=>by
  simp only [dW] at h;obtain ⟨c,_,h⟩:=bind_some h;rw [Xqq] at h;obtain ⟨d,hd,_⟩:=h;have:=tu l b a d hd;simp [this.1,this.2]
 | [],_::_,_,_,h=>by simp [dW] at h
 | [],[],_::_,_,h=>by simp [dW] at h
 |_::_,[],_,_,h=>by simp [dW] at h
 |_::_,_::_,[],_,h=>by simp [dW] at h
def yB (P:Program) (t:TypeId) (xs:List Value):Value:=match P.underlying t with
 |some (.struct _)=> .agg xs.toArray
 |_=>xs.headD undef
def YJ (P:Program) (n:Nat) (t:TypeId) (lks:List LK):Prop:=
 ∀ (d:Nat) (w:World) (xs ys:List Value) (r:Bool),n<=d->dW lks xs ys=some r->(Op.equalIn d t (yB P t xs) (yB P t ys)).run P w= .ok r w
theorem yt {t:TypeId} {lks:List LK} {n:Nat} (h:kL P n t=some lks) {i:TypeInfo} (k:P.info? t=some i) (hs:i.size=lks.length) (c:List Value) (a:Nat) (j:a+lks.length<=c.length) (w:World):
  (part t c.toArray a).run P w= .ok (yB P t ((c.drop a).take lks.length)) w:=by
 cases n with
 |zero=>simp [kL] at h
 | succ n=>
  unfold kL at h;cases f:P.underlying t with
  |none=>simp [f] at h
  | some d=>
   have b:(isAgg t).run P w= .ok d.isRow w:=by
    unfold isAgg;rw [Sem.run_bind,run_underlying f w];cases d<;>simp [TypeDesc.isRow]
   cases d<;>simp only [f] at h<;>try cases h
   case struct fs=>
    simp only [TypeDesc.isRow] at b;simp [part,b,Go.sizeOf,typeInfo,k,hs,yB,f]
   all_goals
    simp only [TypeDesc.isRow] at b;simp only [ο,Xqa,Δ] at j;have o:c[a]? =some (c[a]'(by omega)):=μ (by omega);simp only [part,Sem.run_bind,b,Result.andThen_ok,Bool.false_eq_true,if_false,yB,f];have e:((c.drop a).take [LK.str].length).headD undef=c[a]'(by omega):=by
     rw [Xw2,List.head?_take,Xku,o];simp
    have l:(c.toArray)[a]? =some (c[a]'(by omega)):=by simp
    rw [l]
    first|exact congrArg (λv=>Result.ok v w) e.symm|(simp only [ο,Xqa] at e ⊢;exact congrArg (λv=>Result.ok v w) e.symm)
theorem wP {n:Nat} (u:∀ t lks,kL P n t=some lks->YJ P n t lks):∀ (fs:List Field) (off:Nat) (lks:List LK),BA P (kL P n) fs off=some lks->
  ∀ (d:Nat) (w:World) (xs ys:List Value) (r:Bool),n<=d->xs.length=off+lks.length->ys.length=off+lks.length->dW lks (xs.drop off) (ys.drop off)=some r->
   (Op.eqFields d xs.toArray ys.toArray fs).run P w= .ok r w
 | [],off,lks,hc,d,w,xs,ys,r,hd,hx,hy,h=>by
  simp [BA] at hc;subst hc;have z:xs.drop off= []:=Xwh (by simp at hx;omega);have x:ys.drop off= []:=Xwh (by simp at hy;omega);rw [z,x] at h;simp [dW] at h;subst h;simp [Op.eqFields]
 | f ::fs,off,lks,hc,d,w,xs,ys,r,hd,hx,hy,h=>by
  simp only [BA] at hc;cases j:kL P n f.type with
  |none=>simp [j] at hc
  | some l=>
   simp only [j] at hc;split at hc
   .rename_i hcond;simp only [τ,Xqs] at hcond;obtain ⟨⟨s,o⟩,c⟩:=hcond;cases p:BA P (kL P n) fs (off+l.length) with
    |none=>simp [p] at hc
    | some l'=>
     simp only [p] at hc;cases hc;cases k:P.info? f.type with
     |none=>simp [k] at c
     |some i=>
      simp only [k] at c;have c:=aN c;have o:=aN o;have q:f.name ≠ "_" :=by intro e;rw [e] at s;exact absurd s (by decide)
      simp only [List.length_append] at hx hy;obtain ⟨a,b,y,v,rfl⟩:=vH l l' _ _ r h;have A:=yt j k c xs off (by omega) w;have D:=yt j k c ys off (by omega) w;have C:=u f.type l j d w _ _ a hd y;have B:=wP u fs (off+l.length) l' p d w xs ys b hd (by omega) (by omega) (by simpa [List.drop_drop,Nat.add_comm] using v);simp only [Op.eqFields,q,ne_eq,not_false_eq_true,if_true,Sem.run_bind,o,A,D,C,Result.andThen_ok];cases a
      .simp
      .simpa using B
   .cases hc
theorem Ha : ∀ (n:Nat) (t:TypeId) (lks:List LK),kL P n t=some lks->YJ P n t lks
  |0,_,_,h=>by simp [kL] at h
  | n + 1,t,lks,h=>by
    intro d w p o r hd b;obtain ⟨d,rfl⟩:∃ k,d=k+1:=⟨d - 1,by omega⟩
    have j:=tu _ _ _ _ b;unfold kL at h;cases a:P.underlying t with
    |none=>simp [a] at h
    | some ds=>
      cases ds<;>simp only [a] at h<;>try cases h
      case struct fs=>
        split at h
        · cases h
        · rename_i q;have i:P.fieldsOf t=fs:=by simp [Program.fieldsOf,a]
          have e:=run_equalIn_struct (P:=P) w d t p.toArray o.toArray (by rw [i];exact a) q;simp only [yB,a];rw [e,i];exact wP (Ha n) fs.toList 0 lks h d w p o r (by omega) (by simp [j.1]) (by simp [j.2]) (by simpa using b)
      all_goals
        simp only [ο,Xqa,Δ] at j
        match p,o,j,b with
        | [x], [y],_,b=>
          simp only [dW,Option.map_some,Bool.and_true] at b;obtain ⟨c,f,b⟩:=bind_some b;cases b;simp only [yB,a,List.headD_cons];cases x<;>cases y<;>simp [wL] at f
          first
            | (split at f
               · rename_i l;simp only [τ] at l;obtain rfl:=gy l.1;obtain rfl:=gy l.2;cases f;exact run_equalIn_int (P:=P) w d t _ _ _ _ a
               · cases f)
            |(subst f;rw [run_equalIn_bool' (P:=P) w d t _ _ a])
            |(subst f;rw [run_equalIn_string (P:=P) w d t _ _ a])
end
end AM
namespace AM
open Go
section
variable {P:Program} {ap:AP} {g:dK} {m:aW} {S:aO} {w:World}
theorem aj6 {d:TypeDesc} (h:lD P (some d)= .ptr):∃ e,d= .pointer e:=by cases d<;>simp [lD] at h;exact ⟨_,rfl⟩
theorem afK {d:TypeDesc} (h:lD P (some d)= .func):∃ a b c,d= .func a b c:=by cases d<;>simp [lD] at h;exact ⟨_,_,_,rfl⟩
theorem acr {d:TypeDesc} (h:lD P (some d)= .iface):∃ e,d= .interface e:=by cases d<;>simp [lD] at h;exact ⟨_,rfl⟩
theorem aeg {a b:LK} (h:aiO a b=true):a=b:=by
 cases a<;>cases b<;>simp [aiO] at h
 .rw [gy h]
 .rfl
 .rfl
theorem IB:∀ {a b:List LK},KZ a b=true->a=b
 | [],[],_=>rfl
 |_::_,_::_,h=>by simp only [KZ,τ] at h;rw [aeg h.1,IB h.2]
 | [],_::_,h=>by simp [KZ] at h
 |_::_,[],h=>by simp [KZ] at h
theorem Sr {k:LK} {a b:AV} {r:Bool} (h:Sm k a b=some r) {x y:Value} (d:VR g m S a x) (c:VR g m S b y):wL k x y=some r:=by
 unfold Sm at h;split at h
 .simp only [VR,PR] at d c;subst d;subst c;split at h
  .rename_i e;cases h;simp [wL,e]
  .cases h
 .simp only [VR,PR] at d c;subst d;subst c;simpa [wL] using h
 .simp only [VR,PR] at d c;subst d;subst c;simpa [wL,AX] using h
 .cases h
theorem zC:∀ {ks:List LK} {i bs:List AV} {r:Bool} {f e:List Value},mg ks i bs=some r->bu g m S i f->bu g m S bs e->dW ks f e=some r
 | [],[],[],r,f,e,h,ha,hb=>by
  cases f<;>cases e<;>simp [bu] at ha hb
  simpa [mg,dW] using h
 |k::ks,a::i,b::bs,r,x::f,y::e,h,ha,hb=>by
  simp only [mg] at h;obtain ⟨c,j,h⟩:=bind_some h;rw [Xqq] at h;obtain ⟨d,hd,rfl⟩:=h;simp only [bu] at ha hb;simp [dW,Sr j ha.1 hb.1,zC hd ha.2 hb.2]
 | [],_::_,_,_,_,_,h,_,_=>by simp [mg] at h
 | [],[],_::_,_,_,_,h,_,_=>by simp [mg] at h
 |_::_,[],_,_,_,_,h,_,_=>by simp [mg] at h
 |_::_,_::_,[],_,_,_,h,_,_=>by simp [mg] at h
 |_::_,_::_,_::_,_,[],_,_,ha,_=>by simp [bu] at ha
 |_::_,_::_,_::_,_,_::_,[],_,_,hb=>by simp [bu] at hb
theorem Di (b:iy P ap) {t:Nat} {ti:TI} (h:ap.tyAt t=some ti):ti.cmp=adl P t/\ti.lks=K_ P 8 t:=by
 have a:=b.ty t ti h;unfold acw at a;split at a
 .split at a
  .cases a;exact ⟨rfl,rfl⟩
  .cases a
 .cases a
theorem lM (c:BinOp) (t:TypeId) (x y:Operand) (a b:Value) (e:¬ (a= .nilIface/\b= .nilIface)) (d:∀ xs ys,¬ (a= .agg xs/\b= .agg ys)):(eqGuard c t x y a b).run P w= .ok () w:=by
 unfold eqGuard;cases c<;>simp only [Sem.run_ite,Sem.run_pure]<;>try (simp;done)
 all_goals
  simp;split
  .exact absurd ⟨rfl,rfl⟩ e
  .exact absurd ⟨rfl,rfl⟩ (d _ _)
  .rfl
def Vj (op:BinOp) (r:Bool):Bool:=match op with| .neq=> !r|_=>r
theorem yM {t:Nat} {a b:Value} {r:Bool} {x y:Operand} (c:∀ op,(eqGuard op t x y a b).run P w= .ok () w) (h:∀ d,(Op.equalIn (d+1) t a b).run P w= .ok r w)
  (h1:binOp .eql t a b=(do pure (.bool (<- Op.equal t a b)))) (h2:binOp .neq t a b=(do pure (.bool (!(<- Op.equal t a b))))) {op:BinOp} (hop:op=BinOp.eql\/op=BinOp.neq):
  (do eqGuard op t x y a b;binOp op t a b:Sem Value).run P w= .ok (.bool (Vj op r)) w:=by
 have e:(Op.equal t a b).run P w= .ok r w:=h 9999;rcases hop with rfl|rfl
 .rw [Sem.run_bind,c,Result.andThen_ok,h1,Sem.run_bind,e];rfl
 .rw [Sem.run_bind,c,Result.andThen_ok,h2,Sem.run_bind,e];rfl
theorem KI (v:iy P ap) {t:Nat} {ti:TI} (A:ap.tyAt t=some ti) {a b:AV} {D H:Value} (s:VR g m S a D) (k:VR g m S b H) {r:Bool} (h:eqA ti a b=some r) (J:∀ x ∈ IU a b,x=true) (x y:Operand):
  ∀ f,f=BinOp.eql\/f=BinOp.neq->(do eqGuard f t x y D H;binOp f t D H:Sem Value).run P w= .ok (.bool (Vj f r)) w:=by
 obtain ⟨i,d,z,u⟩:=dQ v A;intro f j;unfold eqA at h;split at h
 case h_2 fs xs ys hd=>
  split at h
  .rename_i c;rw [(Di v A).1] at c;rw [(Di v A).2] at h;simp only [VR] at s k;obtain ⟨vs,rfl,s⟩:=s;obtain ⟨M,rfl,k⟩:=k;have K:=zC h s k;unfold adl at c;cases G:kL P 8 t with
   |none=>simp [G] at c
   |some l=>
    simp only [G,τ,Xqs] at c;have E:=IB c.1;rw [<- E] at K;have I:=Ha 8 t l G 10000 w vs M r (by omega) K;rw [u.d_eq] at hd;obtain ⟨fields,rfl,_⟩:=yY hd;simp only [yB,u.und] at I;have L:=run_eqGuard_agg (P:=P) w f t x y vs.toArray M.toArray c.2;rcases j with rfl|rfl
    .simp [L,run_eql_struct,I,Vj]
    .simp [L,run_neq_struct,I,Vj]
  .cases h
 all_goals try (cases h;done)
 all_goals
  rename_i hd;rw [u.d_eq] at hd
  try simp only [VR,PR] at s k
 all_goals cases h
 case h_1=>
  have hd:=afJ hd;subst hd;subst s;subst k
  (refine yM (λf=> ?_) (λB=> ?_) rfl rfl j<;>first|exact lM f t x y _ _ (by simp) (by simp)|exact run_equalIn_bool' (P:=P) w B t _ _ u.und)
 all_goals
  first
   |(obtain ⟨e,rfl⟩:=aj6 hd)
   |(obtain ⟨e,rfl⟩:=acr hd)
   |(obtain ⟨O,N,Q,rfl⟩:=afK hd)
   |(have hd:=g_ hd;subst hd)
 case h_16 xs n nn=>
  subst k;obtain ⟨a,cap,rfl,F,q⟩:=s;rcases q with ⟨C,rfl,rfl,rfl⟩|⟨b,o,vs,rfl,_⟩
  .cases a with
   |none=>
    cases C rfl;exact absurd (J _ (by simp [IU];rfl)) (by decide)
   |some p=>(refine yM (λf=> ?_) (λB=> ?_) rfl rfl j<;>first|exact lM f t x y _ _ (by simp) (by simp)|simp [Op.equalIn,run_underlying u.und])
  ·(refine yM (λf=> ?_) (λB=> ?_) rfl rfl j<;>first|exact lM f t x y _ _ (by simp) (by simp)|simp [Op.equalIn,run_underlying u.und])
 case h_17 xs n nn=>
  subst s;obtain ⟨a,cap,rfl,F,q⟩:=k;rcases q with ⟨C,rfl,rfl,rfl⟩|⟨b,o,vs,rfl,_⟩
  .cases a with
   |none=>
    cases C rfl;exact absurd (J _ (by simp [IU];rfl)) (by decide)
   |some p=>(refine yM (λf=> ?_) (λB=> ?_) rfl rfl j<;>first|exact lM f t x y _ _ (by simp) (by simp)|simp [Op.equalIn,run_underlying u.und])
  ·(refine yM (λf=> ?_) (λB=> ?_) rfl rfl j<;>first|exact lM f t x y _ _ (by simp) (by simp)|simp [Op.equalIn,run_underlying u.und])
 all_goals
  try subst s
  try subst k
  try (obtain ⟨_,_,_,⟨_,_,rfl⟩,_⟩:=s)
  try (obtain ⟨_,_,_,⟨_,_,rfl⟩,_⟩:=k)
  try (obtain ⟨_,_,_,⟨_,_,_,rfl⟩,_⟩:=s)
  try (obtain ⟨_,_,_,⟨_,_,_,rfl⟩,_⟩:=k)
  try (obtain ⟨_,_,_,rfl,_⟩:=s)
  try (obtain ⟨_,_,_,rfl,_⟩:=k)
  try (obtain ⟨_,_,rfl,_⟩:=s)
  try (obtain ⟨_,_,rfl,_⟩:=k)
  try (obtain ⟨_,rfl,_⟩:=s)
  try (obtain ⟨_,rfl,_⟩:=k)
  (refine yM (λf=> ?_) (λB=> ?_) rfl rfl j<;>first|exact lM f t x y _ _ (by simp) (by simp)|simp [Op.equalIn,run_underlying u.und])
end
end AM
namespace AM
open Go
section
variable {P:Program} {ap:AP} {g:dK} {m:aW} {S:aO} {w:World}
theorem Rq (a b:List UInt8):(⟨a.toArray⟩:ByteArray)++⟨b.toArray⟩=⟨(a++b).toArray⟩:=by
 apply ByteArray.ext;rw [ByteArray.data_append];simp
theorem Ry (f:iy P ap) {t:Nat} {ti:TI} (i:ap.tyAt t=some ti) {a b v:AV} {n o:Value} (e:VR g m S a n) (d:VR g m S b o) {c:BinOp} {ups:List (Nat × aU)} {bs:List Bool}
  (h:ahK c ti a b=some (v,ups,bs)) (hbs:∀ x ∈ bs,x=true) (x y:Operand):
  ups= []/\∃ cv,(do eqGuard c t x y n o;binOp c t n o:Sem Value).run P w= .ok cv w/\VR g m S v cv:=by
 unfold ahK at h;split at h
 .rename_i k p u q;simp only [VR,PR] at e d;subst e;subst d;have s:(eqGuard c t x y (.int k p) (.int u q)).run P w= .ok () w:=lM c t x y _ _ (by simp) (by simp);rw [Sem.run_bind,s,Result.andThen_ok];split at h
  .obtain ⟨rfl,rfl,rfl⟩:=aS h;have h0:=of_decide_eq_true (hbs _ (List.mem_singleton.2 rfl));exact ⟨rfl,_,by simp [binOp,Op.shift,show ¬ q<0 by omega];rfl,by simp only [VR,PR]⟩
  .obtain ⟨rfl,rfl,rfl⟩:=aS h;have h0:=of_decide_eq_true (hbs _ (List.mem_singleton.2 rfl));exact ⟨rfl,_,by simp [binOp,Op.shift,show ¬ q<0 by omega];rfl,by simp only [VR,PR]⟩
  .split at h
   .cases h
   .rename_i l;have l:=gy l;subst l;split at h
    all_goals try (cases h;done)
    all_goals obtain ⟨rfl,rfl,rfl⟩:=aS h
    case h_4=>
     have h0:(q==0)=false:=by simpa using hbs _ (List.mem_singleton.2 rfl)
     have h0:¬ q=0:=by simpa using h0
     exact ⟨rfl,_,by simp [binOp,Op.intDiv,h0];rfl,by simp only [VR,PR]⟩
    case h_5=>
     have h0:(q==0)=false:=by simpa using hbs _ (List.mem_singleton.2 rfl)
     have h0:¬ q=0:=by simpa using h0
     exact ⟨rfl,_,by simp [binOp,Op.intDiv,h0];rfl,by simp only [VR,PR]⟩
    all_goals exact ⟨rfl,_,by simp only [binOp,Op.intArith,Op.intBits,Op.intCmp,ne_eq,not_true_eq_false,if_false];rfl,by simp only [VR,PR];first|done|rfl⟩
 .rename_i p q;simp only [VR,PR] at e d;subst e;subst d;have s:(eqGuard c t x y (.string ⟨p.toArray⟩) (.string ⟨q.toArray⟩)).run P w= .ok () w:=lM c t x y _ _ (by simp) (by simp);rw [Sem.run_bind,s,Result.andThen_ok];split at h
  all_goals try (cases h;done)
  all_goals obtain ⟨rfl,rfl,rfl⟩:=aS h
  case h_1=>
   have h0:=gG (hbs _ (List.mem_singleton.2 rfl));have z:¬ (IntKind.i64.max<((p.length+q.length:Nat):Int)):=by
    have:IntKind.i64.max=9223372036854775807:=by decide
    omega
   refine ⟨rfl,.string ⟨(p++q).toArray⟩, ?_,by simp only [VR,PR]⟩;simp only [binOp,Op.stringOp,CV,gt_iff_lt,z,if_false,Rq,Sem.run_pure]
  all_goals
   refine ⟨rfl,_,rfl, ?_⟩;simp only [VR,PR,AX,Bl]
 .split at h
  .obtain ⟨r,j,h⟩:=bind_some h;obtain ⟨rfl,rfl,rfl⟩:=aS h;exact ⟨rfl,_,KI f i e d j hbs x y _ (.inl rfl),by simp only [VR,PR];rfl⟩
  .obtain ⟨r,j,h⟩:=bind_some h;obtain ⟨rfl,rfl,rfl⟩:=aS h;exact ⟨rfl,_,KI f i e d j hbs x y _ (.inr rfl),by simp only [VR,PR];rfl⟩
  .cases h
theorem Yr {x v:AV} {c:Value} (a:VR g m S x c) {b:UnOp} {ups:List (Nat × aU)} {bs:List Bool} (h:unA b x=some (v,ups,bs)):
  ups= []/\∃ cv,(Op.unary b c).run P w= .ok cv w/\VR g m S v cv:=by
 unfold unA at h;split at h
 .obtain ⟨rfl,rfl,rfl⟩:=aS h;simp only [VR,PR] at a;subst a;exact ⟨rfl,_,rfl,by simp only [VR,PR]⟩
 .obtain ⟨rfl,rfl,rfl⟩:=aS h;simp only [VR,PR] at a;subst a;exact ⟨rfl,_,rfl,by simp only [VR,PR]⟩
 .cases h
theorem xM {f:AV->AV->Option AV} {F:Value->Value->Sem Value} (d:∀ a b c ca cb,VR g m S a ca->VR g m S b cb->f a b=some c->∃ cc,(F ca cb).run P w= .ok cc w/\VR g m S c cc):
  ∀ (l:List AV) (cl:List Value) (x v:AV) (cx:Value),bu g m S l cl->VR g m S x cx->Pq f x l=some v->∃ cv,(cl.foldlM F cx).run P w= .ok cv w/\VR g m S v cv
 | [],[],x,v,cx,_,hx,h=>by simp [Pq] at h;subst h;exact ⟨cx,by simp,hx⟩
 | y::r,cy::cr,x,v,cx,hl,hx,h=>by
  simp only [bu] at hl;simp only [Pq] at h;split at h
  .rename_i z k;obtain ⟨n,j,o⟩:=d _ _ _ _ _ hx hl.1 k;obtain ⟨cv,i,e⟩:=xM d r cr z v n hl.2 o h;exact ⟨cv,by simp [List.foldlM_cons,j,i],e⟩
  .cases h
 | [],_::_,_,_,_,hl,_,_=>by simp [bu] at hl
 |_::_,[],_,_,_,hl,_,_=>by simp [bu] at hl
theorem Tm {a b c:AV} {d i:Value} (f:VR g m S a d) (e:VR g m S b i) (h:min2 a b=some c):∃ cc,(Builtin.min2 d i).run P w= .ok cc w/\VR g m S c cc:=by
 unfold min2 at h;split at h
 .split at h
  .cases h;simp only [VR,PR] at f e;subst f;subst e;exact ⟨_,rfl,by simp only [VR,PR]⟩
  .cases h
 .cases h
theorem Tf {a b c:AV} {d i:Value} (f:VR g m S a d) (e:VR g m S b i) (h:max2 a b=some c):∃ cc,(Builtin.max2 d i).run P w= .ok cc w/\VR g m S c cc:=by
 unfold max2 at h;split at h
 .split at h
  .cases h;simp only [VR,PR] at f e;subst f;subst e;exact ⟨_,rfl,by simp only [VR,PR]⟩
  .cases h
 .cases h
theorem XB {l:List AV} {cl:List Value} (a:bu g m S l cl) {v:AV} (h:DF min2 l=some v) (b:Array TypeId) (ty:Nat):∃ cv,(Builtin.min_ b ty cl.toArray).run P w= .ok cv w/\VR g m S v cv:=by
 cases l with
 |nil=>simp [DF] at h
 | cons x r=>cases cl with
  |nil=>simp [bu] at a
  |cons cx cr=>
   simp only [bu] at a;obtain ⟨cv,c,d⟩:=xM (P:=P) (w:=w) (F:=Builtin.min2) (λ_ _ _ _ _=>Tm) r cr x v cx a.2 a.1 h;exact ⟨cv,by simpa [Builtin.min_] using c,d⟩
theorem Xy {l:List AV} {cl:List Value} (a:bu g m S l cl) {v:AV} (h:DF max2 l=some v) (b:Array TypeId) (ty:Nat):∃ cv,(Builtin.max_ b ty cl.toArray).run P w= .ok cv w/\VR g m S v cv:=by
 cases l with
 |nil=>simp [DF] at h
 | cons x r=>cases cl with
  |nil=>simp [bu] at a
  |cons cx cr=>
   simp only [bu] at a;obtain ⟨cv,c,d⟩:=xM (P:=P) (w:=w) (F:=Builtin.max2) (λ_ _ _ _ _=>Tf) r cr x v cx a.2 a.1 h;exact ⟨cv,by simpa [Builtin.max_] using c,d⟩
end
end AM
