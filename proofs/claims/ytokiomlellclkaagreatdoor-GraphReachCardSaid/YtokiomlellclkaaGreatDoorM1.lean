/- The abstract machine over the code of the model, and the proof that it is sound. No conditions. -/
import Derived.WalkKit
import Derived.Deep.AppendSrc
import Derived.Deep.MidRow
import Derived.WalkLawsBesides
set_option linter.unusedSimpArgs false
set_option linter.unusedVariables false
open Nat renaming beq→Δ,blt→Xq5,ble→Xqc,le_refl→ε,le_trans→Xqh,add_zero→Xqt,add_assoc→Xxy,add_mul→Xjh,zero_add→Φ
open List renaming replicate→Xqx,range→Xqf,cons_append→Xqw,take_succ_cons→Xxq,map_cons→χ,getD_eq_getElem?_getD→π,headD_eq_head?_getD→Xwe,head?_drop→Xke,tail_drop→Xkj,getElem?_map→Ψ,getElem?_take→Xxn,getElem?_drop→Xx0,getElem?_eq_getElem→ζ,drop_eq_nil_of_le→Xxf,length_cons→Θ,length_nil→Xqj
open UInt8 renaming ofNat→φ
open BitVec renaming ofInt→Xzr
open Bool renaming and_eq_true→η,not_eq_true'→Xqk
open Option renaming map_eq_some_iff→Xqb
namespace AM
open Go
inductive AV where
 |int (k:IntKind) (n:Int)
 |bool (b:Bool)
 |str (s:List UInt8)
 |agg (l:List AV)
 |tup (l:List AV)
 |nilS
 |sl (xs:List AV) (n:Nat) (nn:Bool)
 |ref (b ver i n:Nat)
 |own (xs:List AV) (n esz:Nat)
 |ptr (b ver off:Nat)
 |pp (xs:List AV) (off:Nat)
 |mr (b ver:Nat)
 |mp (ks vs:List AV)
 |nilP
 |fn (f:Nat) (first cap:List AV)
 |nilF
 |ifc (t:Nat) (v:AV)
 |nilI
 |raw (v:Value)
 |dead
inductive LK where
 |int (k:IntKind)
 |bool
 |str
 |sl
 |oth
inductive TD where
 |struct (fs:List (Nat × Nat × Nat))
 |array (n elem:Nat)
 |slice (elem:Nat)
 |int (k:IntKind)
 |str
 |bool
 |iface
 |ptr
 |func
 |map (k e:Nat)
 |oth
structure TI where
 d:TD
 size:Nat
 bytes:Nat
 zero:List AV
 lks:List LK
 cmp:Bool
structure AF where
 fn:Func
 keep:List Nat
 shared:Bool
inductive Tr (α:Type) where
 |nil
 |node (v:Option α) (l r:Tr α)
def Tr.get {α:Type}:Tr α→Nat→Option α
 | .nil,_=>none
 | .node v l r,n=>match Δ n 0 with
  |true=>v
  |false=>match Δ (n % 2) 1 with
   |true=>l.get ((n - 1) / 2)
   |false=>r.get ((n - 1) / 2)
structure AP where
 nty:Nat
 ty:Tr TI
 nfn:Nat
 fn:Tr AF
 gl:List (Option (List AV))
 mt:List (Nat × String × Nat):= []
def AP.mtAt (ap:AP) (t:Nat) (n:String):Option Nat:=(ap.mt.find? fun q=>Δ q.1 t && q.2.1==n).map fun q=>q.2.2
def mtB (P:Program) (q:Nat × String × Nat):Bool:=match P.info? q.1 with
 | some i=>match i.methods.find? (fun m=>m.name==q.2.1) with
  |some m=>m.path.isEmpty && (match m.func,P.underlying q.1 with
   |some (f,true),some (.pointer _)=>Δ f q.2.2
   |some (f,false),some (.pointer _)=>false
   |some (f,false),some _=>Δ f q.2.2
   |_,_=>false)
  |none=>false
 |none=>false
def dP:Nat:=4611686018427387904
def Xk:List AV→Option AV
 | [.agg ks,.agg vs]=>some (.mp ks vs)
 |_=>none
structure aK where
 cells:List AV
 ver:Nat
 fro:Bool
 fz:Nat
 esz:Nat
 pr:Bool
abbrev dE:=List (Nat × AV)
abbrev Hp:=List (Nat × aK)
def ag {α:Type}:List (Nat × α)→Nat→Option α
 | [],_=>none
 |(u,x)::r,t=>match Δ u t with|true=>some x|false=>ag r t
def f_ {α β:Type} (f:α→Option β):List α→Option (List β)
 | []=>some []
 |x::r=>match f x with
  |some y=>match f_ f r with|some l=>some (y::l)|none=>none
  |none=>none
def dE.get (e:dE) (t:Nat):AV:=(ag e t).getD .dead
def AV.cells:AV→List AV
 | .agg l=>l
 |x=> [x]
def AV.toInt:AV→Int| .int _ n=>n|_=>0
def AV.toBool:AV→Bool| .bool b=>b|_=>false
def AV.toStr:AV→List UInt8| .str s=>s|_=> []
def AV.slX:AV→List AV| .sl xs _ _=>xs|_=> []
def AV.slN:AV→Nat| .sl _ n _=>n|_=>0
def TB:IntKind→Nat
 | .i8=>0| .i16=>1| .i32=>2| .i64=>3| .u8=>4| .u16=>5| .u32=>6| .u64=>7
def gU (a b:IntKind):Bool:=Δ (TB a) (TB b)
def chk:LK→AV→Bool
 | .int k,.int k' _=>gU k k'
 | .bool,.bool _=>true
 | .str,.str _=>true
 | .sl,.sl _ _ _=>true
 | .sl,.nilS=>true
 | .oth,.dead=>false
 | .oth,.agg _=>false
 | .oth,.tup _=>false
 | .oth,.own _ _ _=>false
 | .oth,.raw _=>false
 | .oth,_=>true
 |_,_=>false
def eta:LK→AV→AV
 | .int k,c=> .int k c.toInt
 | .bool,c=> .bool c.toBool
 | .str,c=> .str c.toStr
 | .sl,c=> .sl c.slX c.slN false
 | .oth,c=>c
def lu:AV→Bool
 | .dead| .agg _| .tup _| .own _ _ _=>false
 | .raw _=>false
 |_=>true
mutual
def cZ:AV→List Nat
 | .ref b _ _ _=> [b]
 | .ptr b _ _=> [b]
 | .mr b _=> [b]
 | .agg l=>bG l
 | .tup l=>bG l
 | .fn _ f c=>bG f++bG c
 | .ifc _ v=>cZ v
 |_=> []
def bG:List AV→List Nat
 | []=> []
 |x::r=>cZ x++bG r
end
mutual
def ren (ρ:Nat→Nat→Option (Nat × Nat)):AV→AV
 | .ref b v i n=>match ρ b v with|some (b',v')=> .ref b' v' i n|none=> .dead
 | .ptr b v o=>match ρ b v with|some (b',v')=> .ptr b' v' o|none=> .dead
 | .mr b v=>match ρ b v with|some (b',v')=> .mr b' v'|none=> .dead
 | .agg l=> .agg (jO ρ l)
 | .tup l=> .tup (jO ρ l)
 | .fn f a c=> .fn f (jO ρ a) (jO ρ c)
 | .ifc t v=> .ifc t (ren ρ v)
 |x=>x
def jO (ρ:Nat→Nat→Option (Nat × Nat)):List AV→List AV
 | []=> []
 |x::r=>ren ρ x::jO ρ r
end
def Hg:Value→AV
 | .int k n=> .int k n
 | .bool b=> .bool b
 | .string s=> .str s.data.toList
 | .pointer a=>match a with|none=> .nilP|some _=> .dead
 | .slice a n c=>match a,n,c with|none,0,0=> .nilS|_,_,_=> .dead
 | .nilFunc=> .nilF
 | .nilIface=> .nilI
 | .map a=>match a with|none=> .mp [] []|some _=> .dead
 |_=> .dead
def Dh:Value→AV
 | .agg cs=> .agg (cs.toList.map Hg)
 | .tuple vs=>match vs.toList with| []=> .tup []|_=> .dead
 |v=>Hg v
def AP.tyAt (ap:AP) (t:Nat):Option TI:=match Xq5 t ap.nty with|true=>ap.ty.get t|false=>none
def AP.fnAt (ap:AP) (f:Nat):Option AF:=match Xq5 f ap.nfn with|true=>ap.fn.get f|false=>none
def lw (l:List Nat) (a:Nat):Bool:=l.any (Δ a)
def fO (l:List Nat):List Nat:=l.foldl (fun acc b=>if lw acc b then acc else acc++ [b]) []
abbrev EM:=Option (AV × List (Nat × aK) × List Bool)
def bg (v:AV) (bs:List Bool:= []):EM:=some (v,[],bs)
def JJ (ty:Bool):List LK→List AV→List AV
 | [],_=> []
 |k::ks,ys=>(match ty with|true=>eta k (ys.headD .dead)|false=>ys.headD .dead)::JJ ty ks ys.tail
def Ry (ty:Bool):List LK→List AV→List Bool
 | [],_=> []
 |k::ks,ys=>(match ty with|true=>chk k (ys.headD .dead)|false=>chk .oth (ys.headD .dead))::Ry ty ks ys.tail
def kM (ty:Bool) (ks:List LK) (xs:List AV) (off:Nat):List AV:=JJ ty ks (xs.drop off)
def Gv (ty:Bool) (ks:List LK) (xs:List AV) (off:Nat):List Bool:=Ry ty ks (xs.drop off)
def GX:TD→Bool
 | .struct _=>true
 | .array _ _=>true
 |_=>false
def oP (ti:TI) (cs:List AV):Option AV:=
 match GX ti.d with
 |true=>some (.agg cs)
 |false=>match cs with| [c]=>some c|_=>none
def Jp (ti:TI) (rd:Nat→Option aK) (p:AV):EM:=
 match p with
 | .pp xs off=>(oP ti (kM true ti.lks xs off)).bind fun v=>bg v (Gv true ti.lks xs off)
 | .ptr b ver off=>(rd b).bind fun B=>match Δ B.ver ver && !(Δ B.esz dP) with
  |true=>(oP ti (kM (Xq5 0 B.esz && B.pr) ti.lks B.cells off)).bind fun v=>bg v (Gv (Xq5 0 B.esz && B.pr) ti.lks B.cells off)
  |false=>none
 |_=>none
def eu (xs:List AV) (off:Nat) (vs:List AV):List AV:=xs.take off++vs++xs.drop (off+vs.length)
def MR (ti:TI) (rd:Nat→Option aK) (p v:AV):EM:=
 match p with
 | .ptr b ver off=>(rd b).bind fun B=>
  let vs:=v.cells
  let rs:=bG vs
  match Δ B.ver ver && !B.fro && Δ vs.length ti.size && vs.all lu && !(Δ B.esz dP) with
  |true=>some (.dead,[(b,{B with cells:=eu B.cells off vs,pr:=B.pr && rs.isEmpty})],[Xqc (off+vs.length) B.cells.length])
  |false=>none
 |_=>none
def jY (nid:Nat) (cells:List AV) (esz:Nat):Nat × aK:=(nid,{cells,ver:=0,fro:=false,fz:=0,esz,pr:=(bG cells).isEmpty})
def uO (cells:List AV):List (Nat × Nat × AV)→Option (List AV)
 | []=>some cells
 |(off,size,v)::r=>match Δ v.cells.length size && Xqc (off+size) cells.length && v.cells.all lu with
  |true=>uO (eu cells off v.cells) r
  |false=>none
def KU (ap:AP) (ti:TI) (parts:List (Nat × AV)):EM:=
 match ti.d with
 | .struct fs=>(f_ (fun (q:Nat × AV)=>(fs[q.1]?).map fun (x:Nat × Nat × Nat)=>(x.1,x.2.2,q.2)) parts).bind fun ps=>(uO ti.zero ps).bind fun cs=>bg (.agg cs)
 | .array _ e=>(ap.tyAt e).bind fun te=>(uO ti.zero (parts.map fun (i,v)=>(i*te.size,te.size,v))).bind fun cs=>bg (.agg cs)
 |_=>none
def gu (n:Nat) (z:List AV):List AV:=(Xqx n z).flatten
def qZ (ap:AP) (nid:Nat) (ti:TI) (len:Nat) (parts:List (Nat × AV)):EM:=
 match ti.d with
 | .slice e=>(ap.tyAt e).bind fun te=>
  match Xq5 0 te.size && Xqc (len*te.size) (2^24) && Δ te.zero.length te.size with
  |true=>(uO (gu len te.zero) (parts.map fun (i,v)=>(i*te.size,te.size,v))).bind fun cs=>
   some (.ref nid 0 0 len,[jY nid cs te.size],[])
  |false=>none
 |_=>none
def Ue (p:AV) (o:Nat):Option AV:=
 match p with
 | .ptr b v off=>some (.ptr b v (off+o))
 | .pp xs off=>some (.pp xs (off+o))
 |_=>none
def NZ (v:AV):Option Int:=match v with| .int _ n=>some n|_=>none
def vJ (ap:AP) (ti:TI) (rd:Nat→Option aK) (x i:AV):EM:=
 (NZ i).bind fun i=>
 match ti.d with
 | .slice e=>(ap.tyAt e).bind fun te=>
  match x with
  | .sl xs n _=>bg (.pp xs (i.toNat*te.size)) [decide (0≤i),decide (i<n)]
  | .ref b ver j n=>(rd b).bind fun B=>match Δ B.ver ver && Δ B.esz te.size with
   |true=>bg (.ptr b ver ((j+i.toNat)*te.size)) [decide (0≤i),decide (i<n)]
   |false=>none
  |_=>none
 | .array n e=>(ap.tyAt e).bind fun te=>(Ue x (i.toNat*te.size)).bind fun p=>bg p [decide (0≤i),decide (i<n)]
 |_=>none
def LD (ap:AP) (ti:TI) (x i:AV):EM:=
 (NZ i).bind fun i=>
 match ti.d,x with
 | .str,.str s=>bg (.int .u8 (s.getD i.toNat 0).toNat) [decide (0≤i),decide (i<s.length)]
 | .array n e,.agg cs=>(ap.tyAt e).bind fun te=>
  (oP te (kM true te.lks cs (i.toNat*te.size))).bind fun v=>bg v (decide (0≤i)::decide (i<n)::Gv true te.lks cs (i.toNat*te.size))
 |_,_=>none
def lZ (v:Option AV) (d:Int):Option Int:=match v with|none=>some d|some (.int _ n)=>some n|some _=>none
def MP (ap:AP) (ti:TI) (rd:Nat→Option aK) (x:AV) (lo hi mx:Option AV):EM:=
 match ti.d,x,mx with
 | .str,.str s,none=>(lZ lo 0).bind fun l=>(lZ hi s.length).bind fun h=>
   bg (.str ((s.take h.toNat).drop l.toNat)) [decide (0≤l),decide (l≤h),decide (h≤s.length)]
 | .slice e,.sl xs n nn,none=>(ap.tyAt e).bind fun te=>(lZ lo 0).bind fun l=>(lZ hi n).bind fun h=>
   bg (.sl ((xs.take (h.toNat*te.size)).drop (l.toNat*te.size)) (h.toNat - l.toNat) nn) [decide (0≤l),decide (l≤h),decide (h≤n)]
 | .slice e,.ref b ver j n,none=>(ap.tyAt e).bind fun te=>(rd b).bind fun B=>(lZ lo 0).bind fun l=>(lZ hi n).bind fun h=>
   match Δ B.ver ver && Δ B.esz te.size with
   |true=>bg (.ref b ver (j+l.toNat) (h.toNat - l.toNat)) [decide (0≤l),decide (l≤h),decide (h≤n)]
   |false=>none
 | .slice e,.nilS,none=>(ap.tyAt e).bind fun _=>(lZ lo 0).bind fun l=>(lZ hi 0).bind fun h=>bg .nilS [decide (l=0),decide (h=0)]
 |_,_,_=>none
def abu (d:TD) (x:AV):EM:=
 match d,x with
 | .array n _,_=>bg (.int .i64 n)
 | .str,.str s=>bg (.int .i64 s.length)
 | .slice _,.sl _ n _=>bg (.int .i64 n)
 | .slice _,.ref _ _ _ n=>bg (.int .i64 n)
 | .slice _,.nilS=>bg (.int .i64 0)
 |_,_=>none
def Kr (size:Nat) (rd:Nat→Option aK) (x:AV):Option (List AV × Nat × Bool):=
 match x with
 | .sl xs n _=>some (xs,n,true)
 | .nilS=>some ([],0,true)
 | .str s=>some (s.map fun b=> .int .u8 b.toNat,s.length,true)
 | .ref b ver j n=>(rd b).bind fun B=>match Δ B.ver ver && Δ B.esz size && !(Δ B.esz dP) with
  |true=>some ((B.cells.drop (j*size)).take (n*size),n,B.pr)
  |false=>none
 |_=>none
def JP:Nat:=2^40
def FN (b:Nat):Nat:=match Xqc b 128 with|true=>JP|false=>549755813888
def wC (nid:Nat) (te:TI) (rd:Nat→Option aK) (em:Bool) (s x:AV):EM:=
 (Kr te.size rd x).bind fun (xs,n,pr)=>
 match Xq5 0 te.size && Xqc te.bytes 256 with
 |false=>none
 |true=>
 match s with
 | .nilS=>match em with
  |true=>bg .nilS [Δ xs.length (n*te.size)]
  |false=>some (.ref nid 0 0 n,[(nid,⟨xs,0,false,0,te.size,pr⟩)],[Δ xs.length (n*te.size),Xqc n (FN te.bytes)])
 | .ref b ver 0 m=>(rd b).bind fun B=>match Δ B.ver ver && Δ B.esz te.size && !(Δ B.esz dP) with
  | true=>some (.ref b (ver+1) 0 (m+n),[(b,{B with cells:=B.cells.take (m*te.size)++xs,ver:=ver+1,pr:=B.pr && pr})],
    [Δ xs.length (n*te.size),Xqc (m+n) (FN te.bytes),Xqc (m*te.size) B.cells.length, !B.fro||Xqc B.fz (m*te.size)])
  |false=>none
 |_=>none
def vF:AV→Option Nat
 | .sl _ n _=>some n
 | .nilS=>some 0
 | .str s=>some s.length
 | .ref _ _ _ n=>some n
 |_=>none
def wM (ρ:Operand→AV) (o:Op):Option Nat:=
 match o with
 | .call {callee:= .builtin .append,args,..}=>match args.toList with
  | [s,x]=>match ρ s with
   | .nilS=>vF (ρ x)
   |_=>none
  |_=>none
 |_=>none
def Uj:AV→Bool
 | .nilS=>false
 |_=>true
def vM (ap:AP) (nid:Nat) (ti:TI) (l c:AV):EM:=
 match ti.d,l,c with
 | .slice e,.int _ l,.int _ c=>(ap.tyAt e).bind fun te=>
  match Xq5 0 te.size && Δ te.zero.length te.size && Xqc te.bytes 128 && (bG te.zero).isEmpty with
  |true=>some (.ref nid 0 0 l.toNat,[(nid,⟨gu l.toNat te.zero,0,false,0,te.size,te.zero.all Uj⟩)],[decide (0≤l),decide (l=c),decide (l≤2^40)])
  |false=>none
 |_,_,_=>none
def La (te:TI) (rd:Nat→Option aK) (x:AV):EM:=
 match x with
 | .nilS=>bg (.tup [])
 | .ref b ver i n=>(rd b).bind fun B=>match Δ B.ver ver && !B.fro && Δ B.esz te.size && Δ te.zero.length te.size && (bG te.zero).isEmpty with
  |true=>some (.tup [],[(b,{B with cells:=eu B.cells (i*te.size) (gu n te.zero)})],[Xqc (i*te.size+n*te.size) B.cells.length])
  |false=>none
 |_=>none
def BB (ap:AP) (ts td:TI) (rd:Nat→Option aK) (x:AV):EM:=
 match ts.d,td.d,x with
 |_,.int k,.int _ n=>bg (.int k (k.wrap n))
 | .str,.str,.str s=>bg (.str s)
 | .slice e,.str,x=>(ap.tyAt e).bind fun te=>match te.d,x with
  | .int .u8,.str _=>none
  | .int .u8,x=>(Kr 1 rd x).bind fun (xs,n,_)=>bg (.str (xs.map fun c=>φ c.toInt.toNat)) [Δ xs.length n,xs.all (chk (.int .u8))]
  |_,_=>none
 |_,_,_=>none
def Lh:LK→AV→AV→Option Bool
 | .int k,.int k1 a,.int k2 b=>match gU k k1 && gU k k2 with|true=>some (a==b)|false=>none
 | .bool,.bool a,.bool b=>some (a==b)
 | .str,.str a,.str b=>some (a==b)
 |_,_,_=>none
def jE:List LK→List AV→List AV→Option Bool
 | [],[],[]=>some true
 |k::ks,a::as,b::bs=>(Lh k a b).bind fun c=>(jE ks as bs).map fun d=>c && d
 |_,_,_=>none
def eqA (ti:TI) (a b:AV):Option Bool:=
 match ti.d,a,b with
 | .bool,.bool a,.bool b=>some (a==b)
 | .struct _,.agg xs,.agg ys=>match ti.cmp with|true=>jE ti.lks xs ys|false=>none
 | .ptr,.nilP,.nilP=>some true
 | .ptr,.nilP,.ptr _ _ _=>some false
 | .ptr,.nilP,.pp _ _=>some false
 | .ptr,.ptr _ _ _,.nilP=>some false
 | .ptr,.pp _ _,.nilP=>some false
 | .iface,.nilI,.ifc _ _=>some false
 | .iface,.ifc _ _,.nilI=>some false
 | .func,.nilF,.nilF=>some true
 | .func,.nilF,.fn _ _ _=>some false
 | .func,.fn _ _ _,.nilF=>some false
 | .slice _,.nilS,.nilS=>some true
 | .slice _,.ref _ _ _ _,.nilS=>some false
 | .slice _,.nilS,.ref _ _ _ _=>some false
 | .slice _,.sl _ _ _,.nilS=>some false
 | .slice _,.nilS,.sl _ _ _=>some false
 |_,_,_=>none
def C_ (a b:AV):List Bool:=
 match a,b with
 | .sl _ n false,.nilS=> [Xq5 0 n]
 | .nilS,.sl _ n false=> [Xq5 0 n]
 |_,_=> []
def fU:List UInt8→List UInt8→Bool
 |_,[]=>false
 | [],_::_=>true
 |a::x,b::y=>decide (a<b)||(a==b && fU x y)
def aaR (op:BinOp) (ti:TI) (x y:AV):EM:=
 match x,y with
 | .int k a,.int k' b=>
  match op with
  | .shl=>bg (.int k (k.wrap (a*2^(min b.toNat k.bits)))) [decide (0≤b)]
  | .shr=>bg (.int k (a.fdiv (2^(min b.toNat k.bits)))) [decide (0≤b)]
  | _=>match gU k k' with
   |false=>none
   |true=>match op with
    | .add=>bg (.int k (k.wrap (a+b)))
    | .sub=>bg (.int k (k.wrap (a - b)))
    | .mul=>bg (.int k (k.wrap (a*b)))
    | .quo=>bg (.int k (k.wrap (a.tdiv b))) [!(b==0)]
    | .rem=>bg (.int k (a.tmod b)) [!(b==0)]
    | .and=>bg (.int k (k.wrap (Xzr k.bits a &&& Xzr k.bits b).toNat))
    | .or=>bg (.int k (k.wrap (Xzr k.bits a|||Xzr k.bits b).toNat))
    | .xor=>bg (.int k (k.wrap (Xzr k.bits a^^^Xzr k.bits b).toNat))
    | .eql=>bg (.bool (a==b))
    | .neq=>bg (.bool (!(a==b)))
    | .lss=>bg (.bool (decide (a<b)))
    | .leq=>bg (.bool (decide (a≤b)))
    | .gtr=>bg (.bool (decide (b<a)))
    | .geq=>bg (.bool (decide (b≤a)))
    |_=>none
 | .str a,.str b=>
  match op with
  | .add=>bg (.str (a++b)) [Xqc (a.length+b.length) 9223372036854775807]
  | .eql=>bg (.bool (a==b))
  | .neq=>bg (.bool (!(a==b)))
  | .lss=>bg (.bool (fU a b))
  | .leq=>bg (.bool (fU a b||a==b))
  | .gtr=>bg (.bool (!(fU a b||a==b)))
  | .geq=>bg (.bool (!fU a b))
  |_=>none
 |x,y=>
  match op with
  | .eql=>(eqA ti x y).bind fun b=>bg (.bool b) (C_ x y)
  | .neq=>(eqA ti x y).bind fun b=>bg (.bool (!b)) (C_ x y)
  |_=>none
def unA (op:UnOp) (x:AV):EM:=
 match op,x with
 | .not,.bool b=>bg (.bool (!b))
 | .neg,.int k n=>bg (.int k (k.wrap (0 - n)))
 |_,_=>none
def min2 (a b:AV):Option AV:=match a,b with| .int k x,.int k' y=>(match gU k k' with|true=>some (.int k (if y<x then y else x))|false=>none)|_,_=>none
def max2 (a b:AV):Option AV:=match a,b with| .int k x,.int k' y=>(match gU k k' with|true=>some (.int k (if y>x then y else x))|false=>none)|_,_=>none
def IZ (f:AV→AV→Option AV):AV→List AV→Option AV
 |x,[]=>some x
 |x,y::r=>match f x y with|some z=>IZ f z r|none=>none
def xQ (f:AV→AV→Option AV):List AV→Option AV
 | []=>none
 |x::r=>IZ f x r
def Gi (ap:AP) (x:AV) (asserted:Nat) (commaOk:Bool):EM:=
 (ap.tyAt asserted).bind fun ti=>
 match ti.d with
 | .iface=>none
 | _=>match x with
  | .ifc t v=>match Δ t asserted with
   |true=>bg (match commaOk with|true=> .tup [v,.bool true]|false=>v)
   |false=>match commaOk with|true=>(oP ti ti.zero).bind fun z=>bg (.tup [z,.bool false])|false=>none
  | .nilI=>match commaOk with|true=>(oP ti ti.zero).bind fun z=>bg (.tup [z,.bool false])|false=>none
  |_=>none
def Lm (ap:AP) (ti:TI) (x:AV) (f:Nat):EM:=
 match ti.d,x with
 | .struct fs,.agg cs=>(fs[f]?).bind fun (o,t,_)=>(ap.tyAt t).bind fun tf=>
  (oP tf (kM false tf.lks cs o)).bind fun v=>bg v (Gv false tf.lks cs o)
 |_,_=>none
def uJ:AV→List Nat
 | .ref b _ _ _=> [b]
 | .ptr b _ _=> [b]
 | .mr b _=> [b]
 |_=> []
def abA:AV→List Nat
 | .mr b _=> [b]
 |_=> []
def Uz (ρ:Operand→AV):Op→List Nat
 | .load _ a=>uJ (ρ a)
 | .store _ a _=>uJ (ρ a)
 | .indexAddr _ x _=>uJ (ρ x)
 | .slice _ x _ _ _=>uJ (ρ x)
 | .convert _ _ x=>uJ (ρ x)
 | .lookup _ x _ _=>uJ (ρ x)
 | .mapUpdate _ x _ _=>uJ (ρ x)
 | .insert _ x _ _=>uJ (ρ x)
 | .call {callee:= .builtin .append,args,..}=>fO (args.toList.flatMap fun x=>uJ (ρ x))
 | .call {callee:= .builtin .len,args,..}=>args.toList.flatMap fun x=>abA (ρ x)
 | .call {callee:= .builtin .clear,args,..}=>args.toList.flatMap fun x=>uJ (ρ x)
 |_=> []
def Fg:LK→AV→Bool
 | .int k,.int k' _=>gU k k'
 | .bool,.bool _=>true
 | .str,.str _=>true
 |_,_=>false
def kY:List LK→List AV→Bool
 | [],[]=>true
 |k::r,x::l=>Fg k x && kY r l
 |_,_=>false
def g_ (ti:TI) (x:AV):Bool:=match ti.d,x with
 | .int k,.int k' _=>gU k k'
 | .bool,.bool _=>true
 | .str,.str _=>true
 | .struct _,.agg l=>ti.cmp && kY ti.lks l
 |_,_=>false
def BI:AV→AV→Bool
 | .int _ a,.int _ b=>a==b
 | .bool a,.bool b=>a==b
 | .str a,.str b=>a==b
 |_,_=>false
def GL:List AV→List AV→Bool
 | [],[]=>true
 |a::r,b::q=>BI a b && GL r q
 |_,_=>false
def BH:AV→AV→Bool
 | .int _ a,.int _ b=>a==b
 | .bool a,.bool b=>a==b
 | .str a,.str b=>a==b
 | .agg a,.agg b=>GL a b
 |_,_=>false
def iT:List AV→List AV→AV→Option AV
 |k0::ks,v0::vs,k=>match BH k k0 with|true=>some v0|false=>iT ks vs k
 |_,_,_=>none
def yC (ks:List AV) (k:AV):List AV:=match ks.any (BH k) with|true=>ks|false=>ks++ [k]
def nZ:List AV→List AV→AV→AV→List AV
 |k0::ks,v0::vs,k,v=>match BH k k0 with|true=>v::vs|false=>v0::nZ ks vs k v
 |_,_,_,v=> [v]
def Qu (rd:Nat→Option aK) (x:AV):Option (List AV × List AV):=
 match x with
 | .mp ks vs=>some (ks,vs)
 | .mr b ver=>(rd b).bind fun B=>match Δ B.ver ver && Δ B.esz dP with
  |true=>match B.cells with| [.agg ks,.agg vs]=>some (ks,vs)|_=>none
  |false=>none
 |_=>none
def Ob (ok:Bool) (o:Option AV) (z:AV):AV:=match ok with|true=> .tup [o.getD z,.bool o.isSome]|false=>o.getD z
def G6 (ap:AP) (ti:TI) (rd:Nat→Option aK) (x k:AV) (ok:Bool):EM:=
 match ti.d with
 | .map kt et=>(ap.tyAt kt).bind fun tk=>(ap.tyAt et).bind fun te=>(Qu rd x).bind fun q=>(oP te te.zero).bind fun z=>
   bg (Ob ok (iT q.1 q.2 k) z) [g_ tk k,q.1.all (g_ tk)]
 |_=>none
def Aw (ap:AP) (ti:TI) (rd:Nat→Option aK) (x k v:AV):EM:=
 match ti.d,x with
 | .map kt _,.mr b ver=>(ap.tyAt kt).bind fun tk=>(rd b).bind fun B=>match Δ B.ver ver && Δ B.esz dP && !B.fro with
  |true=>match B.cells with
   | [.agg ks,.agg vs]=>some (.dead,[(b,{B with cells:= [.agg (yC ks k),.agg (nZ ks vs k v)],pr:=B.pr && (cZ v).isEmpty})],[g_ tk k,ks.all (g_ tk)])
   |_=>none
  |false=>none
 |_,_=>none
def opA (ap:AP) (nid:Nat) (ρ:Operand→AV) (rd:Nat→Option aK) (dec:Operand→Option Bool) (em:Bool) (o:Op):EM:=
 match o with
 | .move x=>bg (ρ x)
 | .assign x=>bg (ρ x)
 | .pick c a b=>match dec c with
  |some true=>bg (ρ a)
  |some false=>bg (ρ b)
  |none=>match ρ c,ρ a,ρ b with| .bool c,.bool x,.bool y=>bg (.bool (cond c x y))|_,_,_=>none
 | .alloc e=>(ap.tyAt e).bind fun te=>match Xq5 0 te.size && te.zero.all lu with|true=>some (.ptr nid 0 0,[jY nid te.zero 0],[])|false=>none
 | .box e x=>(ap.tyAt e).bind fun te=>let vs:=(ρ x).cells
  match vs.all lu with|true=>some (.ptr nid 0 0,[jY nid vs 0],[])|false=>none
 | .build t parts=>(ap.tyAt t).bind fun ti=>KU ap ti (parts.toList.map fun (i,x)=>(i,ρ x))
 | .buildSlice t len parts=>(ap.tyAt t).bind fun ti=>qZ ap nid ti len (parts.toList.map fun (i,x)=>(i,ρ x))
 | .load t a=>(ap.tyAt t).bind fun ti=>Jp ti rd (ρ a)
 | .store t a x=>(ap.tyAt t).bind fun ti=>MR ti rd (ρ a) (ρ x)
 | .makeMap _ r=>match r with|none=>some (.mr nid 0,[(nid,⟨[.agg [],.agg []],0,false,0,dP,true⟩)],[])|some _=>none
 | .lookup t x k ok=>(ap.tyAt t).bind fun ti=>G6 ap ti rd (ρ x) (ρ k) ok
 | .mapUpdate t x k v=>(ap.tyAt t).bind fun ti=>Aw ap ti rd (ρ x) (ρ k) (ρ v)
 | .insert t x k v=>(ap.tyAt t).bind fun ti=>Aw ap ti rd (ρ x) (ρ k) (ρ v)
 | .nilCheck x=>match ρ x with
  | .ptr b v o=>bg (.ptr b v o)
  | .pp xs o=>bg (.pp xs o)
  | .fn f a c=>bg (.fn f a c)
  | .ifc t v=>bg (.ifc t v)
  |_=>none
 | .binOp op t x y _=>(ap.tyAt t).bind fun ti=>aaR op ti (ρ x) (ρ y)
 | .unOp op _ x=>unA op (ρ x)
 | .convert s d x=>(ap.tyAt s).bind fun ts=>(ap.tyAt d).bind fun td=>BB ap ts td rd (ρ x)
 | .makeInterface t x=>(ap.tyAt t).bind fun ti=>match ti.d with| .iface=>none|_=>bg (.ifc t (ρ x))
 | .makeFunc (.func f) first cap=>bg (.fn f (first.toList.map ρ) (cap.toList.map ρ))
 | .makeSlice t l c=>(ap.tyAt t).bind fun ti=>vM ap nid ti (ρ l) (ρ c)
 | .slice t x lo hi mx=>(ap.tyAt t).bind fun ti=>MP ap ti rd (ρ x) (lo.map ρ) (hi.map ρ) (mx.map ρ)
 | .fieldAddr s x f=>(ap.tyAt s).bind fun ti=>match ti.d with
  | .struct fs=>(fs[f]?).bind fun (o,_,sz)=>match Xq5 0 sz with|true=>(Ue (ρ x) o).bind fun p=>bg p|false=>none
  |_=>none
 | .field t x f=>(ap.tyAt t).bind fun ti=>Lm ap ti (ρ x) f
 | .indexAddr t x i=>(ap.tyAt t).bind fun ti=>vJ ap ti rd (ρ x) (ρ i)
 | .index t x i=>(ap.tyAt t).bind fun ti=>LD ap ti (ρ x) (ρ i)
 | .typeAssert x _ asserted ok=>Gi ap (ρ x) asserted ok
 | .extract t i=>match ρ t with| .tup l=>(l[i]?).bind fun v=>bg v|_=>none
 | .call {callee:= .builtin b,args,argTypes}=>
  match b with
  | .len=>(args[0]?).bind fun x=>(argTypes[0]?).bind fun t=>(ap.tyAt t).bind fun ti=>match ti.d with
   | .map _ _=>(Qu rd (ρ x)).bind fun q=>bg (.int .i64 q.1.length)
   |d=>abu d (ρ x)
  | .append=>match args.toList,argTypes.toList with
   | [s,x],[t,t1]=>(ap.tyAt t).bind fun ti=>(ap.tyAt t1).bind fun ti1=>match ti.d,ti1.d,ρ x with
    | .slice e,.str,.str y=>(ap.tyAt e).bind fun te=>match Δ te.size 1 with|true=>wC nid te rd em (ρ s) (.str y)|false=>none
    | .slice _,.slice _,.str _=>none
    | .slice e,.slice _,y=>(ap.tyAt e).bind fun te=>wC nid te rd em (ρ s) y
    |_,_,_=>none
   |_,_=>none
  | .clear=>(args[0]?).bind fun x=>(argTypes[0]?).bind fun t=>(ap.tyAt t).bind fun ti=>match ti.d with
   | .slice e=>(ap.tyAt e).bind fun te=>La te rd (ρ x)
   |_=>none
  | .min=>(xQ min2 (args.toList.map ρ)).bind fun v=>bg v
  | .max=>(xQ max2 (args.toList.map ρ)).bind fun v=>bg v
  |_=>none
 |_=>none
def Fp (P:Program):Nat→TypeId→List LK
 |0,_=> [.oth]
 |n+1,t=>match P.underlying t with
  |some (.int k)=> [.int k]
  |some .bool=> [.bool]
  |some .string=> [.str]
  |some (.slice _)=> [.sl]
  |some (.struct fs)=>fs.toList.flatMap fun f=>Fp P n f.type
  |some (.array m e)=>(Xqx m (Fp P n e)).flatten
  |_=> [.oth]
def jg (P:Program):Option TypeDesc→TD
 |some (.int k)=> .int k
 |some .bool=> .bool
 |some .string=> .str
 |some (.slice e)=> .slice e
 |some (.array n e)=> .array n e
 |some (.struct fs)=> .struct (fs.toList.map fun f=>(f.offset,f.type,match P.info? f.type with|some i=>i.size|none=>0))
 |some (.interface _)=> .iface
 |some (.pointer _)=> .ptr
 |some (.func _ _ _)=> .func
 |some (.map k e)=> .map k e
 |_=> .oth
def wK (P:Program) (f:TypeId→Option (List LK)):List Field→Nat→Option (List LK)
 | [],_=>some []
 | x::r,off=>match f x.type with
  |some l=>match !(x.name== "_") && Δ x.offset off && (match P.info? x.type with|some i=>Δ i.size l.length|none=>false) with
   |true=>match wK P f r (off+l.length) with|some l'=>some (l++l')|none=>none
   |false=>none
  |none=>none
def iR (P:Program):Nat→TypeId→Option (List LK)
 |0,_=>none
 |n+1,t=>match P.underlying t with
  |some (.int k)=>some [.int k]
  |some .bool=>some [.bool]
  |some .string=>some [.str]
  |some (.struct fs)=>match P.stoodInHeld t with|true=>none|false=>wK P (iR P n) fs.toList 0
  |_=>none
def acs (i:TypeInfo) (d:TypeDesc):Bool:=match i.zero,d with
 |some (.agg _),.struct _=>true
 |some (.agg _),.array _ _=>true
 |some (.agg _),_=>false
 |some _,.struct _=>false
 |some _,.array _ _=>false
 |some _,_=>true
 |none,_=>false
def Si (P:Program) (d:TypeDesc):Bool:=match d with
 | .struct fs=>fs.toList.all fun f=>(P.info? f.type).isSome
 |_=>true
def Ei (i:TypeInfo):List AV:=match i.zero with|some z=>z.cells.toList.map Dh|none=> []
def abw:LK→LK→Bool
 | .int a,.int b=>gU a b
 | .bool,.bool=>true
 | .str,.str=>true
 |_,_=>false
def Fj:List LK→List LK→Bool
 | [],[]=>true
 |a::r,b::q=>abw a b && Fj r q
 |_,_=>false
def Wn (P:Program) (t:TypeId):Bool:=match iR P 8 t with|some l=>Fj l (Fp P 8 t) && !P.eqGuardType P.depth t|none=>false
def Vz (P:Program) (t:TypeId):Option TI:=
 match P.info? t,P.underlying t with
 |some i,some d=>
  match Δ (Fp P 8 t).length i.size && (acs i d && Si P d) && (Ei i).all lu && Δ (Ei i).length i.size && i.zero.isSome && Xq5 i.size dP with
  |true=>some {d:=jg P (some d),size:=i.size,bytes:=i.bytes,zero:=Ei i,lks:=Fp P 8 t,cmp:=Wn P t}
  |false=>none
 |_,_=>none
abbrev aB:=Nat→Nat→Option Value
def gZ (S S':aB):Prop:=∀ k o v,S k o=some v→S' k o=some v
theorem gZ.refl (S:aB):gZ S S:=fun _ _ _ h=>h
theorem gZ.trans {S S' S'':aB} (h:gZ S S') (a:gZ S' S''):gZ S S'':=fun k o v e=>a k o v (h k o v e)
def iq (S:aB) (b o:Nat) (vs:List Value):Prop:=∀ j u,vs[j]? =some u→S b (o+j)=some u∧u.oneCell'=true
mutual
def PR (S:aB):AV→Value→Prop
 | .int k n,v=>v= .int k n
 | .bool b,v=>v= .bool b
 | .str s,v=>v= .string ⟨s.toArray⟩
 | .agg l,v=> ∃ vs,v= .agg vs.toArray∧bu S l vs
 | .tup l,v=> ∃ vs,v= .tuple vs.toArray∧bu S l vs
 | .nilS,v=>v= .slice none 0 0
 | .sl xs n nn,v=> ∃ a cap,v= .slice a n cap∧n≤cap∧(((a=none→nn=false)∧xs= []∧n=0∧cap=0)∨∃ b o vs,a=some ⟨b,o,none⟩∧bu S xs vs∧iq S b o vs)
 | .pp xs off,v=> ∃ b o vs,v= .pointer (some ⟨b,o+off,none⟩)∧bu S xs vs∧iq S b o vs
 | .mp ks vs,v=>(v= .map none∧ks= []∧vs= [])∨∃ b kk vv,v= .map (some b)∧S b 0=some (.agg kk.toArray)∧S b 1=some (.agg vv.toArray)∧bu S ks kk∧bu S vs vv
 | .nilP,v=>v= .pointer none
 | .raw x,v=>v=x
 | .fn f a c,v=> ∃ va vc,v= .func (.func f) va.toArray vc.toArray∧bu S a va∧bu S c vc
 | .nilF,v=>v= .nilFunc
 | .ifc t x,v=> ∃ u,v= .iface t u∧PR S x u
 | .nilI,v=>v= .nilIface
 | .dead,_=>True
 | .ref _ _ _ _,_=>False
 | .ptr _ _ _,_=>False
 | .mr _ _,_=>False
 | .own _ _ _,_=>False
def bu (S:aB):List AV→List Value→Prop
 | [],[]=>True
 |x::r,v::vs=>PR S x v∧bu S r vs
 |_,_=>False
end
abbrev bP:=Nat→Option aK
abbrev aI:=Nat→Nat × Nat
mutual
def VR (g:bP) (m:aI) (S:aB):AV→Value→Prop
 | .ref b ver i n,v=> ∃ B,g b=some B∧ver≤B.ver∧(∃ k o c',v= .slice (some ⟨k,o,none⟩) n c')∧(B.ver=ver→∃ o,v= .slice (some ⟨(m b).1,o,none⟩) n ((m b).2 - i)∧i+n≤(m b).2∧(i<(m b).2→o=i*B.esz)∧0<B.esz∧B.esz ≠ dP)
 | .ptr b ver off,v=> ∃ B,g b=some B∧ver≤B.ver∧(∃ k o,v= .pointer (some ⟨k,o,none⟩))∧(B.ver=ver→v= .pointer (some ⟨(m b).1,off,none⟩))
 | .mr b ver,v=> ∃ B,g b=some B∧ver≤B.ver∧(∃ k,v= .map (some k))∧(B.ver=ver→v= .map (some (m b).1))
 | .agg l,v=> ∃ vs,v= .agg vs.toArray∧aX g m S l vs
 | .tup l,v=> ∃ vs,v= .tuple vs.toArray∧aX g m S l vs
 | .fn f a c,v=> ∃ va vc,v= .func (.func f) va.toArray vc.toArray∧aX g m S a va∧aX g m S c vc
 | .ifc t x,v=> ∃ u,v= .iface t u∧VR g m S x u
 | .int k n,v=>PR S (.int k n) v
 | .bool b,v=>PR S (.bool b) v
 | .str s,v=>PR S (.str s) v
 | .nilS,v=>PR S .nilS v
 | .sl xs n nn,v=>PR S (.sl xs n nn) v
 | .pp xs off,v=>PR S (.pp xs off) v
 | .mp ks vs,v=>PR S (.mp ks vs) v
 | .nilP,v=>PR S .nilP v
 | .raw x,v=>PR S (.raw x) v
 | .nilF,v=>PR S .nilF v
 | .nilI,v=>PR S .nilI v
 | .dead,_=>True
 | .own _ _ _,_=>False
def aX (g:bP) (m:aI) (S:aB):List AV→List Value→Prop
 | [],[]=>True
 |x::r,v::vs=>VR g m S x v∧aX g m S r vs
 |_,_=>False
end
def bF (x y:AV):Prop:=∀ g m S v,VR g m S x v→VR g m S y v
inductive oh where
 |v (d:Nat) (x:AV)
 |b (d:Nat) (xs:List AV)
 |u (d:Nat)
 |f (d:Nat)
inductive h_ where
 |ret (v:AV)
 |pan (v:AV)
structure Cx where
 cl:Bool
 orc:List Bool
 bs:List Bool
 ps:List Prop
 ans:List (h_ × List aK)
 hs:List oh
inductive R (α:Type) where
 |ok (a:α) (c:Cx)
 |need
 |bad (n:Nat)
def R.bind {α β:Type} (r:R α) (f:α→Cx→R β):R β:=
 match r with
 | .ok a c=>f a c
 | .need=> .need
 | .bad n=> .bad n
def lit (o b:Bool):Bool:=match o with|true=>b|false=> !b
def WA (c:Cx) (bs:List Bool):R Unit:=
 match c.cl with
 |true=>match bs.all id with|true=> .ok () c|false=> .bad 1
 |false=> .ok () {c with bs:=bs++c.bs}
def xK (c:Cx) (b:Bool):R Bool:=
 match c.cl with
 |true=> .ok b c
 |false=>match c.orc with
  | []=> .need
  |o::r=> .ok o {c with orc:=r,bs:=lit o b::c.bs}
def BV (c:Cx) (dst:Option Nat) (v:AV):AV × Cx:=
 match c.hs,dst with
 | .v d x::r,some d'=>match Δ d d' with
  |true=>(x,{c with hs:=r,ps:=bF v x::c.ps})
  |false=>(v,c)
 |_,_=>(v,c)
def BU (c:Cx) (dst:Option Nat) (ups:List (Nat × aK)):List (Nat × aK) × Cx:=
 match c.hs,dst,ups with
 | .b d xs::r,some d',[(b,B)]=>match Δ d d' with
  |true=>([(b,{B with cells:=xs})],{c with hs:=r,ps:=(B.cells=xs)::c.ps})
  |false=>(ups,c)
 |_,_,_=>(ups,c)
def wW (nid:Nat) (c:Cx) (dst:Option Nat) (v:AV) (ups:List (Nat × aK)):AV × List (Nat × aK) × Cx:=
 match c.hs,dst,v,ups with
 | .f d::r,some d',.ref b ver 0 n,[(b',B)]=>match Δ d d' && (Δ b nid && Δ b' nid && Δ ver B.ver && B.pr && !B.fro && Δ B.cells.length (n*B.esz) && !Δ n 0) with
  |true=>(.sl B.cells n true,[(b',{B with fro:=true,fz:=B.cells.length})],{c with hs:=r})
  |false=>(v,ups,c)
 |_,_,_,_=>(v,ups,c)
def NT (c:Cx) (dst:Option Nat):Bool × Cx:=
 match c.hs,dst with
 | .u d::r,some d'=>match Δ d d' with
  |true=>(true,{c with hs:=r})
  |false=>(false,c)
 |_,_=>(false,c)
abbrev bI:=Cx→AV→Nat→List AV→List aK→R (h_ × List aK × AV)
def lM (rd:Nat→Option aK):Nat→List Nat→List Nat
 |0,l=>l
 |n+1,l=>
  let more:=l.flatMap fun b=>match rd b with|some B=>(match B.pr with|true=> []|false=>bG B.cells)|none=> []
  let l':=more.foldl (fun acc b=>if lw acc b then acc else acc++ [b]) l
  match Δ l'.length l.length with|true=>l|false=>lM rd n l'
def frz (rd:Nat→Option aK):Nat→AV→Option AV
 |0,_=>none
 | fuel+1,x=>
  let frzL (l:List AV):Option (List AV):=f_ (frz rd fuel) l
  match x with
  | .ref b ver i n=>(rd b).bind fun B=>match Δ B.ver ver with
   |true=>match B.pr with
    |true=>some (.sl ((B.cells.drop (i*B.esz)).take (n*B.esz)) n true)
    |false=>(frzL ((B.cells.drop (i*B.esz)).take (n*B.esz))).map fun l=> .sl l n true
   |false=>none
  | .ptr b ver off=>(rd b).bind fun B=>match Δ B.ver ver && !(Δ B.esz dP) with
   |true=>match B.pr with
    |true=>some (.pp B.cells off)
    |false=>(frzL B.cells).map fun l=> .pp l off
   |false=>none
  | .mr b ver=>(rd b).bind fun B=>match Δ B.ver ver && Δ B.esz dP with
   |true=>match B.pr with
    |true=>Xk B.cells
    |false=>(frzL B.cells).bind Xk
   |false=>none
  | .agg l=>(frzL l).map .agg
  | .tup l=>(frzL l).map .tup
  | .fn f a c=>(frzL a).bind fun a=>(frzL c).map fun c=> .fn f a c
  | .ifc t v=>(frz rd fuel v).map (.ifc t)
  | .own _ _ _=>none
  |x=>some x
def mO (l:List Nat) (b:Nat):Option Nat:=match l with
 | []=>none
 |c::r=>match Δ c b with|true=>some 0|false=>(mO r b).map (· +1)
def yA (xs:List AV) (esz:Nat):aK:={cells:=xs,ver:=0,fro:=false,fz:=0,esz,pr:=true}
def fC (nid:Nat):List AV→List AV × List aK
 | []=>([],[])
 | .own xs n esz::r=>match fC (nid+1) r with|(l,bs)=>(.ref nid 0 0 n::l,yA xs esz::bs)
 |x::r=>match fC nid r with|(l,bs)=>(x::l,bs)
def jf (nid:Nat):AV→AV × List aK
 | .tup l=>match fC nid l with|(l,bs)=>(.tup l,bs)
 | .own xs n esz=>(.ref nid 0 0 n,[yA xs esz])
 |x=>(x,[])
def Df:Nat→List aK→List (Nat × aK)
 |_,[]=> []
 |n,B::r=>(n,B)::Df (n+1) r
def KG:List Nat→List aK→List (Nat × aK)
 |b::r,B::q=>(b,B)::KG r q
 |_,_=> []
def qc:List Nat→Bool
 | []=>true
 |b::r=> !lw r b && qc r
def zS (ρ:Nat→Nat→Option (Nat × Nat)) (v:Nat) (B:aK):aK:={B with cells:=(match B.pr with|true=>B.cells|false=>jO ρ B.cells),ver:=v+B.ver}
def Nc (nid:Nat) (fp:List Nat) (vers:Nat→Nat) (n:Nat):Nat→Nat→Option (Nat × Nat):=fun p v=>
 match fp[p]? with
 |some b=>some (b,vers b+v)
 |none=>match Xq5 p n with|true=>some (nid+(p - fp.length),v)|false=>none
structure Q8 where
 out:h_
 ups:List (Nat × aK)
 fp:List Nat
 md:AV
def ru (ap:AP) (H:bI) (rd:Nat→Option aK) (nid:Nat) (md:AV) (f:Nat) (args:List AV) (c:Cx):R Q8:=
 let fp:=lM rd 6 (fO (bG args))
 let rd:=fun b=>match lw fp b with|true=>rd b|false=>none
 let shared:=match ap.fnAt f with|some F=>F.shared|none=>false
 match shared with
 | false=>
  match f_ (frz rd 6) args with
  |none=> .bad 10
  |some args'=>
   (H c md f args' []).bind fun (out,h',md) c=>
   match h' with
   |_::_=> .bad 14
   | []=>
   let mark:=fp.filterMap fun b=>(rd b).map fun B=>(b,{B with fro:=true,fz:=B.cells.length})
   match out with
   | .ret v=>match jf nid v with|(v,bs)=>match Xqc bs.length 4 with|true=> .ok {out:= .ret v,ups:=Df nid bs++mark,fp,md} c|false=> .bad 13
   | .pan v=> .ok {out:= .pan v,ups:=mark,fp,md} c
 | true=>
  let vers:=fun b=>match rd b with|some B=>B.ver|none=>0
  let ρ:Nat→Nat→Option (Nat × Nat):=fun b v=>match Δ v (vers b) with|true=>(mO fp b).map fun p=>(p,0)|false=>none
  match f_ rd fp with
  |none=> .bad 11
  | some bl=>
   (H c md f (jO ρ args) (bl.map fun B=> {B with cells:=(match B.pr with|true=>B.cells|false=>jO ρ B.cells),ver:=0})).bind fun (out,h',md) c=>
   match Xqc fp.length h'.length && qc fp with
   |false=> .bad 12
   |true=>
    let ρ':=Nc nid fp vers h'.length
    let ups:=(KG fp h').map fun (b,B)=>(b,zS ρ' (vers b) B)
    let ex:=(h'.drop fp.length).map (zS ρ' 0)
    match out with
    | .ret v=>match jf (nid+(h'.length - fp.length)) (ren ρ' v) with|(v,bs)=>match Xqc ((h'.length - fp.length)+bs.length) 4 with|true=> .ok {out:= .ret v,ups:=Df nid (ex++bs)++ups,fp,md} c|false=> .bad 13
    | .pan v=>match Xqc (h'.length - fp.length) 4 with|true=> .ok {out:= .pan (ren ρ' v),ups:=Df nid (ex++ [])++ups,fp,md} c|false=> .bad 13
inductive aV where
 |normal
 |exit (id:Nat)
 |ret
 |panic (v:AV)
structure St where
 env:dE
 hp:Hp
 md:AV
 dfs:List (Nat × List AV)
structure uZ where
 rt:List Nat
 wt:List Nat
 rb:List Nat
 wb:List Nat
structure RS where
 env:dE
 hp:Hp
 md:AV
 dfs:List (Nat × List AV)
 dec:List (Nat × Bool)
 feet:List uZ
def mF (l:List Operand):List Nat:=l.filterMap fun| .tmp t=>some t|_=>none
def GH (o:Oper):List Nat:=match o.dst with|some d=> [d]|none=> []
def nY (env:dE) (dst:Option Nat) (v:AV):dE:=match dst with|some d=>(d,v)::env|none=>env
def qG (ap:AP) (env:dE):Operand→AV
 | .tmp t=>env.get t
 | .const v=>Dh v
 | .global g=>match (ap.gl[g]?).join with|some xs=> .pp xs 0|none=> .dead
 | .func f=> .fn f [] []
def Ls (ops:List Oper) (env:dE) (dec:List (Nat × Bool)) (o:Oper) (c:Cx):R (Bool × List (Nat × Bool)):=
 match o.guard with
 |none=> .ok (true,dec) c
 | some (j,want)=>
  match (ops[j]?).bind (·.dst) with
  |none=> .bad 20
  | some s=>match ag dec s with
   |some b=> .ok (lit want b,dec) c
   |none=>match env.get s with
    | .bool b=>(xK c b).bind fun b' c=> .ok (lit want b',(s,b')::dec) c
    | .tup []=> .ok (false,dec) c
    |_=> .bad 21
def fF (ops:List Oper) (o:Oper):List Nat:=
 match o.guard with
 |none=> []
 |some (j,_)=>match (ops[j]?).bind (·.dst) with|none=> []|some s=> [s]
def Nz (dec:List (Nat × Bool)) (o:Oper):Bool:=match o.dst with|none=>true|some d=>match ag dec d with|none=>true|some _=>false
def Gq (ap:AP) (H:bI) (nid:Nat) (o:Oper) (s:RS) (rt:List Nat) (dec:List (Nat × Bool)) (f:Nat) (argsA:List AV) (c:Cx):R (RS × Option AV):=
 (ru ap H (ag s.hp) nid .dead f argsA c).bind fun r c=>
 let foot:uZ:={rt,wt:=GH o,rb:=r.fp,wb:=r.ups.map fun (q:Nat × aK)=>q.1}
 match NT c o.dst with
 | (true,c)=>match r.out with
  | .ret v=>match r.ups.all (fun (q:Nat × aK)=>lw r.fp q.1) with
   |true=> .ok ({s with env:=nY s.env o.dst v,dec,feet:={rt,wt:=GH o,rb:=r.fp,wb:= []}::s.feet},none) {c with ps:=(r.ups.map (fun (q:Nat × aK)=>some q.2)=r.ups.map (fun (q:Nat × aK)=>ag s.hp q.1))::c.ps}
   |false=> .bad 36
  | .pan _=> .bad 37
 |(false,c)=>match r.out with
  | .ret v=> .ok ({s with env:=nY s.env o.dst v,hp:=r.ups++s.hp,dec,feet:=foot::s.feet},none) c
  | .pan v=> .ok ({s with hp:=r.ups++s.hp,dec,feet:=foot::s.feet},some v) c
def Ky (ap:AP) (H:bI) (nid:Nat) (ops:List Oper) (o:Oper) (s:RS) (c:Cx):R (RS × Option AV):=
 (Ls ops s.env s.dec o c).bind fun (run,dec) c=>
 let rt:=mF o.op.operands.toList++fF ops o
 match Nz dec o with
 |false=> .bad 35
 |true=>
 match run with
 |false=> .ok ({s with env:=nY s.env o.dst (.tup []),dec,feet:={rt,wt:=GH o,rb:= [],wb:= []}::s.feet},none) c
 | true=>
  let ρ:=qG ap s.env
  let rdAll:=ag s.hp
  match o.op with
  | .call {callee:= .value g,args,..}=>
   match ρ g with
   | .fn f first cap=>Gq ap H nid o s rt dec f (first++args.toList.map ρ++cap) c
   |_=> .bad 30
  | .call {callee:= .invoke g name,args,..}=>
   match ρ g with
   | .ifc t v=>match ap.mtAt t name with
    |some f=>Gq ap H nid o s rt dec f (v::args.toList.map ρ) c
    |none=> .bad 38
   |_=> .bad 39
  | .call {callee:= .builtin .recover,..}=>
   match s.md with
   | .nilI=> .ok ({s with env:=nY s.env o.dst .nilI,dec,feet:={rt,wt:=GH o,rb:= [],wb:= []}::s.feet},none) c
   | .ifc t v=> .ok ({s with env:=nY s.env o.dst (.ifc t v),md:= .nilI,dec,feet:={rt,wt:=GH o,rb:= [],wb:= []}::s.feet},none) c
   |_=> .bad 33
  | .defer {callee:= .value g,args,..}=>
   match ρ g with
   | .fn f first cap=> .ok ({s with env:=nY s.env o.dst .dead,dfs:=(f,first++args.toList.map ρ++cap)::s.dfs,dec,feet:={rt,wt:=GH o,rb:= [],wb:= []}::s.feet},none) c
   |_=> .bad 34
  | .panic x=>
   match ρ x with
   | .ifc t v=> .ok ({s with dec},some (.ifc t v)) c
   |_=> .bad 31
  | op=>
   let fp:=Uz ρ op
   let rd:=fun b=>match lw fp b with|true=>rdAll b|false=>none
   let decs:Operand→Option Bool:=fun| .tmp t=>ag dec t|_=>none
   (match wM ρ op with|some n=>xK c (Δ n 0)|none=> .ok false c).bind fun em c=>
   match opA ap nid ρ rd decs em op with
   |none=> .bad 32
   | some (v,ups,bs)=>(WA c bs).bind fun _ c=>
    match wW nid c o.dst v ups with
    |(v,ups,c)=>match BV c o.dst v with
    |(v,c)=>match BU c o.dst ups with
     |(ups,c)=> .ok ({s with env:=nY s.env o.dst v,hp:=ups++s.hp,dec,feet:={rt,wt:=GH o,rb:=fp,wb:=ups.map fun (q:Nat × aK)=>q.1}::s.feet},none) c
def og (ap:AP) (H:bI) (ops:List Oper):List Oper→Nat→RS→Cx→R (RS × Option AV)
 | [],_,s,c=> .ok (s,none) c
 | o::r,nid,s,c=>(Ky ap H nid ops o s c).bind fun (s,p) c=>
  match p with
  |some v=> .ok (s,some v) c
  |none=>match s.feet with
   |f::_=>match f.wb.all (fun x=>Xq5 x (nid+4)) with|true=>og ap H ops r (nid+4) s c|false=> .bad 43
   | []=> .bad 44
def CU (a b:List Nat):Bool:=a.any (lw b)
def jq (a b:uZ):Bool:=CU a.wt b.rt||CU a.wt b.wt||CU a.rt b.wt||CU a.wb b.rb||CU a.wb b.wb||CU a.rb b.wb
def rW (n:Nat) (bef:List Nat) (feet:List uZ):Bool:=
 let l:=feet.reverse.zipIdx
 l.all fun (a,i)=>l.all fun (b,j)=> !(Xq5 i j)|| !(jq a b||b.wb.any fun x=>Xqc (n+4*i) x && Xq5 x (n+4*i+4))||(bef.getD j 0).testBit i
def rF (keep:List Nat) (env:dE):List Nat:=keep.flatMap fun t=>cZ (env.get t)
def norm (base:Nat) (keep:List Nat) (s:St):St:=
 let env:=s.env
 let hp:=s.hp
 let rd:=ag hp
 let ids:=lM rd 20 (fO (lM rd 20 (Xqf base)++rF keep env++s.dfs.flatMap fun d=>bG d.2))
 let ids:=ids.filter fun b=>(rd b).isSome
 let ρ:Nat→Nat→Option (Nat × Nat):=fun b v=>match rd b with
  |some B=>match Δ B.ver v with
   |true=>(mO ids b).map fun p=>(p,match Xq5 p base with|true=>v|false=>0)
   |false=>none
  |none=>none
 {env:=keep.map fun t=>(t,ren ρ (env.get t))
  hp:=ids.zipIdx.filterMap fun (b,p)=>(rd b).map fun B=>(p,{B with cells:=(match B.pr with|true=>B.cells|false=>jO ρ B.cells),ver:=match Xq5 p base with|true=>B.ver|false=>0})
  md:=s.md
  dfs:=s.dfs.map fun d=>(d.1,jO ρ d.2)}
def fB:Hp→Nat
 | []=>0
 |(b,_)::r=>match Xq5 b (fB r) with|true=>fB r|false=>b+1
def pO (ops:List Oper):Bool:=ops.zipIdx.all fun (o,i)=>o.after.toList.all fun e=> !Region.binds .any e||Xq5 e.on i
def Hw (ap:AP) (H:bI) (base:Nat) (keep:List Nat) (ops:List Oper) (draw:Bool) (s:St) (c:Cx):R (aV × St):=
 (og ap H ops ops (fB s.hp) {env:=s.env,hp:=s.hp,md:=s.md,dfs:=s.dfs,dec:= [],feet:= []} c).bind fun (s',p) c=>
 match p with
 | some v=>match draw with
  |true=> .bad 40
  |false=>match (cZ v).isEmpty with
   |true=> .ok (.panic v,norm base keep ⟨s'.env,s'.hp,s'.md,s'.dfs⟩) c
   |false=> .ok (.panic v,⟨s'.env,s'.hp,s'.md,s'.dfs⟩) c
 |none=>
  match !draw||(rW (fB s.hp) (Region.before ops.toArray).toList s'.feet && pO ops && Δ s'.dfs.length s.dfs.length) with
  |true=> .ok (.normal,norm base keep ⟨s'.env,s'.hp,s'.md,s'.dfs⟩) c
  |false=> .bad 41
def N7 (f:St→Cx→R (aV × St)):Nat→St→Cx→R (aV × St)
 |0,_,_=> .bad 50
 |n+1,s,c=>(f s c).bind fun (e,s) c=>match e with
  | .normal=>N7 f n s c
  |e=> .ok (e,s) c
def jR (ap:AP) (H:bI) (base:Nat) (keep:List Nat) (lf:Nat):Code→St→Cx→R (aV × St)
 | .skip,s,c=> .ok (.normal,s) c
 | .label _,s,c=> .ok (.normal,s) c
 | .region _ ops draw,s,c=>Hw ap H base keep ops.toList draw s c
 | .seq a b,s,c=>(jR ap H base keep lf a s c).bind fun (e,s) c=>match e with
  | .normal=>jR ap H base keep lf b s c
  |e=> .ok (e,s) c
 | .cond t a b,s,c=>match qG ap s.env t with
  | .bool x=>(xK c x).bind fun x c=>match x with
   |true=>jR ap H base keep lf a s c
   |false=>jR ap H base keep lf b s c
  |_=> .bad 60
 | .block id b,s,c=>(jR ap H base keep lf b s c).bind fun (e,s) c=>match e with
  | .exit id'=>match Δ id' id with|true=> .ok (.normal,s) c|false=> .ok (.exit id',s) c
  |e=> .ok (e,s) c
 | .loop b,s,c=>N7 (jR ap H base keep lf b) lf s c
 | .exit id,s,c=> .ok (.exit id,s) c
 | .ret,s,c=> .ok (.ret,s) c
 | .scope b,s,c=>jR ap H base keep lf b s c
 |_,_,_=> .bad 61
def t_ (ap:AP) (env:dE) (hp:Hp):ResultVar→Option (AV × List Bool)
 | .tmp t=>some (env.get t,[])
 | .cell a t=>(ap.tyAt t).bind fun ti=>(Jp ti (ag hp) (env.get a)).map fun (v,_,bs)=>(v,bs)
def eU (l:List Nat) (b:Nat):Nat:=(l.filter (Δ b)).length
def WO (base:Nat) (rd:Nat→Option aK) (v:AV):Option AV:=
 let fp:=lM rd 6 (fO (cZ v))
 match fp.all (fun b=>Xqc base b) with
 |true=>frz (fun b=>match lw fp b with|true=>rd b|false=>none) 6 v
 |false=>none
def nD (base:Nat) (rd:Nat→Option aK) (all:List Nat) (v:AV):Option AV:=
 let frzO (v:AV):Option AV:=match (cZ v).all (fun b=>Xq5 b base) with|true=>some v|false=>WO base rd v
 match v with
 | .ref b ver 0 n=>match rd b with
  |some B=>match Xqc base b && Δ B.ver ver && !B.fro && B.pr && Δ (eU all b) 1 && Xq5 0 B.esz with
   |true=>some (.own (B.cells.take (n*B.esz)) n B.esz)
   |false=>frzO v
  |none=>none
 |v=>frzO v
def ae (f:Func):Code:=f.body.getD .skip
def dO (md:AV) (args:List AV) (h:List aK):St:=
 {env:=args.zipIdx.map fun (x,i)=>(i,x),hp:=h.zipIdx.map fun (B,i)=>(i,B),md,dfs:= []}
def aeg:AV→Bool
 | .nilI=>true
 | .ifc _ _=>true
 |_=>false
def Cm (ap:AP) (H:bI):List (Nat × List AV)→AV→Hp→Cx→R (AV × Hp)
 | [],mode,hp,c=> .ok (mode,hp) c
 |(f,args)::r,mode,hp,c=>
  match aeg mode && (cZ mode).isEmpty with
  |false=> .bad 78
  |true=>
  (ru ap H (ag hp) (fB hp) mode f args c).bind fun q c=>
  match q.out with
  | .ret _=>Cm ap H r q.md (q.ups++hp) c
  | .pan _=> .bad 75
def QQ (rd:Nat→Option aK) (base:Nat):Nat:=(lM rd 20 (Xqf base)).length
def tZ (ap:AP) (base:Nat) (F:Func) (env:dE) (hp:Hp) (c:Cx):R (h_ × List aK):=
 let rd:=ag hp
 let n:=QQ rd base
 match f_ (t_ ap env hp) F.results.toList,f_ rd (Xqf n) with
 |some vs,some h'=>
  match h'.all (fun B=>B.pr||(bG B.cells).all fun b=>Xq5 b n) with
  |false=> .bad 76
  |true=>
  (WA c (vs.flatMap fun (q:AV × List Bool)=>q.2)).bind fun _ c=>
  let all:=vs.flatMap fun (q:AV × List Bool)=>lM rd 6 (fO (cZ q.1))
  match f_ (nD n rd all) (vs.map fun (q:AV × List Bool)=>q.1) with
  |some [v]=> .ok (.ret v,h') c
  |some l=> .ok (.ret (.tup l),h') c
  |none=> .bad 70
 |_,_=> .bad 71
def Hq (base:Nat) (v:AV) (hp:Hp) (c:Cx):R (h_ × List aK):=
 let n:=QQ (ag hp) base
 match nD n (ag hp) (lM (ag hp) 6 (fO (cZ v))) v,f_ (ag hp) (Xqf n) with
 |some v,some h'=>
  match h'.all (fun B=>B.pr||(bG B.cells).all fun b=>Xq5 b n) with
  |false=> .bad 77
  |true=> .ok (.pan v,h') c
 |_,_=> .bad 72
def Ah (ap:AP) (H:bI) (base:Nat) (F:Func) (e:aV) (s:St) (c:Cx):R (h_ × List aK × AV):=
 let go (mode:AV):R (h_ × List aK × AV):=
  (Cm ap H s.dfs mode s.hp c).bind fun (mode,hp) c=>
  match mode with
  | .nilI=>(tZ ap base F s.env hp c).bind fun (o,h) c=> .ok (o,h,s.md) c
  | .ifc t v=>(Hq base (.ifc t v) hp c).bind fun (o,h) c=> .ok (o,h,s.md) c
  |_=> .bad 74
 match e with
 | .normal| .ret=>go .nilI
 | .panic (.ifc t v)=>match (cZ v).isEmpty with|true=>go (.ifc t v)|false=> .bad 79
 |_=> .bad 73
def Rt (ap:AP) (H:bI) (lf:Nat) (md:AV) (F:AF) (args:List AV) (h:List aK) (c:Cx):R (h_ × List aK × AV):=
 match ae F.fn with
 | .seq (.region _ ops false) rest=>
  match ops.toList with
  | o ::r=>
   match o.op,o.guard,o.dst with
   | .call {callee:= .builtin .recover,..},none,some d=>
    let s0:=dO .dead args h
    (og ap H (o::r) r (fB s0.hp) {env:=(d,md)::s0.env,hp:=s0.hp,md:= .dead,dfs:= [],dec:= [],feet:= []} c).bind fun (s,p) c=>
    match p with
    |some _=> .bad 81
    | none=>(jR ap H h.length F.keep lf rest (norm h.length F.keep ⟨s.env,s.hp,s.md,s.dfs⟩) c).bind fun (e,s) c=>
     match s.dfs with
     |_::_=> .bad 82
     | []=>match e with
      | .normal| .ret=>(tZ ap h.length F.fn s.env s.hp c).bind fun (o,h) c=> .ok (o,h,.nilI) c
      |_=> .bad 83
   |_,_,_=> .bad 84
  | []=> .bad 85
 |_=> .bad 86
def lL (ap:AP) (H:bI) (lf:Nat) (md:AV) (f:Nat) (args:List AV) (h:List aK) (c:Cx):R (h_ × List aK × AV):=
 match ap.fnAt f with
 |none=> .bad 80
 |some F=>match md with
  | .dead=>(jR ap H h.length F.keep lf (ae F.fn) (dO .dead args h) c).bind fun (e,s) c=>Ah ap H h.length F.fn e s c
  |md=>match aeg md && (cZ md).isEmpty with|true=>Rt ap H lf md F args h c|false=> .bad 87
theorem jU {S:aB}:∀ {l:List AV} {vs:List Value},bu S l vs→l.length=vs.length
 | [],[],_=>rfl
 |_::_,_::_,h=>by simp only [bu] at h;simp [jU h.2]
 | [],_::_,h=>by simp [bu] at h
 |_::_,[],h=>by simp [bu] at h
theorem aY {g:bP} {m:aI} {S:aB}:∀ {l:List AV} {vs:List Value},aX g m S l vs→l.length=vs.length
 | [],[],_=>rfl
 |_::_,_::_,h=>by simp only [aX] at h;simp [aY h.2]
 | [],_::_,h=>by simp [aX] at h
 |_::_,[],h=>by simp [aX] at h
theorem MZ {S:aB}:∀ {l:List AV} {vs:List Value} (_:bu S l vs) (i:Nat) {x:AV},l[i]? =some x→∃ v,vs[i]? =some v∧PR S x v
 | [],[],_,i,x,hx=>by simp at hx
 |a::l,v::vs,h,0,x,hx=>by simp only [bu] at h;simp at hx;subst hx;exact ⟨v,rfl,h.1⟩
 |a::l,v::vs,h,i+1,x,hx=>by simp only [bu] at h;simp at hx;simpa using MZ h.2 i hx
 | [],_::_,h,_,_,_=>by simp [bu] at h
 |_::_,[],h,_,_,_=>by simp [bu] at h
theorem pq {g:bP} {m:aI} {S:aB}:∀ {l:List AV} {vs:List Value} (_:aX g m S l vs) (i:Nat) {x:AV},l[i]? =some x→∃ v,vs[i]? =some v∧VR g m S x v
 | [],[],_,i,x,hx=>by simp at hx
 |a::l,v::vs,h,0,x,hx=>by simp only [aX] at h;simp at hx;subst hx;exact ⟨v,rfl,h.1⟩
 |a::l,v::vs,h,i+1,x,hx=>by simp only [aX] at h;simp at hx;simpa using pq h.2 i hx
 | [],_::_,h,_,_,_=>by simp [aX] at h
 |_::_,[],h,_,_,_=>by simp [aX] at h
theorem jb {S:aB}:∀ {l l':List AV} {vs vs':List Value},bu S l vs→bu S l' vs'→bu S (l++l') (vs++vs')
 | [],_,[],_,_,h'=>by simpa using h'
 |_::_,_,_::_,_,h,h'=>by simp only [bu] at h;simp only [Xqw,bu];exact ⟨h.1,jb h.2 h'⟩
 | [],_,_::_,_,h,_=>by simp [bu] at h
 |_::_,_,[],_,h,_=>by simp [bu] at h
theorem fM {g:bP} {m:aI} {S:aB}:∀ {l l':List AV} {vs vs':List Value},aX g m S l vs→aX g m S l' vs'→aX g m S (l++l') (vs++vs')
 | [],_,[],_,_,h'=>by simpa using h'
 |_::_,_,_::_,_,h,h'=>by simp only [aX] at h;simp only [Xqw,aX];exact ⟨h.1,fM h.2 h'⟩
 | [],_,_::_,_,h,_=>by simp [aX] at h
 |_::_,_,[],_,h,_=>by simp [aX] at h
theorem jB {S:aB}:∀ (n:Nat) {l:List AV} {vs:List Value},bu S l vs→bu S (l.take n) (vs.take n)
 |0,_,_,_=>by simp [bu]
 |n+1,[],[],_=>by simp [bu]
 |n+1,_::_,_::_,h=>by simp only [bu] at h;simp only [Xxq,bu];exact ⟨h.1,jB n h.2⟩
 |_+1,[],_::_,h=>by simp [bu] at h
 |_+1,_::_,[],h=>by simp [bu] at h
theorem oz {S:aB}:∀ (n:Nat) {l:List AV} {vs:List Value},bu S l vs→bu S (l.drop n) (vs.drop n)
 |0,_,_,h=>by simpa using h
 |n+1,[],[],_=>by simp [bu]
 |n+1,_::_,_::_,h=>by simp only [bu] at h;simpa using oz n h.2
 |_+1,[],_::_,h=>by simp [bu] at h
 |_+1,_::_,[],h=>by simp [bu] at h
theorem oG {g:bP} {m:aI} {S:aB}:∀ (n:Nat) {l:List AV} {vs:List Value},aX g m S l vs→aX g m S (l.take n) (vs.take n)
 |0,_,_,_=>by simp [aX]
 |n+1,[],[],_=>by simp [aX]
 |n+1,_::_,_::_,h=>by simp only [aX] at h;simp only [Xxq,aX];exact ⟨h.1,oG n h.2⟩
 |_+1,[],_::_,h=>by simp [aX] at h
 |_+1,_::_,[],h=>by simp [aX] at h
theorem qW {g:bP} {m:aI} {S:aB}:∀ (n:Nat) {l:List AV} {vs:List Value},aX g m S l vs→aX g m S (l.drop n) (vs.drop n)
 |0,_,_,h=>by simpa using h
 |n+1,[],[],_=>by simp [aX]
 |n+1,_::_,_::_,h=>by simp only [aX] at h;simpa using qW n h.2
 |_+1,[],_::_,h=>by simp [aX] at h
 |_+1,_::_,[],h=>by simp [aX] at h
theorem iq.mono {S S':aB} (h:gZ S S') {b o:Nat} {vs:List Value} (hs:iq S b o vs):iq S' b o vs:=fun j u a=> ⟨h _ _ _ (hs j u a).1,(hs j u a).2⟩
mutual
theorem bK {S S':aB} (h:gZ S S'):∀ (x:AV) {v:Value},PR S x v→PR S' x v
 | .int _ _,_,p=>by simpa only [PR] using p
 | .bool _,_,p=>by simpa only [PR] using p
 | .str _,_,p=>by simpa only [PR] using p
 | .nilS,_,p=>by simpa only [PR] using p
 | .nilP,_,p=>by simpa only [PR] using p
 | .raw _,_,p=>by simpa only [PR] using p
 | .nilF,_,p=>by simpa only [PR] using p
 | .nilI,_,p=>by simpa only [PR] using p
 | .dead,_,_=>by simp only [PR]
 | .agg l,_,p=>by
  simp only [PR] at p ⊢;obtain ⟨vs,e,q⟩:=p;exact ⟨vs,e,a_ h l q⟩
 | .tup l,_,p=>by
  simp only [PR] at p ⊢;obtain ⟨vs,e,q⟩:=p;exact ⟨vs,e,a_ h l q⟩
 | .sl xs n nn,_,p=>by
  simp only [PR] at p ⊢;obtain ⟨a,i,e,d,q⟩:=p;refine ⟨a,i,e,d, ?_⟩;rcases q with q|⟨b,o,vs,s,q,hs⟩
  ·exact .inl q
  ·exact .inr ⟨b,o,vs,s,a_ h xs q,hs.mono h⟩
 | .pp xs off,_,p=>by
  simp only [PR] at p ⊢;obtain ⟨b,o,vs,e,q,hs⟩:=p;exact ⟨b,o,vs,e,a_ h xs q,hs.mono h⟩
 | .mp ks vs,_,p=>by
  simp only [PR] at p ⊢;rcases p with p|⟨b,k,A,e,h0,j,C,B⟩
  ·exact .inl p
  ·exact .inr ⟨b,k,A,e,h _ _ _ h0,h _ _ _ j,a_ h ks C,a_ h vs B⟩
 | .fn f a c,_,p=>by
  simp only [PR] at p ⊢;obtain ⟨z,y,e,q,r⟩:=p;exact ⟨z,y,e,a_ h a q,a_ h c r⟩
 | .ifc t x,_,p=>by
  simp only [PR] at p ⊢;obtain ⟨u,e,q⟩:=p;exact ⟨u,e,bK h x q⟩
 | .ref _ _ _ _,_,p=>by simp only [PR] at p
 | .ptr _ _ _,_,p=>by simp only [PR] at p
 | .mr _ _,_,p=>by simp only [PR] at p
 | .own _ _ _,_,p=>by simp only [PR] at p
theorem a_ {S S':aB} (h:gZ S S'):∀ (l:List AV) {vs:List Value},bu S l vs→bu S' l vs
 | [],[],_=>by simp only [bu]
 |x::r,v::vs,p=>by simp only [bu] at p ⊢;exact ⟨bK h x p.1,a_ h r p.2⟩
 | [],_::_,p=>by simp [bu] at p
 |_::_,[],p=>by simp [bu] at p
end
mutual
theorem d_ {g:bP} {m:aI} {S:aB}:∀ (x:AV) {v:Value},PR S x v→VR g m S x v
 | .int _ _,_,p=>by simpa only [VR] using p
 | .bool _,_,p=>by simpa only [VR] using p
 | .str _,_,p=>by simpa only [VR] using p
 | .nilS,_,p=>by simpa only [VR] using p
 | .nilP,_,p=>by simpa only [VR] using p
 | .raw _,_,p=>by simpa only [VR] using p
 | .nilF,_,p=>by simpa only [VR] using p
 | .nilI,_,p=>by simpa only [VR] using p
 | .sl _ _ _,_,p=>by simpa only [VR] using p
 | .pp _ _,_,p=>by simpa only [VR] using p
 | .mp _ _,_,p=>by simpa only [VR] using p
 | .dead,_,_=>by simp only [VR]
 | .agg l,_,p=>by
  simp only [PR] at p;simp only [VR];obtain ⟨vs,e,q⟩:=p;exact ⟨vs,e,aZ l q⟩
 | .tup l,_,p=>by
  simp only [PR] at p;simp only [VR];obtain ⟨vs,e,q⟩:=p;exact ⟨vs,e,aZ l q⟩
 | .fn f a c,_,p=>by
  simp only [PR] at p;simp only [VR];obtain ⟨d,b,e,q,r⟩:=p;exact ⟨d,b,e,aZ a q,aZ c r⟩
 | .ifc t x,_,p=>by
  simp only [PR] at p;simp only [VR];obtain ⟨u,e,q⟩:=p;exact ⟨u,e,d_ x q⟩
 | .ref _ _ _ _,_,p=>by simp only [PR] at p
 | .ptr _ _ _,_,p=>by simp only [PR] at p
 | .mr _ _,_,p=>by simp only [PR] at p
 | .own _ _ _,_,p=>by simp only [PR] at p
theorem aZ {g:bP} {m:aI} {S:aB}:∀ (l:List AV) {vs:List Value},bu S l vs→aX g m S l vs
 | [],[],_=>by simp only [aX]
 |x::r,v::vs,p=>by simp only [bu] at p;simp only [aX];exact ⟨d_ x p.1,aZ r p.2⟩
 | [],_::_,p=>by simp [bu] at p
 |_::_,[],p=>by simp [bu] at p
end
def mV (g:bP) (m:aI) (g':bP) (m':aI) (ρ:Nat→Nat→Option (Nat × Nat)):Prop:=
 ∀ b ver b' ver',ρ b ver=some (b',ver')→∀ B,g b=some B→ver≤B.ver→
  ∃ B',g' b'=some B'∧ver'≤B'.ver∧(B'.ver=ver'→B.ver=ver∧m' b'=m b∧B'.esz=B.esz)
mutual
theorem qX {g g':bP} {m G:aI} {S S':aB} {ρ:Nat→Nat→Option (Nat × Nat)} (j:gZ S S') (h:mV g m g' G ρ):∀ (x:AV) {v:Value},VR g m S x v→VR g' G S' (ren ρ x) v
 | .int k n,_,p=>by simp only [VR] at p;simp only [ren,VR];exact bK j _ p
 | .bool _,_,p=>by simp only [VR] at p;simp only [ren,VR];exact bK j _ p
 | .str _,_,p=>by simp only [VR] at p;simp only [ren,VR];exact bK j _ p
 | .nilS,_,p=>by simp only [VR] at p;simp only [ren,VR];exact bK j _ p
 | .nilP,_,p=>by simp only [VR] at p;simp only [ren,VR];exact bK j _ p
 | .raw _,_,p=>by simp only [VR] at p;simp only [ren,VR];exact bK j _ p
 | .nilF,_,p=>by simp only [VR] at p;simp only [ren,VR];exact bK j _ p
 | .nilI,_,p=>by simp only [VR] at p;simp only [ren,VR];exact bK j _ p
 | .sl _ _ _,_,p=>by simp only [VR] at p;simp only [ren,VR];exact bK j _ p
 | .pp _ _,_,p=>by simp only [VR] at p;simp only [ren,VR];exact bK j _ p
 | .mp _ _,_,p=>by simp only [VR] at p;simp only [ren,VR];exact bK j _ p
 | .dead,_,_=>by simp only [ren,VR]
 | .own _ _ _,_,p=>by simp only [VR] at p
 | .agg l,_,p=>by
  simp only [VR] at p;simp only [ren,VR];obtain ⟨vs,e,q⟩:=p;exact ⟨vs,e,iI j h l q⟩
 | .tup l,_,p=>by
  simp only [VR] at p;simp only [ren,VR];obtain ⟨vs,e,q⟩:=p;exact ⟨vs,e,iI j h l q⟩
 | .fn f a c,_,p=>by
  simp only [VR] at p;simp only [ren,VR];obtain ⟨J,I,e,q,r⟩:=p;exact ⟨J,I,e,iI j h a q,iI j h c r⟩
 | .ifc t x,_,p=>by
  simp only [VR] at p;simp only [ren,VR];obtain ⟨u,e,q⟩:=p;exact ⟨u,e,qX j h x q⟩
 | .ref b ver i n,_,p=>by
  simp only [VR] at p;simp only [ren];obtain ⟨B,z,A,o,q⟩:=p;cases hρ:ρ b ver with
  |none=>simp only [VR]
  |some bv=>
   obtain ⟨F,d⟩:=bv;obtain ⟨B',s,y,E⟩:=h b ver F d hρ B z A;simp only [VR];refine ⟨B',s,y,o,fun e=> ?_⟩;obtain ⟨C,D,H⟩:=E e;rw [D,H];exact q C
 | .ptr b ver off,_,p=>by
  simp only [VR] at p;simp only [ren];obtain ⟨B,z,A,o,q⟩:=p;cases hρ:ρ b ver with
  |none=>simp only [VR]
  |some bv=>
   obtain ⟨F,d⟩:=bv;obtain ⟨B',s,y,E⟩:=h b ver F d hρ B z A;simp only [VR];refine ⟨B',s,y,o,fun e=> ?_⟩;obtain ⟨C,D,_⟩:=E e;rw [D];exact q C
 | .mr b ver,_,p=>by
  simp only [VR] at p;simp only [ren];obtain ⟨B,z,A,o,q⟩:=p;cases hρ:ρ b ver with
  |none=>simp only [VR]
  |some bv=>
   obtain ⟨F,d⟩:=bv;obtain ⟨B',s,y,E⟩:=h b ver F d hρ B z A;simp only [VR];refine ⟨B',s,y,o,fun e=> ?_⟩;obtain ⟨C,D,_⟩:=E e;rw [D];exact q C
theorem iI {g g':bP} {m b:aI} {S S':aB} {ρ:Nat→Nat→Option (Nat × Nat)} (a:gZ S S') (h:mV g m g' b ρ):∀ (l:List AV) {vs:List Value},aX g m S l vs→aX g' b S' (jO ρ l) vs
 | [],[],_=>by simp only [jO,aX]
 |x::r,v::vs,p=>by simp only [aX] at p;simp only [jO,aX];exact ⟨qX a h x p.1,iI a h r p.2⟩
 | [],_::_,p=>by simp [aX] at p
 |_::_,[],p=>by simp [aX] at p
end
def Ge (g:bP) (m:aI) (g':bP) (m':aI):Prop:=
 ∀ b B,g b=some B→∃ B',g' b=some B'∧B'.esz=B.esz∧((B'.ver=B.ver∧m' b=m b)∨B.ver<B'.ver)
theorem Ge.refl (g:bP) (m:aI):Ge g m g m:=fun _ B h=> ⟨B,h,rfl,.inl ⟨rfl,rfl⟩⟩
theorem Ge.trans {g g' a:bP} {m k f:aI} (h:Ge g m g' k) (n:Ge g' k a f):Ge g m a f:=by
 intro b B l;obtain ⟨B',j,e,c⟩:=h b B l;obtain ⟨B'',i,e',c'⟩:=n b B' j;refine ⟨B'',i,e'.trans e, ?_⟩;rcases c with ⟨q,r⟩|c<;>rcases c' with ⟨p,o⟩|d
 ·exact .inl ⟨p.trans q,o.trans r⟩
 ·exact .inr (by omega)
 ·exact .inr (by omega)
 ·exact .inr (by omega)
mutual
theorem kE {g g':bP} {m D:aI} {S S':aB} (o:gZ S S') (h:Ge g m g' D):∀ (x:AV) {v:Value},VR g m S x v→VR g' D S' x v
 | .int k n,_,p=>by simp only [VR] at p ⊢;exact bK o _ p
 | .bool _,_,p=>by simp only [VR] at p ⊢;exact bK o _ p
 | .str _,_,p=>by simp only [VR] at p ⊢;exact bK o _ p
 | .nilS,_,p=>by simp only [VR] at p ⊢;exact bK o _ p
 | .nilP,_,p=>by simp only [VR] at p ⊢;exact bK o _ p
 | .raw _,_,p=>by simp only [VR] at p ⊢;exact bK o _ p
 | .nilF,_,p=>by simp only [VR] at p ⊢;exact bK o _ p
 | .nilI,_,p=>by simp only [VR] at p ⊢;exact bK o _ p
 | .sl _ _ _,_,p=>by simp only [VR] at p ⊢;exact bK o _ p
 | .pp _ _,_,p=>by simp only [VR] at p ⊢;exact bK o _ p
 | .mp _ _,_,p=>by simp only [VR] at p ⊢;exact bK o _ p
 | .dead,_,_=>by simp only [VR]
 | .own _ _ _,_,p=>by simp only [VR] at p
 | .agg l,_,p=>by
  simp only [VR] at p ⊢;obtain ⟨vs,e,q⟩:=p;exact ⟨vs,e,iQ o h l q⟩
 | .tup l,_,p=>by
  simp only [VR] at p ⊢;obtain ⟨vs,e,q⟩:=p;exact ⟨vs,e,iQ o h l q⟩
 | .fn f a c,_,p=>by
  simp only [VR] at p ⊢;obtain ⟨G,F,e,q,r⟩:=p;exact ⟨G,F,e,iQ o h a q,iQ o h c r⟩
 | .ifc t x,_,p=>by
  simp only [VR] at p ⊢;obtain ⟨u,e,q⟩:=p;exact ⟨u,e,kE o h x q⟩
 | .ref b ver i n,_,p=>by
  simp only [VR] at p ⊢;obtain ⟨B,s,C,d,q⟩:=p;obtain ⟨B',j,A,z⟩:=h b B s;rcases z with ⟨E,y⟩|c
  ·refine ⟨B',j,by omega,d,fun e=> ?_⟩;rw [y,A];exact q (by omega)
  ·exact ⟨B',j,by omega,d,fun e=>by omega⟩
 | .ptr b ver off,_,p=>by
  simp only [VR] at p ⊢;obtain ⟨B,s,C,d,q⟩:=p;obtain ⟨B',j,A,z⟩:=h b B s;rcases z with ⟨E,y⟩|c
  ·refine ⟨B',j,by omega,d,fun e=> ?_⟩;rw [y];exact q (by omega)
  ·exact ⟨B',j,by omega,d,fun e=>by omega⟩
 | .mr b ver,_,p=>by
  simp only [VR] at p ⊢;obtain ⟨B,s,C,d,q⟩:=p;obtain ⟨B',j,A,z⟩:=h b B s;rcases z with ⟨E,y⟩|c
  ·refine ⟨B',j,by omega,d,fun e=> ?_⟩;rw [y];exact q (by omega)
  ·exact ⟨B',j,by omega,d,fun e=>by omega⟩
theorem iQ {g g':bP} {m b:aI} {S S':aB} (a:gZ S S') (h:Ge g m g' b):∀ (l:List AV) {vs:List Value},aX g m S l vs→aX g' b S' l vs
 | [],[],_=>by simp only [aX]
 |x::r,v::vs,p=>by simp only [aX] at p ⊢;exact ⟨kE a h x p.1,iQ a h r p.2⟩
 | [],_::_,p=>by simp [aX] at p
 |_::_,[],p=>by simp [aX] at p
end
def lI (ap:AP) (S:aB):Prop:=∀ k xs,(ap.gl[k]?).join=some xs→∃ vs,bu S xs vs∧iq S k 0 vs
structure dF (P:Program) (ap:AP):Prop where
 ty:∀ t ti,ap.tyAt t=some ti→Vz P t=some ti
 mt:ap.mt.all (mtB P)=true
def jF (es:Array MapEntry):Array Value:=#[.agg (es.map (·.key)),.agg (es.map (·.val))]
def gy (w:World) (k z:Nat) (cur:Array Value) (e:TypeId):Prop:=
 (z ≠ dP∧w.heap[k]? =some (.cells cur e (0,0)))∨(z=dP∧∃ es clk,w.heap[k]? =some (.map es clk)∧cur=jF es)
def bZ (w:World) (k o:Nat):Option Value:=match w.heap[k]? with
 |some (.map es _)=>(jF es)[o]?
 |_=>match w.cell? ⟨k,o,none⟩ with|some v=>if v.oneCell' then some v else none|none=>none
theorem gy.of {w:World} {k z:Nat} {cur:Array Value} {e:TypeId} (a:z ≠ dP) (h:w.heap[k]? =some (.cells cur e (0,0))):gy w k z cur e:= .inl ⟨a,h⟩
theorem gy.cells {w:World} {k z:Nat} {cur:Array Value} {e:TypeId} (h:gy w k z cur e) (a:z ≠ dP):w.heap[k]? =some (.cells cur e (0,0)):=by
 rcases h with h|h
 ·exact h.2
 ·exact absurd h.1 a
theorem gy.map {w:World} {k z:Nat} {cur:Array Value} {e:TypeId} (h:gy w k z cur e) (a:z=dP):∃ es clk,w.heap[k]? =some (.map es clk)∧cur=jF es:=by
 rcases h with h|h
 ·exact absurd a h.1
 ·exact h.2
theorem gy.same {w w':World} {k z:Nat} {cur:Array Value} {e:TypeId} (h:gy w k z cur e) (a:w'.heap[k]? =w.heap[k]?):gy w' k z cur e:=by
 unfold gy;rw [a];exact h
theorem gy.lt {w:World} {k z:Nat} {cur:Array Value} {e:TypeId} (h:gy w k z cur e):k<w.heap.size:=by
 rcases h with ⟨_,h⟩|⟨_,es,clk,h,_⟩<;>exact (Array.getElem?_eq_some_iff.1 h).1
theorem KY {w w':World} {k o:Nat} (b:w'.heap[k]? =w.heap[k]?):bZ w' k o=bZ w k o:=by
 unfold bZ;rw [b,World.cell?_of_block (w:=w) (a:=⟨k,o,none⟩) b]
theorem sU {w:World} {k o:Nat} {v:Value} (h:bZ w k o=some v) (a:v.oneCell'=true):w.cell? ⟨k,o,none⟩=some v:=by
 unfold bZ at h;split at h
 ·rename_i es clk c;exfalso;unfold jF at h;rcases (show o=0∨o=1∨2≤o by omega) with rfl|rfl|ho
  ·cases h;cases a
  ·cases h;cases a
  ·rw [Array.getElem?_eq_none (by simpa using ho)] at h;cases h
 ·split at h
  ·rename_i d b;split at h
   ·cases h;exact b
   ·cases h
  ·cases h
theorem pG {w:World} {k o:Nat} {v:Value} (h:w.cell? ⟨k,o,none⟩=some v) (b:v.oneCell'=true):bZ w k o=some v:=by
 unfold bZ;split
 ·rename_i es clk a;unfold World.cell? at h;simp only [a] at h;cases h
 ·rw [h];simp only;rw [if_pos b]
theorem sS {w:World} {k o:Nat} {v:Value} (h:bZ w k o=some v) (c:v.oneCell'=false):∃ es clk,w.heap[k]? =some (.map es clk)∧(jF es)[o]? =some v:=by
 unfold bZ at h;split at h
 ·rename_i es clk b;exact ⟨es,clk,b,h⟩
 ·split at h
  ·split at h
   ·rename_i a;cases h;rw [c] at a;cases a
   ·cases h
  ·cases h
theorem IC {w:World} {k o:Nat} {v:Value} (h:bZ w k o=some v):k<w.heap.size:=by
 cases a:v.oneCell' with
 |true=>exact World.block_lt_of_cell? w _ (sU h a)
 |false=>
  obtain ⟨_,_,b,_⟩:=sS h a;exact (Array.getElem?_eq_some_iff.1 b).1
structure PW (g:bP) (m:aI) (S:aB) (w:World) (B:aK) (k c:Nat):Prop where
 lies:∃ cur e vs rest,gy w k B.esz cur e∧cur.toList=vs++rest∧(B.pr=true→bu S B.cells vs)∧aX g m S B.cells vs∧(B.esz ≠ dP→∀ u ∈ vs,u.oneCell'=true)∧(0<B.esz→B.esz ≠ dP→cur.size=c*B.esz∧c≤maxLen)
 fz0:B.fro=false→B.fz=0
 fzle:B.fz≤B.cells.length
structure bi (ap:AP) (g:bP) (m:aI) (S:aB) (w:World):Prop where
 inj:∀ b b' B B',g b=some B→g b'=some B'→(m b).1=(m b').1→b=b'
 blk:∀ b B,g b=some B→PW g m S w B (m b).1 (m b).2
 sealed:∀ k o v,S k o=some v→bZ w k o=some v
 own:∀ b B,g b=some B→∀ o v,S (m b).1 o=some v→B.fro=true∧o<B.fz
 glob:lI ap S
def uH (es:Array MapEntry) (clk:Nat):Prop:=(es.toList.map (·.born)).Nodup∧∀ x ∈ es.toList,x.born<clk
def MW (w w':World):Prop:=∀ (k:Nat) (es:Array MapEntry) (clk:Nat),w'.heap[k]? =some (Obj.map es clk)→(∃ es0 clk0,w.heap[k]? =some (Obj.map es0 clk0)∧(uH es0 clk0→uH es clk))∨(w.heap.size≤k∧uH es clk)
theorem MW.same {w w':World} (h:∀ (k:Nat) (es:Array MapEntry) (clk:Nat),w'.heap[k]? =some (Obj.map es clk)→w.heap[k]? =some (Obj.map es clk)):MW w w':=fun k es clk a=> .inl ⟨es,clk,h k es clk a,id⟩
theorem MW.refl (w:World):MW w w:= .same fun _ _ _ h=>h
theorem MW.alloc (w:World) (cs:Array Value) (e:TypeId) (fr:Nat × Nat):MW w (w.alloc (.cells cs e fr)):= .same fun k es clk a=>by
 simp only [World.alloc,Array.getElem?_push] at a;split at a
 ·cases a
 ·exact a
theorem MW.map0 (w:World):MW w (w.alloc (.map #[] 0)):=fun k es clk a=>by
 simp only [World.alloc,Array.getElem?_push] at a;split at a
 ·rename_i e;cases a;exact .inr ⟨by omega,by simp [uH]⟩
 ·exact .inl ⟨es,clk,a,id⟩
theorem MW.row (w:World) (g:Nat) (cs:Array Value):MW w (w.setRow g cs):= .same fun k es clk a=>by
 simp only [World.setRow,Array.getElem?_modify] at a;split at a
 ·cases b:w.heap[k]? with
  |none=>rw [b] at a;cases a
  |some o=>
   rw [b] at a;cases o<;>simp at a ⊢
   exact a
 ·exact a
theorem MW.setM {w:World} {k0:Nat} {b d:Array MapEntry} {a clk':Nat} (h0:w.heap[k0]? =some (.map b a)) (h:uH b a→uH d clk'):MW w {w with heap:=w.heap.setIfInBounds k0 (.map d clk')}:=fun k es clk c=>by
 simp only [Array.getElem?_setIfInBounds] at c;split at c
 ·rename_i e;subst e;split at c
  ·cases c;exact .inl ⟨b,a,h0,h⟩
  ·cases c
 ·exact .inl ⟨es,clk,c,id⟩
def MB (g':bP) (m':aI) (w w':World):Prop:=∀ b B,g' b=some B→∀ es clk,w'.heap[(m' b).1]? =some (Obj.map es clk)→(∃ es0 clk0,w.heap[(m' b).1]? =some (Obj.map es0 clk0)∧(uH es0 clk0→uH es clk))∨(w.heap.size≤(m' b).1∧uH es clk)
theorem MW.mb {w w':World} (h:MW w w') (g':bP) (c:aI):MB g' c w w':=fun b _ _ es clk a=>h _ es clk a
theorem uH.push {es:Array MapEntry} {clk:Nat} (k v:Value) (h:uH es clk):uH (es.push {key:=k,val:=v,born:=clk}) (clk+1):=by
 obtain ⟨i,d⟩:=h;refine ⟨?_,fun x c=> ?_⟩
 ·rw [Array.toList_push,List.map_append,List.nodup_append];refine ⟨i,by simp,fun a f b e=> ?_⟩;obtain ⟨x,c,rfl⟩:=List.mem_map.1 f;simp at e;have:=d x c;omega
 ·rw [Array.toList_push,List.mem_append] at c;rcases c with c|c
  ·have:=d x c;omega
  ·simp at c;subst c;simp
theorem uH.same {es a:Array MapEntry} {clk:Nat} (e:a.toList.map (·.born)=es.toList.map (·.born)) (h:uH es clk):uH a clk:=by
 obtain ⟨d,f⟩:=h;refine ⟨by rw [e];exact d,fun x c=> ?_⟩;have:x.born ∈ a.toList.map (·.born):=List.mem_map.2 ⟨x,c,rfl⟩;rw [e] at this;obtain ⟨y,b,i⟩:=List.mem_map.1 this;have:=f y b;omega
structure Fr (g:bP) (m:aI) (S:aB) (w:World) (g':bP) (m':aI) (S':aB) (w':World):Prop where
 ge:Ge g m g' m'
 sle:gZ S S'
 os:w'.os=w.os
 tape:w'.tape=w.tape
 output:w'.output=w.output
 size:w.heap.size≤w'.heap.size
 rest:∀ k,k<w.heap.size→(∀ b B,g b=some B→(m b).1 ≠ k)→w'.heap[k]? =w.heap[k]?
 img:∀ b B,g' b=some B→w.heap.size≤(m' b).1∨(∃ B0,g b=some B0∧(m' b).1=(m b).1)
 sealN:∀ k o v,S' k o=some v→S k o=some v∨w.heap.size≤k∨∃ b B,g b=some B∧(m b).1=k
 mw:MB g' m' w w'
theorem Fr.refl (g:bP) (m:aI) (S:aB) (w:World):Fr g m S w g m S w:=
 ⟨Ge.refl g m,gZ.refl S,rfl,rfl,rfl,ε _,fun _ _ _=>rfl,fun _ B h=> .inr ⟨B,h,rfl⟩,fun _ _ _ h=> .inl h,(MW.refl w).mb _ _⟩
theorem Fr.trans {g g' j:bP} {m D p:aI} {S S' S'':aB} {w w' l:World} (h:Fr g m S w g' D S' w') (f:Fr g' D S' w' j p S'' l):Fr g m S w j p S'' l:=by
 refine ⟨h.ge.trans f.ge,h.sle.trans f.sle,f.os.trans h.os,f.tape.trans h.tape,f.output.trans h.output,Xqh h.size f.size, ?_, ?_, ?_, ?_⟩
 ·intro k t E;rw [f.rest k (Nat.lt_of_lt_of_le t h.size) ?_,h.rest k t E];intro b B i e;rcases h.img b B i with c|⟨B0,a,c⟩
  ·omega
  ·exact E b B0 a (c ▸ e)
 ·intro b B i;rcases f.img b B i with c|⟨B0,a,c⟩
  ·exact .inl (Xqh h.size c)
  ·rcases h.img b B0 a with C|⟨B1,A,C⟩
   ·exact .inl (c ▸ C)
   ·exact .inr ⟨B1,A,c.trans C⟩
 ·intro k o v F;rcases f.sealN k o v F with d|d|⟨b,B,i,d⟩
  ·exact h.sealN k o v d
  ·exact .inr (.inl (Xqh h.size d))
  ·rcases h.img b B i with c|⟨B0,a,c⟩
   ·exact .inr (.inl (d ▸ c))
   ·exact .inr (.inr ⟨b,B0,a,by rw [← d,c]⟩)
 ·intro b B i es clk t;rcases f.mw b B i es clk t with ⟨y,r,d,s⟩|⟨d,s⟩
  ·rcases f.img b B i with c|⟨B0,a,c⟩
   ·have:=(Array.getElem?_eq_some_iff.1 d).1;omega
   ·rw [c] at d ⊢;rcases h.mw b B0 a y r d with ⟨z,n,x,u⟩|⟨x,u⟩
    ·exact .inl ⟨z,n,x,fun q=>s (u q)⟩
    ·exact .inr ⟨x,s u⟩
  ·exact .inr ⟨Xqh h.size d,s⟩
theorem bi.lt {ap:AP} {g:bP} {m:aI} {S:aB} {w:World} (h:bi ap g m S w) {b:Nat} {B:aK} (a:g b=some B):(m b).1<w.heap.size:=by
 obtain ⟨cur,e,vs,rest,c,_⟩:=(h.blk b B a).lies;exact c.lt
theorem bi.one {ap:AP} {g:bP} {m:aI} {S:aB} {w:World} (h:bi ap g m S w) {k o:Nat} {v:Value} (a:S k o=some v) (b:v.oneCell'=true):w.cell? ⟨k,o,none⟩=some v:=sU (h.sealed k o v a) b
theorem jD {w:World} {k j:Nat} {cur:Array Value} {e:TypeId} {fr:Nat × Nat} (h:w.heap[k]? =some (.cells cur e fr)):w.cell? ⟨k,j,none⟩=cur.toList[j]? :=by
 rw [cell_of_row w k j cur e fr h];simp
theorem gy.get {w:World} {k z j:Nat} {cur:Array Value} {e:TypeId} {u:Value} (h:gy w k z cur e) (a:cur.toList[j]? =some u) (b:z ≠ dP→u.oneCell'=true):bZ w k j=some u:=by
 rcases h with ⟨c,h⟩|⟨_,es,clk,h,rfl⟩
 ·exact pG (by rw [jD h];exact a) (b c)
 ·unfold bZ;rw [h];simpa using a
theorem eY {a b:IntKind} (h:gU a b=true):a=b:=by cases a<;>cases b<;>first|rfl|(exact absurd h (by decide))
theorem aF {a b:Nat} (h:Δ a b=true):a=b:=Nat.eq_of_beq_eq_true h
theorem eG {a b:Nat} (h:Xqc a b=true):a≤b:=Nat.le_of_ble_eq_true h
theorem dR {a b:Nat} (h:Xq5 a b=true):a<b:=by
 have:Xqc (a+1) b=true:=h;exact eG this
theorem aaG {S:aB} {x:AV} {v:Value} (h:PR S x v) (a:lu x=true):v.oneCell'=true:=by
 cases x<;>simp only [PR] at h<;>first
  |(subst h;rfl)
  |(rcases h with ⟨rfl,_⟩|⟨_,_,_,rfl,_⟩<;>rfl)
  |(obtain ⟨_,_,_,rfl,_⟩:=h;rfl)
  |(obtain ⟨_,_,rfl,_⟩:=h;rfl)
  |(obtain ⟨_,rfl,_⟩:=h;first|rfl|exact absurd a (by simp [lu]))
  |(exact absurd a (by simp [lu]))
theorem KL {g:bP} {m:aI} {S:aB} {x:AV} {v:Value} (h:VR g m S x v) (a:lu x=true):v.oneCell'=true:=by
 cases x<;>simp only [VR] at h<;>first
  | (exact aaG h a)
    |(obtain ⟨_,_,_,⟨_,_,rfl⟩,_⟩:=h;rfl)
  |(obtain ⟨_,_,_,⟨_,_,_,rfl⟩,_⟩:=h;rfl)
  |(obtain ⟨_,_,rfl,_⟩:=h;rfl)
  |(obtain ⟨_,rfl,_⟩:=h;first|rfl|exact absurd a (by simp [lu]))
  |(exact absurd a (by simp [lu]))
end AM
namespace AM
open Go
structure v_ (P:Program) (t:Nat) (ti:TI) (i:TypeInfo) (d:TypeDesc) (z:Value):Prop where
 info:P.info? t=some i
 und:P.underlying t=some d
 d_eq:ti.d=jg P (some d)
 size:ti.size=i.size
 bytes:ti.bytes=i.bytes
 zero:i.zero=some z
 zcells:ti.zero=z.cells.toList.map Dh
 zleaf:∀ x ∈ ti.zero,lu x=true
 zsize:z.cells.size=i.size
 lks:ti.lks.length=i.size
 zagg:acs i d=true
 fld:Si P d=true
 small:i.size<dP
theorem bW {P:Program} {ap:AP} (c:dF P ap) {t:Nat} {e:TI} (h:ap.tyAt t=some e):∃ i d z,v_ P t e i d z:=by
 have a:=c.ty t e h;unfold Vz at a;cases b:P.info? t with
 |none=>simp [b] at a
 | some i=>
  cases j:P.underlying t with
  |none=>simp [b,j] at a
  | some d=>
   simp only [b,j] at a;split at a
   ·rename_i n;simp only [η] at n;obtain ⟨⟨⟨⟨⟨s,k⟩,r⟩,p⟩,u⟩,q⟩:=n;cases f:i.zero with
    |none=>simp [f] at u
    | some z=>
     cases a;have l:Ei i=z.cells.toList.map Dh:=by simp [Ei,f]
     refine ⟨i,d,z,b,j,rfl,rfl,rfl,f,l, ?_, ?_,aF s,k.1,k.2,dR q⟩
     ·intro x o;exact List.all_eq_true.1 r x o
     ·have:=aF p;rw [l] at this;simpa using this
   ·cases a
theorem fD {P:Program} {d:TypeDesc} {e:Nat} (h:jg P (some d)= .slice e):d= .slice e:=by cases d<;>simp [jg] at h;subst h;rfl
theorem xF {P:Program} {d:TypeDesc} {n e:Nat} (h:jg P (some d)= .array n e):d= .array n e:=by cases d<;>simp [jg] at h;obtain ⟨rfl,rfl⟩:=h;rfl
theorem vX {P:Program} {d:TypeDesc} (h:jg P (some d)= .str):d= .string:=by cases d<;>simp [jg] at h;rfl
theorem Vy {P:Program} {d:TypeDesc} {k:IntKind} (h:jg P (some d)= .int k):d= .int k:=by cases d<;>simp [jg] at h;subst h;rfl
theorem X6 {P:Program} {d:TypeDesc} (h:jg P (some d)= .bool):d= .bool:=by cases d<;>simp [jg] at h;rfl
theorem ui {P:Program} {d:TypeDesc} {a:List (Nat × Nat × Nat)} (h:jg P (some d)= .struct a):
  ∃ fields:Array Field,d= .struct fields∧a=fields.toList.map fun f=>(f.offset,f.type,match P.info? f.type with|some i=>i.size|none=>0):=by
 cases d<;>simp [jg] at h
 exact ⟨_,rfl,h.symm⟩
theorem Ea {P:Program} (d:TypeDesc):GX (jg P (some d))=d.isRow:=by cases d<;>simp [jg,GX,TypeDesc.isRow]
theorem EP (S:aB) (v:Value):PR S (Hg v) v:=by
 cases v<;>simp only [Hg,PR]
 case pointer a=>cases a<;>simp only [PR]
 case map a=>
  cases a with
  |none=>simp [PR]
  |some _=>simp only [PR]
 case slice a n c=>
  split<;>simp only [PR]
theorem Iz (S:aB) (v:Value):PR S (Dh v) v:=by
 cases v<;>simp only [Dh]<;>try exact EP S _
 case agg cs=>
  simp only [PR];refine ⟨cs.toList,by simp, ?_⟩
  induction cs.toList with
  |nil=>simp [bu]
  |cons c r ih=>simp only [χ,bu];exact ⟨EP S c,ih⟩
 case tuple vs=>
  split
  ·rename_i h;simp only [PR];exact ⟨[],by rw [← h],by simp [bu]⟩
  ·simp only [PR]
theorem uF (S:aB):∀ l:List Value,bu S (l.map Dh) l
 | []=>by simp [bu]
 |v::r=>by simp only [χ,bu];exact ⟨Iz S v,uF S r⟩
theorem aaJ {g:bP} {m:aI} {S:aB} {k:LK} {c:AV} {v:Value} (h:VR g m S c v) (f:chk k c=true):VR g m S (eta k c) v:=by
 cases k<;>cases c<;>simp [chk] at f<;>simp only [eta,AV.toInt,AV.toBool,AV.toStr,AV.slX,AV.slN]<;>try exact h
 ·rw [eY f];exact h
 ·simp only [VR,PR] at h ⊢;subst h;exact ⟨none,0,rfl,ε _,.inl ⟨fun _=>trivial,trivial,trivial,rfl⟩⟩
 ·simp only [VR,PR] at h ⊢;obtain ⟨a,d,e,b,q⟩:=h;refine ⟨a,d,e,b, ?_⟩;rcases q with ⟨n,l,j,i⟩|q
  ·exact .inl ⟨fun _=>trivial,l,j,i⟩
  ·exact .inr q
theorem yX {k:LK} {c:AV} (h:chk k c=true):c ≠ .dead:=by intro e;subst e;cases k<;>simp [chk] at h
theorem getD_some {a:List AV} {i:Nat} (h:a.getD i .dead ≠ .dead):a[i]? =some (a.getD i .dead):=by
 rw [π] at h ⊢;cases b:a[i]? with
 |none=>simp [b] at h
 |some x=>simp
theorem BR (b:List AV) (a:Nat):(b.drop a).headD .dead=b.getD a .dead:=by
 rw [Xwe,Xke,π]
theorem QH (ty:Bool) (b:List AV) (a:Nat):kM ty [] b a= []:=rfl
theorem vT (ty:Bool) (k:LK) (ks:List LK) (b:List AV) (a:Nat):kM ty (k::ks) b a=(match ty with|true=>eta k (b.getD a .dead)|false=>b.getD a .dead)::kM ty ks b (a+1):=by
 show _::JJ ty ks (b.drop a).tail=_::JJ ty ks (b.drop (a+1));rw [Xkj];cases ty<;>simp only [BR]
theorem P9 (ty:Bool) (k:LK) (ks:List LK) (b:List AV) (a:Nat):Gv ty (k::ks) b a=(match ty with|true=>chk k (b.getD a .dead)|false=>chk .oth (b.getD a .dead))::Gv ty ks b (a+1):=by
 show _::Ry ty ks (b.drop a).tail=_::Ry ty ks (b.drop (a+1));rw [Xkj];cases ty<;>simp only [BR]
theorem nJ {g:bP} {m:aI} {S:aB} (ty:Bool) {e:List AV} {vs:List Value} (i:aX g m S e vs):∀ (lks:List LK) (a:Nat),(∀ b ∈ Gv ty lks e a,b=true)→
  ∃ us:List Value,us.length=lks.length∧(∀ j u,us[j]? =some u→vs[a+j]? =some u)∧aX g m S (kM ty lks e a) us:=by
 intro lks
 induction lks with
 |nil=>exact fun a _=> ⟨[],rfl,fun _ _ h=>by simp at h,by simp [QH,aX]⟩
 | cons k ks ih=>
  intro a h;simp only [P9,List.mem_cons,forall_eq_or_imp] at h;obtain ⟨us,o,l,n⟩:=ih (a+1) h.2;have key:∃ v,vs[a]? =some v∧VR g m S ((kM ty (k::ks) e a).headD .dead) v:=by
   rw [vT];cases ty with
   |true=>
    obtain ⟨v,d,c⟩:=pq i a (getD_some (yX h.1));exact ⟨v,d,aaJ c h.1⟩
   |false=>
    obtain ⟨v,d,c⟩:=pq i a (getD_some (yX h.1));exact ⟨v,d,c⟩
  obtain ⟨v,d,c⟩:=key;rw [vT] at c;refine ⟨v::us,by simp [o], ?_, ?_⟩
  ·intro j u f;cases j with
   |zero=>simp at f;subst f;simpa using d
   |succ j=>simp at f;rw [show a+(j+1)=a+1+j from by omega];exact l j u f
  ·simp only [vT,aX];exact ⟨c,n⟩
theorem jX {P:Program} {w:World} {t:Nat} {h:TI} {i:TypeInfo} {d:TypeDesc} {z:Value} (e:v_ P t h i d z) {g:bP} {m:aI} {S:aB} {cs:List AV} {us:List Value} {k a:Nat}
  (hl:us.length=h.lks.length) (hu:∀ j u,us[j]? =some u→w.cell? ⟨k,a+j,none⟩=some u) (hr:aX g m S cs us) {v:AV} (hv:oP h cs=some v):
  ∃ cv,(loadVar t ⟨k,a,none⟩).run P w= .ok cv w∧VR g m S v cv:=by
 unfold oP at hv;rw [e.d_eq,Ea] at hv;split at hv
 ·rename_i b;cases hv;refine ⟨.agg us.toArray,run_loadVar_mid w k a t us d hu e.und b (by simp [e.info,hl,e.lks]), ?_⟩;simp only [VR];exact ⟨us,rfl,hr⟩
 ·rename_i b;split at hv
  ·rename_i c;cases hv;cases us with
   |nil=>simp [aX] at hr
   | cons u r=>
    simp only [aX] at hr;refine ⟨u, ?_,hr.1⟩;have f:(isAgg t).run P w= .ok false w:=by
     unfold isAgg;rw [Sem.run_bind,run_underlying e.und w];cases d<;>simp_all [TypeDesc.isRow]
    have l:=hu 0 u rfl;simp only [Xqt] at l;simp [loadVar,f,l]
  ·cases hv
theorem bind_some {α β:Type} {x:Option α} {f:α→Option β} {b:β} (h:x.bind f=some b):∃ a,x=some a∧f a=some b:=by
 cases x with
 |none=>simp at h
 |some a=>exact ⟨a,rfl,h⟩
theorem aQ {v b:AV} {bs a:List Bool} {ups:List (Nat × aK)} (h:bg v bs=some (b,ups,a)):b=v∧ups= []∧a=bs:=by
 unfold bg at h;cases h;exact ⟨rfl,rfl,rfl⟩
section
variable {P:Program} {ap:AP} {g:bP} {m:aI} {S:aB} {w:World}
theorem zn (M:bi ap g m S w) {rd:bP} (D:∀ b B,rd b=some B→g b=some B) {t:Nat} {x:TI} {i:TypeInfo} {d:TypeDesc} {z:Value} (L:v_ P t x i d z)
  {p v:AV} {cp:Value} (hp:VR g m S p cp) {ups:List (Nat × aK)} {bs:List Bool} (h:Jp x rd p=some (v,ups,bs)) (hbs:∀ b ∈ bs,b=true):
  ups= []∧∃ cv,(Instr.loadAt t cp).run P w= .ok cv w∧VR g m S v cv:=by
 unfold Jp at h;split at h
 ·rename_i R f;obtain ⟨N,l,h⟩:=bind_some h;obtain ⟨rfl,rfl,rfl⟩:=aQ h;simp only [VR,PR] at hp;obtain ⟨b,o,vs,rfl,hp,hs⟩:=hp;obtain ⟨us,J,F,I⟩:=nJ (g:=g) (m:=m) true (aZ _ hp) x.lks f hbs;obtain ⟨cv,E,C⟩:=jX (w:=w) L (k:=b) (a:=o+f) J (fun j u H=>by
   have K:=hs (f+j) u (F j u H);have:=M.one K.1 K.2;rw [Xxy];exact this) I l
  exact ⟨rfl,cv,by simpa [Instr.loadAt,Instr.sureAddr] using E,C⟩
 ·rename_i b ver f;obtain ⟨B,Q,h⟩:=bind_some h;split at h
  ·rename_i c;obtain ⟨N,l,h⟩:=bind_some h;obtain ⟨rfl,rfl,rfl⟩:=aQ h;simp only [VR] at hp;obtain ⟨B',n,_,_,q⟩:=hp;have s:=D b B Q;rw [s] at n;cases n;simp only [η,Xqk] at c;have A:B.esz ≠ dP:=fun e=>by rw [e] at c;exact absurd c.2 (by decide)
   have q:=q (aF c.1);subst q;obtain ⟨cur,e,vs,rest,G,O,_,y,_⟩:=(M.blk b B s).lies;have G:=G.cells A;obtain ⟨us,J,F,I⟩:=nJ _ y x.lks f hbs;obtain ⟨cv,E,C⟩:=jX (w:=w) L (k:=(m b).1) (a:=f) J (fun j u H=>by
    have r:=F j u H;rw [jD G,O,List.getElem?_append_left (List.getElem?_eq_some_iff.1 r).1];exact r) I l
   exact ⟨rfl,cv,by simpa [Instr.loadAt,Instr.sureAddr] using E,C⟩
  ·cases h
 ·cases h
theorem Di {p f:AV} {d:Value} (hp:VR g m S p d) {o:Nat} (h:Ue p o=some f):∃ a:Addr,d= .pointer (some a)∧VR g m S f (.pointer (some (a.add o))):=by
 unfold Ue at h;split at h<;>cases h
 ·rename_i b ver c;simp only [VR] at hp;obtain ⟨B,i,l,⟨k,j,rfl⟩,q⟩:=hp;refine ⟨_,rfl, ?_⟩;simp only [VR];refine ⟨B,i,l,⟨k,j+o,by rw [Addr.add_mid]⟩,fun e=> ?_⟩;have q:=q e;simp only [Value.pointer.injEq,Option.some.injEq,Addr.mk.injEq] at q;obtain ⟨r,n,_⟩:=q;rw [Addr.add_mid,r,n]
 ·rename_i s c;simp only [VR,PR] at hp;obtain ⟨b,k,vs,rfl,hp,hs⟩:=hp;refine ⟨_,rfl, ?_⟩;simp only [VR,PR];exact ⟨b,k,vs,by rw [Addr.add_mid,Xxy],hp,hs⟩
end
end AM
namespace AM
open Go
section
variable {P:Program} {ap:AP} {g:bP} {m:aI} {S:aB} {w:World}
theorem bT {b:Bool} {l:List Bool} (h:∀ x ∈ b::l,x=true):b=true∧∀ x ∈ l,x=true:=⟨h b (by simp),fun x a=>h x (by simp [a])⟩
theorem jy {t:Nat} {a:TI} {i:TypeInfo} {d:TypeDesc} {z:Value} (b:v_ P t a i d z) (w:World):(Go.sizeOf t).run P w= .ok a.size w:=by
 simp [Go.sizeOf,typeInfo,b.info,b.size]
theorem zf {x:AV} {b:Value} (a:VR g m S x b) {n:Int} (h:NZ x=some n):∃ k,b= .int k n:=by
 cases x<;>simp [NZ] at h
 subst h;simp only [VR,PR] at a;exact ⟨_,a⟩
theorem zX {t:Nat} {q:TI} {i:TypeInfo} {d:TypeDesc} {z:Value} (r:v_ P t q i d z) {u:List (Nat × Nat × Nat)} (y:q.d= .struct u) {f o A n:Nat} (s:u[f]? =some (o,A,n)) (c:Xq5 0 n=true)
  {p v:AV} {cp:Value} (hp:VR g m S p cp) (k:Ue p o=some v):∃ cv,(Instr.fieldAt t cp f).run P w= .ok cv w∧VR g m S v cv:=by
 rw [r.d_eq] at y;obtain ⟨fields,rfl,rfl⟩:=ui y;simp only [Ψ,Xqb] at s;obtain ⟨x,h,l⟩:=s;simp only [Prod.mk.injEq] at l;obtain ⟨rfl,rfl,hs⟩:=l;obtain ⟨a,rfl,k⟩:=Di hp k;refine ⟨_, ?_,k⟩;have b:fields[f]? =some x:=by simpa using h
 cases e:P.info? x.type with
 |none=>rw [e] at hs;simp only at hs;subst hs;exact absurd (dR c) (by omega)
 |some j=>
  rw [e] at hs;have B:j.size ≠ 0:=by have:=dR c;simp only at hs;omega
  simp [Instr.fieldAt,run_underlying r.und,b,Instr.sureAddr,fieldPlace,Go.sizeOf,typeInfo,e,B]
theorem lY {i:Int} {n:Nat} (h0:decide (0≤i)=true) (c:decide (i<n)=true):0≤i∧i<n∧i.toNat<n:=by
 have a:=of_decide_eq_true h0;have b:=of_decide_eq_true c;omega
theorem xX (C:dF P ap) {rd:bP} (G:∀ b B,rd b=some B→g b=some B) {t:Nat} {I:TI} {i:TypeInfo} {d:TypeDesc} {z:Value} (y:v_ P t I i d z)
  {x ix v:AV} {cx ci:Value} (hx:VR g m S x cx) (hi:VR g m S ix ci) {ups:List (Nat × aK)} {bs:List Bool} (h:vJ ap I rd x ix=some (v,ups,bs)) (hbs:∀ b ∈ bs,b=true):
  ups= []∧∃ cv,(Instr.indexAt t cx ci).run P w= .ok cv w∧VR g m S v cv:=by
 unfold vJ at h;have l:=bind_some h;clear h;obtain ⟨n,U,h⟩:=l;obtain ⟨k,rfl⟩:=zf hi U;split at h
 ·rename_i e r;have l:=bind_some h;clear h;obtain ⟨E,c,h⟩:=l;obtain ⟨R,L,T,c⟩:=bW C c;rw [y.d_eq] at r;have r:=fD r;subst r;split at h
  ·rename_i Y len Z;obtain ⟨rfl,rfl,rfl⟩:=aQ h;obtain ⟨s,f⟩:=bT hbs;obtain ⟨f,_⟩:=bT f;obtain ⟨h0,A,J⟩:=lY s f;simp only [VR,PR] at hx;obtain ⟨a,O,rfl,N,q⟩:=hx;rcases q with ⟨_,_,q,_⟩|⟨b,o,vs,rfl,hp,hs⟩
   ·subst q;omega
   ·refine ⟨rfl,.pointer (some ⟨b,o+n.toNat*E.size,none⟩), ?_, ?_⟩
    ·simp [Instr.indexAt,asIntOf,run_underlying y.und,h0,A,jy c,Addr.add_mid]
    ·simp only [VR,PR];exact ⟨b,o,vs,rfl,hp,hs⟩
  ·rename_i b ver j len;have l:=bind_some h;clear h;obtain ⟨B,Q,h⟩:=l;split at h
   ·rename_i D;simp only [η] at D;obtain ⟨rfl,rfl,rfl⟩:=aQ h;obtain ⟨s,f⟩:=bT hbs;obtain ⟨f,_⟩:=bT f;obtain ⟨h0,A,J⟩:=lY s f;simp only [VR] at hx;obtain ⟨B',u,H,_,q⟩:=hx;have K:=G b B Q;rw [K] at u;cases u;obtain ⟨o,rfl,W,V,X⟩:=q (aF D.1);have M:=V (by omega);have F:=aF D.2;refine ⟨rfl,.pointer (some ⟨(m b).1,(j+n.toNat)*E.size,none⟩), ?_, ?_⟩
    ·rw [M,F];simp [Instr.indexAt,asIntOf,run_underlying y.und,h0,A,jy c,Addr.add_mid,Xjh]
    ·simp only [VR];exact ⟨B,K,by have:=aF D.1;omega,⟨_,_,rfl⟩,fun _=>trivial⟩
   ·cases h
  ·cases h
 ·rename_i len e r;have l:=bind_some h;clear h;obtain ⟨E,c,h⟩:=l;obtain ⟨R,L,T,c⟩:=bW C c;have l:=bind_some h;clear h;obtain ⟨p,hp,h⟩:=l;obtain ⟨rfl,rfl,rfl⟩:=aQ h;rw [y.d_eq] at r;have r:=xF r;subst r;obtain ⟨s,f⟩:=bT hbs;obtain ⟨f,_⟩:=bT f;obtain ⟨h0,A,J⟩:=lY s f;obtain ⟨a,rfl,H⟩:=Di hx hp;refine ⟨rfl,_, ?_,H⟩;simp [Instr.indexAt,asIntOf,run_underlying y.und,h0,A,jy c,Instr.sureAddr]
 ·cases h
theorem Dq {t:Nat} {f:TI} {i:TypeInfo} {d:TypeDesc} {z:Value} (k:v_ P t f i d z) {vs us:List Value} {cs:List AV} {b:Nat}
  (hl:us.length=f.lks.length) (hu:∀ j u,us[j]? =some u→vs[b+j]? =some u) (hr:aX g m S cs us) {v:AV} (hv:oP f cs=some v):
  ∃ cv,(part t vs.toArray b).run P w= .ok cv w∧VR g m S v cv:=by
 have e:(isAgg t).run P w= .ok d.isRow w:=by
  unfold isAgg;rw [Sem.run_bind,run_underlying k.und w];cases d<;>simp [TypeDesc.isRow]
 unfold oP at hv;rw [k.d_eq,Ea] at hv;split at hv
 ·rename_i a;cases hv;have n:(vs.drop b).take f.size=us:=by
   apply List.ext_getElem?;intro j;rw [Xxn,Xx0];have p:f.size=us.length:=by rw [hl,k.lks,k.size]
   split
   ·rename_i o;have h:j<us.length:=by omega
    have:=hu j us[j] (ζ h);rw [this,ζ h]
   ·rename_i o;rw [List.getElem?_eq_none (by omega)]
  refine ⟨.agg us.toArray, ?_, ?_⟩
  ·simp [part,e,a,jy k,n]
  ·simp only [VR];exact ⟨us,rfl,hr⟩
 ·rename_i a;split at hv
  ·rename_i c;cases hv;cases us with
   |nil=>simp [aX] at hr
   |cons u r=>
    simp only [aX] at hr;refine ⟨u, ?_,hr.1⟩;have l:=hu 0 u rfl;simp only [Xqt] at l;have a:d.isRow=false:=by simpa using a
    simp [part,e,a,l]
  ·cases hv
theorem GM (l:dF P ap) {t:Nat} {q:TI} {i:TypeInfo} {d:TypeDesc} {z:Value} (r:v_ P t q i d z) {x v:AV} {y:Value} (j:VR g m S x y) {f:Nat} {ups:List (Nat × aK)} {bs:List Bool}
  (h:Lm ap q x f=some (v,ups,bs)) (hbs:∀ b ∈ bs,b=true):ups= []∧∃ cv,(Instr.field t y f).run P w= .ok cv w∧VR g m S v cv:=by
 unfold Lm at h;split at h
 ·rename_i J cs u;have c:=bind_some h;clear h;obtain ⟨⟨o,M,H⟩,A,h⟩:=c;have c:=bind_some h;clear h;obtain ⟨tf,a,h⟩:=c;have c:=bind_some h;clear h;obtain ⟨I,n,h⟩:=c;obtain ⟨rfl,rfl,rfl⟩:=aQ h;obtain ⟨K,G,L,a⟩:=bW l a;rw [r.d_eq] at u;obtain ⟨fields,rfl,rfl⟩:=ui u;simp only [Ψ,Xqb] at A;obtain ⟨s,k,p⟩:=A;simp only [Prod.mk.injEq] at p;obtain ⟨rfl,rfl,hs⟩:=p;simp only [VR] at j;obtain ⟨vs,rfl,j⟩:=j;obtain ⟨us,F,D,E⟩:=nJ false j tf.lks s.offset hbs;obtain ⟨cv,C,B⟩:=Dq (w:=w) a F D E n;have e:fields[f]? =some s:=by simpa using k
  refine ⟨rfl,cv, ?_,B⟩;simp [Instr.field,run_underlying r.und,e,asAgg,C]
 ·cases h
theorem Sr (s:List UInt8) (i:Nat) (h:i<s.length):(⟨s.toArray⟩:ByteArray)[i]? =some (s.getD i 0):=by
 have hs:i<(⟨s.toArray⟩:ByteArray).size:=by simpa [ByteArray.size] using h
 rw [getElem?_pos _ i hs];simp only [ByteArray.getElem_eq_getElem_data,List.getElem_toArray];rw [π,ζ h];rfl
theorem GV (u:dF P ap) {t:Nat} {B:TI} {i:TypeInfo} {d:TypeDesc} {z:Value} (o:v_ P t B i d z) {x D v:AV} {F A:Value} (j:VR g m S x F) (I:VR g m S D A) {ups:List (Nat × aK)} {bs:List Bool}
  (h:LD ap B x D=some (v,ups,bs)) (hbs:∀ b ∈ bs,b=true):ups= []∧∃ cv,(Instr.index t F A).run P w= .ok cv w∧VR g m S v cv:=by
 unfold LD at h;have l:=bind_some h;clear h;obtain ⟨n,K,h⟩:=l;obtain ⟨k,rfl⟩:=zf I K;split at h
 ·rename_i s c;obtain ⟨rfl,rfl,rfl⟩:=aQ h;obtain ⟨p,f⟩:=bT hbs;obtain ⟨f,_⟩:=bT f;obtain ⟨h0,G,E⟩:=lY p f;rw [o.d_eq] at c;have c:=vX c;subst c;simp only [VR,PR] at j;subst j;refine ⟨rfl,.int .u8 (s.getD n.toNat 0).toNat, ?_,by simp only [VR,PR]⟩;simp [Instr.index,asIntOf,run_underlying o.und,h0,Sr s n.toNat E]
 ·rename_i len e cs c;have l:=bind_some h;clear h;obtain ⟨C,a,h⟩:=l;have l:=bind_some h;clear h;obtain ⟨O,y,h⟩:=l;obtain ⟨rfl,rfl,rfl⟩:=aQ h;obtain ⟨Q,N,R,a⟩:=bW u a;obtain ⟨p,f⟩:=bT hbs;obtain ⟨f,H⟩:=bT f;obtain ⟨h0,G,E⟩:=lY p f;rw [o.d_eq] at c;have c:=xF c;subst c;simp only [VR] at j;obtain ⟨vs,rfl,j⟩:=j;obtain ⟨us,M,J,L⟩:=nJ true j C.lks (n.toNat*C.size) H;obtain ⟨cv,r,q⟩:=Dq (w:=w) a M J L y;refine ⟨rfl,cv, ?_,q⟩;simp [Instr.index,asIntOf,run_underlying o.und,h0,G,jy a,r]
 ·cases h
end
end AM
namespace AM
open Go
section
variable {P:Program} {ap:AP} {g:bP} {m:aI} {S:aB} {w:World}
def Az (g:bP) (m:aI) (S:aB) (x:Option AV) (c:Option Value):Prop:=
 match x,c with
 |none,none=>True
 |some x,some c=>VR g m S x c
 |_,_=>False
theorem fK {x:Option AV} {c:Option Value} (h:Az g m S x c) {d n:Int} (a:lZ x d=some n):(x=none∧c=none∧n=d)∨∃ k,c=some (.int k n):=by
 cases x with
 |none=>cases c with
  |none=>simp [lZ] at a;exact .inl ⟨rfl,rfl,a.symm⟩
  |some c=>simp [Az] at h
 | some x=>cases c with
  |none=>simp [Az] at h
  |some c=>
   cases x<;>simp [lZ] at a
   subst a;simp only [Az,VR,PR] at h;subst h;exact .inr ⟨_,rfl⟩
theorem qm (P:Program) (w:World) (c:Bool) (len a:Nat) (d b:Option Value) (l h:Int)
  (hl:(d=none∧l=0)∨∃ k,d=some (.int k l)) (i:(b=none∧h=len)∨∃ k,b=some (.int k h)) (h0:0≤l) (h1:l≤h) (h2:h≤a):
  (Instr.sliceBounds c len a d b none).run P w= .ok (l.toNat,h.toNat,a) w:=by
 have f:0≤h:=by omega
 rcases hl with ⟨rfl,rfl⟩|⟨k,rfl⟩<;>rcases i with ⟨rfl,rfl⟩|⟨n,rfl⟩
 ·simp [Instr.sliceBounds]
 ·simp [Instr.sliceBounds,Instr.sliceBound,asIntOf,h2,f]
 ·have e:l≤(len:Int):=h1;simp [Instr.sliceBounds,Instr.sliceBound,asIntOf,h0,e]
 ·simp [Instr.sliceBounds,Instr.sliceBound,asIntOf,h0,h2,f];intro j;omega
theorem IW (s:List UInt8) (l h:Nat):(⟨s.toArray⟩:ByteArray).extract l h=⟨((s.take h).drop l).toArray⟩:=by
 apply ByteArray.ext;rw [ByteArray.data_extract];apply Array.ext';simp [List.extract_eq_take_drop,List.drop_take]
theorem xC (s:List UInt8):(⟨s.toArray⟩:ByteArray).size=s.length:=by simp [ByteArray.size]
theorem iq.drop {b o:Nat} {vs:List Value} (h:iq S b o vs) (n:Nat):iq S b (o+n) (vs.drop n):=by
 intro j u a;rw [Xx0] at a;rw [Xxy];exact h _ _ a
theorem iq.take {b o:Nat} {vs:List Value} (h:iq S b o vs) (n:Nat):iq S b o (vs.take n):=by
 intro j u a;rw [Xxn] at a;split at a
 ·exact h _ _ a
 ·cases a
theorem aaP {a b c:Bool} (h:∀ x ∈ [a,b,c],x=true):a=true∧b=true∧c=true:=⟨h a (by simp),h b (by simp),h c (by simp)⟩
theorem Et {α:Type} (a:List α) (n:Nat):(a.take n).drop n= []:=by
 apply Xxf;simp;omega
theorem H9 (H:dF P ap) {rd:bP} (M:∀ b B,rd b=some B→g b=some B) {t:Nat} {O:TI} {i:TypeInfo} {d:TypeDesc} {z:Value} (F:v_ P t O i d z)
  {x v:AV} {cx:Value} (hx:VR g m S x cx) {lo hi mx:Option AV} {clo chi cmx:Option Value} (hlo:Az g m S lo clo) (hhi:Az g m S hi chi) (hmx:Az g m S mx cmx)
  {ups:List (Nat × aK)} {bs:List Bool} (h:MP ap O rd x lo hi mx=some (v,ups,bs)) (hbs:∀ b ∈ bs,b=true):
  ups= []∧∃ cv,(Instr.sliceAt t cx clo chi cmx).run P w= .ok cv w∧VR g m S v cv:=by
 have p:mx=none→cmx=none:=by intro e;subst e;cases cmx<;>simp [Az] at hmx ⊢
 unfold MP at h;split at h
 ·rename_i s k;have f:=bind_some h;clear h;obtain ⟨l,I,h⟩:=f;have f:=bind_some h;clear h;obtain ⟨u,G,h⟩:=f;obtain ⟨rfl,rfl,rfl⟩:=aQ h;obtain ⟨r,y,C⟩:=aaP hbs;have r:=of_decide_eq_true r;have y:=of_decide_eq_true y;have C:=of_decide_eq_true C;rw [F.d_eq] at k;have k:=vX k;subst k;simp only [VR,PR] at hx;subst hx;rw [p rfl];have E:=qm P w false s.length s.length clo chi l u ((fK hlo I).imp (fun h=> ⟨h.2.1,h.2.2⟩) id) ((fK hhi G).imp (fun h=> ⟨h.2.1,h.2.2⟩) id) r y C;refine ⟨rfl,.string ⟨((s.take u.toNat).drop l.toNat).toArray⟩, ?_,by simp only [VR,PR]⟩;rw [← IW];simp [Instr.sliceAt,Instr.slice,run_underlying F.und,xC,E]
 ·rename_i e xs n nn k;have f:=bind_some h;clear h;obtain ⟨A,c,h⟩:=f;have f:=bind_some h;clear h;obtain ⟨l,I,h⟩:=f;have f:=bind_some h;clear h;obtain ⟨u,G,h⟩:=f;obtain ⟨rfl,rfl,rfl⟩:=aQ h;obtain ⟨T,N,U,c⟩:=bW H c;obtain ⟨r,y,C⟩:=aaP hbs;have r:=of_decide_eq_true r;have y:=of_decide_eq_true y;have C:=of_decide_eq_true C;rw [F.d_eq] at k;have k:=fD k;subst k;simp only [VR,PR] at hx;obtain ⟨a,D,rfl,X,q⟩:=hx;rw [p rfl];have E:=qm P w true n D clo chi l u ((fK hlo I).imp (fun h=> ⟨h.2.1,h.2.2⟩) id) ((fK hhi G).imp (fun h=> ⟨h.2.1,h.2.2⟩) id) r y (by omega);refine ⟨rfl,.slice (if D=l.toNat then a else a.map (·.add (l.toNat*A.size))) (u.toNat - l.toNat) (D - l.toNat), ?_, ?_⟩
  ·simp [Instr.sliceAt,Instr.slice,run_underlying F.und,E,jy c]
  ·simp only [VR,PR];refine ⟨_,_,rfl,by omega, ?_⟩;rcases q with ⟨Q,rfl,rfl,rfl⟩|⟨b,o,vs,rfl,hp,hs⟩
   ·refine .inl ⟨fun h=>Q ?_,by simp,by omega,by omega⟩;split at h
    ·exact h
    ·simpa using h
   ·refine .inr ?_;by_cases J:D=l.toNat
    ·refine ⟨b,o,[],by rw [if_pos J], ?_,fun j u h=>by simp at h⟩;have e:(xs.take (u.toNat*A.size)).drop (l.toNat*A.size)= []:=by
      have:u.toNat=l.toNat:=by omega
      rw [this,Et]
     rw [e];simp [bu]
    ·exact ⟨b,o+l.toNat*A.size,(vs.take (u.toNat*A.size)).drop (l.toNat*A.size),by rw [if_neg J];simp [Addr.add_mid],oz _ (jB _ hp),(hs.take _).drop _⟩
 ·rename_i e b ver j n k;have f:=bind_some h;clear h;obtain ⟨A,c,h⟩:=f;have f:=bind_some h;clear h;obtain ⟨B,Y,h⟩:=f;have f:=bind_some h;clear h;obtain ⟨l,I,h⟩:=f;have f:=bind_some h;clear h;obtain ⟨u,G,h⟩:=f;split at h
  ·rename_i J;simp only [η] at J;obtain ⟨rfl,rfl,rfl⟩:=aQ h;obtain ⟨T,N,U,c⟩:=bW H c;obtain ⟨r,y,C⟩:=aaP hbs;have r:=of_decide_eq_true r;have y:=of_decide_eq_true y;have C:=of_decide_eq_true C;rw [F.d_eq] at k;have k:=fD k;subst k;simp only [VR] at hx;obtain ⟨B',K,W,_,q⟩:=hx;have V:=M b B Y;rw [V] at K;cases K;obtain ⟨o,rfl,Q,Z,R⟩:=q (aF J.1);have L:=aF J.2;rw [p rfl];have E:=qm P w true n ((m b).2 - j) clo chi l u ((fK hlo I).imp (fun h=> ⟨h.2.1,h.2.2⟩) id) ((fK hhi G).imp (fun h=> ⟨h.2.1,h.2.2⟩) id) r y (by omega);refine ⟨rfl,.slice (if (m b).2 - j=l.toNat then some ⟨(m b).1,o,none⟩ else some ⟨(m b).1,o+l.toNat*A.size,none⟩) (u.toNat - l.toNat) ((m b).2 - j - l.toNat), ?_, ?_⟩
   ·simp [Instr.sliceAt,Instr.slice,run_underlying F.und,E,jy c,Addr.add_mid]
   ·simp only [VR];refine ⟨B,V,W,(by split<;>exact ⟨_,_,_,rfl⟩),fun _=> ?_⟩;by_cases hcl:(m b).2 - j=l.toNat
    ·exact ⟨o,by rw [if_pos hcl];congr 1;omega,by omega,fun h=>by omega,R⟩
    ·refine ⟨o+l.toNat*A.size,by rw [if_neg hcl];congr 1;omega,by omega,fun h=> ?_,R⟩;rw [Z (by omega),L,Xjh]
  ·cases h
 ·rename_i e k;have f:=bind_some h;clear h;obtain ⟨A,c,h⟩:=f;have f:=bind_some h;clear h;obtain ⟨l,I,h⟩:=f;have f:=bind_some h;clear h;obtain ⟨u,G,h⟩:=f;obtain ⟨rfl,rfl,rfl⟩:=aQ h;obtain ⟨T,N,U,c⟩:=bW H c;have r:=of_decide_eq_true (hbs (decide (l=0)) (by simp));have y:=of_decide_eq_true (hbs (decide (u=0)) (by simp));subst r;subst y;rw [F.d_eq] at k;have k:=fD k;subst k;simp only [VR,PR] at hx;subst hx;rw [p rfl];have E:=qm P w true 0 0 clo chi 0 0 ((fK hlo I).imp (fun h=> ⟨h.2.1,h.2.2⟩) id) ((fK hhi G).imp (fun h=> ⟨h.2.1,h.2.2⟩) id) (by omega) (by omega) (by omega);refine ⟨rfl,.slice none 0 0, ?_,by simp only [VR,PR]⟩;simp at E;simp [Instr.sliceAt,Instr.slice,run_underlying F.und,E,jy c]
 ·cases h
theorem LM {x v:AV} {o:Value} (f:VR g m S x o) {t:Nat} {p:TI} {i:TypeInfo} {d:TypeDesc} {z:Value} (k:v_ P t p i d z)
  {ups:List (Nat × aK)} {bs:List Bool} (h:abu p.d x=some (v,ups,bs)) (ats:Array TypeId) (hat:ats[0]? =some t) (args:Array Value) (ha:args[0]? =some o) (ty:Nat):
  ups= []∧∃ cv,(Builtin.len_ ats ty args).run P w= .ok cv w∧VR g m S v cv:=by
 unfold abu at h;rw [k.d_eq] at h;split at h
 ·rename_i n e c;obtain ⟨rfl,rfl,rfl⟩:=aQ h;have c:=xF c;subst c;exact ⟨rfl,.int .i64 n,by simp [Builtin.len_,hat,ha,run_underlying k.und,goInt],by simp only [VR,PR]⟩
 ·rename_i s c;obtain ⟨rfl,rfl,rfl⟩:=aQ h;have c:=vX c;subst c;simp only [VR,PR] at f;subst f;exact ⟨rfl,.int .i64 s.length,by simp [Builtin.len_,hat,ha,run_underlying k.und,goInt,xC],by simp only [VR,PR]⟩
 ·rename_i e q n r c;obtain ⟨rfl,rfl,rfl⟩:=aQ h;have c:=fD c;subst c;simp only [VR,PR] at f;obtain ⟨a,l,rfl,_⟩:=f;exact ⟨rfl,.int .i64 n,by simp [Builtin.len_,hat,ha,run_underlying k.und,goInt],by simp only [VR,PR]⟩
 ·rename_i e b ver j n c;obtain ⟨rfl,rfl,rfl⟩:=aQ h;have c:=fD c;subst c;simp only [VR] at f;obtain ⟨_,_,_,⟨_,_,l,rfl⟩,_⟩:=f;exact ⟨rfl,.int .i64 n,by simp [Builtin.len_,hat,ha,run_underlying k.und,goInt],by simp only [VR,PR]⟩
 ·rename_i e c;obtain ⟨rfl,rfl,rfl⟩:=aQ h;have c:=fD c;subst c;simp only [VR,PR] at f;subst f;exact ⟨rfl,.int .i64 0,by simp [Builtin.len_,hat,ha,run_underlying k.und,goInt],by simp only [VR,PR]⟩
 ·cases h
theorem vY (s:List UInt8):(⟨s.toArray⟩:ByteArray).toList=s:=by rw [ByteArray.toList_eq]
theorem wG:∀ a b:List UInt8,Op.bytesLess a b=fU a b
 |_,[]=>by simp [Op.bytesLess,fU]
 | [],_::_=>by simp [Op.bytesLess,fU]
 |a::x,b::y=>by simp only [Op.bytesLess,fU,wG x y]
def qF:LK→Value→Value→Option Bool
 | .int k,.int k1 a,.int k2 b=>match gU k k1 && gU k k2 with|true=>some (a==b)|false=>none
 | .bool,.bool a,.bool b=>some (a==b)
 | .str,.string a,.string b=>some (a.toList==b.toList)
 |_,_,_=>none
def dC:List LK→List Value→List Value→Option Bool
 | [],[],[]=>some true
 |k::ks,a::as,b::bs=>(qF k a b).bind fun c=>(dC ks as bs).map fun d=>c && d
 |_,_,_=>none
theorem pR:∀ (l l':List LK) (xs ys:List Value) (r:Bool),dC (l++l') xs ys=some r→
  ∃ a b,dC l (xs.take l.length) (ys.take l.length)=some a∧dC l' (xs.drop l.length) (ys.drop l.length)=some b∧r=(a && b)
 | [],l',xs,ys,r,h=> ⟨true,r,by simp [dC],by simpa using h,by simp⟩
 |k::l,l',[],_,r,h=>by simp [dC] at h
 |k::l,l',_::_,[],r,h=>by simp [dC] at h
 |k::l,l',x::xs,y::ys,r,h=>by
  simp only [Xqw,dC] at h;obtain ⟨c,e,h⟩:=bind_some h;rw [Xqb] at h;obtain ⟨d,j,rfl⟩:=h;obtain ⟨a,b,f,i,rfl⟩:=pR l l' xs ys d j;exact ⟨c && a,b,by simp [dC,e,f],by simpa using i,by simp [Bool.and_assoc]⟩
theorem nO:∀ (l:List LK) (xs ys:List Value) (r:Bool),dC l xs ys=some r→xs.length=l.length∧ys.length=l.length
 | [],[],[],_,_=> ⟨rfl,rfl⟩
 |k::l,x::xs,y::ys,r,h=>by
  simp only [dC] at h;obtain ⟨c,_,h⟩:=bind_some h;rw [Xqb] at h;obtain ⟨d,a,_⟩:=h;have:=nO l xs ys d a;simp [this.1,this.2]
 | [],_::_,_,_,h=>by simp [dC] at h
 | [],[],_::_,_,h=>by simp [dC] at h
 |_::_,[],_,_,h=>by simp [dC] at h
 |_::_,_::_,[],_,h=>by simp [dC] at h
def sH (P:Program) (t:TypeId) (xs:List Value):Value:=match P.underlying t with
 |some (.struct _)=> .agg xs.toArray
 |_=>xs.headD undef
def Yj (P:Program) (n:Nat) (t:TypeId) (lks:List LK):Prop:=
 ∀ (d:Nat) (w:World) (xs ys:List Value) (r:Bool),n≤d→dC lks xs ys=some r→(Op.equalIn d t (sH P t xs) (sH P t ys)).run P w= .ok r w
theorem su {t:TypeId} {lks:List LK} {n:Nat} (f:iR P n t=some lks) {i:TypeInfo} (k:P.info? t=some i) (hs:i.size=lks.length) (b:List Value) (a:Nat) (o:a+lks.length≤b.length) (w:World):
  (part t b.toArray a).run P w= .ok (sH P t ((b.drop a).take lks.length)) w:=by
 cases n with
 |zero=>simp [iR] at f
 | succ n=>
  unfold iR at f;cases h:P.underlying t with
  |none=>simp [h] at f
  | some d=>
   have c:(isAgg t).run P w= .ok d.isRow w:=by
    unfold isAgg;rw [Sem.run_bind,run_underlying h w];cases d<;>simp [TypeDesc.isRow]
   cases d<;>simp only [h] at f<;>try cases f
   case struct fs=>
    simp only [TypeDesc.isRow] at c;simp [part,c,Go.sizeOf,typeInfo,k,hs,sH,h]
   all_goals
    simp only [TypeDesc.isRow] at c;simp only [Θ,Xqj,Φ] at o;have j:b[a]? =some (b[a]'(by omega)):=ζ (by omega);simp only [part,Sem.run_bind,c,Result.andThen_ok,Bool.false_eq_true,if_false,sH,h];have e:((b.drop a).take [LK.str].length).headD undef=b[a]'(by omega):=by
     rw [Xwe,List.head?_take,Xke,j];simp
    have l:(b.toArray)[a]? =some (b[a]'(by omega)):=by simp
    rw [l]
    first|exact congrArg (fun v=>Result.ok v w) e.symm|(simp only [Θ,Xqj] at e ⊢;exact congrArg (fun v=>Result.ok v w) e.symm)
theorem qH {n:Nat} (s:∀ t lks,iR P n t=some lks→Yj P n t lks):∀ (fs:List Field) (off:Nat) (lks:List LK),wK P (iR P n) fs off=some lks→
  ∀ (d:Nat) (w:World) (xs ys:List Value) (r:Bool),n≤d→xs.length=off+lks.length→ys.length=off+lks.length→dC lks (xs.drop off) (ys.drop off)=some r→
   (Op.eqFields d xs.toArray ys.toArray fs).run P w= .ok r w
 | [],off,lks,hc,d,w,xs,ys,r,hd,hx,hy,h=>by
  simp [wK] at hc;subst hc;have x:xs.drop off= []:=Xxf (by simp at hx;omega);have y:ys.drop off= []:=Xxf (by simp at hy;omega);rw [x,y] at h;simp [dC] at h;subst h;simp [Op.eqFields]
 | f ::fs,off,lks,hc,d,w,xs,ys,r,hd,hx,hy,h=>by
  simp only [wK] at hc;cases j:iR P n f.type with
  |none=>simp [j] at hc
  | some l=>
   simp only [j] at hc;split at hc
   ·rename_i hcond;simp only [η,Xqk] at hcond;obtain ⟨⟨u,p⟩,c⟩:=hcond;cases q:wK P (iR P n) fs (off+l.length) with
    |none=>simp [q] at hc
    | some l'=>
     simp only [q] at hc;cases hc;cases k:P.info? f.type with
     |none=>simp [k] at c
     |some i=>
      simp only [k] at c;have c:=aF c;have p:=aF p;have o:f.name ≠ "_" :=by intro e;rw [e] at u;exact absurd u (by decide)
      simp only [List.length_append] at hx hy;obtain ⟨a,b,v,A,rfl⟩:=pR l l' _ _ r h;have C:=su j k c xs off (by omega) w;have B:=su j k c ys off (by omega) w;have z:=s f.type l j d w _ _ a hd v;have D:=qH s fs (off+l.length) l' q d w xs ys b hd (by omega) (by omega) (by simpa [List.drop_drop,Nat.add_comm] using A);simp only [Op.eqFields,o,ne_eq,not_false_eq_true,if_true,Sem.run_bind,p,C,B,z,Result.andThen_ok];cases a
      ·simp
      ·simpa using D
   ·cases hc
theorem Bl : ∀ (n:Nat) (t:TypeId) (lks:List LK),iR P n t=some lks→Yj P n t lks
  |0,_,_,h=>by simp [iR] at h
  | n + 1,t,lks,h=>by
    intro d w l q r s b;obtain ⟨d,rfl⟩:∃ k,d=k+1:=⟨d - 1,by omega⟩
    have j:=nO _ _ _ _ b;unfold iR at h;cases a:P.underlying t with
    |none=>simp [a] at h
    | some ds=>
      cases ds<;>simp only [a] at h<;>try cases h
      case struct fs=>
        split at h
        · cases h
        · rename_i o;have i:P.fieldsOf t=fs:=by simp [Program.fieldsOf,a]
          have e:=run_equalIn_struct (P:=P) w d t l.toArray q.toArray (by rw [i];exact a) o;simp only [sH,a];rw [e,i];exact qH (Bl n) fs.toList 0 lks h d w l q r (by omega) (by simp [j.1]) (by simp [j.2]) (by simpa using b)
      all_goals
        simp only [Θ,Xqj,Φ] at j
        match l,q,j,b with
        | [x], [y],_,b=>
          simp only [dC,Option.map_some,Bool.and_true] at b;obtain ⟨c,f,b⟩:=bind_some b;cases b;simp only [sH,a,List.headD_cons];cases x<;>cases y<;>simp [qF] at f
          first
            | (split at f
               · rename_i p;simp only [η] at p;obtain rfl:=eY p.1;obtain rfl:=eY p.2;cases f;exact run_equalIn_int (P:=P) w d t _ _ _ _ a
               · cases f)
            |(subst f;rw [run_equalIn_bool' (P:=P) w d t _ _ a])
            |(subst f;rw [run_equalIn_string (P:=P) w d t _ _ a])
end
end AM
namespace AM
open Go
section
variable {P:Program} {ap:AP} {g:bP} {m:aI} {S:aB} {w:World}
theorem acm {d:TypeDesc} (h:jg P (some d)= .ptr):∃ e,d= .pointer e:=by cases d<;>simp [jg] at h;exact ⟨_,rfl⟩
theorem X7 {d:TypeDesc} (h:jg P (some d)= .func):∃ a b c,d= .func a b c:=by cases d<;>simp [jg] at h;exact ⟨_,_,_,rfl⟩
theorem Vx {d:TypeDesc} (h:jg P (some d)= .iface):∃ e,d= .interface e:=by cases d<;>simp [jg] at h;exact ⟨_,rfl⟩
theorem Xb {a b:LK} (h:abw a b=true):a=b:=by
 cases a<;>cases b<;>simp [abw] at h
 ·rw [eY h]
 ·rfl
 ·rfl
theorem CJ:∀ {a b:List LK},Fj a b=true→a=b
 | [],[],_=>rfl
 |_::_,_::_,h=>by simp only [Fj,η] at h;rw [Xb h.1,CJ h.2]
 | [],_::_,h=>by simp [Fj] at h
 |_::_,[],h=>by simp [Fj] at h
theorem Lj {k:LK} {a b:AV} {r:Bool} (h:Lh k a b=some r) {x y:Value} (d:VR g m S a x) (c:VR g m S b y):qF k x y=some r:=by
 unfold Lh at h;split at h
 ·simp only [VR,PR] at d c;subst d;subst c;split at h
  ·rename_i e;cases h;simp [qF,e]
  ·cases h
 ·simp only [VR,PR] at d c;subst d;subst c;simpa [qF] using h
 ·simp only [VR,PR] at d c;subst d;subst c;simpa [qF,vY] using h
 ·cases h
theorem uN:∀ {ks:List LK} {as bs:List AV} {r:Bool} {xs ys:List Value},jE ks as bs=some r→aX g m S as xs→aX g m S bs ys→dC ks xs ys=some r
 | [],[],[],r,xs,ys,h,ha,hb=>by
  cases xs<;>cases ys<;>simp [aX] at ha hb
  simpa [jE,dC] using h
 |k::ks,a::as,b::bs,r,x::xs,y::ys,h,ha,hb=>by
  simp only [jE] at h;obtain ⟨c,e,h⟩:=bind_some h;rw [Xqb] at h;obtain ⟨d,f,rfl⟩:=h;simp only [aX] at ha hb;simp [dC,Lj e ha.1 hb.1,uN f ha.2 hb.2]
 | [],_::_,_,_,_,_,h,_,_=>by simp [jE] at h
 | [],[],_::_,_,_,_,h,_,_=>by simp [jE] at h
 |_::_,[],_,_,_,_,h,_,_=>by simp [jE] at h
 |_::_,_::_,[],_,_,_,h,_,_=>by simp [jE] at h
 |_::_,_::_,_::_,_,[],_,_,ha,_=>by simp [aX] at ha
 |_::_,_::_,_::_,_,_::_,[],_,_,hb=>by simp [aX] at hb
theorem xG (c:dF P ap) {t:Nat} {b:TI} (h:ap.tyAt t=some b):b.cmp=Wn P t∧b.lks=Fp P 8 t:=by
 have a:=c.ty t b h;unfold Vz at a;split at a
 ·split at a
  ·cases a;exact ⟨rfl,rfl⟩
  ·cases a
 ·cases a
theorem gX (op:BinOp) (t:TypeId) (x y:Operand) (a b:Value) (c:¬ (a= .nilIface∧b= .nilIface)) (d:∀ xs ys,¬ (a= .agg xs∧b= .agg ys)):(eqGuard op t x y a b).run P w= .ok () w:=by
 unfold eqGuard;cases op<;>simp only [Sem.run_ite,Sem.run_pure]<;>try (simp;done)
 all_goals
  simp;split
  ·exact absurd ⟨rfl,rfl⟩ c
  ·exact absurd ⟨rfl,rfl⟩ (d _ _)
  ·rfl
def Ox (op:BinOp) (r:Bool):Bool:=match op with| .neq=> !r|_=>r
theorem tC {t:Nat} {b a:Value} {r:Bool} {x y:Operand} (e:∀ op,(eqGuard op t x y b a).run P w= .ok () w) (h:∀ d,(Op.equalIn (d+1) t b a).run P w= .ok r w)
  (h1:binOp .eql t b a=(do pure (.bool (← Op.equal t b a)))) (h2:binOp .neq t b a=(do pure (.bool (!(← Op.equal t b a))))) {op:BinOp} (hop:op=BinOp.eql∨op=BinOp.neq):
  (do eqGuard op t x y b a;binOp op t b a:Sem Value).run P w= .ok (.bool (Ox op r)) w:=by
 have c:(Op.equal t b a).run P w= .ok r w:=h 9999;rcases hop with rfl|rfl
 ·rw [Sem.run_bind,e,Result.andThen_ok,h1,Sem.run_bind,c];rfl
 ·rw [Sem.run_bind,e,Result.andThen_ok,h2,Sem.run_bind,c];rfl
theorem E5 (v:dF P ap) {t:Nat} {L:TI} (A:ap.tyAt t=some L) {a b:AV} {H I:Value} (k:VR g m S a H) (j:VR g m S b I) {r:Bool} (h:eqA L a b=some r) (M:∀ x ∈ C_ a b,x=true) (x y:Operand):
  ∀ op,op=BinOp.eql∨op=BinOp.neq→(do eqGuard op t x y H I;binOp op t H I:Sem Value).run P w= .ok (.bool (Ox op r)) w:=by
 obtain ⟨i,d,z,u⟩:=bW v A;intro op f;unfold eqA at h;split at h
 case h_2 fs xs ys s=>
  split at h
  ·rename_i c;rw [(xG v A).1] at c;rw [(xG v A).2] at h;simp only [VR] at k j;obtain ⟨vs,rfl,k⟩:=k;obtain ⟨us,rfl,j⟩:=j;have K:=uN h k j;unfold Wn at c;cases J:iR P 8 t with
   |none=>simp [J] at c
   |some l=>
    simp only [J,η,Xqk] at c;have C:=CJ c.1;rw [← C] at K;have F:=Bl 8 t l J 10000 w vs us r (by omega) K;rw [u.d_eq] at s;obtain ⟨fields,rfl,_⟩:=ui s;simp only [sH,u.und] at F;have N:=run_eqGuard_agg (P:=P) w op t x y vs.toArray us.toArray c.2;rcases f with rfl|rfl
    ·simp [N,run_eql_struct,F,Ox]
    ·simp [N,run_neq_struct,F,Ox]
  ·cases h
 all_goals try (cases h;done)
 all_goals
  rename_i s;rw [u.d_eq] at s
  try simp only [VR,PR] at k j
 all_goals cases h
 case h_1=>
  have s:=X6 s;subst s;subst k;subst j
  (refine tC (fun op=> ?_) (fun B=> ?_) rfl rfl f<;>first|exact gX op t x y _ _ (by simp) (by simp)|exact run_equalIn_bool' (P:=P) w B t _ _ u.und)
 all_goals
  first
   |(obtain ⟨e,rfl⟩:=acm s)
   |(obtain ⟨e,rfl⟩:=Vx s)
   |(obtain ⟨Q,R,O,rfl⟩:=X7 s)
   |(have s:=fD s;subst s)
 case h_16 xs n nn=>
  subst j;obtain ⟨a,G,rfl,D,q⟩:=k;rcases q with ⟨E,rfl,rfl,rfl⟩|⟨b,o,vs,rfl,_⟩
  ·cases a with
   |none=>
    cases E rfl;exact absurd (M _ (by simp [C_];rfl)) (by decide)
   |some p=>(refine tC (fun op=> ?_) (fun B=> ?_) rfl rfl f<;>first|exact gX op t x y _ _ (by simp) (by simp)|simp [Op.equalIn,run_underlying u.und])
  ·(refine tC (fun op=> ?_) (fun B=> ?_) rfl rfl f<;>first|exact gX op t x y _ _ (by simp) (by simp)|simp [Op.equalIn,run_underlying u.und])
 case h_17 xs n nn=>
  subst k;obtain ⟨a,G,rfl,D,q⟩:=j;rcases q with ⟨E,rfl,rfl,rfl⟩|⟨b,o,vs,rfl,_⟩
  ·cases a with
   |none=>
    cases E rfl;exact absurd (M _ (by simp [C_];rfl)) (by decide)
   |some p=>(refine tC (fun op=> ?_) (fun B=> ?_) rfl rfl f<;>first|exact gX op t x y _ _ (by simp) (by simp)|simp [Op.equalIn,run_underlying u.und])
  ·(refine tC (fun op=> ?_) (fun B=> ?_) rfl rfl f<;>first|exact gX op t x y _ _ (by simp) (by simp)|simp [Op.equalIn,run_underlying u.und])
 all_goals
  try subst k
  try subst j
  try (obtain ⟨_,_,_,⟨_,_,rfl⟩,_⟩:=k)
  try (obtain ⟨_,_,_,⟨_,_,rfl⟩,_⟩:=j)
  try (obtain ⟨_,_,_,⟨_,_,_,rfl⟩,_⟩:=k)
  try (obtain ⟨_,_,_,⟨_,_,_,rfl⟩,_⟩:=j)
  try (obtain ⟨_,_,_,rfl,_⟩:=k)
  try (obtain ⟨_,_,_,rfl,_⟩:=j)
  try (obtain ⟨_,_,rfl,_⟩:=k)
  try (obtain ⟨_,_,rfl,_⟩:=j)
  try (obtain ⟨_,rfl,_⟩:=k)
  try (obtain ⟨_,rfl,_⟩:=j)
  (refine tC (fun op=> ?_) (fun B=> ?_) rfl rfl f<;>first|exact gX op t x y _ _ (by simp) (by simp)|simp [Op.equalIn,run_underlying u.und])
end
end AM
namespace AM
open Go
section
variable {P:Program} {ap:AP} {g:bP} {m:aI} {S:aB} {w:World}
theorem KP (a b:List UInt8):(⟨a.toArray⟩:ByteArray)++⟨b.toArray⟩=⟨(a++b).toArray⟩:=by
 apply ByteArray.ext;rw [ByteArray.data_append];simp
theorem KR (e:dF P ap) {t:Nat} {s:TI} (f:ap.tyAt t=some s) {a b v:AV} {n i:Value} (d:VR g m S a n) (c:VR g m S b i) {op:BinOp} {ups:List (Nat × aK)} {bs:List Bool}
  (h:aaR op s a b=some (v,ups,bs)) (hbs:∀ x ∈ bs,x=true) (x y:Operand):
  ups= []∧∃ cv,(do eqGuard op t x y n i;binOp op t n i:Sem Value).run P w= .ok cv w∧VR g m S v cv:=by
 unfold aaR at h;split at h
 ·rename_i k p u q;simp only [VR,PR] at d c;subst d;subst c;have j:(eqGuard op t x y (.int k p) (.int u q)).run P w= .ok () w:=gX op t x y _ _ (by simp) (by simp);rw [Sem.run_bind,j,Result.andThen_ok];split at h
  ·obtain ⟨rfl,rfl,rfl⟩:=aQ h;have h0:=of_decide_eq_true (hbs _ (List.mem_singleton.2 rfl));exact ⟨rfl,_,by simp [binOp,Op.shift,show ¬ q<0 by omega];rfl,by simp only [VR,PR]⟩
  ·obtain ⟨rfl,rfl,rfl⟩:=aQ h;have h0:=of_decide_eq_true (hbs _ (List.mem_singleton.2 rfl));exact ⟨rfl,_,by simp [binOp,Op.shift,show ¬ q<0 by omega];rfl,by simp only [VR,PR]⟩
  ·split at h
   ·cases h
   ·rename_i l;have l:=eY l;subst l;split at h
    all_goals try (cases h;done)
    all_goals obtain ⟨rfl,rfl,rfl⟩:=aQ h
    case h_4=>
     have h0:(q==0)=false:=by simpa using hbs _ (List.mem_singleton.2 rfl)
     have h0:¬ q=0:=by simpa using h0
     exact ⟨rfl,_,by simp [binOp,Op.intDiv,h0];rfl,by simp only [VR,PR]⟩
    case h_5=>
     have h0:(q==0)=false:=by simpa using hbs _ (List.mem_singleton.2 rfl)
     have h0:¬ q=0:=by simpa using h0
     exact ⟨rfl,_,by simp [binOp,Op.intDiv,h0];rfl,by simp only [VR,PR]⟩
    all_goals exact ⟨rfl,_,by simp only [binOp,Op.intArith,Op.intBits,Op.intCmp,ne_eq,not_true_eq_false,if_false];rfl,by simp only [VR,PR];first|done|rfl⟩
 ·rename_i p q;simp only [VR,PR] at d c;subst d;subst c;have j:(eqGuard op t x y (.string ⟨p.toArray⟩) (.string ⟨q.toArray⟩)).run P w= .ok () w:=gX op t x y _ _ (by simp) (by simp);rw [Sem.run_bind,j,Result.andThen_ok];split at h
  all_goals try (cases h;done)
  all_goals obtain ⟨rfl,rfl,rfl⟩:=aQ h
  case h_1=>
   have h0:=eG (hbs _ (List.mem_singleton.2 rfl));have z:¬ (IntKind.i64.max<((p.length+q.length:Nat):Int)):=by
    have:IntKind.i64.max=9223372036854775807:=by decide
    omega
   refine ⟨rfl,.string ⟨(p++q).toArray⟩, ?_,by simp only [VR,PR]⟩;simp only [binOp,Op.stringOp,xC,gt_iff_lt,z,if_false,KP,Sem.run_pure]
  all_goals
   refine ⟨rfl,_,rfl, ?_⟩;simp only [VR,PR,vY,wG]
 ·split at h
  ·obtain ⟨r,o,h⟩:=bind_some h;obtain ⟨rfl,rfl,rfl⟩:=aQ h;exact ⟨rfl,_,E5 e f d c o hbs x y _ (.inl rfl),by simp only [VR,PR];rfl⟩
  ·obtain ⟨r,o,h⟩:=bind_some h;obtain ⟨rfl,rfl,rfl⟩:=aQ h;exact ⟨rfl,_,E5 e f d c o hbs x y _ (.inr rfl),by simp only [VR,PR];rfl⟩
  ·cases h
theorem QS {x v:AV} {b:Value} (a:VR g m S x b) {op:UnOp} {ups:List (Nat × aK)} {bs:List Bool} (h:unA op x=some (v,ups,bs)):
  ups= []∧∃ cv,(Op.unary op b).run P w= .ok cv w∧VR g m S v cv:=by
 unfold unA at h;split at h
 ·obtain ⟨rfl,rfl,rfl⟩:=aQ h;simp only [VR,PR] at a;subst a;exact ⟨rfl,_,rfl,by simp only [VR,PR]⟩
 ·obtain ⟨rfl,rfl,rfl⟩:=aQ h;simp only [VR,PR] at a;subst a;exact ⟨rfl,_,rfl,by simp only [VR,PR]⟩
 ·cases h
theorem rJ {f:AV→AV→Option AV} {F:Value→Value→Sem Value} (d:∀ a b c ca cb,VR g m S a ca→VR g m S b cb→f a b=some c→∃ cc,(F ca cb).run P w= .ok cc w∧VR g m S c cc):
  ∀ (l:List AV) (cl:List Value) (x v:AV) (cx:Value),aX g m S l cl→VR g m S x cx→IZ f x l=some v→∃ cv,(cl.foldlM F cx).run P w= .ok cv w∧VR g m S v cv
 | [],[],x,v,cx,_,hx,h=>by simp [IZ] at h;subst h;exact ⟨cx,by simp,hx⟩
 | y::r,cy::cr,x,v,cx,hl,hx,h=>by
  simp only [aX] at hl;simp only [IZ] at h;split at h
  ·rename_i z n;obtain ⟨j,k,o⟩:=d _ _ _ _ _ hx hl.1 n;obtain ⟨cv,i,e⟩:=rJ d r cr z v j hl.2 o h;exact ⟨cv,by simp [List.foldlM_cons,k,i],e⟩
  ·cases h
 | [],_::_,_,_,_,hl,_,_=>by simp [aX] at hl
 |_::_,[],_,_,_,hl,_,_=>by simp [aX] at hl
theorem LW {a b c:AV} {i f:Value} (e:VR g m S a i) (d:VR g m S b f) (h:min2 a b=some c):∃ cc,(Builtin.min2 i f).run P w= .ok cc w∧VR g m S c cc:=by
 unfold min2 at h;split at h
 ·split at h
  ·cases h;simp only [VR,PR] at e d;subst e;subst d;exact ⟨_,rfl,by simp only [VR,PR]⟩
  ·cases h
 ·cases h
theorem LU {a b c:AV} {i f:Value} (e:VR g m S a i) (d:VR g m S b f) (h:max2 a b=some c):∃ cc,(Builtin.max2 i f).run P w= .ok cc w∧VR g m S c cc:=by
 unfold max2 at h;split at h
 ·split at h
  ·cases h;simp only [VR,PR] at e d;subst e;subst d;exact ⟨_,rfl,by simp only [VR,PR]⟩
  ·cases h
 ·cases h
theorem Qw {l:List AV} {cl:List Value} (a:aX g m S l cl) {v:AV} (h:xQ min2 l=some v) (b:Array TypeId) (ty:Nat):∃ cv,(Builtin.min_ b ty cl.toArray).run P w= .ok cv w∧VR g m S v cv:=by
 cases l with
 |nil=>simp [xQ] at h
 | cons x r=>cases cl with
  |nil=>simp [aX] at a
  |cons cx cr=>
   simp only [aX] at a;obtain ⟨cv,d,c⟩:=rJ (P:=P) (w:=w) (F:=Builtin.min2) (fun _ _ _ _ _=>LW) r cr x v cx a.2 a.1 h;exact ⟨cv,by simpa [Builtin.min_] using d,c⟩
theorem Qv {l:List AV} {cl:List Value} (a:aX g m S l cl) {v:AV} (h:xQ max2 l=some v) (b:Array TypeId) (ty:Nat):∃ cv,(Builtin.max_ b ty cl.toArray).run P w= .ok cv w∧VR g m S v cv:=by
 cases l with
 |nil=>simp [xQ] at h
 | cons x r=>cases cl with
  |nil=>simp [aX] at a
  |cons cx cr=>
   simp only [aX] at a;obtain ⟨cv,d,c⟩:=rJ (P:=P) (w:=w) (F:=Builtin.max2) (fun _ _ _ _ _=>LU) r cr x v cx a.2 a.1 h;exact ⟨cv,by simpa [Builtin.max_] using d,c⟩
end
end AM
