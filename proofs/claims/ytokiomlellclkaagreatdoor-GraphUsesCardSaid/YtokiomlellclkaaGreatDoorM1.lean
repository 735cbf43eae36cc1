/- The abstract machine over the code of the model, and the proof that it is sound. No conditions. -/
import Derived.WalkKit
import Derived.Deep.AppendSrc
import Derived.Deep.MidRow
import Derived.WalkLawsBesides
set_option linter.unusedSimpArgs false
set_option linter.unusedVariables false
open Nat renaming beq→υ,blt→Xq6,ble→Ψ,le_refl→ζ,le_trans→Xqg,add_zero→Xqo,add_assoc→Xxm,add_mul→Xx5,zero_add→Θ
open List renaming replicate→Xxl,range→Xqd,cons_append→Xqt,take_succ_cons→Xxj,map_cons→φ,getD_eq_getElem?_getD→Xqj,headD_eq_head?_getD→Xz0,head?_drop→Xv0,tail_drop→Xv4,getElem?_map→Ξ,getElem?_take→Xq9,getElem?_drop→Xxr,getElem?_eq_getElem→ν,drop_eq_nil_of_le→Xq0,length_cons→Γ,length_nil→Xqh
open UInt8 renaming ofNat→π
open BitVec renaming ofInt→Xze
open Bool renaming and_eq_true→δ,not_eq_true'→Xqi
open Option renaming map_eq_some_iff→Φ
namespace AM
open Go
inductive AV where
 |int (k:IntKind) (n:Int)
 |bool (b:Bool)
 |str (s:List UInt8)
 |agg (l:List AV)
 |tup (l:List AV)
 |nilS
 |sl (xs:List AV) (n:Nat) (nn:Bool)
 |ref (b ver i n:Nat)
 |own (xs:List AV) (n esz:Nat)
 |ptr (b ver off:Nat)
 |pp (xs:List AV) (off:Nat)
 |mr (b ver:Nat)
 |mp (ks vs:List AV)
 |nilP
 |fn (f:Nat) (first cap:List AV)
 |nilF
 |ifc (t:Nat) (v:AV)
 |nilI
 |raw (v:Value)
 |dead
inductive LK where
 |int (k:IntKind)
 |bool
 |str
 |sl
 |oth
inductive TD where
 |struct (fs:List (Nat × Nat × Nat))
 |array (n elem:Nat)
 |slice (elem:Nat)
 |int (k:IntKind)
 |str
 |bool
 |iface
 |ptr
 |func
 |map (k e:Nat)
 |oth
structure TI where
 d:TD
 size:Nat
 bytes:Nat
 zero:List AV
 lks:List LK
 cmp:Bool
structure AF where
 fn:Func
 keep:List Nat
 shared:Bool
inductive Tr (α:Type) where
 |nil
 |node (v:Option α) (l r:Tr α)
def Tr.get {α:Type}:Tr α→Nat→Option α
 | .nil,_=>none
 | .node v l r,n=>match υ n 0 with
  |true=>v
  |false=>match υ (n % 2) 1 with
   |true=>l.get ((n - 1) / 2)
   |false=>r.get ((n - 1) / 2)
structure AP where
 nty:Nat
 ty:Tr TI
 nfn:Nat
 fn:Tr AF
 gl:List (Option (List AV))
 mt:List (Nat × String × Nat):= []
def AP.mtAt (ap:AP) (t:Nat) (n:String):Option Nat:=(ap.mt.find? fun q=>υ q.1 t && q.2.1==n).map fun q=>q.2.2
def mtB (P:Program) (q:Nat × String × Nat):Bool:=match P.info? q.1 with
 | some i=>match i.methods.find? (fun m=>m.name==q.2.1) with
  |some m=>m.path.isEmpty && (match m.func,P.underlying q.1 with
   |some (f,true),some (.pointer _)=>υ f q.2.2
   |some (f,false),some (.pointer _)=>false
   |some (f,false),some _=>υ f q.2.2
   |_,_=>false)
  |none=>false
 |none=>false
def dN:Nat:=4611686018427387904
def UU:List AV→Option AV
 | [.agg ks,.agg vs]=>some (.mp ks vs)
 |_=>none
structure aP where
 cells:List AV
 ver:Nat
 fro:Bool
 fz:Nat
 esz:Nat
 pr:Bool
abbrev dK:=List (Nat × AV)
abbrev Hp:=List (Nat × aP)
def ah {α:Type}:List (Nat × α)→Nat→Option α
 | [],_=>none
 |(u,x)::r,t=>match υ u t with|true=>some x|false=>ah r t
def fM {α β:Type} (f:α→Option β):List α→Option (List β)
 | []=>some []
 |x::r=>match f x with
  |some y=>match fM f r with|some l=>some (y::l)|none=>none
  |none=>none
def dK.get (e:dK) (t:Nat):AV:=(ah e t).getD .dead
def AV.cells:AV→List AV
 | .agg l=>l
 |x=> [x]
def AV.toInt:AV→Int| .int _ n=>n|_=>0
def AV.toBool:AV→Bool| .bool b=>b|_=>false
def AV.toStr:AV→List UInt8| .str s=>s|_=> []
def AV.slX:AV→List AV| .sl xs _ _=>xs|_=> []
def AV.slN:AV→Nat| .sl _ n _=>n|_=>0
def QE:IntKind→Nat
 | .i8=>0| .i16=>1| .i32=>2| .i64=>3| .u8=>4| .u16=>5| .u32=>6| .u64=>7
def gp (a b:IntKind):Bool:=υ (QE a) (QE b)
def chk:LK→AV→Bool
 | .int k,.int k' _=>gp k k'
 | .bool,.bool _=>true
 | .str,.str _=>true
 | .sl,.sl _ _ _=>true
 | .sl,.nilS=>true
 | .oth,.dead=>false
 | .oth,.agg _=>false
 | .oth,.tup _=>false
 | .oth,.own _ _ _=>false
 | .oth,.raw _=>false
 | .oth,_=>true
 |_,_=>false
def eta:LK→AV→AV
 | .int k,c=> .int k c.toInt
 | .bool,c=> .bool c.toBool
 | .str,c=> .str c.toStr
 | .sl,c=> .sl c.slX c.slN false
 | .oth,c=>c
def kH:AV→Bool
 | .dead| .agg _| .tup _| .own _ _ _=>false
 | .raw _=>false
 |_=>true
mutual
def bZ:AV→List Nat
 | .ref b _ _ _=> [b]
 | .ptr b _ _=> [b]
 | .mr b _=> [b]
 | .agg l=>bD l
 | .tup l=>bD l
 | .fn _ f c=>bD f++bD c
 | .ifc _ v=>bZ v
 |_=> []
def bD:List AV→List Nat
 | []=> []
 |x::r=>bZ x++bD r
end
mutual
def ren (ρ:Nat→Nat→Option (Nat × Nat)):AV→AV
 | .ref b v i n=>match ρ b v with|some (b',v')=> .ref b' v' i n|none=> .dead
 | .ptr b v o=>match ρ b v with|some (b',v')=> .ptr b' v' o|none=> .dead
 | .mr b v=>match ρ b v with|some (b',v')=> .mr b' v'|none=> .dead
 | .agg l=> .agg (jV ρ l)
 | .tup l=> .tup (jV ρ l)
 | .fn f a c=> .fn f (jV ρ a) (jV ρ c)
 | .ifc t v=> .ifc t (ren ρ v)
 |x=>x
def jV (ρ:Nat→Nat→Option (Nat × Nat)):List AV→List AV
 | []=> []
 |x::r=>ren ρ x::jV ρ r
end
def FU:Value→AV
 | .int k n=> .int k n
 | .bool b=> .bool b
 | .string s=> .str s.data.toList
 | .pointer a=>match a with|none=> .nilP|some _=> .dead
 | .slice a n c=>match a,n,c with|none,0,0=> .nilS|_,_,_=> .dead
 | .nilFunc=> .nilF
 | .nilIface=> .nilI
 | .map a=>match a with|none=> .mp [] []|some _=> .dead
 |_=> .dead
def BB:Value→AV
 | .agg cs=> .agg (cs.toList.map FU)
 | .tuple vs=>match vs.toList with| []=> .tup []|_=> .dead
 |v=>FU v
def AP.tyAt (ap:AP) (t:Nat):Option TI:=match Xq6 t ap.nty with|true=>ap.ty.get t|false=>none
def AP.fnAt (ap:AP) (f:Nat):Option AF:=match Xq6 f ap.nfn with|true=>ap.fn.get f|false=>none
def kJ (l:List Nat) (a:Nat):Bool:=l.any (υ a)
def fP (l:List Nat):List Nat:=l.foldl (fun acc b=>if kJ acc b then acc else acc++ [b]) []
abbrev DC:=Option (AV × List (Nat × aP) × List Bool)
def aX (v:AV) (bs:List Bool:= []):DC:=some (v,[],bs)
def Ir (ty:Bool):List LK→List AV→List AV
 | [],_=> []
 |k::ks,ys=>(match ty with|true=>eta k (ys.headD .dead)|false=>ys.headD .dead)::Ir ty ks ys.tail
def PI (ty:Bool):List LK→List AV→List Bool
 | [],_=> []
 |k::ks,ys=>(match ty with|true=>chk k (ys.headD .dead)|false=>chk .oth (ys.headD .dead))::PI ty ks ys.tail
def jU (ty:Bool) (ks:List LK) (xs:List AV) (off:Nat):List AV:=Ir ty ks (xs.drop off)
def EY (ty:Bool) (ks:List LK) (xs:List AV) (off:Nat):List Bool:=PI ty ks (xs.drop off)
def Fv:TD→Bool
 | .struct _=>true
 | .array _ _=>true
 |_=>false
def nT (ti:TI) (cs:List AV):Option AV:=
 match Fv ti.d with
 |true=>some (.agg cs)
 |false=>match cs with| [c]=>some c|_=>none
def Ia (ti:TI) (rd:Nat→Option aP) (p:AV):DC:=
 match p with
 | .pp xs off=>(nT ti (jU true ti.lks xs off)).bind fun v=>aX v (EY true ti.lks xs off)
 | .ptr b ver off=>(rd b).bind fun B=>match υ B.ver ver && !(υ B.esz dN) with
  |true=>(nT ti (jU (Xq6 0 B.esz && B.pr) ti.lks B.cells off)).bind fun v=>aX v (EY (Xq6 0 B.esz && B.pr) ti.lks B.cells off)
  |false=>none
 |_=>none
def dR (xs:List AV) (off:Nat) (vs:List AV):List AV:=xs.take off++vs++xs.drop (off+vs.length)
def Kv (ti:TI) (rd:Nat→Option aP) (p v:AV):DC:=
 match p with
 | .ptr b ver off=>(rd b).bind fun B=>
  let vs:=v.cells
  let rs:=bD vs
  match υ B.ver ver && !B.fro && υ vs.length ti.size && vs.all kH && !(υ B.esz dN) with
  |true=>some (.dead,[(b,{B with cells:=dR B.cells off vs,pr:=B.pr && rs.isEmpty})],[Ψ (off+vs.length) B.cells.length])
  |false=>none
 |_=>none
def jH (nid:Nat) (cells:List AV) (esz:Nat):Nat × aP:=(nid,{cells,ver:=0,fro:=false,fz:=0,esz,pr:=(bD cells).isEmpty})
def tJ (cells:List AV):List (Nat × Nat × AV)→Option (List AV)
 | []=>some cells
 |(off,size,v)::r=>match υ v.cells.length size && Ψ (off+size) cells.length && v.cells.all kH with
  |true=>tJ (dR cells off v.cells) r
  |false=>none
def Jo (ap:AP) (ti:TI) (parts:List (Nat × AV)):DC:=
 match ti.d with
 | .struct fs=>(fM (fun (q:Nat × AV)=>(fs[q.1]?).map fun (x:Nat × Nat × Nat)=>(x.1,x.2.2,q.2)) parts).bind fun ps=>(tJ ti.zero ps).bind fun cs=>aX (.agg cs)
 | .array _ e=>(ap.tyAt e).bind fun te=>(tJ ti.zero (parts.map fun (i,v)=>(i*te.size,te.size,v))).bind fun cs=>aX (.agg cs)
 |_=>none
def gG (n:Nat) (z:List AV):List AV:=(Xxl n z).flatten
def qw (ap:AP) (nid:Nat) (ti:TI) (len:Nat) (parts:List (Nat × AV)):DC:=
 match ti.d with
 | .slice e=>(ap.tyAt e).bind fun te=>
  match Xq6 0 te.size && Ψ (len*te.size) (2^24) && υ te.zero.length te.size with
  |true=>(tJ (gG len te.zero) (parts.map fun (i,v)=>(i*te.size,te.size,v))).bind fun cs=>
   some (.ref nid 0 0 len,[jH nid cs te.size],[])
  |false=>none
 |_=>none
def Q4 (p:AV) (o:Nat):Option AV:=
 match p with
 | .ptr b v off=>some (.ptr b v (off+o))
 | .pp xs off=>some (.pp xs (off+o))
 |_=>none
def LD (v:AV):Option Int:=match v with| .int _ n=>some n|_=>none
def uw (ap:AP) (ti:TI) (rd:Nat→Option aP) (x i:AV):DC:=
 (LD i).bind fun i=>
 match ti.d with
 | .slice e=>(ap.tyAt e).bind fun te=>
  match x with
  | .sl xs n _=>aX (.pp xs (i.toNat*te.size)) [decide (0≤i),decide (i<n)]
  | .ref b ver j n=>(rd b).bind fun B=>match υ B.ver ver && υ B.esz te.size with
   |true=>aX (.ptr b ver ((j+i.toNat)*te.size)) [decide (0≤i),decide (i<n)]
   |false=>none
  |_=>none
 | .array n e=>(ap.tyAt e).bind fun te=>(Q4 x (i.toNat*te.size)).bind fun p=>aX p [decide (0≤i),decide (i<n)]
 |_=>none
def JG (ap:AP) (ti:TI) (x i:AV):DC:=
 (LD i).bind fun i=>
 match ti.d,x with
 | .str,.str s=>aX (.int .u8 (s.getD i.toNat 0).toNat) [decide (0≤i),decide (i<s.length)]
 | .array n e,.agg cs=>(ap.tyAt e).bind fun te=>
  (nT te (jU true te.lks cs (i.toNat*te.size))).bind fun v=>aX v (decide (0≤i)::decide (i<n)::EY true te.lks cs (i.toNat*te.size))
 |_,_=>none
def lm (v:Option AV) (d:Int):Option Int:=match v with|none=>some d|some (.int _ n)=>some n|some _=>none
def Kr (ap:AP) (ti:TI) (rd:Nat→Option aP) (x:AV) (lo hi mx:Option AV):DC:=
 match ti.d,x,mx with
 | .str,.str s,none=>(lm lo 0).bind fun l=>(lm hi s.length).bind fun h=>
   aX (.str ((s.take h.toNat).drop l.toNat)) [decide (0≤l),decide (l≤h),decide (h≤s.length)]
 | .slice e,.sl xs n nn,none=>(ap.tyAt e).bind fun te=>(lm lo 0).bind fun l=>(lm hi n).bind fun h=>
   aX (.sl ((xs.take (h.toNat*te.size)).drop (l.toNat*te.size)) (h.toNat - l.toNat) nn) [decide (0≤l),decide (l≤h),decide (h≤n)]
 | .slice e,.ref b ver j n,none=>(ap.tyAt e).bind fun te=>(rd b).bind fun B=>(lm lo 0).bind fun l=>(lm hi n).bind fun h=>
   match υ B.ver ver && υ B.esz te.size with
   |true=>aX (.ref b ver (j+l.toNat) (h.toNat - l.toNat)) [decide (0≤l),decide (l≤h),decide (h≤n)]
   |false=>none
 | .slice e,.nilS,none=>(ap.tyAt e).bind fun _=>(lm lo 0).bind fun l=>(lm hi 0).bind fun h=>aX .nilS [decide (l=0),decide (h=0)]
 |_,_,_=>none
def Y4 (d:TD) (x:AV):DC:=
 match d,x with
 | .array n _,_=>aX (.int .i64 n)
 | .str,.str s=>aX (.int .i64 s.length)
 | .slice _,.sl _ n _=>aX (.int .i64 n)
 | .slice _,.ref _ _ _ n=>aX (.int .i64 n)
 | .slice _,.nilS=>aX (.int .i64 0)
 |_,_=>none
def IY (size:Nat) (rd:Nat→Option aP) (x:AV):Option (List AV × Nat × Bool):=
 match x with
 | .sl xs n _=>some (xs,n,true)
 | .nilS=>some ([],0,true)
 | .str s=>some (s.map fun b=> .int .u8 b.toNat,s.length,true)
 | .ref b ver j n=>(rd b).bind fun B=>match υ B.ver ver && υ B.esz size && !(υ B.esz dN) with
  |true=>some ((B.cells.drop (j*size)).take (n*size),n,B.pr)
  |false=>none
 |_=>none
def IA:Nat:=2^40
def Et (b:Nat):Nat:=match Ψ b 128 with|true=>IA|false=>549755813888
def uT (nid:Nat) (te:TI) (rd:Nat→Option aP) (em:Bool) (s x:AV):DC:=
 (IY te.size rd x).bind fun (xs,n,pr)=>
 match Xq6 0 te.size && Ψ te.bytes 256 with
 |false=>none
 |true=>
 match s with
 | .nilS=>match em with
  |true=>aX .nilS [υ xs.length (n*te.size)]
  |false=>some (.ref nid 0 0 n,[(nid,⟨xs,0,false,0,te.size,pr⟩)],[υ xs.length (n*te.size),Ψ n (Et te.bytes)])
 | .ref b ver 0 m=>(rd b).bind fun B=>match υ B.ver ver && υ B.esz te.size && !(υ B.esz dN) with
  | true=>some (.ref b (ver+1) 0 (m+n),[(b,{B with cells:=B.cells.take (m*te.size)++xs,ver:=ver+1,pr:=B.pr && pr})],
    [υ xs.length (n*te.size),Ψ (m+n) (Et te.bytes),Ψ (m*te.size) B.cells.length, !B.fro||Ψ B.fz (m*te.size)])
  |false=>none
 |_=>none
def uo:AV→Option Nat
 | .sl _ n _=>some n
 | .nilS=>some 0
 | .str s=>some s.length
 | .ref _ _ _ n=>some n
 |_=>none
def vC (ρ:Operand→AV) (o:Op):Option Nat:=
 match o with
 | .call {callee:= .builtin .append,args,..}=>match args.toList with
  | [s,x]=>match ρ s with
   | .nilS=>uo (ρ x)
   |_=>none
  |_=>none
 |_=>none
def Q9:AV→Bool
 | .nilS=>false
 |_=>true
def uz (ap:AP) (nid:Nat) (ti:TI) (l c:AV):DC:=
 match ti.d,l,c with
 | .slice e,.int _ l,.int _ c=>(ap.tyAt e).bind fun te=>
  match Xq6 0 te.size && υ te.zero.length te.size && Ψ te.bytes 128 && (bD te.zero).isEmpty with
  |true=>some (.ref nid 0 0 l.toNat,[(nid,⟨gG l.toNat te.zero,0,false,0,te.size,te.zero.all Q9⟩)],[decide (0≤l),decide (l=c),decide (l≤2^40)])
  |false=>none
 |_,_,_=>none
def Jv (te:TI) (rd:Nat→Option aP) (x:AV):DC:=
 match x with
 | .nilS=>aX (.tup [])
 | .ref b ver i n=>(rd b).bind fun B=>match υ B.ver ver && !B.fro && υ B.esz te.size && υ te.zero.length te.size && (bD te.zero).isEmpty with
  |true=>some (.tup [],[(b,{B with cells:=dR B.cells (i*te.size) (gG n te.zero)})],[Ψ (i*te.size+n*te.size) B.cells.length])
  |false=>none
 |_=>none
def zX (ap:AP) (ts td:TI) (rd:Nat→Option aP) (x:AV):DC:=
 match ts.d,td.d,x with
 |_,.int k,.int _ n=>aX (.int k (k.wrap n))
 | .str,.str,.str s=>aX (.str s)
 | .slice e,.str,x=>(ap.tyAt e).bind fun te=>match te.d,x with
  | .int .u8,.str _=>none
  | .int .u8,x=>(IY 1 rd x).bind fun (xs,n,_)=>aX (.str (xs.map fun c=>π c.toInt.toNat)) [υ xs.length n,xs.all (chk (.int .u8))]
  |_,_=>none
 |_,_,_=>none
def Jy:LK→AV→AV→Option Bool
 | .int k,.int k1 a,.int k2 b=>match gp k k1 && gp k k2 with|true=>some (a==b)|false=>none
 | .bool,.bool a,.bool b=>some (a==b)
 | .str,.str a,.str b=>some (a==b)
 |_,_,_=>none
def ji:List LK→List AV→List AV→Option Bool
 | [],[],[]=>some true
 |k::ks,a::as,b::bs=>(Jy k a b).bind fun c=>(ji ks as bs).map fun d=>c && d
 |_,_,_=>none
def eqA (ti:TI) (a b:AV):Option Bool:=
 match ti.d,a,b with
 | .bool,.bool a,.bool b=>some (a==b)
 | .struct _,.agg xs,.agg ys=>match ti.cmp with|true=>ji ti.lks xs ys|false=>none
 | .ptr,.nilP,.nilP=>some true
 | .ptr,.nilP,.ptr _ _ _=>some false
 | .ptr,.nilP,.pp _ _=>some false
 | .ptr,.ptr _ _ _,.nilP=>some false
 | .ptr,.pp _ _,.nilP=>some false
 | .iface,.nilI,.ifc _ _=>some false
 | .iface,.ifc _ _,.nilI=>some false
 | .func,.nilF,.nilF=>some true
 | .func,.nilF,.fn _ _ _=>some false
 | .func,.fn _ _ _,.nilF=>some false
 | .slice _,.nilS,.nilS=>some true
 | .slice _,.ref _ _ _ _,.nilS=>some false
 | .slice _,.nilS,.ref _ _ _ _=>some false
 | .slice _,.sl _ _ _,.nilS=>some false
 | .slice _,.nilS,.sl _ _ _=>some false
 |_,_,_=>none
def Bz (a b:AV):List Bool:=
 match a,b with
 | .sl _ n false,.nilS=> [Xq6 0 n]
 | .nilS,.sl _ n false=> [Xq6 0 n]
 |_,_=> []
def fH:List UInt8→List UInt8→Bool
 |_,[]=>false
 | [],_::_=>true
 |a::x,b::y=>decide (a<b)||(a==b && fH x y)
def Yx (op:BinOp) (ti:TI) (x y:AV):DC:=
 match x,y with
 | .int k a,.int k' b=>
  match op with
  | .shl=>aX (.int k (k.wrap (a*2^(min b.toNat k.bits)))) [decide (0≤b)]
  | .shr=>aX (.int k (a.fdiv (2^(min b.toNat k.bits)))) [decide (0≤b)]
  | _=>match gp k k' with
   |false=>none
   |true=>match op with
    | .add=>aX (.int k (k.wrap (a+b)))
    | .sub=>aX (.int k (k.wrap (a - b)))
    | .mul=>aX (.int k (k.wrap (a*b)))
    | .quo=>aX (.int k (k.wrap (a.tdiv b))) [!(b==0)]
    | .rem=>aX (.int k (a.tmod b)) [!(b==0)]
    | .and=>aX (.int k (k.wrap (Xze k.bits a &&& Xze k.bits b).toNat))
    | .or=>aX (.int k (k.wrap (Xze k.bits a|||Xze k.bits b).toNat))
    | .xor=>aX (.int k (k.wrap (Xze k.bits a^^^Xze k.bits b).toNat))
    | .eql=>aX (.bool (a==b))
    | .neq=>aX (.bool (!(a==b)))
    | .lss=>aX (.bool (decide (a<b)))
    | .leq=>aX (.bool (decide (a≤b)))
    | .gtr=>aX (.bool (decide (b<a)))
    | .geq=>aX (.bool (decide (b≤a)))
    |_=>none
 | .str a,.str b=>
  match op with
  | .add=>aX (.str (a++b)) [Ψ (a.length+b.length) 9223372036854775807]
  | .eql=>aX (.bool (a==b))
  | .neq=>aX (.bool (!(a==b)))
  | .lss=>aX (.bool (fH a b))
  | .leq=>aX (.bool (fH a b||a==b))
  | .gtr=>aX (.bool (!(fH a b||a==b)))
  | .geq=>aX (.bool (!fH a b))
  |_=>none
 |x,y=>
  match op with
  | .eql=>(eqA ti x y).bind fun b=>aX (.bool b) (Bz x y)
  | .neq=>(eqA ti x y).bind fun b=>aX (.bool (!b)) (Bz x y)
  |_=>none
def unA (op:UnOp) (x:AV):DC:=
 match op,x with
 | .not,.bool b=>aX (.bool (!b))
 | .neg,.int k n=>aX (.int k (k.wrap (0 - n)))
 |_,_=>none
def min2 (a b:AV):Option AV:=match a,b with| .int k x,.int k' y=>(match gp k k' with|true=>some (.int k (if y<x then y else x))|false=>none)|_,_=>none
def max2 (a b:AV):Option AV:=match a,b with| .int k x,.int k' y=>(match gp k k' with|true=>some (.int k (if y>x then y else x))|false=>none)|_,_=>none
def G_ (f:AV→AV→Option AV):AV→List AV→Option AV
 |x,[]=>some x
 |x,y::r=>match f x y with|some z=>G_ f z r|none=>none
def wQ (f:AV→AV→Option AV):List AV→Option AV
 | []=>none
 |x::r=>G_ f x r
def EP (ap:AP) (x:AV) (asserted:Nat) (commaOk:Bool):DC:=
 (ap.tyAt asserted).bind fun ti=>
 match ti.d with
 | .iface=>none
 | _=>match x with
  | .ifc t v=>match υ t asserted with
   |true=>aX (match commaOk with|true=> .tup [v,.bool true]|false=>v)
   |false=>match commaOk with|true=>(nT ti ti.zero).bind fun z=>aX (.tup [z,.bool false])|false=>none
  | .nilI=>match commaOk with|true=>(nT ti ti.zero).bind fun z=>aX (.tup [z,.bool false])|false=>none
  |_=>none
def JB (ap:AP) (ti:TI) (x:AV) (f:Nat):DC:=
 match ti.d,x with
 | .struct fs,.agg cs=>(fs[f]?).bind fun (o,t,_)=>(ap.tyAt t).bind fun tf=>
  (nT tf (jU false tf.lks cs o)).bind fun v=>aX v (EY false tf.lks cs o)
 |_,_=>none
def tq:AV→List Nat
 | .ref b _ _ _=> [b]
 | .ptr b _ _=> [b]
 | .mr b _=> [b]
 |_=> []
def Za:AV→List Nat
 | .mr b _=> [b]
 |_=> []
def Rn (ρ:Operand→AV):Op→List Nat
 | .load _ a=>tq (ρ a)
 | .store _ a _=>tq (ρ a)
 | .indexAddr _ x _=>tq (ρ x)
 | .slice _ x _ _ _=>tq (ρ x)
 | .convert _ _ x=>tq (ρ x)
 | .lookup _ x _ _=>tq (ρ x)
 | .mapUpdate _ x _ _=>tq (ρ x)
 | .insert _ x _ _=>tq (ρ x)
 | .call {callee:= .builtin .append,args,..}=>fP (args.toList.flatMap fun x=>tq (ρ x))
 | .call {callee:= .builtin .len,args,..}=>args.toList.flatMap fun x=>Za (ρ x)
 | .call {callee:= .builtin .clear,args,..}=>args.toList.flatMap fun x=>tq (ρ x)
 |_=> []
def Eb:LK→AV→Bool
 | .int k,.int k' _=>gp k k'
 | .bool,.bool _=>true
 | .str,.str _=>true
 |_,_=>false
def kD:List LK→List AV→Bool
 | [],[]=>true
 |k::r,x::l=>Eb k x && kD r l
 |_,_=>false
def gJ (ti:TI) (x:AV):Bool:=match ti.d,x with
 | .int k,.int k' _=>gp k k'
 | .bool,.bool _=>true
 | .str,.str _=>true
 | .struct _,.agg l=>ti.cmp && kD ti.lks l
 |_,_=>false
def Ae:AV→AV→Bool
 | .int _ a,.int _ b=>a==b
 | .bool a,.bool b=>a==b
 | .str a,.str b=>a==b
 |_,_=>false
def Ff:List AV→List AV→Bool
 | [],[]=>true
 |a::r,b::q=>Ae a b && Ff r q
 |_,_=>false
def Ad:AV→AV→Bool
 | .int _ a,.int _ b=>a==b
 | .bool a,.bool b=>a==b
 | .str a,.str b=>a==b
 | .agg a,.agg b=>Ff a b
 |_,_=>false
def iC:List AV→List AV→AV→Option AV
 |k0::ks,v0::vs,k=>match Ad k k0 with|true=>some v0|false=>iC ks vs k
 |_,_,_=>none
def xn (ks:List AV) (k:AV):List AV:=match ks.any (Ad k) with|true=>ks|false=>ks++ [k]
def mY:List AV→List AV→AV→AV→List AV
 |k0::ks,v0::vs,k,v=>match Ad k k0 with|true=>v::vs|false=>v0::mY ks vs k v
 |_,_,_,v=> [v]
def Ov (rd:Nat→Option aP) (x:AV):Option (List AV × List AV):=
 match x with
 | .mp ks vs=>some (ks,vs)
 | .mr b ver=>(rd b).bind fun B=>match υ B.ver ver && υ B.esz dN with
  |true=>match B.cells with| [.agg ks,.agg vs]=>some (ks,vs)|_=>none
  |false=>none
 |_=>none
def LU (ok:Bool) (o:Option AV) (z:AV):AV:=match ok with|true=> .tup [o.getD z,.bool o.isSome]|false=>o.getD z
def FI (ap:AP) (ti:TI) (rd:Nat→Option aP) (x k:AV) (ok:Bool):DC:=
 match ti.d with
 | .map kt et=>(ap.tyAt kt).bind fun tk=>(ap.tyAt et).bind fun te=>(Ov rd x).bind fun q=>(nT te te.zero).bind fun z=>
   aX (LU ok (iC q.1 q.2 k) z) [gJ tk k,q.1.all (gJ tk)]
 |_=>none
def zi (ap:AP) (ti:TI) (rd:Nat→Option aP) (x k v:AV):DC:=
 match ti.d,x with
 | .map kt _,.mr b ver=>(ap.tyAt kt).bind fun tk=>(rd b).bind fun B=>match υ B.ver ver && υ B.esz dN && !B.fro with
  |true=>match B.cells with
   | [.agg ks,.agg vs]=>some (.dead,[(b,{B with cells:= [.agg (xn ks k),.agg (mY ks vs k v)],pr:=B.pr && (bZ v).isEmpty})],[gJ tk k,ks.all (gJ tk)])
   |_=>none
  |false=>none
 |_,_=>none
def opA (ap:AP) (nid:Nat) (ρ:Operand→AV) (rd:Nat→Option aP) (dec:Operand→Option Bool) (em:Bool) (o:Op):DC:=
 match o with
 | .move x=>aX (ρ x)
 | .assign x=>aX (ρ x)
 | .pick c a b=>match dec c with
  |some true=>aX (ρ a)
  |some false=>aX (ρ b)
  |none=>match ρ c,ρ a,ρ b with| .bool c,.bool x,.bool y=>aX (.bool (cond c x y))|_,_,_=>none
 | .alloc e=>(ap.tyAt e).bind fun te=>match Xq6 0 te.size && te.zero.all kH with|true=>some (.ptr nid 0 0,[jH nid te.zero 0],[])|false=>none
 | .box e x=>(ap.tyAt e).bind fun te=>let vs:=(ρ x).cells
  match vs.all kH with|true=>some (.ptr nid 0 0,[jH nid vs 0],[])|false=>none
 | .build t parts=>(ap.tyAt t).bind fun ti=>Jo ap ti (parts.toList.map fun (i,x)=>(i,ρ x))
 | .buildSlice t len parts=>(ap.tyAt t).bind fun ti=>qw ap nid ti len (parts.toList.map fun (i,x)=>(i,ρ x))
 | .load t a=>(ap.tyAt t).bind fun ti=>Ia ti rd (ρ a)
 | .store t a x=>(ap.tyAt t).bind fun ti=>Kv ti rd (ρ a) (ρ x)
 | .makeMap _ r=>match r with|none=>some (.mr nid 0,[(nid,⟨[.agg [],.agg []],0,false,0,dN,true⟩)],[])|some _=>none
 | .lookup t x k ok=>(ap.tyAt t).bind fun ti=>FI ap ti rd (ρ x) (ρ k) ok
 | .mapUpdate t x k v=>(ap.tyAt t).bind fun ti=>zi ap ti rd (ρ x) (ρ k) (ρ v)
 | .insert t x k v=>(ap.tyAt t).bind fun ti=>zi ap ti rd (ρ x) (ρ k) (ρ v)
 | .nilCheck x=>match ρ x with
  | .ptr b v o=>aX (.ptr b v o)
  | .pp xs o=>aX (.pp xs o)
  | .fn f a c=>aX (.fn f a c)
  | .ifc t v=>aX (.ifc t v)
  |_=>none
 | .binOp op t x y _=>(ap.tyAt t).bind fun ti=>Yx op ti (ρ x) (ρ y)
 | .unOp op _ x=>unA op (ρ x)
 | .convert s d x=>(ap.tyAt s).bind fun ts=>(ap.tyAt d).bind fun td=>zX ap ts td rd (ρ x)
 | .makeInterface t x=>(ap.tyAt t).bind fun ti=>match ti.d with| .iface=>none|_=>aX (.ifc t (ρ x))
 | .makeFunc (.func f) first cap=>aX (.fn f (first.toList.map ρ) (cap.toList.map ρ))
 | .makeSlice t l c=>(ap.tyAt t).bind fun ti=>uz ap nid ti (ρ l) (ρ c)
 | .slice t x lo hi mx=>(ap.tyAt t).bind fun ti=>Kr ap ti rd (ρ x) (lo.map ρ) (hi.map ρ) (mx.map ρ)
 | .fieldAddr s x f=>(ap.tyAt s).bind fun ti=>match ti.d with
  | .struct fs=>(fs[f]?).bind fun (o,_,sz)=>match Xq6 0 sz with|true=>(Q4 (ρ x) o).bind fun p=>aX p|false=>none
  |_=>none
 | .field t x f=>(ap.tyAt t).bind fun ti=>JB ap ti (ρ x) f
 | .indexAddr t x i=>(ap.tyAt t).bind fun ti=>uw ap ti rd (ρ x) (ρ i)
 | .index t x i=>(ap.tyAt t).bind fun ti=>JG ap ti (ρ x) (ρ i)
 | .typeAssert x _ asserted ok=>EP ap (ρ x) asserted ok
 | .extract t i=>match ρ t with| .tup l=>(l[i]?).bind fun v=>aX v|_=>none
 | .call {callee:= .builtin b,args,argTypes}=>
  match b with
  | .len=>(args[0]?).bind fun x=>(argTypes[0]?).bind fun t=>(ap.tyAt t).bind fun ti=>match ti.d with
   | .map _ _=>(Ov rd (ρ x)).bind fun q=>aX (.int .i64 q.1.length)
   |d=>Y4 d (ρ x)
  | .append=>match args.toList,argTypes.toList with
   | [s,x],[t,t1]=>(ap.tyAt t).bind fun ti=>(ap.tyAt t1).bind fun ti1=>match ti.d,ti1.d,ρ x with
    | .slice e,.str,.str y=>(ap.tyAt e).bind fun te=>match υ te.size 1 with|true=>uT nid te rd em (ρ s) (.str y)|false=>none
    | .slice _,.slice _,.str _=>none
    | .slice e,.slice _,y=>(ap.tyAt e).bind fun te=>uT nid te rd em (ρ s) y
    |_,_,_=>none
   |_,_=>none
  | .clear=>(args[0]?).bind fun x=>(argTypes[0]?).bind fun t=>(ap.tyAt t).bind fun ti=>match ti.d with
   | .slice e=>(ap.tyAt e).bind fun te=>Jv te rd (ρ x)
   |_=>none
  | .min=>(wQ min2 (args.toList.map ρ)).bind fun v=>aX v
  | .max=>(wQ max2 (args.toList.map ρ)).bind fun v=>aX v
  |_=>none
 |_=>none
def Ef (P:Program):Nat→TypeId→List LK
 |0,_=> [.oth]
 |n+1,t=>match P.underlying t with
  |some (.int k)=> [.int k]
  |some .bool=> [.bool]
  |some .string=> [.str]
  |some (.slice _)=> [.sl]
  |some (.struct fs)=>fs.toList.flatMap fun f=>Ef P n f.type
  |some (.array m e)=>(Xxl m (Ef P n e)).flatten
  |_=> [.oth]
def iT (P:Program):Option TypeDesc→TD
 |some (.int k)=> .int k
 |some .bool=> .bool
 |some .string=> .str
 |some (.slice e)=> .slice e
 |some (.array n e)=> .array n e
 |some (.struct fs)=> .struct (fs.toList.map fun f=>(f.offset,f.type,match P.info? f.type with|some i=>i.size|none=>0))
 |some (.interface _)=> .iface
 |some (.pointer _)=> .ptr
 |some (.func _ _ _)=> .func
 |some (.map k e)=> .map k e
 |_=> .oth
def vw (P:Program) (f:TypeId→Option (List LK)):List Field→Nat→Option (List LK)
 | [],_=>some []
 | x::r,off=>match f x.type with
  |some l=>match !(x.name== "_") && υ x.offset off && (match P.info? x.type with|some i=>υ i.size l.length|none=>false) with
   |true=>match vw P f r (off+l.length) with|some l'=>some (l++l')|none=>none
   |false=>none
  |none=>none
def iy (P:Program):Nat→TypeId→Option (List LK)
 |0,_=>none
 |n+1,t=>match P.underlying t with
  |some (.int k)=>some [.int k]
  |some .bool=>some [.bool]
  |some .string=>some [.str]
  |some (.struct fs)=>match P.stoodInHeld t with|true=>none|false=>vw P (iy P n) fs.toList 0
  |_=>none
def ZW (i:TypeInfo) (d:TypeDesc):Bool:=match i.zero,d with
 |some (.agg _),.struct _=>true
 |some (.agg _),.array _ _=>true
 |some (.agg _),_=>false
 |some _,.struct _=>false
 |some _,.array _ _=>false
 |some _,_=>true
 |none,_=>false
def P6 (P:Program) (d:TypeDesc):Bool:=match d with
 | .struct fs=>fs.toList.all fun f=>(P.info? f.type).isSome
 |_=>true
def CW (i:TypeInfo):List AV:=match i.zero with|some z=>z.cells.toList.map BB|none=> []
def Y6:LK→LK→Bool
 | .int a,.int b=>gp a b
 | .bool,.bool=>true
 | .str,.str=>true
 |_,_=>false
def Ee:List LK→List LK→Bool
 | [],[]=>true
 |a::r,b::q=>Y6 a b && Ee r q
 |_,_=>false
def Ue (P:Program) (t:TypeId):Bool:=match iy P 8 t with|some l=>Ee l (Ef P 8 t) && !P.eqGuardType P.depth t|none=>false
def Tj (P:Program) (t:TypeId):Option TI:=
 match P.info? t,P.underlying t with
 |some i,some d=>
  match υ (Ef P 8 t).length i.size && (ZW i d && P6 P d) && (CW i).all kH && υ (CW i).length i.size && i.zero.isSome && Xq6 i.size dN with
  |true=>some {d:=iT P (some d),size:=i.size,bytes:=i.bytes,zero:=CW i,lks:=Ef P 8 t,cmp:=Ue P t}
  |false=>none
 |_,_=>none
abbrev az:=Nat→Nat→Option Value
def ig (S S':az):Prop:=∀ k o v,S k o=some v→S' k o=some v
theorem ig.refl (S:az):ig S S:=fun _ _ _ h=>h
theorem ig.trans {S S' S'':az} (h:ig S S') (a:ig S' S''):ig S S'':=fun k o v e=>a k o v (h k o v e)
def iM (S:az) (b o:Nat) (vs:List Value):Prop:=∀ j u,vs[j]? =some u→S b (o+j)=some u∧u.oneCell'=true
mutual
def PR (S:az):AV→Value→Prop
 | .int k n,v=>v= .int k n
 | .bool b,v=>v= .bool b
 | .str s,v=>v= .string ⟨s.toArray⟩
 | .agg l,v=> ∃ vs,v= .agg vs.toArray∧bi S l vs
 | .tup l,v=> ∃ vs,v= .tuple vs.toArray∧bi S l vs
 | .nilS,v=>v= .slice none 0 0
 | .sl xs n nn,v=> ∃ a cap,v= .slice a n cap∧n≤cap∧(((a=none→nn=false)∧xs= []∧n=0∧cap=0)∨∃ b o vs,a=some ⟨b,o,none⟩∧bi S xs vs∧iM S b o vs)
 | .pp xs off,v=> ∃ b o vs,v= .pointer (some ⟨b,o+off,none⟩)∧bi S xs vs∧iM S b o vs
 | .mp ks vs,v=>(v= .map none∧ks= []∧vs= [])∨∃ b kk vv,v= .map (some b)∧S b 0=some (.agg kk.toArray)∧S b 1=some (.agg vv.toArray)∧bi S ks kk∧bi S vs vv
 | .nilP,v=>v= .pointer none
 | .raw x,v=>v=x
 | .fn f a c,v=> ∃ va vc,v= .func (.func f) va.toArray vc.toArray∧bi S a va∧bi S c vc
 | .nilF,v=>v= .nilFunc
 | .ifc t x,v=> ∃ u,v= .iface t u∧PR S x u
 | .nilI,v=>v= .nilIface
 | .dead,_=>True
 | .ref _ _ _ _,_=>False
 | .ptr _ _ _,_=>False
 | .mr _ _,_=>False
 | .own _ _ _,_=>False
def bi (S:az):List AV→List Value→Prop
 | [],[]=>True
 |x::r,v::vs=>PR S x v∧bi S r vs
 |_,_=>False
end
abbrev bJ:=Nat→Option aP
abbrev aH:=Nat→Nat × Nat
mutual
def VR (g:bJ) (m:aH) (S:az):AV→Value→Prop
 | .ref b ver i n,v=> ∃ B,g b=some B∧ver≤B.ver∧(∃ k o c',v= .slice (some ⟨k,o,none⟩) n c')∧(B.ver=ver→∃ o,v= .slice (some ⟨(m b).1,o,none⟩) n ((m b).2 - i)∧i+n≤(m b).2∧(i<(m b).2→o=i*B.esz)∧0<B.esz∧B.esz ≠ dN)
 | .ptr b ver off,v=> ∃ B,g b=some B∧ver≤B.ver∧(∃ k o,v= .pointer (some ⟨k,o,none⟩))∧(B.ver=ver→v= .pointer (some ⟨(m b).1,off,none⟩))
 | .mr b ver,v=> ∃ B,g b=some B∧ver≤B.ver∧(∃ k,v= .map (some k))∧(B.ver=ver→v= .map (some (m b).1))
 | .agg l,v=> ∃ vs,v= .agg vs.toArray∧aU g m S l vs
 | .tup l,v=> ∃ vs,v= .tuple vs.toArray∧aU g m S l vs
 | .fn f a c,v=> ∃ va vc,v= .func (.func f) va.toArray vc.toArray∧aU g m S a va∧aU g m S c vc
 | .ifc t x,v=> ∃ u,v= .iface t u∧VR g m S x u
 | .int k n,v=>PR S (.int k n) v
 | .bool b,v=>PR S (.bool b) v
 | .str s,v=>PR S (.str s) v
 | .nilS,v=>PR S .nilS v
 | .sl xs n nn,v=>PR S (.sl xs n nn) v
 | .pp xs off,v=>PR S (.pp xs off) v
 | .mp ks vs,v=>PR S (.mp ks vs) v
 | .nilP,v=>PR S .nilP v
 | .raw x,v=>PR S (.raw x) v
 | .nilF,v=>PR S .nilF v
 | .nilI,v=>PR S .nilI v
 | .dead,_=>True
 | .own _ _ _,_=>False
def aU (g:bJ) (m:aH) (S:az):List AV→List Value→Prop
 | [],[]=>True
 |x::r,v::vs=>VR g m S x v∧aU g m S r vs
 |_,_=>False
end
def bF (x y:AV):Prop:=∀ g m S v,VR g m S x v→VR g m S y v
inductive ng where
 |v (d:Nat) (x:AV)
 |b (d:Nat) (xs:List AV)
 |u (d:Nat)
 |f (d:Nat)
inductive gK where
 |ret (v:AV)
 |pan (v:AV)
structure Cx where
 cl:Bool
 orc:List Bool
 bs:List Bool
 ps:List Prop
 ans:List (gK × List aP)
 hs:List ng
inductive R (α:Type) where
 |ok (a:α) (c:Cx)
 |need
 |bad (n:Nat)
def R.bind {α β:Type} (r:R α) (f:α→Cx→R β):R β:=
 match r with
 | .ok a c=>f a c
 | .need=> .need
 | .bad n=> .bad n
def lit (o b:Bool):Bool:=match o with|true=>b|false=> !b
def Uk (c:Cx) (bs:List Bool):R Unit:=
 match c.cl with
 |true=>match bs.all id with|true=> .ok () c|false=> .bad 1
 |false=> .ok () {c with bs:=bs++c.bs}
def wJ (c:Cx) (b:Bool):R Bool:=
 match c.cl with
 |true=> .ok b c
 |false=>match c.orc with
  | []=> .need
  |o::r=> .ok o {c with orc:=r,bs:=lit o b::c.bs}
def Au (c:Cx) (dst:Option Nat) (v:AV):AV × Cx:=
 match c.hs,dst with
 | .v d x::r,some d'=>match υ d d' with
  |true=>(x,{c with hs:=r,ps:=bF v x::c.ps})
  |false=>(v,c)
 |_,_=>(v,c)
def Ar (c:Cx) (dst:Option Nat) (ups:List (Nat × aP)):List (Nat × aP) × Cx:=
 match c.hs,dst,ups with
 | .b d xs::r,some d',[(b,B)]=>match υ d d' with
  |true=>([(b,{B with cells:=xs})],{c with hs:=r,ps:=(B.cells=xs)::c.ps})
  |false=>(ups,c)
 |_,_,_=>(ups,c)
def vN (nid:Nat) (c:Cx) (dst:Option Nat) (v:AV) (ups:List (Nat × aP)):AV × List (Nat × aP) × Cx:=
 match c.hs,dst,v,ups with
 | .f d::r,some d',.ref b ver 0 n,[(b',B)]=>match υ d d' && (υ b nid && υ b' nid && υ ver B.ver && B.pr && !B.fro && υ B.cells.length (n*B.esz) && !υ n 0) with
  |true=>(.sl B.cells n true,[(b',{B with fro:=true,fz:=B.cells.length})],{c with hs:=r})
  |false=>(v,ups,c)
 |_,_,_,_=>(v,ups,c)
def Lr (c:Cx) (dst:Option Nat):Bool × Cx:=
 match c.hs,dst with
 | .u d::r,some d'=>match υ d d' with
  |true=>(true,{c with hs:=r})
  |false=>(false,c)
 |_,_=>(false,c)
abbrev bG:=Cx→AV→Nat→List AV→List aP→R (gK × List aP × AV)
def mG (rd:Nat→Option aP):Nat→List Nat→List Nat
 |0,l=>l
 |n+1,l=>
  let more:=l.flatMap fun b=>match rd b with|some B=>(match B.pr with|true=> []|false=>bD B.cells)|none=> []
  let l':=more.foldl (fun acc b=>if kJ acc b then acc else acc++ [b]) l
  match υ l'.length l.length with|true=>l|false=>mG rd n l'
def frz (rd:Nat→Option aP):Nat→AV→Option AV
 |0,_=>none
 | fuel+1,x=>
  let frzL (l:List AV):Option (List AV):=fM (frz rd fuel) l
  match x with
  | .ref b ver i n=>(rd b).bind fun B=>match υ B.ver ver with
   |true=>match B.pr with
    |true=>some (.sl ((B.cells.drop (i*B.esz)).take (n*B.esz)) n true)
    |false=>(frzL ((B.cells.drop (i*B.esz)).take (n*B.esz))).map fun l=> .sl l n true
   |false=>none
  | .ptr b ver off=>(rd b).bind fun B=>match υ B.ver ver && !(υ B.esz dN) with
   |true=>match B.pr with
    |true=>some (.pp B.cells off)
    |false=>(frzL B.cells).map fun l=> .pp l off
   |false=>none
  | .mr b ver=>(rd b).bind fun B=>match υ B.ver ver && υ B.esz dN with
   |true=>match B.pr with
    |true=>UU B.cells
    |false=>(frzL B.cells).bind UU
   |false=>none
  | .agg l=>(frzL l).map .agg
  | .tup l=>(frzL l).map .tup
  | .fn f a c=>(frzL a).bind fun a=>(frzL c).map fun c=> .fn f a c
  | .ifc t v=>(frz rd fuel v).map (.ifc t)
  | .own _ _ _=>none
  |x=>some x
def mM (l:List Nat) (b:Nat):Option Nat:=match l with
 | []=>none
 |c::r=>match υ c b with|true=>some 0|false=>(mM r b).map (· +1)
def xk (xs:List AV) (esz:Nat):aP:={cells:=xs,ver:=0,fro:=false,fz:=0,esz,pr:=true}
def eF (nid:Nat):List AV→List AV × List aP
 | []=>([],[])
 | .own xs n esz::r=>match eF (nid+1) r with|(l,bs)=>(.ref nid 0 0 n::l,xk xs esz::bs)
 |x::r=>match eF nid r with|(l,bs)=>(x::l,bs)
def iR (nid:Nat):AV→AV × List aP
 | .tup l=>match eF nid l with|(l,bs)=>(.tup l,bs)
 | .own xs n esz=>(.ref nid 0 0 n,[xk xs esz])
 |x=>(x,[])
def BA:Nat→List aP→List (Nat × aP)
 |_,[]=> []
 |n,B::r=>(n,B)::BA (n+1) r
def Jc:List Nat→List aP→List (Nat × aP)
 |b::r,B::q=>(b,B)::Jc r q
 |_,_=> []
def oP:List Nat→Bool
 | []=>true
 |b::r=> !kJ r b && oP r
def yI (ρ:Nat→Nat→Option (Nat × Nat)) (v:Nat) (B:aP):aP:={B with cells:=(match B.pr with|true=>B.cells|false=>jV ρ B.cells),ver:=v+B.ver}
def KD (nid:Nat) (fp:List Nat) (vers:Nat→Nat) (n:Nat):Nat→Nat→Option (Nat × Nat):=fun p v=>
 match fp[p]? with
 |some b=>some (b,vers b+v)
 |none=>match Xq6 p n with|true=>some (nid+(p - fp.length),v)|false=>none
structure Ph where
 out:gK
 ups:List (Nat × aP)
 fp:List Nat
 md:AV
def qy (ap:AP) (H:bG) (rd:Nat→Option aP) (nid:Nat) (md:AV) (f:Nat) (args:List AV) (c:Cx):R Ph:=
 let fp:=mG rd 6 (fP (bD args))
 let rd:=fun b=>match kJ fp b with|true=>rd b|false=>none
 let shared:=match ap.fnAt f with|some F=>F.shared|none=>false
 match shared with
 | false=>
  match fM (frz rd 6) args with
  |none=> .bad 10
  |some args'=>
   (H c md f args' []).bind fun (out,h',md) c=>
   match h' with
   |_::_=> .bad 14
   | []=>
   let mark:=fp.filterMap fun b=>(rd b).map fun B=>(b,{B with fro:=true,fz:=B.cells.length})
   match out with
   | .ret v=>match iR nid v with|(v,bs)=>match Ψ bs.length 4 with|true=> .ok {out:= .ret v,ups:=BA nid bs++mark,fp,md} c|false=> .bad 13
   | .pan v=> .ok {out:= .pan v,ups:=mark,fp,md} c
 | true=>
  let vers:=fun b=>match rd b with|some B=>B.ver|none=>0
  let ρ:Nat→Nat→Option (Nat × Nat):=fun b v=>match υ v (vers b) with|true=>(mM fp b).map fun p=>(p,0)|false=>none
  match fM rd fp with
  |none=> .bad 11
  | some bl=>
   (H c md f (jV ρ args) (bl.map fun B=> {B with cells:=(match B.pr with|true=>B.cells|false=>jV ρ B.cells),ver:=0})).bind fun (out,h',md) c=>
   match Ψ fp.length h'.length && oP fp with
   |false=> .bad 12
   |true=>
    let ρ':=KD nid fp vers h'.length
    let ups:=(Jc fp h').map fun (b,B)=>(b,yI ρ' (vers b) B)
    let ex:=(h'.drop fp.length).map (yI ρ' 0)
    match out with
    | .ret v=>match iR (nid+(h'.length - fp.length)) (ren ρ' v) with|(v,bs)=>match Ψ ((h'.length - fp.length)+bs.length) 4 with|true=> .ok {out:= .ret v,ups:=BA nid (ex++bs)++ups,fp,md} c|false=> .bad 13
    | .pan v=>match Ψ (h'.length - fp.length) 4 with|true=> .ok {out:= .pan (ren ρ' v),ups:=BA nid (ex++ [])++ups,fp,md} c|false=> .bad 13
inductive aY where
 |normal
 |exit (id:Nat)
 |ret
 |panic (v:AV)
structure St where
 env:dK
 hp:Hp
 md:AV
 dfs:List (Nat × List AV)
structure uf where
 rt:List Nat
 wt:List Nat
 rb:List Nat
 wb:List Nat
structure RS where
 env:dK
 hp:Hp
 md:AV
 dfs:List (Nat × List AV)
 dec:List (Nat × Bool)
 feet:List uf
def lw (l:List Operand):List Nat:=l.filterMap fun| .tmp t=>some t|_=>none
def Fa (o:Oper):List Nat:=match o.dst with|some d=> [d]|none=> []
def mX (env:dK) (dst:Option Nat) (v:AV):dK:=match dst with|some d=>(d,v)::env|none=>env
def pW (ap:AP) (env:dK):Operand→AV
 | .tmp t=>env.get t
 | .const v=>BB v
 | .global g=>match (ap.gl[g]?).join with|some xs=> .pp xs 0|none=> .dead
 | .func f=> .fn f [] []
def JE (ops:List Oper) (env:dK) (dec:List (Nat × Bool)) (o:Oper) (c:Cx):R (Bool × List (Nat × Bool)):=
 match o.guard with
 |none=> .ok (true,dec) c
 | some (j,want)=>
  match (ops[j]?).bind (·.dst) with
  |none=> .bad 20
  | some s=>match ah dec s with
   |some b=> .ok (lit want b,dec) c
   |none=>match env.get s with
    | .bool b=>(wJ c b).bind fun b' c=> .ok (lit want b',(s,b')::dec) c
    | .tup []=> .ok (false,dec) c
    |_=> .bad 21
def eU (ops:List Oper) (o:Oper):List Nat:=
 match o.guard with
 |none=> []
 |some (j,_)=>match (ops[j]?).bind (·.dst) with|none=> []|some s=> [s]
def KQ (dec:List (Nat × Bool)) (o:Oper):Bool:=match o.dst with|none=>true|some d=>match ah dec d with|none=>true|some _=>false
def ET (ap:AP) (H:bG) (nid:Nat) (o:Oper) (s:RS) (rt:List Nat) (dec:List (Nat × Bool)) (f:Nat) (argsA:List AV) (c:Cx):R (RS × Option AV):=
 (qy ap H (ah s.hp) nid .dead f argsA c).bind fun r c=>
 let foot:uf:={rt,wt:=Fa o,rb:=r.fp,wb:=r.ups.map fun (q:Nat × aP)=>q.1}
 match Lr c o.dst with
 | (true,c)=>match r.out with
  | .ret v=>match r.ups.all (fun (q:Nat × aP)=>kJ r.fp q.1) with
   |true=> .ok ({s with env:=mX s.env o.dst v,dec,feet:={rt,wt:=Fa o,rb:=r.fp,wb:= []}::s.feet},none) {c with ps:=(r.ups.map (fun (q:Nat × aP)=>some q.2)=r.ups.map (fun (q:Nat × aP)=>ah s.hp q.1))::c.ps}
   |false=> .bad 36
  | .pan _=> .bad 37
 |(false,c)=>match r.out with
  | .ret v=> .ok ({s with env:=mX s.env o.dst v,hp:=r.ups++s.hp,dec,feet:=foot::s.feet},none) c
  | .pan v=> .ok ({s with hp:=r.ups++s.hp,dec,feet:=foot::s.feet},some v) c
def I8 (ap:AP) (H:bG) (nid:Nat) (ops:List Oper) (o:Oper) (s:RS) (c:Cx):R (RS × Option AV):=
 (JE ops s.env s.dec o c).bind fun (run,dec) c=>
 let rt:=lw o.op.operands.toList++eU ops o
 match KQ dec o with
 |false=> .bad 35
 |true=>
 match run with
 |false=> .ok ({s with env:=mX s.env o.dst (.tup []),dec,feet:={rt,wt:=Fa o,rb:= [],wb:= []}::s.feet},none) c
 | true=>
  let ρ:=pW ap s.env
  let rdAll:=ah s.hp
  match o.op with
  | .call {callee:= .value g,args,..}=>
   match ρ g with
   | .fn f first cap=>ET ap H nid o s rt dec f (first++args.toList.map ρ++cap) c
   |_=> .bad 30
  | .call {callee:= .invoke g name,args,..}=>
   match ρ g with
   | .ifc t v=>match ap.mtAt t name with
    |some f=>ET ap H nid o s rt dec f (v::args.toList.map ρ) c
    |none=> .bad 38
   |_=> .bad 39
  | .call {callee:= .builtin .recover,..}=>
   match s.md with
   | .nilI=> .ok ({s with env:=mX s.env o.dst .nilI,dec,feet:={rt,wt:=Fa o,rb:= [],wb:= []}::s.feet},none) c
   | .ifc t v=> .ok ({s with env:=mX s.env o.dst (.ifc t v),md:= .nilI,dec,feet:={rt,wt:=Fa o,rb:= [],wb:= []}::s.feet},none) c
   |_=> .bad 33
  | .defer {callee:= .value g,args,..}=>
   match ρ g with
   | .fn f first cap=> .ok ({s with env:=mX s.env o.dst .dead,dfs:=(f,first++args.toList.map ρ++cap)::s.dfs,dec,feet:={rt,wt:=Fa o,rb:= [],wb:= []}::s.feet},none) c
   |_=> .bad 34
  | .panic x=>
   match ρ x with
   | .ifc t v=> .ok ({s with dec},some (.ifc t v)) c
   |_=> .bad 31
  | op=>
   let fp:=Rn ρ op
   let rd:=fun b=>match kJ fp b with|true=>rdAll b|false=>none
   let decs:Operand→Option Bool:=fun| .tmp t=>ah dec t|_=>none
   (match vC ρ op with|some n=>wJ c (υ n 0)|none=> .ok false c).bind fun em c=>
   match opA ap nid ρ rd decs em op with
   |none=> .bad 32
   | some (v,ups,bs)=>(Uk c bs).bind fun _ c=>
    match vN nid c o.dst v ups with
    |(v,ups,c)=>match Au c o.dst v with
    |(v,c)=>match Ar c o.dst ups with
     |(ups,c)=> .ok ({s with env:=mX s.env o.dst v,hp:=ups++s.hp,dec,feet:={rt,wt:=Fa o,rb:=fp,wb:=ups.map fun (q:Nat × aP)=>q.1}::s.feet},none) c
def m_ (ap:AP) (H:bG) (ops:List Oper):List Oper→Nat→RS→Cx→R (RS × Option AV)
 | [],_,s,c=> .ok (s,none) c
 | o::r,nid,s,c=>(I8 ap H nid ops o s c).bind fun (s,p) c=>
  match p with
  |some v=> .ok (s,some v) c
  |none=>match s.feet with
   |f::_=>match f.wb.all (fun x=>Xq6 x (nid+4)) with|true=>m_ ap H ops r (nid+4) s c|false=> .bad 43
   | []=> .bad 44
def Bf (a b:List Nat):Bool:=a.any (kJ b)
def iY (a b:uf):Bool:=Bf a.wt b.rt||Bf a.wt b.wt||Bf a.rt b.wt||Bf a.wb b.rb||Bf a.wb b.wb||Bf a.rb b.wb
def qO (n:Nat) (bef:List Nat) (feet:List uf):Bool:=
 let l:=feet.reverse.zipIdx
 l.all fun (a,i)=>l.all fun (b,j)=> !(Xq6 i j)|| !(iY a b||b.wb.any fun x=>Ψ (n+4*i) x && Xq6 x (n+4*i+4))||(bef.getD j 0).testBit i
def Ac (keep:List Nat) (env:dK):List Nat:=keep.flatMap fun t=>bZ (env.get t)
def norm (base:Nat) (keep:List Nat) (s:St):St:=
 let env:=s.env
 let hp:=s.hp
 let rd:=ah hp
 let ids:=mG rd 20 (fP (mG rd 20 (Xqd base)++Ac keep env++s.dfs.flatMap fun d=>bD d.2))
 let ids:=ids.filter fun b=>(rd b).isSome
 let ρ:Nat→Nat→Option (Nat × Nat):=fun b v=>match rd b with
  |some B=>match υ B.ver v with
   |true=>(mM ids b).map fun p=>(p,match Xq6 p base with|true=>v|false=>0)
   |false=>none
  |none=>none
 {env:=keep.map fun t=>(t,ren ρ (env.get t))
  hp:=ids.zipIdx.filterMap fun (b,p)=>(rd b).map fun B=>(p,{B with cells:=(match B.pr with|true=>B.cells|false=>jV ρ B.cells),ver:=match Xq6 p base with|true=>B.ver|false=>0})
  md:=s.md
  dfs:=s.dfs.map fun d=>(d.1,jV ρ d.2)}
def eu:Hp→Nat
 | []=>0
 |(b,_)::r=>match Xq6 b (eu r) with|true=>eu r|false=>b+1
def oH (ops:List Oper):Bool:=ops.zipIdx.all fun (o,i)=>o.after.toList.all fun e=> !Region.binds .any e||Xq6 e.on i
def F7 (ap:AP) (H:bG) (base:Nat) (keep:List Nat) (ops:List Oper) (draw:Bool) (s:St) (c:Cx):R (aY × St):=
 (m_ ap H ops ops (eu s.hp) {env:=s.env,hp:=s.hp,md:=s.md,dfs:=s.dfs,dec:= [],feet:= []} c).bind fun (s',p) c=>
 match p with
 | some v=>match draw with
  |true=> .bad 40
  |false=>match (bZ v).isEmpty with
   |true=> .ok (.panic v,norm base keep ⟨s'.env,s'.hp,s'.md,s'.dfs⟩) c
   |false=> .ok (.panic v,⟨s'.env,s'.hp,s'.md,s'.dfs⟩) c
 |none=>
  match !draw||(qO (eu s.hp) (Region.before ops.toArray).toList s'.feet && oH ops && υ s'.dfs.length s.dfs.length) with
  |true=> .ok (.normal,norm base keep ⟨s'.env,s'.hp,s'.md,s'.dfs⟩) c
  |false=> .bad 41
def LG (f:St→Cx→R (aY × St)):Nat→St→Cx→R (aY × St)
 |0,_,_=> .bad 50
 |n+1,s,c=>(f s c).bind fun (e,s) c=>match e with
  | .normal=>LG f n s c
  |e=> .ok (e,s) c
def jC (ap:AP) (H:bG) (base:Nat) (keep:List Nat) (lf:Nat):Code→St→Cx→R (aY × St)
 | .skip,s,c=> .ok (.normal,s) c
 | .label _,s,c=> .ok (.normal,s) c
 | .region _ ops draw,s,c=>F7 ap H base keep ops.toList draw s c
 | .seq a b,s,c=>(jC ap H base keep lf a s c).bind fun (e,s) c=>match e with
  | .normal=>jC ap H base keep lf b s c
  |e=> .ok (e,s) c
 | .cond t a b,s,c=>match pW ap s.env t with
  | .bool x=>(wJ c x).bind fun x c=>match x with
   |true=>jC ap H base keep lf a s c
   |false=>jC ap H base keep lf b s c
  |_=> .bad 60
 | .block id b,s,c=>(jC ap H base keep lf b s c).bind fun (e,s) c=>match e with
  | .exit id'=>match υ id' id with|true=> .ok (.normal,s) c|false=> .ok (.exit id',s) c
  |e=> .ok (e,s) c
 | .loop b,s,c=>LG (jC ap H base keep lf b) lf s c
 | .exit id,s,c=> .ok (.exit id,s) c
 | .ret,s,c=> .ok (.ret,s) c
 | .scope b,s,c=>jC ap H base keep lf b s c
 |_,_,_=> .bad 61
def r_ (ap:AP) (env:dK) (hp:Hp):ResultVar→Option (AV × List Bool)
 | .tmp t=>some (env.get t,[])
 | .cell a t=>(ap.tyAt t).bind fun ti=>(Ia ti (ah hp) (env.get a)).map fun (v,_,bs)=>(v,bs)
def dX (l:List Nat) (b:Nat):Nat:=(l.filter (υ b)).length
def Uy (base:Nat) (rd:Nat→Option aP) (v:AV):Option AV:=
 let fp:=mG rd 6 (fP (bZ v))
 match fp.all (fun b=>Ψ base b) with
 |true=>frz (fun b=>match kJ fp b with|true=>rd b|false=>none) 6 v
 |false=>none
def lX (base:Nat) (rd:Nat→Option aP) (all:List Nat) (v:AV):Option AV:=
 let frzO (v:AV):Option AV:=match (bZ v).all (fun b=>Xq6 b base) with|true=>some v|false=>Uy base rd v
 match v with
 | .ref b ver 0 n=>match rd b with
  |some B=>match Ψ base b && υ B.ver ver && !B.fro && B.pr && υ (dX all b) 1 && Xq6 0 B.esz with
   |true=>some (.own (B.cells.take (n*B.esz)) n B.esz)
   |false=>frzO v
  |none=>none
 |v=>frzO v
def ag (f:Func):Code:=f.body.getD .skip
def eQ (md:AV) (args:List AV) (h:List aP):St:=
 {env:=args.zipIdx.map fun (x,i)=>(i,x),hp:=h.zipIdx.map fun (B,i)=>(i,B),md,dfs:= []}
def abK:AV→Bool
 | .nilI=>true
 | .ifc _ _=>true
 |_=>false
def AY (ap:AP) (H:bG):List (Nat × List AV)→AV→Hp→Cx→R (AV × Hp)
 | [],mode,hp,c=> .ok (mode,hp) c
 |(f,args)::r,mode,hp,c=>
  match abK mode && (bZ mode).isEmpty with
  |false=> .bad 78
  |true=>
  (qy ap H (ah hp) (eu hp) mode f args c).bind fun q c=>
  match q.out with
  | .ret _=>AY ap H r q.md (q.ups++hp) c
  | .pan _=> .bad 75
def OX (rd:Nat→Option aP) (base:Nat):Nat:=(mG rd 20 (Xqd base)).length
def rZ (ap:AP) (base:Nat) (F:Func) (env:dK) (hp:Hp) (c:Cx):R (gK × List aP):=
 let rd:=ah hp
 let n:=OX rd base
 match fM (r_ ap env hp) F.results.toList,fM rd (Xqd n) with
 |some vs,some h'=>
  match h'.all (fun B=>B.pr||(bD B.cells).all fun b=>Xq6 b n) with
  |false=> .bad 76
  |true=>
  (Uk c (vs.flatMap fun (q:AV × List Bool)=>q.2)).bind fun _ c=>
  let all:=vs.flatMap fun (q:AV × List Bool)=>mG rd 6 (fP (bZ q.1))
  match fM (lX n rd all) (vs.map fun (q:AV × List Bool)=>q.1) with
  |some [v]=> .ok (.ret v,h') c
  |some l=> .ok (.ret (.tup l),h') c
  |none=> .bad 70
 |_,_=> .bad 71
def FY (base:Nat) (v:AV) (hp:Hp) (c:Cx):R (gK × List aP):=
 let n:=OX (ah hp) base
 match lX n (ah hp) (mG (ah hp) 6 (fP (bZ v))) v,fM (ah hp) (Xqd n) with
 |some v,some h'=>
  match h'.all (fun B=>B.pr||(bD B.cells).all fun b=>Xq6 b n) with
  |false=> .bad 77
  |true=> .ok (.pan v,h') c
 |_,_=> .bad 72
def yX (ap:AP) (H:bG) (base:Nat) (F:Func) (e:aY) (s:St) (c:Cx):R (gK × List aP × AV):=
 let go (mode:AV):R (gK × List aP × AV):=
  (AY ap H s.dfs mode s.hp c).bind fun (mode,hp) c=>
  match mode with
  | .nilI=>(rZ ap base F s.env hp c).bind fun (o,h) c=> .ok (o,h,s.md) c
  | .ifc t v=>(FY base (.ifc t v) hp c).bind fun (o,h) c=> .ok (o,h,s.md) c
  |_=> .bad 74
 match e with
 | .normal| .ret=>go .nilI
 | .panic (.ifc t v)=>match (bZ v).isEmpty with|true=>go (.ifc t v)|false=> .bad 79
 |_=> .bad 73
def Pz (ap:AP) (H:bG) (lf:Nat) (md:AV) (F:AF) (args:List AV) (h:List aP) (c:Cx):R (gK × List aP × AV):=
 match ag F.fn with
 | .seq (.region _ ops false) rest=>
  match ops.toList with
  | o ::r=>
   match o.op,o.guard,o.dst with
   | .call {callee:= .builtin .recover,..},none,some d=>
    let s0:=eQ .dead args h
    (m_ ap H (o::r) r (eu s0.hp) {env:=(d,md)::s0.env,hp:=s0.hp,md:= .dead,dfs:= [],dec:= [],feet:= []} c).bind fun (s,p) c=>
    match p with
    |some _=> .bad 81
    | none=>(jC ap H h.length F.keep lf rest (norm h.length F.keep ⟨s.env,s.hp,s.md,s.dfs⟩) c).bind fun (e,s) c=>
     match s.dfs with
     |_::_=> .bad 82
     | []=>match e with
      | .normal| .ret=>(rZ ap h.length F.fn s.env s.hp c).bind fun (o,h) c=> .ok (o,h,.nilI) c
      |_=> .bad 83
   |_,_,_=> .bad 84
  | []=> .bad 85
 |_=> .bad 86
def kR (ap:AP) (H:bG) (lf:Nat) (md:AV) (f:Nat) (args:List AV) (h:List aP) (c:Cx):R (gK × List aP × AV):=
 match ap.fnAt f with
 |none=> .bad 80
 |some F=>match md with
  | .dead=>(jC ap H h.length F.keep lf (ag F.fn) (eQ .dead args h) c).bind fun (e,s) c=>yX ap H h.length F.fn e s c
  |md=>match abK md && (bZ md).isEmpty with|true=>Pz ap H lf md F args h c|false=> .bad 87
theorem jE {S:az}:∀ {l:List AV} {vs:List Value},bi S l vs→l.length=vs.length
 | [],[],_=>rfl
 |_::_,_::_,h=>by simp only [bi] at h;simp [jE h.2]
 | [],_::_,h=>by simp [bi] at h
 |_::_,[],h=>by simp [bi] at h
theorem aW {g:bJ} {m:aH} {S:az}:∀ {l:List AV} {vs:List Value},aU g m S l vs→l.length=vs.length
 | [],[],_=>rfl
 |_::_,_::_,h=>by simp only [aU] at h;simp [aW h.2]
 | [],_::_,h=>by simp [aU] at h
 |_::_,[],h=>by simp [aU] at h
theorem Kz {S:az}:∀ {l:List AV} {vs:List Value} (_:bi S l vs) (i:Nat) {x:AV},l[i]? =some x→∃ v,vs[i]? =some v∧PR S x v
 | [],[],_,i,x,hx=>by simp at hx
 |a::l,v::vs,h,0,x,hx=>by simp only [bi] at h;simp at hx;subst hx;exact ⟨v,rfl,h.1⟩
 |a::l,v::vs,h,i+1,x,hx=>by simp only [bi] at h;simp at hx;simpa using Kz h.2 i hx
 | [],_::_,h,_,_,_=>by simp [bi] at h
 |_::_,[],h,_,_,_=>by simp [bi] at h
theorem oq {g:bJ} {m:aH} {S:az}:∀ {l:List AV} {vs:List Value} (_:aU g m S l vs) (i:Nat) {x:AV},l[i]? =some x→∃ v,vs[i]? =some v∧VR g m S x v
 | [],[],_,i,x,hx=>by simp at hx
 |a::l,v::vs,h,0,x,hx=>by simp only [aU] at h;simp at hx;subst hx;exact ⟨v,rfl,h.1⟩
 |a::l,v::vs,h,i+1,x,hx=>by simp only [aU] at h;simp at hx;simpa using oq h.2 i hx
 | [],_::_,h,_,_,_=>by simp [aU] at h
 |_::_,[],h,_,_,_=>by simp [aU] at h
theorem iK {S:az}:∀ {l l':List AV} {vs vs':List Value},bi S l vs→bi S l' vs'→bi S (l++l') (vs++vs')
 | [],_,[],_,_,h'=>by simpa using h'
 |_::_,_,_::_,_,h,h'=>by simp only [bi] at h;simp only [Xqt,bi];exact ⟨h.1,iK h.2 h'⟩
 | [],_,_::_,_,h,_=>by simp [bi] at h
 |_::_,_,[],_,h,_=>by simp [bi] at h
theorem fC {g:bJ} {m:aH} {S:az}:∀ {l l':List AV} {vs vs':List Value},aU g m S l vs→aU g m S l' vs'→aU g m S (l++l') (vs++vs')
 | [],_,[],_,_,h'=>by simpa using h'
 |_::_,_,_::_,_,h,h'=>by simp only [aU] at h;simp only [Xqt,aU];exact ⟨h.1,fC h.2 h'⟩
 | [],_,_::_,_,h,_=>by simp [aU] at h
 |_::_,_,[],_,h,_=>by simp [aU] at h
theorem jf {S:az}:∀ (n:Nat) {l:List AV} {vs:List Value},bi S l vs→bi S (l.take n) (vs.take n)
 |0,_,_,_=>by simp [bi]
 |n+1,[],[],_=>by simp [bi]
 |n+1,_::_,_::_,h=>by simp only [bi] at h;simp only [Xxj,bi];exact ⟨h.1,jf n h.2⟩
 |_+1,[],_::_,h=>by simp [bi] at h
 |_+1,_::_,[],h=>by simp [bi] at h
theorem ny {S:az}:∀ (n:Nat) {l:List AV} {vs:List Value},bi S l vs→bi S (l.drop n) (vs.drop n)
 |0,_,_,h=>by simpa using h
 |n+1,[],[],_=>by simp [bi]
 |n+1,_::_,_::_,h=>by simp only [bi] at h;simpa using ny n h.2
 |_+1,[],_::_,h=>by simp [bi] at h
 |_+1,_::_,[],h=>by simp [bi] at h
theorem nG {g:bJ} {m:aH} {S:az}:∀ (n:Nat) {l:List AV} {vs:List Value},aU g m S l vs→aU g m S (l.take n) (vs.take n)
 |0,_,_,_=>by simp [aU]
 |n+1,[],[],_=>by simp [aU]
 |n+1,_::_,_::_,h=>by simp only [aU] at h;simp only [Xxj,aU];exact ⟨h.1,nG n h.2⟩
 |_+1,[],_::_,h=>by simp [aU] at h
 |_+1,_::_,[],h=>by simp [aU] at h
theorem qo {g:bJ} {m:aH} {S:az}:∀ (n:Nat) {l:List AV} {vs:List Value},aU g m S l vs→aU g m S (l.drop n) (vs.drop n)
 |0,_,_,h=>by simpa using h
 |n+1,[],[],_=>by simp [aU]
 |n+1,_::_,_::_,h=>by simp only [aU] at h;simpa using qo n h.2
 |_+1,[],_::_,h=>by simp [aU] at h
 |_+1,_::_,[],h=>by simp [aU] at h
theorem iM.mono {S S':az} (h:ig S S') {b o:Nat} {vs:List Value} (hs:iM S b o vs):iM S' b o vs:=fun j u a=> ⟨h _ _ _ (hs j u a).1,(hs j u a).2⟩
mutual
theorem bI {S S':az} (h:ig S S'):∀ (x:AV) {v:Value},PR S x v→PR S' x v
 | .int _ _,_,p=>by simpa only [PR] using p
 | .bool _,_,p=>by simpa only [PR] using p
 | .str _,_,p=>by simpa only [PR] using p
 | .nilS,_,p=>by simpa only [PR] using p
 | .nilP,_,p=>by simpa only [PR] using p
 | .raw _,_,p=>by simpa only [PR] using p
 | .nilF,_,p=>by simpa only [PR] using p
 | .nilI,_,p=>by simpa only [PR] using p
 | .dead,_,_=>by simp only [PR]
 | .agg l,_,p=>by
  simp only [PR] at p ⊢;obtain ⟨vs,e,q⟩:=p;exact ⟨vs,e,aV h l q⟩
 | .tup l,_,p=>by
  simp only [PR] at p ⊢;obtain ⟨vs,e,q⟩:=p;exact ⟨vs,e,aV h l q⟩
 | .sl xs n nn,_,p=>by
  simp only [PR] at p ⊢;obtain ⟨a,d,e,i,q⟩:=p;refine ⟨a,d,e,i, ?_⟩;rcases q with q|⟨b,o,vs,z,q,hs⟩
  ·exact .inl q
  ·exact .inr ⟨b,o,vs,z,aV h xs q,hs.mono h⟩
 | .pp xs off,_,p=>by
  simp only [PR] at p ⊢;obtain ⟨b,o,vs,e,q,hs⟩:=p;exact ⟨b,o,vs,e,aV h xs q,hs.mono h⟩
 | .mp ks vs,_,p=>by
  simp only [PR] at p ⊢;rcases p with p|⟨b,C,k,e,h0,s,B,y⟩
  ·exact .inl p
  ·exact .inr ⟨b,C,k,e,h _ _ _ h0,h _ _ _ s,aV h ks B,aV h vs y⟩
 | .fn f a c,_,p=>by
  simp only [PR] at p ⊢;obtain ⟨j,A,e,q,r⟩:=p;exact ⟨j,A,e,aV h a q,aV h c r⟩
 | .ifc t x,_,p=>by
  simp only [PR] at p ⊢;obtain ⟨u,e,q⟩:=p;exact ⟨u,e,bI h x q⟩
 | .ref _ _ _ _,_,p=>by simp only [PR] at p
 | .ptr _ _ _,_,p=>by simp only [PR] at p
 | .mr _ _,_,p=>by simp only [PR] at p
 | .own _ _ _,_,p=>by simp only [PR] at p
theorem aV {S S':az} (h:ig S S'):∀ (l:List AV) {vs:List Value},bi S l vs→bi S' l vs
 | [],[],_=>by simp only [bi]
 |x::r,v::vs,p=>by simp only [bi] at p ⊢;exact ⟨bI h x p.1,aV h r p.2⟩
 | [],_::_,p=>by simp [bi] at p
 |_::_,[],p=>by simp [bi] at p
end
mutual
theorem dQ {g:bJ} {m:aH} {S:az}:∀ (x:AV) {v:Value},PR S x v→VR g m S x v
 | .int _ _,_,p=>by simpa only [VR] using p
 | .bool _,_,p=>by simpa only [VR] using p
 | .str _,_,p=>by simpa only [VR] using p
 | .nilS,_,p=>by simpa only [VR] using p
 | .nilP,_,p=>by simpa only [VR] using p
 | .raw _,_,p=>by simpa only [VR] using p
 | .nilF,_,p=>by simpa only [VR] using p
 | .nilI,_,p=>by simpa only [VR] using p
 | .sl _ _ _,_,p=>by simpa only [VR] using p
 | .pp _ _,_,p=>by simpa only [VR] using p
 | .mp _ _,_,p=>by simpa only [VR] using p
 | .dead,_,_=>by simp only [VR]
 | .agg l,_,p=>by
  simp only [PR] at p;simp only [VR];obtain ⟨vs,e,q⟩:=p;exact ⟨vs,e,aZ l q⟩
 | .tup l,_,p=>by
  simp only [PR] at p;simp only [VR];obtain ⟨vs,e,q⟩:=p;exact ⟨vs,e,aZ l q⟩
 | .fn f a c,_,p=>by
  simp only [PR] at p;simp only [VR];obtain ⟨d,b,e,q,r⟩:=p;exact ⟨d,b,e,aZ a q,aZ c r⟩
 | .ifc t x,_,p=>by
  simp only [PR] at p;simp only [VR];obtain ⟨u,e,q⟩:=p;exact ⟨u,e,dQ x q⟩
 | .ref _ _ _ _,_,p=>by simp only [PR] at p
 | .ptr _ _ _,_,p=>by simp only [PR] at p
 | .mr _ _,_,p=>by simp only [PR] at p
 | .own _ _ _,_,p=>by simp only [PR] at p
theorem aZ {g:bJ} {m:aH} {S:az}:∀ (l:List AV) {vs:List Value},bi S l vs→aU g m S l vs
 | [],[],_=>by simp only [aU]
 |x::r,v::vs,p=>by simp only [bi] at p;simp only [aU];exact ⟨dQ x p.1,aZ r p.2⟩
 | [],_::_,p=>by simp [bi] at p
 |_::_,[],p=>by simp [bi] at p
end
def nD (g:bJ) (m:aH) (g':bJ) (m':aH) (ρ:Nat→Nat→Option (Nat × Nat)):Prop:=
 ∀ b ver b' ver',ρ b ver=some (b',ver')→∀ B,g b=some B→ver≤B.ver→
  ∃ B',g' b'=some B'∧ver'≤B'.ver∧(B'.ver=ver'→B.ver=ver∧m' b'=m b∧B'.esz=B.esz)
mutual
theorem ui {g g':bJ} {m G:aH} {S S':az} {ρ:Nat→Nat→Option (Nat × Nat)} (j:ig S S') (h:nD g m g' G ρ):∀ (x:AV) {v:Value},VR g m S x v→VR g' G S' (ren ρ x) v
 | .int k n,_,p=>by simp only [VR] at p;simp only [ren,VR];exact bI j _ p
 | .bool _,_,p=>by simp only [VR] at p;simp only [ren,VR];exact bI j _ p
 | .str _,_,p=>by simp only [VR] at p;simp only [ren,VR];exact bI j _ p
 | .nilS,_,p=>by simp only [VR] at p;simp only [ren,VR];exact bI j _ p
 | .nilP,_,p=>by simp only [VR] at p;simp only [ren,VR];exact bI j _ p
 | .raw _,_,p=>by simp only [VR] at p;simp only [ren,VR];exact bI j _ p
 | .nilF,_,p=>by simp only [VR] at p;simp only [ren,VR];exact bI j _ p
 | .nilI,_,p=>by simp only [VR] at p;simp only [ren,VR];exact bI j _ p
 | .sl _ _ _,_,p=>by simp only [VR] at p;simp only [ren,VR];exact bI j _ p
 | .pp _ _,_,p=>by simp only [VR] at p;simp only [ren,VR];exact bI j _ p
 | .mp _ _,_,p=>by simp only [VR] at p;simp only [ren,VR];exact bI j _ p
 | .dead,_,_=>by simp only [ren,VR]
 | .own _ _ _,_,p=>by simp only [VR] at p
 | .agg l,_,p=>by
  simp only [VR] at p;simp only [ren,VR];obtain ⟨vs,e,q⟩:=p;exact ⟨vs,e,iI j h l q⟩
 | .tup l,_,p=>by
  simp only [VR] at p;simp only [ren,VR];obtain ⟨vs,e,q⟩:=p;exact ⟨vs,e,iI j h l q⟩
 | .fn f a c,_,p=>by
  simp only [VR] at p;simp only [ren,VR];obtain ⟨H,J,e,q,r⟩:=p;exact ⟨H,J,e,iI j h a q,iI j h c r⟩
 | .ifc t x,_,p=>by
  simp only [VR] at p;simp only [ren,VR];obtain ⟨u,e,q⟩:=p;exact ⟨u,e,ui j h x q⟩
 | .ref b ver i n,_,p=>by
  simp only [VR] at p;simp only [ren];obtain ⟨B,E,F,o,q⟩:=p;cases hρ:ρ b ver with
  |none=>simp only [VR]
  |some bv=>
   obtain ⟨z,d⟩:=bv;obtain ⟨B',y,s,A⟩:=h b ver z d hρ B E F;simp only [VR];refine ⟨B',y,s,o,fun e=> ?_⟩;obtain ⟨C,D,I⟩:=A e;rw [D,I];exact q C
 | .ptr b ver off,_,p=>by
  simp only [VR] at p;simp only [ren];obtain ⟨B,E,F,o,q⟩:=p;cases hρ:ρ b ver with
  |none=>simp only [VR]
  |some bv=>
   obtain ⟨z,d⟩:=bv;obtain ⟨B',y,s,A⟩:=h b ver z d hρ B E F;simp only [VR];refine ⟨B',y,s,o,fun e=> ?_⟩;obtain ⟨C,D,_⟩:=A e;rw [D];exact q C
 | .mr b ver,_,p=>by
  simp only [VR] at p;simp only [ren];obtain ⟨B,E,F,o,q⟩:=p;cases hρ:ρ b ver with
  |none=>simp only [VR]
  |some bv=>
   obtain ⟨z,d⟩:=bv;obtain ⟨B',y,s,A⟩:=h b ver z d hρ B E F;simp only [VR];refine ⟨B',y,s,o,fun e=> ?_⟩;obtain ⟨C,D,_⟩:=A e;rw [D];exact q C
theorem iI {g g':bJ} {m b:aH} {S S':az} {ρ:Nat→Nat→Option (Nat × Nat)} (a:ig S S') (h:nD g m g' b ρ):∀ (l:List AV) {vs:List Value},aU g m S l vs→aU g' b S' (jV ρ l) vs
 | [],[],_=>by simp only [jV,aU]
 |x::r,v::vs,p=>by simp only [aU] at p;simp only [jV,aU];exact ⟨ui a h x p.1,iI a h r p.2⟩
 | [],_::_,p=>by simp [aU] at p
 |_::_,[],p=>by simp [aU] at p
end
def Ge (g:bJ) (m:aH) (g':bJ) (m':aH):Prop:=
 ∀ b B,g b=some B→∃ B',g' b=some B'∧B'.esz=B.esz∧((B'.ver=B.ver∧m' b=m b)∨B.ver<B'.ver)
theorem Ge.refl (g:bJ) (m:aH):Ge g m g m:=fun _ B h=> ⟨B,h,rfl,.inl ⟨rfl,rfl⟩⟩
theorem Ge.trans {g g' i:bJ} {m k f:aH} (h:Ge g m g' k) (r:Ge g' k i f):Ge g m i f:=by
 intro b B o;obtain ⟨B',j,e,c⟩:=h b B o;obtain ⟨B'',a,e',c'⟩:=r b B' j;refine ⟨B'',a,e'.trans e, ?_⟩;rcases c with ⟨n,p⟩|c<;>rcases c' with ⟨l,q⟩|d
 ·exact .inl ⟨l.trans n,q.trans p⟩
 ·exact .inr (by omega)
 ·exact .inr (by omega)
 ·exact .inr (by omega)
mutual
theorem jO {g g':bJ} {m E:aH} {S S':az} (o:ig S S') (h:Ge g m g' E):∀ (x:AV) {v:Value},VR g m S x v→VR g' E S' x v
 | .int k n,_,p=>by simp only [VR] at p ⊢;exact bI o _ p
 | .bool _,_,p=>by simp only [VR] at p ⊢;exact bI o _ p
 | .str _,_,p=>by simp only [VR] at p ⊢;exact bI o _ p
 | .nilS,_,p=>by simp only [VR] at p ⊢;exact bI o _ p
 | .nilP,_,p=>by simp only [VR] at p ⊢;exact bI o _ p
 | .raw _,_,p=>by simp only [VR] at p ⊢;exact bI o _ p
 | .nilF,_,p=>by simp only [VR] at p ⊢;exact bI o _ p
 | .nilI,_,p=>by simp only [VR] at p ⊢;exact bI o _ p
 | .sl _ _ _,_,p=>by simp only [VR] at p ⊢;exact bI o _ p
 | .pp _ _,_,p=>by simp only [VR] at p ⊢;exact bI o _ p
 | .mp _ _,_,p=>by simp only [VR] at p ⊢;exact bI o _ p
 | .dead,_,_=>by simp only [VR]
 | .own _ _ _,_,p=>by simp only [VR] at p
 | .agg l,_,p=>by
  simp only [VR] at p ⊢;obtain ⟨vs,e,q⟩:=p;exact ⟨vs,e,iw o h l q⟩
 | .tup l,_,p=>by
  simp only [VR] at p ⊢;obtain ⟨vs,e,q⟩:=p;exact ⟨vs,e,iw o h l q⟩
 | .fn f a c,_,p=>by
  simp only [VR] at p ⊢;obtain ⟨F,G,e,q,r⟩:=p;exact ⟨F,G,e,iw o h a q,iw o h c r⟩
 | .ifc t x,_,p=>by
  simp only [VR] at p ⊢;obtain ⟨u,e,q⟩:=p;exact ⟨u,e,jO o h x q⟩
 | .ref b ver i n,_,p=>by
  simp only [VR] at p ⊢;obtain ⟨B,y,D,d,q⟩:=p;obtain ⟨B',j,A,s⟩:=h b B y;rcases s with ⟨C,z⟩|c
  ·refine ⟨B',j,by omega,d,fun e=> ?_⟩;rw [z,A];exact q (by omega)
  ·exact ⟨B',j,by omega,d,fun e=>by omega⟩
 | .ptr b ver off,_,p=>by
  simp only [VR] at p ⊢;obtain ⟨B,y,D,d,q⟩:=p;obtain ⟨B',j,A,s⟩:=h b B y;rcases s with ⟨C,z⟩|c
  ·refine ⟨B',j,by omega,d,fun e=> ?_⟩;rw [z];exact q (by omega)
  ·exact ⟨B',j,by omega,d,fun e=>by omega⟩
 | .mr b ver,_,p=>by
  simp only [VR] at p ⊢;obtain ⟨B,y,D,d,q⟩:=p;obtain ⟨B',j,A,s⟩:=h b B y;rcases s with ⟨C,z⟩|c
  ·refine ⟨B',j,by omega,d,fun e=> ?_⟩;rw [z];exact q (by omega)
  ·exact ⟨B',j,by omega,d,fun e=>by omega⟩
theorem iw {g g':bJ} {m b:aH} {S S':az} (a:ig S S') (h:Ge g m g' b):∀ (l:List AV) {vs:List Value},aU g m S l vs→aU g' b S' l vs
 | [],[],_=>by simp only [aU]
 |x::r,v::vs,p=>by simp only [aU] at p ⊢;exact ⟨jO a h x p.1,iw a h r p.2⟩
 | [],_::_,p=>by simp [aU] at p
 |_::_,[],p=>by simp [aU] at p
end
def kN (ap:AP) (S:az):Prop:=∀ k xs,(ap.gl[k]?).join=some xs→∃ vs,bi S xs vs∧iM S k 0 vs
structure dJ (P:Program) (ap:AP):Prop where
 ty:∀ t ti,ap.tyAt t=some ti→Tj P t=some ti
 mt:ap.mt.all (mtB P)=true
def jk (es:Array MapEntry):Array Value:=#[.agg (es.map (·.key)),.agg (es.map (·.val))]
def fU (w:World) (k z:Nat) (cur:Array Value) (e:TypeId):Prop:=
 (z ≠ dN∧w.heap[k]? =some (.cells cur e (0,0)))∨(z=dN∧∃ es clk,w.heap[k]? =some (.map es clk)∧cur=jk es)
def bW (w:World) (k o:Nat):Option Value:=match w.heap[k]? with
 |some (.map es _)=>(jk es)[o]?
 |_=>match w.cell? ⟨k,o,none⟩ with|some v=>if v.oneCell' then some v else none|none=>none
theorem fU.of {w:World} {k z:Nat} {cur:Array Value} {e:TypeId} (a:z ≠ dN) (h:w.heap[k]? =some (.cells cur e (0,0))):fU w k z cur e:= .inl ⟨a,h⟩
theorem fU.cells {w:World} {k z:Nat} {cur:Array Value} {e:TypeId} (h:fU w k z cur e) (a:z ≠ dN):w.heap[k]? =some (.cells cur e (0,0)):=by
 rcases h with h|h
 ·exact h.2
 ·exact absurd h.1 a
theorem fU.map {w:World} {k z:Nat} {cur:Array Value} {e:TypeId} (h:fU w k z cur e) (a:z=dN):∃ es clk,w.heap[k]? =some (.map es clk)∧cur=jk es:=by
 rcases h with h|h
 ·exact absurd a h.1
 ·exact h.2
theorem fU.same {w w':World} {k z:Nat} {cur:Array Value} {e:TypeId} (h:fU w k z cur e) (a:w'.heap[k]? =w.heap[k]?):fU w' k z cur e:=by
 unfold fU;rw [a];exact h
theorem fU.lt {w:World} {k z:Nat} {cur:Array Value} {e:TypeId} (h:fU w k z cur e):k<w.heap.size:=by
 rcases h with ⟨_,h⟩|⟨_,es,clk,h,_⟩<;>exact (Array.getElem?_eq_some_iff.1 h).1
theorem Jq {w w':World} {k o:Nat} (b:w'.heap[k]? =w.heap[k]?):bW w' k o=bW w k o:=by
 unfold bW;rw [b,World.cell?_of_block (w:=w) (a:=⟨k,o,none⟩) b]
theorem rF {w:World} {k o:Nat} {v:Value} (h:bW w k o=some v) (a:v.oneCell'=true):w.cell? ⟨k,o,none⟩=some v:=by
 unfold bW at h;split at h
 ·rename_i es clk c;exfalso;unfold jk at h;rcases (show o=0∨o=1∨2≤o by omega) with rfl|rfl|ho
  ·cases h;cases a
  ·cases h;cases a
  ·rw [Array.getElem?_eq_none (by simpa using ho)] at h;cases h
 ·split at h
  ·rename_i d b;split at h
   ·cases h;exact b
   ·cases h
  ·cases h
theorem oz {w:World} {k o:Nat} {v:Value} (h:w.cell? ⟨k,o,none⟩=some v) (b:v.oneCell'=true):bW w k o=some v:=by
 unfold bW;split
 ·rename_i es clk a;unfold World.cell? at h;simp only [a] at h;cases h
 ·rw [h];simp only;rw [if_pos b]
theorem rE {w:World} {k o:Nat} {v:Value} (h:bW w k o=some v) (c:v.oneCell'=false):∃ es clk,w.heap[k]? =some (.map es clk)∧(jk es)[o]? =some v:=by
 unfold bW at h;split at h
 ·rename_i es clk b;exact ⟨es,clk,b,h⟩
 ·split at h
  ·split at h
   ·rename_i a;cases h;rw [c] at a;cases a
   ·cases h
  ·cases h
theorem GI {w:World} {k o:Nat} {v:Value} (h:bW w k o=some v):k<w.heap.size:=by
 cases a:v.oneCell' with
 |true=>exact World.block_lt_of_cell? w _ (rF h a)
 |false=>
  obtain ⟨_,_,b,_⟩:=rE h a;exact (Array.getElem?_eq_some_iff.1 b).1
structure NQ (g:bJ) (m:aH) (S:az) (w:World) (B:aP) (k c:Nat):Prop where
 lies:∃ cur e vs rest,fU w k B.esz cur e∧cur.toList=vs++rest∧(B.pr=true→bi S B.cells vs)∧aU g m S B.cells vs∧(B.esz ≠ dN→∀ u ∈ vs,u.oneCell'=true)∧(0<B.esz→B.esz ≠ dN→cur.size=c*B.esz∧c≤maxLen)
 fz0:B.fro=false→B.fz=0
 fzle:B.fz≤B.cells.length
structure bf (ap:AP) (g:bJ) (m:aH) (S:az) (w:World):Prop where
 inj:∀ b b' B B',g b=some B→g b'=some B'→(m b).1=(m b').1→b=b'
 blk:∀ b B,g b=some B→NQ g m S w B (m b).1 (m b).2
 sealed:∀ k o v,S k o=some v→bW w k o=some v
 own:∀ b B,g b=some B→∀ o v,S (m b).1 o=some v→B.fro=true∧o<B.fz
 glob:kN ap S
def sW (es:Array MapEntry) (clk:Nat):Prop:=(es.toList.map (·.born)).Nodup∧∀ x ∈ es.toList,x.born<clk
def MW (w w':World):Prop:=∀ (k:Nat) (es:Array MapEntry) (clk:Nat),w'.heap[k]? =some (Obj.map es clk)→(∃ es0 clk0,w.heap[k]? =some (Obj.map es0 clk0)∧(sW es0 clk0→sW es clk))∨(w.heap.size≤k∧sW es clk)
theorem MW.same {w w':World} (h:∀ (k:Nat) (es:Array MapEntry) (clk:Nat),w'.heap[k]? =some (Obj.map es clk)→w.heap[k]? =some (Obj.map es clk)):MW w w':=fun k es clk a=> .inl ⟨es,clk,h k es clk a,id⟩
theorem MW.refl (w:World):MW w w:= .same fun _ _ _ h=>h
theorem MW.alloc (w:World) (cs:Array Value) (e:TypeId) (fr:Nat × Nat):MW w (w.alloc (.cells cs e fr)):= .same fun k es clk a=>by
 simp only [World.alloc,Array.getElem?_push] at a;split at a
 ·cases a
 ·exact a
theorem MW.map0 (w:World):MW w (w.alloc (.map #[] 0)):=fun k es clk a=>by
 simp only [World.alloc,Array.getElem?_push] at a;split at a
 ·rename_i e;cases a;exact .inr ⟨by omega,by simp [sW]⟩
 ·exact .inl ⟨es,clk,a,id⟩
theorem MW.row (w:World) (g:Nat) (cs:Array Value):MW w (w.setRow g cs):= .same fun k es clk a=>by
 simp only [World.setRow,Array.getElem?_modify] at a;split at a
 ·cases b:w.heap[k]? with
  |none=>rw [b] at a;cases a
  |some o=>
   rw [b] at a;cases o<;>simp at a ⊢
   exact a
 ·exact a
theorem MW.setM {w:World} {k0:Nat} {b d:Array MapEntry} {a clk':Nat} (h0:w.heap[k0]? =some (.map b a)) (h:sW b a→sW d clk'):MW w {w with heap:=w.heap.setIfInBounds k0 (.map d clk')}:=fun k es clk c=>by
 simp only [Array.getElem?_setIfInBounds] at c;split at c
 ·rename_i e;subst e;split at c
  ·cases c;exact .inl ⟨b,a,h0,h⟩
  ·cases c
 ·exact .inl ⟨es,clk,c,id⟩
def MB (g':bJ) (m':aH) (w w':World):Prop:=∀ b B,g' b=some B→∀ es clk,w'.heap[(m' b).1]? =some (Obj.map es clk)→(∃ es0 clk0,w.heap[(m' b).1]? =some (Obj.map es0 clk0)∧(sW es0 clk0→sW es clk))∨(w.heap.size≤(m' b).1∧sW es clk)
theorem MW.mb {w w':World} (h:MW w w') (g':bJ) (c:aH):MB g' c w w':=fun b _ _ es clk a=>h _ es clk a
theorem sW.push {es:Array MapEntry} {clk:Nat} (k v:Value) (h:sW es clk):sW (es.push {key:=k,val:=v,born:=clk}) (clk+1):=by
 obtain ⟨e,d⟩:=h;refine ⟨?_,fun x c=> ?_⟩
 ·rw [Array.toList_push,List.map_append,List.nodup_append];refine ⟨e,by simp,fun a f b i=> ?_⟩;obtain ⟨x,c,rfl⟩:=List.mem_map.1 f;simp at i;have:=d x c;omega
 ·rw [Array.toList_push,List.mem_append] at c;rcases c with c|c
  ·have:=d x c;omega
  ·simp at c;subst c;simp
theorem sW.same {es a:Array MapEntry} {clk:Nat} (e:a.toList.map (·.born)=es.toList.map (·.born)) (h:sW es clk):sW a clk:=by
 obtain ⟨b,c⟩:=h;refine ⟨by rw [e];exact b,fun x f=> ?_⟩;have:x.born ∈ a.toList.map (·.born):=List.mem_map.2 ⟨x,f,rfl⟩;rw [e] at this;obtain ⟨y,d,i⟩:=List.mem_map.1 this;have:=c y d;omega
structure Fr (g:bJ) (m:aH) (S:az) (w:World) (g':bJ) (m':aH) (S':az) (w':World):Prop where
 ge:Ge g m g' m'
 sle:ig S S'
 os:w'.os=w.os
 tape:w'.tape=w.tape
 output:w'.output=w.output
 size:w.heap.size≤w'.heap.size
 rest:∀ k,k<w.heap.size→(∀ b B,g b=some B→(m b).1 ≠ k)→w'.heap[k]? =w.heap[k]?
 img:∀ b B,g' b=some B→w.heap.size≤(m' b).1∨(∃ B0,g b=some B0∧(m' b).1=(m b).1)
 sealN:∀ k o v,S' k o=some v→S k o=some v∨w.heap.size≤k∨∃ b B,g b=some B∧(m b).1=k
 mw:MB g' m' w w'
theorem Fr.refl (g:bJ) (m:aH) (S:az) (w:World):Fr g m S w g m S w:=
 ⟨Ge.refl g m,ig.refl S,rfl,rfl,rfl,ζ _,fun _ _ _=>rfl,fun _ B h=> .inr ⟨B,h,rfl⟩,fun _ _ _ h=> .inl h,(MW.refl w).mb _ _⟩
theorem Fr.trans {g g' l:bJ} {m E r:aH} {S S' S'':az} {w w' n:World} (h:Fr g m S w g' E S' w') (f:Fr g' E S' w' l r S'' n):Fr g m S w l r S'' n:=by
 refine ⟨h.ge.trans f.ge,h.sle.trans f.sle,f.os.trans h.os,f.tape.trans h.tape,f.output.trans h.output,Xqg h.size f.size, ?_, ?_, ?_, ?_⟩
 ·intro k s D;rw [f.rest k (Nat.lt_of_lt_of_le s h.size) ?_,h.rest k s D];intro b B i e;rcases h.img b B i with c|⟨B0,a,c⟩
  ·omega
  ·exact D b B0 a (c ▸ e)
 ·intro b B i;rcases f.img b B i with c|⟨B0,a,c⟩
  ·exact .inl (Xqg h.size c)
  ·rcases h.img b B0 a with u|⟨B1,A,u⟩
   ·exact .inl (c ▸ u)
   ·exact .inr ⟨B1,A,c.trans u⟩
 ·intro k o v F;rcases f.sealN k o v F with d|d|⟨b,B,i,d⟩
  ·exact h.sealN k o v d
  ·exact .inr (.inl (Xqg h.size d))
  ·rcases h.img b B i with c|⟨B0,a,c⟩
   ·exact .inr (.inl (d ▸ c))
   ·exact .inr (.inr ⟨b,B0,a,by rw [← d,c]⟩)
 ·intro b B i es clk s;rcases f.mw b B i es clk s with ⟨x,p,d,t⟩|⟨d,t⟩
  ·rcases f.img b B i with c|⟨B0,a,c⟩
   ·have:=(Array.getElem?_eq_some_iff.1 d).1;omega
   ·rw [c] at d ⊢;rcases h.mw b B0 a x p d with ⟨y,j,z,C⟩|⟨z,C⟩
    ·exact .inl ⟨y,j,z,fun q=>t (C q)⟩
    ·exact .inr ⟨z,t C⟩
  ·exact .inr ⟨Xqg h.size d,t⟩
theorem bf.lt {ap:AP} {g:bJ} {m:aH} {S:az} {w:World} (h:bf ap g m S w) {b:Nat} {B:aP} (c:g b=some B):(m b).1<w.heap.size:=by
 obtain ⟨cur,e,vs,rest,a,_⟩:=(h.blk b B c).lies;exact a.lt
theorem bf.one {ap:AP} {g:bJ} {m:aH} {S:az} {w:World} (h:bf ap g m S w) {k o:Nat} {v:Value} (b:S k o=some v) (a:v.oneCell'=true):w.cell? ⟨k,o,none⟩=some v:=rF (h.sealed k o v b) a
theorem jh {w:World} {k j:Nat} {cur:Array Value} {e:TypeId} {fr:Nat × Nat} (h:w.heap[k]? =some (.cells cur e fr)):w.cell? ⟨k,j,none⟩=cur.toList[j]? :=by
 rw [cell_of_row w k j cur e fr h];simp
theorem fU.get {w:World} {k z j:Nat} {cur:Array Value} {e:TypeId} {u:Value} (h:fU w k z cur e) (a:cur.toList[j]? =some u) (b:z ≠ dN→u.oneCell'=true):bW w k j=some u:=by
 rcases h with ⟨c,h⟩|⟨_,es,clk,h,rfl⟩
 ·exact oz (by rw [jh h];exact a) (b c)
 ·unfold bW;rw [h];simpa using a
theorem dZ {a b:IntKind} (h:gp a b=true):a=b:=by cases a<;>cases b<;>first|rfl|(exact absurd h (by decide))
theorem aA {a b:Nat} (h:υ a b=true):a=b:=Nat.eq_of_beq_eq_true h
theorem dU {a b:Nat} (h:Ψ a b=true):a≤b:=Nat.le_of_ble_eq_true h
theorem dV {a b:Nat} (h:Xq6 a b=true):a<b:=by
 have:Ψ (a+1) b=true:=h;exact dU this
theorem Ym {S:az} {x:AV} {v:Value} (h:PR S x v) (a:kH x=true):v.oneCell'=true:=by
 cases x<;>simp only [PR] at h<;>first
  |(subst h;rfl)
  |(rcases h with ⟨rfl,_⟩|⟨_,_,_,rfl,_⟩<;>rfl)
  |(obtain ⟨_,_,_,rfl,_⟩:=h;rfl)
  |(obtain ⟨_,_,rfl,_⟩:=h;rfl)
  |(obtain ⟨_,rfl,_⟩:=h;first|rfl|exact absurd a (by simp [kH]))
  |(exact absurd a (by simp [kH]))
theorem Jh {g:bJ} {m:aH} {S:az} {x:AV} {v:Value} (h:VR g m S x v) (a:kH x=true):v.oneCell'=true:=by
 cases x<;>simp only [VR] at h<;>first
  | (exact Ym h a)
    |(obtain ⟨_,_,_,⟨_,_,rfl⟩,_⟩:=h;rfl)
  |(obtain ⟨_,_,_,⟨_,_,_,rfl⟩,_⟩:=h;rfl)
  |(obtain ⟨_,_,rfl,_⟩:=h;rfl)
  |(obtain ⟨_,rfl,_⟩:=h;first|rfl|exact absurd a (by simp [kH]))
  |(exact absurd a (by simp [kH]))
end AM
namespace AM
open Go
structure uO (P:Program) (t:Nat) (ti:TI) (i:TypeInfo) (d:TypeDesc) (z:Value):Prop where
 info:P.info? t=some i
 und:P.underlying t=some d
 d_eq:ti.d=iT P (some d)
 size:ti.size=i.size
 bytes:ti.bytes=i.bytes
 zero:i.zero=some z
 zcells:ti.zero=z.cells.toList.map BB
 zleaf:∀ x ∈ ti.zero,kH x=true
 zsize:z.cells.size=i.size
 lks:ti.lks.length=i.size
 zagg:ZW i d=true
 fld:P6 P d=true
 small:i.size<dN
theorem bV {P:Program} {ap:AP} (c:dJ P ap) {t:Nat} {e:TI} (h:ap.tyAt t=some e):∃ i d z,uO P t e i d z:=by
 have a:=c.ty t e h;unfold Tj at a;cases b:P.info? t with
 |none=>simp [b] at a
 | some i=>
  cases f:P.underlying t with
  |none=>simp [b,f] at a
  | some d=>
   simp only [b,f] at a;split at a
   ·rename_i k;simp only [δ] at k;obtain ⟨⟨⟨⟨⟨p,n⟩,r⟩,u⟩,s⟩,q⟩:=k;cases j:i.zero with
    |none=>simp [j] at s
    | some z=>
     cases a;have l:CW i=z.cells.toList.map BB:=by simp [CW,j]
     refine ⟨i,d,z,b,f,rfl,rfl,rfl,j,l, ?_, ?_,aA p,n.1,n.2,dV q⟩
     ·intro x o;exact List.all_eq_true.1 r x o
     ·have:=aA u;rw [l] at this;simpa using this
   ·cases a
theorem eG {P:Program} {d:TypeDesc} {e:Nat} (h:iT P (some d)= .slice e):d= .slice e:=by cases d<;>simp [iT] at h;subst h;rfl
theorem wF {P:Program} {d:TypeDesc} {n e:Nat} (h:iT P (some d)= .array n e):d= .array n e:=by cases d<;>simp [iT] at h;obtain ⟨rfl,rfl⟩:=h;rfl
theorem uM {P:Program} {d:TypeDesc} (h:iT P (some d)= .str):d= .string:=by cases d<;>simp [iT] at h;rfl
theorem Ti {P:Program} {d:TypeDesc} {k:IntKind} (h:iT P (some d)= .int k):d= .int k:=by cases d<;>simp [iT] at h;subst h;rfl
theorem VB {P:Program} {d:TypeDesc} (h:iT P (some d)= .bool):d= .bool:=by cases d<;>simp [iT] at h;rfl
theorem sF {P:Program} {d:TypeDesc} {a:List (Nat × Nat × Nat)} (h:iT P (some d)= .struct a):
  ∃ fields:Array Field,d= .struct fields∧a=fields.toList.map fun f=>(f.offset,f.type,match P.info? f.type with|some i=>i.size|none=>0):=by
 cases d<;>simp [iT] at h
 exact ⟨_,rfl,h.symm⟩
theorem CE {P:Program} (d:TypeDesc):Fv (iT P (some d))=d.isRow:=by cases d<;>simp [iT,Fv,TypeDesc.isRow]
theorem DI (S:az) (v:Value):PR S (FU v) v:=by
 cases v<;>simp only [FU,PR]
 case pointer a=>cases a<;>simp only [PR]
 case map a=>
  cases a with
  |none=>simp [PR]
  |some _=>simp only [PR]
 case slice a n c=>
  split<;>simp only [PR]
theorem Gz (S:az) (v:Value):PR S (BB v) v:=by
 cases v<;>simp only [BB]<;>try exact DI S _
 case agg cs=>
  simp only [PR];refine ⟨cs.toList,by simp, ?_⟩
  induction cs.toList with
  |nil=>simp [bi]
  |cons c r ih=>simp only [φ,bi];exact ⟨DI S c,ih⟩
 case tuple vs=>
  split
  ·rename_i h;simp only [PR];exact ⟨[],by rw [← h],by simp [bi]⟩
  ·simp only [PR]
theorem sU (S:az):∀ l:List Value,bi S (l.map BB) l
 | []=>by simp [bi]
 |v::r=>by simp only [φ,bi];exact ⟨Gz S v,sU S r⟩
theorem Yo {g:bJ} {m:aH} {S:az} {k:LK} {c:AV} {v:Value} (h:VR g m S c v) (f:chk k c=true):VR g m S (eta k c) v:=by
 cases k<;>cases c<;>simp [chk] at f<;>simp only [eta,AV.toInt,AV.toBool,AV.toStr,AV.slX,AV.slN]<;>try exact h
 ·rw [dZ f];exact h
 ·simp only [VR,PR] at h ⊢;subst h;exact ⟨none,0,rfl,ζ _,.inl ⟨fun _=>trivial,trivial,trivial,rfl⟩⟩
 ·simp only [VR,PR] at h ⊢;obtain ⟨a,b,e,d,q⟩:=h;refine ⟨a,b,e,d, ?_⟩;rcases q with ⟨n,j,i,l⟩|q
  ·exact .inl ⟨fun _=>trivial,j,i,l⟩
  ·exact .inr q
theorem xQ {k:LK} {c:AV} (h:chk k c=true):c ≠ .dead:=by intro e;subst e;cases k<;>simp [chk] at h
theorem getD_some {a:List AV} {i:Nat} (h:a.getD i .dead ≠ .dead):a[i]? =some (a.getD i .dead):=by
 rw [Xqj] at h ⊢;cases b:a[i]? with
 |none=>simp [b] at h
 |some x=>simp
theorem Aq (b:List AV) (a:Nat):(b.drop a).headD .dead=b.getD a .dead:=by
 rw [Xz0,Xv0,Xqj]
theorem OL (ty:Bool) (b:List AV) (a:Nat):jU ty [] b a= []:=rfl
theorem uI (ty:Bool) (k:LK) (ks:List LK) (b:List AV) (a:Nat):jU ty (k::ks) b a=(match ty with|true=>eta k (b.getD a .dead)|false=>b.getD a .dead)::jU ty ks b (a+1):=by
 show _::Ir ty ks (b.drop a).tail=_::Ir ty ks (b.drop (a+1));rw [Xv4];cases ty<;>simp only [Aq]
theorem NY (ty:Bool) (k:LK) (ks:List LK) (b:List AV) (a:Nat):EY ty (k::ks) b a=(match ty with|true=>chk k (b.getD a .dead)|false=>chk .oth (b.getD a .dead))::EY ty ks b (a+1):=by
 show _::PI ty ks (b.drop a).tail=_::PI ty ks (b.drop (a+1));rw [Xv4];cases ty<;>simp only [Aq]
theorem mg {g:bJ} {m:aH} {S:az} (ty:Bool) {f:List AV} {vs:List Value} (i:aU g m S f vs):∀ (lks:List LK) (a:Nat),(∀ b ∈ EY ty lks f a,b=true)→
  ∃ us:List Value,us.length=lks.length∧(∀ j u,us[j]? =some u→vs[a+j]? =some u)∧aU g m S (jU ty lks f a) us:=by
 intro lks
 induction lks with
 |nil=>exact fun a _=> ⟨[],rfl,fun _ _ h=>by simp at h,by simp [OL,aU]⟩
 | cons k ks ih=>
  intro a h;simp only [NY,List.mem_cons,forall_eq_or_imp] at h;obtain ⟨us,n,l,o⟩:=ih (a+1) h.2;have key:∃ v,vs[a]? =some v∧VR g m S ((jU ty (k::ks) f a).headD .dead) v:=by
   rw [uI];cases ty with
   |true=>
    obtain ⟨v,d,c⟩:=oq i a (getD_some (xQ h.1));exact ⟨v,d,Yo c h.1⟩
   |false=>
    obtain ⟨v,d,c⟩:=oq i a (getD_some (xQ h.1));exact ⟨v,d,c⟩
  obtain ⟨v,d,c⟩:=key;rw [uI] at c;refine ⟨v::us,by simp [n], ?_, ?_⟩
  ·intro j u e;cases j with
   |zero=>simp at e;subst e;simpa using d
   |succ j=>simp at e;rw [show a+(j+1)=a+1+j from by omega];exact l j u e
  ·simp only [uI,aU];exact ⟨c,o⟩
theorem oL {P:Program} {w:World} {t:Nat} {h:TI} {i:TypeInfo} {d:TypeDesc} {z:Value} (e:uO P t h i d z) {g:bJ} {m:aH} {S:az} {cs:List AV} {us:List Value} {k a:Nat}
  (hl:us.length=h.lks.length) (hu:∀ j u,us[j]? =some u→w.cell? ⟨k,a+j,none⟩=some u) (hr:aU g m S cs us) {v:AV} (hv:nT h cs=some v):
  ∃ cv,(loadVar t ⟨k,a,none⟩).run P w= .ok cv w∧VR g m S v cv:=by
 unfold nT at hv;rw [e.d_eq,CE] at hv;split at hv
 ·rename_i b;cases hv;refine ⟨.agg us.toArray,run_loadVar_mid w k a t us d hu e.und b (by simp [e.info,hl,e.lks]), ?_⟩;simp only [VR];exact ⟨us,rfl,hr⟩
 ·rename_i b;split at hv
  ·rename_i c;cases hv;cases us with
   |nil=>simp [aU] at hr
   | cons u r=>
    simp only [aU] at hr;refine ⟨u, ?_,hr.1⟩;have f:(isAgg t).run P w= .ok false w:=by
     unfold isAgg;rw [Sem.run_bind,run_underlying e.und w];cases d<;>simp_all [TypeDesc.isRow]
    have l:=hu 0 u rfl;simp only [Xqo] at l;simp [loadVar,f,l]
  ·cases hv
theorem bind_some {α β:Type} {x:Option α} {f:α→Option β} {b:β} (h:x.bind f=some b):∃ a,x=some a∧f a=some b:=by
 cases x with
 |none=>simp at h
 |some a=>exact ⟨a,rfl,h⟩
theorem aO {v b:AV} {bs a:List Bool} {ups:List (Nat × aP)} (h:aX v bs=some (b,ups,a)):b=v∧ups= []∧a=bs:=by
 unfold aX at h;cases h;exact ⟨rfl,rfl,rfl⟩
section
variable {P:Program} {ap:AP} {g:bJ} {m:aH} {S:az} {w:World}
theorem yc (M:bf ap g m S w) {rd:bJ} (E:∀ b B,rd b=some B→g b=some B) {t:Nat} {x:TI} {i:TypeInfo} {d:TypeDesc} {z:Value} (L:uO P t x i d z)
  {p v:AV} {cp:Value} (hp:VR g m S p cp) {ups:List (Nat × aP)} {bs:List Bool} (h:Ia x rd p=some (v,ups,bs)) (hbs:∀ b ∈ bs,b=true):
  ups= []∧∃ cv,(Instr.loadAt t cp).run P w= .ok cv w∧VR g m S v cv:=by
 unfold Ia at h;split at h
 ·rename_i R f;obtain ⟨N,l,h⟩:=bind_some h;obtain ⟨rfl,rfl,rfl⟩:=aO h;simp only [VR,PR] at hp;obtain ⟨b,o,vs,rfl,hp,hs⟩:=hp;obtain ⟨us,D,G,I⟩:=mg (g:=g) (m:=m) true (aZ _ hp) x.lks f hbs;obtain ⟨cv,y,H⟩:=oL (w:=w) L (k:=b) (a:=o+f) D (fun j u A=>by
   have K:=hs (f+j) u (G j u A);have:=M.one K.1 K.2;rw [Xxm];exact this) I l
  exact ⟨rfl,cv,by simpa [Instr.loadAt,Instr.sureAddr] using y,H⟩
 ·rename_i b ver f;obtain ⟨B,Q,h⟩:=bind_some h;split at h
  ·rename_i c;obtain ⟨N,l,h⟩:=bind_some h;obtain ⟨rfl,rfl,rfl⟩:=aO h;simp only [VR] at hp;obtain ⟨B',r,_,_,q⟩:=hp;have n:=E b B Q;rw [n] at r;cases r;simp only [δ,Xqi] at c;have C:B.esz ≠ dN:=fun e=>by rw [e] at c;exact absurd c.2 (by decide)
   have q:=q (aA c.1);subst q;obtain ⟨cur,e,vs,rest,F,O,_,J,_⟩:=(M.blk b B n).lies;have F:=F.cells C;obtain ⟨us,D,G,I⟩:=mg _ J x.lks f hbs;obtain ⟨cv,y,H⟩:=oL (w:=w) L (k:=(m b).1) (a:=f) D (fun j u A=>by
    have s:=G j u A;rw [jh F,O,List.getElem?_append_left (List.getElem?_eq_some_iff.1 s).1];exact s) I l
   exact ⟨rfl,cv,by simpa [Instr.loadAt,Instr.sureAddr] using y,H⟩
  ·cases h
 ·cases h
theorem BC {p d:AV} {f:Value} (hp:VR g m S p f) {o:Nat} (h:Q4 p o=some d):∃ a:Addr,f= .pointer (some a)∧VR g m S d (.pointer (some (a.add o))):=by
 unfold Q4 at h;split at h<;>cases h
 ·rename_i b ver c;simp only [VR] at hp;obtain ⟨B,j,l,⟨k,i,rfl⟩,q⟩:=hp;refine ⟨_,rfl, ?_⟩;simp only [VR];refine ⟨B,j,l,⟨k,i+o,by rw [Addr.add_mid]⟩,fun e=> ?_⟩;have q:=q e;simp only [Value.pointer.injEq,Option.some.injEq,Addr.mk.injEq] at q;obtain ⟨n,r,_⟩:=q;rw [Addr.add_mid,n,r]
 ·rename_i s c;simp only [VR,PR] at hp;obtain ⟨b,k,vs,rfl,hp,hs⟩:=hp;refine ⟨_,rfl, ?_⟩;simp only [VR,PR];exact ⟨b,k,vs,by rw [Addr.add_mid,Xxm],hp,hs⟩
end
end AM
namespace AM
open Go
section
variable {P:Program} {ap:AP} {g:bJ} {m:aH} {S:az} {w:World}
theorem bK {b:Bool} {l:List Bool} (h:∀ x ∈ b::l,x=true):b=true∧∀ x ∈ l,x=true:=⟨h b (by simp),fun x a=>h x (by simp [a])⟩
theorem jc {t:Nat} {a:TI} {i:TypeInfo} {d:TypeDesc} {z:Value} (b:uO P t a i d z) (w:World):(Go.sizeOf t).run P w= .ok a.size w:=by
 simp [Go.sizeOf,typeInfo,b.info,b.size]
theorem xX {x:AV} {a:Value} (b:VR g m S x a) {n:Int} (h:LD x=some n):∃ k,a= .int k n:=by
 cases x<;>simp [LD] at h
 subst h;simp only [VR,PR] at b;exact ⟨_,b⟩
theorem yM {t:Nat} {s:TI} {i:TypeInfo} {d:TypeDesc} {z:Value} (u:uO P t s i d z) {q:List (Nat × Nat × Nat)} (x:s.d= .struct q) {f o B r:Nat} (y:q[f]? =some (o,B,r)) (b:Xq6 0 r=true)
  {p v:AV} {cp:Value} (hp:VR g m S p cp) (k:Q4 p o=some v):∃ cv,(Instr.fieldAt t cp f).run P w= .ok cv w∧VR g m S v cv:=by
 rw [u.d_eq] at x;obtain ⟨fields,rfl,rfl⟩:=sF x;simp only [Ξ,Φ] at y;obtain ⟨n,h,l⟩:=y;simp only [Prod.mk.injEq] at l;obtain ⟨rfl,rfl,hs⟩:=l;obtain ⟨a,rfl,k⟩:=BC hp k;refine ⟨_, ?_,k⟩;have c:fields[f]? =some n:=by simpa using h
 cases e:P.info? n.type with
 |none=>rw [e] at hs;simp only at hs;subst hs;exact absurd (dV b) (by omega)
 |some j=>
  rw [e] at hs;have A:j.size ≠ 0:=by have:=dV b;simp only at hs;omega
  simp [Instr.fieldAt,run_underlying u.und,c,Instr.sureAddr,fieldPlace,Go.sizeOf,typeInfo,e,A]
theorem lg {i:Int} {n:Nat} (h0:decide (0≤i)=true) (c:decide (i<n)=true):0≤i∧i<n∧i.toNat<n:=by
 have a:=of_decide_eq_true h0;have b:=of_decide_eq_true c;omega
theorem wS (u:dJ P ap) {rd:bJ} (G:∀ b B,rd b=some B→g b=some B) {t:Nat} {J:TI} {i:TypeInfo} {d:TypeDesc} {z:Value} (A:uO P t J i d z)
  {x ix v:AV} {cx ci:Value} (hx:VR g m S x cx) (hi:VR g m S ix ci) {ups:List (Nat × aP)} {bs:List Bool} (h:uw ap J rd x ix=some (v,ups,bs)) (hbs:∀ b ∈ bs,b=true):
  ups= []∧∃ cv,(Instr.indexAt t cx ci).run P w= .ok cv w∧VR g m S v cv:=by
 unfold uw at h;have l:=bind_some h;clear h;obtain ⟨n,O,h⟩:=l;obtain ⟨k,rfl⟩:=xX hi O;split at h
 ·rename_i e r;have l:=bind_some h;clear h;obtain ⟨H,c,h⟩:=l;obtain ⟨U,V,Q,c⟩:=bV u c;rw [A.d_eq] at r;have r:=eG r;subst r;split at h
  ·rename_i Y C nn;obtain ⟨rfl,rfl,rfl⟩:=aO h;obtain ⟨D,f⟩:=bK hbs;obtain ⟨f,_⟩:=bK f;obtain ⟨h0,s,L⟩:=lg D f;simp only [VR,PR] at hx;obtain ⟨a,M,rfl,T,q⟩:=hx;rcases q with ⟨_,_,q,_⟩|⟨b,o,vs,rfl,hp,hs⟩
   ·subst q;omega
   ·refine ⟨rfl,.pointer (some ⟨b,o+n.toNat*H.size,none⟩), ?_, ?_⟩
    ·simp [Instr.indexAt,asIntOf,run_underlying A.und,h0,s,jc c,Addr.add_mid]
    ·simp only [VR,PR];exact ⟨b,o,vs,rfl,hp,hs⟩
  ·rename_i b ver j C;have l:=bind_some h;clear h;obtain ⟨B,N,h⟩:=l;split at h
   ·rename_i E;simp only [δ] at E;obtain ⟨rfl,rfl,rfl⟩:=aO h;obtain ⟨D,f⟩:=bK hbs;obtain ⟨f,_⟩:=bK f;obtain ⟨h0,s,L⟩:=lg D f;simp only [VR] at hx;obtain ⟨B',y,I,_,q⟩:=hx;have K:=G b B N;rw [K] at y;cases y;obtain ⟨o,rfl,Z,W,X⟩:=q (aA E.1);have R:=W (by omega);have F:=aA E.2;refine ⟨rfl,.pointer (some ⟨(m b).1,(j+n.toNat)*H.size,none⟩), ?_, ?_⟩
    ·rw [R,F];simp [Instr.indexAt,asIntOf,run_underlying A.und,h0,s,jc c,Addr.add_mid,Xx5]
    ·simp only [VR];exact ⟨B,K,by have:=aA E.1;omega,⟨_,_,rfl⟩,fun _=>trivial⟩
   ·cases h
  ·cases h
 ·rename_i C e r;have l:=bind_some h;clear h;obtain ⟨H,c,h⟩:=l;obtain ⟨U,V,Q,c⟩:=bV u c;have l:=bind_some h;clear h;obtain ⟨p,hp,h⟩:=l;obtain ⟨rfl,rfl,rfl⟩:=aO h;rw [A.d_eq] at r;have r:=wF r;subst r;obtain ⟨D,f⟩:=bK hbs;obtain ⟨f,_⟩:=bK f;obtain ⟨h0,s,L⟩:=lg D f;obtain ⟨a,rfl,I⟩:=BC hx hp;refine ⟨rfl,_, ?_,I⟩;simp [Instr.indexAt,asIntOf,run_underlying A.und,h0,s,jc c,Instr.sureAddr]
 ·cases h
theorem BI {t:Nat} {f:TI} {i:TypeInfo} {d:TypeDesc} {z:Value} (h:uO P t f i d z) {vs us:List Value} {cs:List AV} {b:Nat}
  (hl:us.length=f.lks.length) (hu:∀ j u,us[j]? =some u→vs[b+j]? =some u) (hr:aU g m S cs us) {v:AV} (hv:nT f cs=some v):
  ∃ cv,(part t vs.toArray b).run P w= .ok cv w∧VR g m S v cv:=by
 have e:(isAgg t).run P w= .ok d.isRow w:=by
  unfold isAgg;rw [Sem.run_bind,run_underlying h.und w];cases d<;>simp [TypeDesc.isRow]
 unfold nT at hv;rw [h.d_eq,CE] at hv;split at hv
 ·rename_i a;cases hv;have p:(vs.drop b).take f.size=us:=by
   apply List.ext_getElem?;intro j;rw [Xq9,Xxr];have n:f.size=us.length:=by rw [hl,h.lks,h.size]
   split
   ·rename_i o;have k:j<us.length:=by omega
    have:=hu j us[j] (ν k);rw [this,ν k]
   ·rename_i o;rw [List.getElem?_eq_none (by omega)]
  refine ⟨.agg us.toArray, ?_, ?_⟩
  ·simp [part,e,a,jc h,p]
  ·simp only [VR];exact ⟨us,rfl,hr⟩
 ·rename_i a;split at hv
  ·rename_i c;cases hv;cases us with
   |nil=>simp [aU] at hr
   |cons u r=>
    simp only [aU] at hr;refine ⟨u, ?_,hr.1⟩;have l:=hu 0 u rfl;simp only [Xqo] at l;have a:d.isRow=false:=by simpa using a
    simp [part,e,a,l]
  ·cases hv
theorem Fg (k:dJ P ap) {t:Nat} {r:TI} {i:TypeInfo} {d:TypeDesc} {z:Value} (s:uO P t r i d z) {x v:AV} {y:Value} (j:VR g m S x y) {f:Nat} {ups:List (Nat × aP)} {bs:List Bool}
  (h:JB ap r x f=some (v,ups,bs)) (hbs:∀ b ∈ bs,b=true):ups= []∧∃ cv,(Instr.field t y f).run P w= .ok cv w∧VR g m S v cv:=by
 unfold JB at h;split at h
 ·rename_i K cs u;have c:=bind_some h;clear h;obtain ⟨⟨o,I,H⟩,A,h⟩:=c;have c:=bind_some h;clear h;obtain ⟨tf,a,h⟩:=c;have c:=bind_some h;clear h;obtain ⟨G,l,h⟩:=c;obtain ⟨rfl,rfl,rfl⟩:=aO h;obtain ⟨L,M,J,a⟩:=bV k a;rw [s.d_eq] at u;obtain ⟨fields,rfl,rfl⟩:=sF u;simp only [Ξ,Φ] at A;obtain ⟨q,n,p⟩:=A;simp only [Prod.mk.injEq] at p;obtain ⟨rfl,rfl,hs⟩:=p;simp only [VR] at j;obtain ⟨vs,rfl,j⟩:=j;obtain ⟨us,C,D,F⟩:=mg false j tf.lks q.offset hbs;obtain ⟨cv,B,E⟩:=BI (w:=w) a C D F l;have e:fields[f]? =some q:=by simpa using n
  refine ⟨rfl,cv, ?_,E⟩;simp [Instr.field,run_underlying s.und,e,asAgg,B]
 ·cases h
theorem P_ (s:List UInt8) (i:Nat) (h:i<s.length):(⟨s.toArray⟩:ByteArray)[i]? =some (s.getD i 0):=by
 have hs:i<(⟨s.toArray⟩:ByteArray).size:=by simpa [ByteArray.size] using h
 rw [getElem?_pos _ i hs];simp only [ByteArray.getElem_eq_getElem_data,List.getElem_toArray];rw [Xqj,ν h];rfl
theorem Fq (q:dJ P ap) {t:Nat} {C:TI} {i:TypeInfo} {d:TypeDesc} {z:Value} (o:uO P t C i d z) {x B v:AV} {D F:Value} (j:VR g m S x D) (K:VR g m S B F) {ups:List (Nat × aP)} {bs:List Bool}
  (h:JG ap C x B=some (v,ups,bs)) (hbs:∀ b ∈ bs,b=true):ups= []∧∃ cv,(Instr.index t D F).run P w= .ok cv w∧VR g m S v cv:=by
 unfold JG at h;have l:=bind_some h;clear h;obtain ⟨n,I,h⟩:=l;obtain ⟨k,rfl⟩:=xX K I;split at h
 ·rename_i s c;obtain ⟨rfl,rfl,rfl⟩:=aO h;obtain ⟨u,f⟩:=bK hbs;obtain ⟨f,_⟩:=bK f;obtain ⟨h0,A,E⟩:=lg u f;rw [o.d_eq] at c;have c:=uM c;subst c;simp only [VR,PR] at j;subst j;refine ⟨rfl,.int .u8 (s.getD n.toNat 0).toNat, ?_,by simp only [VR,PR]⟩;simp [Instr.index,asIntOf,run_underlying o.und,h0,P_ s n.toNat E]
 ·rename_i J e cs c;have l:=bind_some h;clear h;obtain ⟨G,a,h⟩:=l;have l:=bind_some h;clear h;obtain ⟨O,r,h⟩:=l;obtain ⟨rfl,rfl,rfl⟩:=aO h;obtain ⟨R,T,Q,a⟩:=bV q a;obtain ⟨u,f⟩:=bK hbs;obtain ⟨f,M⟩:=bK f;obtain ⟨h0,A,E⟩:=lg u f;rw [o.d_eq] at c;have c:=wF c;subst c;simp only [VR] at j;obtain ⟨vs,rfl,j⟩:=j;obtain ⟨us,H,L,N⟩:=mg true j G.lks (n.toNat*G.size) M;obtain ⟨cv,y,p⟩:=BI (w:=w) a H L N r;refine ⟨rfl,cv, ?_,p⟩;simp [Instr.index,asIntOf,run_underlying o.und,h0,A,jc a,y]
 ·cases h
end
end AM
namespace AM
open Go
section
variable {P:Program} {ap:AP} {g:bJ} {m:aH} {S:az} {w:World}
def zo (g:bJ) (m:aH) (S:az) (x:Option AV) (c:Option Value):Prop:=
 match x,c with
 |none,none=>True
 |some x,some c=>VR g m S x c
 |_,_=>False
theorem fA {x:Option AV} {c:Option Value} (h:zo g m S x c) {d n:Int} (a:lm x d=some n):(x=none∧c=none∧n=d)∨∃ k,c=some (.int k n):=by
 cases x with
 |none=>cases c with
  |none=>simp [lm] at a;exact .inl ⟨rfl,rfl,a.symm⟩
  |some c=>simp [zo] at h
 | some x=>cases c with
  |none=>simp [zo] at h
  |some c=>
   cases x<;>simp [lm] at a
   subst a;simp only [zo,VR,PR] at h;subst h;exact .inr ⟨_,rfl⟩
theorem pg (P:Program) (w:World) (e:Bool) (b a:Nat) (d c:Option Value) (l h:Int)
  (hl:(d=none∧l=0)∨∃ k,d=some (.int k l)) (j:(c=none∧h=b)∨∃ k,c=some (.int k h)) (h0:0≤l) (h1:l≤h) (h2:h≤a):
  (Instr.sliceBounds e b a d c none).run P w= .ok (l.toNat,h.toNat,a) w:=by
 have i:0≤h:=by omega
 rcases hl with ⟨rfl,rfl⟩|⟨k,rfl⟩<;>rcases j with ⟨rfl,rfl⟩|⟨o,rfl⟩
 ·simp [Instr.sliceBounds]
 ·simp [Instr.sliceBounds,Instr.sliceBound,asIntOf,h2,i]
 ·have f:l≤(b:Int):=h1;simp [Instr.sliceBounds,Instr.sliceBound,asIntOf,h0,f]
 ·simp [Instr.sliceBounds,Instr.sliceBound,asIntOf,h0,h2,i];intro n;omega
theorem G7 (s:List UInt8) (l h:Nat):(⟨s.toArray⟩:ByteArray).extract l h=⟨((s.take h).drop l).toArray⟩:=by
 apply ByteArray.ext;rw [ByteArray.data_extract];apply Array.ext';simp [List.extract_eq_take_drop,List.drop_take]
theorem wC (s:List UInt8):(⟨s.toArray⟩:ByteArray).size=s.length:=by simp [ByteArray.size]
theorem iM.drop {b o:Nat} {vs:List Value} (h:iM S b o vs) (n:Nat):iM S b (o+n) (vs.drop n):=by
 intro j u a;rw [Xxr] at a;rw [Xxm];exact h _ _ a
theorem iM.take {b o:Nat} {vs:List Value} (h:iM S b o vs) (n:Nat):iM S b o (vs.take n):=by
 intro j u a;rw [Xq9] at a;split at a
 ·exact h _ _ a
 ·cases a
theorem Yv {a b c:Bool} (h:∀ x ∈ [a,b,c],x=true):a=true∧b=true∧c=true:=⟨h a (by simp),h b (by simp),h c (by simp)⟩
theorem Dh {α:Type} (a:List α) (n:Nat):(a.take n).drop n= []:=by
 apply Xq0;simp;omega
theorem Gh (G:dJ P ap) {rd:bJ} (M:∀ b B,rd b=some B→g b=some B) {t:Nat} {O:TI} {i:TypeInfo} {d:TypeDesc} {z:Value} (E:uO P t O i d z)
  {x v:AV} {cx:Value} (hx:VR g m S x cx) {lo hi mx:Option AV} {clo chi cmx:Option Value} (hlo:zo g m S lo clo) (hhi:zo g m S hi chi) (hmx:zo g m S mx cmx)
  {ups:List (Nat × aP)} {bs:List Bool} (h:Kr ap O rd x lo hi mx=some (v,ups,bs)) (hbs:∀ b ∈ bs,b=true):
  ups= []∧∃ cv,(Instr.sliceAt t cx clo chi cmx).run P w= .ok cv w∧VR g m S v cv:=by
 have p:mx=none→cmx=none:=by intro e;subst e;cases cmx<;>simp [zo] at hmx ⊢
 unfold Kr at h;split at h
 ·rename_i s k;have c:=bind_some h;clear h;obtain ⟨l,I,h⟩:=c;have c:=bind_some h;clear h;obtain ⟨u,H,h⟩:=c;obtain ⟨rfl,rfl,rfl⟩:=aO h;obtain ⟨y,r,D⟩:=Yv hbs;have y:=of_decide_eq_true y;have r:=of_decide_eq_true r;have D:=of_decide_eq_true D;rw [E.d_eq] at k;have k:=uM k;subst k;simp only [VR,PR] at hx;subst hx;rw [p rfl];have F:=pg P w false s.length s.length clo chi l u ((fA hlo I).imp (fun h=> ⟨h.2.1,h.2.2⟩) id) ((fA hhi H).imp (fun h=> ⟨h.2.1,h.2.2⟩) id) y r D;refine ⟨rfl,.string ⟨((s.take u.toNat).drop l.toNat).toArray⟩, ?_,by simp only [VR,PR]⟩;rw [← G7];simp [Instr.sliceAt,Instr.slice,run_underlying E.und,wC,F]
 ·rename_i e Y n nn k;have c:=bind_some h;clear h;obtain ⟨A,f,h⟩:=c;have c:=bind_some h;clear h;obtain ⟨l,I,h⟩:=c;have c:=bind_some h;clear h;obtain ⟨u,H,h⟩:=c;obtain ⟨rfl,rfl,rfl⟩:=aO h;obtain ⟨T,V,Q,f⟩:=bV G f;obtain ⟨y,r,D⟩:=Yv hbs;have y:=of_decide_eq_true y;have r:=of_decide_eq_true r;have D:=of_decide_eq_true D;rw [E.d_eq] at k;have k:=eG k;subst k;simp only [VR,PR] at hx;obtain ⟨a,C,rfl,Z,q⟩:=hx;rw [p rfl];have F:=pg P w true n C clo chi l u ((fA hlo I).imp (fun h=> ⟨h.2.1,h.2.2⟩) id) ((fA hhi H).imp (fun h=> ⟨h.2.1,h.2.2⟩) id) y r (by omega);refine ⟨rfl,.slice (if C=l.toNat then a else a.map (·.add (l.toNat*A.size))) (u.toNat - l.toNat) (C - l.toNat), ?_, ?_⟩
  ·simp [Instr.sliceAt,Instr.slice,run_underlying E.und,F,jc f]
  ·simp only [VR,PR];refine ⟨_,_,rfl,by omega, ?_⟩;rcases q with ⟨U,rfl,rfl,rfl⟩|⟨b,o,vs,rfl,hp,hs⟩
   ·refine .inl ⟨fun h=>U ?_,by simp,by omega,by omega⟩;split at h
    ·exact h
    ·simpa using h
   ·refine .inr ?_;by_cases J:C=l.toNat
    ·refine ⟨b,o,[],by rw [if_pos J], ?_,fun j u h=>by simp at h⟩;have e:(Y.take (u.toNat*A.size)).drop (l.toNat*A.size)= []:=by
      have:u.toNat=l.toNat:=by omega
      rw [this,Dh]
     rw [e];simp [bi]
    ·exact ⟨b,o+l.toNat*A.size,(vs.take (u.toNat*A.size)).drop (l.toNat*A.size),by rw [if_neg J];simp [Addr.add_mid],ny _ (jf _ hp),(hs.take _).drop _⟩
 ·rename_i e b ver j n k;have c:=bind_some h;clear h;obtain ⟨A,f,h⟩:=c;have c:=bind_some h;clear h;obtain ⟨B,W,h⟩:=c;have c:=bind_some h;clear h;obtain ⟨l,I,h⟩:=c;have c:=bind_some h;clear h;obtain ⟨u,H,h⟩:=c;split at h
  ·rename_i J;simp only [δ] at J;obtain ⟨rfl,rfl,rfl⟩:=aO h;obtain ⟨T,V,Q,f⟩:=bV G f;obtain ⟨y,r,D⟩:=Yv hbs;have y:=of_decide_eq_true y;have r:=of_decide_eq_true r;have D:=of_decide_eq_true D;rw [E.d_eq] at k;have k:=eG k;subst k;simp only [VR] at hx;obtain ⟨B',K,X,_,q⟩:=hx;have R:=M b B W;rw [R] at K;cases K;obtain ⟨o,rfl,U,q2,N⟩:=q (aA J.1);have L:=aA J.2;rw [p rfl];have F:=pg P w true n ((m b).2 - j) clo chi l u ((fA hlo I).imp (fun h=> ⟨h.2.1,h.2.2⟩) id) ((fA hhi H).imp (fun h=> ⟨h.2.1,h.2.2⟩) id) y r (by omega);refine ⟨rfl,.slice (if (m b).2 - j=l.toNat then some ⟨(m b).1,o,none⟩ else some ⟨(m b).1,o+l.toNat*A.size,none⟩) (u.toNat - l.toNat) ((m b).2 - j - l.toNat), ?_, ?_⟩
   ·simp [Instr.sliceAt,Instr.slice,run_underlying E.und,F,jc f,Addr.add_mid]
   ·simp only [VR];refine ⟨B,R,X,(by split<;>exact ⟨_,_,_,rfl⟩),fun _=> ?_⟩;by_cases hcl:(m b).2 - j=l.toNat
    ·exact ⟨o,by rw [if_pos hcl];congr 1;omega,by omega,fun h=>by omega,N⟩
    ·refine ⟨o+l.toNat*A.size,by rw [if_neg hcl];congr 1;omega,by omega,fun h=> ?_,N⟩;rw [q2 (by omega),L,Xx5]
  ·cases h
 ·rename_i e k;have c:=bind_some h;clear h;obtain ⟨A,f,h⟩:=c;have c:=bind_some h;clear h;obtain ⟨l,I,h⟩:=c;have c:=bind_some h;clear h;obtain ⟨u,H,h⟩:=c;obtain ⟨rfl,rfl,rfl⟩:=aO h;obtain ⟨T,V,Q,f⟩:=bV G f;have y:=of_decide_eq_true (hbs (decide (l=0)) (by simp));have r:=of_decide_eq_true (hbs (decide (u=0)) (by simp));subst y;subst r;rw [E.d_eq] at k;have k:=eG k;subst k;simp only [VR,PR] at hx;subst hx;rw [p rfl];have F:=pg P w true 0 0 clo chi 0 0 ((fA hlo I).imp (fun h=> ⟨h.2.1,h.2.2⟩) id) ((fA hhi H).imp (fun h=> ⟨h.2.1,h.2.2⟩) id) (by omega) (by omega) (by omega);refine ⟨rfl,.slice none 0 0, ?_,by simp only [VR,PR]⟩;simp at F;simp [Instr.sliceAt,Instr.slice,run_underlying E.und,F,jc f]
 ·cases h
theorem JK {x v:AV} {p:Value} (f:VR g m S x p) {t:Nat} {o:TI} {i:TypeInfo} {d:TypeDesc} {z:Value} (k:uO P t o i d z)
  {ups:List (Nat × aP)} {bs:List Bool} (h:Y4 o.d x=some (v,ups,bs)) (ats:Array TypeId) (hat:ats[0]? =some t) (args:Array Value) (ha:args[0]? =some p) (ty:Nat):
  ups= []∧∃ cv,(Builtin.len_ ats ty args).run P w= .ok cv w∧VR g m S v cv:=by
 unfold Y4 at h;rw [k.d_eq] at h;split at h
 ·rename_i n e c;obtain ⟨rfl,rfl,rfl⟩:=aO h;have c:=wF c;subst c;exact ⟨rfl,.int .i64 n,by simp [Builtin.len_,hat,ha,run_underlying k.und,goInt],by simp only [VR,PR]⟩
 ·rename_i s c;obtain ⟨rfl,rfl,rfl⟩:=aO h;have c:=uM c;subst c;simp only [VR,PR] at f;subst f;exact ⟨rfl,.int .i64 s.length,by simp [Builtin.len_,hat,ha,run_underlying k.und,goInt,wC],by simp only [VR,PR]⟩
 ·rename_i e q n r c;obtain ⟨rfl,rfl,rfl⟩:=aO h;have c:=eG c;subst c;simp only [VR,PR] at f;obtain ⟨a,l,rfl,_⟩:=f;exact ⟨rfl,.int .i64 n,by simp [Builtin.len_,hat,ha,run_underlying k.und,goInt],by simp only [VR,PR]⟩
 ·rename_i e b ver j n c;obtain ⟨rfl,rfl,rfl⟩:=aO h;have c:=eG c;subst c;simp only [VR] at f;obtain ⟨_,_,_,⟨_,_,l,rfl⟩,_⟩:=f;exact ⟨rfl,.int .i64 n,by simp [Builtin.len_,hat,ha,run_underlying k.und,goInt],by simp only [VR,PR]⟩
 ·rename_i e c;obtain ⟨rfl,rfl,rfl⟩:=aO h;have c:=eG c;subst c;simp only [VR,PR] at f;subst f;exact ⟨rfl,.int .i64 0,by simp [Builtin.len_,hat,ha,run_underlying k.und,goInt],by simp only [VR,PR]⟩
 ·cases h
theorem uN (s:List UInt8):(⟨s.toArray⟩:ByteArray).toList=s:=by rw [ByteArray.toList_eq]
theorem uY:∀ a b:List UInt8,Op.bytesLess a b=fH a b
 |_,[]=>by simp [Op.bytesLess,fH]
 | [],_::_=>by simp [Op.bytesLess,fH]
 |a::x,b::y=>by simp only [Op.bytesLess,fH,uY x y]
def pV:LK→Value→Value→Option Bool
 | .int k,.int k1 a,.int k2 b=>match gp k k1 && gp k k2 with|true=>some (a==b)|false=>none
 | .bool,.bool a,.bool b=>some (a==b)
 | .str,.string a,.string b=>some (a.toList==b.toList)
 |_,_,_=>none
def dh:List LK→List Value→List Value→Option Bool
 | [],[],[]=>some true
 |k::ks,a::as,b::bs=>(pV k a b).bind fun c=>(dh ks as bs).map fun d=>c && d
 |_,_,_=>none
theorem oI:∀ (l l':List LK) (xs ys:List Value) (r:Bool),dh (l++l') xs ys=some r→
  ∃ a b,dh l (xs.take l.length) (ys.take l.length)=some a∧dh l' (xs.drop l.length) (ys.drop l.length)=some b∧r=(a && b)
 | [],l',xs,ys,r,h=> ⟨true,r,by simp [dh],by simpa using h,by simp⟩
 |k::l,l',[],_,r,h=>by simp [dh] at h
 |k::l,l',_::_,[],r,h=>by simp [dh] at h
 |k::l,l',x::xs,y::ys,r,h=>by
  simp only [Xqt,dh] at h;obtain ⟨c,f,h⟩:=bind_some h;rw [Φ] at h;obtain ⟨d,i,rfl⟩:=h;obtain ⟨a,b,e,j,rfl⟩:=oI l l' xs ys d i;exact ⟨c && a,b,by simp [dh,f,e],by simpa using j,by simp [Bool.and_assoc]⟩
theorem mJ:∀ (l:List LK) (xs ys:List Value) (r:Bool),dh l xs ys=some r→xs.length=l.length∧ys.length=l.length
 | [],[],[],_,_=> ⟨rfl,rfl⟩
 |k::l,x::xs,y::ys,r,h=>by
  simp only [dh] at h;obtain ⟨c,_,h⟩:=bind_some h;rw [Φ] at h;obtain ⟨d,a,_⟩:=h;have:=mJ l xs ys d a;simp [this.1,this.2]
 | [],_::_,_,_,h=>by simp [dh] at h
 | [],[],_::_,_,h=>by simp [dh] at h
 |_::_,[],_,_,h=>by simp [dh] at h
 |_::_,_::_,[],_,h=>by simp [dh] at h
def qX (P:Program) (t:TypeId) (xs:List Value):Value:=match P.underlying t with
 |some (.struct _)=> .agg xs.toArray
 |_=>xs.headD undef
def VN (P:Program) (n:Nat) (t:TypeId) (lks:List LK):Prop:=
 ∀ (d:Nat) (w:World) (xs ys:List Value) (r:Bool),n≤d→dh lks xs ys=some r→(Op.equalIn d t (qX P t xs) (qX P t ys)).run P w= .ok r w
theorem qR {t:TypeId} {lks:List LK} {n:Nat} (f:iy P n t=some lks) {i:TypeInfo} (j:P.info? t=some i) (hs:i.size=lks.length) (b:List Value) (a:Nat) (k:a+lks.length≤b.length) (w:World):
  (part t b.toArray a).run P w= .ok (qX P t ((b.drop a).take lks.length)) w:=by
 cases n with
 |zero=>simp [iy] at f
 | succ n=>
  unfold iy at f;cases h:P.underlying t with
  |none=>simp [h] at f
  | some d=>
   have c:(isAgg t).run P w= .ok d.isRow w:=by
    unfold isAgg;rw [Sem.run_bind,run_underlying h w];cases d<;>simp [TypeDesc.isRow]
   cases d<;>simp only [h] at f<;>try cases f
   case struct fs=>
    simp only [TypeDesc.isRow] at c;simp [part,c,Go.sizeOf,typeInfo,j,hs,qX,h]
   all_goals
    simp only [TypeDesc.isRow] at c;simp only [Γ,Xqh,Θ] at k;have l:b[a]? =some (b[a]'(by omega)):=ν (by omega);simp only [part,Sem.run_bind,c,Result.andThen_ok,Bool.false_eq_true,if_false,qX,h];have e:((b.drop a).take [LK.str].length).headD undef=b[a]'(by omega):=by
     rw [Xz0,List.head?_take,Xv0,l];simp
    have o:(b.toArray)[a]? =some (b[a]'(by omega)):=by simp
    rw [o]
    first|exact congrArg (fun v=>Result.ok v w) e.symm|(simp only [Γ,Xqh] at e ⊢;exact congrArg (fun v=>Result.ok v w) e.symm)
theorem pY {n:Nat} (s:∀ t lks,iy P n t=some lks→VN P n t lks):∀ (fs:List Field) (off:Nat) (lks:List LK),vw P (iy P n) fs off=some lks→
  ∀ (d:Nat) (w:World) (xs ys:List Value) (r:Bool),n≤d→xs.length=off+lks.length→ys.length=off+lks.length→dh lks (xs.drop off) (ys.drop off)=some r→
   (Op.eqFields d xs.toArray ys.toArray fs).run P w= .ok r w
 | [],off,lks,hc,d,w,xs,ys,r,hd,hx,hy,h=>by
  simp [vw] at hc;subst hc;have y:xs.drop off= []:=Xq0 (by simp at hx;omega);have A:ys.drop off= []:=Xq0 (by simp at hy;omega);rw [y,A] at h;simp [dh] at h;subst h;simp [Op.eqFields]
 | f ::fs,off,lks,hc,d,w,xs,ys,r,hd,hx,hy,h=>by
  simp only [vw] at hc;cases j:iy P n f.type with
  |none=>simp [j] at hc
  | some l=>
   simp only [j] at hc;split at hc
   ·rename_i hcond;simp only [δ,Xqi] at hcond;obtain ⟨⟨u,o⟩,c⟩:=hcond;cases q:vw P (iy P n) fs (off+l.length) with
    |none=>simp [q] at hc
    | some l'=>
     simp only [q] at hc;cases hc;cases k:P.info? f.type with
     |none=>simp [k] at c
     |some i=>
      simp only [k] at c;have c:=aA c;have o:=aA o;have p:f.name ≠ "_" :=by intro e;rw [e] at u;exact absurd u (by decide)
      simp only [List.length_append] at hx hy;obtain ⟨a,b,v,z,rfl⟩:=oI l l' _ _ r h;have C:=qR j k c xs off (by omega) w;have x:=qR j k c ys off (by omega) w;have D:=s f.type l j d w _ _ a hd v;have B:=pY s fs (off+l.length) l' q d w xs ys b hd (by omega) (by omega) (by simpa [List.drop_drop,Nat.add_comm] using z);simp only [Op.eqFields,p,ne_eq,not_false_eq_true,if_true,Sem.run_bind,o,C,x,D,Result.andThen_ok];cases a
      ·simp
      ·simpa using B
   ·cases hc
theorem zS : ∀ (n:Nat) (t:TypeId) (lks:List LK),iy P n t=some lks→VN P n t lks
  |0,_,_,h=>by simp [iy] at h
  | n + 1,t,lks,h=>by
    intro d w o l r s b;obtain ⟨d,rfl⟩:∃ k,d=k+1:=⟨d - 1,by omega⟩
    have j:=mJ _ _ _ _ b;unfold iy at h;cases a:P.underlying t with
    |none=>simp [a] at h
    | some ds=>
      cases ds<;>simp only [a] at h<;>try cases h
      case struct fs=>
        split at h
        · cases h
        · rename_i q;have i:P.fieldsOf t=fs:=by simp [Program.fieldsOf,a]
          have e:=run_equalIn_struct (P:=P) w d t o.toArray l.toArray (by rw [i];exact a) q;simp only [qX,a];rw [e,i];exact pY (zS n) fs.toList 0 lks h d w o l r (by omega) (by simp [j.1]) (by simp [j.2]) (by simpa using b)
      all_goals
        simp only [Γ,Xqh,Θ] at j
        match o,l,j,b with
        | [x], [y],_,b=>
          simp only [dh,Option.map_some,Bool.and_true] at b;obtain ⟨c,f,b⟩:=bind_some b;cases b;simp only [qX,a,List.headD_cons];cases x<;>cases y<;>simp [pV] at f
          first
            | (split at f
               · rename_i p;simp only [δ] at p;obtain rfl:=dZ p.1;obtain rfl:=dZ p.2;cases f;exact run_equalIn_int (P:=P) w d t _ _ _ _ a
               · cases f)
            |(subst f;rw [run_equalIn_bool' (P:=P) w d t _ _ a])
            |(subst f;rw [run_equalIn_string (P:=P) w d t _ _ a])
end
end AM
namespace AM
open Go
section
variable {P:Program} {ap:AP} {g:bJ} {m:aH} {S:az} {w:World}
theorem ZQ {d:TypeDesc} (h:iT P (some d)= .ptr):∃ e,d= .pointer e:=by cases d<;>simp [iT] at h;exact ⟨_,rfl⟩
theorem VC {d:TypeDesc} (h:iT P (some d)= .func):∃ a b c,d= .func a b c:=by cases d<;>simp [iT] at h;exact ⟨_,_,_,rfl⟩
theorem Tf {d:TypeDesc} (h:iT P (some d)= .iface):∃ e,d= .interface e:=by cases d<;>simp [iT] at h;exact ⟨_,rfl⟩
theorem UL {a b:LK} (h:Y6 a b=true):a=b:=by
 cases a<;>cases b<;>simp [Y6] at h
 ·rw [dZ h]
 ·rfl
 ·rfl
theorem A_:∀ {a b:List LK},Ee a b=true→a=b
 | [],[],_=>rfl
 |_::_,_::_,h=>by simp only [Ee,δ] at h;rw [UL h.1,A_ h.2]
 | [],_::_,h=>by simp [Ee] at h
 |_::_,[],h=>by simp [Ee] at h
theorem Jz {k:LK} {a b:AV} {r:Bool} (h:Jy k a b=some r) {x y:Value} (c:VR g m S a x) (d:VR g m S b y):pV k x y=some r:=by
 unfold Jy at h;split at h
 ·simp only [VR,PR] at c d;subst c;subst d;split at h
  ·rename_i e;cases h;simp [pV,e]
  ·cases h
 ·simp only [VR,PR] at c d;subst c;subst d;simpa [pV] using h
 ·simp only [VR,PR] at c d;subst c;subst d;simpa [pV,uN] using h
 ·cases h
theorem tH:∀ {ks:List LK} {as bs:List AV} {r:Bool} {xs ys:List Value},ji ks as bs=some r→aU g m S as xs→aU g m S bs ys→dh ks xs ys=some r
 | [],[],[],r,xs,ys,h,ha,hb=>by
  cases xs<;>cases ys<;>simp [aU] at ha hb
  simpa [ji,dh] using h
 |k::ks,a::as,b::bs,r,x::xs,y::ys,h,ha,hb=>by
  simp only [ji] at h;obtain ⟨c,f,h⟩:=bind_some h;rw [Φ] at h;obtain ⟨d,e,rfl⟩:=h;simp only [aU] at ha hb;simp [dh,Jz f ha.1 hb.1,tH e ha.2 hb.2]
 | [],_::_,_,_,_,_,h,_,_=>by simp [ji] at h
 | [],[],_::_,_,_,_,h,_,_=>by simp [ji] at h
 |_::_,[],_,_,_,_,h,_,_=>by simp [ji] at h
 |_::_,_::_,[],_,_,_,h,_,_=>by simp [ji] at h
 |_::_,_::_,_::_,_,[],_,_,ha,_=>by simp [aU] at ha
 |_::_,_::_,_::_,_,_::_,[],_,_,hb=>by simp [aU] at hb
theorem wG (c:dJ P ap) {t:Nat} {b:TI} (h:ap.tyAt t=some b):b.cmp=Ue P t∧b.lks=Ef P 8 t:=by
 have a:=c.ty t b h;unfold Tj at a;split at a
 ·split at a
  ·cases a;exact ⟨rfl,rfl⟩
  ·cases a
 ·cases a
theorem gy (op:BinOp) (t:TypeId) (x y:Operand) (a b:Value) (c:¬ (a= .nilIface∧b= .nilIface)) (d:∀ xs ys,¬ (a= .agg xs∧b= .agg ys)):(eqGuard op t x y a b).run P w= .ok () w:=by
 unfold eqGuard;cases op<;>simp only [Sem.run_ite,Sem.run_pure]<;>try (simp;done)
 all_goals
  simp;split
  ·exact absurd ⟨rfl,rfl⟩ c
  ·exact absurd ⟨rfl,rfl⟩ (d _ _)
  ·rfl
def Md (op:BinOp) (r:Bool):Bool:=match op with| .neq=> !r|_=>r
theorem rO {t:Nat} {a b:Value} {r:Bool} {x y:Operand} (e:∀ op,(eqGuard op t x y a b).run P w= .ok () w) (h:∀ d,(Op.equalIn (d+1) t a b).run P w= .ok r w)
  (h1:binOp .eql t a b=(do pure (.bool (← Op.equal t a b)))) (h2:binOp .neq t a b=(do pure (.bool (!(← Op.equal t a b))))) {op:BinOp} (hop:op=BinOp.eql∨op=BinOp.neq):
  (do eqGuard op t x y a b;binOp op t a b:Sem Value).run P w= .ok (.bool (Md op r)) w:=by
 have c:(Op.equal t a b).run P w= .ok r w:=h 9999;rcases hop with rfl|rfl
 ·rw [Sem.run_bind,e,Result.andThen_ok,h1,Sem.run_bind,c];rfl
 ·rw [Sem.run_bind,e,Result.andThen_ok,h2,Sem.run_bind,c];rfl
theorem DY (v:dJ P ap) {t:Nat} {M:TI} (A:ap.tyAt t=some M) {a b:AV} {J H:Value} (j:VR g m S a J) (k:VR g m S b H) {r:Bool} (h:eqA M a b=some r) (L:∀ x ∈ Bz a b,x=true) (x y:Operand):
  ∀ op,op=BinOp.eql∨op=BinOp.neq→(do eqGuard op t x y J H;binOp op t J H:Sem Value).run P w= .ok (.bool (Md op r)) w:=by
 obtain ⟨i,d,z,u⟩:=bV v A;intro op f;unfold eqA at h;split at h
 case h_2 fs xs ys s=>
  split at h
  ·rename_i c;rw [(wG v A).1] at c;rw [(wG v A).2] at h;simp only [VR] at j k;obtain ⟨vs,rfl,j⟩:=j;obtain ⟨us,rfl,k⟩:=k;have K:=tH h j k;unfold Ue at c;cases F:iy P 8 t with
   |none=>simp [F] at c
   |some l=>
    simp only [F,δ,Xqi] at c;have D:=A_ c.1;rw [← D] at K;have E:=zS 8 t l F 10000 w vs us r (by omega) K;rw [u.d_eq] at s;obtain ⟨fields,rfl,_⟩:=sF s;simp only [qX,u.und] at E;have N:=run_eqGuard_agg (P:=P) w op t x y vs.toArray us.toArray c.2;rcases f with rfl|rfl
    ·simp [N,run_eql_struct,E,Md]
    ·simp [N,run_neq_struct,E,Md]
  ·cases h
 all_goals try (cases h;done)
 all_goals
  rename_i s;rw [u.d_eq] at s
  try simp only [VR,PR] at j k
 all_goals cases h
 case h_1=>
  have s:=VB s;subst s;subst j;subst k
  (refine rO (fun op=> ?_) (fun B=> ?_) rfl rfl f<;>first|exact gy op t x y _ _ (by simp) (by simp)|exact run_equalIn_bool' (P:=P) w B t _ _ u.und)
 all_goals
  first
   |(obtain ⟨e,rfl⟩:=ZQ s)
   |(obtain ⟨e,rfl⟩:=Tf s)
   |(obtain ⟨Q,R,O,rfl⟩:=VC s)
   |(have s:=eG s;subst s)
 case h_16 xs n nn=>
  subst k;obtain ⟨a,C,rfl,G,q⟩:=j;rcases q with ⟨I,rfl,rfl,rfl⟩|⟨b,o,vs,rfl,_⟩
  ·cases a with
   |none=>
    cases I rfl;exact absurd (L _ (by simp [Bz];rfl)) (by decide)
   |some p=>(refine rO (fun op=> ?_) (fun B=> ?_) rfl rfl f<;>first|exact gy op t x y _ _ (by simp) (by simp)|simp [Op.equalIn,run_underlying u.und])
  ·(refine rO (fun op=> ?_) (fun B=> ?_) rfl rfl f<;>first|exact gy op t x y _ _ (by simp) (by simp)|simp [Op.equalIn,run_underlying u.und])
 case h_17 xs n nn=>
  subst j;obtain ⟨a,C,rfl,G,q⟩:=k;rcases q with ⟨I,rfl,rfl,rfl⟩|⟨b,o,vs,rfl,_⟩
  ·cases a with
   |none=>
    cases I rfl;exact absurd (L _ (by simp [Bz];rfl)) (by decide)
   |some p=>(refine rO (fun op=> ?_) (fun B=> ?_) rfl rfl f<;>first|exact gy op t x y _ _ (by simp) (by simp)|simp [Op.equalIn,run_underlying u.und])
  ·(refine rO (fun op=> ?_) (fun B=> ?_) rfl rfl f<;>first|exact gy op t x y _ _ (by simp) (by simp)|simp [Op.equalIn,run_underlying u.und])
 all_goals
  try subst j
  try subst k
  try (obtain ⟨_,_,_,⟨_,_,rfl⟩,_⟩:=j)
  try (obtain ⟨_,_,_,⟨_,_,rfl⟩,_⟩:=k)
  try (obtain ⟨_,_,_,⟨_,_,_,rfl⟩,_⟩:=j)
  try (obtain ⟨_,_,_,⟨_,_,_,rfl⟩,_⟩:=k)
  try (obtain ⟨_,_,_,rfl,_⟩:=j)
  try (obtain ⟨_,_,_,rfl,_⟩:=k)
  try (obtain ⟨_,_,rfl,_⟩:=j)
  try (obtain ⟨_,_,rfl,_⟩:=k)
  try (obtain ⟨_,rfl,_⟩:=j)
  try (obtain ⟨_,rfl,_⟩:=k)
  (refine rO (fun op=> ?_) (fun B=> ?_) rfl rfl f<;>first|exact gy op t x y _ _ (by simp) (by simp)|simp [Op.equalIn,run_underlying u.und])
end
end AM
namespace AM
open Go
section
variable {P:Program} {ap:AP} {g:bJ} {m:aH} {S:az} {w:World}
theorem Jk (a b:List UInt8):(⟨a.toArray⟩:ByteArray)++⟨b.toArray⟩=⟨(a++b).toArray⟩:=by
 apply ByteArray.ext;rw [ByteArray.data_append];simp
theorem Jm (f:dJ P ap) {t:Nat} {s:TI} (e:ap.tyAt t=some s) {a b v:AV} {l j:Value} (c:VR g m S a l) (d:VR g m S b j) {op:BinOp} {ups:List (Nat × aP)} {bs:List Bool}
  (h:Yx op s a b=some (v,ups,bs)) (hbs:∀ x ∈ bs,x=true) (x y:Operand):
  ups= []∧∃ cv,(do eqGuard op t x y l j;binOp op t l j:Sem Value).run P w= .ok cv w∧VR g m S v cv:=by
 unfold Yx at h;split at h
 ·rename_i k p z q;simp only [VR,PR] at c d;subst c;subst d;have o:(eqGuard op t x y (.int k p) (.int z q)).run P w= .ok () w:=gy op t x y _ _ (by simp) (by simp);rw [Sem.run_bind,o,Result.andThen_ok];split at h
  ·obtain ⟨rfl,rfl,rfl⟩:=aO h;have h0:=of_decide_eq_true (hbs _ (List.mem_singleton.2 rfl));exact ⟨rfl,_,by simp [binOp,Op.shift,show ¬ q<0 by omega];rfl,by simp only [VR,PR]⟩
  ·obtain ⟨rfl,rfl,rfl⟩:=aO h;have h0:=of_decide_eq_true (hbs _ (List.mem_singleton.2 rfl));exact ⟨rfl,_,by simp [binOp,Op.shift,show ¬ q<0 by omega];rfl,by simp only [VR,PR]⟩
  ·split at h
   ·cases h
   ·rename_i i;have i:=dZ i;subst i;split at h
    all_goals try (cases h;done)
    all_goals obtain ⟨rfl,rfl,rfl⟩:=aO h
    case h_4=>
     have h0:(q==0)=false:=by simpa using hbs _ (List.mem_singleton.2 rfl)
     have h0:¬ q=0:=by simpa using h0
     exact ⟨rfl,_,by simp [binOp,Op.intDiv,h0];rfl,by simp only [VR,PR]⟩
    case h_5=>
     have h0:(q==0)=false:=by simpa using hbs _ (List.mem_singleton.2 rfl)
     have h0:¬ q=0:=by simpa using h0
     exact ⟨rfl,_,by simp [binOp,Op.intDiv,h0];rfl,by simp only [VR,PR]⟩
    all_goals exact ⟨rfl,_,by simp only [binOp,Op.intArith,Op.intBits,Op.intCmp,ne_eq,not_true_eq_false,if_false];rfl,by simp only [VR,PR];first|done|rfl⟩
 ·rename_i p q;simp only [VR,PR] at c d;subst c;subst d;have o:(eqGuard op t x y (.string ⟨p.toArray⟩) (.string ⟨q.toArray⟩)).run P w= .ok () w:=gy op t x y _ _ (by simp) (by simp);rw [Sem.run_bind,o,Result.andThen_ok];split at h
  all_goals try (cases h;done)
  all_goals obtain ⟨rfl,rfl,rfl⟩:=aO h
  case h_1=>
   have h0:=dU (hbs _ (List.mem_singleton.2 rfl));have u:¬ (IntKind.i64.max<((p.length+q.length:Nat):Int)):=by
    have:IntKind.i64.max=9223372036854775807:=by decide
    omega
   refine ⟨rfl,.string ⟨(p++q).toArray⟩, ?_,by simp only [VR,PR]⟩;simp only [binOp,Op.stringOp,wC,gt_iff_lt,u,if_false,Jk,Sem.run_pure]
  all_goals
   refine ⟨rfl,_,rfl, ?_⟩;simp only [VR,PR,uN,uY]
 ·split at h
  ·obtain ⟨r,n,h⟩:=bind_some h;obtain ⟨rfl,rfl,rfl⟩:=aO h;exact ⟨rfl,_,DY f e c d n hbs x y _ (.inl rfl),by simp only [VR,PR];rfl⟩
  ·obtain ⟨r,n,h⟩:=bind_some h;obtain ⟨rfl,rfl,rfl⟩:=aO h;exact ⟨rfl,_,DY f e c d n hbs x y _ (.inr rfl),by simp only [VR,PR];rfl⟩
  ·cases h
theorem OZ {x v:AV} {b:Value} (a:VR g m S x b) {op:UnOp} {ups:List (Nat × aP)} {bs:List Bool} (h:unA op x=some (v,ups,bs)):
  ups= []∧∃ cv,(Op.unary op b).run P w= .ok cv w∧VR g m S v cv:=by
 unfold unA at h;split at h
 ·obtain ⟨rfl,rfl,rfl⟩:=aO h;simp only [VR,PR] at a;subst a;exact ⟨rfl,_,rfl,by simp only [VR,PR]⟩
 ·obtain ⟨rfl,rfl,rfl⟩:=aO h;simp only [VR,PR] at a;subst a;exact ⟨rfl,_,rfl,by simp only [VR,PR]⟩
 ·cases h
theorem qH {f:AV→AV→Option AV} {F:Value→Value→Sem Value} (d:∀ a b c ca cb,VR g m S a ca→VR g m S b cb→f a b=some c→∃ cc,(F ca cb).run P w= .ok cc w∧VR g m S c cc):
  ∀ (l:List AV) (cl:List Value) (x v:AV) (cx:Value),aU g m S l cl→VR g m S x cx→G_ f x l=some v→∃ cv,(cl.foldlM F cx).run P w= .ok cv w∧VR g m S v cv
 | [],[],x,v,cx,_,hx,h=>by simp [G_] at h;subst h;exact ⟨cx,by simp,hx⟩
 | y::r,cy::cr,x,v,cx,hl,hx,h=>by
  simp only [aU] at hl;simp only [G_] at h;split at h
  ·rename_i z i;obtain ⟨n,e,j⟩:=d _ _ _ _ _ hx hl.1 i;obtain ⟨cv,o,k⟩:=qH d r cr z v n hl.2 j h;exact ⟨cv,by simp [List.foldlM_cons,e,o],k⟩
  ·cases h
 | [],_::_,_,_,_,hl,_,_=>by simp [aU] at hl
 |_::_,[],_,_,_,hl,_,_=>by simp [aU] at hl
theorem JP {a b c:AV} {d e:Value} (f:VR g m S a d) (i:VR g m S b e) (h:min2 a b=some c):∃ cc,(Builtin.min2 d e).run P w= .ok cc w∧VR g m S c cc:=by
 unfold min2 at h;split at h
 ·split at h
  ·cases h;simp only [VR,PR] at f i;subst f;subst i;exact ⟨_,rfl,by simp only [VR,PR]⟩
  ·cases h
 ·cases h
theorem JM {a b c:AV} {d e:Value} (f:VR g m S a d) (i:VR g m S b e) (h:max2 a b=some c):∃ cc,(Builtin.max2 d e).run P w= .ok cc w∧VR g m S c cc:=by
 unfold max2 at h;split at h
 ·split at h
  ·cases h;simp only [VR,PR] at f i;subst f;subst i;exact ⟨_,rfl,by simp only [VR,PR]⟩
  ·cases h
 ·cases h
theorem Oy {l:List AV} {cl:List Value} (a:aU g m S l cl) {v:AV} (h:wQ min2 l=some v) (b:Array TypeId) (ty:Nat):∃ cv,(Builtin.min_ b ty cl.toArray).run P w= .ok cv w∧VR g m S v cv:=by
 cases l with
 |nil=>simp [wQ] at h
 | cons x r=>cases cl with
  |nil=>simp [aU] at a
  |cons cx cr=>
   simp only [aU] at a;obtain ⟨cv,c,d⟩:=qH (P:=P) (w:=w) (F:=Builtin.min2) (fun _ _ _ _ _=>JP) r cr x v cx a.2 a.1 h;exact ⟨cv,by simpa [Builtin.min_] using c,d⟩
theorem Ox {l:List AV} {cl:List Value} (a:aU g m S l cl) {v:AV} (h:wQ max2 l=some v) (b:Array TypeId) (ty:Nat):∃ cv,(Builtin.max_ b ty cl.toArray).run P w= .ok cv w∧VR g m S v cv:=by
 cases l with
 |nil=>simp [wQ] at h
 | cons x r=>cases cl with
  |nil=>simp [aU] at a
  |cons cx cr=>
   simp only [aU] at a;obtain ⟨cv,c,d⟩:=qH (P:=P) (w:=w) (F:=Builtin.max2) (fun _ _ _ _ _=>JM) r cr x v cx a.2 a.1 h;exact ⟨cv,by simpa [Builtin.max_] using c,d⟩
end
end AM
