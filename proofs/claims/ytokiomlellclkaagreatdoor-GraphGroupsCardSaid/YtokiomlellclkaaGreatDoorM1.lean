/- The abstract machine over the code of the model, and the proof that it is sound. No conditions. -/
import Derived.WalkKit
import Derived.Deep.AppendSrc
import Derived.Deep.MidRow
import Derived.WalkLawsBesides
set_option linter.unusedSimpArgs false
set_option linter.unusedVariables false
open Nat renaming beq→Δ,blt→Xxc,ble→Xqq,le_refl→ζ,le_trans→Xqg,add_zero→Xxf,add_assoc→Xx9,add_mul→Xzb,zero_add→Φ
open List renaming replicate→Xqh,range→Ψ,cons_append→Xqz,take_succ_cons→Xx7,map_cons→Γ,getD_eq_getElem?_getD→γ,headD_eq_head?_getD→Xwb,head?_drop→Xv2,tail_drop→Xv7,getElem?_map→φ,getElem?_take→Xxh,getElem?_drop→Xxy,getElem?_eq_getElem→δ,drop_eq_nil_of_le→Xq5,length_cons→τ,length_nil→Xqf
open BitVec renaming ofInt→Xzr
open Bool renaming and_eq_true→ε,not_eq_true'→Xqe
open Option renaming map_eq_some_iff→Ξ
namespace AM
open Go
inductive AV where
 |int (k:IntKind) (n:Int)
 |bool (b:Bool)
 |str (s:List UInt8)
 |agg (l:List AV)
 |tup (l:List AV)
 |nilS
 |sl (xs:List AV) (n:Nat) (nn:Bool)
 |ref (b ver i n:Nat)
 |own (xs:List AV) (n esz:Nat)
 |ptr (b ver off:Nat)
 |pp (xs:List AV) (off:Nat)
 |mr (b ver:Nat)
 |mp (ks vs:List AV)
 |nilP
 |fn (f:Nat) (first cap:List AV)
 |nilF
 |ifc (t:Nat) (v:AV)
 |nilI
 |raw (v:Value)
 |dead
inductive LK where
 |int (k:IntKind)
 |bool
 |str
 |sl
 |oth
inductive TD where
 |struct (fs:List (Nat × Nat × Nat))
 |array (n elem:Nat)
 |slice (elem:Nat)
 |int (k:IntKind)
 |str
 |bool
 |iface
 |ptr
 |func
 |map (k e:Nat)
 |oth
structure TI where
 d:TD
 size:Nat
 bytes:Nat
 zero:List AV
 lks:List LK
 cmp:Bool
structure AF where
 fn:Func
 keep:List Nat
 shared:Bool
inductive Tr (α:Type) where
 |nil
 |node (v:Option α) (l r:Tr α)
def Tr.get {α:Type}:Tr α→Nat→Option α
 | .nil,_=>none
 | .node v l r,n=>match Δ n 0 with
  |true=>v
  |false=>match Δ (n % 2) 1 with
   |true=>l.get ((n - 1) / 2)
   |false=>r.get ((n - 1) / 2)
structure AP where
 nty:Nat
 ty:Tr TI
 nfn:Nat
 fn:Tr AF
 gl:List (Option (List AV))
 mt:List (Nat × String × Nat):= []
def AP.mtAt (ap:AP) (t:Nat) (n:String):Option Nat:=(ap.mt.find? fun q=>Δ q.1 t && q.2.1==n).map fun q=>q.2.2
def mtB (P:Program) (q:Nat × String × Nat):Bool:=match P.info? q.1 with
 | some i=>match i.methods.find? (fun m=>m.name==q.2.1) with
  |some m=>m.path.isEmpty && (match m.func,P.underlying q.1 with
   |some (f,true),some (.pointer _)=>Δ f q.2.2
   |some (f,false),some (.pointer _)=>false
   |some (f,false),some _=>Δ f q.2.2
   |_,_=>false)
  |none=>false
 |none=>false
def dJ:Nat:=4611686018427387904
def WL:List AV→Option AV
 | [.agg ks,.agg vs]=>some (.mp ks vs)
 |_=>none
structure az where
 cells:List AV
 ver:Nat
 fro:Bool
 fz:Nat
 esz:Nat
 pr:Bool
abbrev dG:=List (Nat × AV)
abbrev Hp:=List (Nat × az)
def ai {α:Type}:List (Nat × α)→Nat→Option α
 | [],_=>none
 |(u,x)::r,t=>match Δ u t with|true=>some x|false=>ai r t
def fP {α β:Type} (f:α→Option β):List α→Option (List β)
 | []=>some []
 |x::r=>match f x with
  |some y=>match fP f r with|some l=>some (y::l)|none=>none
  |none=>none
def dG.get (e:dG) (t:Nat):AV:=(ai e t).getD .dead
def AV.cells:AV→List AV
 | .agg l=>l
 |x=> [x]
def AV.toInt:AV→Int| .int _ n=>n|_=>0
def AV.toBool:AV→Bool| .bool b=>b|_=>false
def AV.toStr:AV→List UInt8| .str s=>s|_=> []
def AV.slX:AV→List AV| .sl xs _ _=>xs|_=> []
def AV.slN:AV→Nat| .sl _ n _=>n|_=>0
def SE:IntKind→Nat
 | .i8=>0| .i16=>1| .i32=>2| .i64=>3| .u8=>4| .u16=>5| .u32=>6| .u64=>7
def gJ (a b:IntKind):Bool:=Δ (SE a) (SE b)
def chk:LK→AV→Bool
 | .int k,.int k' _=>gJ k k'
 | .bool,.bool _=>true
 | .str,.str _=>true
 | .sl,.sl _ _ _=>true
 | .sl,.nilS=>true
 | .oth,.dead=>false
 | .oth,.agg _=>false
 | .oth,.tup _=>false
 | .oth,.own _ _ _=>false
 | .oth,.raw _=>false
 | .oth,_=>true
 |_,_=>false
def eta:LK→AV→AV
 | .int k,c=> .int k c.toInt
 | .bool,c=> .bool c.toBool
 | .str,c=> .str c.toStr
 | .sl,c=> .sl c.slX c.slN false
 | .oth,c=>c
def kV:AV→Bool
 | .dead| .agg _| .tup _| .own _ _ _=>false
 | .raw _=>false
 |_=>true
mutual
def bZ:AV→List Nat
 | .ref b _ _ _=> [b]
 | .ptr b _ _=> [b]
 | .mr b _=> [b]
 | .agg l=>bg l
 | .tup l=>bg l
 | .fn _ f c=>bg f++bg c
 | .ifc _ v=>bZ v
 |_=> []
def bg:List AV→List Nat
 | []=> []
 |x::r=>bZ x++bg r
end
mutual
def ren (ρ:Nat→Nat→Option (Nat × Nat)):AV→AV
 | .ref b v i n=>match ρ b v with|some (b',v')=> .ref b' v' i n|none=> .dead
 | .ptr b v o=>match ρ b v with|some (b',v')=> .ptr b' v' o|none=> .dead
 | .mr b v=>match ρ b v with|some (b',v')=> .mr b' v'|none=> .dead
 | .agg l=> .agg (jG ρ l)
 | .tup l=> .tup (jG ρ l)
 | .fn f a c=> .fn f (jG ρ a) (jG ρ c)
 | .ifc t v=> .ifc t (ren ρ v)
 |x=>x
def jG (ρ:Nat→Nat→Option (Nat × Nat)):List AV→List AV
 | []=> []
 |x::r=>ren ρ x::jG ρ r
end
def G5:Value→AV
 | .int k n=> .int k n
 | .bool b=> .bool b
 | .string s=> .str s.data.toList
 | .pointer a=>match a with|none=> .nilP|some _=> .dead
 | .slice a n c=>match a,n,c with|none,0,0=> .nilS|_,_,_=> .dead
 | .nilFunc=> .nilF
 | .nilIface=> .nilI
 | .map a=>match a with|none=> .mp [] []|some _=> .dead
 |_=> .dead
def Dh:Value→AV
 | .agg cs=> .agg (cs.toList.map G5)
 | .tuple vs=>match vs.toList with| []=> .tup []|_=> .dead
 |v=>G5 v
def AP.tyAt (ap:AP) (t:Nat):Option TI:=match Xxc t ap.nty with|true=>ap.ty.get t|false=>none
def AP.fnAt (ap:AP) (f:Nat):Option AF:=match Xxc f ap.nfn with|true=>ap.fn.get f|false=>none
def kY (l:List Nat) (a:Nat):Bool:=l.any (Δ a)
def fJ (l:List Nat):List Nat:=l.foldl (fun acc b=>if kY acc b then acc else acc++ [b]) []
abbrev ED:=Option (AV × List (Nat × az) × List Bool)
def aY (v:AV) (bs:List Bool:= []):ED:=some (v,[],bs)
def JB (ty:Bool):List LK→List AV→List AV
 | [],_=> []
 |k::ks,ys=>(match ty with|true=>eta k (ys.headD .dead)|false=>ys.headD .dead)::JB ty ks ys.tail
def QU (ty:Bool):List LK→List AV→List Bool
 | [],_=> []
 |k::ks,ys=>(match ty with|true=>chk k (ys.headD .dead)|false=>chk .oth (ys.headD .dead))::QU ty ks ys.tail
def su (ty:Bool) (ks:List LK) (xs:List AV) (off:Nat):List AV:=JB ty ks (xs.drop off)
def Gg (ty:Bool) (ks:List LK) (xs:List AV) (off:Nat):List Bool:=QU ty ks (xs.drop off)
def GI:TD→Bool
 | .struct _=>true
 | .array _ _=>true
 |_=>false
def oN (ti:TI) (cs:List AV):Option AV:=
 match GI ti.d with
 |true=>some (.agg cs)
 |false=>match cs with| [c]=>some c|_=>none
def Jl (ti:TI) (rd:Nat→Option az) (p:AV):ED:=
 match p with
 | .pp xs off=>(oN ti (su true ti.lks xs off)).bind fun v=>aY v (Gg true ti.lks xs off)
 | .ptr b ver off=>(rd b).bind fun B=>match Δ B.ver ver && !(Δ B.esz dJ) with
  |true=>(oN ti (su (Xxc 0 B.esz && B.pr) ti.lks B.cells off)).bind fun v=>aY v (Gg (Xxc 0 B.esz && B.pr) ti.lks B.cells off)
  |false=>none
 |_=>none
def eu (xs:List AV) (off:Nat) (vs:List AV):List AV:=xs.take off++vs++xs.drop (off+vs.length)
def MG (ti:TI) (rd:Nat→Option az) (p v:AV):ED:=
 match p with
 | .ptr b ver off=>(rd b).bind fun B=>
  let vs:=v.cells
  let rs:=bg vs
  match Δ B.ver ver && !B.fro && Δ vs.length ti.size && vs.all kV && !(Δ B.esz dJ) with
  |true=>some (.dead,[(b,{B with cells:=eu B.cells off vs,pr:=B.pr && rs.isEmpty})],[Xqq (off+vs.length) B.cells.length])
  |false=>none
 |_=>none
def jQ (nid:Nat) (cells:List AV) (esz:Nat):Nat × az:=(nid,{cells,ver:=0,fro:=false,fz:=0,esz,pr:=(bg cells).isEmpty})
def uI (cells:List AV):List (Nat × Nat × AV)→Option (List AV)
 | []=>some cells
 |(off,size,v)::r=>match Δ v.cells.length size && Xqq (off+size) cells.length && v.cells.all kV with
  |true=>uI (eu cells off v.cells) r
  |false=>none
def KD (ap:AP) (ti:TI) (parts:List (Nat × AV)):ED:=
 match ti.d with
 | .struct fs=>(fP (fun (q:Nat × AV)=>(fs[q.1]?).map fun (x:Nat × Nat × Nat)=>(x.1,x.2.2,q.2)) parts).bind fun ps=>(uI ti.zero ps).bind fun cs=>aY (.agg cs)
 | .array _ e=>(ap.tyAt e).bind fun te=>(uI ti.zero (parts.map fun (i,v)=>(i*te.size,te.size,v))).bind fun cs=>aY (.agg cs)
 |_=>none
def gu (n:Nat) (z:List AV):List AV:=(Xqh n z).flatten
def qZ (ap:AP) (nid:Nat) (ti:TI) (len:Nat) (parts:List (Nat × AV)):ED:=
 match ti.d with
 | .slice e=>(ap.tyAt e).bind fun te=>
  match Xxc 0 te.size && Xqq (len*te.size) (2^24) && Δ te.zero.length te.size with
  |true=>(uI (gu len te.zero) (parts.map fun (i,v)=>(i*te.size,te.size,v))).bind fun cs=>
   some (.ref nid 0 0 len,[jQ nid cs te.size],[])
  |false=>none
 |_=>none
def TE (p:AV) (o:Nat):Option AV:=
 match p with
 | .ptr b v off=>some (.ptr b v (off+o))
 | .pp xs off=>some (.pp xs (off+o))
 |_=>none
def NL (v:AV):Option Int:=match v with| .int _ n=>some n|_=>none
def vw (ap:AP) (ti:TI) (rd:Nat→Option az) (x i:AV):ED:=
 (NL i).bind fun i=>
 match ti.d with
 | .slice e=>(ap.tyAt e).bind fun te=>
  match x with
  | .sl xs n _=>aY (.pp xs (i.toNat*te.size)) [decide (0≤i),decide (i<n)]
  | .ref b ver j n=>(rd b).bind fun B=>match Δ B.ver ver && Δ B.esz te.size with
   |true=>aY (.ptr b ver ((j+i.toNat)*te.size)) [decide (0≤i),decide (i<n)]
   |false=>none
  |_=>none
 | .array n e=>(ap.tyAt e).bind fun te=>(TE x (i.toNat*te.size)).bind fun p=>aY p [decide (0≤i),decide (i<n)]
 |_=>none
def KZ (ap:AP) (ti:TI) (x i:AV):ED:=
 (NL i).bind fun i=>
 match ti.d,x with
 | .str,.str s=>aY (.int .u8 (s.getD i.toNat 0).toNat) [decide (0≤i),decide (i<s.length)]
 | .array n e,.agg cs=>(ap.tyAt e).bind fun te=>
  (oN te (su true te.lks cs (i.toNat*te.size))).bind fun v=>aY v (decide (0≤i)::decide (i<n)::Gg true te.lks cs (i.toNat*te.size))
 |_,_=>none
def lW (v:Option AV) (d:Int):Option Int:=match v with|none=>some d|some (.int _ n)=>some n|some _=>none
def L_ (ap:AP) (ti:TI) (rd:Nat→Option az) (x:AV) (lo hi mx:Option AV):ED:=
 match ti.d,x,mx with
 | .str,.str s,none=>(lW lo 0).bind fun l=>(lW hi s.length).bind fun h=>
   aY (.str ((s.take h.toNat).drop l.toNat)) [decide (0≤l),decide (l≤h),decide (h≤s.length)]
 | .slice e,.sl xs n nn,none=>(ap.tyAt e).bind fun te=>(lW lo 0).bind fun l=>(lW hi n).bind fun h=>
   aY (.sl ((xs.take (h.toNat*te.size)).drop (l.toNat*te.size)) (h.toNat - l.toNat) nn) [decide (0≤l),decide (l≤h),decide (h≤n)]
 | .slice e,.ref b ver j n,none=>(ap.tyAt e).bind fun te=>(rd b).bind fun B=>(lW lo 0).bind fun l=>(lW hi n).bind fun h=>
   match Δ B.ver ver && Δ B.esz te.size with
   |true=>aY (.ref b ver (j+l.toNat) (h.toNat - l.toNat)) [decide (0≤l),decide (l≤h),decide (h≤n)]
   |false=>none
 | .slice e,.nilS,none=>(ap.tyAt e).bind fun _=>(lW lo 0).bind fun l=>(lW hi 0).bind fun h=>aY .nilS [decide (l=0),decide (h=0)]
 |_,_,_=>none
def aaQ (d:TD) (x:AV):ED:=
 match d,x with
 | .array n _,_=>aY (.int .i64 n)
 | .str,.str s=>aY (.int .i64 s.length)
 | .slice _,.sl _ n _=>aY (.int .i64 n)
 | .slice _,.ref _ _ _ n=>aY (.int .i64 n)
 | .slice _,.nilS=>aY (.int .i64 0)
 |_,_=>none
def JZ (size:Nat) (rd:Nat→Option az) (x:AV):Option (List AV × Nat × Bool):=
 match x with
 | .sl xs n _=>some (xs,n,true)
 | .nilS=>some ([],0,true)
 | .str s=>some (s.map fun b=> .int .u8 b.toNat,s.length,true)
 | .ref b ver j n=>(rd b).bind fun B=>match Δ B.ver ver && Δ B.esz size && !(Δ B.esz dJ) with
  |true=>some ((B.cells.drop (j*size)).take (n*size),n,B.pr)
  |false=>none
 |_=>none
def JG:Nat:=2^40
def Fg (b:Nat):Nat:=match Xqq b 128 with|true=>JG|false=>549755813888
def wC (nid:Nat) (te:TI) (rd:Nat→Option az) (em:Bool) (s x:AV):ED:=
 (JZ te.size rd x).bind fun (xs,n,pr)=>
 match Xxc 0 te.size && Xqq te.bytes 256 with
 |false=>none
 |true=>
 match s with
 | .nilS=>match em with
  |true=>aY .nilS [Δ xs.length (n*te.size)]
  |false=>some (.ref nid 0 0 n,[(nid,⟨xs,0,false,0,te.size,pr⟩)],[Δ xs.length (n*te.size),Xqq n (Fg te.bytes)])
 | .ref b ver 0 m=>(rd b).bind fun B=>match Δ B.ver ver && Δ B.esz te.size && !(Δ B.esz dJ) with
  | true=>some (.ref b (ver+1) 0 (m+n),[(b,{B with cells:=B.cells.take (m*te.size)++xs,ver:=ver+1,pr:=B.pr && pr})],
    [Δ xs.length (n*te.size),Xqq (m+n) (Fg te.bytes),Xqq (m*te.size) B.cells.length, !B.fro||Xqq B.fz (m*te.size)])
  |false=>none
 |_=>none
def vg:AV→Option Nat
 | .sl _ n _=>some n
 | .nilS=>some 0
 | .str s=>some s.length
 | .ref _ _ _ n=>some n
 |_=>none
def wL (ρ:Operand→AV) (o:Op):Option Nat:=
 match o with
 | .call {callee:= .builtin .append,args,..}=>match args.toList with
  | [s,x]=>match ρ s with
   | .nilS=>vg (ρ x)
   |_=>none
  |_=>none
 |_=>none
def TL:AV→Bool
 | .nilS=>false
 |_=>true
def vG (ap:AP) (nid:Nat) (ti:TI) (l c:AV):ED:=
 match ti.d,l,c with
 | .slice e,.int _ l,.int _ c=>(ap.tyAt e).bind fun te=>
  match Xxc 0 te.size && Δ te.zero.length te.size && Xqq te.bytes 128 && (bg te.zero).isEmpty with
  |true=>some (.ref nid 0 0 l.toNat,[(nid,⟨gu l.toNat te.zero,0,false,0,te.size,te.zero.all TL⟩)],[decide (0≤l),decide (l=c),decide (l≤2^40)])
  |false=>none
 |_,_,_=>none
def KG (te:TI) (rd:Nat→Option az) (x:AV):ED:=
 match x with
 | .nilS=>aY (.tup [])
 | .ref b ver i n=>(rd b).bind fun B=>match Δ B.ver ver && !B.fro && Δ B.esz te.size && Δ te.zero.length te.size && (bg te.zero).isEmpty with
  |true=>some (.tup [],[(b,{B with cells:=eu B.cells (i*te.size) (gu n te.zero)})],[Xqq (i*te.size+n*te.size) B.cells.length])
  |false=>none
 |_=>none
def BJ (ap:AP) (ts td:TI) (rd:Nat→Option az) (x:AV):ED:=
 match ts.d,td.d,x with
 |_,.int k,.int _ n=>aY (.int k (k.wrap n))
 | .str,.str,.str s=>aY (.str s)
 | .slice e,.str,x=>(ap.tyAt e).bind fun te=>match te.d,x with
  | .int .u8,.str _=>none
  | .int .u8,x=>(JZ 1 rd x).bind fun (xs,n,_)=>aY (.str (xs.map fun c=>UInt8.ofNat c.toInt.toNat)) [Δ xs.length n,xs.all (chk (.int .u8))]
  |_,_=>none
 |_,_,_=>none
def KJ:LK→AV→AV→Option Bool
 | .int k,.int k1 a,.int k2 b=>match gJ k k1 && gJ k k2 with|true=>some (a==b)|false=>none
 | .bool,.bool a,.bool b=>some (a==b)
 | .str,.str a,.str b=>some (a==b)
 |_,_,_=>none
def jq:List LK→List AV→List AV→Option Bool
 | [],[],[]=>some true
 |k::ks,a::as,b::bs=>(KJ k a b).bind fun c=>(jq ks as bs).map fun d=>c && d
 |_,_,_=>none
def eqA (ti:TI) (a b:AV):Option Bool:=
 match ti.d,a,b with
 | .bool,.bool a,.bool b=>some (a==b)
 | .struct _,.agg xs,.agg ys=>match ti.cmp with|true=>jq ti.lks xs ys|false=>none
 | .ptr,.nilP,.nilP=>some true
 | .ptr,.nilP,.ptr _ _ _=>some false
 | .ptr,.nilP,.pp _ _=>some false
 | .ptr,.ptr _ _ _,.nilP=>some false
 | .ptr,.pp _ _,.nilP=>some false
 | .iface,.nilI,.ifc _ _=>some false
 | .iface,.ifc _ _,.nilI=>some false
 | .func,.nilF,.nilF=>some true
 | .func,.nilF,.fn _ _ _=>some false
 | .func,.fn _ _ _,.nilF=>some false
 | .slice _,.nilS,.nilS=>some true
 | .slice _,.ref _ _ _ _,.nilS=>some false
 | .slice _,.nilS,.ref _ _ _ _=>some false
 | .slice _,.sl _ _ _,.nilS=>some false
 | .slice _,.nilS,.sl _ _ _=>some false
 |_,_,_=>none
def C9 (a b:AV):List Bool:=
 match a,b with
 | .sl _ n false,.nilS=> [Xxc 0 n]
 | .nilS,.sl _ n false=> [Xxc 0 n]
 |_,_=> []
def kT:List UInt8→List UInt8→Bool
 |_,[]=>false
 | [],_::_=>true
 |a::x,b::y=>decide (a<b)||(a==b && kT x y)
def aab (op:BinOp) (ti:TI) (x y:AV):ED:=
 match x,y with
 | .int k a,.int k' b=>
  match op with
  | .shl=>aY (.int k (k.wrap (a*2^(min b.toNat k.bits)))) [decide (0≤b)]
  | .shr=>aY (.int k (a.fdiv (2^(min b.toNat k.bits)))) [decide (0≤b)]
  | _=>match gJ k k' with
   |false=>none
   |true=>match op with
    | .add=>aY (.int k (k.wrap (a+b)))
    | .sub=>aY (.int k (k.wrap (a - b)))
    | .mul=>aY (.int k (k.wrap (a*b)))
    | .quo=>aY (.int k (k.wrap (a.tdiv b))) [!(b==0)]
    | .rem=>aY (.int k (a.tmod b)) [!(b==0)]
    | .and=>aY (.int k (k.wrap (Xzr k.bits a &&& Xzr k.bits b).toNat))
    | .or=>aY (.int k (k.wrap (Xzr k.bits a|||Xzr k.bits b).toNat))
    | .xor=>aY (.int k (k.wrap (Xzr k.bits a^^^Xzr k.bits b).toNat))
    | .eql=>aY (.bool (a==b))
    | .neq=>aY (.bool (!(a==b)))
    | .lss=>aY (.bool (decide (a<b)))
    | .leq=>aY (.bool (decide (a≤b)))
    | .gtr=>aY (.bool (decide (b<a)))
    | .geq=>aY (.bool (decide (b≤a)))
    |_=>none
 | .str a,.str b=>
  match op with
  | .add=>aY (.str (a++b)) [Xqq (a.length+b.length) 9223372036854775807]
  | .eql=>aY (.bool (a==b))
  | .neq=>aY (.bool (!(a==b)))
  | .lss=>aY (.bool (kT a b))
  | .leq=>aY (.bool (kT a b||a==b))
  | .gtr=>aY (.bool (!(kT a b||a==b)))
  | .geq=>aY (.bool (!kT a b))
  |_=>none
 |x,y=>
  match op with
  | .eql=>(eqA ti x y).bind fun b=>aY (.bool b) (C9 x y)
  | .neq=>(eqA ti x y).bind fun b=>aY (.bool (!b)) (C9 x y)
  |_=>none
def unA (op:UnOp) (x:AV):ED:=
 match op,x with
 | .not,.bool b=>aY (.bool (!b))
 | .neg,.int k n=>aY (.int k (k.wrap (0 - n)))
 |_,_=>none
def min2 (a b:AV):Option AV:=match a,b with| .int k x,.int k' y=>(match gJ k k' with|true=>some (.int k (if y<x then y else x))|false=>none)|_,_=>none
def max2 (a b:AV):Option AV:=match a,b with| .int k x,.int k' y=>(match gJ k k' with|true=>some (.int k (if y>x then y else x))|false=>none)|_,_=>none
def IR (f:AV→AV→Option AV):AV→List AV→Option AV
 |x,[]=>some x
 |x,y::r=>match f x y with|some z=>IR f z r|none=>none
def yc (f:AV→AV→Option AV):List AV→Option AV
 | []=>none
 |x::r=>IR f x r
def FZ (ap:AP) (x:AV) (asserted:Nat) (commaOk:Bool):ED:=
 (ap.tyAt asserted).bind fun ti=>
 match ti.d with
 | .iface=>none
 | _=>match x with
  | .ifc t v=>match Δ t asserted with
   |true=>aY (match commaOk with|true=> .tup [v,.bool true]|false=>v)
   |false=>match commaOk with|true=>(oN ti ti.zero).bind fun z=>aY (.tup [z,.bool false])|false=>none
  | .nilI=>match commaOk with|true=>(oN ti ti.zero).bind fun z=>aY (.tup [z,.bool false])|false=>none
  |_=>none
def KN (ap:AP) (ti:TI) (x:AV) (f:Nat):ED:=
 match ti.d,x with
 | .struct fs,.agg cs=>(fs[f]?).bind fun (o,t,_)=>(ap.tyAt t).bind fun tf=>
  (oN tf (su false tf.lks cs o)).bind fun v=>aY v (Gg false tf.lks cs o)
 |_,_=>none
def uD:AV→List Nat
 | .ref b _ _ _=> [b]
 | .ptr b _ _=> [b]
 | .mr b _=> [b]
 |_=> []
def aaU:AV→List Nat
 | .mr b _=> [b]
 |_=> []
def TY (ρ:Operand→AV):Op→List Nat
 | .load _ a=>uD (ρ a)
 | .store _ a _=>uD (ρ a)
 | .indexAddr _ x _=>uD (ρ x)
 | .slice _ x _ _ _=>uD (ρ x)
 | .convert _ _ x=>uD (ρ x)
 | .lookup _ x _ _=>uD (ρ x)
 | .mapUpdate _ x _ _=>uD (ρ x)
 | .insert _ x _ _=>uD (ρ x)
 | .call {callee:= .builtin .append,args,..}=>fJ (args.toList.flatMap fun x=>uD (ρ x))
 | .call {callee:= .builtin .len,args,..}=>args.toList.flatMap fun x=>aaU (ρ x)
 | .call {callee:= .builtin .clear,args,..}=>args.toList.flatMap fun x=>uD (ρ x)
 |_=> []
def EX:LK→AV→Bool
 | .int k,.int k' _=>gJ k k'
 | .bool,.bool _=>true
 | .str,.str _=>true
 |_,_=>false
def kM:List LK→List AV→Bool
 | [],[]=>true
 |k::r,x::l=>EX k x && kM r l
 |_,_=>false
def gW (ti:TI) (x:AV):Bool:=match ti.d,x with
 | .int k,.int k' _=>gJ k k'
 | .bool,.bool _=>true
 | .str,.str _=>true
 | .struct _,.agg l=>ti.cmp && kM ti.lks l
 |_,_=>false
def zY:AV→AV→Bool
 | .int _ a,.int _ b=>a==b
 | .bool a,.bool b=>a==b
 | .str a,.str b=>a==b
 |_,_=>false
def Gq:List AV→List AV→Bool
 | [],[]=>true
 |a::r,b::q=>zY a b && Gq r q
 |_,_=>false
def uG:AV→AV→Bool
 | .int _ a,.int _ b=>a==b
 | .bool a,.bool b=>a==b
 | .str a,.str b=>a==b
 | .agg a,.agg b=>Gq a b
 |_,_=>false
def bu:List AV→List AV→AV→Option AV
 |k0::ks,v0::vs,k=>match uG k k0 with|true=>some v0|false=>bu ks vs k
 |_,_,_=>none
def gB (ks:List AV) (k:AV):List AV:=match ks.any (uG k) with|true=>ks|false=>ks++ [k]
def eH:List AV→List AV→AV→AV→List AV
 |k0::ks,v0::vs,k,v=>match uG k k0 with|true=>v::vs|false=>v0::eH ks vs k v
 |_,_,_,v=> [v]
def PV (rd:Nat→Option az) (x:AV):Option (List AV × List AV):=
 match x with
 | .mp ks vs=>some (ks,vs)
 | .mr b ver=>(rd b).bind fun B=>match Δ B.ver ver && Δ B.esz dJ with
  |true=>match B.cells with| [.agg ks,.agg vs]=>some (ks,vs)|_=>none
  |false=>none
 |_=>none
def NQ (ok:Bool) (o:Option AV) (z:AV):AV:=match ok with|true=> .tup [o.getD z,.bool o.isSome]|false=>o.getD z
def GR (ap:AP) (ti:TI) (rd:Nat→Option az) (x k:AV) (ok:Bool):ED:=
 match ti.d with
 | .map kt et=>(ap.tyAt kt).bind fun tk=>(ap.tyAt et).bind fun te=>(PV rd x).bind fun q=>(oN te te.zero).bind fun z=>
   aY (NQ ok (bu q.1 q.2 k) z) [gW tk k,q.1.all (gW tk)]
 |_=>none
def AO (ap:AP) (ti:TI) (rd:Nat→Option az) (x k v:AV):ED:=
 match ti.d,x with
 | .map kt _,.mr b ver=>(ap.tyAt kt).bind fun tk=>(rd b).bind fun B=>match Δ B.ver ver && Δ B.esz dJ && !B.fro with
  |true=>match B.cells with
   | [.agg ks,.agg vs]=>some (.dead,[(b,{B with cells:= [.agg (gB ks k),.agg (eH ks vs k v)],pr:=B.pr && (bZ v).isEmpty})],[gW tk k,ks.all (gW tk)])
   |_=>none
  |false=>none
 |_,_=>none
def opA (ap:AP) (nid:Nat) (ρ:Operand→AV) (rd:Nat→Option az) (dec:Operand→Option Bool) (em:Bool) (o:Op):ED:=
 match o with
 | .move x=>aY (ρ x)
 | .assign x=>aY (ρ x)
 | .pick c a b=>match dec c with
  |some true=>aY (ρ a)
  |some false=>aY (ρ b)
  |none=>match ρ c,ρ a,ρ b with| .bool c,.bool x,.bool y=>aY (.bool (cond c x y))|_,_,_=>none
 | .alloc e=>(ap.tyAt e).bind fun te=>match Xxc 0 te.size && te.zero.all kV with|true=>some (.ptr nid 0 0,[jQ nid te.zero 0],[])|false=>none
 | .box e x=>(ap.tyAt e).bind fun te=>let vs:=(ρ x).cells
  match vs.all kV with|true=>some (.ptr nid 0 0,[jQ nid vs 0],[])|false=>none
 | .build t parts=>(ap.tyAt t).bind fun ti=>KD ap ti (parts.toList.map fun (i,x)=>(i,ρ x))
 | .buildSlice t len parts=>(ap.tyAt t).bind fun ti=>qZ ap nid ti len (parts.toList.map fun (i,x)=>(i,ρ x))
 | .load t a=>(ap.tyAt t).bind fun ti=>Jl ti rd (ρ a)
 | .store t a x=>(ap.tyAt t).bind fun ti=>MG ti rd (ρ a) (ρ x)
 | .makeMap _ r=>match r with|none=>some (.mr nid 0,[(nid,⟨[.agg [],.agg []],0,false,0,dJ,true⟩)],[])|some _=>none
 | .lookup t x k ok=>(ap.tyAt t).bind fun ti=>GR ap ti rd (ρ x) (ρ k) ok
 | .mapUpdate t x k v=>(ap.tyAt t).bind fun ti=>AO ap ti rd (ρ x) (ρ k) (ρ v)
 | .insert t x k v=>(ap.tyAt t).bind fun ti=>AO ap ti rd (ρ x) (ρ k) (ρ v)
 | .nilCheck x=>match ρ x with
  | .ptr b v o=>aY (.ptr b v o)
  | .pp xs o=>aY (.pp xs o)
  | .fn f a c=>aY (.fn f a c)
  | .ifc t v=>aY (.ifc t v)
  |_=>none
 | .binOp op t x y _=>(ap.tyAt t).bind fun ti=>aab op ti (ρ x) (ρ y)
 | .unOp op _ x=>unA op (ρ x)
 | .convert s d x=>(ap.tyAt s).bind fun ts=>(ap.tyAt d).bind fun td=>BJ ap ts td rd (ρ x)
 | .makeInterface t x=>(ap.tyAt t).bind fun ti=>match ti.d with| .iface=>none|_=>aY (.ifc t (ρ x))
 | .makeFunc (.func f) first cap=>aY (.fn f (first.toList.map ρ) (cap.toList.map ρ))
 | .makeSlice t l c=>(ap.tyAt t).bind fun ti=>vG ap nid ti (ρ l) (ρ c)
 | .slice t x lo hi mx=>(ap.tyAt t).bind fun ti=>L_ ap ti rd (ρ x) (lo.map ρ) (hi.map ρ) (mx.map ρ)
 | .fieldAddr s x f=>(ap.tyAt s).bind fun ti=>match ti.d with
  | .struct fs=>(fs[f]?).bind fun (o,_,sz)=>match Xxc 0 sz with|true=>(TE (ρ x) o).bind fun p=>aY p|false=>none
  |_=>none
 | .field t x f=>(ap.tyAt t).bind fun ti=>KN ap ti (ρ x) f
 | .indexAddr t x i=>(ap.tyAt t).bind fun ti=>vw ap ti rd (ρ x) (ρ i)
 | .index t x i=>(ap.tyAt t).bind fun ti=>KZ ap ti (ρ x) (ρ i)
 | .typeAssert x _ asserted ok=>FZ ap (ρ x) asserted ok
 | .extract t i=>match ρ t with| .tup l=>(l[i]?).bind fun v=>aY v|_=>none
 | .call {callee:= .builtin b,args,argTypes}=>
  match b with
  | .len=>(args[0]?).bind fun x=>(argTypes[0]?).bind fun t=>(ap.tyAt t).bind fun ti=>match ti.d with
   | .map _ _=>(PV rd (ρ x)).bind fun q=>aY (.int .i64 q.1.length)
   |d=>aaQ d (ρ x)
  | .append=>match args.toList,argTypes.toList with
   | [s,x],[t,t1]=>(ap.tyAt t).bind fun ti=>(ap.tyAt t1).bind fun ti1=>match ti.d,ti1.d,ρ x with
    | .slice e,.str,.str y=>(ap.tyAt e).bind fun te=>match Δ te.size 1 with|true=>wC nid te rd em (ρ s) (.str y)|false=>none
    | .slice _,.slice _,.str _=>none
    | .slice e,.slice _,y=>(ap.tyAt e).bind fun te=>wC nid te rd em (ρ s) y
    |_,_,_=>none
   |_,_=>none
  | .clear=>(args[0]?).bind fun x=>(argTypes[0]?).bind fun t=>(ap.tyAt t).bind fun ti=>match ti.d with
   | .slice e=>(ap.tyAt e).bind fun te=>KG te rd (ρ x)
   |_=>none
  | .min=>(yc min2 (args.toList.map ρ)).bind fun v=>aY v
  | .max=>(yc max2 (args.toList.map ρ)).bind fun v=>aY v
  |_=>none
 |_=>none
def E9 (P:Program):Nat→TypeId→List LK
 |0,_=> [.oth]
 |n+1,t=>match P.underlying t with
  |some (.int k)=> [.int k]
  |some .bool=> [.bool]
  |some .string=> [.str]
  |some (.slice _)=> [.sl]
  |some (.struct fs)=>fs.toList.flatMap fun f=>E9 P n f.type
  |some (.array m e)=>(Xqh m (E9 P n e)).flatten
  |_=> [.oth]
def iZ (P:Program):Option TypeDesc→TD
 |some (.int k)=> .int k
 |some .bool=> .bool
 |some .string=> .str
 |some (.slice e)=> .slice e
 |some (.array n e)=> .array n e
 |some (.struct fs)=> .struct (fs.toList.map fun f=>(f.offset,f.type,match P.info? f.type with|some i=>i.size|none=>0))
 |some (.interface _)=> .iface
 |some (.pointer _)=> .ptr
 |some (.func _ _ _)=> .func
 |some (.map k e)=> .map k e
 |_=> .oth
def wJ (P:Program) (f:TypeId→Option (List LK)):List Field→Nat→Option (List LK)
 | [],_=>some []
 | x::r,off=>match f x.type with
  |some l=>match !(x.name== "_") && Δ x.offset off && (match P.info? x.type with|some i=>Δ i.size l.length|none=>false) with
   |true=>match wJ P f r (off+l.length) with|some l'=>some (l++l')|none=>none
   |false=>none
  |none=>none
def iJ (P:Program):Nat→TypeId→Option (List LK)
 |0,_=>none
 |n+1,t=>match P.underlying t with
  |some (.int k)=>some [.int k]
  |some .bool=>some [.bool]
  |some .string=>some [.str]
  |some (.struct fs)=>match P.stoodInHeld t with|true=>none|false=>wJ P (iJ P n) fs.toList 0
  |_=>none
def abQ (i:TypeInfo) (d:TypeDesc):Bool:=match i.zero,d with
 |some (.agg _),.struct _=>true
 |some (.agg _),.array _ _=>true
 |some (.agg _),_=>false
 |some _,.struct _=>false
 |some _,.array _ _=>false
 |some _,_=>true
 |none,_=>false
def Rk (P:Program) (d:TypeDesc):Bool:=match d with
 | .struct fs=>fs.toList.all fun f=>(P.info? f.type).isSome
 |_=>true
def Ec (i:TypeInfo):List AV:=match i.zero with|some z=>z.cells.toList.map Dh|none=> []
def aaS:LK→LK→Bool
 | .int a,.int b=>gJ a b
 | .bool,.bool=>true
 | .str,.str=>true
 |_,_=>false
def E8:List LK→List LK→Bool
 | [],[]=>true
 |a::r,b::q=>aaS a b && E8 r q
 |_,_=>false
def VM (P:Program) (t:TypeId):Bool:=match iJ P 8 t with|some l=>E8 l (E9 P 8 t) && !P.eqGuardType P.depth t|none=>false
def U9 (P:Program) (t:TypeId):Option TI:=
 match P.info? t,P.underlying t with
 |some i,some d=>
  match Δ (E9 P 8 t).length i.size && (abQ i d && Rk P d) && (Ec i).all kV && Δ (Ec i).length i.size && i.zero.isSome && Xxc i.size dJ with
  |true=>some {d:=iZ P (some d),size:=i.size,bytes:=i.bytes,zero:=Ec i,lks:=E9 P 8 t,cmp:=VM P t}
  |false=>none
 |_,_=>none
abbrev au:=Nat→Nat→Option Value
def gK (S S':au):Prop:=∀ k o v,S k o=some v→S' k o=some v
theorem gK.refl (S:au):gK S S:=fun _ _ _ h=>h
theorem gK.trans {S S' S'':au} (h:gK S S') (a:gK S' S''):gK S S'':=fun k o v e=>a k o v (h k o v e)
def iQ (S:au) (b o:Nat) (vs:List Value):Prop:=∀ j u,vs[j]? =some u→S b (o+j)=some u∧u.oneCell'=true
mutual
def PR (S:au):AV→Value→Prop
 | .int k n,v=>v= .int k n
 | .bool b,v=>v= .bool b
 | .str s,v=>v= .string ⟨s.toArray⟩
 | .agg l,v=> ∃ vs,v= .agg vs.toArray∧a_ S l vs
 | .tup l,v=> ∃ vs,v= .tuple vs.toArray∧a_ S l vs
 | .nilS,v=>v= .slice none 0 0
 | .sl xs n nn,v=> ∃ a cap,v= .slice a n cap∧n≤cap∧(((a=none→nn=false)∧xs= []∧n=0∧cap=0)∨∃ b o vs,a=some ⟨b,o,none⟩∧a_ S xs vs∧iQ S b o vs)
 | .pp xs off,v=> ∃ b o vs,v= .pointer (some ⟨b,o+off,none⟩)∧a_ S xs vs∧iQ S b o vs
 | .mp ks vs,v=>(v= .map none∧ks= []∧vs= [])∨∃ b kk vv,v= .map (some b)∧S b 0=some (.agg kk.toArray)∧S b 1=some (.agg vv.toArray)∧a_ S ks kk∧a_ S vs vv
 | .nilP,v=>v= .pointer none
 | .raw x,v=>v=x
 | .fn f a c,v=> ∃ va vc,v= .func (.func f) va.toArray vc.toArray∧a_ S a va∧a_ S c vc
 | .nilF,v=>v= .nilFunc
 | .ifc t x,v=> ∃ u,v= .iface t u∧PR S x u
 | .nilI,v=>v= .nilIface
 | .dead,_=>True
 | .ref _ _ _ _,_=>False
 | .ptr _ _ _,_=>False
 | .mr _ _,_=>False
 | .own _ _ _,_=>False
def a_ (S:au):List AV→List Value→Prop
 | [],[]=>True
 |x::r,v::vs=>PR S x v∧a_ S r vs
 |_,_=>False
end
abbrev bD:=Nat→Option az
abbrev aB:=Nat→Nat × Nat
mutual
def VR (g:bD) (m:aB) (S:au):AV→Value→Prop
 | .ref b ver i n,v=> ∃ B,g b=some B∧ver≤B.ver∧(∃ k o c',v= .slice (some ⟨k,o,none⟩) n c')∧(B.ver=ver→∃ o,v= .slice (some ⟨(m b).1,o,none⟩) n ((m b).2 - i)∧i+n≤(m b).2∧(i<(m b).2→o=i*B.esz)∧0<B.esz∧B.esz ≠ dJ)
 | .ptr b ver off,v=> ∃ B,g b=some B∧ver≤B.ver∧(∃ k o,v= .pointer (some ⟨k,o,none⟩))∧(B.ver=ver→v= .pointer (some ⟨(m b).1,off,none⟩))
 | .mr b ver,v=> ∃ B,g b=some B∧ver≤B.ver∧(∃ k,v= .map (some k))∧(B.ver=ver→v= .map (some (m b).1))
 | .agg l,v=> ∃ vs,v= .agg vs.toArray∧aS g m S l vs
 | .tup l,v=> ∃ vs,v= .tuple vs.toArray∧aS g m S l vs
 | .fn f a c,v=> ∃ va vc,v= .func (.func f) va.toArray vc.toArray∧aS g m S a va∧aS g m S c vc
 | .ifc t x,v=> ∃ u,v= .iface t u∧VR g m S x u
 | .int k n,v=>PR S (.int k n) v
 | .bool b,v=>PR S (.bool b) v
 | .str s,v=>PR S (.str s) v
 | .nilS,v=>PR S .nilS v
 | .sl xs n nn,v=>PR S (.sl xs n nn) v
 | .pp xs off,v=>PR S (.pp xs off) v
 | .mp ks vs,v=>PR S (.mp ks vs) v
 | .nilP,v=>PR S .nilP v
 | .raw x,v=>PR S (.raw x) v
 | .nilF,v=>PR S .nilF v
 | .nilI,v=>PR S .nilI v
 | .dead,_=>True
 | .own _ _ _,_=>False
def aS (g:bD) (m:aB) (S:au):List AV→List Value→Prop
 | [],[]=>True
 |x::r,v::vs=>VR g m S x v∧aS g m S r vs
 |_,_=>False
end
def bF (x y:AV):Prop:=∀ g m S v,VR g m S x v→VR g m S y v
inductive mJ where
 |v (d:Nat) (x:AV)
 |b (d:Nat) (xs:List AV)
 |u (d:Nat)
 |f (d:Nat)
inductive gV where
 |ret (v:AV)
 |pan (v:AV)
structure Cx where
 cl:Bool
 orc:List Bool
 bs:List Bool
 ps:List Prop
 ans:List (gV × List az)
 hs:List mJ
inductive R (α:Type) where
 |ok (a:α) (c:Cx)
 |need
 |bad (n:Nat)
def R.bind {α β:Type} (r:R α) (f:α→Cx→R β):R β:=
 match r with
 | .ok a c=>f a c
 | .need=> .need
 | .bad n=> .bad n
def lit (o b:Bool):Bool:=match o with|true=>b|false=> !b
def VW (c:Cx) (bs:List Bool):R Unit:=
 match c.cl with
 |true=>match bs.all id with|true=> .ok () c|false=> .bad 1
 |false=> .ok () {c with bs:=bs++c.bs}
def xW (c:Cx) (b:Bool):R Bool:=
 match c.cl with
 |true=> .ok b c
 |false=>match c.orc with
  | []=> .need
  |o::r=> .ok o {c with orc:=r,bs:=lit o b::c.bs}
def Cb (c:Cx) (dst:Option Nat) (v:AV):AV × Cx:=
 match c.hs,dst with
 | .v d x::r,some d'=>match Δ d d' with
  |true=>(x,{c with hs:=r,ps:=bF v x::c.ps})
  |false=>(v,c)
 |_,_=>(v,c)
def B_ (c:Cx) (dst:Option Nat) (ups:List (Nat × az)):List (Nat × az) × Cx:=
 match c.hs,dst,ups with
 | .b d xs::r,some d',[(b,B)]=>match Δ d d' with
  |true=>([(b,{B with cells:=xs})],{c with hs:=r,ps:=(B.cells=xs)::c.ps})
  |false=>(ups,c)
 |_,_,_=>(ups,c)
def wV (nid:Nat) (c:Cx) (dst:Option Nat) (v:AV) (ups:List (Nat × az)):AV × List (Nat × az) × Cx:=
 match c.hs,dst,v,ups with
 | .f d::r,some d',.ref b ver 0 n,[(b',B)]=>match Δ d d' && (Δ b nid && Δ b' nid && Δ ver B.ver && B.pr && !B.fro && Δ B.cells.length (n*B.esz) && !Δ n 0) with
  |true=>(.sl B.cells n true,[(b',{B with fro:=true,fz:=B.cells.length})],{c with hs:=r})
  |false=>(v,ups,c)
 |_,_,_,_=>(v,ups,c)
def NF (c:Cx) (dst:Option Nat):Bool × Cx:=
 match c.hs,dst with
 | .u d::r,some d'=>match Δ d d' with
  |true=>(true,{c with hs:=r})
  |false=>(false,c)
 |_,_=>(false,c)
abbrev bi:=Cx→AV→Nat→List AV→List az→R (gV × List az × AV)
def lH (rd:Nat→Option az):Nat→List Nat→List Nat
 |0,l=>l
 |n+1,l=>
  let more:=l.flatMap fun b=>match rd b with|some B=>(match B.pr with|true=> []|false=>bg B.cells)|none=> []
  let l':=more.foldl (fun acc b=>if kY acc b then acc else acc++ [b]) l
  match Δ l'.length l.length with|true=>l|false=>lH rd n l'
def frz (rd:Nat→Option az):Nat→AV→Option AV
 |0,_=>none
 | fuel+1,x=>
  let frzL (l:List AV):Option (List AV):=fP (frz rd fuel) l
  match x with
  | .ref b ver i n=>(rd b).bind fun B=>match Δ B.ver ver with
   |true=>match B.pr with
    |true=>some (.sl ((B.cells.drop (i*B.esz)).take (n*B.esz)) n true)
    |false=>(frzL ((B.cells.drop (i*B.esz)).take (n*B.esz))).map fun l=> .sl l n true
   |false=>none
  | .ptr b ver off=>(rd b).bind fun B=>match Δ B.ver ver && !(Δ B.esz dJ) with
   |true=>match B.pr with
    |true=>some (.pp B.cells off)
    |false=>(frzL B.cells).map fun l=> .pp l off
   |false=>none
  | .mr b ver=>(rd b).bind fun B=>match Δ B.ver ver && Δ B.esz dJ with
   |true=>match B.pr with
    |true=>WL B.cells
    |false=>(frzL B.cells).bind WL
   |false=>none
  | .agg l=>(frzL l).map .agg
  | .tup l=>(frzL l).map .tup
  | .fn f a c=>(frzL a).bind fun a=>(frzL c).map fun c=> .fn f a c
  | .ifc t v=>(frz rd fuel v).map (.ifc t)
  | .own _ _ _=>none
  |x=>some x
def mQ (l:List Nat) (b:Nat):Option Nat:=match l with
 | []=>none
 |c::r=>match Δ c b with|true=>some 0|false=>(mQ r b).map (· +1)
def yJ (xs:List AV) (esz:Nat):az:={cells:=xs,ver:=0,fro:=false,fz:=0,esz,pr:=true}
def eQ (nid:Nat):List AV→List AV × List az
 | []=>([],[])
 | .own xs n esz::r=>match eQ (nid+1) r with|(l,bs)=>(.ref nid 0 0 n::l,yJ xs esz::bs)
 |x::r=>match eQ nid r with|(l,bs)=>(x::l,bs)
def iE (nid:Nat):AV→AV × List az
 | .tup l=>match eQ nid l with|(l,bs)=>(.tup l,bs)
 | .own xs n esz=>(.ref nid 0 0 n,[yJ xs esz])
 |x=>(x,[])
def Df:Nat→List az→List (Nat × az)
 |_,[]=> []
 |n,B::r=>(n,B)::Df (n+1) r
def J_:List Nat→List az→List (Nat × az)
 |b::r,B::q=>(b,B)::J_ r q
 |_,_=> []
def pR:List Nat→Bool
 | []=>true
 |b::r=> !kY r b && pR r
def zV (ρ:Nat→Nat→Option (Nat × Nat)) (v:Nat) (B:az):az:={B with cells:=(match B.pr with|true=>B.cells|false=>jG ρ B.cells),ver:=v+B.ver}
def MR (nid:Nat) (fp:List Nat) (vers:Nat→Nat) (n:Nat):Nat→Nat→Option (Nat × Nat):=fun p v=>
 match fp[p]? with
 |some b=>some (b,vers b+v)
 |none=>match Xxc p n with|true=>some (nid+(p - fp.length),v)|false=>none
structure QE where
 out:gV
 ups:List (Nat × az)
 fp:List Nat
 md:AV
def rC (ap:AP) (H:bi) (rd:Nat→Option az) (nid:Nat) (md:AV) (f:Nat) (args:List AV) (c:Cx):R QE:=
 let fp:=lH rd 6 (fJ (bg args))
 let rd:=fun b=>match kY fp b with|true=>rd b|false=>none
 let shared:=match ap.fnAt f with|some F=>F.shared|none=>false
 match shared with
 | false=>
  match fP (frz rd 6) args with
  |none=> .bad 10
  |some args'=>
   (H c md f args' []).bind fun (out,h',md) c=>
   match h' with
   |_::_=> .bad 14
   | []=>
   let mark:=fp.filterMap fun b=>(rd b).map fun B=>(b,{B with fro:=true,fz:=B.cells.length})
   match out with
   | .ret v=>match iE nid v with|(v,bs)=>match Xqq bs.length 4 with|true=> .ok {out:= .ret v,ups:=Df nid bs++mark,fp,md} c|false=> .bad 13
   | .pan v=> .ok {out:= .pan v,ups:=mark,fp,md} c
 | true=>
  let vers:=fun b=>match rd b with|some B=>B.ver|none=>0
  let ρ:Nat→Nat→Option (Nat × Nat):=fun b v=>match Δ v (vers b) with|true=>(mQ fp b).map fun p=>(p,0)|false=>none
  match fP rd fp with
  |none=> .bad 11
  | some bl=>
   (H c md f (jG ρ args) (bl.map fun B=> {B with cells:=(match B.pr with|true=>B.cells|false=>jG ρ B.cells),ver:=0})).bind fun (out,h',md) c=>
   match Xqq fp.length h'.length && pR fp with
   |false=> .bad 12
   |true=>
    let ρ':=MR nid fp vers h'.length
    let ups:=(J_ fp h').map fun (b,B)=>(b,zV ρ' (vers b) B)
    let ex:=(h'.drop fp.length).map (zV ρ' 0)
    match out with
    | .ret v=>match iE (nid+(h'.length - fp.length)) (ren ρ' v) with|(v,bs)=>match Xqq ((h'.length - fp.length)+bs.length) 4 with|true=> .ok {out:= .ret v,ups:=Df nid (ex++bs)++ups,fp,md} c|false=> .bad 13
    | .pan v=>match Xqq (h'.length - fp.length) 4 with|true=> .ok {out:= .pan (ren ρ' v),ups:=Df nid (ex++ [])++ups,fp,md} c|false=> .bad 13
inductive aJ where
 |normal
 |exit (id:Nat)
 |ret
 |panic (v:AV)
structure St where
 env:dG
 hp:Hp
 md:AV
 dfs:List (Nat × List AV)
structure uU where
 rt:List Nat
 wt:List Nat
 rb:List Nat
 wb:List Nat
structure RS where
 env:dG
 hp:Hp
 md:AV
 dfs:List (Nat × List AV)
 dec:List (Nat × Bool)
 feet:List uU
def mg (l:List Operand):List Nat:=l.filterMap fun| .tmp t=>some t|_=>none
def Gm (o:Oper):List Nat:=match o.dst with|some d=> [d]|none=> []
def nZ (env:dG) (dst:Option Nat) (v:AV):dG:=match dst with|some d=>(d,v)::env|none=>env
def oG (ap:AP) (env:dG):Operand→AV
 | .tmp t=>env.get t
 | .const v=>Dh v
 | .global g=>match (ap.gl[g]?).join with|some xs=> .pp xs 0|none=> .dead
 | .func f=> .fn f [] []
def KU (ops:List Oper) (env:dG) (dec:List (Nat × Bool)) (o:Oper) (c:Cx):R (Bool × List (Nat × Bool)):=
 match o.guard with
 |none=> .ok (true,dec) c
 | some (j,want)=>
  match (ops[j]?).bind (·.dst) with
  |none=> .bad 20
  | some s=>match ai dec s with
   |some b=> .ok (lit want b,dec) c
   |none=>match env.get s with
    | .bool b=>(xW c b).bind fun b' c=> .ok (lit want b',(s,b')::dec) c
    | .tup []=> .ok (false,dec) c
    |_=> .bad 21
def fD (ops:List Oper) (o:Oper):List Nat:=
 match o.guard with
 |none=> []
 |some (j,_)=>match (ops[j]?).bind (·.dst) with|none=> []|some s=> [s]
def Nh (dec:List (Nat × Bool)) (o:Oper):Bool:=match o.dst with|none=>true|some d=>match ai dec d with|none=>true|some _=>false
def F_ (ap:AP) (H:bi) (nid:Nat) (o:Oper) (s:RS) (rt:List Nat) (dec:List (Nat × Bool)) (f:Nat) (argsA:List AV) (c:Cx):R (RS × Option AV):=
 (rC ap H (ai s.hp) nid .dead f argsA c).bind fun r c=>
 let foot:uU:={rt,wt:=Gm o,rb:=r.fp,wb:=r.ups.map fun (q:Nat × az)=>q.1}
 match NF c o.dst with
 | (true,c)=>match r.out with
  | .ret v=>match r.ups.all (fun (q:Nat × az)=>kY r.fp q.1) with
   |true=> .ok ({s with env:=nZ s.env o.dst v,dec,feet:={rt,wt:=Gm o,rb:=r.fp,wb:= []}::s.feet},none) {c with ps:=(r.ups.map (fun (q:Nat × az)=>some q.2)=r.ups.map (fun (q:Nat × az)=>ai s.hp q.1))::c.ps}
   |false=> .bad 36
  | .pan _=> .bad 37
 |(false,c)=>match r.out with
  | .ret v=> .ok ({s with env:=nZ s.env o.dst v,hp:=r.ups++s.hp,dec,feet:=foot::s.feet},none) c
  | .pan v=> .ok ({s with hp:=r.ups++s.hp,dec,feet:=foot::s.feet},some v) c
def J6 (ap:AP) (H:bi) (nid:Nat) (ops:List Oper) (o:Oper) (s:RS) (c:Cx):R (RS × Option AV):=
 (KU ops s.env s.dec o c).bind fun (run,dec) c=>
 let rt:=mg o.op.operands.toList++fD ops o
 match Nh dec o with
 |false=> .bad 35
 |true=>
 match run with
 |false=> .ok ({s with env:=nZ s.env o.dst (.tup []),dec,feet:={rt,wt:=Gm o,rb:= [],wb:= []}::s.feet},none) c
 | true=>
  let ρ:=oG ap s.env
  let rdAll:=ai s.hp
  match o.op with
  | .call {callee:= .value g,args,..}=>
   match ρ g with
   | .fn f first cap=>F_ ap H nid o s rt dec f (first++args.toList.map ρ++cap) c
   |_=> .bad 30
  | .call {callee:= .invoke g name,args,..}=>
   match ρ g with
   | .ifc t v=>match ap.mtAt t name with
    |some f=>F_ ap H nid o s rt dec f (v::args.toList.map ρ) c
    |none=> .bad 38
   |_=> .bad 39
  | .call {callee:= .builtin .recover,..}=>
   match s.md with
   | .nilI=> .ok ({s with env:=nZ s.env o.dst .nilI,dec,feet:={rt,wt:=Gm o,rb:= [],wb:= []}::s.feet},none) c
   | .ifc t v=> .ok ({s with env:=nZ s.env o.dst (.ifc t v),md:= .nilI,dec,feet:={rt,wt:=Gm o,rb:= [],wb:= []}::s.feet},none) c
   |_=> .bad 33
  | .defer {callee:= .value g,args,..}=>
   match ρ g with
   | .fn f first cap=> .ok ({s with env:=nZ s.env o.dst .dead,dfs:=(f,first++args.toList.map ρ++cap)::s.dfs,dec,feet:={rt,wt:=Gm o,rb:= [],wb:= []}::s.feet},none) c
   |_=> .bad 34
  | .panic x=>
   match ρ x with
   | .ifc t v=> .ok ({s with dec},some (.ifc t v)) c
   |_=> .bad 31
  | op=>
   let fp:=TY ρ op
   let rd:=fun b=>match kY fp b with|true=>rdAll b|false=>none
   let decs:Operand→Option Bool:=fun| .tmp t=>ai dec t|_=>none
   (match wL ρ op with|some n=>xW c (Δ n 0)|none=> .ok false c).bind fun em c=>
   match opA ap nid ρ rd decs em op with
   |none=> .bad 32
   | some (v,ups,bs)=>(VW c bs).bind fun _ c=>
    match wV nid c o.dst v ups with
    |(v,ups,c)=>match Cb c o.dst v with
    |(v,c)=>match B_ c o.dst ups with
     |(ups,c)=> .ok ({s with env:=nZ s.env o.dst v,hp:=ups++s.hp,dec,feet:={rt,wt:=Gm o,rb:=fp,wb:=ups.map fun (q:Nat × az)=>q.1}::s.feet},none) c
def mf (ap:AP) (H:bi) (ops:List Oper):List Oper→Nat→RS→Cx→R (RS × Option AV)
 | [],_,s,c=> .ok (s,none) c
 | o::r,nid,s,c=>(J6 ap H nid ops o s c).bind fun (s,p) c=>
  match p with
  |some v=> .ok (s,some v) c
  |none=>match s.feet with
   |f::_=>match f.wb.all (fun x=>Xxc x (nid+4)) with|true=>mf ap H ops r (nid+4) s c|false=> .bad 43
   | []=> .bad 44
def CX (a b:List Nat):Bool:=a.any (kY b)
def je (a b:uU):Bool:=CX a.wt b.rt||CX a.wt b.wt||CX a.rt b.wt||CX a.wb b.rb||CX a.wb b.wb||CX a.rb b.wb
def oO (n:Nat) (bef:List Nat) (feet:List uU):Bool:=
 let l:=feet.reverse.zipIdx
 l.all fun (a,i)=>l.all fun (b,j)=> !(Xxc i j)|| !(je a b||b.wb.any fun x=>Xqq (n+4*i) x && Xxc x (n+4*i+4))||(bef.getD j 0).testBit i
def rE (keep:List Nat) (env:dG):List Nat:=keep.flatMap fun t=>bZ (env.get t)
def norm (base:Nat) (keep:List Nat) (s:St):St:=
 let env:=s.env
 let hp:=s.hp
 let rd:=ai hp
 let ids:=lH rd 20 (fJ (lH rd 20 (Ψ base)++rE keep env++s.dfs.flatMap fun d=>bg d.2))
 let ids:=ids.filter fun b=>(rd b).isSome
 let ρ:Nat→Nat→Option (Nat × Nat):=fun b v=>match rd b with
  |some B=>match Δ B.ver v with
   |true=>(mQ ids b).map fun p=>(p,match Xxc p base with|true=>v|false=>0)
   |false=>none
  |none=>none
 {env:=keep.map fun t=>(t,ren ρ (env.get t))
  hp:=ids.zipIdx.filterMap fun (b,p)=>(rd b).map fun B=>(p,{B with cells:=(match B.pr with|true=>B.cells|false=>jG ρ B.cells),ver:=match Xxc p base with|true=>B.ver|false=>0})
  md:=s.md
  dfs:=s.dfs.map fun d=>(d.1,jG ρ d.2)}
def dV:Hp→Nat
 | []=>0
 |(b,_)::r=>match Xxc b (dV r) with|true=>dV r|false=>b+1
def ny (ops:List Oper):Bool:=ops.zipIdx.all fun (o,i)=>o.after.toList.all fun e=> !Region.binds .any e||Xxc e.on i
def Hg (ap:AP) (H:bi) (base:Nat) (keep:List Nat) (ops:List Oper) (draw:Bool) (s:St) (c:Cx):R (aJ × St):=
 (mf ap H ops ops (dV s.hp) {env:=s.env,hp:=s.hp,md:=s.md,dfs:=s.dfs,dec:= [],feet:= []} c).bind fun (s',p) c=>
 match p with
 | some v=>match draw with
  |true=> .bad 40
  |false=>match (bZ v).isEmpty with
   |true=> .ok (.panic v,norm base keep ⟨s'.env,s'.hp,s'.md,s'.dfs⟩) c
   |false=> .ok (.panic v,⟨s'.env,s'.hp,s'.md,s'.dfs⟩) c
 |none=>
  match !draw||(oO (dV s.hp) (Region.before ops.toArray).toList s'.feet && ny ops && Δ s'.dfs.length s.dfs.length) with
  |true=> .ok (.normal,norm base keep ⟨s'.env,s'.hp,s'.md,s'.dfs⟩) c
  |false=> .bad 41
def NM (f:St→Cx→R (aJ × St)):Nat→St→Cx→R (aJ × St)
 |0,_,_=> .bad 50
 |n+1,s,c=>(f s c).bind fun (e,s) c=>match e with
  | .normal=>NM f n s c
  |e=> .ok (e,s) c
def jI (ap:AP) (H:bi) (base:Nat) (keep:List Nat) (lf:Nat):Code→St→Cx→R (aJ × St)
 | .skip,s,c=> .ok (.normal,s) c
 | .label _,s,c=> .ok (.normal,s) c
 | .region _ ops draw,s,c=>Hg ap H base keep ops.toList draw s c
 | .seq a b,s,c=>(jI ap H base keep lf a s c).bind fun (e,s) c=>match e with
  | .normal=>jI ap H base keep lf b s c
  |e=> .ok (e,s) c
 | .cond t a b,s,c=>match oG ap s.env t with
  | .bool x=>(xW c x).bind fun x c=>match x with
   |true=>jI ap H base keep lf a s c
   |false=>jI ap H base keep lf b s c
  |_=> .bad 60
 | .block id b,s,c=>(jI ap H base keep lf b s c).bind fun (e,s) c=>match e with
  | .exit id'=>match Δ id' id with|true=> .ok (.normal,s) c|false=> .ok (.exit id',s) c
  |e=> .ok (e,s) c
 | .loop b,s,c=>NM (jI ap H base keep lf b) lf s c
 | .exit id,s,c=> .ok (.exit id,s) c
 | .ret,s,c=> .ok (.ret,s) c
 | .scope b,s,c=>jI ap H base keep lf b s c
 |_,_,_=> .bad 61
def tX (ap:AP) (env:dG) (hp:Hp):ResultVar→Option (AV × List Bool)
 | .tmp t=>some (env.get t,[])
 | .cell a t=>(ap.tyAt t).bind fun ti=>(Jl ti (ai hp) (env.get a)).map fun (v,_,bs)=>(v,bs)
def eX (l:List Nat) (b:Nat):Nat:=(l.filter (Δ b)).length
def V5 (base:Nat) (rd:Nat→Option az) (v:AV):Option AV:=
 let fp:=lH rd 6 (fJ (bZ v))
 match fp.all (fun b=>Xqq base b) with
 |true=>frz (fun b=>match kY fp b with|true=>rd b|false=>none) 6 v
 |false=>none
def nH (base:Nat) (rd:Nat→Option az) (all:List Nat) (v:AV):Option AV:=
 let frzO (v:AV):Option AV:=match (bZ v).all (fun b=>Xxc b base) with|true=>some v|false=>V5 base rd v
 match v with
 | .ref b ver 0 n=>match rd b with
  |some B=>match Xqq base b && Δ B.ver ver && !B.fro && B.pr && Δ (eX all b) 1 && Xxc 0 B.esz with
   |true=>some (.own (B.cells.take (n*B.esz)) n B.esz)
   |false=>frzO v
  |none=>none
 |v=>frzO v
def af (f:Func):Code:=f.body.getD .skip
def dZ (md:AV) (args:List AV) (h:List az):St:=
 {env:=args.zipIdx.map fun (x,i)=>(i,x),hp:=h.zipIdx.map fun (B,i)=>(i,B),md,dfs:= []}
def ad1:AV→Bool
 | .nilI=>true
 | .ifc _ _=>true
 |_=>false
def CE (ap:AP) (H:bi):List (Nat × List AV)→AV→Hp→Cx→R (AV × Hp)
 | [],mode,hp,c=> .ok (mode,hp) c
 |(f,args)::r,mode,hp,c=>
  match ad1 mode && (bZ mode).isEmpty with
  |false=> .bad 78
  |true=>
  (rC ap H (ai hp) (dV hp) mode f args c).bind fun q c=>
  match q.out with
  | .ret _=>CE ap H r q.md (q.ups++hp) c
  | .pan _=> .bad 75
def Qn (rd:Nat→Option az) (base:Nat):Nat:=(lH rd 20 (Ψ base)).length
def tV (ap:AP) (base:Nat) (F:Func) (env:dG) (hp:Hp) (c:Cx):R (gV × List az):=
 let rd:=ai hp
 let n:=Qn rd base
 match fP (tX ap env hp) F.results.toList,fP rd (Ψ n) with
 |some vs,some h'=>
  match h'.all (fun B=>B.pr||(bg B.cells).all fun b=>Xxc b n) with
  |false=> .bad 76
  |true=>
  (VW c (vs.flatMap fun (q:AV × List Bool)=>q.2)).bind fun _ c=>
  let all:=vs.flatMap fun (q:AV × List Bool)=>lH rd 6 (fJ (bZ q.1))
  match fP (nH n rd all) (vs.map fun (q:AV × List Bool)=>q.1) with
  |some [v]=> .ok (.ret v,h') c
  |some l=> .ok (.ret (.tup l),h') c
  |none=> .bad 70
 |_,_=> .bad 71
def Ha (base:Nat) (v:AV) (hp:Hp) (c:Cx):R (gV × List az):=
 let n:=Qn (ai hp) base
 match nH n (ai hp) (lH (ai hp) 6 (fJ (bZ v))) v,fP (ai hp) (Ψ n) with
 |some v,some h'=>
  match h'.all (fun B=>B.pr||(bg B.cells).all fun b=>Xxc b n) with
  |false=> .bad 77
  |true=> .ok (.pan v,h') c
 |_,_=> .bad 72
def Aj (ap:AP) (H:bi) (base:Nat) (F:Func) (e:aJ) (s:St) (c:Cx):R (gV × List az × AV):=
 let go (mode:AV):R (gV × List az × AV):=
  (CE ap H s.dfs mode s.hp c).bind fun (mode,hp) c=>
  match mode with
  | .nilI=>(tV ap base F s.env hp c).bind fun (o,h) c=> .ok (o,h,s.md) c
  | .ifc t v=>(Ha base (.ifc t v) hp c).bind fun (o,h) c=> .ok (o,h,s.md) c
  |_=> .bad 74
 match e with
 | .normal| .ret=>go .nilI
 | .panic (.ifc t v)=>match (bZ v).isEmpty with|true=>go (.ifc t v)|false=> .bad 79
 |_=> .bad 73
def QR (ap:AP) (H:bi) (lf:Nat) (md:AV) (F:AF) (args:List AV) (h:List az) (c:Cx):R (gV × List az × AV):=
 match af F.fn with
 | .seq (.region _ ops false) rest=>
  match ops.toList with
  | o ::r=>
   match o.op,o.guard,o.dst with
   | .call {callee:= .builtin .recover,..},none,some d=>
    let s0:=dZ .dead args h
    (mf ap H (o::r) r (dV s0.hp) {env:=(d,md)::s0.env,hp:=s0.hp,md:= .dead,dfs:= [],dec:= [],feet:= []} c).bind fun (s,p) c=>
    match p with
    |some _=> .bad 81
    | none=>(jI ap H h.length F.keep lf rest (norm h.length F.keep ⟨s.env,s.hp,s.md,s.dfs⟩) c).bind fun (e,s) c=>
     match s.dfs with
     |_::_=> .bad 82
     | []=>match e with
      | .normal| .ret=>(tV ap h.length F.fn s.env s.hp c).bind fun (o,h) c=> .ok (o,h,.nilI) c
      |_=> .bad 83
   |_,_,_=> .bad 84
  | []=> .bad 85
 |_=> .bad 86
def lG (ap:AP) (H:bi) (lf:Nat) (md:AV) (f:Nat) (args:List AV) (h:List az) (c:Cx):R (gV × List az × AV):=
 match ap.fnAt f with
 |none=> .bad 80
 |some F=>match md with
  | .dead=>(jI ap H h.length F.keep lf (af F.fn) (dZ .dead args h) c).bind fun (e,s) c=>Aj ap H h.length F.fn e s c
  |md=>match ad1 md && (bZ md).isEmpty with|true=>QR ap H lf md F args h c|false=> .bad 87
theorem jL {S:au}:∀ {l:List AV} {vs:List Value},a_ S l vs→l.length=vs.length
 | [],[],_=>rfl
 |_::_,_::_,h=>by simp only [a_] at h;simp [jL h.2]
 | [],_::_,h=>by simp [a_] at h
 |_::_,[],h=>by simp [a_] at h
theorem aU {g:bD} {m:aB} {S:au}:∀ {l:List AV} {vs:List Value},aS g m S l vs→l.length=vs.length
 | [],[],_=>rfl
 |_::_,_::_,h=>by simp only [aS] at h;simp [aU h.2]
 | [],_::_,h=>by simp [aS] at h
 |_::_,[],h=>by simp [aS] at h
theorem MI {S:au}:∀ {l:List AV} {vs:List Value} (_:a_ S l vs) (i:Nat) {x:AV},l[i]? =some x→∃ v,vs[i]? =some v∧PR S x v
 | [],[],_,i,x,hx=>by simp at hx
 |a::l,v::vs,h,0,x,hx=>by simp only [a_] at h;simp at hx;subst hx;exact ⟨v,rfl,h.1⟩
 |a::l,v::vs,h,i+1,x,hx=>by simp only [a_] at h;simp at hx;simpa using MI h.2 i hx
 | [],_::_,h,_,_,_=>by simp [a_] at h
 |_::_,[],h,_,_,_=>by simp [a_] at h
theorem pg {g:bD} {m:aB} {S:au}:∀ {l:List AV} {vs:List Value} (_:aS g m S l vs) (i:Nat) {x:AV},l[i]? =some x→∃ v,vs[i]? =some v∧VR g m S x v
 | [],[],_,i,x,hx=>by simp at hx
 |a::l,v::vs,h,0,x,hx=>by simp only [aS] at h;simp at hx;subst hx;exact ⟨v,rfl,h.1⟩
 |a::l,v::vs,h,i+1,x,hx=>by simp only [aS] at h;simp at hx;simpa using pg h.2 i hx
 | [],_::_,h,_,_,_=>by simp [aS] at h
 |_::_,[],h,_,_,_=>by simp [aS] at h
theorem iP {S:au}:∀ {l l':List AV} {vs vs':List Value},a_ S l vs→a_ S l' vs'→a_ S (l++l') (vs++vs')
 | [],_,[],_,_,h'=>by simpa using h'
 |_::_,_,_::_,_,h,h'=>by simp only [a_] at h;simp only [Xqz,a_];exact ⟨h.1,iP h.2 h'⟩
 | [],_,_::_,_,h,_=>by simp [a_] at h
 |_::_,_,[],_,h,_=>by simp [a_] at h
theorem fH {g:bD} {m:aB} {S:au}:∀ {l l':List AV} {vs vs':List Value},aS g m S l vs→aS g m S l' vs'→aS g m S (l++l') (vs++vs')
 | [],_,[],_,_,h'=>by simpa using h'
 |_::_,_,_::_,_,h,h'=>by simp only [aS] at h;simp only [Xqz,aS];exact ⟨h.1,fH h.2 h'⟩
 | [],_,_::_,_,h,_=>by simp [aS] at h
 |_::_,_,[],_,h,_=>by simp [aS] at h
theorem jo {S:au}:∀ (n:Nat) {l:List AV} {vs:List Value},a_ S l vs→a_ S (l.take n) (vs.take n)
 |0,_,_,_=>by simp [a_]
 |n+1,[],[],_=>by simp [a_]
 |n+1,_::_,_::_,h=>by simp only [a_] at h;simp only [Xx7,a_];exact ⟨h.1,jo n h.2⟩
 |_+1,[],_::_,h=>by simp [a_] at h
 |_+1,_::_,[],h=>by simp [a_] at h
theorem og {S:au}:∀ (n:Nat) {l:List AV} {vs:List Value},a_ S l vs→a_ S (l.drop n) (vs.drop n)
 |0,_,_,h=>by simpa using h
 |n+1,[],[],_=>by simp [a_]
 |n+1,_::_,_::_,h=>by simp only [a_] at h;simpa using og n h.2
 |_+1,[],_::_,h=>by simp [a_] at h
 |_+1,_::_,[],h=>by simp [a_] at h
theorem oq {g:bD} {m:aB} {S:au}:∀ (n:Nat) {l:List AV} {vs:List Value},aS g m S l vs→aS g m S (l.take n) (vs.take n)
 |0,_,_,_=>by simp [aS]
 |n+1,[],[],_=>by simp [aS]
 |n+1,_::_,_::_,h=>by simp only [aS] at h;simp only [Xx7,aS];exact ⟨h.1,oq n h.2⟩
 |_+1,[],_::_,h=>by simp [aS] at h
 |_+1,_::_,[],h=>by simp [aS] at h
theorem qX {g:bD} {m:aB} {S:au}:∀ (n:Nat) {l:List AV} {vs:List Value},aS g m S l vs→aS g m S (l.drop n) (vs.drop n)
 |0,_,_,h=>by simpa using h
 |n+1,[],[],_=>by simp [aS]
 |n+1,_::_,_::_,h=>by simp only [aS] at h;simpa using qX n h.2
 |_+1,[],_::_,h=>by simp [aS] at h
 |_+1,_::_,[],h=>by simp [aS] at h
theorem iQ.mono {S S':au} (h:gK S S') {b o:Nat} {vs:List Value} (hs:iQ S b o vs):iQ S' b o vs:=fun j u a=> ⟨h _ _ _ (hs j u a).1,(hs j u a).2⟩
mutual
theorem bn {S S':au} (h:gK S S'):∀ (x:AV) {v:Value},PR S x v→PR S' x v
 | .int _ _,_,p=>by simpa only [PR] using p
 | .bool _,_,p=>by simpa only [PR] using p
 | .str _,_,p=>by simpa only [PR] using p
 | .nilS,_,p=>by simpa only [PR] using p
 | .nilP,_,p=>by simpa only [PR] using p
 | .raw _,_,p=>by simpa only [PR] using p
 | .nilF,_,p=>by simpa only [PR] using p
 | .nilI,_,p=>by simpa only [PR] using p
 | .dead,_,_=>by simp only [PR]
 | .agg l,_,p=>by
  simp only [PR] at p ⊢;obtain ⟨vs,e,q⟩:=p;exact ⟨vs,e,aW h l q⟩
 | .tup l,_,p=>by
  simp only [PR] at p ⊢;obtain ⟨vs,e,q⟩:=p;exact ⟨vs,e,aW h l q⟩
 | .sl xs n nn,_,p=>by
  simp only [PR] at p ⊢;obtain ⟨a,cap,e,d,q⟩:=p;refine ⟨a,cap,e,d, ?_⟩;rcases q with q|⟨b,o,vs,k,q,hs⟩
  ·exact .inl q
  ·exact .inr ⟨b,o,vs,k,aW h xs q,hs.mono h⟩
 | .pp xs off,_,p=>by
  simp only [PR] at p ⊢;obtain ⟨b,o,vs,e,q,hs⟩:=p;exact ⟨b,o,vs,e,aW h xs q,hs.mono h⟩
 | .mp ks vs,_,p=>by
  simp only [PR] at p ⊢;rcases p with p|⟨b,A,y,e,h0,z,j,i⟩
  ·exact .inl p
  ·exact .inr ⟨b,A,y,e,h _ _ _ h0,h _ _ _ z,aW h ks j,aW h vs i⟩
 | .fn f a c,_,p=>by
  simp only [PR] at p ⊢;obtain ⟨s,vc,e,q,r⟩:=p;exact ⟨s,vc,e,aW h a q,aW h c r⟩
 | .ifc t x,_,p=>by
  simp only [PR] at p ⊢;obtain ⟨u,e,q⟩:=p;exact ⟨u,e,bn h x q⟩
 | .ref _ _ _ _,_,p=>by simp only [PR] at p
 | .ptr _ _ _,_,p=>by simp only [PR] at p
 | .mr _ _,_,p=>by simp only [PR] at p
 | .own _ _ _,_,p=>by simp only [PR] at p
theorem aW {S S':au} (h:gK S S'):∀ (l:List AV) {vs:List Value},a_ S l vs→a_ S' l vs
 | [],[],_=>by simp only [a_]
 |x::r,v::vs,p=>by simp only [a_] at p ⊢;exact ⟨bn h x p.1,aW h r p.2⟩
 | [],_::_,p=>by simp [a_] at p
 |_::_,[],p=>by simp [a_] at p
end
mutual
theorem ed {g:bD} {m:aB} {S:au}:∀ (x:AV) {v:Value},PR S x v→VR g m S x v
 | .int _ _,_,p=>by simpa only [VR] using p
 | .bool _,_,p=>by simpa only [VR] using p
 | .str _,_,p=>by simpa only [VR] using p
 | .nilS,_,p=>by simpa only [VR] using p
 | .nilP,_,p=>by simpa only [VR] using p
 | .raw _,_,p=>by simpa only [VR] using p
 | .nilF,_,p=>by simpa only [VR] using p
 | .nilI,_,p=>by simpa only [VR] using p
 | .sl _ _ _,_,p=>by simpa only [VR] using p
 | .pp _ _,_,p=>by simpa only [VR] using p
 | .mp _ _,_,p=>by simpa only [VR] using p
 | .dead,_,_=>by simp only [VR]
 | .agg l,_,p=>by
  simp only [PR] at p;simp only [VR];obtain ⟨vs,e,q⟩:=p;exact ⟨vs,e,aV l q⟩
 | .tup l,_,p=>by
  simp only [PR] at p;simp only [VR];obtain ⟨vs,e,q⟩:=p;exact ⟨vs,e,aV l q⟩
 | .fn f a c,_,p=>by
  simp only [PR] at p;simp only [VR];obtain ⟨b,vc,e,q,r⟩:=p;exact ⟨b,vc,e,aV a q,aV c r⟩
 | .ifc t x,_,p=>by
  simp only [PR] at p;simp only [VR];obtain ⟨u,e,q⟩:=p;exact ⟨u,e,ed x q⟩
 | .ref _ _ _ _,_,p=>by simp only [PR] at p
 | .ptr _ _ _,_,p=>by simp only [PR] at p
 | .mr _ _,_,p=>by simp only [PR] at p
 | .own _ _ _,_,p=>by simp only [PR] at p
theorem aV {g:bD} {m:aB} {S:au}:∀ (l:List AV) {vs:List Value},a_ S l vs→aS g m S l vs
 | [],[],_=>by simp only [aS]
 |x::r,v::vs,p=>by simp only [a_] at p;simp only [aS];exact ⟨ed x p.1,aV r p.2⟩
 | [],_::_,p=>by simp [a_] at p
 |_::_,[],p=>by simp [a_] at p
end
def mX (g:bD) (m:aB) (g':bD) (m':aB) (ρ:Nat→Nat→Option (Nat × Nat)):Prop:=
 ∀ b ver b' ver',ρ b ver=some (b',ver')→∀ B,g b=some B→ver≤B.ver→
  ∃ B',g' b'=some B'∧ver'≤B'.ver∧(B'.ver=ver'→B.ver=ver∧m' b'=m b∧B'.esz=B.esz)
mutual
theorem qY {g g':bD} {m G:aB} {S S':au} {ρ:Nat→Nat→Option (Nat × Nat)} (j:gK S S') (h:mX g m g' G ρ):∀ (x:AV) {v:Value},VR g m S x v→VR g' G S' (ren ρ x) v
 | .int k n,_,p=>by simp only [VR] at p;simp only [ren,VR];exact bn j _ p
 | .bool _,_,p=>by simp only [VR] at p;simp only [ren,VR];exact bn j _ p
 | .str _,_,p=>by simp only [VR] at p;simp only [ren,VR];exact bn j _ p
 | .nilS,_,p=>by simp only [VR] at p;simp only [ren,VR];exact bn j _ p
 | .nilP,_,p=>by simp only [VR] at p;simp only [ren,VR];exact bn j _ p
 | .raw _,_,p=>by simp only [VR] at p;simp only [ren,VR];exact bn j _ p
 | .nilF,_,p=>by simp only [VR] at p;simp only [ren,VR];exact bn j _ p
 | .nilI,_,p=>by simp only [VR] at p;simp only [ren,VR];exact bn j _ p
 | .sl _ _ _,_,p=>by simp only [VR] at p;simp only [ren,VR];exact bn j _ p
 | .pp _ _,_,p=>by simp only [VR] at p;simp only [ren,VR];exact bn j _ p
 | .mp _ _,_,p=>by simp only [VR] at p;simp only [ren,VR];exact bn j _ p
 | .dead,_,_=>by simp only [ren,VR]
 | .own _ _ _,_,p=>by simp only [VR] at p
 | .agg l,_,p=>by
  simp only [VR] at p;simp only [ren,VR];obtain ⟨vs,e,q⟩:=p;exact ⟨vs,e,iw j h l q⟩
 | .tup l,_,p=>by
  simp only [VR] at p;simp only [ren,VR];obtain ⟨vs,e,q⟩:=p;exact ⟨vs,e,iw j h l q⟩
 | .fn f a c,_,p=>by
  simp only [VR] at p;simp only [ren,VR];obtain ⟨H,vc,e,q,r⟩:=p;exact ⟨H,vc,e,iw j h a q,iw j h c r⟩
 | .ifc t x,_,p=>by
  simp only [VR] at p;simp only [ren,VR];obtain ⟨u,e,q⟩:=p;exact ⟨u,e,qY j h x q⟩
 | .ref b ver i n,_,p=>by
  simp only [VR] at p;simp only [ren];obtain ⟨B,z,E,y,q⟩:=p;cases hρ:ρ b ver with
  |none=>simp only [VR]
  |some bv=>
   obtain ⟨C,d⟩:=bv;obtain ⟨B',s,o,F⟩:=h b ver C d hρ B z E;simp only [VR];refine ⟨B',s,o,y,fun e=> ?_⟩;obtain ⟨A,D,I⟩:=F e;rw [D,I];exact q A
 | .ptr b ver off,_,p=>by
  simp only [VR] at p;simp only [ren];obtain ⟨B,z,E,y,q⟩:=p;cases hρ:ρ b ver with
  |none=>simp only [VR]
  |some bv=>
   obtain ⟨C,d⟩:=bv;obtain ⟨B',s,o,F⟩:=h b ver C d hρ B z E;simp only [VR];refine ⟨B',s,o,y,fun e=> ?_⟩;obtain ⟨A,D,_⟩:=F e;rw [D];exact q A
 | .mr b ver,_,p=>by
  simp only [VR] at p;simp only [ren];obtain ⟨B,z,E,y,q⟩:=p;cases hρ:ρ b ver with
  |none=>simp only [VR]
  |some bv=>
   obtain ⟨C,d⟩:=bv;obtain ⟨B',s,o,F⟩:=h b ver C d hρ B z E;simp only [VR];refine ⟨B',s,o,y,fun e=> ?_⟩;obtain ⟨A,D,_⟩:=F e;rw [D];exact q A
theorem iw {g g':bD} {m b:aB} {S S':au} {ρ:Nat→Nat→Option (Nat × Nat)} (a:gK S S') (h:mX g m g' b ρ):∀ (l:List AV) {vs:List Value},aS g m S l vs→aS g' b S' (jG ρ l) vs
 | [],[],_=>by simp only [jG,aS]
 |x::r,v::vs,p=>by simp only [aS] at p;simp only [jG,aS];exact ⟨qY a h x p.1,iw a h r p.2⟩
 | [],_::_,p=>by simp [aS] at p
 |_::_,[],p=>by simp [aS] at p
end
def Ge (g:bD) (m:aB) (g':bD) (m':aB):Prop:=
 ∀ b B,g b=some B→∃ B',g' b=some B'∧B'.esz=B.esz∧((B'.ver=B.ver∧m' b=m b)∨B.ver<B'.ver)
theorem Ge.refl (g:bD) (m:aB):Ge g m g m:=fun _ B h=> ⟨B,h,rfl,.inl ⟨rfl,rfl⟩⟩
theorem Ge.trans {g g' i:bD} {m k f:aB} (h:Ge g m g' k) (l:Ge g' k i f):Ge g m i f:=by
 intro b B o;obtain ⟨B',j,e,c⟩:=h b B o;obtain ⟨B'',a,e',c'⟩:=l b B' j;refine ⟨B'',a,e'.trans e, ?_⟩;rcases c with ⟨r,n⟩|c<;>rcases c' with ⟨q,p⟩|d
 ·exact .inl ⟨q.trans r,p.trans n⟩
 ·exact .inr (by omega)
 ·exact .inr (by omega)
 ·exact .inr (by omega)
mutual
theorem jW {g g':bD} {m C:aB} {S S':au} (o:gK S S') (h:Ge g m g' C):∀ (x:AV) {v:Value},VR g m S x v→VR g' C S' x v
 | .int k n,_,p=>by simp only [VR] at p ⊢;exact bn o _ p
 | .bool _,_,p=>by simp only [VR] at p ⊢;exact bn o _ p
 | .str _,_,p=>by simp only [VR] at p ⊢;exact bn o _ p
 | .nilS,_,p=>by simp only [VR] at p ⊢;exact bn o _ p
 | .nilP,_,p=>by simp only [VR] at p ⊢;exact bn o _ p
 | .raw _,_,p=>by simp only [VR] at p ⊢;exact bn o _ p
 | .nilF,_,p=>by simp only [VR] at p ⊢;exact bn o _ p
 | .nilI,_,p=>by simp only [VR] at p ⊢;exact bn o _ p
 | .sl _ _ _,_,p=>by simp only [VR] at p ⊢;exact bn o _ p
 | .pp _ _,_,p=>by simp only [VR] at p ⊢;exact bn o _ p
 | .mp _ _,_,p=>by simp only [VR] at p ⊢;exact bn o _ p
 | .dead,_,_=>by simp only [VR]
 | .own _ _ _,_,p=>by simp only [VR] at p
 | .agg l,_,p=>by
  simp only [VR] at p ⊢;obtain ⟨vs,e,q⟩:=p;exact ⟨vs,e,iH o h l q⟩
 | .tup l,_,p=>by
  simp only [VR] at p ⊢;obtain ⟨vs,e,q⟩:=p;exact ⟨vs,e,iH o h l q⟩
 | .fn f a c,_,p=>by
  simp only [VR] at p ⊢;obtain ⟨F,vc,e,q,r⟩:=p;exact ⟨F,vc,e,iH o h a q,iH o h c r⟩
 | .ifc t x,_,p=>by
  simp only [VR] at p ⊢;obtain ⟨u,e,q⟩:=p;exact ⟨u,e,jW o h x q⟩
 | .ref b ver i n,_,p=>by
  simp only [VR] at p ⊢;obtain ⟨B,y,D,j,q⟩:=p;obtain ⟨B',d,A,z⟩:=h b B y;rcases z with ⟨E,s⟩|c
  ·refine ⟨B',d,by omega,j,fun e=> ?_⟩;rw [s,A];exact q (by omega)
  ·exact ⟨B',d,by omega,j,fun e=>by omega⟩
 | .ptr b ver off,_,p=>by
  simp only [VR] at p ⊢;obtain ⟨B,y,D,j,q⟩:=p;obtain ⟨B',d,A,z⟩:=h b B y;rcases z with ⟨E,s⟩|c
  ·refine ⟨B',d,by omega,j,fun e=> ?_⟩;rw [s];exact q (by omega)
  ·exact ⟨B',d,by omega,j,fun e=>by omega⟩
 | .mr b ver,_,p=>by
  simp only [VR] at p ⊢;obtain ⟨B,y,D,j,q⟩:=p;obtain ⟨B',d,A,z⟩:=h b B y;rcases z with ⟨E,s⟩|c
  ·refine ⟨B',d,by omega,j,fun e=> ?_⟩;rw [s];exact q (by omega)
  ·exact ⟨B',d,by omega,j,fun e=>by omega⟩
theorem iH {g g':bD} {m b:aB} {S S':au} (a:gK S S') (h:Ge g m g' b):∀ (l:List AV) {vs:List Value},aS g m S l vs→aS g' b S' l vs
 | [],[],_=>by simp only [aS]
 |x::r,v::vs,p=>by simp only [aS] at p ⊢;exact ⟨jW a h x p.1,iH a h r p.2⟩
 | [],_::_,p=>by simp [aS] at p
 |_::_,[],p=>by simp [aS] at p
end
def lw (ap:AP) (S:au):Prop:=∀ k xs,(ap.gl[k]?).join=some xs→∃ vs,a_ S xs vs∧iQ S k 0 vs
structure di (P:Program) (ap:AP):Prop where
 ty:∀ t ti,ap.tyAt t=some ti→U9 P t=some ti
 mt:ap.mt.all (mtB P)=true
def jw (es:Array MapEntry):Array Value:=#[.agg (es.map (·.key)),.agg (es.map (·.val))]
def fV (w:World) (k z:Nat) (cur:Array Value) (e:TypeId):Prop:=
 (z ≠ dJ∧w.heap[k]? =some (.cells cur e (0,0)))∨(z=dJ∧∃ es clk,w.heap[k]? =some (.map es clk)∧cur=jw es)
def bT (w:World) (k o:Nat):Option Value:=match w.heap[k]? with
 |some (.map es _)=>(jw es)[o]?
 |_=>match w.cell? ⟨k,o,none⟩ with|some v=>if v.oneCell' then some v else none|none=>none
theorem fV.of {w:World} {k z:Nat} {cur:Array Value} {e:TypeId} (a:z ≠ dJ) (h:w.heap[k]? =some (.cells cur e (0,0))):fV w k z cur e:= .inl ⟨a,h⟩
theorem fV.cells {w:World} {k z:Nat} {cur:Array Value} {e:TypeId} (h:fV w k z cur e) (a:z ≠ dJ):w.heap[k]? =some (.cells cur e (0,0)):=by
 rcases h with h|h
 ·exact h.2
 ·exact absurd h.1 a
theorem fV.map {w:World} {k z:Nat} {cur:Array Value} {e:TypeId} (h:fV w k z cur e) (a:z=dJ):∃ es clk,w.heap[k]? =some (.map es clk)∧cur=jw es:=by
 rcases h with h|h
 ·exact absurd a h.1
 ·exact h.2
theorem fV.same {w w':World} {k z:Nat} {cur:Array Value} {e:TypeId} (h:fV w k z cur e) (a:w'.heap[k]? =w.heap[k]?):fV w' k z cur e:=by
 unfold fV;rw [a];exact h
theorem fV.lt {w:World} {k z:Nat} {cur:Array Value} {e:TypeId} (h:fV w k z cur e):k<w.heap.size:=by
 rcases h with ⟨_,h⟩|⟨_,es,clk,h,_⟩<;>exact (Array.getElem?_eq_some_iff.1 h).1
theorem BB {w w':World} {k o:Nat} (b:w'.heap[k]? =w.heap[k]?):bT w' k o=bT w k o:=by
 unfold bT;rw [b,World.cell?_of_block (w:=w) (a:=⟨k,o,none⟩) b]
theorem sV {w:World} {k o:Nat} {v:Value} (h:bT w k o=some v) (a:v.oneCell'=true):w.cell? ⟨k,o,none⟩=some v:=by
 unfold bT at h;split at h
 ·rename_i es clk c;exfalso;unfold jw at h;rcases (show o=0∨o=1∨2≤o by omega) with rfl|rfl|ho
  ·cases h;cases a
  ·cases h;cases a
  ·rw [Array.getElem?_eq_none (by simpa using ho)] at h;cases h
 ·split at h
  ·rename_i d b;split at h
   ·cases h;exact b
   ·cases h
  ·cases h
theorem pq {w:World} {k o:Nat} {v:Value} (h:w.cell? ⟨k,o,none⟩=some v) (b:v.oneCell'=true):bT w k o=some v:=by
 unfold bT;split
 ·rename_i es clk a;unfold World.cell? at h;simp only [a] at h;cases h
 ·rw [h];simp only;rw [if_pos b]
theorem sU {w:World} {k o:Nat} {v:Value} (h:bT w k o=some v) (c:v.oneCell'=false):∃ es clk,w.heap[k]? =some (.map es clk)∧(jw es)[o]? =some v:=by
 unfold bT at h;split at h
 ·rename_i es clk b;exact ⟨es,clk,b,h⟩
 ·split at h
  ·split at h
   ·rename_i a;cases h;rw [c] at a;cases a
   ·cases h
  ·cases h
theorem BA {w:World} {k o:Nat} {v:Value} (h:bT w k o=some v):k<w.heap.size:=by
 cases a:v.oneCell' with
 |true=>exact World.block_lt_of_cell? w _ (sV h a)
 |false=>
  obtain ⟨_,_,b,_⟩:=sU h a;exact (Array.getElem?_eq_some_iff.1 b).1
structure O7 (g:bD) (m:aB) (S:au) (w:World) (B:az) (k c:Nat):Prop where
 lies:∃ cur e vs rest,fV w k B.esz cur e∧cur.toList=vs++rest∧(B.pr=true→a_ S B.cells vs)∧aS g m S B.cells vs∧(B.esz ≠ dJ→∀ u ∈ vs,u.oneCell'=true)∧(0<B.esz→B.esz ≠ dJ→cur.size=c*B.esz∧c≤maxLen)
 fz0:B.fro=false→B.fz=0
 fzle:B.fz≤B.cells.length
structure aZ (ap:AP) (g:bD) (m:aB) (S:au) (w:World):Prop where
 inj:∀ b b' B B',g b=some B→g b'=some B'→(m b).1=(m b').1→b=b'
 blk:∀ b B,g b=some B→O7 g m S w B (m b).1 (m b).2
 sealed:∀ k o v,S k o=some v→bT w k o=some v
 own:∀ b B,g b=some B→∀ o v,S (m b).1 o=some v→B.fro=true∧o<B.fz
 glob:lw ap S
def uB (es:Array MapEntry) (clk:Nat):Prop:=(es.toList.map (·.born)).Nodup∧∀ x ∈ es.toList,x.born<clk
def MW (w w':World):Prop:=∀ (k:Nat) (es:Array MapEntry) (clk:Nat),w'.heap[k]? =some (Obj.map es clk)→(∃ es0 clk0,w.heap[k]? =some (Obj.map es0 clk0)∧(uB es0 clk0→uB es clk))∨(w.heap.size≤k∧uB es clk)
theorem MW.same {w w':World} (h:∀ (k:Nat) (es:Array MapEntry) (clk:Nat),w'.heap[k]? =some (Obj.map es clk)→w.heap[k]? =some (Obj.map es clk)):MW w w':=fun k es clk a=> .inl ⟨es,clk,h k es clk a,id⟩
theorem MW.refl (w:World):MW w w:= .same fun _ _ _ h=>h
theorem MW.alloc (w:World) (cs:Array Value) (e:TypeId) (fr:Nat × Nat):MW w (w.alloc (.cells cs e fr)):= .same fun k es clk a=>by
 simp only [World.alloc,Array.getElem?_push] at a;split at a
 ·cases a
 ·exact a
theorem MW.map0 (w:World):MW w (w.alloc (.map #[] 0)):=fun k es clk a=>by
 simp only [World.alloc,Array.getElem?_push] at a;split at a
 ·rename_i e;cases a;exact .inr ⟨by omega,by simp [uB]⟩
 ·exact .inl ⟨es,clk,a,id⟩
theorem MW.row (w:World) (g:Nat) (cs:Array Value):MW w (w.setRow g cs):= .same fun k es clk a=>by
 simp only [World.setRow,Array.getElem?_modify] at a;split at a
 ·cases b:w.heap[k]? with
  |none=>rw [b] at a;cases a
  |some o=>
   rw [b] at a;cases o<;>simp at a ⊢
   exact a
 ·exact a
theorem MW.setM {w:World} {k0:Nat} {b d:Array MapEntry} {a clk':Nat} (h0:w.heap[k0]? =some (.map b a)) (h:uB b a→uB d clk'):MW w {w with heap:=w.heap.setIfInBounds k0 (.map d clk')}:=fun k es clk c=>by
 simp only [Array.getElem?_setIfInBounds] at c;split at c
 ·rename_i e;subst e;split at c
  ·cases c;exact .inl ⟨b,a,h0,h⟩
  ·cases c
 ·exact .inl ⟨es,clk,c,id⟩
def MB (g':bD) (m':aB) (w w':World):Prop:=∀ b B,g' b=some B→∀ es clk,w'.heap[(m' b).1]? =some (Obj.map es clk)→(∃ es0 clk0,w.heap[(m' b).1]? =some (Obj.map es0 clk0)∧(uB es0 clk0→uB es clk))∨(w.heap.size≤(m' b).1∧uB es clk)
theorem MW.mb {w w':World} (h:MW w w') (g':bD) (c:aB):MB g' c w w':=fun b _ _ es clk a=>h _ es clk a
theorem uB.push {es:Array MapEntry} {clk:Nat} (k v:Value) (h:uB es clk):uB (es.push {key:=k,val:=v,born:=clk}) (clk+1):=by
 obtain ⟨f,d⟩:=h;refine ⟨?_,fun x c=> ?_⟩
 ·rw [Array.toList_push,List.map_append,List.nodup_append];refine ⟨f,by simp,fun a i b e=> ?_⟩;obtain ⟨x,c,rfl⟩:=List.mem_map.1 i;simp at e;have:=d x c;omega
 ·rw [Array.toList_push,List.mem_append] at c;rcases c with c|c
  ·have:=d x c;omega
  ·simp at c;subst c;simp
theorem uB.same {es a:Array MapEntry} {clk:Nat} (e:a.toList.map (·.born)=es.toList.map (·.born)) (h:uB es clk):uB a clk:=by
 obtain ⟨c,d⟩:=h;refine ⟨by rw [e];exact c,fun x b=> ?_⟩;have:x.born ∈ a.toList.map (·.born):=List.mem_map.2 ⟨x,b,rfl⟩;rw [e] at this;obtain ⟨y,f,i⟩:=List.mem_map.1 this;have:=d y f;omega
structure Fr (g:bD) (m:aB) (S:au) (w:World) (g':bD) (m':aB) (S':au) (w':World):Prop where
 ge:Ge g m g' m'
 sle:gK S S'
 os:w'.os=w.os
 tape:w'.tape=w.tape
 output:w'.output=w.output
 size:w.heap.size≤w'.heap.size
 rest:∀ k,k<w.heap.size→(∀ b B,g b=some B→(m b).1 ≠ k)→w'.heap[k]? =w.heap[k]?
 img:∀ b B,g' b=some B→w.heap.size≤(m' b).1∨(∃ B0,g b=some B0∧(m' b).1=(m b).1)
 sealN:∀ k o v,S' k o=some v→S k o=some v∨w.heap.size≤k∨∃ b B,g b=some B∧(m b).1=k
 mw:MB g' m' w w'
theorem Fr.refl (g:bD) (m:aB) (S:au) (w:World):Fr g m S w g m S w:=
 ⟨Ge.refl g m,gK.refl S,rfl,rfl,rfl,ζ _,fun _ _ _=>rfl,fun _ B h=> .inr ⟨B,h,rfl⟩,fun _ _ _ h=> .inl h,(MW.refl w).mb _ _⟩
theorem Fr.trans {g g' r:bD} {m D p:aB} {S S' S'':au} {w w' n:World} (h:Fr g m S w g' D S' w') (f:Fr g' D S' w' r p S'' n):Fr g m S w r p S'' n:=by
 refine ⟨h.ge.trans f.ge,h.sle.trans f.sle,f.os.trans h.os,f.tape.trans h.tape,f.output.trans h.output,Xqg h.size f.size, ?_, ?_, ?_, ?_⟩
 ·intro k s E;rw [f.rest k (Nat.lt_of_lt_of_le s h.size) ?_,h.rest k s E];intro b B i e;rcases h.img b B i with c|⟨B0,a,c⟩
  ·omega
  ·exact E b B0 a (c ▸ e)
 ·intro b B i;rcases f.img b B i with c|⟨B0,a,c⟩
  ·exact .inl (Xqg h.size c)
  ·rcases h.img b B0 a with z|⟨B1,A,z⟩
   ·exact .inl (c ▸ z)
   ·exact .inr ⟨B1,A,c.trans z⟩
 ·intro k o v F;rcases f.sealN k o v F with d|d|⟨b,B,i,d⟩
  ·exact h.sealN k o v d
  ·exact .inr (.inl (Xqg h.size d))
  ·rcases h.img b B i with c|⟨B0,a,c⟩
   ·exact .inr (.inl (d ▸ c))
   ·exact .inr (.inr ⟨b,B0,a,by rw [← d,c]⟩)
 ·intro b B i es clk s;rcases f.mw b B i es clk s with ⟨C,j,d,t⟩|⟨d,t⟩
  ·rcases f.img b B i with c|⟨B0,a,c⟩
   ·have:=(Array.getElem?_eq_some_iff.1 d).1;omega
   ·rw [c] at d ⊢;rcases h.mw b B0 a C j d with ⟨x,l,y,u⟩|⟨y,u⟩
    ·exact .inl ⟨x,l,y,fun q=>t (u q)⟩
    ·exact .inr ⟨y,t u⟩
  ·exact .inr ⟨Xqg h.size d,t⟩
theorem aZ.lt {ap:AP} {g:bD} {m:aB} {S:au} {w:World} (h:aZ ap g m S w) {b:Nat} {B:az} (c:g b=some B):(m b).1<w.heap.size:=by
 obtain ⟨cur,e,vs,rest,a,_⟩:=(h.blk b B c).lies;exact a.lt
theorem aZ.one {ap:AP} {g:bD} {m:aB} {S:au} {w:World} (h:aZ ap g m S w) {k o:Nat} {v:Value} (b:S k o=some v) (a:v.oneCell'=true):w.cell? ⟨k,o,none⟩=some v:=sV (h.sealed k o v b) a
theorem iI {w:World} {k j:Nat} {cur:Array Value} {e:TypeId} {fr:Nat × Nat} (h:w.heap[k]? =some (.cells cur e fr)):w.cell? ⟨k,j,none⟩=cur.toList[j]? :=by
 rw [cell_of_row w k j cur e fr h];simp
theorem fV.get {w:World} {k z j:Nat} {cur:Array Value} {e:TypeId} {u:Value} (h:fV w k z cur e) (a:cur.toList[j]? =some u) (b:z ≠ dJ→u.oneCell'=true):bT w k j=some u:=by
 rcases h with ⟨c,h⟩|⟨_,es,clk,h,rfl⟩
 ·exact pq (by rw [iI h];exact a) (b c)
 ·unfold bT;rw [h];simpa using a
theorem eY {a b:IntKind} (h:gJ a b=true):a=b:=by cases a<;>cases b<;>first|rfl|(exact absurd h (by decide))
theorem aA {a b:Nat} (h:Δ a b=true):a=b:=Nat.eq_of_beq_eq_true h
theorem eG {a b:Nat} (h:Xqq a b=true):a≤b:=Nat.le_of_ble_eq_true h
theorem dW {a b:Nat} (h:Xxc a b=true):a<b:=by
 have:Xqq (a+1) b=true:=h;exact eG this
theorem ZW {S:au} {x:AV} {v:Value} (h:PR S x v) (a:kV x=true):v.oneCell'=true:=by
 cases x<;>simp only [PR] at h<;>first
  |(subst h;rfl)
  |(rcases h with ⟨rfl,_⟩|⟨_,_,_,rfl,_⟩<;>rfl)
  |(obtain ⟨_,_,_,rfl,_⟩:=h;rfl)
  |(obtain ⟨_,_,rfl,_⟩:=h;rfl)
  |(obtain ⟨_,rfl,_⟩:=h;first|rfl|exact absurd a (by simp [kV]))
  |(exact absurd a (by simp [kV]))
theorem Ky {g:bD} {m:aB} {S:au} {x:AV} {v:Value} (h:VR g m S x v) (a:kV x=true):v.oneCell'=true:=by
 cases x<;>simp only [VR] at h<;>first
  | (exact ZW h a)
    |(obtain ⟨_,_,_,⟨_,_,rfl⟩,_⟩:=h;rfl)
  |(obtain ⟨_,_,_,⟨_,_,_,rfl⟩,_⟩:=h;rfl)
  |(obtain ⟨_,_,rfl,_⟩:=h;rfl)
  |(obtain ⟨_,rfl,_⟩:=h;first|rfl|exact absurd a (by simp [kV]))
  |(exact absurd a (by simp [kV]))
end AM
namespace AM
open Go
structure v_ (P:Program) (t:Nat) (ti:TI) (i:TypeInfo) (d:TypeDesc) (z:Value):Prop where
 info:P.info? t=some i
 und:P.underlying t=some d
 d_eq:ti.d=iZ P (some d)
 size:ti.size=i.size
 bytes:ti.bytes=i.bytes
 zero:i.zero=some z
 zcells:ti.zero=z.cells.toList.map Dh
 zleaf:∀ x ∈ ti.zero,kV x=true
 zsize:z.cells.size=i.size
 lks:ti.lks.length=i.size
 zagg:abQ i d=true
 fld:Rk P d=true
 small:i.size<dJ
theorem bQ {P:Program} {ap:AP} (e:di P ap) {t:Nat} {c:TI} (h:ap.tyAt t=some c):∃ i d z,v_ P t c i d z:=by
 have a:=e.ty t c h;unfold U9 at a;cases b:P.info? t with
 |none=>simp [b] at a
 | some i=>
  cases f:P.underlying t with
  |none=>simp [b,f] at a
  | some d=>
   simp only [b,f] at a;split at a
   ·rename_i n;simp only [ε] at n;obtain ⟨⟨⟨⟨⟨u,l⟩,p⟩,s⟩,r⟩,o⟩:=n;cases j:i.zero with
    |none=>simp [j] at r
    | some z=>
     cases a;have k:Ec i=z.cells.toList.map Dh:=by simp [Ec,j]
     refine ⟨i,d,z,b,f,rfl,rfl,rfl,j,k, ?_, ?_,aA u,l.1,l.2,dW o⟩
     ·intro x q;exact List.all_eq_true.1 p x q
     ·have:=aA s;rw [k] at this;simpa using this
   ·cases a
theorem fB {P:Program} {d:TypeDesc} {e:Nat} (h:iZ P (some d)= .slice e):d= .slice e:=by cases d<;>simp [iZ] at h;subst h;rfl
theorem xJ {P:Program} {d:TypeDesc} {n e:Nat} (h:iZ P (some d)= .array n e):d= .array n e:=by cases d<;>simp [iZ] at h;obtain ⟨rfl,rfl⟩:=h;rfl
theorem vX {P:Program} {d:TypeDesc} (h:iZ P (some d)= .str):d= .string:=by cases d<;>simp [iZ] at h;rfl
theorem U8 {P:Program} {d:TypeDesc} {k:IntKind} (h:iZ P (some d)= .int k):d= .int k:=by cases d<;>simp [iZ] at h;subst h;rfl
theorem Xu {P:Program} {d:TypeDesc} (h:iZ P (some d)= .bool):d= .bool:=by cases d<;>simp [iZ] at h;rfl
theorem t_ {P:Program} {d:TypeDesc} {a:List (Nat × Nat × Nat)} (h:iZ P (some d)= .struct a):
  ∃ fields:Array Field,d= .struct fields∧a=fields.toList.map fun f=>(f.offset,f.type,match P.info? f.type with|some i=>i.size|none=>0):=by
 cases d<;>simp [iZ] at h
 exact ⟨_,rfl,h.symm⟩
theorem D6 {P:Program} (d:TypeDesc):GI (iZ P (some d))=d.isRow:=by cases d<;>simp [iZ,GI,TypeDesc.isRow]
theorem EG (S:au) (v:Value):PR S (G5 v) v:=by
 cases v<;>simp only [G5,PR]
 case pointer a=>cases a<;>simp only [PR]
 case map a=>
  cases a with
  |none=>simp [PR]
  |some _=>simp only [PR]
 case slice a n c=>
  split<;>simp only [PR]
theorem Ir (S:au) (v:Value):PR S (Dh v) v:=by
 cases v<;>simp only [Dh]<;>try exact EG S _
 case agg cs=>
  simp only [PR];refine ⟨cs.toList,by simp, ?_⟩
  induction cs.toList with
  |nil=>simp [a_]
  |cons c r ih=>simp only [Γ,a_];exact ⟨EG S c,ih⟩
 case tuple vs=>
  split
  ·rename_i h;simp only [PR];exact ⟨[],by rw [← h],by simp [a_]⟩
  ·simp only [PR]
theorem uz (S:au):∀ l:List Value,a_ S (l.map Dh) l
 | []=>by simp [a_]
 |v::r=>by simp only [Γ,a_];exact ⟨Ir S v,uz S r⟩
theorem Z4 {g:bD} {m:aB} {S:au} {k:LK} {c:AV} {v:Value} (h:VR g m S c v) (d:chk k c=true):VR g m S (eta k c) v:=by
 cases k<;>cases c<;>simp [chk] at d<;>simp only [eta,AV.toInt,AV.toBool,AV.toStr,AV.slX,AV.slN]<;>try exact h
 ·rw [eY d];exact h
 ·simp only [VR,PR] at h ⊢;subst h;exact ⟨none,0,rfl,ζ _,.inl ⟨fun _=>trivial,trivial,trivial,rfl⟩⟩
 ·simp only [VR,PR] at h ⊢;obtain ⟨a,cap,e,b,q⟩:=h;refine ⟨a,cap,e,b, ?_⟩;rcases q with ⟨l,i,f,j⟩|q
  ·exact .inl ⟨fun _=>trivial,i,f,j⟩
  ·exact .inr q
theorem zh {k:LK} {c:AV} (h:chk k c=true):c ≠ .dead:=by intro e;subst e;cases k<;>simp [chk] at h
theorem getD_some {a:List AV} {i:Nat} (h:a.getD i .dead ≠ .dead):a[i]? =some (a.getD i .dead):=by
 rw [γ] at h ⊢;cases b:a[i]? with
 |none=>simp [b] at h
 |some x=>simp
theorem BZ (b:List AV) (a:Nat):(b.drop a).headD .dead=b.getD a .dead:=by
 rw [Xwb,Xv2,γ]
theorem P9 (ty:Bool) (b:List AV) (a:Nat):su ty [] b a= []:=rfl
theorem vP (ty:Bool) (k:LK) (ks:List LK) (b:List AV) (a:Nat):su ty (k::ks) b a=(match ty with|true=>eta k (b.getD a .dead)|false=>b.getD a .dead)::su ty ks b (a+1):=by
 show _::JB ty ks (b.drop a).tail=_::JB ty ks (b.drop (a+1));rw [Xv7];cases ty<;>simp only [BZ]
theorem Pj (ty:Bool) (k:LK) (ks:List LK) (b:List AV) (a:Nat):Gg ty (k::ks) b a=(match ty with|true=>chk k (b.getD a .dead)|false=>chk .oth (b.getD a .dead))::Gg ty ks b (a+1):=by
 show _::QU ty ks (b.drop a).tail=_::QU ty ks (b.drop (a+1));rw [Xv7];cases ty<;>simp only [BZ]
theorem nO {g:bD} {m:aB} {S:au} (ty:Bool) {e:List AV} {vs:List Value} (i:aS g m S e vs):∀ (lks:List LK) (a:Nat),(∀ b ∈ Gg ty lks e a,b=true)→
  ∃ us:List Value,us.length=lks.length∧(∀ j u,us[j]? =some u→vs[a+j]? =some u)∧aS g m S (su ty lks e a) us:=by
 intro lks
 induction lks with
 |nil=>exact fun a _=> ⟨[],rfl,fun _ _ h=>by simp at h,by simp [P9,aS]⟩
 | cons k ks ih=>
  intro a h;simp only [Pj,List.mem_cons,forall_eq_or_imp] at h;obtain ⟨us,o,l,n⟩:=ih (a+1) h.2;have key:∃ v,vs[a]? =some v∧VR g m S ((su ty (k::ks) e a).headD .dead) v:=by
   rw [vP];cases ty with
   |true=>
    obtain ⟨v,d,c⟩:=pg i a (getD_some (zh h.1));exact ⟨v,d,Z4 c h.1⟩
   |false=>
    obtain ⟨v,d,c⟩:=pg i a (getD_some (zh h.1));exact ⟨v,d,c⟩
  obtain ⟨v,d,c⟩:=key;rw [vP] at c;refine ⟨v::us,by simp [o], ?_, ?_⟩
  ·intro j u f;cases j with
   |zero=>simp at f;subst f;simpa using d
   |succ j=>simp at f;rw [show a+(j+1)=a+1+j from by omega];exact l j u f
  ·simp only [vP,aS];exact ⟨c,n⟩
theorem lQ {P:Program} {w:World} {t:Nat} {h:TI} {i:TypeInfo} {d:TypeDesc} {z:Value} (e:v_ P t h i d z) {g:bD} {m:aB} {S:au} {cs:List AV} {us:List Value} {k a:Nat}
  (hl:us.length=h.lks.length) (hu:∀ j u,us[j]? =some u→w.cell? ⟨k,a+j,none⟩=some u) (hr:aS g m S cs us) {v:AV} (hv:oN h cs=some v):
  ∃ cv,(loadVar t ⟨k,a,none⟩).run P w= .ok cv w∧VR g m S v cv:=by
 unfold oN at hv;rw [e.d_eq,D6] at hv;split at hv
 ·rename_i b;cases hv;refine ⟨.agg us.toArray,run_loadVar_mid w k a t us d hu e.und b (by simp [e.info,hl,e.lks]), ?_⟩;simp only [VR];exact ⟨us,rfl,hr⟩
 ·rename_i b;split at hv
  ·rename_i c;cases hv;cases us with
   |nil=>simp [aS] at hr
   | cons u r=>
    simp only [aS] at hr;refine ⟨u, ?_,hr.1⟩;have f:(isAgg t).run P w= .ok false w:=by
     unfold isAgg;rw [Sem.run_bind,run_underlying e.und w];cases d<;>simp_all [TypeDesc.isRow]
    have l:=hu 0 u rfl;simp only [Xxf] at l;simp [loadVar,f,l]
  ·cases hv
theorem bind_some {α β:Type} {x:Option α} {f:α→Option β} {b:β} (h:x.bind f=some b):∃ a,x=some a∧f a=some b:=by
 cases x with
 |none=>simp at h
 |some a=>exact ⟨a,rfl,h⟩
theorem aG {v b:AV} {bs a:List Bool} {ups:List (Nat × az)} (h:aY v bs=some (b,ups,a)):b=v∧ups= []∧a=bs:=by
 unfold aY at h;cases h;exact ⟨rfl,rfl,rfl⟩
section
variable {P:Program} {ap:AP} {g:bD} {m:aB} {S:au} {w:World}
theorem zy (L:aZ ap g m S w) {rd:bD} (I:∀ b B,rd b=some B→g b=some B) {t:Nat} {x:TI} {i:TypeInfo} {d:TypeDesc} {z:Value} (M:v_ P t x i d z)
  {p v:AV} {cp:Value} (hp:VR g m S p cp) {ups:List (Nat × az)} {bs:List Bool} (h:Jl x rd p=some (v,ups,bs)) (hbs:∀ b ∈ bs,b=true):
  ups= []∧∃ cv,(Instr.loadAt t cp).run P w= .ok cv w∧VR g m S v cv:=by
 unfold Jl at h;split at h
 ·rename_i R f;obtain ⟨Q,l,h⟩:=bind_some h;obtain ⟨rfl,rfl,rfl⟩:=aG h;simp only [VR,PR] at hp;obtain ⟨b,o,vs,rfl,hp,hs⟩:=hp;obtain ⟨us,J,G,E⟩:=nO (g:=g) (m:=m) true (aV _ hp) x.lks f hbs;obtain ⟨cv,D,H⟩:=lQ (w:=w) M (k:=b) (a:=o+f) J (fun j u F=>by
   have K:=hs (f+j) u (G j u F);have:=L.one K.1 K.2;rw [Xx9];exact this) E l
  exact ⟨rfl,cv,by simpa [Instr.loadAt,Instr.sureAddr] using D,H⟩
 ·rename_i b ver f;obtain ⟨B,N,h⟩:=bind_some h;split at h
  ·rename_i c;obtain ⟨Q,l,h⟩:=bind_some h;obtain ⟨rfl,rfl,rfl⟩:=aG h;simp only [VR] at hp;obtain ⟨B',r,_,_,q⟩:=hp;have n:=I b B N;rw [n] at r;cases r;simp only [ε,Xqe] at c;have y:B.esz ≠ dJ:=fun e=>by rw [e] at c;exact absurd c.2 (by decide)
   have q:=q (aA c.1);subst q;obtain ⟨cur,e,vs,rest,A,O,_,C,_⟩:=(L.blk b B n).lies;have A:=A.cells y;obtain ⟨us,J,G,E⟩:=nO _ C x.lks f hbs;obtain ⟨cv,D,H⟩:=lQ (w:=w) M (k:=(m b).1) (a:=f) J (fun j u F=>by
    have s:=G j u F;rw [iI A,O,List.getElem?_append_left (List.getElem?_eq_some_iff.1 s).1];exact s) E l
   exact ⟨rfl,cv,by simpa [Instr.loadAt,Instr.sureAddr] using D,H⟩
  ·cases h
 ·cases h
theorem Di {p d:AV} {f:Value} (hp:VR g m S p f) {o:Nat} (h:TE p o=some d):∃ a:Addr,f= .pointer (some a)∧VR g m S d (.pointer (some (a.add o))):=by
 unfold TE at h;split at h<;>cases h
 ·rename_i b ver c;simp only [VR] at hp;obtain ⟨B,j,r,⟨k,i,rfl⟩,q⟩:=hp;refine ⟨_,rfl, ?_⟩;simp only [VR];refine ⟨B,j,r,⟨k,i+o,by rw [Addr.add_mid]⟩,fun e=> ?_⟩;have q:=q e;simp only [Value.pointer.injEq,Option.some.injEq,Addr.mk.injEq] at q;obtain ⟨l,n,_⟩:=q;rw [Addr.add_mid,l,n]
 ·rename_i s c;simp only [VR,PR] at hp;obtain ⟨b,k,vs,rfl,hp,hs⟩:=hp;refine ⟨_,rfl, ?_⟩;simp only [VR,PR];exact ⟨b,k,vs,by rw [Addr.add_mid,Xx9],hp,hs⟩
end
end AM
namespace AM
open Go
section
variable {P:Program} {ap:AP} {g:bD} {m:aB} {S:au} {w:World}
theorem bH {b:Bool} {l:List Bool} (h:∀ x ∈ b::l,x=true):b=true∧∀ x ∈ l,x=true:=⟨h b (by simp),fun x a=>h x (by simp [a])⟩
theorem jk {t:Nat} {a:TI} {i:TypeInfo} {d:TypeDesc} {z:Value} (b:v_ P t a i d z) (w:World):(Go.sizeOf t).run P w= .ok a.size w:=by
 simp [Go.sizeOf,typeInfo,b.info,b.size]
theorem zq {x:AV} {a:Value} (b:VR g m S x a) {n:Int} (h:NL x=some n):∃ k,a= .int k n:=by
 cases x<;>simp [NL] at h
 subst h;simp only [VR,PR] at b;exact ⟨_,b⟩
theorem z_ {t:Nat} {q:TI} {i:TypeInfo} {d:TypeDesc} {z:Value} (x:v_ P t q i d z) {n:List (Nat × Nat × Nat)} (r:q.d= .struct n) {f o A y:Nat} (l:n[f]? =some (o,A,y)) (b:Xxc 0 y=true)
  {p v:AV} {cp:Value} (hp:VR g m S p cp) (k:TE p o=some v):∃ cv,(Instr.fieldAt t cp f).run P w= .ok cv w∧VR g m S v cv:=by
 rw [x.d_eq] at r;obtain ⟨fields,rfl,rfl⟩:=t_ r;simp only [φ,Ξ] at l;obtain ⟨u,e,s⟩:=l;simp only [Prod.mk.injEq] at s;obtain ⟨rfl,rfl,hs⟩:=s;obtain ⟨a,rfl,k⟩:=Di hp k;refine ⟨_, ?_,k⟩;have c:fields[f]? =some u:=by simpa using e
 cases h:P.info? u.type with
 |none=>rw [h] at hs;simp only at hs;subst hs;exact absurd (dW b) (by omega)
 |some j=>
  rw [h] at hs;have B:j.size ≠ 0:=by have:=dW b;simp only at hs;omega
  simp [Instr.fieldAt,run_underlying x.und,c,Instr.sureAddr,fieldPlace,Go.sizeOf,typeInfo,h,B]
theorem lS {i:Int} {n:Nat} (h0:decide (0≤i)=true) (c:decide (i<n)=true):0≤i∧i<n∧i.toNat<n:=by
 have a:=of_decide_eq_true h0;have b:=of_decide_eq_true c;omega
theorem yj (s:di P ap) {rd:bD} (G:∀ b B,rd b=some B→g b=some B) {t:Nat} {J:TI} {i:TypeInfo} {d:TypeDesc} {z:Value} (C:v_ P t J i d z)
  {x ix v:AV} {cx ci:Value} (hx:VR g m S x cx) (hi:VR g m S ix ci) {ups:List (Nat × az)} {bs:List Bool} (h:vw ap J rd x ix=some (v,ups,bs)) (hbs:∀ b ∈ bs,b=true):
  ups= []∧∃ cv,(Instr.indexAt t cx ci).run P w= .ok cv w∧VR g m S v cv:=by
 unfold vw at h;have l:=bind_some h;clear h;obtain ⟨n,Q,h⟩:=l;obtain ⟨k,rfl⟩:=zq hi Q;split at h
 ·rename_i e r;have l:=bind_some h;clear h;obtain ⟨E,c,h⟩:=l;obtain ⟨T,O,N,c⟩:=bQ s c;rw [C.d_eq] at r;have r:=fB r;subst r;split at h
  ·rename_i W len nn;obtain ⟨rfl,rfl,rfl⟩:=aG h;obtain ⟨y,f⟩:=bH hbs;obtain ⟨f,_⟩:=bH f;obtain ⟨h0,u,K⟩:=lS y f;simp only [VR,PR] at hx;obtain ⟨a,cap,rfl,R,q⟩:=hx;rcases q with ⟨_,_,q,_⟩|⟨b,o,vs,rfl,hp,hs⟩
   ·subst q;omega
   ·refine ⟨rfl,.pointer (some ⟨b,o+n.toNat*E.size,none⟩), ?_, ?_⟩
    ·simp [Instr.indexAt,asIntOf,run_underlying C.und,h0,u,jk c,Addr.add_mid]
    ·simp only [VR,PR];exact ⟨b,o,vs,rfl,hp,hs⟩
  ·rename_i b ver j len;have l:=bind_some h;clear h;obtain ⟨B,L,h⟩:=l;split at h
   ·rename_i D;simp only [ε] at D;obtain ⟨rfl,rfl,rfl⟩:=aG h;obtain ⟨y,f⟩:=bH hbs;obtain ⟨f,_⟩:=bH f;obtain ⟨h0,u,K⟩:=lS y f;simp only [VR] at hx;obtain ⟨B',A,I,_,q⟩:=hx;have H:=G b B L;rw [H] at A;cases A;obtain ⟨o,rfl,V,M,X⟩:=q (aA D.1);have U:=M (by omega);have F:=aA D.2;refine ⟨rfl,.pointer (some ⟨(m b).1,(j+n.toNat)*E.size,none⟩), ?_, ?_⟩
    ·rw [U,F];simp [Instr.indexAt,asIntOf,run_underlying C.und,h0,u,jk c,Addr.add_mid,Xzb]
    ·simp only [VR];exact ⟨B,H,by have:=aA D.1;omega,⟨_,_,rfl⟩,fun _=>trivial⟩
   ·cases h
  ·cases h
 ·rename_i len e r;have l:=bind_some h;clear h;obtain ⟨E,c,h⟩:=l;obtain ⟨T,O,N,c⟩:=bQ s c;have l:=bind_some h;clear h;obtain ⟨p,hp,h⟩:=l;obtain ⟨rfl,rfl,rfl⟩:=aG h;rw [C.d_eq] at r;have r:=xJ r;subst r;obtain ⟨y,f⟩:=bH hbs;obtain ⟨f,_⟩:=bH f;obtain ⟨h0,u,K⟩:=lS y f;obtain ⟨a,rfl,I⟩:=Di hx hp;refine ⟨rfl,_, ?_,I⟩;simp [Instr.indexAt,asIntOf,run_underlying C.und,h0,u,jk c,Instr.sureAddr]
 ·cases h
theorem Dn {t:Nat} {h:TI} {i:TypeInfo} {d:TypeDesc} {z:Value} (k:v_ P t h i d z) {vs us:List Value} {cs:List AV} {b:Nat}
  (hl:us.length=h.lks.length) (hu:∀ j u,us[j]? =some u→vs[b+j]? =some u) (hr:aS g m S cs us) {v:AV} (hv:oN h cs=some v):
  ∃ cv,(part t vs.toArray b).run P w= .ok cv w∧VR g m S v cv:=by
 have f:(isAgg t).run P w= .ok d.isRow w:=by
  unfold isAgg;rw [Sem.run_bind,run_underlying k.und w];cases d<;>simp [TypeDesc.isRow]
 unfold oN at hv;rw [k.d_eq,D6] at hv;split at hv
 ·rename_i a;cases hv;have o:(vs.drop b).take h.size=us:=by
   apply List.ext_getElem?;intro j;rw [Xxh,Xxy];have n:h.size=us.length:=by rw [hl,k.lks,k.size]
   split
   ·rename_i p;have e:j<us.length:=by omega
    have:=hu j us[j] (δ e);rw [this,δ e]
   ·rename_i p;rw [List.getElem?_eq_none (by omega)]
  refine ⟨.agg us.toArray, ?_, ?_⟩
  ·simp [part,f,a,jk k,o]
  ·simp only [VR];exact ⟨us,rfl,hr⟩
 ·rename_i a;split at hv
  ·rename_i c;cases hv;cases us with
   |nil=>simp [aS] at hr
   |cons u r=>
    simp only [aS] at hr;refine ⟨u, ?_,hr.1⟩;have l:=hu 0 u rfl;simp only [Xxf] at l;have a:d.isRow=false:=by simpa using a
    simp [part,f,a,l]
  ·cases hv
theorem Gt (k:di P ap) {t:Nat} {r:TI} {i:TypeInfo} {d:TypeDesc} {z:Value} (A:v_ P t r i d z) {x v:AV} {q:Value} (j:VR g m S x q) {f:Nat} {ups:List (Nat × az)} {bs:List Bool}
  (h:KN ap r x f=some (v,ups,bs)) (hbs:∀ b ∈ bs,b=true):ups= []∧∃ cv,(Instr.field t q f).run P w= .ok cv w∧VR g m S v cv:=by
 unfold KN at h;split at h
 ·rename_i G cs s;have c:=bind_some h;clear h;obtain ⟨⟨o,H,J⟩,p,h⟩:=c;have c:=bind_some h;clear h;obtain ⟨tf,a,h⟩:=c;have c:=bind_some h;clear h;obtain ⟨L,l,h⟩:=c;obtain ⟨rfl,rfl,rfl⟩:=aG h;obtain ⟨M,K,I,a⟩:=bQ k a;rw [A.d_eq] at s;obtain ⟨fields,rfl,rfl⟩:=t_ s;simp only [φ,Ξ] at p;obtain ⟨y,n,u⟩:=p;simp only [Prod.mk.injEq] at u;obtain ⟨rfl,rfl,hs⟩:=u;simp only [VR] at j;obtain ⟨vs,rfl,j⟩:=j;obtain ⟨us,F,D,C⟩:=nO false j tf.lks y.offset hbs;obtain ⟨cv,B,E⟩:=Dn (w:=w) a F D C l;have e:fields[f]? =some y:=by simpa using n
  refine ⟨rfl,cv, ?_,E⟩;simp [Instr.field,run_underlying A.und,e,asAgg,B]
 ·cases h
theorem Ru (s:List UInt8) (i:Nat) (h:i<s.length):(⟨s.toArray⟩:ByteArray)[i]? =some (s.getD i 0):=by
 have hs:i<(⟨s.toArray⟩:ByteArray).size:=by simpa [ByteArray.size] using h
 rw [getElem?_pos _ i hs];simp only [ByteArray.getElem_eq_getElem_data,List.getElem_toArray];rw [γ,δ h];rfl
theorem GH (r:di P ap) {t:Nat} {D:TI} {i:TypeInfo} {d:TypeDesc} {z:Value} (o:v_ P t D i d z) {x F v:AV} {C G:Value} (j:VR g m S x C) (H:VR g m S F G) {ups:List (Nat × az)} {bs:List Bool}
  (h:KZ ap D x F=some (v,ups,bs)) (hbs:∀ b ∈ bs,b=true):ups= []∧∃ cv,(Instr.index t C G).run P w= .ok cv w∧VR g m S v cv:=by
 unfold KZ at h;have l:=bind_some h;clear h;obtain ⟨n,K,h⟩:=l;obtain ⟨k,rfl⟩:=zq H K;split at h
 ·rename_i s c;obtain ⟨rfl,rfl,rfl⟩:=aG h;obtain ⟨y,f⟩:=bH hbs;obtain ⟨f,_⟩:=bH f;obtain ⟨h0,B,E⟩:=lS y f;rw [o.d_eq] at c;have c:=vX c;subst c;simp only [VR,PR] at j;subst j;refine ⟨rfl,.int .u8 (s.getD n.toNat 0).toNat, ?_,by simp only [VR,PR]⟩;simp [Instr.index,asIntOf,run_underlying o.und,h0,Ru s n.toNat E]
 ·rename_i len e cs c;have l:=bind_some h;clear h;obtain ⟨A,a,h⟩:=l;have l:=bind_some h;clear h;obtain ⟨Q,u,h⟩:=l;obtain ⟨rfl,rfl,rfl⟩:=aG h;obtain ⟨R,O,N,a⟩:=bQ r a;obtain ⟨y,f⟩:=bH hbs;obtain ⟨f,L⟩:=bH f;obtain ⟨h0,B,E⟩:=lS y f;rw [o.d_eq] at c;have c:=xJ c;subst c;simp only [VR] at j;obtain ⟨vs,rfl,j⟩:=j;obtain ⟨us,M,J,I⟩:=nO true j A.lks (n.toNat*A.size) L;obtain ⟨cv,p,q⟩:=Dn (w:=w) a M J I u;refine ⟨rfl,cv, ?_,q⟩;simp [Instr.index,asIntOf,run_underlying o.und,h0,B,jk a,p]
 ·cases h
end
end AM
namespace AM
open Go
section
variable {P:Program} {ap:AP} {g:bD} {m:aB} {S:au} {w:World}
def AU (g:bD) (m:aB) (S:au) (x:Option AV) (c:Option Value):Prop:=
 match x,c with
 |none,none=>True
 |some x,some c=>VR g m S x c
 |_,_=>False
theorem fG {x:Option AV} {c:Option Value} (h:AU g m S x c) {d n:Int} (a:lW x d=some n):(x=none∧c=none∧n=d)∨∃ k,c=some (.int k n):=by
 cases x with
 |none=>cases c with
  |none=>simp [lW] at a;exact .inl ⟨rfl,rfl,a.symm⟩
  |some c=>simp [AU] at h
 | some x=>cases c with
  |none=>simp [AU] at h
  |some c=>
   cases x<;>simp [lW] at a
   subst a;simp only [AU,VR,PR] at h;subst h;exact .inr ⟨_,rfl⟩
theorem qh (P:Program) (w:World) (d:Bool) (len cap:Nat) (b c:Option Value) (l h:Int)
  (hl:(b=none∧l=0)∨∃ k,b=some (.int k l)) (f:(c=none∧h=len)∨∃ k,c=some (.int k h)) (h0:0≤l) (h1:l≤h) (h2:h≤cap):
  (Instr.sliceBounds d len cap b c none).run P w= .ok (l.toNat,h.toNat,cap) w:=by
 have e:0≤h:=by omega
 rcases hl with ⟨rfl,rfl⟩|⟨k,rfl⟩<;>rcases f with ⟨rfl,rfl⟩|⟨j,rfl⟩
 ·simp [Instr.sliceBounds]
 ·simp [Instr.sliceBounds,Instr.sliceBound,asIntOf,h2,e]
 ·have a:l≤(len:Int):=h1;simp [Instr.sliceBounds,Instr.sliceBound,asIntOf,h0,a]
 ·simp [Instr.sliceBounds,Instr.sliceBound,asIntOf,h0,h2,e];intro i;omega
theorem IM (s:List UInt8) (l h:Nat):(⟨s.toArray⟩:ByteArray).extract l h=⟨((s.take h).drop l).toArray⟩:=by
 apply ByteArray.ext;rw [ByteArray.data_extract];apply Array.ext';simp [List.extract_eq_take_drop,List.drop_take]
theorem xG (s:List UInt8):(⟨s.toArray⟩:ByteArray).size=s.length:=by simp [ByteArray.size]
theorem iQ.drop {b o:Nat} {vs:List Value} (h:iQ S b o vs) (n:Nat):iQ S b (o+n) (vs.drop n):=by
 intro j u a;rw [Xxy] at a;rw [Xx9];exact h _ _ a
theorem iQ.take {b o:Nat} {vs:List Value} (h:iQ S b o vs) (n:Nat):iQ S b o (vs.take n):=by
 intro j u a;rw [Xxh] at a;split at a
 ·exact h _ _ a
 ·cases a
theorem Z7 {a b c:Bool} (h:∀ x ∈ [a,b,c],x=true):a=true∧b=true∧c=true:=⟨h a (by simp),h b (by simp),h c (by simp)⟩
theorem Eh {α:Type} (a:List α) (n:Nat):(a.take n).drop n= []:=by
 apply Xq5;simp;omega
theorem Hy (F:di P ap) {rd:bD} (L:∀ b B,rd b=some B→g b=some B) {t:Nat} {T:TI} {i:TypeInfo} {d:TypeDesc} {z:Value} (E:v_ P t T i d z)
  {x v:AV} {cx:Value} (hx:VR g m S x cx) {lo hi mx:Option AV} {clo chi cmx:Option Value} (hlo:AU g m S lo clo) (hhi:AU g m S hi chi) (hmx:AU g m S mx cmx)
  {ups:List (Nat × az)} {bs:List Bool} (h:L_ ap T rd x lo hi mx=some (v,ups,bs)) (hbs:∀ b ∈ bs,b=true):
  ups= []∧∃ cv,(Instr.sliceAt t cx clo chi cmx).run P w= .ok cv w∧VR g m S v cv:=by
 have p:mx=none→cmx=none:=by intro e;subst e;cases cmx<;>simp [AU] at hmx ⊢
 unfold L_ at h;split at h
 ·rename_i s k;have c:=bind_some h;clear h;obtain ⟨l,H,h⟩:=c;have c:=bind_some h;clear h;obtain ⟨u,G,h⟩:=c;obtain ⟨rfl,rfl,rfl⟩:=aG h;obtain ⟨r,y,C⟩:=Z7 hbs;have r:=of_decide_eq_true r;have y:=of_decide_eq_true y;have C:=of_decide_eq_true C;rw [E.d_eq] at k;have k:=vX k;subst k;simp only [VR,PR] at hx;subst hx;rw [p rfl];have D:=qh P w false s.length s.length clo chi l u ((fG hlo H).imp (fun h=> ⟨h.2.1,h.2.2⟩) id) ((fG hhi G).imp (fun h=> ⟨h.2.1,h.2.2⟩) id) r y C;refine ⟨rfl,.string ⟨((s.take u.toNat).drop l.toNat).toArray⟩, ?_,by simp only [VR,PR]⟩;rw [← IM];simp [Instr.sliceAt,Instr.slice,run_underlying E.und,xG,D]
 ·rename_i e X n nn k;have c:=bind_some h;clear h;obtain ⟨A,f,h⟩:=c;have c:=bind_some h;clear h;obtain ⟨l,H,h⟩:=c;have c:=bind_some h;clear h;obtain ⟨u,G,h⟩:=c;obtain ⟨rfl,rfl,rfl⟩:=aG h;obtain ⟨U,Q,O,f⟩:=bQ F f;obtain ⟨r,y,C⟩:=Z7 hbs;have r:=of_decide_eq_true r;have y:=of_decide_eq_true y;have C:=of_decide_eq_true C;rw [E.d_eq] at k;have k:=fB k;subst k;simp only [VR,PR] at hx;obtain ⟨a,cap,rfl,Z,q⟩:=hx;rw [p rfl];have D:=qh P w true n cap clo chi l u ((fG hlo H).imp (fun h=> ⟨h.2.1,h.2.2⟩) id) ((fG hhi G).imp (fun h=> ⟨h.2.1,h.2.2⟩) id) r y (by omega);refine ⟨rfl,.slice (if cap=l.toNat then a else a.map (·.add (l.toNat*A.size))) (u.toNat - l.toNat) (cap - l.toNat), ?_, ?_⟩
  ·simp [Instr.sliceAt,Instr.slice,run_underlying E.und,D,jk f]
  ·simp only [VR,PR];refine ⟨_,_,rfl,by omega, ?_⟩;rcases q with ⟨N,rfl,rfl,rfl⟩|⟨b,o,vs,rfl,hp,hs⟩
   ·refine .inl ⟨fun h=>N ?_,by simp,by omega,by omega⟩;split at h
    ·exact h
    ·simpa using h
   ·refine .inr ?_;by_cases I:cap=l.toNat
    ·refine ⟨b,o,[],by rw [if_pos I], ?_,fun j u h=>by simp at h⟩;have e:(X.take (u.toNat*A.size)).drop (l.toNat*A.size)= []:=by
      have:u.toNat=l.toNat:=by omega
      rw [this,Eh]
     rw [e];simp [a_]
    ·exact ⟨b,o+l.toNat*A.size,(vs.take (u.toNat*A.size)).drop (l.toNat*A.size),by rw [if_neg I];simp [Addr.add_mid],og _ (jo _ hp),(hs.take _).drop _⟩
 ·rename_i e b ver j n k;have c:=bind_some h;clear h;obtain ⟨A,f,h⟩:=c;have c:=bind_some h;clear h;obtain ⟨B,V,h⟩:=c;have c:=bind_some h;clear h;obtain ⟨l,H,h⟩:=c;have c:=bind_some h;clear h;obtain ⟨u,G,h⟩:=c;split at h
  ·rename_i I;simp only [ε] at I;obtain ⟨rfl,rfl,rfl⟩:=aG h;obtain ⟨U,Q,O,f⟩:=bQ F f;obtain ⟨r,y,C⟩:=Z7 hbs;have r:=of_decide_eq_true r;have y:=of_decide_eq_true y;have C:=of_decide_eq_true C;rw [E.d_eq] at k;have k:=fB k;subst k;simp only [VR] at hx;obtain ⟨B',J,Y,_,q⟩:=hx;have M:=L b B V;rw [M] at J;cases J;obtain ⟨o,rfl,N,W,R⟩:=q (aA I.1);have K:=aA I.2;rw [p rfl];have D:=qh P w true n ((m b).2 - j) clo chi l u ((fG hlo H).imp (fun h=> ⟨h.2.1,h.2.2⟩) id) ((fG hhi G).imp (fun h=> ⟨h.2.1,h.2.2⟩) id) r y (by omega);refine ⟨rfl,.slice (if (m b).2 - j=l.toNat then some ⟨(m b).1,o,none⟩ else some ⟨(m b).1,o+l.toNat*A.size,none⟩) (u.toNat - l.toNat) ((m b).2 - j - l.toNat), ?_, ?_⟩
   ·simp [Instr.sliceAt,Instr.slice,run_underlying E.und,D,jk f,Addr.add_mid]
   ·simp only [VR];refine ⟨B,M,Y,(by split<;>exact ⟨_,_,_,rfl⟩),fun _=> ?_⟩;by_cases hcl:(m b).2 - j=l.toNat
    ·exact ⟨o,by rw [if_pos hcl];congr 1;omega,by omega,fun h=>by omega,R⟩
    ·refine ⟨o+l.toNat*A.size,by rw [if_neg hcl];congr 1;omega,by omega,fun h=> ?_,R⟩;rw [W (by omega),K,Xzb]
  ·cases h
 ·rename_i e k;have c:=bind_some h;clear h;obtain ⟨A,f,h⟩:=c;have c:=bind_some h;clear h;obtain ⟨l,H,h⟩:=c;have c:=bind_some h;clear h;obtain ⟨u,G,h⟩:=c;obtain ⟨rfl,rfl,rfl⟩:=aG h;obtain ⟨U,Q,O,f⟩:=bQ F f;have r:=of_decide_eq_true (hbs (decide (l=0)) (by simp));have y:=of_decide_eq_true (hbs (decide (u=0)) (by simp));subst r;subst y;rw [E.d_eq] at k;have k:=fB k;subst k;simp only [VR,PR] at hx;subst hx;rw [p rfl];have D:=qh P w true 0 0 clo chi 0 0 ((fG hlo H).imp (fun h=> ⟨h.2.1,h.2.2⟩) id) ((fG hhi G).imp (fun h=> ⟨h.2.1,h.2.2⟩) id) (by omega) (by omega) (by omega);refine ⟨rfl,.slice none 0 0, ?_,by simp only [VR,PR]⟩;simp at D;simp [Instr.sliceAt,Instr.slice,run_underlying E.und,D,jk f]
 ·cases h
theorem Ld {x v:AV} {l:Value} (f:VR g m S x l) {t:Nat} {o:TI} {i:TypeInfo} {d:TypeDesc} {z:Value} (k:v_ P t o i d z)
  {ups:List (Nat × az)} {bs:List Bool} (h:aaQ o.d x=some (v,ups,bs)) (ats:Array TypeId) (hat:ats[0]? =some t) (args:Array Value) (ha:args[0]? =some l) (ty:Nat):
  ups= []∧∃ cv,(Builtin.len_ ats ty args).run P w= .ok cv w∧VR g m S v cv:=by
 unfold aaQ at h;rw [k.d_eq] at h;split at h
 ·rename_i n e c;obtain ⟨rfl,rfl,rfl⟩:=aG h;have c:=xJ c;subst c;exact ⟨rfl,.int .i64 n,by simp [Builtin.len_,hat,ha,run_underlying k.und,goInt],by simp only [VR,PR]⟩
 ·rename_i s c;obtain ⟨rfl,rfl,rfl⟩:=aG h;have c:=vX c;subst c;simp only [VR,PR] at f;subst f;exact ⟨rfl,.int .i64 s.length,by simp [Builtin.len_,hat,ha,run_underlying k.und,goInt,xG],by simp only [VR,PR]⟩
 ·rename_i e p n nn c;obtain ⟨rfl,rfl,rfl⟩:=aG h;have c:=fB c;subst c;simp only [VR,PR] at f;obtain ⟨a,cap,rfl,_⟩:=f;exact ⟨rfl,.int .i64 n,by simp [Builtin.len_,hat,ha,run_underlying k.und,goInt],by simp only [VR,PR]⟩
 ·rename_i e b ver j n c;obtain ⟨rfl,rfl,rfl⟩:=aG h;have c:=fB c;subst c;simp only [VR] at f;obtain ⟨_,_,_,⟨_,_,cap,rfl⟩,_⟩:=f;exact ⟨rfl,.int .i64 n,by simp [Builtin.len_,hat,ha,run_underlying k.und,goInt],by simp only [VR,PR]⟩
 ·rename_i e c;obtain ⟨rfl,rfl,rfl⟩:=aG h;have c:=fB c;subst c;simp only [VR,PR] at f;subst f;exact ⟨rfl,.int .i64 0,by simp [Builtin.len_,hat,ha,run_underlying k.und,goInt],by simp only [VR,PR]⟩
 ·cases h
theorem vY (s:List UInt8):(⟨s.toArray⟩:ByteArray).toList=s:=by rw [ByteArray.toList_eq]
theorem wF:∀ a b:List UInt8,Op.bytesLess a b=kT a b
 |_,[]=>by simp [Op.bytesLess,kT]
 | [],_::_=>by simp [Op.bytesLess,kT]
 |a::x,b::y=>by simp only [Op.bytesLess,kT,wF x y]
def qF:LK→Value→Value→Option Bool
 | .int k,.int k1 a,.int k2 b=>match gJ k k1 && gJ k k2 with|true=>some (a==b)|false=>none
 | .bool,.bool a,.bool b=>some (a==b)
 | .str,.string a,.string b=>some (a.toList==b.toList)
 |_,_,_=>none
def dC:List LK→List Value→List Value→Option Bool
 | [],[],[]=>some true
 |k::ks,a::as,b::bs=>(qF k a b).bind fun c=>(dC ks as bs).map fun d=>c && d
 |_,_,_=>none
theorem pG:∀ (l l':List LK) (xs ys:List Value) (r:Bool),dC (l++l') xs ys=some r→
  ∃ a b,dC l (xs.take l.length) (ys.take l.length)=some a∧dC l' (xs.drop l.length) (ys.drop l.length)=some b∧r=(a && b)
 | [],l',xs,ys,r,h=> ⟨true,r,by simp [dC],by simpa using h,by simp⟩
 |k::l,l',[],_,r,h=>by simp [dC] at h
 |k::l,l',_::_,[],r,h=>by simp [dC] at h
 |k::l,l',x::xs,y::ys,r,h=>by
  simp only [Xqz,dC] at h;obtain ⟨c,e,h⟩:=bind_some h;rw [Ξ] at h;obtain ⟨d,f,rfl⟩:=h;obtain ⟨a,b,i,j,rfl⟩:=pG l l' xs ys d f;exact ⟨c && a,b,by simp [dC,e,i],by simpa using j,by simp [Bool.and_assoc]⟩
theorem nU:∀ (l:List LK) (xs ys:List Value) (r:Bool),dC l xs ys=some r→xs.length=l.length∧ys.length=l.length
 | [],[],[],_,_=> ⟨rfl,rfl⟩
 |k::l,x::xs,y::ys,r,h=>by
  simp only [dC] at h;obtain ⟨c,_,h⟩:=bind_some h;rw [Ξ] at h;obtain ⟨d,a,_⟩:=h;have:=nU l xs ys d a;simp [this.1,this.2]
 | [],_::_,_,_,h=>by simp [dC] at h
 | [],[],_::_,_,h=>by simp [dC] at h
 |_::_,[],_,_,h=>by simp [dC] at h
 |_::_,_::_,[],_,h=>by simp [dC] at h
def sK (P:Program) (t:TypeId) (xs:List Value):Value:=match P.underlying t with
 |some (.struct _)=> .agg xs.toArray
 |_=>xs.headD undef
def XF (P:Program) (n:Nat) (t:TypeId) (lks:List LK):Prop:=
 ∀ (d:Nat) (w:World) (xs ys:List Value) (r:Bool),n≤d→dC lks xs ys=some r→(Op.equalIn d t (sK P t xs) (sK P t ys)).run P w= .ok r w
theorem sF {t:TypeId} {lks:List LK} {n:Nat} (f:iJ P n t=some lks) {i:TypeInfo} (k:P.info? t=some i) (hs:i.size=lks.length) (c:List Value) (a:Nat) (o:a+lks.length≤c.length) (w:World):
  (part t c.toArray a).run P w= .ok (sK P t ((c.drop a).take lks.length)) w:=by
 cases n with
 |zero=>simp [iJ] at f
 | succ n=>
  unfold iJ at f;cases h:P.underlying t with
  |none=>simp [h] at f
  | some d=>
   have b:(isAgg t).run P w= .ok d.isRow w:=by
    unfold isAgg;rw [Sem.run_bind,run_underlying h w];cases d<;>simp [TypeDesc.isRow]
   cases d<;>simp only [h] at f<;>try cases f
   case struct fs=>
    simp only [TypeDesc.isRow] at b;simp [part,b,Go.sizeOf,typeInfo,k,hs,sK,h]
   all_goals
    simp only [TypeDesc.isRow] at b;simp only [τ,Xqf,Φ] at o;have j:c[a]? =some (c[a]'(by omega)):=δ (by omega);simp only [part,Sem.run_bind,b,Result.andThen_ok,Bool.false_eq_true,if_false,sK,h];have e:((c.drop a).take [LK.str].length).headD undef=c[a]'(by omega):=by
     rw [Xwb,List.head?_take,Xv2,j];simp
    have l:(c.toArray)[a]? =some (c[a]'(by omega)):=by simp
    rw [l]
    first|exact congrArg (fun v=>Result.ok v w) e.symm|(simp only [τ,Xqf] at e ⊢;exact congrArg (fun v=>Result.ok v w) e.symm)
theorem qI {n:Nat} (s:∀ t lks,iJ P n t=some lks→XF P n t lks):∀ (fs:List Field) (off:Nat) (lks:List LK),wJ P (iJ P n) fs off=some lks→
  ∀ (d:Nat) (w:World) (xs ys:List Value) (r:Bool),n≤d→xs.length=off+lks.length→ys.length=off+lks.length→dC lks (xs.drop off) (ys.drop off)=some r→
   (Op.eqFields d xs.toArray ys.toArray fs).run P w= .ok r w
 | [],off,lks,hc,d,w,xs,ys,r,hd,hx,hy,h=>by
  simp [wJ] at hc;subst hc;have y:xs.drop off= []:=Xq5 (by simp at hx;omega);have z:ys.drop off= []:=Xq5 (by simp at hy;omega);rw [y,z] at h;simp [dC] at h;subst h;simp [Op.eqFields]
 | f ::fs,off,lks,hc,d,w,xs,ys,r,hd,hx,hy,h=>by
  simp only [wJ] at hc;cases j:iJ P n f.type with
  |none=>simp [j] at hc
  | some l=>
   simp only [j] at hc;split at hc
   ·rename_i hcond;simp only [ε,Xqe] at hcond;obtain ⟨⟨u,p⟩,c⟩:=hcond;cases q:wJ P (iJ P n) fs (off+l.length) with
    |none=>simp [q] at hc
    | some l'=>
     simp only [q] at hc;cases hc;cases k:P.info? f.type with
     |none=>simp [k] at c
     |some i=>
      simp only [k] at c;have c:=aA c;have p:=aA p;have o:f.name ≠ "_" :=by intro e;rw [e] at u;exact absurd u (by decide)
      simp only [List.length_append] at hx hy;obtain ⟨a,b,C,D,rfl⟩:=pG l l' _ _ r h;have x:=sF j k c xs off (by omega) w;have v:=sF j k c ys off (by omega) w;have B:=s f.type l j d w _ _ a hd C;have A:=qI s fs (off+l.length) l' q d w xs ys b hd (by omega) (by omega) (by simpa [List.drop_drop,Nat.add_comm] using D);simp only [Op.eqFields,o,ne_eq,not_false_eq_true,if_true,Sem.run_bind,p,x,v,B,Result.andThen_ok];cases a
      ·simp
      ·simpa using A
   ·cases hc
theorem BG : ∀ (n:Nat) (t:TypeId) (lks:List LK),iJ P n t=some lks→XF P n t lks
  |0,_,_,h=>by simp [iJ] at h
  | n + 1,t,lks,h=>by
    intro d w p o r s b;obtain ⟨d,rfl⟩:∃ k,d=k+1:=⟨d - 1,by omega⟩
    have j:=nU _ _ _ _ b;unfold iJ at h;cases a:P.underlying t with
    |none=>simp [a] at h
    | some ds=>
      cases ds<;>simp only [a] at h<;>try cases h
      case struct fs=>
        split at h
        · cases h
        · rename_i q;have i:P.fieldsOf t=fs:=by simp [Program.fieldsOf,a]
          have e:=run_equalIn_struct (P:=P) w d t p.toArray o.toArray (by rw [i];exact a) q;simp only [sK,a];rw [e,i];exact qI (BG n) fs.toList 0 lks h d w p o r (by omega) (by simp [j.1]) (by simp [j.2]) (by simpa using b)
      all_goals
        simp only [τ,Xqf,Φ] at j
        match p,o,j,b with
        | [x], [y],_,b=>
          simp only [dC,Option.map_some,Bool.and_true] at b;obtain ⟨c,f,b⟩:=bind_some b;cases b;simp only [sK,a,List.headD_cons];cases x<;>cases y<;>simp [qF] at f
          first
            | (split at f
               · rename_i l;simp only [ε] at l;obtain rfl:=eY l.1;obtain rfl:=eY l.2;cases f;exact run_equalIn_int (P:=P) w d t _ _ _ _ a
               · cases f)
            |(subst f;rw [run_equalIn_bool' (P:=P) w d t _ _ a])
            |(subst f;rw [run_equalIn_string (P:=P) w d t _ _ a])
end
end AM
namespace AM
open Go
section
variable {P:Program} {ap:AP} {g:bD} {m:aB} {S:au} {w:World}
theorem abI {d:TypeDesc} (h:iZ P (some d)= .ptr):∃ e,d= .pointer e:=by cases d<;>simp [iZ] at h;exact ⟨_,rfl⟩
theorem Xv {d:TypeDesc} (h:iZ P (some d)= .func):∃ a b c,d= .func a b c:=by cases d<;>simp [iZ] at h;exact ⟨_,_,_,rfl⟩
theorem U7 {d:TypeDesc} (h:iZ P (some d)= .iface):∃ e,d= .interface e:=by cases d<;>simp [iZ] at h;exact ⟨_,rfl⟩
theorem Wv {a b:LK} (h:aaS a b=true):a=b:=by
 cases a<;>cases b<;>simp [aaS] at h
 ·rw [eY h]
 ·rfl
 ·rfl
theorem CU:∀ {a b:List LK},E8 a b=true→a=b
 | [],[],_=>rfl
 |_::_,_::_,h=>by simp only [E8,ε] at h;rw [Wv h.1,CU h.2]
 | [],_::_,h=>by simp [E8] at h
 |_::_,[],h=>by simp [E8] at h
theorem KL {k:LK} {a b:AV} {r:Bool} (h:KJ k a b=some r) {x y:Value} (d:VR g m S a x) (c:VR g m S b y):qF k x y=some r:=by
 unfold KJ at h;split at h
 ·simp only [VR,PR] at d c;subst d;subst c;split at h
  ·rename_i e;cases h;simp [qF,e]
  ·cases h
 ·simp only [VR,PR] at d c;subst d;subst c;simpa [qF] using h
 ·simp only [VR,PR] at d c;subst d;subst c;simpa [qF,vY] using h
 ·cases h
theorem uH:∀ {ks:List LK} {as bs:List AV} {r:Bool} {xs ys:List Value},jq ks as bs=some r→aS g m S as xs→aS g m S bs ys→dC ks xs ys=some r
 | [],[],[],r,xs,ys,h,ha,hb=>by
  cases xs<;>cases ys<;>simp [aS] at ha hb
  simpa [jq,dC] using h
 |k::ks,a::as,b::bs,r,x::xs,y::ys,h,ha,hb=>by
  simp only [jq] at h;obtain ⟨c,e,h⟩:=bind_some h;rw [Ξ] at h;obtain ⟨d,f,rfl⟩:=h;simp only [aS] at ha hb;simp [dC,KL e ha.1 hb.1,uH f ha.2 hb.2]
 | [],_::_,_,_,_,_,h,_,_=>by simp [jq] at h
 | [],[],_::_,_,_,_,h,_,_=>by simp [jq] at h
 |_::_,[],_,_,_,_,h,_,_=>by simp [jq] at h
 |_::_,_::_,[],_,_,_,h,_,_=>by simp [jq] at h
 |_::_,_::_,_::_,_,[],_,_,ha,_=>by simp [aS] at ha
 |_::_,_::_,_::_,_,_::_,[],_,_,hb=>by simp [aS] at hb
theorem xK (c:di P ap) {t:Nat} {b:TI} (h:ap.tyAt t=some b):b.cmp=VM P t∧b.lks=E9 P 8 t:=by
 have a:=c.ty t b h;unfold U9 at a;split at a
 ·split at a
  ·cases a;exact ⟨rfl,rfl⟩
  ·cases a
 ·cases a
theorem gQ (op:BinOp) (t:TypeId) (x y:Operand) (a b:Value) (c:¬ (a= .nilIface∧b= .nilIface)) (d:∀ xs ys,¬ (a= .agg xs∧b= .agg ys)):(eqGuard op t x y a b).run P w= .ok () w:=by
 unfold eqGuard;cases op<;>simp only [Sem.run_ite,Sem.run_pure]<;>try (simp;done)
 all_goals
  simp;split
  ·exact absurd ⟨rfl,rfl⟩ c
  ·exact absurd ⟨rfl,rfl⟩ (d _ _)
  ·rfl
def N8 (op:BinOp) (r:Bool):Bool:=match op with| .neq=> !r|_=>r
theorem tC {t:Nat} {a b:Value} {r:Bool} {x y:Operand} (e:∀ op,(eqGuard op t x y a b).run P w= .ok () w) (h:∀ d,(Op.equalIn (d+1) t a b).run P w= .ok r w)
  (h1:binOp .eql t a b=(do pure (.bool (← Op.equal t a b)))) (h2:binOp .neq t a b=(do pure (.bool (!(← Op.equal t a b))))) {op:BinOp} (hop:op=BinOp.eql∨op=BinOp.neq):
  (do eqGuard op t x y a b;binOp op t a b:Sem Value).run P w= .ok (.bool (N8 op r)) w:=by
 have c:(Op.equal t a b).run P w= .ok r w:=h 9999;rcases hop with rfl|rfl
 ·rw [Sem.run_bind,e,Result.andThen_ok,h1,Sem.run_bind,c];rfl
 ·rw [Sem.run_bind,e,Result.andThen_ok,h2,Sem.run_bind,c];rfl
theorem EQ (v:di P ap) {t:Nat} {M:TI} (A:ap.tyAt t=some M) {a b:AV} {F D:Value} (k:VR g m S a F) (j:VR g m S b D) {r:Bool} (h:eqA M a b=some r) (K:∀ x ∈ C9 a b,x=true) (x y:Operand):
  ∀ op,op=BinOp.eql∨op=BinOp.neq→(do eqGuard op t x y F D;binOp op t F D:Sem Value).run P w= .ok (.bool (N8 op r)) w:=by
 obtain ⟨i,d,z,u⟩:=bQ v A;intro op f;unfold eqA at h;split at h
 case h_2 fs xs ys s=>
  split at h
  ·rename_i c;rw [(xK v A).1] at c;rw [(xK v A).2] at h;simp only [VR] at k j;obtain ⟨vs,rfl,k⟩:=k;obtain ⟨us,rfl,j⟩:=j;have L:=uH h k j;unfold VM at c;cases I:iJ P 8 t with
   |none=>simp [I] at c
   |some l=>
    simp only [I,ε,Xqe] at c;have G:=CU c.1;rw [← G] at L;have C:=BG 8 t l I 10000 w vs us r (by omega) L;rw [u.d_eq] at s;obtain ⟨fields,rfl,_⟩:=t_ s;simp only [sK,u.und] at C;have J:=run_eqGuard_agg (P:=P) w op t x y vs.toArray us.toArray c.2;rcases f with rfl|rfl
    ·simp [J,run_eql_struct,C,N8]
    ·simp [J,run_neq_struct,C,N8]
  ·cases h
 all_goals try (cases h;done)
 all_goals
  rename_i s;rw [u.d_eq] at s
  try simp only [VR,PR] at k j
 all_goals cases h
 case h_1=>
  have s:=Xu s;subst s;subst k;subst j
  (refine tC (fun op=> ?_) (fun B=> ?_) rfl rfl f<;>first|exact gQ op t x y _ _ (by simp) (by simp)|exact run_equalIn_bool' (P:=P) w B t _ _ u.und)
 all_goals
  first
   |(obtain ⟨e,rfl⟩:=abI s)
   |(obtain ⟨e,rfl⟩:=U7 s)
   |(obtain ⟨Q,N,O,rfl⟩:=Xv s)
   |(have s:=fB s;subst s)
 case h_16 xs n nn=>
  subst j;obtain ⟨a,cap,rfl,H,q⟩:=k;rcases q with ⟨E,rfl,rfl,rfl⟩|⟨b,o,vs,rfl,_⟩
  ·cases a with
   |none=>
    cases E rfl;exact absurd (K _ (by simp [C9];rfl)) (by decide)
   |some p=>(refine tC (fun op=> ?_) (fun B=> ?_) rfl rfl f<;>first|exact gQ op t x y _ _ (by simp) (by simp)|simp [Op.equalIn,run_underlying u.und])
  ·(refine tC (fun op=> ?_) (fun B=> ?_) rfl rfl f<;>first|exact gQ op t x y _ _ (by simp) (by simp)|simp [Op.equalIn,run_underlying u.und])
 case h_17 xs n nn=>
  subst k;obtain ⟨a,cap,rfl,H,q⟩:=j;rcases q with ⟨E,rfl,rfl,rfl⟩|⟨b,o,vs,rfl,_⟩
  ·cases a with
   |none=>
    cases E rfl;exact absurd (K _ (by simp [C9];rfl)) (by decide)
   |some p=>(refine tC (fun op=> ?_) (fun B=> ?_) rfl rfl f<;>first|exact gQ op t x y _ _ (by simp) (by simp)|simp [Op.equalIn,run_underlying u.und])
  ·(refine tC (fun op=> ?_) (fun B=> ?_) rfl rfl f<;>first|exact gQ op t x y _ _ (by simp) (by simp)|simp [Op.equalIn,run_underlying u.und])
 all_goals
  try subst k
  try subst j
  try (obtain ⟨_,_,_,⟨_,_,rfl⟩,_⟩:=k)
  try (obtain ⟨_,_,_,⟨_,_,rfl⟩,_⟩:=j)
  try (obtain ⟨_,_,_,⟨_,_,_,rfl⟩,_⟩:=k)
  try (obtain ⟨_,_,_,⟨_,_,_,rfl⟩,_⟩:=j)
  try (obtain ⟨_,_,_,rfl,_⟩:=k)
  try (obtain ⟨_,_,_,rfl,_⟩:=j)
  try (obtain ⟨_,_,rfl,_⟩:=k)
  try (obtain ⟨_,_,rfl,_⟩:=j)
  try (obtain ⟨_,rfl,_⟩:=k)
  try (obtain ⟨_,rfl,_⟩:=j)
  (refine tC (fun op=> ?_) (fun B=> ?_) rfl rfl f<;>first|exact gQ op t x y _ _ (by simp) (by simp)|simp [Op.equalIn,run_underlying u.und])
end
end AM
namespace AM
open Go
section
variable {P:Program} {ap:AP} {g:bD} {m:aB} {S:au} {w:World}
theorem KA (a b:List UInt8):(⟨a.toArray⟩:ByteArray)++⟨b.toArray⟩=⟨(a++b).toArray⟩:=by
 apply ByteArray.ext;rw [ByteArray.data_append];simp
theorem KC (e:di P ap) {t:Nat} {s:TI} (f:ap.tyAt t=some s) {a b v:AV} {n l:Value} (d:VR g m S a n) (c:VR g m S b l) {op:BinOp} {ups:List (Nat × az)} {bs:List Bool}
  (h:aab op s a b=some (v,ups,bs)) (hbs:∀ x ∈ bs,x=true) (x y:Operand):
  ups= []∧∃ cv,(do eqGuard op t x y n l;binOp op t n l:Sem Value).run P w= .ok cv w∧VR g m S v cv:=by
 unfold aab at h;split at h
 ·rename_i k p u q;simp only [VR,PR] at d c;subst d;subst c;have i:(eqGuard op t x y (.int k p) (.int u q)).run P w= .ok () w:=gQ op t x y _ _ (by simp) (by simp);rw [Sem.run_bind,i,Result.andThen_ok];split at h
  ·obtain ⟨rfl,rfl,rfl⟩:=aG h;have h0:=of_decide_eq_true (hbs _ (List.mem_singleton.2 rfl));exact ⟨rfl,_,by simp [binOp,Op.shift,show ¬ q<0 by omega];rfl,by simp only [VR,PR]⟩
  ·obtain ⟨rfl,rfl,rfl⟩:=aG h;have h0:=of_decide_eq_true (hbs _ (List.mem_singleton.2 rfl));exact ⟨rfl,_,by simp [binOp,Op.shift,show ¬ q<0 by omega];rfl,by simp only [VR,PR]⟩
  ·split at h
   ·cases h
   ·rename_i j;have j:=eY j;subst j;split at h
    all_goals try (cases h;done)
    all_goals obtain ⟨rfl,rfl,rfl⟩:=aG h
    case h_4=>
     have h0:(q==0)=false:=by simpa using hbs _ (List.mem_singleton.2 rfl)
     have h0:¬ q=0:=by simpa using h0
     exact ⟨rfl,_,by simp [binOp,Op.intDiv,h0];rfl,by simp only [VR,PR]⟩
    case h_5=>
     have h0:(q==0)=false:=by simpa using hbs _ (List.mem_singleton.2 rfl)
     have h0:¬ q=0:=by simpa using h0
     exact ⟨rfl,_,by simp [binOp,Op.intDiv,h0];rfl,by simp only [VR,PR]⟩
    all_goals exact ⟨rfl,_,by simp only [binOp,Op.intArith,Op.intBits,Op.intCmp,ne_eq,not_true_eq_false,if_false];rfl,by simp only [VR,PR];first|done|rfl⟩
 ·rename_i p q;simp only [VR,PR] at d c;subst d;subst c;have i:(eqGuard op t x y (.string ⟨p.toArray⟩) (.string ⟨q.toArray⟩)).run P w= .ok () w:=gQ op t x y _ _ (by simp) (by simp);rw [Sem.run_bind,i,Result.andThen_ok];split at h
  all_goals try (cases h;done)
  all_goals obtain ⟨rfl,rfl,rfl⟩:=aG h
  case h_1=>
   have h0:=eG (hbs _ (List.mem_singleton.2 rfl));have z:¬ (IntKind.i64.max<((p.length+q.length:Nat):Int)):=by
    have:IntKind.i64.max=9223372036854775807:=by decide
    omega
   refine ⟨rfl,.string ⟨(p++q).toArray⟩, ?_,by simp only [VR,PR]⟩;simp only [binOp,Op.stringOp,xG,gt_iff_lt,z,if_false,KA,Sem.run_pure]
  all_goals
   refine ⟨rfl,_,rfl, ?_⟩;simp only [VR,PR,vY,wF]
 ·split at h
  ·obtain ⟨r,o,h⟩:=bind_some h;obtain ⟨rfl,rfl,rfl⟩:=aG h;exact ⟨rfl,_,EQ e f d c o hbs x y _ (.inl rfl),by simp only [VR,PR];rfl⟩
  ·obtain ⟨r,o,h⟩:=bind_some h;obtain ⟨rfl,rfl,rfl⟩:=aG h;exact ⟨rfl,_,EQ e f d c o hbs x y _ (.inr rfl),by simp only [VR,PR];rfl⟩
  ·cases h
theorem Qp {x v:AV} {b:Value} (a:VR g m S x b) {op:UnOp} {ups:List (Nat × az)} {bs:List Bool} (h:unA op x=some (v,ups,bs)):
  ups= []∧∃ cv,(Op.unary op b).run P w= .ok cv w∧VR g m S v cv:=by
 unfold unA at h;split at h
 ·obtain ⟨rfl,rfl,rfl⟩:=aG h;simp only [VR,PR] at a;subst a;exact ⟨rfl,_,rfl,by simp only [VR,PR]⟩
 ·obtain ⟨rfl,rfl,rfl⟩:=aG h;simp only [VR,PR] at a;subst a;exact ⟨rfl,_,rfl,by simp only [VR,PR]⟩
 ·cases h
theorem rH {f:AV→AV→Option AV} {F:Value→Value→Sem Value} (d:∀ a b c ca cb,VR g m S a ca→VR g m S b cb→f a b=some c→∃ cc,(F ca cb).run P w= .ok cc w∧VR g m S c cc):
  ∀ (l:List AV) (cl:List Value) (x v:AV) (cx:Value),aS g m S l cl→VR g m S x cx→IR f x l=some v→∃ cv,(cl.foldlM F cx).run P w= .ok cv w∧VR g m S v cv
 | [],[],x,v,cx,_,hx,h=>by simp [IR] at h;subst h;exact ⟨cx,by simp,hx⟩
 | y::r,cy::cr,x,v,cx,hl,hx,h=>by
  simp only [aS] at hl;simp only [IR] at h;split at h
  ·rename_i z k;obtain ⟨o,e,i⟩:=d _ _ _ _ _ hx hl.1 k;obtain ⟨cv,j,n⟩:=rH d r cr z v o hl.2 i h;exact ⟨cv,by simp [List.foldlM_cons,e,j],n⟩
  ·cases h
 | [],_::_,_,_,_,hl,_,_=>by simp [aS] at hl
 |_::_,[],_,_,_,hl,_,_=>by simp [aS] at hl
theorem Lm {a b c:AV} {f e:Value} (i:VR g m S a f) (d:VR g m S b e) (h:min2 a b=some c):∃ cc,(Builtin.min2 f e).run P w= .ok cc w∧VR g m S c cc:=by
 unfold min2 at h;split at h
 ·split at h
  ·cases h;simp only [VR,PR] at i d;subst i;subst d;exact ⟨_,rfl,by simp only [VR,PR]⟩
  ·cases h
 ·cases h
theorem Lj {a b c:AV} {f e:Value} (i:VR g m S a f) (d:VR g m S b e) (h:max2 a b=some c):∃ cc,(Builtin.max2 f e).run P w= .ok cc w∧VR g m S c cc:=by
 unfold max2 at h;split at h
 ·split at h
  ·cases h;simp only [VR,PR] at i d;subst i;subst d;exact ⟨_,rfl,by simp only [VR,PR]⟩
  ·cases h
 ·cases h
theorem PX {l:List AV} {cl:List Value} (a:aS g m S l cl) {v:AV} (h:yc min2 l=some v) (b:Array TypeId) (ty:Nat):∃ cv,(Builtin.min_ b ty cl.toArray).run P w= .ok cv w∧VR g m S v cv:=by
 cases l with
 |nil=>simp [yc] at h
 | cons x r=>cases cl with
  |nil=>simp [aS] at a
  |cons cx cr=>
   simp only [aS] at a;obtain ⟨cv,c,d⟩:=rH (P:=P) (w:=w) (F:=Builtin.min2) (fun _ _ _ _ _=>Lm) r cr x v cx a.2 a.1 h;exact ⟨cv,by simpa [Builtin.min_] using c,d⟩
theorem PW {l:List AV} {cl:List Value} (a:aS g m S l cl) {v:AV} (h:yc max2 l=some v) (b:Array TypeId) (ty:Nat):∃ cv,(Builtin.max_ b ty cl.toArray).run P w= .ok cv w∧VR g m S v cv:=by
 cases l with
 |nil=>simp [yc] at h
 | cons x r=>cases cl with
  |nil=>simp [aS] at a
  |cons cx cr=>
   simp only [aS] at a;obtain ⟨cv,c,d⟩:=rH (P:=P) (w:=w) (F:=Builtin.max2) (fun _ _ _ _ _=>Lj) r cr x v cx a.2 a.1 h;exact ⟨cv,by simpa [Builtin.max_] using c,d⟩
end
end AM
