/- The abstract machine over the code of the model, and the proof that it is sound. No conditions. -/
import Derived.WalkKit
import Derived.Deep.AppendSrc
import Derived.Deep.MidRow
import Derived.WalkLawsBesides
set_option linter.unusedSimpArgs false
set_option linter.unusedVariables false
namespace AM
open Go
inductive AV where
 | int (k : IntKind) (n : Int)
 | bool (b : Bool)
 | str (s : List UInt8)
 | agg (l : List AV)
 | tup (l : List AV)
 | nilS
 | sl (xs : List AV) (n : Nat) (nn : Bool)
 | ref (b ver i n : Nat)
 | own (xs : List AV) (n esz : Nat)
 | ptr (b ver off : Nat)
 | pp (xs : List AV) (off : Nat)
 | nilP
 | fn (f : Nat) (first cap : List AV)
 | nilF
 | ifc (t : Nat) (v : AV)
 | nilI
 | dead
inductive LK where
 | int (k : IntKind)
 | bool
 | str
 | sl
 | oth
inductive TD where
 | struct (fs : List (Nat × Nat × Nat))
 | array (n elem : Nat)
 | slice (elem : Nat)
 | int (k : IntKind)
 | str
 | bool
 | iface
 | ptr
 | func
 | oth
structure TI where
 d : TD
 size : Nat
 bytes : Nat
 zero : List AV
 lks : List LK
 cmp : Bool
structure AF where
 fn : Func
 keep : List Nat
 shared : Bool
inductive Tr (α : Type) where
 | nil
 | node (v : Option α) (l r : Tr α)
def Tr.get {α : Type} : Tr α → Nat → Option α
 | .nil, _ => none
 | .node v l r, n => match Nat.beq n 0 with
  | true => v
  | false => match Nat.beq (n % 2) 1 with
   | true => l.get ((n - 1) / 2)
   | false => r.get ((n - 1) / 2)
structure AP where
 nty : Nat
 ty : Tr TI
 nfn : Nat
 fn : Tr AF
 gl : List (Option (List AV))
structure Blk where
 cells : List AV
 ver : Nat
 fro : Bool
 fz : Nat
 esz : Nat
 pr : Bool
abbrev Env := List (Nat × AV)
abbrev Hp := List (Nat × Blk)
def look {α : Type} : List (Nat × α) → Nat → Option α
 | [], _ => none
 | (u, x) :: r, t => match Nat.beq u t with | true => some x | false => look r t
def mapO {α β : Type} (f : α → Option β) : List α → Option (List β)
 | [] => some []
 | x :: r => match f x with
  | some y => match mapO f r with | some l => some (y :: l) | none => none
  | none => none
def Env.get (e : Env) (t : Nat) : AV := (look e t).getD .dead
def AV.cells : AV → List AV
 | .agg l => l
 | x => [x]
def AV.toInt : AV → Int | .int _ n => n | _ => 0
def AV.toBool : AV → Bool | .bool b => b | _ => false
def AV.toStr : AV → List UInt8 | .str s => s | _ => []
def AV.slX : AV → List AV | .sl xs _ _ => xs | _ => []
def AV.slN : AV → Nat | .sl _ n _ => n | _ => 0
def kindNo : IntKind → Nat
 | .i8 => 0 | .i16 => 1 | .i32 => 2 | .i64 => 3 | .u8 => 4 | .u16 => 5 | .u32 => 6 | .u64 => 7
def sameKind (a b : IntKind) : Bool := Nat.beq (kindNo a) (kindNo b)
def chk : LK → AV → Bool
 | .int k, .int k' _ => sameKind k k'
 | .bool, .bool _ => true
 | .str, .str _ => true
 | .sl, .sl _ _ _ => true
 | .sl, .nilS => true
 | .oth, .dead => false
 | .oth, .agg _ => false
 | .oth, .tup _ => false
 | .oth, .own _ _ _ => false
 | .oth, _ => true
 | _, _ => false
def eta : LK → AV → AV
 | .int k, c => .int k c.toInt
 | .bool, c => .bool c.toBool
 | .str, c => .str c.toStr
 | .sl, c => .sl c.slX c.slN false
 | .oth, c => c
def leaf : AV → Bool
 | .dead | .agg _ | .tup _ | .own _ _ _ => false
 | _ => true
mutual
def refs : AV → List Nat
 | .ref b _ _ _ => [b]
 | .ptr b _ _ => [b]
 | .agg l => refsL l
 | .tup l => refsL l
 | .fn _ f c => refsL f ++ refsL c
 | .ifc _ v => refs v
 | _ => []
def refsL : List AV → List Nat
 | [] => []
 | x :: r => refs x ++ refsL r
end
mutual
def ren (ρ : Nat → Nat → Option (Nat × Nat)) : AV → AV
 | .ref b v i n => match ρ b v with | some (b', v') => .ref b' v' i n | none => .dead
 | .ptr b v o => match ρ b v with | some (b', v') => .ptr b' v' o | none => .dead
 | .agg l => .agg (renL ρ l)
 | .tup l => .tup (renL ρ l)
 | .fn f a c => .fn f (renL ρ a) (renL ρ c)
 | .ifc t v => .ifc t (ren ρ v)
 | x => x
def renL (ρ : Nat → Nat → Option (Nat × Nat)) : List AV → List AV
 | [] => []
 | x :: r => ren ρ x :: renL ρ r
end
def ofLit1 : Value → AV
 | .int k n => .int k n
 | .bool b => .bool b
 | .string s => .str s.data.toList
 | .pointer a => match a with | none => .nilP | some _ => .dead
 | .slice a n c => match a, n, c with | none, 0, 0 => .nilS | _, _, _ => .dead
 | .nilFunc => .nilF
 | .nilIface => .nilI
 | _ => .dead
def ofLit : Value → AV
 | .agg cs => .agg (cs.toList.map ofLit1)
 | .tuple vs => match vs.toList with | [] => .tup [] | _ => .dead
 | v => ofLit1 v
def AP.tyAt (ap : AP) (t : Nat) : Option TI := match Nat.blt t ap.nty with | true => ap.ty.get t | false => none
def AP.fnAt (ap : AP) (f : Nat) : Option AF := match Nat.blt f ap.nfn with | true => ap.fn.get f | false => none
def memN (l : List Nat) (a : Nat) : Bool := l.any (Nat.beq a)
def nodupN (l : List Nat) : List Nat := l.foldl (fun acc b => if memN acc b then acc else acc ++ [b]) []
abbrev OpR := Option (AV × List (Nat × Blk) × List Bool)
def pureR (v : AV) (bs : List Bool := []) : OpR := some (v, [], bs)
def readD (ty : Bool) : List LK → List AV → List AV
 | [], _ => []
 | k :: ks, ys => (match ty with | true => eta k (ys.headD .dead) | false => ys.headD .dead) :: readD ty ks ys.tail
def chkD (ty : Bool) : List LK → List AV → List Bool
 | [], _ => []
 | k :: ks, ys => (match ty with | true => chk k (ys.headD .dead) | false => chk .oth (ys.headD .dead)) :: chkD ty ks ys.tail
def readL (ty : Bool) (ks : List LK) (xs : List AV) (off : Nat) : List AV := readD ty ks (xs.drop off)
def chkL (ty : Bool) (ks : List LK) (xs : List AV) (off : Nat) : List Bool := chkD ty ks (xs.drop off)
def isAggTD : TD → Bool
 | .struct _ => true
 | .array _ _ => true
 | _ => false
def mkVal (ti : TI) (cs : List AV) : Option AV :=
 match isAggTD ti.d with
 | true => some (.agg cs)
 | false => match cs with | [c] => some c | _ => none
def loadA (ti : TI) (rd : Nat → Option Blk) (p : AV) : OpR :=
 match p with
 | .pp xs off => (mkVal ti (readL true ti.lks xs off)).bind fun v => pureR v (chkL true ti.lks xs off)
 | .ptr b ver off => (rd b).bind fun B => match Nat.beq B.ver ver with
  | true => (mkVal ti (readL (Nat.blt 0 B.esz && B.pr) ti.lks B.cells off)).bind fun v => pureR v (chkL (Nat.blt 0 B.esz && B.pr) ti.lks B.cells off)
  | false => none
 | _ => none
def setCells (xs : List AV) (off : Nat) (vs : List AV) : List AV := xs.take off ++ vs ++ xs.drop (off + vs.length)
def storeA (ti : TI) (rd : Nat → Option Blk) (p v : AV) : OpR :=
 match p with
 | .ptr b ver off => (rd b).bind fun B =>
  let vs := v.cells
  let rs := refsL vs
  match Nat.beq B.ver ver && !B.fro && Nat.beq vs.length ti.size && vs.all leaf with
  | true => some (.dead, [(b, { B with cells := setCells B.cells off vs, pr := B.pr && rs.isEmpty })], [Nat.ble (off + vs.length) B.cells.length])
  | false => none
 | _ => none
def newBlk (nid : Nat) (cells : List AV) (esz : Nat) : Nat × Blk := (nid, { cells, ver := 0, fro := false, fz := 0, esz, pr := (refsL cells).isEmpty })
def fillA (cells : List AV) : List (Nat × Nat × AV) → Option (List AV)
 | [] => some cells
 | (off, size, v) :: r => match Nat.beq v.cells.length size && Nat.ble (off + size) cells.length && v.cells.all leaf with
  | true => fillA (setCells cells off v.cells) r
  | false => none
def buildA (ap : AP) (ti : TI) (parts : List (Nat × AV)) : OpR :=
 match ti.d with
 | .struct fs => (mapO (fun (q : Nat × AV) => (fs[q.1]?).map fun (x : Nat × Nat × Nat) => (x.1, x.2.2, q.2)) parts).bind fun ps => (fillA ti.zero ps).bind fun cs => pureR (.agg cs)
 | .array _ e => (ap.tyAt e).bind fun te => (fillA ti.zero (parts.map fun (i, v) => (i * te.size, te.size, v))).bind fun cs => pureR (.agg cs)
 | _ => none
def repL (n : Nat) (z : List AV) : List AV := (List.replicate n z).flatten
def buildSliceA (ap : AP) (nid : Nat) (ti : TI) (len : Nat) (parts : List (Nat × AV)) : OpR :=
 match ti.d with
 | .slice e => (ap.tyAt e).bind fun te =>
  match Nat.blt 0 te.size && Nat.ble (len * te.size) (2 ^ 24) && Nat.beq te.zero.length te.size with
  | true => (fillA (repL len te.zero) (parts.map fun (i, v) => (i * te.size, te.size, v))).bind fun cs =>
   some (.ref nid 0 0 len, [newBlk nid cs te.size], [])
  | false => none
 | _ => none
def offA (p : AV) (o : Nat) : Option AV :=
 match p with
 | .ptr b v off => some (.ptr b v (off + o))
 | .pp xs off => some (.pp xs (off + o))
 | _ => none
def intAt (v : AV) : Option Int := match v with | .int _ n => some n | _ => none
def indexAddrA (ap : AP) (ti : TI) (rd : Nat → Option Blk) (x i : AV) : OpR :=
 (intAt i).bind fun i =>
 match ti.d with
 | .slice e => (ap.tyAt e).bind fun te =>
  match x with
  | .sl xs n _ => pureR (.pp xs (i.toNat * te.size)) [decide (0 ≤ i), decide (i < n)]
  | .ref b ver j n => (rd b).bind fun B => match Nat.beq B.ver ver && Nat.beq B.esz te.size with
   | true => pureR (.ptr b ver ((j + i.toNat) * te.size)) [decide (0 ≤ i), decide (i < n)]
   | false => none
  | _ => none
 | .array n e => (ap.tyAt e).bind fun te => (offA x (i.toNat * te.size)).bind fun p => pureR p [decide (0 ≤ i), decide (i < n)]
 | _ => none
def indexA (ap : AP) (ti : TI) (x i : AV) : OpR :=
 (intAt i).bind fun i =>
 match ti.d, x with
 | .str, .str s => pureR (.int .u8 (s.getD i.toNat 0).toNat) [decide (0 ≤ i), decide (i < s.length)]
 | .array n e, .agg cs => (ap.tyAt e).bind fun te =>
  (mkVal te (readL true te.lks cs (i.toNat * te.size))).bind fun v => pureR v (decide (0 ≤ i) :: decide (i < n) :: chkL true te.lks cs (i.toNat * te.size))
 | _, _ => none
def optInt (v : Option AV) (d : Int) : Option Int := match v with | none => some d | some (.int _ n) => some n | some _ => none
def sliceA (ap : AP) (ti : TI) (rd : Nat → Option Blk) (x : AV) (lo hi mx : Option AV) : OpR :=
 match ti.d, x, mx with
 | .str, .str s, none => (optInt lo 0).bind fun l => (optInt hi s.length).bind fun h =>
   pureR (.str ((s.take h.toNat).drop l.toNat)) [decide (0 ≤ l), decide (l ≤ h), decide (h ≤ s.length)]
 | .slice e, .sl xs n nn, none => (ap.tyAt e).bind fun te => (optInt lo 0).bind fun l => (optInt hi n).bind fun h =>
   pureR (.sl ((xs.take (h.toNat * te.size)).drop (l.toNat * te.size)) (h.toNat - l.toNat) nn) [decide (0 ≤ l), decide (l ≤ h), decide (h ≤ n)]
 | .slice e, .ref b ver j n, none => (ap.tyAt e).bind fun te => (rd b).bind fun B => (optInt lo 0).bind fun l => (optInt hi n).bind fun h =>
   match Nat.beq B.ver ver && Nat.beq B.esz te.size with
   | true => pureR (.ref b ver (j + l.toNat) (h.toNat - l.toNat)) [decide (0 ≤ l), decide (l ≤ h), decide (h ≤ n)]
   | false => none
 | .slice e, .nilS, none => (ap.tyAt e).bind fun _ => (optInt lo 0).bind fun l => (optInt hi 0).bind fun h => pureR .nilS [decide (l = 0), decide (h = 0)]
 | _, _, _ => none
def lenA (d : TD) (x : AV) : OpR :=
 match d, x with
 | .array n _, _ => pureR (.int .i64 n)
 | .str, .str s => pureR (.int .i64 s.length)
 | .slice _, .sl _ n _ => pureR (.int .i64 n)
 | .slice _, .ref _ _ _ n => pureR (.int .i64 n)
 | .slice _, .nilS => pureR (.int .i64 0)
 | _, _ => none
def srcA (size : Nat) (rd : Nat → Option Blk) (x : AV) : Option (List AV × Nat × Bool) :=
 match x with
 | .sl xs n _ => some (xs, n, true)
 | .nilS => some ([], 0, true)
 | .str s => some (s.map fun b => .int .u8 b.toNat, s.length, true)
 | .ref b ver j n => (rd b).bind fun B => match Nat.beq B.ver ver && Nat.beq B.esz size with
  | true => some ((B.cells.drop (j * size)).take (n * size), n, B.pr)
  | false => none
 | _ => none
def roomN : Nat := 2 ^ 40
def appendA (nid : Nat) (te : TI) (rd : Nat → Option Blk) (em : Bool) (s x : AV) : OpR :=
 (srcA te.size rd x).bind fun (xs, n, pr) =>
 match Nat.blt 0 te.size && Nat.ble te.bytes 128 with
 | false => none
 | true =>
 match s with
 | .nilS => match em with
  | true => pureR .nilS [Nat.beq xs.length (n * te.size)]
  | false => some (.ref nid 0 0 n, [(nid, ⟨xs, 0, false, 0, te.size, pr⟩)], [Nat.beq xs.length (n * te.size), Nat.ble n roomN])
 | .ref b ver 0 m => (rd b).bind fun B => match Nat.beq B.ver ver && Nat.beq B.esz te.size with
  | true => some (.ref b (ver + 1) 0 (m + n), [(b, { B with cells := B.cells.take (m * te.size) ++ xs, ver := ver + 1, pr := B.pr && pr })],
    [Nat.beq xs.length (n * te.size), Nat.ble (m + n) roomN, Nat.ble (m * te.size) B.cells.length, !B.fro || Nat.ble B.fz (m * te.size)])
  | false => none
 | _ => none
def countA : AV → Option Nat
 | .sl _ n _ => some n
 | .nilS => some 0
 | .str s => some s.length
 | .ref _ _ _ n => some n
 | _ => none
def emptyAsk (ρ : Operand → AV) (o : Op) : Option Nat :=
 match o with
 | .call { callee := .builtin .append, args, .. } => match args.toList with
  | [s, x] => match ρ s with
   | .nilS => countA (ρ x)
   | _ => none
  | _ => none
 | _ => none
def makeSliceA (ap : AP) (nid : Nat) (ti : TI) (l c : AV) : OpR :=
 match ti.d, l, c with
 | .slice e, .int _ l, .int _ c => (ap.tyAt e).bind fun te =>
  match Nat.blt 0 te.size && Nat.beq te.zero.length te.size && Nat.ble te.bytes 128 && (refsL te.zero).isEmpty with
  | true => some (.ref nid 0 0 l.toNat, [(nid, ⟨repL l.toNat te.zero, 0, false, 0, te.size, true⟩)], [decide (0 ≤ l), decide (l = c), decide (l ≤ 2 ^ 40)])
  | false => none
 | _, _, _ => none
def convertA (ap : AP) (ts td : TI) (rd : Nat → Option Blk) (x : AV) : OpR :=
 match ts.d, td.d, x with
 | _, .int k, .int _ n => pureR (.int k (k.wrap n))
 | .str, .str, .str s => pureR (.str s)
 | .slice e, .str, x => (ap.tyAt e).bind fun te => match te.d, x with
  | .int .u8, .str _ => none
  | .int .u8, x => (srcA 1 rd x).bind fun (xs, n, _) => pureR (.str (xs.map fun c => UInt8.ofNat c.toInt.toNat)) [Nat.beq xs.length n, xs.all (chk (.int .u8))]
  | _, _ => none
 | _, _, _ => none
def eqLeaf : LK → AV → AV → Option Bool
 | .int k, .int k1 a, .int k2 b => match sameKind k k1 && sameKind k k2 with | true => some (a == b) | false => none
 | .bool, .bool a, .bool b => some (a == b)
 | .str, .str a, .str b => some (a == b)
 | _, _, _ => none
def eqLeaves : List LK → List AV → List AV → Option Bool
 | [], [], [] => some true
 | k :: ks, a :: as, b :: bs => (eqLeaf k a b).bind fun c => (eqLeaves ks as bs).map fun d => c && d
 | _, _, _ => none
def eqA (ti : TI) (a b : AV) : Option Bool :=
 match ti.d, a, b with
 | .bool, .bool a, .bool b => some (a == b)
 | .struct _, .agg xs, .agg ys => match ti.cmp with | true => eqLeaves ti.lks xs ys | false => none
 | .ptr, .nilP, .nilP => some true
 | .ptr, .nilP, .ptr _ _ _ => some false
 | .ptr, .nilP, .pp _ _ => some false
 | .ptr, .ptr _ _ _, .nilP => some false
 | .ptr, .pp _ _, .nilP => some false
 | .iface, .nilI, .ifc _ _ => some false
 | .iface, .ifc _ _, .nilI => some false
 | .func, .nilF, .nilF => some true
 | .func, .nilF, .fn _ _ _ => some false
 | .func, .fn _ _ _, .nilF => some false
 | .slice _, .nilS, .nilS => some true
 | .slice _, .ref _ _ _ _, .nilS => some false
 | .slice _, .nilS, .ref _ _ _ _ => some false
 | .slice _, .sl _ _ _, .nilS => some false
 | .slice _, .nilS, .sl _ _ _ => some false
 | _, _, _ => none
def nilAsk (a b : AV) : List Bool :=
 match a, b with
 | .sl _ n false, .nilS => [Nat.blt 0 n]
 | .nilS, .sl _ n false => [Nat.blt 0 n]
 | _, _ => []
def bytesLt : List UInt8 → List UInt8 → Bool
 | _, [] => false
 | [], _ :: _ => true
 | a :: x, b :: y => decide (a < b) || (a == b && bytesLt x y)
def binA (op : BinOp) (ti : TI) (x y : AV) : OpR :=
 match x, y with
 | .int k a, .int k' b =>
  match op with
  | .shl => pureR (.int k (k.wrap (a * 2 ^ (min b.toNat k.bits)))) [decide (0 ≤ b)]
  | .shr => pureR (.int k (a.fdiv (2 ^ (min b.toNat k.bits)))) [decide (0 ≤ b)]
  | _ => match sameKind k k' with
   | false => none
   | true => match op with
    | .add => pureR (.int k (k.wrap (a + b)))
    | .sub => pureR (.int k (k.wrap (a - b)))
    | .mul => pureR (.int k (k.wrap (a * b)))
    | .quo => pureR (.int k (k.wrap (a.tdiv b))) [!(b == 0)]
    | .rem => pureR (.int k (a.tmod b)) [!(b == 0)]
    | .and => pureR (.int k (k.wrap (BitVec.ofInt k.bits a &&& BitVec.ofInt k.bits b).toNat))
    | .or => pureR (.int k (k.wrap (BitVec.ofInt k.bits a ||| BitVec.ofInt k.bits b).toNat))
    | .xor => pureR (.int k (k.wrap (BitVec.ofInt k.bits a ^^^ BitVec.ofInt k.bits b).toNat))
    | .eql => pureR (.bool (a == b))
    | .neq => pureR (.bool (!(a == b)))
    | .lss => pureR (.bool (decide (a < b)))
    | .leq => pureR (.bool (decide (a ≤ b)))
    | .gtr => pureR (.bool (decide (b < a)))
    | .geq => pureR (.bool (decide (b ≤ a)))
    | _ => none
 | .str a, .str b =>
  match op with
  | .add => pureR (.str (a ++ b)) [Nat.ble (a.length + b.length) 9223372036854775807]
  | .eql => pureR (.bool (a == b))
  | .neq => pureR (.bool (!(a == b)))
  | .lss => pureR (.bool (bytesLt a b))
  | .leq => pureR (.bool (bytesLt a b || a == b))
  | .gtr => pureR (.bool (!(bytesLt a b || a == b)))
  | .geq => pureR (.bool (!bytesLt a b))
  | _ => none
 | x, y =>
  match op with
  | .eql => (eqA ti x y).bind fun b => pureR (.bool b) (nilAsk x y)
  | .neq => (eqA ti x y).bind fun b => pureR (.bool (!b)) (nilAsk x y)
  | _ => none
def unA (op : UnOp) (x : AV) : OpR :=
 match op, x with
 | .not, .bool b => pureR (.bool (!b))
 | .neg, .int k n => pureR (.int k (k.wrap (0 - n)))
 | _, _ => none
def min2 (a b : AV) : Option AV := match a, b with | .int k x, .int k' y => (match sameKind k k' with | true => some (.int k (if y < x then y else x)) | false => none) | _, _ => none
def max2 (a b : AV) : Option AV := match a, b with | .int k x, .int k' y => (match sameKind k k' with | true => some (.int k (if y > x then y else x)) | false => none) | _, _ => none
def foldA (f : AV → AV → Option AV) : AV → List AV → Option AV
 | x, [] => some x
 | x, y :: r => match f x y with | some z => foldA f z r | none => none
def foldA1 (f : AV → AV → Option AV) : List AV → Option AV
 | [] => none
 | x :: r => foldA f x r
def assertA (ap : AP) (x : AV) (asserted : Nat) (commaOk : Bool) : OpR :=
 (ap.tyAt asserted).bind fun ti =>
 match ti.d with
 | .iface => none
 | _ => match x with
  | .ifc t v => match Nat.beq t asserted with
   | true => pureR (match commaOk with | true => .tup [v, .bool true] | false => v)
   | false => match commaOk with | true => (mkVal ti ti.zero).bind fun z => pureR (.tup [z, .bool false]) | false => none
  | .nilI => match commaOk with | true => (mkVal ti ti.zero).bind fun z => pureR (.tup [z, .bool false]) | false => none
  | _ => none
def fieldA (ap : AP) (ti : TI) (x : AV) (f : Nat) : OpR :=
 match ti.d, x with
 | .struct fs, .agg cs => (fs[f]?).bind fun (o, t, _) => (ap.tyAt t).bind fun tf =>
  (mkVal tf (readL false tf.lks cs o)).bind fun v => pureR v (chkL false tf.lks cs o)
 | _, _ => none
def blkOf : AV → List Nat
 | .ref b _ _ _ => [b]
 | .ptr b _ _ => [b]
 | _ => []
def readsA (ρ : Operand → AV) : Op → List Nat
 | .load _ a => blkOf (ρ a)
 | .store _ a _ => blkOf (ρ a)
 | .indexAddr _ x _ => blkOf (ρ x)
 | .slice _ x _ _ _ => blkOf (ρ x)
 | .convert _ _ x => blkOf (ρ x)
 | .call { callee := .builtin .append, args, .. } => nodupN (args.toList.flatMap fun x => blkOf (ρ x))
 | _ => []
def opA (ap : AP) (nid : Nat) (ρ : Operand → AV) (rd : Nat → Option Blk) (dec : Operand → Option Bool) (em : Bool) (o : Op) : OpR :=
 match o with
 | .move x => pureR (ρ x)
 | .assign x => pureR (ρ x)
 | .pick c a b => match dec c with
  | some true => pureR (ρ a)
  | some false => pureR (ρ b)
  | none => match ρ c, ρ a, ρ b with | .bool c, .bool x, .bool y => pureR (.bool (cond c x y)) | _, _, _ => none
 | .alloc e => (ap.tyAt e).bind fun te => match Nat.blt 0 te.size && te.zero.all leaf with | true => some (.ptr nid 0 0, [newBlk nid te.zero 0], []) | false => none
 | .box e x => (ap.tyAt e).bind fun te => let vs := (ρ x).cells
  match Nat.blt 0 te.size && vs.all leaf with | true => some (.ptr nid 0 0, [newBlk nid vs 0], []) | false => none
 | .build t parts => (ap.tyAt t).bind fun ti => buildA ap ti (parts.toList.map fun (i, x) => (i, ρ x))
 | .buildSlice t len parts => (ap.tyAt t).bind fun ti => buildSliceA ap nid ti len (parts.toList.map fun (i, x) => (i, ρ x))
 | .load t a => (ap.tyAt t).bind fun ti => loadA ti rd (ρ a)
 | .store t a x => (ap.tyAt t).bind fun ti => storeA ti rd (ρ a) (ρ x)
 | .nilCheck x => match ρ x with
  | .ptr b v o => pureR (.ptr b v o)
  | .pp xs o => pureR (.pp xs o)
  | .fn f a c => pureR (.fn f a c)
  | _ => none
 | .binOp op t x y _ => (ap.tyAt t).bind fun ti => binA op ti (ρ x) (ρ y)
 | .unOp op _ x => unA op (ρ x)
 | .convert s d x => (ap.tyAt s).bind fun ts => (ap.tyAt d).bind fun td => convertA ap ts td rd (ρ x)
 | .makeInterface t x => (ap.tyAt t).bind fun ti => match ti.d with | .iface => none | _ => pureR (.ifc t (ρ x))
 | .makeFunc (.func f) first cap => pureR (.fn f (first.toList.map ρ) (cap.toList.map ρ))
 | .makeSlice t l c => (ap.tyAt t).bind fun ti => makeSliceA ap nid ti (ρ l) (ρ c)
 | .slice t x lo hi mx => (ap.tyAt t).bind fun ti => sliceA ap ti rd (ρ x) (lo.map ρ) (hi.map ρ) (mx.map ρ)
 | .fieldAddr s x f => (ap.tyAt s).bind fun ti => match ti.d with
  | .struct fs => (fs[f]?).bind fun (o, _, sz) => match Nat.blt 0 sz with | true => (offA (ρ x) o).bind fun p => pureR p | false => none
  | _ => none
 | .field t x f => (ap.tyAt t).bind fun ti => fieldA ap ti (ρ x) f
 | .indexAddr t x i => (ap.tyAt t).bind fun ti => indexAddrA ap ti rd (ρ x) (ρ i)
 | .index t x i => (ap.tyAt t).bind fun ti => indexA ap ti (ρ x) (ρ i)
 | .typeAssert x _ asserted ok => assertA ap (ρ x) asserted ok
 | .extract t i => match ρ t with | .tup l => (l[i]?).bind fun v => pureR v | _ => none
 | .call { callee := .builtin b, args, argTypes } =>
  match b with
  | .len => (args[0]?).bind fun x => (argTypes[0]?).bind fun t => (ap.tyAt t).bind fun ti => lenA ti.d (ρ x)
  | .append => match args.toList, argTypes.toList with
   | [s, x], [t, t1] => (ap.tyAt t).bind fun ti => (ap.tyAt t1).bind fun ti1 => match ti.d, ti1.d, ρ x with
    | .slice e, .str, .str y => (ap.tyAt e).bind fun te => match Nat.beq te.size 1 with | true => appendA nid te rd em (ρ s) (.str y) | false => none
    | .slice _, .slice _, .str _ => none
    | .slice e, .slice _, y => (ap.tyAt e).bind fun te => appendA nid te rd em (ρ s) y
    | _, _, _ => none
   | _, _ => none
  | .min => (foldA1 min2 (args.toList.map ρ)).bind fun v => pureR v
  | .max => (foldA1 max2 (args.toList.map ρ)).bind fun v => pureR v
  | _ => none
 | _ => none
def lksOf (P : Program) : Nat → TypeId → List LK
 | 0, _ => [.oth]
 | n + 1, t => match P.underlying t with
  | some (.int k) => [.int k]
  | some .bool => [.bool]
  | some .string => [.str]
  | some (.slice _) => [.sl]
  | some (.struct fs) => fs.toList.flatMap fun f => lksOf P n f.type
  | some (.array m e) => (List.replicate m (lksOf P n e)).flatten
  | _ => [.oth]
def tdOf (P : Program) : Option TypeDesc → TD
 | some (.int k) => .int k
 | some .bool => .bool
 | some .string => .str
 | some (.slice e) => .slice e
 | some (.array n e) => .array n e
 | some (.struct fs) => .struct (fs.toList.map fun f => (f.offset, f.type, match P.info? f.type with | some i => i.size | none => 0))
 | some (.interface _) => .iface
 | some (.pointer _) => .ptr
 | some (.func _ _ _) => .func
 | _ => .oth
def cmpFs (P : Program) (f : TypeId → Option (List LK)) : List Field → Nat → Option (List LK)
 | [], _ => some []
 | x :: r, off => match f x.type with
  | some l => match !(x.name == "_") && Nat.beq x.offset off && (match P.info? x.type with | some i => Nat.beq i.size l.length | none => false) with
   | true => match cmpFs P f r (off + l.length) with | some l' => some (l ++ l') | none => none
   | false => none
  | none => none
def cmpOf (P : Program) : Nat → TypeId → Option (List LK)
 | 0, _ => none
 | n + 1, t => match P.underlying t with
  | some (.int k) => some [.int k]
  | some .bool => some [.bool]
  | some .string => some [.str]
  | some (.struct fs) => match P.stoodInHeld t with | true => none | false => cmpFs P (cmpOf P n) fs.toList 0
  | _ => none
def zAgg (i : TypeInfo) (d : TypeDesc) : Bool := match i.zero, d with
 | some (.agg _), .struct _ => true
 | some (.agg _), .array _ _ => true
 | some (.agg _), _ => false
 | some _, .struct _ => false
 | some _, .array _ _ => false
 | some _, _ => true
 | none, _ => false
def fldOk (P : Program) (d : TypeDesc) : Bool := match d with
 | .struct fs => fs.toList.all fun f => (P.info? f.type).isSome
 | _ => true
def zeroOf (i : TypeInfo) : List AV := match i.zero with | some z => z.cells.toList.map ofLit | none => []
def lkEq : LK → LK → Bool
 | .int a, .int b => sameKind a b
 | .bool, .bool => true
 | .str, .str => true
 | _, _ => false
def lksEq : List LK → List LK → Bool
 | [], [] => true
 | a :: r, b :: q => lkEq a b && lksEq r q
 | _, _ => false
def cmpT (P : Program) (t : TypeId) : Bool := match cmpOf P 8 t with | some l => lksEq l (lksOf P 8 t) && !P.eqGuardType P.depth t | none => false
def tiOf (P : Program) (t : TypeId) : Option TI :=
 match P.info? t, P.underlying t with
 | some i, some d =>
  match Nat.beq (lksOf P 8 t).length i.size && (zAgg i d && fldOk P d) && (zeroOf i).all leaf && Nat.beq (zeroOf i).length i.size && Nat.blt 0 i.size && i.zero.isSome with
  | true => some { d := tdOf P (some d), size := i.size, bytes := i.bytes, zero := zeroOf i, lks := lksOf P 8 t, cmp := cmpT P t }
  | false => none
 | _, _ => none
abbrev SMap := Nat → Nat → Option Value
def SLe (S S' : SMap) : Prop := ∀ k o v, S k o = some v → S' k o = some v
theorem SLe.refl (S : SMap) : SLe S S := fun _ _ _ h => h
theorem SLe.trans {S S' S'' : SMap} (h : SLe S S') (h' : SLe S' S'') : SLe S S'' := fun k o v e => h' k o v (h k o v e)
def Sealed (S : SMap) (b o : Nat) (vs : List Value) : Prop := ∀ j u, vs[j]? = some u → S b (o + j) = some u ∧ u.oneCell' = true
mutual
def PR (S : SMap) : AV → Value → Prop
 | .int k n, v => v = .int k n
 | .bool b, v => v = .bool b
 | .str s, v => v = .string ⟨s.toArray⟩
 | .agg l, v => ∃ vs, v = .agg vs.toArray ∧ PRL S l vs
 | .tup l, v => ∃ vs, v = .tuple vs.toArray ∧ PRL S l vs
 | .nilS, v => v = .slice none 0 0
 | .sl xs n nn, v => ∃ a cap, v = .slice a n cap ∧ n ≤ cap ∧ ((a = none ∧ nn = false ∧ xs = [] ∧ n = 0 ∧ cap = 0) ∨ ∃ b o vs, a = some ⟨b, o, none⟩ ∧ PRL S xs vs ∧ Sealed S b o vs)
 | .pp xs off, v => ∃ b o vs, v = .pointer (some ⟨b, o + off, none⟩) ∧ PRL S xs vs ∧ Sealed S b o vs
 | .nilP, v => v = .pointer none
 | .fn f a c, v => ∃ va vc, v = .func (.func f) va.toArray vc.toArray ∧ PRL S a va ∧ PRL S c vc
 | .nilF, v => v = .nilFunc
 | .ifc t x, v => ∃ u, v = .iface t u ∧ PR S x u
 | .nilI, v => v = .nilIface
 | .dead, _ => True
 | .ref _ _ _ _, _ => False
 | .ptr _ _ _, _ => False
 | .own _ _ _, _ => False
def PRL (S : SMap) : List AV → List Value → Prop
 | [], [] => True
 | x :: r, v :: vs => PR S x v ∧ PRL S r vs
 | _, _ => False
end
abbrev HpF := Nat → Option Blk
abbrev MapF := Nat → Nat × Nat
mutual
def VR (g : HpF) (m : MapF) (S : SMap) : AV → Value → Prop
 | .ref b ver i n, v => ∃ B, g b = some B ∧ ver ≤ B.ver ∧ (∃ k o c', v = .slice (some ⟨k, o, none⟩) n c') ∧ (B.ver = ver → ∃ o, v = .slice (some ⟨(m b).1, o, none⟩) n ((m b).2 - i) ∧ i + n ≤ (m b).2 ∧ (i < (m b).2 → o = i * B.esz) ∧ 0 < B.esz)
 | .ptr b ver off, v => ∃ B, g b = some B ∧ ver ≤ B.ver ∧ (∃ k o, v = .pointer (some ⟨k, o, none⟩)) ∧ (B.ver = ver → v = .pointer (some ⟨(m b).1, off, none⟩))
 | .agg l, v => ∃ vs, v = .agg vs.toArray ∧ VRL g m S l vs
 | .tup l, v => ∃ vs, v = .tuple vs.toArray ∧ VRL g m S l vs
 | .fn f a c, v => ∃ va vc, v = .func (.func f) va.toArray vc.toArray ∧ VRL g m S a va ∧ VRL g m S c vc
 | .ifc t x, v => ∃ u, v = .iface t u ∧ VR g m S x u
 | .int k n, v => PR S (.int k n) v
 | .bool b, v => PR S (.bool b) v
 | .str s, v => PR S (.str s) v
 | .nilS, v => PR S .nilS v
 | .sl xs n nn, v => PR S (.sl xs n nn) v
 | .pp xs off, v => PR S (.pp xs off) v
 | .nilP, v => PR S .nilP v
 | .nilF, v => PR S .nilF v
 | .nilI, v => PR S .nilI v
 | .dead, _ => True
 | .own _ _ _, _ => False
def VRL (g : HpF) (m : MapF) (S : SMap) : List AV → List Value → Prop
 | [], [] => True
 | x :: r, v :: vs => VR g m S x v ∧ VRL g m S r vs
 | _, _ => False
end
def Fits (x y : AV) : Prop := ∀ g m S v, VR g m S x v → VR g m S y v
inductive Hint where
 | v (d : Nat) (x : AV)
 | b (d : Nat) (xs : List AV)
inductive Out where
 | ret (v : AV)
 | pan (v : AV)
structure Cx where
 cl : Bool
 orc : List Bool
 bs : List Bool
 ps : List Prop
 ans : List (Out × List Blk)
 hs : List Hint
inductive R (α : Type) where
 | ok (a : α) (c : Cx)
 | need
 | bad (n : Nat)
def R.bind {α β : Type} (r : R α) (f : α → Cx → R β) : R β :=
 match r with
 | .ok a c => f a c
 | .need => .need
 | .bad n => .bad n
def lit (o b : Bool) : Bool := match o with | true => b | false => !b
def emit (c : Cx) (bs : List Bool) : R Unit :=
 match c.cl with
 | true => match bs.all id with | true => .ok () c | false => .bad 1
 | false => .ok () { c with bs := bs ++ c.bs }
def branch (c : Cx) (b : Bool) : R Bool :=
 match c.cl with
 | true => .ok b c
 | false => match c.orc with
  | [] => .need
  | o :: r => .ok o { c with orc := r, bs := lit o b :: c.bs }
def hintV (c : Cx) (dst : Option Nat) (v : AV) : AV × Cx :=
 match c.hs, dst with
 | .v d x :: r, some d' => match Nat.beq d d' with
  | true => (x, { c with hs := r, ps := Fits v x :: c.ps })
  | false => (v, c)
 | _, _ => (v, c)
def hintB (c : Cx) (dst : Option Nat) (ups : List (Nat × Blk)) : List (Nat × Blk) × Cx :=
 match c.hs, dst, ups with
 | .b d xs :: r, some d', [(b, B)] => match Nat.beq d d' with
  | true => ([(b, { B with cells := xs })], { c with hs := r, ps := (B.cells = xs) :: c.ps })
  | false => (ups, c)
 | _, _, _ => (ups, c)
abbrev Handler := Cx → AV → Nat → List AV → List Blk → R (Out × List Blk × AV)
def clos (rd : Nat → Option Blk) : Nat → List Nat → List Nat
 | 0, l => l
 | n + 1, l =>
  let more := l.flatMap fun b => match rd b with | some B => (match B.pr with | true => [] | false => refsL B.cells) | none => []
  let l' := more.foldl (fun acc b => if memN acc b then acc else acc ++ [b]) l
  match Nat.beq l'.length l.length with | true => l | false => clos rd n l'
def frz (rd : Nat → Option Blk) : Nat → AV → Option AV
 | 0, _ => none
 | fuel + 1, x =>
  let frzL (l : List AV) : Option (List AV) := mapO (frz rd fuel) l
  match x with
  | .ref b ver i n => (rd b).bind fun B => match Nat.beq B.ver ver with
   | true => match B.pr with
    | true => some (.sl ((B.cells.drop (i * B.esz)).take (n * B.esz)) n true)
    | false => (frzL ((B.cells.drop (i * B.esz)).take (n * B.esz))).map fun l => .sl l n true
   | false => none
  | .ptr b ver off => (rd b).bind fun B => match Nat.beq B.ver ver with
   | true => match B.pr with
    | true => some (.pp B.cells off)
    | false => (frzL B.cells).map fun l => .pp l off
   | false => none
  | .agg l => (frzL l).map .agg
  | .tup l => (frzL l).map .tup
  | .fn f a c => (frzL a).bind fun a => (frzL c).map fun c => .fn f a c
  | .ifc t v => (frz rd fuel v).map (.ifc t)
  | .own _ _ _ => none
  | x => some x
def idxN (l : List Nat) (b : Nat) : Option Nat := match l with
 | [] => none
 | c :: r => match Nat.beq c b with | true => some 0 | false => (idxN r b).map (· + 1)
def ownB (xs : List AV) (esz : Nat) : Blk := { cells := xs, ver := 0, fro := false, fz := 0, esz, pr := true }
def recvL (nid : Nat) : List AV → List AV × List Blk
 | [] => ([], [])
 | .own xs n esz :: r => match recvL (nid + 1) r with | (l, bs) => (.ref nid 0 0 n :: l, ownB xs esz :: bs)
 | x :: r => match recvL nid r with | (l, bs) => (x :: l, bs)
def recv (nid : Nat) : AV → AV × List Blk
 | .tup l => match recvL nid l with | (l, bs) => (.tup l, bs)
 | .own xs n esz => (.ref nid 0 0 n, [ownB xs esz])
 | x => (x, [])
def numb : Nat → List Blk → List (Nat × Blk)
 | _, [] => []
 | n, B :: r => (n, B) :: numb (n + 1) r
def zipB : List Nat → List Blk → List (Nat × Blk)
 | b :: r, B :: q => (b, B) :: zipB r q
 | _, _ => []
def nodupT : List Nat → Bool
 | [] => true
 | b :: r => !memN r b && nodupT r
structure CallR where
 out : Out
 ups : List (Nat × Blk)
 fp : List Nat
 md : AV
def callStep (ap : AP) (H : Handler) (rd : Nat → Option Blk) (nid : Nat) (md : AV) (f : Nat) (args : List AV) (c : Cx) : R CallR :=
 let fp := clos rd 6 (nodupN (refsL args))
 let rd := fun b => match memN fp b with | true => rd b | false => none
 let shared := match ap.fnAt f with | some F => F.shared | none => false
 match shared with
 | false =>
  match mapO (frz rd 6) args with
  | none => .bad 10
  | some args' =>
   (H c md f args' []).bind fun (out, h', md) c =>
   match h' with
   | _ :: _ => .bad 14
   | [] =>
   let mark := fp.filterMap fun b => (rd b).map fun B => (b, { B with fro := true, fz := B.cells.length })
   match out with
   | .ret v => match recv nid v with | (v, bs) => match Nat.ble bs.length 4 with | true => .ok { out := .ret v, ups := numb nid bs ++ mark, fp, md } c | false => .bad 13
   | .pan v => .ok { out := .pan v, ups := mark, fp, md } c
 | true =>
  let vers := fun b => match rd b with | some B => B.ver | none => 0
  let ρ : Nat → Nat → Option (Nat × Nat) := fun b v => match Nat.beq v (vers b) with | true => (idxN fp b).map fun p => (p, 0) | false => none
  let ρ' : Nat → Nat → Option (Nat × Nat) := fun p v => (fp[p]?).map fun b => (b, vers b + v)
  match mapO rd fp with
  | none => .bad 11
  | some bl =>
   (H c md f (renL ρ args) (bl.map fun B => { B with cells := (match B.pr with | true => B.cells | false => renL ρ B.cells), ver := 0 })).bind fun (out, h', md) c =>
   match Nat.beq h'.length fp.length && nodupT fp with
   | false => .bad 12
   | true =>
    let ups := (zipB fp h').map fun (b, B) => (b, { B with cells := (match B.pr with | true => B.cells | false => renL ρ' B.cells), ver := vers b + B.ver })
    match out with
    | .ret v => match recv nid (ren ρ' v) with | (v, bs) => match Nat.ble bs.length 4 with | true => .ok { out := .ret v, ups := numb nid bs ++ ups, fp, md } c | false => .bad 13
    | .pan v => .ok { out := .pan (ren ρ' v), ups, fp, md } c
inductive AExit where
 | normal
 | exit (id : Nat)
 | ret
 | panic (v : AV)
structure St where
 env : Env
 hp : Hp
 md : AV
 dfs : List (Nat × List AV)
structure Foot where
 rt : List Nat
 wt : List Nat
 rb : List Nat
 wb : List Nat
structure RS where
 env : Env
 hp : Hp
 md : AV
 dfs : List (Nat × List AV)
 dec : List (Nat × Bool)
 feet : List Foot
def tmpsOf (l : List Operand) : List Nat := l.filterMap fun | .tmp t => some t | _ => none
def dstL (o : Oper) : List Nat := match o.dst with | some d => [d] | none => []
def putE (env : Env) (dst : Option Nat) (v : AV) : Env := match dst with | some d => (d, v) :: env | none => env
def evalA (ap : AP) (env : Env) : Operand → AV
 | .tmp t => env.get t
 | .const v => ofLit v
 | .global g => match (ap.gl[g]?).join with | some xs => .pp xs 0 | none => .dead
 | .func f => .fn f [] []
def guardA (ops : List Oper) (env : Env) (dec : List (Nat × Bool)) (o : Oper) (c : Cx) : R (Bool × List (Nat × Bool)) :=
 match o.guard with
 | none => .ok (true, dec) c
 | some (j, want) =>
  match (ops[j]?).bind (·.dst) with
  | none => .bad 20
  | some s => match look dec s with
   | some b => .ok (lit want b, dec) c
   | none => match env.get s with
    | .bool b => (branch c b).bind fun b' c => .ok (lit want b', (s, b') :: dec) c
    | .tup [] => .ok (false, dec) c
    | _ => .bad 21
def guardTmps (ops : List Oper) (o : Oper) : List Nat :=
 match o.guard with
 | none => []
 | some (j, _) => match (ops[j]?).bind (·.dst) with | none => [] | some s => [s]
def dstOk (dec : List (Nat × Bool)) (o : Oper) : Bool := match o.dst with | none => true | some d => match look dec d with | none => true | some _ => false
def stepA (ap : AP) (H : Handler) (nid : Nat) (ops : List Oper) (o : Oper) (s : RS) (c : Cx) : R (RS × Option AV) :=
 (guardA ops s.env s.dec o c).bind fun (run, dec) c =>
 let rt := tmpsOf o.op.operands.toList ++ guardTmps ops o
 match dstOk dec o with
 | false => .bad 35
 | true =>
 match run with
 | false => .ok ({ s with env := putE s.env o.dst (.tup []), dec, feet := { rt, wt := dstL o, rb := [], wb := [] } :: s.feet }, none) c
 | true =>
  let ρ := evalA ap s.env
  let rdAll := look s.hp
  match o.op with
  | .call { callee := .value g, args, .. } =>
   match ρ g with
   | .fn f first cap =>
    (callStep ap H rdAll nid .dead f (first ++ args.toList.map ρ ++ cap) c).bind fun r c =>
    let foot : Foot := { rt, wt := dstL o, rb := r.fp, wb := r.ups.map fun (q : Nat × Blk) => q.1 }
    match r.out with
    | .ret v => .ok ({ s with env := putE s.env o.dst v, hp := r.ups ++ s.hp, dec, feet := foot :: s.feet }, none) c
    | .pan v => .ok ({ s with hp := r.ups ++ s.hp, dec, feet := foot :: s.feet }, some v) c
   | _ => .bad 30
  | .call { callee := .builtin .recover, .. } =>
   match s.md with
   | .nilI => .ok ({ s with env := putE s.env o.dst .nilI, dec, feet := { rt, wt := dstL o, rb := [], wb := [] } :: s.feet }, none) c
   | .ifc t v => .ok ({ s with env := putE s.env o.dst (.ifc t v), md := .nilI, dec, feet := { rt, wt := dstL o, rb := [], wb := [] } :: s.feet }, none) c
   | _ => .bad 33
  | .defer { callee := .value g, args, .. } =>
   match ρ g with
   | .fn f first cap => .ok ({ s with env := putE s.env o.dst .dead, dfs := (f, first ++ args.toList.map ρ ++ cap) :: s.dfs, dec, feet := { rt, wt := dstL o, rb := [], wb := [] } :: s.feet }, none) c
   | _ => .bad 34
  | .panic x =>
   match ρ x with
   | .ifc t v => .ok ({ s with dec }, some (.ifc t v)) c
   | _ => .bad 31
  | op =>
   let fp := readsA ρ op
   let rd := fun b => match memN fp b with | true => rdAll b | false => none
   let decs : Operand → Option Bool := fun | .tmp t => look dec t | _ => none
   (match emptyAsk ρ op with | some n => branch c (Nat.beq n 0) | none => .ok false c).bind fun em c =>
   match opA ap nid ρ rd decs em op with
   | none => .bad 32
   | some (v, ups, bs) => (emit c bs).bind fun _ c =>
    match hintV c o.dst v with
    | (v, c) => match hintB c o.dst ups with
     | (ups, c) => .ok ({ s with env := putE s.env o.dst v, hp := ups ++ s.hp, dec, feet := { rt, wt := dstL o, rb := fp, wb := ups.map fun (q : Nat × Blk) => q.1 } :: s.feet }, none) c
def stepsA (ap : AP) (H : Handler) (ops : List Oper) : List Oper → Nat → RS → Cx → R (RS × Option AV)
 | [], _, s, c => .ok (s, none) c
 | o :: r, nid, s, c => (stepA ap H nid ops o s c).bind fun (s, p) c =>
  match p with
  | some v => .ok (s, some v) c
  | none => match s.feet with
   | f :: _ => match f.wb.all (fun x => Nat.blt x (nid + 4)) with | true => stepsA ap H ops r (nid + 4) s c | false => .bad 43
   | [] => .bad 44
def meets (a b : List Nat) : Bool := a.any (memN b)
def clash (a b : Foot) : Bool := meets a.wt b.rt || meets a.wt b.wt || meets a.rt b.wt || meets a.wb b.rb || meets a.wb b.wb || meets a.rb b.wb
def orderedA (n : Nat) (bef : List Nat) (feet : List Foot) : Bool :=
 let l := feet.reverse.zipIdx
 l.all fun (a, i) => l.all fun (b, j) => !(Nat.blt i j) || !(clash a b || b.wb.any fun x => Nat.ble (n + 4 * i) x && Nat.blt x (n + 4 * i + 4)) || (bef.getD j 0).testBit i
def envRoots (keep : List Nat) (env : Env) : List Nat := keep.flatMap fun t => refs (env.get t)
def norm (base : Nat) (keep : List Nat) (s : St) : St :=
 let env := s.env
 let hp := s.hp
 let rd := look hp
 let ids := clos rd 20 (nodupN (List.range base ++ envRoots keep env ++ s.dfs.flatMap fun d => refsL d.2))
 let ids := ids.filter fun b => (rd b).isSome
 let ρ : Nat → Nat → Option (Nat × Nat) := fun b v => match rd b with
  | some B => match Nat.beq B.ver v with
   | true => (idxN ids b).map fun p => (p, match Nat.blt p base with | true => v | false => 0)
   | false => none
  | none => none
 {env := keep.map fun t => (t, ren ρ (env.get t))
  hp := ids.zipIdx.filterMap fun (b, p) => (rd b).map fun B => (p, { B with cells := (match B.pr with | true => B.cells | false => renL ρ B.cells), ver := match Nat.blt p base with | true => B.ver | false => 0 })
  md := s.md
  dfs := s.dfs.map fun d => (d.1, renL ρ d.2) }
def nextId : Hp → Nat
 | [] => 0
 | (b, _) :: r => match Nat.blt b (nextId r) with | true => nextId r | false => b + 1
def edgesOk (ops : List Oper) : Bool := ops.zipIdx.all fun (o, i) => o.after.toList.all fun e => !Region.binds .any e || Nat.blt e.on i
def regionA (ap : AP) (H : Handler) (base : Nat) (keep : List Nat) (ops : List Oper) (draw : Bool) (s : St) (c : Cx) : R (AExit × St) :=
 (stepsA ap H ops ops (nextId s.hp) { env := s.env, hp := s.hp, md := s.md, dfs := s.dfs, dec := [], feet := [] } c).bind fun (s', p) c =>
 match p with
 | some v => match draw with
  | true => .bad 40
  | false => match (refs v).isEmpty with
   | true => .ok (.panic v, norm base keep ⟨s'.env, s'.hp, s'.md, s'.dfs⟩) c
   | false => .ok (.panic v, ⟨s'.env, s'.hp, s'.md, s'.dfs⟩) c
 | none =>
  match !draw || (orderedA (nextId s.hp) (Region.before ops.toArray).toList s'.feet && edgesOk ops && Nat.beq s'.dfs.length s.dfs.length) with
  | true => .ok (.normal, norm base keep ⟨s'.env, s'.hp, s'.md, s'.dfs⟩) c
  | false => .bad 41
def iterA (f : St → Cx → R (AExit × St)) : Nat → St → Cx → R (AExit × St)
 | 0, _, _ => .bad 50
 | n + 1, s, c => (f s c).bind fun (e, s) c => match e with
  | .normal => iterA f n s c
  | e => .ok (e, s) c
def execA (ap : AP) (H : Handler) (base : Nat) (keep : List Nat) (lf : Nat) : Code → St → Cx → R (AExit × St)
 | .skip, s, c => .ok (.normal, s) c
 | .label _, s, c => .ok (.normal, s) c
 | .region _ ops draw, s, c => regionA ap H base keep ops.toList draw s c
 | .seq a b, s, c => (execA ap H base keep lf a s c).bind fun (e, s) c => match e with
  | .normal => execA ap H base keep lf b s c
  | e => .ok (e, s) c
 | .cond t a b, s, c => match evalA ap s.env t with
  | .bool x => (branch c x).bind fun x c => match x with
   | true => execA ap H base keep lf a s c
   | false => execA ap H base keep lf b s c
  | _ => .bad 60
 | .block id b, s, c => (execA ap H base keep lf b s c).bind fun (e, s) c => match e with
  | .exit id' => match Nat.beq id' id with | true => .ok (.normal, s) c | false => .ok (.exit id', s) c
  | e => .ok (e, s) c
 | .loop b, s, c => iterA (execA ap H base keep lf b) lf s c
 | .exit id, s, c => .ok (.exit id, s) c
 | .ret, s, c => .ok (.ret, s) c
 | .scope b, s, c => execA ap H base keep lf b s c
 | _, _, _ => .bad 61
def resultA (ap : AP) (env : Env) (hp : Hp) : ResultVar → Option (AV × List Bool)
 | .tmp t => some (env.get t, [])
 | .cell a t => (ap.tyAt t).bind fun ti => (loadA ti (look hp) (env.get a)).map fun (v, _, bs) => (v, bs)
def countN (l : List Nat) (b : Nat) : Nat := (l.filter (Nat.beq b)).length
def frzB (base : Nat) (rd : Nat → Option Blk) (v : AV) : Option AV :=
 let fp := clos rd 6 (nodupN (refs v))
 match fp.all (fun b => Nat.ble base b) with
 | true => frz (fun b => match memN fp b with | true => rd b | false => none) 6 v
 | false => none
def handOut (base : Nat) (rd : Nat → Option Blk) (all : List Nat) (v : AV) : Option AV :=
 let frzO (v : AV) : Option AV := match (refs v).all (fun b => Nat.blt b base) with | true => some v | false => frzB base rd v
 match v with
 | .ref b ver 0 n => match rd b with
  | some B => match Nat.ble base b && Nat.beq B.ver ver && !B.fro && B.pr && Nat.beq (countN all b) 1 && Nat.blt 0 B.esz with
   | true => some (.own (B.cells.take (n * B.esz)) n B.esz)
   | false => frzO v
  | none => none
 | v => frzO v
def bodyOf (f : Func) : Code := f.body.getD .skip
def initSt (md : AV) (args : List AV) (h : List Blk) : St :=
 {env := args.zipIdx.map fun (x, i) => (i, x), hp := h.zipIdx.map fun (B, i) => (i, B), md, dfs := [] }
def isMd : AV → Bool
 | .nilI => true
 | .ifc _ _ => true
 | _ => false
def leaveA (ap : AP) (H : Handler) : List (Nat × List AV) → AV → Hp → Cx → R (AV × Hp)
 | [], mode, hp, c => .ok (mode, hp) c
 | (f, args) :: r, mode, hp, c =>
  match isMd mode && (refs mode).isEmpty with
  | false => .bad 78
  | true =>
  (callStep ap H (look hp) (nextId hp) mode f args c).bind fun q c =>
  match q.out with
  | .ret _ => leaveA ap H r q.md (q.ups ++ hp) c
  | .pan _ => .bad 75
def readOut (ap : AP) (base : Nat) (F : Func) (env : Env) (hp : Hp) (c : Cx) : R (Out × List Blk) :=
 let rd := look hp
 match mapO (resultA ap env hp) F.results.toList, mapO rd (List.range base) with
 | some vs, some h' =>
  match h'.all (fun B => B.pr || (refsL B.cells).all fun b => Nat.blt b base) with
  | false => .bad 76
  | true =>
  (emit c (vs.flatMap fun (q : AV × List Bool) => q.2)).bind fun _ c =>
  let all := vs.flatMap fun (q : AV × List Bool) => clos rd 6 (nodupN (refs q.1))
  match mapO (handOut base rd all) (vs.map fun (q : AV × List Bool) => q.1) with
  | some [v] => .ok (.ret v, h') c
  | some l => .ok (.ret (.tup l), h') c
  | none => .bad 70
 | _, _ => .bad 71
def panOut (base : Nat) (v : AV) (hp : Hp) (c : Cx) : R (Out × List Blk) :=
 match handOut base (look hp) (clos (look hp) 6 (nodupN (refs v))) v, mapO (look hp) (List.range base) with
 | some v, some h' =>
  match h'.all (fun B => B.pr || (refsL B.cells).all fun b => Nat.blt b base) with
  | false => .bad 77
  | true => .ok (.pan v, h') c
 | _, _ => .bad 72
def finishA (ap : AP) (H : Handler) (base : Nat) (F : Func) (e : AExit) (s : St) (c : Cx) : R (Out × List Blk × AV) :=
 let go (mode : AV) : R (Out × List Blk × AV) :=
  (leaveA ap H s.dfs mode s.hp c).bind fun (mode, hp) c =>
  match mode with
  | .nilI => (readOut ap base F s.env hp c).bind fun (o, h) c => .ok (o, h, s.md) c
  | .ifc t v => (panOut base (.ifc t v) hp c).bind fun (o, h) c => .ok (o, h, s.md) c
  | _ => .bad 74
 match e with
 | .normal | .ret => go .nilI
 | .panic (.ifc t v) => match (refs v).isEmpty with | true => go (.ifc t v) | false => .bad 79
 | _ => .bad 73
def callDA (ap : AP) (H : Handler) (lf : Nat) (md : AV) (F : AF) (args : List AV) (h : List Blk) (c : Cx) : R (Out × List Blk × AV) :=
 match bodyOf F.fn with
 | .seq (.region _ ops false) rest =>
  match ops.toList with
  | o :: r =>
   match o.op, o.guard, o.dst with
   | .call { callee := .builtin .recover, .. }, none, some d =>
    let s0 := initSt .dead args h
    (stepsA ap H (o :: r) r (nextId s0.hp) { env := (d, md) :: s0.env, hp := s0.hp, md := .dead, dfs := [], dec := [], feet := [] } c).bind fun (s, p) c =>
    match p with
    | some _ => .bad 81
    | none => (execA ap H h.length F.keep lf rest (norm h.length F.keep ⟨s.env, s.hp, s.md, s.dfs⟩) c).bind fun (e, s) c =>
     match s.dfs with
     | _ :: _ => .bad 82
     | [] => match e with
      | .normal | .ret => (readOut ap h.length F.fn s.env s.hp c).bind fun (o, h) c => .ok (o, h, .nilI) c
      | _ => .bad 83
   | _, _, _ => .bad 84
  | [] => .bad 85
 | _ => .bad 86
def callA (ap : AP) (H : Handler) (lf : Nat) (md : AV) (f : Nat) (args : List AV) (h : List Blk) (c : Cx) : R (Out × List Blk × AV) :=
 match ap.fnAt f with
 | none => .bad 80
 | some F => match md with
  | .dead => (execA ap H h.length F.keep lf (bodyOf F.fn) (initSt .dead args h) c).bind fun (e, s) c => finishA ap H h.length F.fn e s c
  | md => match isMd md && (refs md).isEmpty with | true => callDA ap H lf md F args h c | false => .bad 87
theorem PRL_length {S : SMap} : ∀ {l : List AV} {vs : List Value}, PRL S l vs → l.length = vs.length
 | [], [], _ => rfl
 | _ :: _, _ :: _, h => by simp only [PRL] at h; simp [PRL_length h.2]
 | [], _ :: _, h => by simp [PRL] at h
 | _ :: _, [], h => by simp [PRL] at h
theorem VRL_length {g : HpF} {m : MapF} {S : SMap} : ∀ {l : List AV} {vs : List Value}, VRL g m S l vs → l.length = vs.length
 | [], [], _ => rfl
 | _ :: _, _ :: _, h => by simp only [VRL] at h; simp [VRL_length h.2]
 | [], _ :: _, h => by simp [VRL] at h
 | _ :: _, [], h => by simp [VRL] at h
theorem VRL_get {g : HpF} {m : MapF} {S : SMap} : ∀ {l : List AV} {vs : List Value} (_ : VRL g m S l vs) (i : Nat) {x : AV}, l[i]? = some x → ∃ v, vs[i]? = some v ∧ VR g m S x v
 | [], [], _, i, x, hx => by simp at hx
 | a :: l, v :: vs, h, 0, x, hx => by simp only [VRL] at h; simp at hx; subst hx; exact ⟨v, rfl, h.1⟩
 | a :: l, v :: vs, h, i + 1, x, hx => by simp only [VRL] at h; simp at hx; simpa using VRL_get h.2 i hx
 | [], _ :: _, h, _, _, _ => by simp [VRL] at h
 | _ :: _, [], h, _, _, _ => by simp [VRL] at h
theorem PRL_append {S : SMap} : ∀ {l l' : List AV} {vs vs' : List Value}, PRL S l vs → PRL S l' vs' → PRL S (l ++ l') (vs ++ vs')
 | [], _, [], _, _, h' => by simpa using h'
 | _ :: _, _, _ :: _, _, h, h' => by simp only [PRL] at h; simp only [List.cons_append, PRL]; exact ⟨h.1, PRL_append h.2 h'⟩
 | [], _, _ :: _, _, h, _ => by simp [PRL] at h
 | _ :: _, _, [], _, h, _ => by simp [PRL] at h
theorem VRL_append {g : HpF} {m : MapF} {S : SMap} : ∀ {l l' : List AV} {vs vs' : List Value}, VRL g m S l vs → VRL g m S l' vs' → VRL g m S (l ++ l') (vs ++ vs')
 | [], _, [], _, _, h' => by simpa using h'
 | _ :: _, _, _ :: _, _, h, h' => by simp only [VRL] at h; simp only [List.cons_append, VRL]; exact ⟨h.1, VRL_append h.2 h'⟩
 | [], _, _ :: _, _, h, _ => by simp [VRL] at h
 | _ :: _, _, [], _, h, _ => by simp [VRL] at h
theorem PRL_take {S : SMap} : ∀ (n : Nat) {l : List AV} {vs : List Value}, PRL S l vs → PRL S (l.take n) (vs.take n)
 | 0, _, _, _ => by simp [PRL]
 | n + 1, [], [], _ => by simp [PRL]
 | n + 1, _ :: _, _ :: _, h => by simp only [PRL] at h; simp only [List.take_succ_cons, PRL]; exact ⟨h.1, PRL_take n h.2⟩
 | _ + 1, [], _ :: _, h => by simp [PRL] at h
 | _ + 1, _ :: _, [], h => by simp [PRL] at h
theorem PRL_drop {S : SMap} : ∀ (n : Nat) {l : List AV} {vs : List Value}, PRL S l vs → PRL S (l.drop n) (vs.drop n)
 | 0, _, _, h => by simpa using h
 | n + 1, [], [], _ => by simp [PRL]
 | n + 1, _ :: _, _ :: _, h => by simp only [PRL] at h; simpa using PRL_drop n h.2
 | _ + 1, [], _ :: _, h => by simp [PRL] at h
 | _ + 1, _ :: _, [], h => by simp [PRL] at h
theorem VRL_take {g : HpF} {m : MapF} {S : SMap} : ∀ (n : Nat) {l : List AV} {vs : List Value}, VRL g m S l vs → VRL g m S (l.take n) (vs.take n)
 | 0, _, _, _ => by simp [VRL]
 | n + 1, [], [], _ => by simp [VRL]
 | n + 1, _ :: _, _ :: _, h => by simp only [VRL] at h; simp only [List.take_succ_cons, VRL]; exact ⟨h.1, VRL_take n h.2⟩
 | _ + 1, [], _ :: _, h => by simp [VRL] at h
 | _ + 1, _ :: _, [], h => by simp [VRL] at h
theorem VRL_drop {g : HpF} {m : MapF} {S : SMap} : ∀ (n : Nat) {l : List AV} {vs : List Value}, VRL g m S l vs → VRL g m S (l.drop n) (vs.drop n)
 | 0, _, _, h => by simpa using h
 | n + 1, [], [], _ => by simp [VRL]
 | n + 1, _ :: _, _ :: _, h => by simp only [VRL] at h; simpa using VRL_drop n h.2
 | _ + 1, [], _ :: _, h => by simp [VRL] at h
 | _ + 1, _ :: _, [], h => by simp [VRL] at h
theorem Sealed.mono {S S' : SMap} (h : SLe S S') {b o : Nat} {vs : List Value} (hs : Sealed S b o vs) : Sealed S' b o vs := fun j u hu => ⟨h _ _ _ (hs j u hu).1, (hs j u hu).2⟩
mutual
theorem PR_mono {S S' : SMap} (h : SLe S S') : ∀ (x : AV) {v : Value}, PR S x v → PR S' x v
 | .int _ _, _, p => by simpa only [PR] using p
 | .bool _, _, p => by simpa only [PR] using p
 | .str _, _, p => by simpa only [PR] using p
 | .nilS, _, p => by simpa only [PR] using p
 | .nilP, _, p => by simpa only [PR] using p
 | .nilF, _, p => by simpa only [PR] using p
 | .nilI, _, p => by simpa only [PR] using p
 | .dead, _, _ => by simp only [PR]
 | .agg l, _, p => by
  simp only [PR] at p ⊢
  obtain ⟨vs, e, q⟩ := p
  exact ⟨vs, e, PRL_mono h l q⟩
 | .tup l, _, p => by
  simp only [PR] at p ⊢
  obtain ⟨vs, e, q⟩ := p
  exact ⟨vs, e, PRL_mono h l q⟩
 | .sl xs n nn, _, p => by
  simp only [PR] at p ⊢
  obtain ⟨a, cap, e, hle, q⟩ := p
  refine ⟨a, cap, e, hle, ?_⟩
  rcases q with q | ⟨b, o, vs, e1, q, hs⟩
  ·exact .inl q
  ·exact .inr ⟨b, o, vs, e1, PRL_mono h xs q, hs.mono h⟩
 | .pp xs off, _, p => by
  simp only [PR] at p ⊢
  obtain ⟨b, o, vs, e, q, hs⟩ := p
  exact ⟨b, o, vs, e, PRL_mono h xs q, hs.mono h⟩
 | .fn f a c, _, p => by
  simp only [PR] at p ⊢
  obtain ⟨va, vc, e, q, r⟩ := p
  exact ⟨va, vc, e, PRL_mono h a q, PRL_mono h c r⟩
 | .ifc t x, _, p => by
  simp only [PR] at p ⊢
  obtain ⟨u, e, q⟩ := p
  exact ⟨u, e, PR_mono h x q⟩
 | .ref _ _ _ _, _, p => by simp only [PR] at p
 | .ptr _ _ _, _, p => by simp only [PR] at p
 | .own _ _ _, _, p => by simp only [PR] at p
theorem PRL_mono {S S' : SMap} (h : SLe S S') : ∀ (l : List AV) {vs : List Value}, PRL S l vs → PRL S' l vs
 | [], [], _ => by simp only [PRL]
 | x :: r, v :: vs, p => by simp only [PRL] at p ⊢; exact ⟨PR_mono h x p.1, PRL_mono h r p.2⟩
 | [], _ :: _, p => by simp [PRL] at p
 | _ :: _, [], p => by simp [PRL] at p
end
mutual
theorem VR_of_PR {g : HpF} {m : MapF} {S : SMap} : ∀ (x : AV) {v : Value}, PR S x v → VR g m S x v
 | .int _ _, _, p => by simpa only [VR] using p
 | .bool _, _, p => by simpa only [VR] using p
 | .str _, _, p => by simpa only [VR] using p
 | .nilS, _, p => by simpa only [VR] using p
 | .nilP, _, p => by simpa only [VR] using p
 | .nilF, _, p => by simpa only [VR] using p
 | .nilI, _, p => by simpa only [VR] using p
 | .sl _ _ _, _, p => by simpa only [VR] using p
 | .pp _ _, _, p => by simpa only [VR] using p
 | .dead, _, _ => by simp only [VR]
 | .agg l, _, p => by
  simp only [PR] at p; simp only [VR]
  obtain ⟨vs, e, q⟩ := p
  exact ⟨vs, e, VRL_of_PRL l q⟩
 | .tup l, _, p => by
  simp only [PR] at p; simp only [VR]
  obtain ⟨vs, e, q⟩ := p
  exact ⟨vs, e, VRL_of_PRL l q⟩
 | .fn f a c, _, p => by
  simp only [PR] at p; simp only [VR]
  obtain ⟨va, vc, e, q, r⟩ := p
  exact ⟨va, vc, e, VRL_of_PRL a q, VRL_of_PRL c r⟩
 | .ifc t x, _, p => by
  simp only [PR] at p; simp only [VR]
  obtain ⟨u, e, q⟩ := p
  exact ⟨u, e, VR_of_PR x q⟩
 | .ref _ _ _ _, _, p => by simp only [PR] at p
 | .ptr _ _ _, _, p => by simp only [PR] at p
 | .own _ _ _, _, p => by simp only [PR] at p
theorem VRL_of_PRL {g : HpF} {m : MapF} {S : SMap} : ∀ (l : List AV) {vs : List Value}, PRL S l vs → VRL g m S l vs
 | [], [], _ => by simp only [VRL]
 | x :: r, v :: vs, p => by simp only [PRL] at p; simp only [VRL]; exact ⟨VR_of_PR x p.1, VRL_of_PRL r p.2⟩
 | [], _ :: _, p => by simp [PRL] at p
 | _ :: _, [], p => by simp [PRL] at p
end
def RenOk (g : HpF) (m : MapF) (g' : HpF) (m' : MapF) (ρ : Nat → Nat → Option (Nat × Nat)) : Prop :=
 ∀ b ver b' ver', ρ b ver = some (b', ver') → ∀ B, g b = some B → ver ≤ B.ver →
  ∃ B', g' b' = some B' ∧ ver' ≤ B'.ver ∧ (B'.ver = ver' → B.ver = ver ∧ m' b' = m b ∧ B'.esz = B.esz)
mutual
theorem VR_ren {g g' : HpF} {m m' : MapF} {S S' : SMap} {ρ : Nat → Nat → Option (Nat × Nat)} (hS : SLe S S') (h : RenOk g m g' m' ρ) : ∀ (x : AV) {v : Value}, VR g m S x v → VR g' m' S' (ren ρ x) v
 | .int k n, _, p => by simp only [VR] at p; simp only [ren, VR]; exact PR_mono hS _ p
 | .bool _, _, p => by simp only [VR] at p; simp only [ren, VR]; exact PR_mono hS _ p
 | .str _, _, p => by simp only [VR] at p; simp only [ren, VR]; exact PR_mono hS _ p
 | .nilS, _, p => by simp only [VR] at p; simp only [ren, VR]; exact PR_mono hS _ p
 | .nilP, _, p => by simp only [VR] at p; simp only [ren, VR]; exact PR_mono hS _ p
 | .nilF, _, p => by simp only [VR] at p; simp only [ren, VR]; exact PR_mono hS _ p
 | .nilI, _, p => by simp only [VR] at p; simp only [ren, VR]; exact PR_mono hS _ p
 | .sl _ _ _, _, p => by simp only [VR] at p; simp only [ren, VR]; exact PR_mono hS _ p
 | .pp _ _, _, p => by simp only [VR] at p; simp only [ren, VR]; exact PR_mono hS _ p
 | .dead, _, _ => by simp only [ren, VR]
 | .own _ _ _, _, p => by simp only [VR] at p
 | .agg l, _, p => by
  simp only [VR] at p; simp only [ren, VR]
  obtain ⟨vs, e, q⟩ := p
  exact ⟨vs, e, VRL_ren hS h l q⟩
 | .tup l, _, p => by
  simp only [VR] at p; simp only [ren, VR]
  obtain ⟨vs, e, q⟩ := p
  exact ⟨vs, e, VRL_ren hS h l q⟩
 | .fn f a c, _, p => by
  simp only [VR] at p; simp only [ren, VR]
  obtain ⟨va, vc, e, q, r⟩ := p
  exact ⟨va, vc, e, VRL_ren hS h a q, VRL_ren hS h c r⟩
 | .ifc t x, _, p => by
  simp only [VR] at p; simp only [ren, VR]
  obtain ⟨u, e, q⟩ := p
  exact ⟨u, e, VR_ren hS h x q⟩
 | .ref b ver i n, _, p => by
  simp only [VR] at p; simp only [ren]
  obtain ⟨B, hB, hv, hsh, q⟩ := p
  cases hρ : ρ b ver with
  | none => simp only [VR]
  | some bv =>
   obtain ⟨b', ver'⟩ := bv
   obtain ⟨B', hB', hv', hc⟩ := h b ver b' ver' hρ B hB hv
   simp only [VR]
   refine ⟨B', hB', hv', hsh, fun e => ?_⟩
   obtain ⟨e1, e2, e3⟩ := hc e
   rw [e2, e3]
   exact q e1
 | .ptr b ver off, _, p => by
  simp only [VR] at p; simp only [ren]
  obtain ⟨B, hB, hv, hsh, q⟩ := p
  cases hρ : ρ b ver with
  | none => simp only [VR]
  | some bv =>
   obtain ⟨b', ver'⟩ := bv
   obtain ⟨B', hB', hv', hc⟩ := h b ver b' ver' hρ B hB hv
   simp only [VR]
   refine ⟨B', hB', hv', hsh, fun e => ?_⟩
   obtain ⟨e1, e2, _⟩ := hc e
   rw [e2]
   exact q e1
theorem VRL_ren {g g' : HpF} {m m' : MapF} {S S' : SMap} {ρ : Nat → Nat → Option (Nat × Nat)} (hS : SLe S S') (h : RenOk g m g' m' ρ) : ∀ (l : List AV) {vs : List Value}, VRL g m S l vs → VRL g' m' S' (renL ρ l) vs
 | [], [], _ => by simp only [renL, VRL]
 | x :: r, v :: vs, p => by simp only [VRL] at p; simp only [renL, VRL]; exact ⟨VR_ren hS h x p.1, VRL_ren hS h r p.2⟩
 | [], _ :: _, p => by simp [VRL] at p
 | _ :: _, [], p => by simp [VRL] at p
end
def Ge (g : HpF) (m : MapF) (g' : HpF) (m' : MapF) : Prop :=
 ∀ b B, g b = some B → ∃ B', g' b = some B' ∧ B'.esz = B.esz ∧ ((B'.ver = B.ver ∧ m' b = m b) ∨ B.ver < B'.ver)
theorem Ge.refl (g : HpF) (m : MapF) : Ge g m g m := fun _ B h => ⟨B, h, rfl, .inl ⟨rfl, rfl⟩⟩
theorem Ge.trans {g g' g'' : HpF} {m m' m'' : MapF} (h : Ge g m g' m') (h' : Ge g' m' g'' m'') : Ge g m g'' m'' := by
 intro b B hB
 obtain ⟨B', hB', e, c⟩ := h b B hB
 obtain ⟨B'', hB'', e', c'⟩ := h' b B' hB'
 refine ⟨B'', hB'', e'.trans e, ?_⟩
 rcases c with ⟨c1, c2⟩ | c <;> rcases c' with ⟨d1, d2⟩ | d
 ·exact .inl ⟨d1.trans c1, d2.trans c2⟩
 ·exact .inr (by omega)
 ·exact .inr (by omega)
 ·exact .inr (by omega)
mutual
theorem VR_mono {g g' : HpF} {m m' : MapF} {S S' : SMap} (hS : SLe S S') (h : Ge g m g' m') : ∀ (x : AV) {v : Value}, VR g m S x v → VR g' m' S' x v
 | .int k n, _, p => by simp only [VR] at p ⊢; exact PR_mono hS _ p
 | .bool _, _, p => by simp only [VR] at p ⊢; exact PR_mono hS _ p
 | .str _, _, p => by simp only [VR] at p ⊢; exact PR_mono hS _ p
 | .nilS, _, p => by simp only [VR] at p ⊢; exact PR_mono hS _ p
 | .nilP, _, p => by simp only [VR] at p ⊢; exact PR_mono hS _ p
 | .nilF, _, p => by simp only [VR] at p ⊢; exact PR_mono hS _ p
 | .nilI, _, p => by simp only [VR] at p ⊢; exact PR_mono hS _ p
 | .sl _ _ _, _, p => by simp only [VR] at p ⊢; exact PR_mono hS _ p
 | .pp _ _, _, p => by simp only [VR] at p ⊢; exact PR_mono hS _ p
 | .dead, _, _ => by simp only [VR]
 | .own _ _ _, _, p => by simp only [VR] at p
 | .agg l, _, p => by
  simp only [VR] at p ⊢
  obtain ⟨vs, e, q⟩ := p
  exact ⟨vs, e, VRL_mono hS h l q⟩
 | .tup l, _, p => by
  simp only [VR] at p ⊢
  obtain ⟨vs, e, q⟩ := p
  exact ⟨vs, e, VRL_mono hS h l q⟩
 | .fn f a c, _, p => by
  simp only [VR] at p ⊢
  obtain ⟨va, vc, e, q, r⟩ := p
  exact ⟨va, vc, e, VRL_mono hS h a q, VRL_mono hS h c r⟩
 | .ifc t x, _, p => by
  simp only [VR] at p ⊢
  obtain ⟨u, e, q⟩ := p
  exact ⟨u, e, VR_mono hS h x q⟩
 | .ref b ver i n, _, p => by
  simp only [VR] at p ⊢
  obtain ⟨B, hB, hv, hsh, q⟩ := p
  obtain ⟨B', hB', he, hc⟩ := h b B hB
  rcases hc with ⟨c1, c2⟩ | c
  ·refine ⟨B', hB', by omega, hsh, fun e => ?_⟩
   rw [c2, he]
   exact q (by omega)
  ·exact ⟨B', hB', by omega, hsh, fun e => by omega⟩
 | .ptr b ver off, _, p => by
  simp only [VR] at p ⊢
  obtain ⟨B, hB, hv, hsh, q⟩ := p
  obtain ⟨B', hB', he, hc⟩ := h b B hB
  rcases hc with ⟨c1, c2⟩ | c
  ·refine ⟨B', hB', by omega, hsh, fun e => ?_⟩
   rw [c2]
   exact q (by omega)
  ·exact ⟨B', hB', by omega, hsh, fun e => by omega⟩
theorem VRL_mono {g g' : HpF} {m m' : MapF} {S S' : SMap} (hS : SLe S S') (h : Ge g m g' m') : ∀ (l : List AV) {vs : List Value}, VRL g m S l vs → VRL g' m' S' l vs
 | [], [], _ => by simp only [VRL]
 | x :: r, v :: vs, p => by simp only [VRL] at p ⊢; exact ⟨VR_mono hS h x p.1, VRL_mono hS h r p.2⟩
 | [], _ :: _, p => by simp [VRL] at p
 | _ :: _, [], p => by simp [VRL] at p
end
def GlobOk (ap : AP) (S : SMap) : Prop := ∀ k xs, (ap.gl[k]?).join = some xs → ∃ vs, PRL S xs vs ∧ Sealed S k 0 vs
structure ApOk (P : Program) (ap : AP) : Prop where
 ty : ∀ t ti, ap.tyAt t = some ti → tiOf P t = some ti
structure BlkR (g : HpF) (m : MapF) (S : SMap) (w : World) (B : Blk) (k c : Nat) : Prop where
 lies : ∃ cur e vs rest, w.heap[k]? = some (.cells cur e (0, 0)) ∧ cur.toList = vs ++ rest ∧ (B.pr = true → PRL S B.cells vs) ∧ VRL g m S B.cells vs ∧ (∀ u ∈ vs, u.oneCell' = true) ∧ (0 < B.esz → cur.size = c * B.esz ∧ c ≤ maxLen)
 fz0 : B.fro = false → B.fz = 0
 fzle : B.fz ≤ B.cells.length
structure SRel (ap : AP) (g : HpF) (m : MapF) (S : SMap) (w : World) : Prop where
 inj : ∀ b b' B B', g b = some B → g b' = some B' → (m b).1 = (m b').1 → b = b'
 blk : ∀ b B, g b = some B → BlkR g m S w B (m b).1 (m b).2
 sealed : ∀ k o v, S k o = some v → w.cell? ⟨k, o, none⟩ = some v
 own : ∀ b B, g b = some B → ∀ o v, S (m b).1 o = some v → B.fro = true ∧ o < B.fz
 glob : GlobOk ap S
structure Fr (g : HpF) (m : MapF) (S : SMap) (w : World) (g' : HpF) (m' : MapF) (S' : SMap) (w' : World) : Prop where
 ge : Ge g m g' m'
 sle : SLe S S'
 os : w'.os = w.os
 tape : w'.tape = w.tape
 output : w'.output = w.output
 size : w.heap.size ≤ w'.heap.size
 rest : ∀ k, k < w.heap.size → (∀ b B, g b = some B → (m b).1 ≠ k) → w'.heap[k]? = w.heap[k]?
 img : ∀ b B, g' b = some B → w.heap.size ≤ (m' b).1 ∨ (∃ B0, g b = some B0 ∧ (m' b).1 = (m b).1)
 sealN : ∀ k o v, S' k o = some v → S k o = some v ∨ w.heap.size ≤ k ∨ ∃ b B, g b = some B ∧ (m b).1 = k
theorem Fr.refl (g : HpF) (m : MapF) (S : SMap) (w : World) : Fr g m S w g m S w :=
 ⟨Ge.refl g m, SLe.refl S, rfl, rfl, rfl, Nat.le_refl _, fun _ _ _ => rfl, fun _ B h => .inr ⟨B, h, rfl⟩, fun _ _ _ h => .inl h⟩
theorem Fr.trans {g g' g'' : HpF} {m m' m'' : MapF} {S S' S'' : SMap} {w w' w'' : World} (h : Fr g m S w g' m' S' w') (h' : Fr g' m' S' w' g'' m'' S'' w'') : Fr g m S w g'' m'' S'' w'' := by
 refine ⟨h.ge.trans h'.ge, h.sle.trans h'.sle, h'.os.trans h.os, h'.tape.trans h.tape, h'.output.trans h.output, Nat.le_trans h.size h'.size, ?_, ?_, ?_⟩
 ·intro k hk hn
  rw [h'.rest k (Nat.lt_of_lt_of_le hk h.size) ?_, h.rest k hk hn]
  intro b B hB e
  rcases h.img b B hB with hi | ⟨B0, hB0, hi⟩
  ·omega
  ·exact hn b B0 hB0 (hi ▸ e)
 ·intro b B hB
  rcases h'.img b B hB with hi | ⟨B0, hB0, hi⟩
  ·exact .inl (Nat.le_trans h.size hi)
  ·rcases h.img b B0 hB0 with hj | ⟨B1, hB1, hj⟩
   ·exact .inl (hi ▸ hj)
   ·exact .inr ⟨B1, hB1, hi.trans hj⟩
 ·intro k o v hv
  rcases h'.sealN k o v hv with h1 | h1 | ⟨b, B, hB, h1⟩
  ·exact h.sealN k o v h1
  ·exact .inr (.inl (Nat.le_trans h.size h1))
  ·rcases h.img b B hB with hi | ⟨B0, hB0, hi⟩
   ·exact .inr (.inl (h1 ▸ hi))
   ·exact .inr (.inr ⟨b, B0, hB0, by rw [← h1, hi]⟩)
theorem SRel.lt {ap : AP} {g : HpF} {m : MapF} {S : SMap} {w : World} (h : SRel ap g m S w) {b : Nat} {B : Blk} (hB : g b = some B) : (m b).1 < w.heap.size := by
 obtain ⟨cur, e, vs, rest, hk, _⟩ := (h.blk b B hB).lies
 exact (Array.getElem?_eq_some_iff.1 hk).1
theorem cell_row {w : World} {k j : Nat} {cur : Array Value} {e : TypeId} {fr : Nat × Nat} (h : w.heap[k]? = some (.cells cur e fr)) : w.cell? ⟨k, j, none⟩ = cur.toList[j]? := by
 rw [cell_of_row w k j cur e fr h]; simp
theorem kindNo_inj {a b : IntKind} (h : sameKind a b = true) : a = b := by cases a <;> cases b <;> first | rfl | (exact absurd h (by decide))
theorem beq_nat {a b : Nat} (h : Nat.beq a b = true) : a = b := Nat.eq_of_beq_eq_true h
theorem ble_nat {a b : Nat} (h : Nat.ble a b = true) : a ≤ b := Nat.le_of_ble_eq_true h
theorem blt_nat {a b : Nat} (h : Nat.blt a b = true) : a < b := by
 have : Nat.ble (a + 1) b = true := h
 exact ble_nat this
theorem PR_one {S : SMap} {x : AV} {v : Value} (h : PR S x v) (hl : leaf x = true) : v.oneCell' = true := by
 cases x <;> simp only [PR] at h <;> first
  | (subst h; rfl)
  | (obtain ⟨_, _, _, rfl, _⟩ := h; rfl)
  | (obtain ⟨_, _, rfl, _⟩ := h; rfl)
  | (obtain ⟨_, rfl, _⟩ := h; first | rfl | exact absurd hl (by simp [leaf]))
  | (exact absurd hl (by simp [leaf]))
theorem VR_one {g : HpF} {m : MapF} {S : SMap} {x : AV} {v : Value} (h : VR g m S x v) (hl : leaf x = true) : v.oneCell' = true := by
 cases x <;> simp only [VR] at h <;> first
  | (exact PR_one h hl)
    | (obtain ⟨_, _, _, ⟨_, _, rfl⟩, _⟩ := h; rfl)
  | (obtain ⟨_, _, _, ⟨_, _, _, rfl⟩, _⟩ := h; rfl)
  | (obtain ⟨_, _, rfl, _⟩ := h; rfl)
  | (obtain ⟨_, rfl, _⟩ := h; first | rfl | exact absurd hl (by simp [leaf]))
  | (exact absurd hl (by simp [leaf]))
end AM
namespace AM
open Go
structure TyR (P : Program) (t : Nat) (ti : TI) (i : TypeInfo) (d : TypeDesc) (z : Value) : Prop where
 info : P.info? t = some i
 und : P.underlying t = some d
 d_eq : ti.d = tdOf P (some d)
 size : ti.size = i.size
 bytes : ti.bytes = i.bytes
 zero : i.zero = some z
 zcells : ti.zero = z.cells.toList.map ofLit
 zleaf : ∀ x ∈ ti.zero, leaf x = true
 zsize : z.cells.size = i.size
 lks : ti.lks.length = i.size
 pos : 0 < i.size
 zagg : zAgg i d = true
 fld : fldOk P d = true
theorem ti_of {P : Program} {ap : AP} (hap : ApOk P ap) {t : Nat} {ti : TI} (h : ap.tyAt t = some ti) : ∃ i d z, TyR P t ti i d z := by
 have h1 := hap.ty t ti h
 unfold tiOf at h1
 cases hi : P.info? t with
 | none => simp [hi] at h1
 | some i =>
  cases hd : P.underlying t with
  | none => simp [hi, hd] at h1
  | some d =>
   simp only [hi, hd] at h1
   split at h1
   ·rename_i hc
    simp only [Bool.and_eq_true] at hc
    obtain ⟨⟨⟨⟨⟨c1, c0⟩, c2⟩, c3⟩, c4⟩, c5⟩ := hc
    cases hz : i.zero with
    | none => simp [hz] at c5
    | some z =>
     cases h1
     have ez : zeroOf i = z.cells.toList.map ofLit := by simp [zeroOf, hz]
     refine ⟨i, d, z, hi, hd, rfl, rfl, rfl, hz, ez, ?_, ?_, beq_nat c1, blt_nat c4, c0.1, c0.2⟩
     ·intro x hx; exact List.all_eq_true.1 c2 x hx
     ·have := beq_nat c3
      rw [ez] at this
      simpa using this
   ·cases h1
theorem td_slice {P : Program} {d : TypeDesc} {e : Nat} (h : tdOf P (some d) = .slice e) : d = .slice e := by cases d <;> simp [tdOf] at h; subst h; rfl
theorem td_array {P : Program} {d : TypeDesc} {n e : Nat} (h : tdOf P (some d) = .array n e) : d = .array n e := by cases d <;> simp [tdOf] at h; obtain ⟨rfl, rfl⟩ := h; rfl
theorem td_str {P : Program} {d : TypeDesc} (h : tdOf P (some d) = .str) : d = .string := by cases d <;> simp [tdOf] at h; rfl
theorem td_int {P : Program} {d : TypeDesc} {k : IntKind} (h : tdOf P (some d) = .int k) : d = .int k := by cases d <;> simp [tdOf] at h; subst h; rfl
theorem td_bool {P : Program} {d : TypeDesc} (h : tdOf P (some d) = .bool) : d = .bool := by cases d <;> simp [tdOf] at h; rfl
theorem td_struct {P : Program} {d : TypeDesc} {fs : List (Nat × Nat × Nat)} (h : tdOf P (some d) = .struct fs) :
  ∃ fields : Array Field, d = .struct fields ∧ fs = fields.toList.map fun f => (f.offset, f.type, match P.info? f.type with | some i => i.size | none => 0) := by
 cases d <;> simp [tdOf] at h
 exact ⟨_, rfl, h.symm⟩
theorem td_isAgg {P : Program} (d : TypeDesc) : isAggTD (tdOf P (some d)) = d.isRow := by cases d <;> simp [tdOf, isAggTD, TypeDesc.isRow]
theorem PR_ofLit1 (S : SMap) (v : Value) : PR S (ofLit1 v) v := by
 cases v <;> simp only [ofLit1, PR]
 case pointer a => cases a <;> simp only [PR]
 case slice a n c =>
  split <;> simp only [PR]
theorem PR_ofLit (S : SMap) (v : Value) : PR S (ofLit v) v := by
 cases v <;> simp only [ofLit] <;> try exact PR_ofLit1 S _
 case agg cs =>
  simp only [PR]
  refine ⟨cs.toList, by simp, ?_⟩
  induction cs.toList with
  | nil => simp [PRL]
  | cons c r ih => simp only [List.map_cons, PRL]; exact ⟨PR_ofLit1 S c, ih⟩
 case tuple vs =>
  split
  ·rename_i h
   simp only [PR]
   exact ⟨[], by rw [← h], by simp [PRL]⟩
  ·simp only [PR]
theorem PRL_map_ofLit (S : SMap) : ∀ l : List Value, PRL S (l.map ofLit) l
 | [] => by simp [PRL]
 | v :: r => by simp only [List.map_cons, PRL]; exact ⟨PR_ofLit S v, PRL_map_ofLit S r⟩
theorem VR_eta {g : HpF} {m : MapF} {S : SMap} {k : LK} {c : AV} {v : Value} (h : VR g m S c v) (hc : chk k c = true) : VR g m S (eta k c) v := by
 cases k <;> cases c <;> simp [chk] at hc <;> simp only [eta, AV.toInt, AV.toBool, AV.toStr, AV.slX, AV.slN] <;> try exact h
 ·rw [kindNo_inj hc]; exact h
 ·simp only [VR, PR] at h ⊢
  subst h
  exact ⟨none, 0, rfl, Nat.le_refl _, .inl ⟨rfl, trivial, trivial, trivial, rfl⟩⟩
 ·simp only [VR, PR] at h ⊢
  obtain ⟨a, cap, e, hle, q⟩ := h
  refine ⟨a, cap, e, hle, ?_⟩
  rcases q with ⟨q1, _, q2, q3, q4⟩ | q
  ·exact .inl ⟨q1, trivial, q2, q3, q4⟩
  ·exact .inr q
theorem chk_notDead {k : LK} {c : AV} (h : chk k c = true) : c ≠ .dead := by intro e; subst e; cases k <;> simp [chk] at h
theorem getD_some {xs : List AV} {i : Nat} (h : xs.getD i .dead ≠ .dead) : xs[i]? = some (xs.getD i .dead) := by
 rw [List.getD_eq_getElem?_getD] at h ⊢
 cases hx : xs[i]? with
 | none => simp [hx] at h
 | some x => simp
theorem headD_drop (xs : List AV) (off : Nat) : (xs.drop off).headD .dead = xs.getD off .dead := by
 rw [List.headD_eq_head?_getD, List.head?_drop, List.getD_eq_getElem?_getD]
theorem readL_nil (ty : Bool) (xs : List AV) (off : Nat) : readL ty [] xs off = [] := rfl
theorem readL_cons (ty : Bool) (k : LK) (ks : List LK) (xs : List AV) (off : Nat) : readL ty (k :: ks) xs off = (match ty with | true => eta k (xs.getD off .dead) | false => xs.getD off .dead) :: readL ty ks xs (off + 1) := by
 show _ :: readD ty ks (xs.drop off).tail = _ :: readD ty ks (xs.drop (off + 1))
 rw [List.tail_drop]
 cases ty <;> simp only [headD_drop]
theorem chkL_cons (ty : Bool) (k : LK) (ks : List LK) (xs : List AV) (off : Nat) : chkL ty (k :: ks) xs off = (match ty with | true => chk k (xs.getD off .dead) | false => chk .oth (xs.getD off .dead)) :: chkL ty ks xs (off + 1) := by
 show _ :: chkD ty ks (xs.drop off).tail = _ :: chkD ty ks (xs.drop (off + 1))
 rw [List.tail_drop]
 cases ty <;> simp only [headD_drop]
theorem readL_sound {g : HpF} {m : MapF} {S : SMap} (ty : Bool) {xs : List AV} {vs : List Value} (hv : VRL g m S xs vs) : ∀ (lks : List LK) (off : Nat), (∀ b ∈ chkL ty lks xs off, b = true) →
  ∃ us : List Value, us.length = lks.length ∧ (∀ j u, us[j]? = some u → vs[off + j]? = some u) ∧ VRL g m S (readL ty lks xs off) us := by
 intro lks
 induction lks with
 | nil => exact fun off _ => ⟨[], rfl, fun _ _ h => by simp at h, by simp [readL_nil, VRL]⟩
 | cons k ks ih =>
  intro off h
  simp only [chkL_cons, List.mem_cons, forall_eq_or_imp] at h
  obtain ⟨us, hl, hu, hr⟩ := ih (off + 1) h.2
  have key : ∃ v, vs[off]? = some v ∧ VR g m S ((readL ty (k :: ks) xs off).headD .dead) v := by
   rw [readL_cons]
   cases ty with
   | true =>
    obtain ⟨v, hv1, hv2⟩ := VRL_get hv off (getD_some (chk_notDead h.1))
    exact ⟨v, hv1, VR_eta hv2 h.1⟩
   | false =>
    obtain ⟨v, hv1, hv2⟩ := VRL_get hv off (getD_some (chk_notDead h.1))
    exact ⟨v, hv1, hv2⟩
  obtain ⟨v, hv1, hv2⟩ := key
  rw [readL_cons] at hv2
  refine ⟨v :: us, by simp [hl], ?_, ?_⟩
  ·intro j u hj
   cases j with
   | zero => simp at hj; subst hj; simpa using hv1
   | succ j => simp at hj; rw [show off + (j + 1) = off + 1 + j from by omega]; exact hu j u hj
  ·simp only [readL_cons, VRL]; exact ⟨hv2, hr⟩
theorem load_cells {P : Program} {w : World} {t : Nat} {ti : TI} {i : TypeInfo} {d : TypeDesc} {z : Value} (ht : TyR P t ti i d z) {g : HpF} {m : MapF} {S : SMap} {cs : List AV} {us : List Value} {k a : Nat}
  (hl : us.length = ti.lks.length) (hu : ∀ j u, us[j]? = some u → w.cell? ⟨k, a + j, none⟩ = some u) (hr : VRL g m S cs us) {v : AV} (hv : mkVal ti cs = some v) :
  ∃ cv, (loadVar t ⟨k, a, none⟩).run P w = .ok cv w ∧ VR g m S v cv := by
 unfold mkVal at hv
 rw [ht.d_eq, td_isAgg] at hv
 split at hv
 ·rename_i hrow
  cases hv
  refine ⟨.agg us.toArray, run_loadVar_mid w k a t us d hu ht.und hrow (by simp [ht.info, hl, ht.lks]), ?_⟩
  simp only [VR]; exact ⟨us, rfl, hr⟩
 ·rename_i hrow
  split at hv
  ·rename_i c
   cases hv
   cases us with
   | nil => simp [VRL] at hr
   | cons u r =>
    simp only [VRL] at hr
    refine ⟨u, ?_, hr.1⟩
    have hag : (isAgg t).run P w = .ok false w := by
     unfold isAgg; rw [Sem.run_bind, run_underlying ht.und w]
     cases d <;> simp_all [TypeDesc.isRow]
    have hc := hu 0 u rfl
    simp only [Nat.add_zero] at hc
    simp [loadVar, hag, hc]
  ·cases hv
theorem bind_some {α β : Type} {x : Option α} {f : α → Option β} {b : β} (h : x.bind f = some b) : ∃ a, x = some a ∧ f a = some b := by
 cases x with
 | none => simp at h
 | some a => exact ⟨a, rfl, h⟩
theorem pureR_eq {v v' : AV} {bs bs' : List Bool} {ups : List (Nat × Blk)} (h : pureR v bs = some (v', ups, bs')) : v' = v ∧ ups = [] ∧ bs' = bs := by
 unfold pureR at h; cases h; exact ⟨rfl, rfl, rfl⟩
section
variable {P : Program} {ap : AP} {g : HpF} {m : MapF} {S : SMap} {w : World}
theorem loadA_sound (hS : SRel ap g m S w) {rd : HpF} (hrd : ∀ b B, rd b = some B → g b = some B) {t : Nat} {ti : TI} {i : TypeInfo} {d : TypeDesc} {z : Value} (ht : TyR P t ti i d z)
  {p v : AV} {cp : Value} (hp : VR g m S p cp) {ups : List (Nat × Blk)} {bs : List Bool} (h : loadA ti rd p = some (v, ups, bs)) (hbs : ∀ b ∈ bs, b = true) :
  ups = [] ∧ ∃ cv, (Instr.loadAt t cp).run P w = .ok cv w ∧ VR g m S v cv := by
 unfold loadA at h
 split at h
 ·rename_i xs off
  obtain ⟨v', hv', h⟩ := bind_some h
  obtain ⟨rfl, rfl, rfl⟩ := pureR_eq h
  simp only [VR, PR] at hp
  obtain ⟨b, o, vs, rfl, hp, hs⟩ := hp
  obtain ⟨us, hl, hu, hr⟩ := readL_sound (g := g) (m := m) true (VRL_of_PRL _ hp) ti.lks off hbs
  obtain ⟨cv, h1, h2⟩ := load_cells (w := w) ht (k := b) (a := o + off) hl (fun j u hj => by
   have := hS.sealed _ _ _ (hs (off + j) u (hu j u hj)).1; rw [Nat.add_assoc]; exact this) hr hv'
  exact ⟨rfl, cv, by simpa [Instr.loadAt, Instr.sureAddr] using h1, h2⟩
 ·rename_i b ver off
  obtain ⟨B, hB, h⟩ := bind_some h
  split at h
  ·rename_i hver
   obtain ⟨v', hv', h⟩ := bind_some h
   obtain ⟨rfl, rfl, rfl⟩ := pureR_eq h
   simp only [VR] at hp
   obtain ⟨B', hB', _, _, q⟩ := hp
   have hgB := hrd b B hB
   rw [hgB] at hB'; cases hB'
   have q := q (beq_nat hver)
   subst q
   obtain ⟨cur, e, vs, rest, hk, hc, _, hvs, _⟩ := (hS.blk b B hgB).lies
   obtain ⟨us, hl, hu, hr⟩ := readL_sound _ hvs ti.lks off hbs
   obtain ⟨cv, h1, h2⟩ := load_cells (w := w) ht (k := (m b).1) (a := off) hl (fun j u hj => by
    have hj' := hu j u hj
    rw [cell_row hk, hc, List.getElem?_append_left (List.getElem?_eq_some_iff.1 hj').1]
    exact hj') hr hv'
   exact ⟨rfl, cv, by simpa [Instr.loadAt, Instr.sureAddr] using h1, h2⟩
  ·cases h
 ·cases h
theorem offA_sound {p p' : AV} {cp : Value} (hp : VR g m S p cp) {o : Nat} (h : offA p o = some p') : ∃ a : Addr, cp = .pointer (some a) ∧ VR g m S p' (.pointer (some (a.add o))) := by
 unfold offA at h
 split at h <;> cases h
 ·rename_i b ver off
  simp only [VR] at hp
  obtain ⟨B, hB, hv, ⟨k, o', rfl⟩, q⟩ := hp
  refine ⟨_, rfl, ?_⟩
  simp only [VR]
  refine ⟨B, hB, hv, ⟨k, o' + o, by rw [Addr.add_mid]⟩, fun e => ?_⟩
  have q := q e
  simp only [Value.pointer.injEq, Option.some.injEq, Addr.mk.injEq] at q
  obtain ⟨q1, q2, _⟩ := q
  rw [Addr.add_mid, q1, q2]
 ·rename_i xs off
  simp only [VR, PR] at hp
  obtain ⟨b, k, vs, rfl, hp, hs⟩ := hp
  refine ⟨_, rfl, ?_⟩
  simp only [VR, PR]
  exact ⟨b, k, vs, by rw [Addr.add_mid, Nat.add_assoc], hp, hs⟩
end
end AM
namespace AM
open Go
section
variable {P : Program} {ap : AP} {g : HpF} {m : MapF} {S : SMap} {w : World}
theorem all_head {b : Bool} {l : List Bool} (h : ∀ x ∈ b :: l, x = true) : b = true ∧ ∀ x ∈ l, x = true := ⟨h b (by simp), fun x hx => h x (by simp [hx])⟩
theorem ty_sizeOf {t : Nat} {ti : TI} {i : TypeInfo} {d : TypeDesc} {z : Value} (ht : TyR P t ti i d z) (w : World) : (Go.sizeOf t).run P w = .ok ti.size w := by
 simp [Go.sizeOf, typeInfo, ht.info, ht.size]
theorem intAt_sound {x : AV} {cx : Value} (hx : VR g m S x cx) {n : Int} (h : intAt x = some n) : ∃ k, cx = .int k n := by
 cases x <;> simp [intAt] at h
 subst h
 simp only [VR, PR] at hx
 exact ⟨_, hx⟩
theorem fieldAddr_sound {t : Nat} {ti : TI} {i : TypeInfo} {d : TypeDesc} {z : Value} (ht : TyR P t ti i d z) {fs : List (Nat × Nat × Nat)} (hd : ti.d = .struct fs) {f o ft sz : Nat} (hf : fs[f]? = some (o, ft, sz)) (hsz : Nat.blt 0 sz = true)
  {p v : AV} {cp : Value} (hp : VR g m S p cp) (hv : offA p o = some v) : ∃ cv, (Instr.fieldAt t cp f).run P w = .ok cv w ∧ VR g m S v cv := by
 rw [ht.d_eq] at hd
 obtain ⟨fields, rfl, rfl⟩ := td_struct hd
 simp only [List.getElem?_map, Option.map_eq_some_iff] at hf
 obtain ⟨fl, hfl, he⟩ := hf
 simp only [Prod.mk.injEq] at he
 obtain ⟨rfl, rfl, hs⟩ := he
 obtain ⟨a, rfl, hv⟩ := offA_sound hp hv
 refine ⟨_, ?_, hv⟩
 have hfl' : fields[f]? = some fl := by simpa using hfl
 cases hi : P.info? fl.type with
 | none => rw [hi] at hs; simp only at hs; subst hs; exact absurd (blt_nat hsz) (by omega)
 | some j =>
  rw [hi] at hs
  have hj : j.size ≠ 0 := by have := blt_nat hsz; simp only at hs; omega
  simp [Instr.fieldAt, run_underlying ht.und, hfl', Instr.sureAddr, fieldPlace, Go.sizeOf, typeInfo, hi, hj]
theorem nat_of_int {i : Int} {n : Nat} (h0 : decide (0 ≤ i) = true) (h1 : decide (i < n) = true) : 0 ≤ i ∧ i < n ∧ i.toNat < n := by
 have a := of_decide_eq_true h0
 have b := of_decide_eq_true h1
 omega
theorem indexAddrA_sound (hap : ApOk P ap) {rd : HpF} (hrd : ∀ b B, rd b = some B → g b = some B) {t : Nat} {ti : TI} {i : TypeInfo} {d : TypeDesc} {z : Value} (ht : TyR P t ti i d z)
  {x ix v : AV} {cx ci : Value} (hx : VR g m S x cx) (hi : VR g m S ix ci) {ups : List (Nat × Blk)} {bs : List Bool} (h : indexAddrA ap ti rd x ix = some (v, ups, bs)) (hbs : ∀ b ∈ bs, b = true) :
  ups = [] ∧ ∃ cv, (Instr.indexAt t cx ci).run P w = .ok cv w ∧ VR g m S v cv := by
 unfold indexAddrA at h
 have hq := bind_some h; clear h; obtain ⟨n, hn, h⟩ := hq
 obtain ⟨k, rfl⟩ := intAt_sound hi hn
 split at h
 ·rename_i e hd
  have hq := bind_some h; clear h; obtain ⟨te, hte, h⟩ := hq
  obtain ⟨ie, de, ze, hte⟩ := ti_of hap hte
  rw [ht.d_eq] at hd
  have hd := td_slice hd
  subst hd
  split at h
  ·rename_i xs len nn
   obtain ⟨rfl, rfl, rfl⟩ := pureR_eq h
   obtain ⟨b1, b2⟩ := all_head hbs
   obtain ⟨b2, _⟩ := all_head b2
   obtain ⟨h0, h1, h2⟩ := nat_of_int b1 b2
   simp only [VR, PR] at hx
   obtain ⟨a, cap, rfl, hle, q⟩ := hx
   rcases q with ⟨_, _, _, q, _⟩ | ⟨b, o, vs, rfl, hp, hs⟩
   ·subst q; omega
   ·refine ⟨rfl, .pointer (some ⟨b, o + n.toNat * te.size, none⟩), ?_, ?_⟩
    ·simp [Instr.indexAt, asIntOf, run_underlying ht.und, h0, h1, ty_sizeOf hte, Addr.add_mid]
    ·simp only [VR, PR]; exact ⟨b, o, vs, rfl, hp, hs⟩
  ·rename_i b ver j len
   have hq := bind_some h; clear h; obtain ⟨B, hB, h⟩ := hq
   split at h
   ·rename_i hc
    simp only [Bool.and_eq_true] at hc
    obtain ⟨rfl, rfl, rfl⟩ := pureR_eq h
    obtain ⟨b1, b2⟩ := all_head hbs
    obtain ⟨b2, _⟩ := all_head b2
    obtain ⟨h0, h1, h2⟩ := nat_of_int b1 b2
    simp only [VR] at hx
    obtain ⟨B', hB', hv, _, q⟩ := hx
    have hg := hrd b B hB
    rw [hg] at hB'; cases hB'
    obtain ⟨o, rfl, q1, q2, q3⟩ := q (beq_nat hc.1)
    have ho := q2 (by omega)
    have hes := beq_nat hc.2
    refine ⟨rfl, .pointer (some ⟨(m b).1, (j + n.toNat) * te.size, none⟩), ?_, ?_⟩
    ·rw [ho, hes]
     simp [Instr.indexAt, asIntOf, run_underlying ht.und, h0, h1, ty_sizeOf hte, Addr.add_mid, Nat.add_mul]
    ·simp only [VR]; exact ⟨B, hg, by have := beq_nat hc.1; omega, ⟨_, _, rfl⟩, fun _ => trivial⟩
   ·cases h
  ·cases h
 ·rename_i len e hd
  have hq := bind_some h; clear h; obtain ⟨te, hte, h⟩ := hq
  obtain ⟨ie, de, ze, hte⟩ := ti_of hap hte
  have hq := bind_some h; clear h; obtain ⟨p, hp, h⟩ := hq
  obtain ⟨rfl, rfl, rfl⟩ := pureR_eq h
  rw [ht.d_eq] at hd
  have hd := td_array hd
  subst hd
  obtain ⟨b1, b2⟩ := all_head hbs
  obtain ⟨b2, _⟩ := all_head b2
  obtain ⟨h0, h1, h2⟩ := nat_of_int b1 b2
  obtain ⟨a, rfl, hv⟩ := offA_sound hx hp
  refine ⟨rfl, _, ?_, hv⟩
  simp [Instr.indexAt, asIntOf, run_underlying ht.und, h0, h1, ty_sizeOf hte, Instr.sureAddr]
 ·cases h
theorem part_cells {t : Nat} {ti : TI} {i : TypeInfo} {d : TypeDesc} {z : Value} (ht : TyR P t ti i d z) {vs us : List Value} {cs : List AV} {off : Nat}
  (hl : us.length = ti.lks.length) (hu : ∀ j u, us[j]? = some u → vs[off + j]? = some u) (hr : VRL g m S cs us) {v : AV} (hv : mkVal ti cs = some v) :
  ∃ cv, (part t vs.toArray off).run P w = .ok cv w ∧ VR g m S v cv := by
 have hag : (isAgg t).run P w = .ok d.isRow w := by
  unfold isAgg; rw [Sem.run_bind, run_underlying ht.und w]
  cases d <;> simp [TypeDesc.isRow]
 unfold mkVal at hv
 rw [ht.d_eq, td_isAgg] at hv
 split at hv
 ·rename_i hrow
  cases hv
  have hx : (vs.drop off).take ti.size = us := by
   apply List.ext_getElem?
   intro j
   rw [List.getElem?_take, List.getElem?_drop]
   have hsz : ti.size = us.length := by rw [hl, ht.lks, ht.size]
   split
   ·rename_i hj
    have hj' : j < us.length := by omega
    have := hu j us[j] (List.getElem?_eq_getElem hj')
    rw [this, List.getElem?_eq_getElem hj']
   ·rename_i hj
    rw [List.getElem?_eq_none (by omega)]
  refine ⟨.agg us.toArray, ?_, ?_⟩
  ·simp [part, hag, hrow, ty_sizeOf ht, hx]
  ·simp only [VR]; exact ⟨us, rfl, hr⟩
 ·rename_i hrow
  split at hv
  ·rename_i c
   cases hv
   cases us with
   | nil => simp [VRL] at hr
   | cons u r =>
    simp only [VRL] at hr
    refine ⟨u, ?_, hr.1⟩
    have hc := hu 0 u rfl
    simp only [Nat.add_zero] at hc
    have hrow : d.isRow = false := by simpa using hrow
    simp [part, hag, hrow, hc]
  ·cases hv
theorem fieldA_sound (hap : ApOk P ap) {t : Nat} {ti : TI} {i : TypeInfo} {d : TypeDesc} {z : Value} (ht : TyR P t ti i d z) {x v : AV} {cx : Value} (hx : VR g m S x cx) {f : Nat} {ups : List (Nat × Blk)} {bs : List Bool}
  (h : fieldA ap ti x f = some (v, ups, bs)) (hbs : ∀ b ∈ bs, b = true) : ups = [] ∧ ∃ cv, (Instr.field t cx f).run P w = .ok cv w ∧ VR g m S v cv := by
 unfold fieldA at h
 split at h
 ·rename_i fs cs hd
  have hq := bind_some h; clear h; obtain ⟨⟨o, ft, sz⟩, hf, h⟩ := hq
  have hq := bind_some h; clear h; obtain ⟨tf, htf, h⟩ := hq
  have hq := bind_some h; clear h; obtain ⟨v', hv', h⟩ := hq
  obtain ⟨rfl, rfl, rfl⟩ := pureR_eq h
  obtain ⟨ie, de, ze, htf⟩ := ti_of hap htf
  rw [ht.d_eq] at hd
  obtain ⟨fields, rfl, rfl⟩ := td_struct hd
  simp only [List.getElem?_map, Option.map_eq_some_iff] at hf
  obtain ⟨fl, hfl, he⟩ := hf
  simp only [Prod.mk.injEq] at he
  obtain ⟨rfl, rfl, hs⟩ := he
  simp only [VR] at hx
  obtain ⟨vs, rfl, hx⟩ := hx
  obtain ⟨us, hl, hu, hr⟩ := readL_sound false hx tf.lks fl.offset hbs
  obtain ⟨cv, h1, h2⟩ := part_cells (w := w) htf hl hu hr hv'
  have hfl' : fields[f]? = some fl := by simpa using hfl
  refine ⟨rfl, cv, ?_, h2⟩
  simp [Instr.field, run_underlying ht.und, hfl', asAgg, h1]
 ·cases h
theorem getD_str (s : List UInt8) (i : Nat) (h : i < s.length) : (⟨s.toArray⟩ : ByteArray)[i]? = some (s.getD i 0) := by
 have hs : i < (⟨s.toArray⟩ : ByteArray).size := by simpa [ByteArray.size] using h
 rw [getElem?_pos _ i hs]
 simp only [ByteArray.getElem_eq_getElem_data, List.getElem_toArray]
 rw [List.getD_eq_getElem?_getD, List.getElem?_eq_getElem h]
 rfl
theorem indexA_sound (hap : ApOk P ap) {t : Nat} {ti : TI} {i : TypeInfo} {d : TypeDesc} {z : Value} (ht : TyR P t ti i d z) {x ix v : AV} {cx ci : Value} (hx : VR g m S x cx) (hi : VR g m S ix ci) {ups : List (Nat × Blk)} {bs : List Bool}
  (h : indexA ap ti x ix = some (v, ups, bs)) (hbs : ∀ b ∈ bs, b = true) : ups = [] ∧ ∃ cv, (Instr.index t cx ci).run P w = .ok cv w ∧ VR g m S v cv := by
 unfold indexA at h
 have hq := bind_some h; clear h; obtain ⟨n, hn, h⟩ := hq
 obtain ⟨k, rfl⟩ := intAt_sound hi hn
 split at h
 ·rename_i s hd
  obtain ⟨rfl, rfl, rfl⟩ := pureR_eq h
  obtain ⟨b1, b2⟩ := all_head hbs
  obtain ⟨b2, _⟩ := all_head b2
  obtain ⟨h0, h1, h2⟩ := nat_of_int b1 b2
  rw [ht.d_eq] at hd
  have hd := td_str hd
  subst hd
  simp only [VR, PR] at hx
  subst hx
  refine ⟨rfl, .int .u8 (s.getD n.toNat 0).toNat, ?_, by simp only [VR, PR]⟩
  simp [Instr.index, asIntOf, run_underlying ht.und, h0, getD_str s n.toNat h2]
 ·rename_i len e cs hd
  have hq := bind_some h; clear h; obtain ⟨te, hte, h⟩ := hq
  have hq := bind_some h; clear h; obtain ⟨v', hv', h⟩ := hq
  obtain ⟨rfl, rfl, rfl⟩ := pureR_eq h
  obtain ⟨ie, de, ze, hte⟩ := ti_of hap hte
  obtain ⟨b1, b2⟩ := all_head hbs
  obtain ⟨b2, b3⟩ := all_head b2
  obtain ⟨h0, h1, h2⟩ := nat_of_int b1 b2
  rw [ht.d_eq] at hd
  have hd := td_array hd
  subst hd
  simp only [VR] at hx
  obtain ⟨vs, rfl, hx⟩ := hx
  obtain ⟨us, hl, hu, hr⟩ := readL_sound true hx te.lks (n.toNat * te.size) b3
  obtain ⟨cv, h1', h2'⟩ := part_cells (w := w) hte hl hu hr hv'
  refine ⟨rfl, cv, ?_, h2'⟩
  simp [Instr.index, asIntOf, run_underlying ht.und, h0, h1, ty_sizeOf hte, h1']
 ·cases h
end
end AM
namespace AM
open Go
section
variable {P : Program} {ap : AP} {g : HpF} {m : MapF} {S : SMap} {w : World}
def BndR (g : HpF) (m : MapF) (S : SMap) (x : Option AV) (c : Option Value) : Prop :=
 match x, c with
 | none, none => True
 | some x, some c => VR g m S x c
 | _, _ => False
theorem optInt_sound {x : Option AV} {c : Option Value} (h : BndR g m S x c) {d n : Int} (hn : optInt x d = some n) : (x = none ∧ c = none ∧ n = d) ∨ ∃ k, c = some (.int k n) := by
 cases x with
 | none => cases c with
  | none => simp [optInt] at hn; exact .inl ⟨rfl, rfl, hn.symm⟩
  | some c => simp [BndR] at h
 | some x => cases c with
  | none => simp [BndR] at h
  | some c =>
   cases x <;> simp [optInt] at hn
   subst hn
   simp only [BndR, VR, PR] at h
   subst h
   exact .inr ⟨_, rfl⟩
theorem run_bounds (P : Program) (w : World) (isS : Bool) (len cap : Nat) (lo hi : Option Value) (l h : Int)
  (hl : (lo = none ∧ l = 0) ∨ ∃ k, lo = some (.int k l)) (hh : (hi = none ∧ h = len) ∨ ∃ k, hi = some (.int k h)) (h0 : 0 ≤ l) (h1 : l ≤ h) (h2 : h ≤ cap) :
  (Instr.sliceBounds isS len cap lo hi none).run P w = .ok (l.toNat, h.toNat, cap) w := by
 have h4 : 0 ≤ h := by omega
 rcases hl with ⟨rfl, rfl⟩ | ⟨k, rfl⟩ <;> rcases hh with ⟨rfl, rfl⟩ | ⟨k', rfl⟩
 ·simp [Instr.sliceBounds]
 ·simp [Instr.sliceBounds, Instr.sliceBound, asIntOf, h2, h4]
 ·have h3' : l ≤ (len : Int) := h1
  simp [Instr.sliceBounds, Instr.sliceBound, asIntOf, h0, h3']
 ·simp [Instr.sliceBounds, Instr.sliceBound, asIntOf, h0, h2, h4]
  intro hc; omega
theorem extract_str (s : List UInt8) (l h : Nat) : (⟨s.toArray⟩ : ByteArray).extract l h = ⟨((s.take h).drop l).toArray⟩ := by
 apply ByteArray.ext
 rw [ByteArray.data_extract]
 apply Array.ext'
 simp [List.extract_eq_take_drop, List.drop_take]
theorem size_str (s : List UInt8) : (⟨s.toArray⟩ : ByteArray).size = s.length := by simp [ByteArray.size]
theorem Sealed.drop {b o : Nat} {vs : List Value} (h : Sealed S b o vs) (n : Nat) : Sealed S b (o + n) (vs.drop n) := by
 intro j u hj
 rw [List.getElem?_drop] at hj
 rw [Nat.add_assoc]
 exact h _ _ hj
theorem Sealed.take {b o : Nat} {vs : List Value} (h : Sealed S b o vs) (n : Nat) : Sealed S b o (vs.take n) := by
 intro j u hj
 rw [List.getElem?_take] at hj
 split at hj
 ·exact h _ _ hj
 ·cases hj
theorem all3 {a b c : Bool} (h : ∀ x ∈ [a, b, c], x = true) : a = true ∧ b = true ∧ c = true := ⟨h a (by simp), h b (by simp), h c (by simp)⟩
theorem drop_take_nil {α : Type} (xs : List α) (n : Nat) : (xs.take n).drop n = [] := by
 apply List.drop_eq_nil_of_le; simp; omega
theorem sliceA_sound (hap : ApOk P ap) {rd : HpF} (hrd : ∀ b B, rd b = some B → g b = some B) {t : Nat} {ti : TI} {i : TypeInfo} {d : TypeDesc} {z : Value} (ht : TyR P t ti i d z)
  {x v : AV} {cx : Value} (hx : VR g m S x cx) {lo hi mx : Option AV} {clo chi cmx : Option Value} (hlo : BndR g m S lo clo) (hhi : BndR g m S hi chi) (hmx : BndR g m S mx cmx)
  {ups : List (Nat × Blk)} {bs : List Bool} (h : sliceA ap ti rd x lo hi mx = some (v, ups, bs)) (hbs : ∀ b ∈ bs, b = true) :
  ups = [] ∧ ∃ cv, (Instr.sliceAt t cx clo chi cmx).run P w = .ok cv w ∧ VR g m S v cv := by
 have hmx0 : mx = none → cmx = none := by intro e; subst e; cases cmx <;> simp [BndR] at hmx ⊢
 unfold sliceA at h
 split at h
 ·rename_i s hd
  have hq := bind_some h; clear h; obtain ⟨l, hl, h⟩ := hq
  have hq := bind_some h; clear h; obtain ⟨u, hu, h⟩ := hq
  obtain ⟨rfl, rfl, rfl⟩ := pureR_eq h
  obtain ⟨b1, b2, b3⟩ := all3 hbs
  have b1 := of_decide_eq_true b1
  have b2 := of_decide_eq_true b2
  have b3 := of_decide_eq_true b3
  rw [ht.d_eq] at hd
  have hd := td_str hd
  subst hd
  simp only [VR, PR] at hx
  subst hx
  rw [hmx0 rfl]
  have hb := run_bounds P w false s.length s.length clo chi l u ((optInt_sound hlo hl).imp (fun h => ⟨h.2.1, h.2.2⟩) id) ((optInt_sound hhi hu).imp (fun h => ⟨h.2.1, h.2.2⟩) id) b1 b2 b3
  refine ⟨rfl, .string ⟨((s.take u.toNat).drop l.toNat).toArray⟩, ?_, by simp only [VR, PR]⟩
  rw [← extract_str]
  simp [Instr.sliceAt, Instr.slice, run_underlying ht.und, size_str, hb]
 ·rename_i e xs n nn hd
  have hq := bind_some h; clear h; obtain ⟨te, hte, h⟩ := hq
  have hq := bind_some h; clear h; obtain ⟨l, hl, h⟩ := hq
  have hq := bind_some h; clear h; obtain ⟨u, hu, h⟩ := hq
  obtain ⟨rfl, rfl, rfl⟩ := pureR_eq h
  obtain ⟨ie, de, ze, hte⟩ := ti_of hap hte
  obtain ⟨b1, b2, b3⟩ := all3 hbs
  have b1 := of_decide_eq_true b1
  have b2 := of_decide_eq_true b2
  have b3 := of_decide_eq_true b3
  rw [ht.d_eq] at hd
  have hd := td_slice hd
  subst hd
  simp only [VR, PR] at hx
  obtain ⟨a, cap, rfl, hle, q⟩ := hx
  rw [hmx0 rfl]
  have hb := run_bounds P w true n cap clo chi l u ((optInt_sound hlo hl).imp (fun h => ⟨h.2.1, h.2.2⟩) id) ((optInt_sound hhi hu).imp (fun h => ⟨h.2.1, h.2.2⟩) id) b1 b2 (by omega)
  refine ⟨rfl, .slice (if cap = l.toNat then a else a.map (·.add (l.toNat * te.size))) (u.toNat - l.toNat) (cap - l.toNat), ?_, ?_⟩
  ·simp [Instr.sliceAt, Instr.slice, run_underlying ht.und, hb, ty_sizeOf hte]
  ·simp only [VR, PR]
   refine ⟨_, _, rfl, by omega, ?_⟩
   rcases q with ⟨rfl, q1, rfl, rfl, rfl⟩ | ⟨b, o, vs, rfl, hp, hs⟩
   ·refine .inl ⟨by simp, q1, by simp, by omega, by omega⟩
   ·refine .inr ?_
    by_cases hc : cap = l.toNat
    ·refine ⟨b, o, [], by rw [if_pos hc], ?_, fun j u h => by simp at h⟩
     have e : (xs.take (u.toNat * te.size)).drop (l.toNat * te.size) = [] := by
      have : u.toNat = l.toNat := by omega
      rw [this, drop_take_nil]
     rw [e]; simp [PRL]
    ·exact ⟨b, o + l.toNat * te.size, (vs.take (u.toNat * te.size)).drop (l.toNat * te.size), by rw [if_neg hc]; simp [Addr.add_mid], PRL_drop _ (PRL_take _ hp), (hs.take _).drop _⟩
 ·rename_i e b ver j n hd
  have hq := bind_some h; clear h; obtain ⟨te, hte, h⟩ := hq
  have hq := bind_some h; clear h; obtain ⟨B, hB, h⟩ := hq
  have hq := bind_some h; clear h; obtain ⟨l, hl, h⟩ := hq
  have hq := bind_some h; clear h; obtain ⟨u, hu, h⟩ := hq
  split at h
  ·rename_i hc
   simp only [Bool.and_eq_true] at hc
   obtain ⟨rfl, rfl, rfl⟩ := pureR_eq h
   obtain ⟨ie, de, ze, hte⟩ := ti_of hap hte
   obtain ⟨b1, b2, b3⟩ := all3 hbs
   have b1 := of_decide_eq_true b1
   have b2 := of_decide_eq_true b2
   have b3 := of_decide_eq_true b3
   rw [ht.d_eq] at hd
   have hd := td_slice hd
   subst hd
   simp only [VR] at hx
   obtain ⟨B', hB', hv, _, q⟩ := hx
   have hg := hrd b B hB
   rw [hg] at hB'; cases hB'
   obtain ⟨o, rfl, q1, q2, q3⟩ := q (beq_nat hc.1)
   have hes := beq_nat hc.2
   rw [hmx0 rfl]
   have hb := run_bounds P w true n ((m b).2 - j) clo chi l u ((optInt_sound hlo hl).imp (fun h => ⟨h.2.1, h.2.2⟩) id) ((optInt_sound hhi hu).imp (fun h => ⟨h.2.1, h.2.2⟩) id) b1 b2 (by omega)
   refine ⟨rfl, .slice (if (m b).2 - j = l.toNat then some ⟨(m b).1, o, none⟩ else some ⟨(m b).1, o + l.toNat * te.size, none⟩) (u.toNat - l.toNat) ((m b).2 - j - l.toNat), ?_, ?_⟩
   ·simp [Instr.sliceAt, Instr.slice, run_underlying ht.und, hb, ty_sizeOf hte, Addr.add_mid]
   ·simp only [VR]
    refine ⟨B, hg, hv, (by split <;> exact ⟨_, _, _, rfl⟩), fun _ => ?_⟩
    by_cases hcl : (m b).2 - j = l.toNat
    ·exact ⟨o, by rw [if_pos hcl]; congr 1; omega, by omega, fun h => by omega, q3⟩
    ·refine ⟨o + l.toNat * te.size, by rw [if_neg hcl]; congr 1; omega, by omega, fun h => ?_, q3⟩
     rw [q2 (by omega), hes, Nat.add_mul]
  ·cases h
 ·rename_i e hd
  have hq := bind_some h; clear h; obtain ⟨te, hte, h⟩ := hq
  have hq := bind_some h; clear h; obtain ⟨l, hl, h⟩ := hq
  have hq := bind_some h; clear h; obtain ⟨u, hu, h⟩ := hq
  obtain ⟨rfl, rfl, rfl⟩ := pureR_eq h
  obtain ⟨ie, de, ze, hte⟩ := ti_of hap hte
  have b1 := of_decide_eq_true (hbs (decide (l = 0)) (by simp))
  have b2 := of_decide_eq_true (hbs (decide (u = 0)) (by simp))
  subst b1
  subst b2
  rw [ht.d_eq] at hd
  have hd := td_slice hd
  subst hd
  simp only [VR, PR] at hx
  subst hx
  rw [hmx0 rfl]
  have hb := run_bounds P w true 0 0 clo chi 0 0 ((optInt_sound hlo hl).imp (fun h => ⟨h.2.1, h.2.2⟩) id) ((optInt_sound hhi hu).imp (fun h => ⟨h.2.1, h.2.2⟩) id) (by omega) (by omega) (by omega)
  refine ⟨rfl, .slice none 0 0, ?_, by simp only [VR, PR]⟩
  simp at hb
  simp [Instr.sliceAt, Instr.slice, run_underlying ht.und, hb, ty_sizeOf hte]
 ·cases h
theorem lenA_sound {x v : AV} {cx : Value} (hx : VR g m S x cx) {t : Nat} {ti : TI} {i : TypeInfo} {d : TypeDesc} {z : Value} (ht : TyR P t ti i d z)
  {ups : List (Nat × Blk)} {bs : List Bool} (h : lenA ti.d x = some (v, ups, bs)) (ats : Array TypeId) (hat : ats[0]? = some t) (args : Array Value) (ha : args[0]? = some cx) (ty : Nat) :
  ups = [] ∧ ∃ cv, (Builtin.len_ ats ty args).run P w = .ok cv w ∧ VR g m S v cv := by
 unfold lenA at h
 rw [ht.d_eq] at h
 split at h
 ·rename_i n e hd
  obtain ⟨rfl, rfl, rfl⟩ := pureR_eq h
  have hd := td_array hd
  subst hd
  exact ⟨rfl, .int .i64 n, by simp [Builtin.len_, hat, ha, run_underlying ht.und, goInt], by simp only [VR, PR]⟩
 ·rename_i s hd
  obtain ⟨rfl, rfl, rfl⟩ := pureR_eq h
  have hd := td_str hd
  subst hd
  simp only [VR, PR] at hx
  subst hx
  exact ⟨rfl, .int .i64 s.length, by simp [Builtin.len_, hat, ha, run_underlying ht.und, goInt, size_str], by simp only [VR, PR]⟩
 ·rename_i e xs n nn hd
  obtain ⟨rfl, rfl, rfl⟩ := pureR_eq h
  have hd := td_slice hd
  subst hd
  simp only [VR, PR] at hx
  obtain ⟨a, cap, rfl, _⟩ := hx
  exact ⟨rfl, .int .i64 n, by simp [Builtin.len_, hat, ha, run_underlying ht.und, goInt], by simp only [VR, PR]⟩
 ·rename_i e b ver j n hd
  obtain ⟨rfl, rfl, rfl⟩ := pureR_eq h
  have hd := td_slice hd
  subst hd
  simp only [VR] at hx
  obtain ⟨_, _, _, ⟨_, _, cap, rfl⟩, _⟩ := hx
  exact ⟨rfl, .int .i64 n, by simp [Builtin.len_, hat, ha, run_underlying ht.und, goInt], by simp only [VR, PR]⟩
 ·rename_i e hd
  obtain ⟨rfl, rfl, rfl⟩ := pureR_eq h
  have hd := td_slice hd
  subst hd
  simp only [VR, PR] at hx
  subst hx
  exact ⟨rfl, .int .i64 0, by simp [Builtin.len_, hat, ha, run_underlying ht.und, goInt], by simp only [VR, PR]⟩
 ·cases h
theorem toList_str (s : List UInt8) : (⟨s.toArray⟩ : ByteArray).toList = s := by rw [ByteArray.toList_eq]
theorem bytesLess_eq : ∀ a b : List UInt8, Op.bytesLess a b = bytesLt a b
 | _, [] => by simp [Op.bytesLess, bytesLt]
 | [], _ :: _ => by simp [Op.bytesLess, bytesLt]
 | a :: x, b :: y => by simp only [Op.bytesLess, bytesLt, bytesLess_eq x y]
def eqVal : LK → Value → Value → Option Bool
 | .int k, .int k1 a, .int k2 b => match sameKind k k1 && sameKind k k2 with | true => some (a == b) | false => none
 | .bool, .bool a, .bool b => some (a == b)
 | .str, .string a, .string b => some (a.toList == b.toList)
 | _, _, _ => none
def eqVals : List LK → List Value → List Value → Option Bool
 | [], [], [] => some true
 | k :: ks, a :: as, b :: bs => (eqVal k a b).bind fun c => (eqVals ks as bs).map fun d => c && d
 | _, _, _ => none
theorem eqVals_split : ∀ (l l' : List LK) (xs ys : List Value) (r : Bool), eqVals (l ++ l') xs ys = some r →
  ∃ a b, eqVals l (xs.take l.length) (ys.take l.length) = some a ∧ eqVals l' (xs.drop l.length) (ys.drop l.length) = some b ∧ r = (a && b)
 | [], l', xs, ys, r, h => ⟨true, r, by simp [eqVals], by simpa using h, by simp⟩
 | k :: l, l', [], _, r, h => by simp [eqVals] at h
 | k :: l, l', _ :: _, [], r, h => by simp [eqVals] at h
 | k :: l, l', x :: xs, y :: ys, r, h => by
  simp only [List.cons_append, eqVals] at h
  obtain ⟨c, hc, h⟩ := bind_some h
  rw [Option.map_eq_some_iff] at h
  obtain ⟨d, hd, rfl⟩ := h
  obtain ⟨a, b, h1, h2, rfl⟩ := eqVals_split l l' xs ys d hd
  exact ⟨c && a, b, by simp [eqVals, hc, h1], by simpa using h2, by simp [Bool.and_assoc]⟩
theorem eqVals_length : ∀ (l : List LK) (xs ys : List Value) (r : Bool), eqVals l xs ys = some r → xs.length = l.length ∧ ys.length = l.length
 | [], [], [], _, _ => ⟨rfl, rfl⟩
 | k :: l, x :: xs, y :: ys, r, h => by
  simp only [eqVals] at h
  obtain ⟨c, _, h⟩ := bind_some h
  rw [Option.map_eq_some_iff] at h
  obtain ⟨d, hd, _⟩ := h
  have := eqVals_length l xs ys d hd
  simp [this.1, this.2]
 | [], _ :: _, _, _, h => by simp [eqVals] at h
 | [], [], _ :: _, _, h => by simp [eqVals] at h
 | _ :: _, [], _, _, h => by simp [eqVals] at h
 | _ :: _, _ :: _, [], _, h => by simp [eqVals] at h
def valOf (P : Program) (t : TypeId) (xs : List Value) : Value := match P.underlying t with
 | some (.struct _) => .agg xs.toArray
 | _ => xs.headD undef
def CmpOk (P : Program) (n : Nat) (t : TypeId) (lks : List LK) : Prop :=
 ∀ (d : Nat) (w : World) (xs ys : List Value) (r : Bool), n ≤ d → eqVals lks xs ys = some r → (Op.equalIn d t (valOf P t xs) (valOf P t ys)).run P w = .ok r w
theorem run_part_at {t : TypeId} {lks : List LK} {n : Nat} (hc : cmpOf P n t = some lks) {i : TypeInfo} (hi : P.info? t = some i) (hs : i.size = lks.length) (xs : List Value) (off : Nat) (hl : off + lks.length ≤ xs.length) (w : World) :
  (part t xs.toArray off).run P w = .ok (valOf P t ((xs.drop off).take lks.length)) w := by
 cases n with
 | zero => simp [cmpOf] at hc
 | succ n =>
  unfold cmpOf at hc
  cases hu : P.underlying t with
  | none => simp [hu] at hc
  | some d =>
   have hag : (isAgg t).run P w = .ok d.isRow w := by
    unfold isAgg; rw [Sem.run_bind, run_underlying hu w]
    cases d <;> simp [TypeDesc.isRow]
   cases d <;> simp only [hu] at hc <;> try cases hc
   case struct fs =>
    simp only [TypeDesc.isRow] at hag
    simp [part, hag, Go.sizeOf, typeInfo, hi, hs, valOf, hu]
   all_goals
    simp only [TypeDesc.isRow] at hag
    simp only [List.length_cons, List.length_nil, Nat.zero_add] at hl
    have hx : xs[off]? = some (xs[off]'(by omega)) := List.getElem?_eq_getElem (by omega)
    simp only [part, Sem.run_bind, hag, Result.andThen_ok, Bool.false_eq_true, if_false, valOf, hu]
    have e : ((xs.drop off).take [LK.str].length).headD undef = xs[off]'(by omega) := by
     rw [List.headD_eq_head?_getD, List.head?_take, List.head?_drop, hx]; simp
    have h2 : (xs.toArray)[off]? = some (xs[off]'(by omega)) := by simp
    rw [h2]
    first | exact congrArg (fun v => Result.ok v w) e.symm | (simp only [List.length_cons, List.length_nil] at e ⊢; exact congrArg (fun v => Result.ok v w) e.symm)
theorem run_eqFields_ok {n : Nat} (ih : ∀ t lks, cmpOf P n t = some lks → CmpOk P n t lks) : ∀ (fs : List Field) (off : Nat) (lks : List LK), cmpFs P (cmpOf P n) fs off = some lks →
  ∀ (d : Nat) (w : World) (xs ys : List Value) (r : Bool), n ≤ d → xs.length = off + lks.length → ys.length = off + lks.length → eqVals lks (xs.drop off) (ys.drop off) = some r →
   (Op.eqFields d xs.toArray ys.toArray fs).run P w = .ok r w
 | [], off, lks, hc, d, w, xs, ys, r, hd, hx, hy, h => by
  simp [cmpFs] at hc; subst hc
  have e1 : xs.drop off = [] := List.drop_eq_nil_of_le (by simp at hx; omega)
  have e2 : ys.drop off = [] := List.drop_eq_nil_of_le (by simp at hy; omega)
  rw [e1, e2] at h
  simp [eqVals] at h; subst h
  simp [Op.eqFields]
 | f :: fs, off, lks, hc, d, w, xs, ys, r, hd, hx, hy, h => by
  simp only [cmpFs] at hc
  cases hf : cmpOf P n f.type with
  | none => simp [hf] at hc
  | some l =>
   simp only [hf] at hc
   split at hc
   ·rename_i hcond
    simp only [Bool.and_eq_true, Bool.not_eq_true'] at hcond
    obtain ⟨⟨c1, c2⟩, c3⟩ := hcond
    cases hr : cmpFs P (cmpOf P n) fs (off + l.length) with
    | none => simp [hr] at hc
    | some l' =>
     simp only [hr] at hc
     cases hc
     cases hi : P.info? f.type with
     | none => simp [hi] at c3
     | some i =>
      simp only [hi] at c3
      have c3 := beq_nat c3
      have c2 := beq_nat c2
      have hne : f.name ≠ "_" := by intro e; rw [e] at c1; exact absurd c1 (by decide)
      simp only [List.length_append] at hx hy
      obtain ⟨a, b, h1, h2, rfl⟩ := eqVals_split l l' _ _ r h
      have p1 := run_part_at hf hi c3 xs off (by omega) w
      have p2 := run_part_at hf hi c3 ys off (by omega) w
      have p3 := ih f.type l hf d w _ _ a hd h1
      have p4 := run_eqFields_ok ih fs (off + l.length) l' hr d w xs ys b hd (by omega) (by omega) (by simpa [List.drop_drop, Nat.add_comm] using h2)
      simp only [Op.eqFields, hne, ne_eq, not_false_eq_true, if_true, Sem.run_bind, c2, p1, p2, p3, Result.andThen_ok]
      cases a
      ·simp
      ·simpa using p4
   ·cases hc
theorem cmpOf_ok : ∀ (n : Nat) (t : TypeId) (lks : List LK), cmpOf P n t = some lks → CmpOk P n t lks
  | 0, _, _, h => by simp [cmpOf] at h
  | n + 1, t, lks, h => by
    intro d w xs ys r hd hr
    obtain ⟨d, rfl⟩ : ∃ k, d = k + 1 := ⟨d - 1, by omega⟩
    have hl := eqVals_length _ _ _ _ hr
    unfold cmpOf at h
    cases hu : P.underlying t with
    | none => simp [hu] at h
    | some ds =>
      cases ds <;> simp only [hu] at h <;> try cases h
      case struct fs =>
        split at h
        · cases h
        · rename_i hst
          have hfo : P.fieldsOf t = fs := by simp [Program.fieldsOf, hu]
          have e := run_equalIn_struct (P := P) w d t xs.toArray ys.toArray (by rw [hfo]; exact hu) hst
          simp only [valOf, hu]
          rw [e, hfo]
          exact run_eqFields_ok (cmpOf_ok n) fs.toList 0 lks h d w xs ys r (by omega) (by simp [hl.1]) (by simp [hl.2]) (by simpa using hr)
      all_goals
        simp only [List.length_cons, List.length_nil, Nat.zero_add] at hl
        match xs, ys, hl, hr with
        | [x], [y], _, hr =>
          simp only [eqVals, Option.map_some, Bool.and_true] at hr
          obtain ⟨c, hc, hr⟩ := bind_some hr
          cases hr
          simp only [valOf, hu, List.headD_cons]
          cases x <;> cases y <;> simp [eqVal] at hc
          first
            | (split at hc
               · rename_i hk
                 simp only [Bool.and_eq_true] at hk
                 obtain rfl := kindNo_inj hk.1
                 obtain rfl := kindNo_inj hk.2
                 cases hc
                 exact run_equalIn_int (P := P) w d t _ _ _ _ hu
               · cases hc)
            | (subst hc; rw [run_equalIn_bool' (P := P) w d t _ _ hu])
            | (subst hc; rw [run_equalIn_string (P := P) w d t _ _ hu])
end
end AM
namespace AM
open Go
section
variable {P : Program} {ap : AP} {g : HpF} {m : MapF} {S : SMap} {w : World}
theorem td_ptr {d : TypeDesc} (h : tdOf P (some d) = .ptr) : ∃ e, d = .pointer e := by cases d <;> simp [tdOf] at h; exact ⟨_, rfl⟩
theorem td_func {d : TypeDesc} (h : tdOf P (some d) = .func) : ∃ a b c, d = .func a b c := by cases d <;> simp [tdOf] at h; exact ⟨_, _, _, rfl⟩
theorem td_iface {d : TypeDesc} (h : tdOf P (some d) = .iface) : ∃ e, d = .interface e := by cases d <;> simp [tdOf] at h; exact ⟨_, rfl⟩
theorem lkEq_eq {a b : LK} (h : lkEq a b = true) : a = b := by
 cases a <;> cases b <;> simp [lkEq] at h
 ·rw [kindNo_inj h]
 ·rfl
 ·rfl
theorem lksEq_eq : ∀ {a b : List LK}, lksEq a b = true → a = b
 | [], [], _ => rfl
 | _ :: _, _ :: _, h => by simp only [lksEq, Bool.and_eq_true] at h; rw [lkEq_eq h.1, lksEq_eq h.2]
 | [], _ :: _, h => by simp [lksEq] at h
 | _ :: _, [], h => by simp [lksEq] at h
theorem eqLeaf_val {k : LK} {a b : AV} {r : Bool} (h : eqLeaf k a b = some r) {x y : Value} (ha : VR g m S a x) (hb : VR g m S b y) : eqVal k x y = some r := by
 unfold eqLeaf at h
 split at h
 ·simp only [VR, PR] at ha hb; subst ha; subst hb
  split at h
  ·rename_i hk; cases h; simp [eqVal, hk]
  ·cases h
 ·simp only [VR, PR] at ha hb; subst ha; subst hb; simpa [eqVal] using h
 ·simp only [VR, PR] at ha hb; subst ha; subst hb
  simpa [eqVal, toList_str] using h
 ·cases h
theorem eqLeaves_vals : ∀ {ks : List LK} {as bs : List AV} {r : Bool} {xs ys : List Value}, eqLeaves ks as bs = some r → VRL g m S as xs → VRL g m S bs ys → eqVals ks xs ys = some r
 | [], [], [], r, xs, ys, h, ha, hb => by
  cases xs <;> cases ys <;> simp [VRL] at ha hb
  simpa [eqLeaves, eqVals] using h
 | k :: ks, a :: as, b :: bs, r, x :: xs, y :: ys, h, ha, hb => by
  simp only [eqLeaves] at h
  obtain ⟨c, hc, h⟩ := bind_some h
  rw [Option.map_eq_some_iff] at h
  obtain ⟨d, hd, rfl⟩ := h
  simp only [VRL] at ha hb
  simp [eqVals, eqLeaf_val hc ha.1 hb.1, eqLeaves_vals hd ha.2 hb.2]
 | [], _ :: _, _, _, _, _, h, _, _ => by simp [eqLeaves] at h
 | [], [], _ :: _, _, _, _, h, _, _ => by simp [eqLeaves] at h
 | _ :: _, [], _, _, _, _, h, _, _ => by simp [eqLeaves] at h
 | _ :: _, _ :: _, [], _, _, _, h, _, _ => by simp [eqLeaves] at h
 | _ :: _, _ :: _, _ :: _, _, [], _, _, ha, _ => by simp [VRL] at ha
 | _ :: _, _ :: _, _ :: _, _, _ :: _, [], _, _, hb => by simp [VRL] at hb
theorem tiOf_cmp (hap : ApOk P ap) {t : Nat} {ti : TI} (h : ap.tyAt t = some ti) : ti.cmp = cmpT P t ∧ ti.lks = lksOf P 8 t := by
 have h1 := hap.ty t ti h
 unfold tiOf at h1
 split at h1
 ·split at h1
  ·cases h1; exact ⟨rfl, rfl⟩
  ·cases h1
 ·cases h1
theorem run_guard (op : BinOp) (t : TypeId) (x y : Operand) (a b : Value) (h1 : ¬ (a = .nilIface ∧ b = .nilIface)) (h2 : ∀ xs ys, ¬ (a = .agg xs ∧ b = .agg ys)) : (eqGuard op t x y a b).run P w = .ok () w := by
 unfold eqGuard
 cases op <;> simp only [Sem.run_ite, Sem.run_pure] <;> try (simp; done)
 all_goals
  simp
  split
  ·exact absurd ⟨rfl, rfl⟩ h1
  ·exact absurd ⟨rfl, rfl⟩ (h2 _ _)
  ·rfl
def negIf (op : BinOp) (r : Bool) : Bool := match op with | .neq => !r | _ => r
theorem eql_fin {t : Nat} {ca cb : Value} {r : Bool} {x y : Operand} (hg : ∀ op, (eqGuard op t x y ca cb).run P w = .ok () w) (h : ∀ d, (Op.equalIn (d + 1) t ca cb).run P w = .ok r w)
  (h1 : binOp .eql t ca cb = (do pure (.bool (← Op.equal t ca cb)))) (h2 : binOp .neq t ca cb = (do pure (.bool (!(← Op.equal t ca cb))))) {op : BinOp} (hop : op = BinOp.eql ∨ op = BinOp.neq) :
  (do eqGuard op t x y ca cb; binOp op t ca cb : Sem Value).run P w = .ok (.bool (negIf op r)) w := by
 have h' : (Op.equal t ca cb).run P w = .ok r w := h 9999
 rcases hop with rfl | rfl
 ·rw [Sem.run_bind, hg, Result.andThen_ok, h1, Sem.run_bind, h']; rfl
 ·rw [Sem.run_bind, hg, Result.andThen_ok, h2, Sem.run_bind, h']; rfl
theorem eqA_sound (hap : ApOk P ap) {t : Nat} {ti : TI} (hti : ap.tyAt t = some ti) {a b : AV} {ca cb : Value} (ha : VR g m S a ca) (hb : VR g m S b cb) {r : Bool} (h : eqA ti a b = some r) (hn : ∀ x ∈ nilAsk a b, x = true) (x y : Operand) :
  ∀ op, op = BinOp.eql ∨ op = BinOp.neq → (do eqGuard op t x y ca cb; binOp op t ca cb : Sem Value).run P w = .ok (.bool (negIf op r)) w := by
 obtain ⟨i, d, z, ht⟩ := ti_of hap hti
 intro op hop
 unfold eqA at h
 split at h
 case h_2 fs xs ys hd =>
  split at h
  ·rename_i hcmp
   rw [(tiOf_cmp hap hti).1] at hcmp
   rw [(tiOf_cmp hap hti).2] at h
   simp only [VR] at ha hb
   obtain ⟨vs, rfl, ha⟩ := ha
   obtain ⟨us, rfl, hb⟩ := hb
   have hv := eqLeaves_vals h ha hb
   unfold cmpT at hcmp
   cases hl : cmpOf P 8 t with
   | none => simp [hl] at hcmp
   | some l =>
    simp only [hl, Bool.and_eq_true, Bool.not_eq_true'] at hcmp
    have hl' := lksEq_eq hcmp.1
    rw [← hl'] at hv
    have hq := cmpOf_ok 8 t l hl 10000 w vs us r (by omega) hv
    rw [ht.d_eq] at hd
    obtain ⟨fields, rfl, _⟩ := td_struct hd
    simp only [valOf, ht.und] at hq
    have hg := run_eqGuard_agg (P := P) w op t x y vs.toArray us.toArray hcmp.2
    rcases hop with rfl | rfl
    ·simp [hg, run_eql_struct, hq, negIf]
    ·simp [hg, run_neq_struct, hq, negIf]
  ·cases h
 all_goals try (cases h; done)
 all_goals
  rename_i hd
  rw [ht.d_eq] at hd
  try simp only [VR, PR] at ha hb
 all_goals cases h
 case h_1 =>
  have hd := td_bool hd
  subst hd
  subst ha; subst hb
  (refine eql_fin (fun op => ?_) (fun dd => ?_) rfl rfl hop <;> first | exact run_guard op t x y _ _ (by simp) (by simp) | exact run_equalIn_bool' (P := P) w dd t _ _ ht.und)
 all_goals
  first
   | (obtain ⟨e, rfl⟩ := td_ptr hd)
   | (obtain ⟨e, rfl⟩ := td_iface hd)
   | (obtain ⟨e1, e2, e3, rfl⟩ := td_func hd)
   | (have hd := td_slice hd; subst hd)
 case h_16 xs n nn =>
  subst hb
  obtain ⟨a, cap, rfl, hle, q⟩ := ha
  rcases q with ⟨rfl, rfl, rfl, rfl, rfl⟩ | ⟨b, o, vs, rfl, _⟩
  ·exact absurd (hn _ (by simp [nilAsk]; rfl)) (by decide)
  ·(refine eql_fin (fun op => ?_) (fun dd => ?_) rfl rfl hop <;> first | exact run_guard op t x y _ _ (by simp) (by simp) | simp [Op.equalIn, run_underlying ht.und])
 case h_17 xs n nn =>
  subst ha
  obtain ⟨a, cap, rfl, hle, q⟩ := hb
  rcases q with ⟨rfl, rfl, rfl, rfl, rfl⟩ | ⟨b, o, vs, rfl, _⟩
  ·exact absurd (hn _ (by simp [nilAsk]; rfl)) (by decide)
  ·(refine eql_fin (fun op => ?_) (fun dd => ?_) rfl rfl hop <;> first | exact run_guard op t x y _ _ (by simp) (by simp) | simp [Op.equalIn, run_underlying ht.und])
 all_goals
  try subst ha
  try subst hb
  try (obtain ⟨_, _, _, ⟨_, _, rfl⟩, _⟩ := ha)
  try (obtain ⟨_, _, _, ⟨_, _, rfl⟩, _⟩ := hb)
  try (obtain ⟨_, _, _, ⟨_, _, _, rfl⟩, _⟩ := ha)
  try (obtain ⟨_, _, _, ⟨_, _, _, rfl⟩, _⟩ := hb)
  try (obtain ⟨_, _, _, rfl, _⟩ := ha)
  try (obtain ⟨_, _, _, rfl, _⟩ := hb)
  try (obtain ⟨_, _, rfl, _⟩ := ha)
  try (obtain ⟨_, _, rfl, _⟩ := hb)
  try (obtain ⟨_, rfl, _⟩ := ha)
  try (obtain ⟨_, rfl, _⟩ := hb)
  (refine eql_fin (fun op => ?_) (fun dd => ?_) rfl rfl hop <;> first | exact run_guard op t x y _ _ (by simp) (by simp) | simp [Op.equalIn, run_underlying ht.und])
end
end AM
namespace AM
open Go
section
variable {P : Program} {ap : AP} {g : HpF} {m : MapF} {S : SMap} {w : World}
theorem append_str (a b : List UInt8) : (⟨a.toArray⟩ : ByteArray) ++ ⟨b.toArray⟩ = ⟨(a ++ b).toArray⟩ := by
 apply ByteArray.ext
 rw [ByteArray.data_append]
 simp
theorem binA_sound (hap : ApOk P ap) {t : Nat} {ti : TI} (hti : ap.tyAt t = some ti) {a b v : AV} {ca cb : Value} (ha : VR g m S a ca) (hb : VR g m S b cb) {op : BinOp} {ups : List (Nat × Blk)} {bs : List Bool}
  (h : binA op ti a b = some (v, ups, bs)) (hbs : ∀ x ∈ bs, x = true) (x y : Operand) :
  ups = [] ∧ ∃ cv, (do eqGuard op t x y ca cb; binOp op t ca cb : Sem Value).run P w = .ok cv w ∧ VR g m S v cv := by
 unfold binA at h
 split at h
 ·rename_i k p k' q
  simp only [VR, PR] at ha hb
  subst ha; subst hb
  have hg : (eqGuard op t x y (.int k p) (.int k' q)).run P w = .ok () w := run_guard op t x y _ _ (by simp) (by simp)
  rw [Sem.run_bind, hg, Result.andThen_ok]
  split at h
  ·obtain ⟨rfl, rfl, rfl⟩ := pureR_eq h
   have h0 := of_decide_eq_true (hbs _ (List.mem_singleton.2 rfl))
   exact ⟨rfl, _, by simp [binOp, Op.shift, show ¬ q < 0 by omega]; rfl, by simp only [VR, PR]⟩
  ·obtain ⟨rfl, rfl, rfl⟩ := pureR_eq h
   have h0 := of_decide_eq_true (hbs _ (List.mem_singleton.2 rfl))
   exact ⟨rfl, _, by simp [binOp, Op.shift, show ¬ q < 0 by omega]; rfl, by simp only [VR, PR]⟩
  ·split at h
   ·cases h
   ·rename_i hk
    have hk := kindNo_inj hk
    subst hk
    split at h
    all_goals try (cases h; done)
    all_goals obtain ⟨rfl, rfl, rfl⟩ := pureR_eq h
    case h_4 =>
     have h0 : (q == 0) = false := by simpa using hbs _ (List.mem_singleton.2 rfl)
     have h0 : ¬ q = 0 := by simpa using h0
     exact ⟨rfl, _, by simp [binOp, Op.intDiv, h0]; rfl, by simp only [VR, PR]⟩
    case h_5 =>
     have h0 : (q == 0) = false := by simpa using hbs _ (List.mem_singleton.2 rfl)
     have h0 : ¬ q = 0 := by simpa using h0
     exact ⟨rfl, _, by simp [binOp, Op.intDiv, h0]; rfl, by simp only [VR, PR]⟩
    all_goals exact ⟨rfl, _, by simp only [binOp, Op.intArith, Op.intBits, Op.intCmp, ne_eq, not_true_eq_false, if_false]; rfl, by simp only [VR, PR]; first | done | rfl⟩
 ·rename_i p q
  simp only [VR, PR] at ha hb
  subst ha; subst hb
  have hg : (eqGuard op t x y (.string ⟨p.toArray⟩) (.string ⟨q.toArray⟩)).run P w = .ok () w := run_guard op t x y _ _ (by simp) (by simp)
  rw [Sem.run_bind, hg, Result.andThen_ok]
  split at h
  all_goals try (cases h; done)
  all_goals obtain ⟨rfl, rfl, rfl⟩ := pureR_eq h
  case h_1 =>
   have h0 := ble_nat (hbs _ (List.mem_singleton.2 rfl))
   have h1 : ¬ (IntKind.i64.max < ((p.length + q.length : Nat) : Int)) := by
    have : IntKind.i64.max = 9223372036854775807 := by decide
    omega
   refine ⟨rfl, .string ⟨(p ++ q).toArray⟩, ?_, by simp only [VR, PR]⟩
   simp only [binOp, Op.stringOp, size_str, gt_iff_lt, h1, if_false, append_str, Sem.run_pure]
  all_goals
   refine ⟨rfl, _, rfl, ?_⟩
   simp only [VR, PR, toList_str, bytesLess_eq]
 ·split at h
  ·obtain ⟨r, hr, h⟩ := bind_some h
   obtain ⟨rfl, rfl, rfl⟩ := pureR_eq h
   exact ⟨rfl, _, eqA_sound hap hti ha hb hr hbs x y _ (.inl rfl), by simp only [VR, PR]; rfl⟩
  ·obtain ⟨r, hr, h⟩ := bind_some h
   obtain ⟨rfl, rfl, rfl⟩ := pureR_eq h
   exact ⟨rfl, _, eqA_sound hap hti ha hb hr hbs x y _ (.inr rfl), by simp only [VR, PR]; rfl⟩
  ·cases h
theorem unA_sound {x v : AV} {cx : Value} (hx : VR g m S x cx) {op : UnOp} {ups : List (Nat × Blk)} {bs : List Bool} (h : unA op x = some (v, ups, bs)) :
  ups = [] ∧ ∃ cv, (Op.unary op cx).run P w = .ok cv w ∧ VR g m S v cv := by
 unfold unA at h
 split at h
 ·obtain ⟨rfl, rfl, rfl⟩ := pureR_eq h
  simp only [VR, PR] at hx; subst hx
  exact ⟨rfl, _, rfl, by simp only [VR, PR]⟩
 ·obtain ⟨rfl, rfl, rfl⟩ := pureR_eq h
  simp only [VR, PR] at hx; subst hx
  exact ⟨rfl, _, rfl, by simp only [VR, PR]⟩
 ·cases h
theorem foldA_sound {f : AV → AV → Option AV} {F : Value → Value → Sem Value} (hf : ∀ a b c ca cb, VR g m S a ca → VR g m S b cb → f a b = some c → ∃ cc, (F ca cb).run P w = .ok cc w ∧ VR g m S c cc) :
  ∀ (l : List AV) (cl : List Value) (x v : AV) (cx : Value), VRL g m S l cl → VR g m S x cx → foldA f x l = some v → ∃ cv, (cl.foldlM F cx).run P w = .ok cv w ∧ VR g m S v cv
 | [], [], x, v, cx, _, hx, h => by simp [foldA] at h; subst h; exact ⟨cx, by simp, hx⟩
 | y :: r, cy :: cr, x, v, cx, hl, hx, h => by
  simp only [VRL] at hl
  simp only [foldA] at h
  split at h
  ·rename_i z hz
   obtain ⟨cz, h1, h2⟩ := hf _ _ _ _ _ hx hl.1 hz
   obtain ⟨cv, h3, h4⟩ := foldA_sound hf r cr z v cz hl.2 h2 h
   exact ⟨cv, by simp [List.foldlM_cons, h1, h3], h4⟩
  ·cases h
 | [], _ :: _, _, _, _, hl, _, _ => by simp [VRL] at hl
 | _ :: _, [], _, _, _, hl, _, _ => by simp [VRL] at hl
theorem min2_sound {a b c : AV} {ca cb : Value} (ha : VR g m S a ca) (hb : VR g m S b cb) (h : min2 a b = some c) : ∃ cc, (Builtin.min2 ca cb).run P w = .ok cc w ∧ VR g m S c cc := by
 unfold min2 at h
 split at h
 ·split at h
  ·cases h
   simp only [VR, PR] at ha hb; subst ha; subst hb
   exact ⟨_, rfl, by simp only [VR, PR]⟩
  ·cases h
 ·cases h
theorem max2_sound {a b c : AV} {ca cb : Value} (ha : VR g m S a ca) (hb : VR g m S b cb) (h : max2 a b = some c) : ∃ cc, (Builtin.max2 ca cb).run P w = .ok cc w ∧ VR g m S c cc := by
 unfold max2 at h
 split at h
 ·split at h
  ·cases h
   simp only [VR, PR] at ha hb; subst ha; subst hb
   exact ⟨_, rfl, by simp only [VR, PR]⟩
  ·cases h
 ·cases h
theorem min_sound {l : List AV} {cl : List Value} (hl : VRL g m S l cl) {v : AV} (h : foldA1 min2 l = some v) (ats : Array TypeId) (ty : Nat) : ∃ cv, (Builtin.min_ ats ty cl.toArray).run P w = .ok cv w ∧ VR g m S v cv := by
 cases l with
 | nil => simp [foldA1] at h
 | cons x r => cases cl with
  | nil => simp [VRL] at hl
  | cons cx cr =>
   simp only [VRL] at hl
   obtain ⟨cv, h1, h2⟩ := foldA_sound (P := P) (w := w) (F := Builtin.min2) (fun _ _ _ _ _ => min2_sound) r cr x v cx hl.2 hl.1 h
   exact ⟨cv, by simpa [Builtin.min_] using h1, h2⟩
theorem max_sound {l : List AV} {cl : List Value} (hl : VRL g m S l cl) {v : AV} (h : foldA1 max2 l = some v) (ats : Array TypeId) (ty : Nat) : ∃ cv, (Builtin.max_ ats ty cl.toArray).run P w = .ok cv w ∧ VR g m S v cv := by
 cases l with
 | nil => simp [foldA1] at h
 | cons x r => cases cl with
  | nil => simp [VRL] at hl
  | cons cx cr =>
   simp only [VRL] at hl
   obtain ⟨cv, h1, h2⟩ := foldA_sound (P := P) (w := w) (F := Builtin.max2) (fun _ _ _ _ _ => max2_sound) r cr x v cx hl.2 hl.1 h
   exact ⟨cv, by simpa [Builtin.max_] using h1, h2⟩
end
end AM
