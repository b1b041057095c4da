/- A frame for proofs about functions of plain data (executed over abstract values): definitions and their soundness. It says nothing of a program by itself; no conditions. -/
import Derived.Below
import Derived.Calls
import Derived.ChangeSame
import Derived.Control
import Derived.Deep.LoopGhost
import Derived.Deep.MidRow
import Derived.Great.BuildSlice
import Derived.Laws.Build
import Derived.Laws.BytesArg
import Derived.Laws.Concat
import Derived.Laws.Cover3
import Derived.Laws.DeepStrings4
import Derived.Laws.Entries
import Derived.Laws.EntriesVeiled
import Derived.Laws.MakeOwn
import Derived.Laws.Shifts
import Derived.Laws.Slices
import Derived.Laws.Small
import Derived.Laws.Strings
import Derived.Laws.StructEq
import Derived.Lib.SliceRun
import Derived.OpenShut
import Derived.OrdersHeld
import Derived.ReadAgain
import Derived.RowKit
import Derived.RowKit3
import Derived.Sort.Grow
import Derived.StillTail
import GoSem.ClaimChange
set_option autoImplicit true
set_option relaxedAutoImplicit true
set_option linter.unusedVariables false
set_option linter.unusedSimpArgs false
namespace Go.Ab
inductive Ty
 | int (k : IntKind) | bool | str | any | unit | err
 | pair (a b : Ty) | slice (a : Ty)
 deriving DecidableEq, Inhabited
inductive AnyV
 | b (x : Bool) | n (x : Int) | s (x : List UInt8)
 deriving Inhabited
@[reducible] def Ty.den : Ty -> Type
 | .int _ => Int
 | .bool => Bool
 | .str => List UInt8
 | .any => AnyV
 | .unit => Unit
 | .err => Bool
 | .pair a b => a.den × b.den
 | .slice a => List a.den
def Ty.size : Ty -> Nat
 | .unit => 0
 | .pair a b => a.size + b.size
 | _ => 1
def Ty.isPair : Ty -> Bool
 | .pair _ _ => true
 | _ => false
def Ty.leafB : Ty -> Bool
 | .pair _ _ | .unit => false
 | _ => true
@[reducible] def dens : List Ty -> Type
 | [] => Unit
 | t :: r => t.den × dens r
inductive AV
 | d (t : Ty) (x : t.den)
 | lb (b : Bool)
 | emp (isNil : Bool)
 | agg (l : List AV)
 | tup (l : List AV)
 | os (i : Nat)
 | oss (i sz lo hi : Nat)
 | p (i off : Nat)
 | pc (cells : List AV)
 | pe (i n k off : Nat)
 | fn (f : Nat) (caps : List AV)
 | fp (as : List Ty) (b : Ty) (p : (dens as -> b.den) × (dens as -> Prop))
 | ifc (t : Nat) (x : AV)
 | nili
 | any
 | oz (i : Nat)
 deriving Inhabited
inductive Obj
 | box (cells : List AV)
 | arr (t : Ty) (xs : List t.den) (fx : Bool)
 | zone (t : Ty) (xs : List t.den)
 deriving Inhabited
structure St where
 tmps : List AV
 objs : List (Option Obj)
 keep : List AV := []
abbrev Inl := St -> List AV -> (St -> List AV -> Prop) -> Prop
inductive PTy
 | v (t : Ty) | r (t : Ty) | f (as : List Ty) (b : Ty) | rf (as : List Ty) (b : Ty) | o (t : Ty) | mo (t : Ty) | m (t : Ty)
 deriving DecidableEq
@[reducible] def PTy.den : PTy -> Type
 | .v t | .r t | .m t => t.den
 | .f as b | .rf as b => (dens as -> b.den) × (dens as -> Prop)
 | .o t | .mo t => List t.den
@[reducible] def pdens : List PTy -> Type
 | [] => Unit
 | t :: r => t.den × pdens r
inductive RTy
 | v (t : Ty) | o (t : Ty)
 deriving DecidableEq
@[reducible] def RTy.ty : RTy -> Ty
 | .v t | .o t => t
@[reducible] def rdens : List RTy -> Type
 | [] => Unit
 | t :: r => t.ty.den × rdens r
@[reducible] def mdens : List PTy -> Type
 | [] => Unit
 | .m t :: r => t.den × mdens r
 | .mo t :: r => List t.den × mdens r
 | _ :: r => mdens r
structure FSpec where
 ps : List PTy
 rs : List RTy
 pre : pdens ps -> Prop
 fn : pdens ps -> rdens rs
 upd : pdens ps -> mdens ps
structure CSpec where
 ats : List Ty
 b : Ty
 cs : List PTy
 pre : pdens cs -> dens ats -> Prop
 fn : pdens cs -> dens ats -> b.den
inductive TK
 | scalar | slice (elem : Nat) | struct (fields : List (Nat × Nat × Nat)) | other
structure TI where
 kind : TK
 size : Nat
 bytes : Nat
 ty : Option Ty
 zero : List AV
 eq : Bool := false
structure LoopAnn where
 ι : Type
 inv : ι -> Prop
 slots : ι -> List (Nat × AV)
 objs : ι -> List (Nat × Obj)
 μ : ι -> Nat
 cut : St -> List (Nat × AV) := fun _ => []
 live : Option (List Nat) := none
 segs : List (Nat × (List Nat × (St -> List (Nat × AV)))) := []
 fz : List Nat := []
structure Reg where
 ops : List (Option Nat × Op)
 T : St -> (St -> Prop) -> Prop
structure Env where
 tys : List (Nat × TI)
 specs : List (Nat × FSpec)
 clos : List (Nat × CSpec)
 anyB : Nat
 anyN : Nat
 anyS : Nat
 inl : List (Nat × Inl) := []
 gl : Nat := 0
 tab : World -> Prop := fun _ => True
 reg : List (Nat × Reg) := []
def TabS (E : Env) : Prop := ∀ w w' : World, E.tab w -> (∀ b, b < E.gl -> w'.heap[b]? = w.heap[b]?) -> E.tab w'
structure TabLe (E E' : Env) : Prop where
 tab : ∀ w, E.tab w -> E'.tab w
 gl : E'.gl <= E.gl
 st : TabS E'
def memB (i : Nat) : List Nat -> Bool
 | [] => false
 | j :: r => bif Nat.beq i j then true else memB i r
def nodupB : List Nat -> Bool
 | [] => true
 | i :: r => !(memB i r) && nodupB r
def look {α : Type u} : List (Nat × α) -> Nat -> Option α
 | [], _ => none
 | (k, x) :: r, n => bif Nat.beq k n then some x else look r n
def Env.ti (E : Env) (t : Nat) : Option TI := look E.tys t
def Env.ty (E : Env) (t : Nat) : Option Ty := (E.ti t).bind (fun i => i.ty)
def cellsOf : (t : Ty) -> t.den -> List AV
 | .unit, _ => []
 | .pair a b, x => cellsOf a x.1 ++ cellsOf b x.2
 | t, x => [.d t x]
def valOf (isAgg : Bool) (cs : List AV) : AV := if isAgg then .agg cs else match cs with | [c] => c | _ => .any
def AV.solid : AV -> Bool
 | .agg _ => false
 | .tup _ => false
 | .any => false
 | _ => true
def AV.cells? : AV -> Option (List AV)
 | .agg l => some l
 | v => if v.solid = true then some [v] else none
abbrev Heap := Nat -> Option Obj
def arrH (h : Heap) : Heap := fun i => match h i with
 | some (.zone _ _) => none
 | o => o
def St.heap (s : St) : Heap := fun i => (s.objs[i]?).join
def castTy (a b : Ty) (x : a.den) : Option b.den := if h : a = b then some (h ▸ x) else none
def leafD (E : Env) (h : Heap) : (t : Ty) -> AV -> Option t.den
 | .int k, .d (.int k') n => bif k == k' then some n else none
 | .bool, .d .bool b => some b
 | .bool, .lb b => some b
 | .str, .d .str s => some s
 | .any, .d .any x => some x
 | .err, .d .err b => some b
 | .err, .nili => some true
 | .any, .ifc t (.d .bool b) => bif Nat.beq t E.anyB then some (.b b) else none
 | .any, .ifc t (.lb b) => bif Nat.beq t E.anyB then some (.b b) else none
 | .any, .ifc t (.d (.int .i64) n) => bif Nat.beq t E.anyN then some (.n n) else none
 | .any, .ifc t (.d .str s) => bif Nat.beq t E.anyS then some (.s s) else none
 | .slice a, .d (.slice b) xs => castTy (.slice b) (.slice a) xs
 | .slice a, .os i => match h i with
   | some (.arr b xs _) => castTy (.slice b) (.slice a) xs
   | _ => none
 | .slice a, .oss i sz lo hi => match h i with
   | some (.arr b xs _) => match castTy (.slice b) (.slice a) xs, Nat.beq sz b.size with
     | some (xs : List a.den), true => some ((xs.take hi).drop lo)
     | _, _ => none
   | _ => none
 | .slice _, .emp _ => some []
 | .slice a, .oz i => match h i with
   | some (.zone b xs) => castTy (.slice b) (.slice a) xs
   | _ => none
 | _, _ => none
def toD (E : Env) (h : Heap) : (t : Ty) -> List AV -> Option (t.den × List AV)
 | .unit, cs => some ((), cs)
 | .pair a b, cs => match toD E h a cs with
   | some (x, r) => match toD E h b r with
     | some (y, r) => some ((x, y), r)
     | none => none
   | none => none
 | .int k, c :: r => match leafD E h (.int k) c with | some x => some (x, r) | none => none
 | .bool, c :: r => match leafD E h .bool c with | some x => some (x, r) | none => none
 | .str, c :: r => match leafD E h .str c with | some x => some (x, r) | none => none
 | .any, c :: r => match leafD E h .any c with | some x => some (x, r) | none => none
 | .slice a, c :: r => match leafD E h (.slice a) c with | some x => some (x, r) | none => none
 | .err, c :: r => match leafD E h .err c with | some x => some (x, r) | none => none
 | _, [] => none
def toV (E : Env) (h : Heap) (t : Ty) (v : AV) : Option t.den :=
 match v with
 | .agg l => if t.isPair = true then (match toD E h t l with
   | some (x, []) => some x
   | _ => none) else none
 | v => if t.leafB = true then leafD E h t v else none
def toR (E : Env) (h : Heap) (t : Ty) : AV -> Option t.den
 | .p i 0 => match h i with
   | some (.box cs) => match toD E h t cs with
     | some (x, []) => some x
     | _ => none
   | _ => none
 | .pc cs => match toD E h t cs with
   | some (x, []) => some x
   | _ => none
 | _ => none
def ofConst : Value -> AV
 | .bool b => .lb b
 | .int k n => .d (.int k) n
 | .string s => match Nat.ble s.data.toList.length 1000000 with
   | true => .d .str s.data.toList
   | false => .any
 | .slice none 0 0 => .emp true
 | .nilIface => .nili
 | _ => .any
def St.eval (s : St) : Operand -> AV
 | .tmp t => s.tmps.getD t .any
 | .const v => ofConst v
 | .func f => .fn f []
 | .global _ => .any
def St.put (s : St) (dst : Option Nat) (v : AV) : St :=
 match dst with
 | some d => { s with tmps := s.tmps.set d v }
 | none => s
mutual
def AV.kill (i : Nat) : AV -> AV
 | .os j => bif Nat.beq i j then .any else .os j
 | .oss j sz lo hi => bif Nat.beq i j then .any else .oss j sz lo hi
 | .pe j n k off => bif Nat.beq i j then .any else .pe j n k off
 | .agg l => .agg (AV.killL i l)
 | .tup l => .tup (AV.killL i l)
 | .fn f l => .fn f (AV.killL i l)
 | .ifc t x => .ifc t (AV.kill i x)
 | .pc l => .pc (AV.killL i l)
 | .p j off => bif Nat.beq i j then .any else .p j off
 | .oz j => bif Nat.beq i j then .any else .oz j
 | v => v
def AV.killL (i : Nat) : List AV -> List AV
 | [] => []
 | x :: r => AV.kill i x :: AV.killL i r
end
def Obj.kill (i : Nat) : Option Obj -> Option Obj
 | some (.box cs) => some (.box (AV.killL i cs))
 | o => o
def St.kill (s : St) (i : Nat) : St := { tmps := AV.killL i s.tmps, objs := s.objs.map (Obj.kill i), keep := AV.killL i s.keep }
mutual
def AV.freeze (i : Nat) (t : Ty) (xs : List t.den) : AV -> AV
 | .os j => bif Nat.beq i j then .d (.slice t) xs else .os j
 | .oss j sz lo hi => bif Nat.beq i j then (bif Nat.beq sz t.size then .d (.slice t) ((xs.take hi).drop lo) else .any) else .oss j sz lo hi
 | .pe j n k off => bif Nat.beq i j then .any else .pe j n k off
 | .agg l => .agg (AV.freezeL i t xs l)
 | .tup l => .tup (AV.freezeL i t xs l)
 | .fn f l => .fn f (AV.freezeL i t xs l)
 | .ifc u x => .ifc u (AV.freeze i t xs x)
 | .pc l => .pc (AV.freezeL i t xs l)
 | .p j off => bif Nat.beq i j then .any else .p j off
 | .oz j => bif Nat.beq i j then .any else .oz j
 | v => v
def AV.freezeL (i : Nat) (t : Ty) (xs : List t.den) : List AV -> List AV
 | [] => []
 | x :: r => AV.freeze i t xs x :: AV.freezeL i t xs r
end
def Obj.freeze (i : Nat) (t : Ty) (xs : List t.den) : Option Obj -> Option Obj
 | some (.box cs) => some (.box (AV.freezeL i t xs cs))
 | o => o
def St.freeze1 (s : St) (i : Nat) : St :=
 match s.heap i with
 | some (.arr t xs _) => { tmps := AV.freezeL i t xs s.tmps, objs := (s.objs.map (Obj.freeze i t xs)).set i none, keep := AV.freezeL i t xs s.keep }
 | _ => s
abbrev K1 := AV -> List Obj -> Prop
def boolOf : AV -> Option Bool
 | .d .bool b => some b
 | .lb b => some b
 | _ => none
def cmpInt (op : BinOp) (a b : Int) : Option Bool :=
 match op with
 | .eql => some (a == b) | .neq => some (a != b)
 | .lss => some (decide (a < b)) | .leq => some (decide (a <= b)) | .gtr => some (decide (a > b)) | .geq => some (decide (a ≥ b))
 | _ => none
def cmpStr (op : BinOp) (a b : List UInt8) : Option Bool :=
 match op with
 | .eql => some (a == b) | .neq => some !(a == b)
 | .lss => some (Op.bytesLess a b) | .leq => some (Op.bytesLess a b || a == b) | .gtr => some !(Op.bytesLess a b || a == b) | .geq => some !(Op.bytesLess a b)
 | _ => none
def Ty.leaves : Ty -> List Ty
 | .unit => []
 | .pair a b => a.leaves ++ b.leaves
 | t => [t]
def eqI (a b : Int) : Bool := a == b
def eqS (a b : List UInt8) : Bool := a == b
def eqCells : List Ty -> List AV -> List AV -> Option Bool
 | [], [], [] => some true
 | .int k :: ts, .d (.int k1) a :: r, .d (.int k2) b :: q => match k == k1, k == k2, eqCells ts r q with
   | true, true, some z => some (eqI a b && z)
   | _, _, _ => none
 | .str :: ts, .d .str a :: r, .d .str b :: q => match eqCells ts r q with
   | some z => some (eqS a b && z)
   | none => none
 | .bool :: ts, x :: r, y :: q => match boolOf x, boolOf y, eqCells ts r q with
   | some a, some b, some z => some (a == b && z)
   | _, _, _ => none
 | _, _, _ => none
def bnd (n : Int) (len : Nat) : Prop := 0 <= n /\ n < len
def nth {α : Type} (l : List α) (i : Nat) : Option α := l[i]?
def nthI {α : Type} (l : List α) (i : Int) : Option α := l[i.toNat]?
def wAdd (k : IntKind) (a b : Int) : Int := k.wrap (a + b)
def wSub (k : IntKind) (a b : Int) : Int := k.wrap (a - b)
def wMul (k : IntKind) (a b : Int) : Int := k.wrap (a * b)
def wQuo (k : IntKind) (a b : Int) : Int := k.wrap (a.tdiv b)
def wRem (a b : Int) : Int := a.tmod b
def wShl (k : IntKind) (a b : Int) : Int := k.wrap (a * 2 ^ min b.toNat k.bits)
def wShr (k : IntKind) (a b : Int) : Int := a / 2 ^ min b.toNat k.bits
def wBits (op : BinOp) (k : IntKind) (a b : Int) : Int := match op with
 | .and => k.wrap (BitVec.ofInt k.bits a &&& BitVec.ofInt k.bits b).toNat
 | .or => k.wrap (BitVec.ofInt k.bits a ||| BitVec.ofInt k.bits b).toNat
 | .xor => k.wrap (BitVec.ofInt k.bits a ^^^ BitVec.ofInt k.bits b).toNat
 | _ => 0
def nBool (a b : Bool) : Bool := !(a == b)
def wNeg (k : IntKind) (a : Int) : Int := k.wrap (0 - a)
def nz (b : Int) : Prop := b ≠ 0
def shOK (b : Int) : Prop := 0 <= b
def catS (a b : List UInt8) : List UInt8 := a ++ b
def subL {α : Type} (l : List α) (lo hi : Nat) : List α := (l.take hi).drop lo
def lenL {α : Type} (l : List α) : Nat := l.length
def iOf (n : Nat) : Int := n
def fits (n : Nat) : Prop := n < 1099511627776
def boundLo (l : Int) (len : Nat) : Prop := 0 <= l /\ l <= len
def boundLH (l u : Int) (len : Nat) : Prop := 0 <= l /\ l <= u /\ u <= len
def mkOK (l c : Int) : Prop := 0 <= l /\ l <= c /\ c < 1099511627776
def tN (n : Int) : Nat := n.toNat
def elemSize (E : Env) (t : Nat) : Option Nat :=
 match (E.ti t).map (fun i => i.kind) with
 | some (TK.slice e) => (E.ti e).map (fun i => i.size)
 | _ => none
def binOpV (E : Env) (t : Nat) (op : BinOp) (x y : AV) (K : AV -> Prop) : Prop :=
 match x, y with
 | .d (.int k) a, .d (.int k') b =>
   match op with
   | .shl => shOK b /\ K (.d (.int k) (wShl k a b))
   | .shr => shOK b /\ K (.d (.int k) (wShr k a b))
   | op => match k == k' with
     | false => False
     | true => match op with
       | .add => K (.d (.int k) (wAdd k a b))
       | .sub => K (.d (.int k) (wSub k a b))
       | .mul => K (.d (.int k) (wMul k a b))
       | .quo => nz b /\ K (.d (.int k) (wQuo k a b))
       | .rem => nz b /\ K (.d (.int k) (wRem a b))
       | .and => K (.d (.int k) (wBits .and k a b))
       | .or => K (.d (.int k) (wBits .or k a b))
       | .xor => K (.d (.int k) (wBits .xor k a b))
       | op => match cmpInt op a b with | some r => K (.d .bool r) | none => False
 | .d .str a, .d .str b =>
   match op with
   | .add => fits (lenL a + lenL b) /\ K (.d .str (catS a b))
   | _ => match cmpStr op a b with | some r => K (.d .bool r) | none => False
 | .agg l, .agg r =>
   match op, eqCells (((E.ty t).map Ty.leaves).getD []) l r, (E.ti t).map (fun i => i.eq) with
   | .eql, some z, some true => K (.d .bool z)
   | .neq, some z, some true => K (.d .bool !z)
   | _, _, _ => False
 | .emp b, .emp true => match op, elemSize E t with
   | .eql, some _ => K (.lb b)
   | .neq, some _ => K (.lb !b)
   | _, _ => False
 | .d (.slice _) xs, .emp true => match op, elemSize E t with
   | .eql, some _ => ∀ b : Bool, (b = true -> xs = []) -> K (.d .bool b)
   | .neq, some _ => ∀ b : Bool, (b = true -> xs = []) -> K (.d .bool !b)
   | _, _ => False
 | _, _ => match boolOf x, boolOf y with
   | some a, some b => match op, E.ty t with
     | .eql, some .bool => K (.d .bool (a == b))
     | .neq, some .bool => K (.d .bool (nBool a b))
     | _, _ => False
   | _, _ => False
def TI.field (i : TI) (f : Nat) : Option (Nat × Nat × Nat) :=
 match i.kind with
 | TK.struct fs => fs[f]?
 | _ => none
def isAggT (E : Env) (t : Nat) : Bool :=
 match (E.ti t).map (fun i => i.kind) with
 | some (TK.struct _) => true
 | _ => false
def fillCells : List AV -> Nat -> List AV -> List AV
 | cs, _, [] => cs
 | cs, off, v :: r => fillCells (cs.set off v) (off + 1) r
def buildV (i : TI) (ρ : Operand -> AV) : List AV -> List (Nat × Operand) -> Option (List AV)
 | cs, [] => some cs
 | cs, (f, x) :: r => match i.field f with
   | some (off, size, _) => match (ρ x).cells? with
     | some l => match Nat.beq l.length size, Nat.ble (off + size) cs.length with
       | true, true => buildV i ρ (fillCells cs off l) r
       | _, _ => none
     | none => none
   | none => none
def elemsV (E : Env) (h : Heap) (ρ : Operand -> AV) (t : Ty) : Nat -> List (Nat × Operand) -> Option (List t.den)
 | _, [] => some []
 | i, (k, x) :: r => match Nat.beq i k, toV E h t (ρ x), elemsV E h ρ t (i + 1) r with
   | true, some y, some ys => some (y :: ys)
   | _, _, _ => none
def sliceV (E : Env) (h : Heap) (ty : Nat) (x : AV) (lo hi : Option AV) (K : AV -> Prop) : Prop :=
 match x, elemSize E ty with
 | .d .str s, _ => match E.ty ty with
   | some .str => go (lenL s) fun l u => K (.d .str (subL s l u))
   | _ => False
 | .d (.slice t) xs, some z => match Nat.beq z t.size with
   | true => go (lenL xs) fun l u => K (.d (.slice t) (subL xs l u))
   | false => False
 | .os i, some z => match h i with
   | some (.arr t xs _) => match Nat.beq z t.size with
     | true => go (lenL xs) fun l u => K (.oss i z l u)
     | false => False
   | _ => False
 | .oss i sz a b, some z => match Nat.beq z sz with
   | true => go (b - a) fun l u => K (.oss i sz (a + l) (a + u))
   | false => False
 | .emp b, some _ => go 0 fun _ _ => K (.emp b)
 | _, _ => False
where
 go (len : Nat) (k : Nat -> Nat -> Prop) : Prop :=
   match lo, hi with
   | none, none => k 0 len
   | some (.d (.int _) l), none => boundLo l len /\ k (tN l) len
   | none, some (.d (.int _) u) => boundLo u len /\ k 0 (tN u)
   | some (.d (.int _) l), some (.d (.int _) u) => boundLH l u len /\ k (tN l) (tN u)
   | _, _ => False
def indexAddrV (E : Env) (h : Heap) (ty : Nat) (x : AV) (i : AV) (K : AV -> Prop) : Prop :=
 match i, elemSize E ty with
 | .d (.int _) n, some z => match x with
   | .d (.slice t) xs => match Nat.beq z t.size with
     | true => bnd n (lenL xs) /\ ∀ x, nthI xs n = some x -> K (.pc (cellsOf t x))
     | false => False
   | .os o => match h o with
     | some (.arr t xs _) => match Nat.beq z t.size with
       | true => bnd n (lenL xs) /\ K (.pe o t.size (tN n) 0)
       | false => False
     | _ => False
   | .oss o sz lo hi => match h o with
     | some (.arr t xs _) => match Nat.beq z t.size, Nat.beq sz t.size with
       | true, true => (bnd n (hi - lo) /\ hi <= lenL xs) /\ K (.pe o t.size (lo + tN n) 0)
       | _, _ => False
     | _ => False
   | _ => False
 | _, _ => False
def loadV (E : Env) (h : Heap) (t : Nat) (x : AV) (K : AV -> Prop) : Prop :=
 match E.ti t with
 | none => False
 | some i => match x with
   | .p o off => match h o with
     | some (.box cs) => off + i.size <= cs.length /\ K (valOf (isAggT E t) ((cs.drop off).take i.size))
     | _ => False
   | .pc cs => i.size <= cs.length /\ K (valOf (isAggT E t) (cs.take i.size))
   | .pe o n k off => match h o with
     | some (.arr e xs _) => n = e.size /\ off + i.size <= n /\ k < lenL xs /\ ∀ x, nth xs k = some x -> K (valOf (isAggT E t) (((cellsOf e x).drop off).take i.size))
     | _ => False
   | _ => False
def fieldAddrV (E : Env) (t : Nat) (x : AV) (f : Nat) (K : AV -> Prop) : Prop :=
 match (E.ti t).bind (fun i => i.field f) with
 | none => False
 | some (off, _, _) => match x with
   | .p o a => K (.p o (a + off))
   | .pc cs => K (.pc (cs.drop off))
   | .pe o n k a => K (.pe o n k (a + off))
   | _ => False
def fieldV (E : Env) (t : Nat) (x : AV) (f : Nat) (K : AV -> Prop) : Prop :=
 match (E.ti t).bind (fun i => i.field f), x with
 | some (off, size, ft), .agg cs => match E.ti ft with
   | some _ => off + size <= cs.length /\ K (valOf (isAggT E ft) ((cs.drop off).take size))
   | none => False
 | _, _ => False
def lenV (E : Env) (h : Heap) (ty : Nat) (x : AV) (K : AV -> Prop) : Prop :=
 match x, E.ty ty, elemSize E ty with
 | .d .str s, some .str, _ => fits (lenL s) -> K (.d (.int .i64) (iOf (lenL s)))
 | .d (.slice _) xs, _, some _ => fits (lenL xs) -> K (.d (.int .i64) (iOf (lenL xs)))
 | .os i, _, some _ => match h i with
   | some (.arr _ xs _) => fits (lenL xs) -> K (.d (.int .i64) (iOf (lenL xs)))
   | _ => False
 | .oz i, _, some _ => match h i with
   | some (.zone _ xs) => fits (lenL xs) -> K (.d (.int .i64) (iOf (lenL xs)))
   | _ => False
 | .oss _ _ lo hi, _, some _ => K (.d (.int .i64) (iOf (hi - lo)))
 | .emp _, _, some _ => K (.d (.int .i64) 0)
 | _, _, _ => False
def convertV (E : Env) (src dst : Nat) (h : Heap) (x : AV) (K : K1) : Prop :=
 match E.ty src, E.ty dst, x with
 | some (.int _), some (.int k), .d (.int _) a => K (.d (.int k) (k.wrap a)) []
 | some .str, some .str, .d .str s => K (.d .str s) []
 | some (.slice (.int .u8)), some .str, .emp _ => K (.d .str []) []
 | some (.slice (.int .u8)), some .str, x => match leafD E h (.slice (.int .u8)) x with
   | some xs => K (.d .str (xs.map fun n => UInt8.ofNat n.toNat)) []
   | none => False
 | _, _, _ => False
def funD (E : Env) (h : Heap) (as : List Ty) (b : Ty) (v : AV) : Option ((dens as -> b.den) × (dens as -> Prop)) :=
 match v with
 | .fp as' b' p => if e : as' = as /\ b' = b then some (e.1 ▸ e.2 ▸ p) else none
 | .fn f caps => match look E.clos f with
   | some c => if e : c.ats = as /\ c.b = b then
       match capsD E h c.cs caps with
       | some x => some (e.1 ▸ e.2 ▸ (c.fn x, c.pre x))
       | none => none
     else none
   | none => none
 | _ => none
where
 capsD (E : Env) (h : Heap) : (ps : List PTy) -> List AV -> Option (pdens ps)
 | [], [] => some ()
 | .v t :: ps, a :: r => match toV E h t a, capsD E h ps r with | some x, some y => some (x, y) | _, _ => none
 | .r t :: ps, a :: r => match toR E h t a, capsD E h ps r with | some x, some y => some (x, y) | _, _ => none
 | .rf as b :: ps, .pc [.fp as' b' p] :: r => match capsD E h ps r with
   | some y => if e : as' = as /\ b' = b then some (e.1 ▸ e.2 ▸ p, y) else none
   | _ => none
 | .rf as b :: ps, .p i 0 :: r => match h i, capsD E h ps r with
   | some (.box [.fp as' b' p]), some y => if e : as' = as /\ b' = b then some (e.1 ▸ e.2 ▸ p, y) else none
   | _, _ => none
 | _, _ => none
def argsD (E : Env) (h g : Heap) : (ps : List PTy) -> List AV -> Option (pdens ps)
 | [], [] => some ()
 | .v t :: ps, a :: r => match toV E h t a, argsD E h g ps r with | some x, some y => some (x, y) | _, _ => none
 | .r t :: ps, a :: r => match toR E h t a, argsD E h g ps r with | some x, some y => some (x, y) | _, _ => none
 | .f ts b :: ps, a :: r => match funD E h ts b a, argsD E h g ps r with | some x, some y => some (x, y) | _, _ => none
 | .m t :: ps, .p i 0 :: r => match g i with
   | some (.box cs) => match toD E h t cs, argsD E h g ps r with | some (x, []), some y => some (x, y) | _, _ => none
   | _ => none
 | .o t :: ps, .os i :: r => match g i, argsD E h g ps r with
   | some (.arr u xs false), some y => match castTy (.slice u) (.slice t) xs with | some x => some (x, y) | none => none
   | _, _ => none
 | .o _ :: ps, .emp _ :: r => match argsD E h g ps r with | some y => some ([], y) | _ => none
 | .mo t :: ps, .os i :: r => match g i, argsD E h g ps r with
   | some (.arr u xs _), some y => match castTy (.slice u) (.slice t) xs with | some x => some (x, y) | none => none
   | _, _ => none
 | _, _ => none
def cellsR : (t : Ty) -> t.den -> Nat -> List AV × List Obj
 | .unit, _, _ => ([], [])
 | .pair a b, x, n => ((cellsR a x.1 n).1 ++ (cellsR b x.2 (n + (cellsR a x.1 n).2.length)).1, (cellsR a x.1 n).2 ++ (cellsR b x.2 (n + (cellsR a x.1 n).2.length)).2)
 | .slice a, xs, n => ([.os n], [.arr a xs false])
 | t, x, _ => ([.d t x], [])
def resV : (r : RTy) -> r.ty.den -> Nat -> AV × List Obj
 | .v t, x, _ => (valOf t.isPair (cellsOf t x), [])
 | .o t, x, n => (valOf t.isPair (cellsR t x n).1, (cellsR t x n).2)
def ressV : (rs : List RTy) -> rdens rs -> Nat -> List AV × List Obj
 | [], _, _ => ([], [])
 | r :: rs, x, n => ((resV r x.1 n).1 :: (ressV rs x.2 (n + (resV r x.1 n).2.length)).1, (resV r x.1 n).2 ++ (ressV rs x.2 (n + (resV r x.1 n).2.length)).2)
def tupV : List AV -> AV
 | [v] => v
 | vs => .tup vs
def Ty.shares : Ty -> Bool
 | .slice _ => true
 | .pair a b => a.shares || b.shares
 | _ => false
def Ty.inner : Ty -> Bool
 | .slice a => a.shares
 | .pair a b => a.inner || b.inner
 | _ => false
def RTy.shares : RTy -> Bool
 | .v t => t.shares
 | .o t => t.inner
mutual
def AV.owned : AV -> List Nat
 | .os i => [i]
 | .oss i _ _ _ => [i]
 | .oz i => [i]
 | .agg l | .tup l => AV.ownedL l
 | _ => []
def AV.ownedL : List AV -> List Nat
 | [] => []
 | x :: r => AV.owned x ++ AV.ownedL r
end
def ownedBehind (h : Heap) : List AV -> List Nat
 | [] => []
 | .p i _ :: r => (match h i with | some (.box cs) => AV.ownedL cs | _ => []) ++ ownedBehind h r
 | .fn _ caps :: r => ownedP h caps ++ ownedBehind h r
 | v :: r => AV.owned v ++ ownedBehind h r
where
 ownedP (h : Heap) : List AV -> List Nat
 | [] => []
 | .p i _ :: r => (match h i with | some (.box cs) => AV.ownedL cs | _ => []) ++ ownedP h r
 | v :: r => AV.owned v ++ ownedP h r
def St.add (s : St) (news : List Obj) : St := { s with objs := s.objs ++ news.map some }
def St.setObj (s : St) (i : Nat) (o : Option Obj) : St := { s with objs := s.objs.set i o }
def St.freezes (s : St) : List Nat -> St
 | [] => s
 | i :: r => (s.freeze1 i).freezes r
def handedL (h : Heap) : (ps : List PTy) -> List AV -> mdens ps -> List (Nat × Option Obj)
 | [], _, _ => []
 | .m t :: ps, .p i _ :: r, u => (i, some (.box (cellsOf t u.1))) :: handedL h ps r u.2
 | .mo t :: ps, .os i :: r, u => (i, match h i with | some (.arr _ _ fx) => some (.arr t u.1 fx) | _ => none) :: handedL h ps r u.2
 | .o _ :: ps, .os i :: r, u => (i, none) :: handedL h ps r u
 | .o _ :: ps, _ :: r, u => handedL h ps r u
 | .v _ :: ps, _ :: r, u => handedL h ps r u
 | .r _ :: ps, _ :: r, u => handedL h ps r u
 | .f _ _ :: ps, _ :: r, u => handedL h ps r u
 | .rf _ _ :: ps, _ :: r, u => handedL h ps r u
 | _, _, _ => []
def setObjsO : List (Option Obj) -> List (Nat × Option Obj) -> List (Option Obj)
 | l, [] => l
 | l, (i, o) :: r => setObjsO (l.set i o) r
def handed (s : St) (ps : List PTy) (args : List AV) (u : mdens ps) : St := { s with objs := setObjsO s.objs (handedL s.heap ps args u) }
def given : List PTy -> List AV -> List Nat
 | .o _ :: ps, .os i :: r => i :: given ps r
 | .mo _ :: ps, .os i :: r => i :: given ps r
 | .m _ :: ps, .p i _ :: r => i :: given ps r
 | _ :: ps, _ :: r => given ps r
 | _, _ => []
def minusL (l g : List Nat) : List Nat := l.filter fun i => !(memB i g)
def seenH (h : Heap) (fr g : List Nat) : Heap := fun i => match h i with
 | some (.arr t xs f) => bif memB i fr && !(memB i g) then some (.arr t xs f) else none
 | some (.box cs) => bif memB i g then none else some (.box cs)
 | some (.zone t xs) => bif memB i fr && !(memB i g) then some (.zone t xs) else none
 | none => none
def zfree (h : Heap) : List Nat -> Bool
 | [] => true
 | i :: r => (match h i with | some (.zone _ _) => false | _ => true) && zfree h r
def shareAny : List RTy -> Bool
 | [] => false
 | r :: rs => r.shares || shareAny rs
def shareM : List PTy -> Bool
 | [] => false
 | .m t :: ps => t.shares || shareM ps
 | .mo t :: ps => t.shares || shareM ps
 | _ :: ps => shareM ps
def callRes (sp : FSpec) (x : pdens sp.ps) (s : St) (dst : Option Nat) : St :=
 (s.add (ressV sp.rs (sp.fn x) s.objs.length).2).put dst (tupV (ressV sp.rs (sp.fn x) s.objs.length).1)
def callV (E : Env) (sp : FSpec) (s : St) (args : List AV) (dst : Option Nat) (K : St -> Prop) : Prop :=
 (nodupB (given sp.ps args) && bif shareAny sp.rs || shareM sp.ps then zfree s.heap (ownedBehind s.heap args) else true) = true /\
 match argsD E (seenH s.heap (ownedBehind s.heap args) (given sp.ps args)) s.heap sp.ps args with
 | none => False
 | some x => sp.pre x /\
   K (callRes sp x (handed (bif shareAny sp.rs || shareM sp.ps then s.freezes (minusL (ownedBehind s.heap args) (given sp.ps args)) else s) sp.ps args (sp.upd x)) dst)
def callFp (E : Env) (h : Heap) (as : List Ty) (b : Ty) (p : (dens as -> b.den) × (dens as -> Prop)) (args : List AV) (K : AV -> Prop) : Prop :=
 match go as args with
 | none => False
 | some x => p.2 x /\ K (valOf b.isPair (cellsOf b (p.1 x)))
where
 go : (as : List Ty) -> List AV -> Option (dens as)
 | [], [] => some ()
 | t :: ts, a :: r => match toV E h t a, go ts r with | some x, some y => some (x, y) | _, _ => none
 | _, _ => none
def pickP (v : AV) (p q : Prop) : Prop :=
 match v with
 | .lb true => p
 | .lb false => q
 | .d .bool c => (c = true -> p) /\ (c = false -> q)
 | _ => False
theorem pickP_ok {v : AV} {p q : Prop} (h : pickP v p q) : ∃ b : Bool, (boolOf v = some b) /\ ((b = true -> p) /\ (b = false -> q)) := by
 cases v with
 | lb b => cases b with
   | true => exact Exists.intro true (And.intro rfl (And.intro (fun _ => h) (fun e => Bool.noConfusion e)))
   | false => exact Exists.intro false (And.intro rfl (And.intro (fun e => Bool.noConfusion e) (fun _ => h)))
 | d t x => cases t with
   | bool => exact Exists.intro x (And.intro rfl h)
   | _ => exact h.elim
 | _ => exact h.elim
def mm (mx : Bool) (a b : Int) : Int := if mx then (if a < b then b else a) else (if b < a then b else a)
def op1 (E : Env) (ρ : Operand -> AV) (h : Heap) (n : Nat) (o : Oper) (K : K1) : Prop :=
 match o.op with
 | .move x => K (ρ x) []
 | .assign x => match ρ x, (E.ti o.type).map (fun i => i.kind) with
   | .emp _, some (TK.slice e) => match E.ty e with
     | some t => K (.os n) [.arr t [] false]
     | none => False
   | v, _ => K v []
 | .pick c a b => pickP (ρ c) (K (ρ a) []) (K (ρ b) [])
 | .alloc t => match E.ti t with
   | some i => K (.p n 0) [.box i.zero]
   | none => False
 | .box t x => match E.ti t with
   | some _ => match (ρ x).cells? with
     | some l => K (.p n 0) [.box l]
     | none => False
   | none => False
 | .build t parts => match E.ti t with
   | some i => match isAggT E t, buildV i ρ i.zero parts.toList with
     | true, some cs => K (.agg cs) []
     | _, _ => False
   | none => False
 | .buildSlice t len parts => match parts.toList with
   | [] => match len, elemSize E t with
     | 0, some _ => K (.emp false) []
     | _, _ => False
   | ps => match (E.ti t).map (fun i => i.kind) with
     | some (TK.slice e) => match E.ty e with
       | some ty => match elemsV E (fun _ => none) ρ ty 0 ps, Nat.beq ps.length len, Nat.ble (len * ty.size) 16777216 with
         | some xs, true, true => K (.os n) [.arr ty xs false]
         | _, _, _ => False
       | none => False
     | _ => False
 | .load t a => loadV E h t (ρ a) fun v => K v []
 | .nilCheck x => match ρ x with
   | .p i k => K (.p i k) []
   | .pc cs => K (.pc cs) []
   | .pe i m k off => K (.pe i m k off) []
   | .fp as b p => K (.fp as b p) []
   | .fn f caps => K (.fn f caps) []
   | _ => False
 | .binOp op t x y _ => binOpV E t op (ρ x) (ρ y) fun v => K v []
 | .unOp op _ x => match op, ρ x with
   | .not, .lb b => K (.lb !b) []
   | .not, .d .bool b => K (.d .bool !b) []
   | .neg, .d (.int k) a => K (.d (.int k) (wNeg k a)) []
   | _, _ => False
 | .convert src dst x => convertV E src dst h (ρ x) K
 | .makeInterface t x => match E.ty t with
   | some (.int _) => K (.ifc t (ρ x)) []
   | some .bool => K (.ifc t (ρ x)) []
   | some .str => K (.ifc t (ρ x)) []
   | _ => False
 | .makeFunc (.func f) first captured => match first.toList with
   | [] => K (.fn f (captured.toList.map ρ)) []
   | _ => False
 | .makeSlice t len cap => match (E.ti t).map (fun i => i.kind), ρ len, ρ cap with
   | some (TK.slice e), .d (.int .i64) l, .d (.int .i64) c => match E.ti e with
     | some i => match i.ty with
       | some ty => match toV E (fun _ => none) ty (valOf ty.isPair i.zero) with
         | some z => mkOK l c /\ K (.os n) [.arr ty (List.replicate (tN l) z) false]
         | none => False
       | none => False
     | none => False
   | _, _, _ => False
 | .slice t x lo hi none => sliceV E h t (ρ x) (lo.map ρ) (hi.map ρ) fun v => K v []
 | .fieldAddr t x f => fieldAddrV E t (ρ x) f fun v => K v []
 | .field t x f => fieldV E t (ρ x) f fun v => K v []
 | .indexAddr t x i => indexAddrV E h t (ρ x) (ρ i) fun v => K v []
 | .index t x i => match ρ x, ρ i, E.ty t with
   | .d .str s, .d (.int _) a, some .str => bnd a (lenL s) /\ ∀ c, nthI s a = some c -> K (.d (.int .u8) (c.toNat : Int)) []
   | _, _, _ => False
 | .extract t i => match ρ t with
   | .tup l => match l[i]? with
     | some v => K v []
     | none => False
   | _ => False
 | .typeAssert x _ t ok => match ρ x with
   | .d .any v => match ok, Nat.beq t E.anyB, Nat.beq t E.anyN, Nat.beq t E.anyS with
     | true, true, _, _ => (∀ b, v = .b b -> K (.tup [.d .bool b, .lb true]) []) /\ ((∀ b, v ≠ .b b) -> K (.tup [.lb false, .lb false]) [])
     | true, _, true, _ => (∀ a, v = .n a -> K (.tup [.d (.int .i64) a, .lb true]) []) /\ ((∀ a, v ≠ .n a) -> K (.tup [.d (.int .i64) 0, .lb false]) [])
     | true, _, _, true => (∀ a, v = .s a -> K (.tup [.d .str a, .lb true]) []) /\ ((∀ a, v ≠ .s a) -> K (.tup [.d .str [], .lb false]) [])
     | _, _, _, _ => False
   | _ => False
 | .call { callee := .builtin b, args, argTypes } => match b, args.toList.map ρ with
   | .len, [x] => match argTypes.toList with
     | [t] => lenV E h t x fun v => K v []
     | _ => False
   | .min, [.d (.int k) a, .d (.int k') b] => k = k' /\ K (.d (.int k) (mm false a b)) []
   | .max, [.d (.int k) a, .d (.int k') b] => k = k' /\ K (.d (.int k) (mm true a b)) []
   | .append, [.emp c, x] => match argTypes.toList with
     | [t, t'] => match Nat.beq t t', (E.ti t).map (fun i => i.kind) with
       | true, some (TK.slice e) => appendNew e c x K
       | _, _ => False
     | _ => False
   | _, _ => False
 | .call { callee := .value f, args, .. } => match ρ f with
   | .fp as b p => callFp E h as b p (args.toList.map ρ) fun v => K v []
   | _ => False
 | _ => False
where
 appendNew (e : Nat) (c : Bool) (x : AV) (K : K1) : Prop :=
   match E.ty e with
   | some t => match x with
     | .emp _ => K (.emp c) []
     | x => match leafD E (arrH h) (.slice t) x with
       | some xs => fits (lenL xs) -> K (.os n) [.arr t xs false]
       | none => False
   | none => False
def solidL : List AV -> Bool
 | [] => true
 | v :: r => v.solid && solidL r
def storeV (E : Env) (s : St) (x v : AV) (size : Nat) (K : St -> Prop) : Prop :=
 match v.cells? with
 | none => False
 | some l => match Nat.beq l.length size, solidL l with
   | true, true => match x with
     | .p i off => match s.heap i with
       | some (.box cs) => off + size <= cs.length /\ K (s.setObj i (some (.box (fillCells cs off l))))
       | _ => False
     | .pe i n k off => match s.heap i with
       | some (.arr t xs fx) => match Nat.beq n t.size with
         | true => match Nat.beq n size with
           | true => match toD E (fun _ => none) t l with
             | some (y, []) => (off = 0 /\ k < lenL xs) /\ K (s.setObj i (some (.arr t (xs.set k y) fx)))
             | _ => False
           | false => (off + size <= n /\ k < lenL xs) /\
             ∀ x, nth xs k = some x -> match toD E (fun _ => none) t (fillCells (cellsOf t x) off l) with
               | some (y, []) => K (s.setObj i (some (.arr t (xs.set k y) fx)))
               | _ => False
         | false => False
       | _ => False
     | _ => False
   | _, _ => False
def appendV (E : Env) (s : St) (ts : List Nat) (i : Nat) (t : Ty) (xs : List t.den) (x : AV) (dst : Option Nat) (K : St -> Prop) : Prop :=
 match ts with
 | [u, u'] => match Nat.beq u u', (E.ti u).map (fun i => i.kind) with
   | true, some (TK.slice e) => match (E.ty e).map (fun t' => decide (t' = t)) with
     | some true => go
     | _ => False
   | _, _ => False
 | _ => False
where go : Prop :=
 match leafD E (arrH s.heap) (.slice t) x with
 | some ys => fits (lenL xs + lenL ys) /\ K (((s.kill i).setObj i (some (.arr t (xs ++ ys) false))).put dst (.os i))
 | none => False
def copyL {α : Type} (xs : List α) (lo hi : Nat) (ys : List α) : List α := xs.take lo ++ ys.take (hi - lo) ++ xs.drop (lo + min ys.length (hi - lo))
def copyV (E : Env) (s : St) (i : Nat) (t : Ty) (xs : List t.den) (fx : Bool) (lo hi : Nat) (x : AV) (dst : Option Nat) (K : St -> Prop) : Prop :=
 match leafD E (arrH s.heap) (.slice t) x with
 | some ys => (lo <= hi /\ hi <= lenL xs) /\
   K ((s.setObj i (some (.arr t (copyL xs lo hi ys) fx))).put dst (.d (.int .i64) (iOf (min (lenL ys) (hi - lo)))))
 | none => False
def clearV (E : Env) (s : St) (u i : Nat) (t : Ty) (xs : List t.den) (fx : Bool) (lo hi : Nat) (dst : Option Nat) (K : St -> Prop) : Prop :=
 match (E.ti u).map (fun i => i.kind) with
 | some (TK.slice e) => match E.ti e with
   | some inf => match decide (inf.ty = some t), toV E (fun _ => none) t (valOf t.isPair inf.zero) with
     | true, some z => (lo <= hi /\ hi <= lenL xs) /\ K ((s.setObj i (some (.arr t (copyL xs lo hi (List.replicate (hi - lo) z)) fx))).put dst (.tup []))
     | _, _ => False
   | none => False
 | _ => False
def ownedOps (s : St) : List (Nat × Operand) -> List Nat
 | [] => []
 | (_, x) :: r => AV.owned (s.eval x) ++ ownedOps s r
def inlV (E : Env) (s : St) (f : Nat) (args : List AV) (dst : Option Nat) (K : St -> Prop) : Prop :=
 match look E.inl f with
 | some T => T s args fun s' rs => K (s'.put dst (tupV rs))
 | none => False
def aop (E : Env) (s : St) (o : Oper) (K : St -> Prop) : Prop :=
 match o.op with
 | .store t a v => match E.ti t with
   | some i => match s.eval a with
     | .pe .. => storeV E (s.freezes (AV.owned (s.eval v))) ((s.freezes (AV.owned (s.eval v))).eval a) ((s.freezes (AV.owned (s.eval v))).eval v) i.size fun s => K (s.put o.dst .any)
     | x => storeV E s x (s.eval v) i.size fun s => K (s.put o.dst .any)
   | none => False
 | .assign x => match s.eval x with
   | .oss i sz 0 hi => match s.heap i with
     | some (.arr t xs false) => match Nat.beq sz t.size with
       | true => hi <= lenL xs /\ K (((s.kill i).setObj i (some (.arr t (subL xs 0 hi) false))).put o.dst (.os i))
       | false => False
     | _ => op1 E s.eval s.heap s.objs.length o fun v news => K ((s.add news).put o.dst v)
   | _ => op1 E s.eval s.heap s.objs.length o fun v news => K ((s.add news).put o.dst v)
 | .buildSlice _ _ parts =>
   op1 E (s.freezes (ownedOps s parts.toList)).eval (s.freezes (ownedOps s parts.toList)).heap (s.freezes (ownedOps s parts.toList)).objs.length o fun v news => K (((s.freezes (ownedOps s parts.toList)).add news).put o.dst v)
 | .call { callee := .builtin .append, args, argTypes } => match args.toList.map s.eval with
   | [.os i, x] => match s.heap i with
     | some (.arr t xs _) => appendV E s argTypes.toList i t xs x o.dst K
     | _ => False
   | [.oss i sz 0 hi, x] => match s.heap i with
     | some (.arr t xs _) => match Nat.beq sz t.size with
       | true => hi <= lenL xs /\ appendV E s argTypes.toList i t (subL xs 0 hi) x o.dst K
       | false => False
     | _ => False
   | _ => op1 E s.eval s.heap s.objs.length o fun v news => K ((s.add news).put o.dst v)
 | .call { callee := .builtin .copy, args, argTypes } => match args.toList.map s.eval, argTypes.toList with
   | [.os i, x], [u, _] => match s.heap i, elemSize E u with
     | some (.arr t xs fx), some z => match Nat.beq z t.size with
       | true => copyV E s i t xs fx 0 (lenL xs) x o.dst K
       | false => False
     | _, _ => False
   | [.oss i sz lo hi, x], [u, _] => match s.heap i, elemSize E u with
     | some (.arr t xs fx), some z => match Nat.beq z t.size, Nat.beq sz t.size with
       | true, true => copyV E s i t xs fx lo hi x o.dst K
       | _, _ => False
     | _, _ => False
   | _, _ => False
 | .call { callee := .builtin .clear, args, argTypes } => match args.toList.map s.eval, argTypes.toList with
   | [.oss i sz lo hi], [u] => match s.heap i, elemSize E u with
     | some (.arr t xs fx), some z => match Nat.beq z t.size, Nat.beq sz t.size with
       | true, true => clearV E s u i t xs fx lo hi o.dst K
       | _, _ => False
     | _, _ => False
   | _, _ => False
 | .call { callee := .value f, args, .. } => match s.eval f with
   | .fn f [] => match look E.specs f with
     | some sp => callV E sp s (args.toList.map s.eval) o.dst K
     | none => inlV E s f (args.toList.map s.eval) o.dst K
   | .fn f (c :: cs) => inlV E s f (args.toList.map s.eval ++ c :: cs) o.dst K
   | _ => op1 E s.eval s.heap s.objs.length o fun v news => K ((s.add news).put o.dst v)
 | _ => op1 E s.eval s.heap s.objs.length o fun v news => K ((s.add news).put o.dst v)
def lightB (o : Oper) : Bool :=
 match o.op with
 | .move _ | .pick .. | .build .. | .load .. | .nilCheck _ | .binOp .. | .unOp .. | .makeInterface .. | .makeFunc .. | .slice .. | .fieldAddr .. | .field .. | .indexAddr .. | .index .. | .extract .. | .typeAssert .. | .convert .. => true
 | .call { callee := .builtin b, .. } => match b with
   | .len | .min | .max => true
   | _ => false
 | _ => false
def touchB (o : Oper) : Bool :=
 match o.op with
 | .call { callee := .builtin b, .. } => match b with
   | .append => true
   | _ => false
 | _ => false
def guardD (ops : Array Oper) (s : St) (o : Oper) (act skip : St -> Prop) : Prop :=
 match o.guard with
 | none => act s
 | some (j, want) =>
   match (ops[j]?).bind (·.dst) with
   | none => False
   | some t => match s.tmps.getD t .any with
     | .lb b => match b == want with
       | true => act s
       | false => skip s
     | .d .bool b => (b = want -> act (s.put (some t) (.lb want))) /\ (b = !want -> skip (s.put (some t) (.lb !want)))
     | .tup [] => skip s
     | _ => False
def aops (E : Env) (ops : Array Oper) : List Oper -> St -> (St -> Prop) -> Prop
 | [], s, K => K s
 | o :: r, s, K => guardD ops s o (fun s => aop E s o fun s => aops E ops r s K) (fun s => aops E ops r (s.put o.dst (.tup [])) K)
def aopL (E : Env) (touch : Bool) (s : St) (o : Oper) (K : AV -> Prop) : Prop :=
 match touch, o.op with
 | true, .load t a => match s.eval a with
   | .pe .. => False
   | x => loadV E s.heap t x K
 | true, .convert src dst x => match s.eval x with
   | .d (.int k) n => convertV E src dst s.heap (.d (.int k) n) fun v _ => K v
   | _ => False
 | _, _ => op1 E s.eval s.heap s.objs.length o fun v _ => K v
def aopH (E : Env) (s : St) (o : Oper) (K : St -> Prop) : Prop :=
 match o.op with
 | .store .. => False
 | .assign _ => op1 E s.eval s.heap s.objs.length o fun v news => K ((s.add news).put o.dst v)
 | .call { callee := .builtin .copy, .. } => False
 | .call { callee := .builtin .clear, .. } => False
 | .call { callee := .value f, args, .. } => match s.eval f with
   | .fn f [] => match look E.specs f with
     | some sp => match given sp.ps (args.toList.map s.eval) with
       | [] => callV E sp s (args.toList.map s.eval) o.dst K
       | _ => False
     | none => False
   | _ => op1 E s.eval s.heap s.objs.length o fun v news => K ((s.add news).put o.dst v)
 | _ => aop E s o K
def bitM (i : Nat) : Nat := Nat.pow 2 i
def tbM (m i : Nat) : Bool := Nat.beq (Nat.land (Nat.shiftRight m i) 1) 1
def bitsM : List Nat -> Nat
 | [] => 0
 | i :: r => Nat.lor (bitM i) (bitsM r)
def edgesL : List Edge -> List Nat
 | [] => []
 | e :: r => bif Region.binds .any e then e.on :: edgesL r else edgesL r
def dstM : Option Nat -> Nat
 | some t => bitM t
 | none => 0
structure OI where
 af : Nat
 dm : Nat
 lk : Nat
def infoO (ops : Array Oper) (o : Oper) : OI := { af := bitsM (edgesL o.after.toList), dm := dstM o.dst, lk := bitsM (o.looksAt ops) }
def apartM (x y : OI) : Bool := Nat.beq (Nat.land x.dm y.lk) 0 && (Nat.beq (Nat.land x.dm y.dm) 0 && Nat.beq (Nat.land y.dm x.lk) 0)
def confL (x : OI) (i : Nat) : Nat -> List OI -> Nat
 | _, [] => 0
 | j, y :: r => bif Nat.beq j i || (tbM y.af i || apartM x y) then confL x i (j + 1) r else Nat.lor (bitM j) (confL x i (j + 1) r)
structure OP where
 af : Nat
 cf : Nat
 lt : Bool
def prepL (all : List OI) : Nat -> List Oper -> List OP
 | _, [] => []
 | i, o :: r => { af := bitsM (edgesL o.after.toList), cf := (match all[i]? with | some x => confL x i 0 all | none => 0), lt := lightB o } :: prepL all (i + 1) r
def prep (ops : Array Oper) : List OP := prepL (ops.toList.map (infoO ops)) 0 ops.toList
def rdyM (p : OP) (d i : Nat) : Bool := !(tbM d i) && Nat.beq (Nat.land p.af d) p.af
def rdyL (d : Nat) : Nat -> List OP -> List Nat
 | _, [] => []
 | i, p :: r => bif rdyM p d i then i :: rdyL d (i + 1) r else rdyL d (i + 1) r
def lightM (n d i : Nat) (p : OP) : Bool := p.lt && (Nat.blt i n && (rdyM p d i && Nat.beq (Nat.land p.cf d) p.cf))
def findM (n d : Nat) : Nat -> List OP -> Option Nat
 | _, [] => none
 | i, p :: r => bif lightM n d i p then some i else findM n d (i + 1) r
def seqM (pl : List OP) : Nat -> Nat -> Nat -> Bool
 | 0, _, d => match rdyL d 0 pl with
   | [] => true
   | _ => false
 | g + 1, k, d => match rdyL d 0 pl with
   | [j] => Nat.beq j k && seqM pl g (k + 1) (Nat.lor d (bitM k))
   | _ => false
def upL (n : Nat) : Nat -> List OP -> Nat
 | _, [] => 0
 | j, p :: r => bif Nat.blt j n then Nat.lor (Nat.land p.af (Nat.sub (bitM j) 1)) (upL n (j + 1) r) else 0
def lowM (n : Nat) : Nat := Nat.sub (bitM n) 1
def allW (pl : List OP) (p : OP) (n : Nat) : Bool := Nat.beq (Nat.land (Nat.lor p.af (upL n 0 pl)) (lowM n)) (lowM n)
def tailM (pl : List OP) (n : Nat) : Nat -> List OP -> Bool
 | _, [] => true
 | i, p :: r => (Nat.blt i n || allW pl p n) && tailM pl n (i + 1) r
def headT (pl : List OP) : Nat -> Nat
 | 0 => 0
 | t + 1 => match pl[t]? with
   | some p => bif allW pl p t then headT pl t else t + 1
   | none => t + 1
def headD (pl : List OP) : Nat -> Nat
 | 0 => 0
 | t + 1 => match pl[t]? with
   | some p => bif Nat.beq (Nat.land p.af (lowM t)) (lowM t) then headD pl t else t + 1
   | none => t + 1
def headM (pl : List OP) (t : Nat) : Nat := bif tailM pl (headT pl t) 0 pl then headT pl t else headD pl t
def allD (f : Nat -> Prop) : List Nat -> Prop
 | [] => True
 | [i] => f i
 | i :: r => f i /\ allD f r
inductive Ex
 | normal | exit (id : Nat) | ret
def regionOf : Code -> Nat
 | .region id _ _ => id
 | .seq a _ => regionOf a
 | .block _ a => regionOf a
 | _ => 0
def writes : Code -> List Nat
 | .region _ ops _ => ops.toList.filterMap (·.dst)
 | .seq a b => writes a ++ writes b
 | .cond _ a b => writes a ++ writes b
 | .block _ a => writes a
 | .loop a => writes a
 | .scope a => writes a
 | _ => []
def headAVs (ws : List Nat) (asg : List (Nat × AV)) : Nat -> List AV -> List AV
 | _, [] => []
 | i, v :: r => (match look asg i with
   | some u => u
   | none => bif memB i ws then .any else v) :: headAVs ws asg (i + 1) r
def setObjs : List (Option Obj) -> List (Nat × Obj) -> List (Option Obj)
 | l, [] => l
 | l, (i, o) :: r => setObjs (l.set i (some o)) r
def maskL (lv : List Nat) : Nat -> List AV -> List AV
 | _, [] => []
 | i, v :: r => (bif memB i lv then v else .any) :: maskL lv (i + 1) r
def maskO : Option (List Nat) -> List AV -> List AV
 | none, l => l
 | some lv, l => maskL lv 0 l
def LoopAnn.lv (l : List Nat) (f : St -> LoopAnn) : St -> LoopAnn := fun s => { f s with live := some l }
def St.fzS (s : St) (lv : List Nat) : St := s.freezes (lv.flatMap fun i => AV.owned (s.tmps.getD i .any))
def LoopAnn.st (A : LoopAnn) (ws : List Nat) (s : St) (i : A.ι) : St :=
 { tmps := maskO A.live (headAVs ws (A.slots i) 0 s.tmps), objs := setObjs s.objs (A.objs i), keep := s.keep }
mutual
def AV.le : AV -> AV -> Prop
 | _, .any => True
 | .d t x, .d u y => if e : t = u then e ▸ x = y else False
 | .lb a, .d .bool b => a = b
 | .d .bool a, .lb b => a = b
 | .lb a, .lb b => a = b
 | .emp a, .emp b => a = b
 | .os i, .os j => i = j
 | .oss i sz a b, .oss j sz2 a2 b2 => i = j /\ sz = sz2 /\ a = a2 /\ b = b2
 | .p i a, .p j b => i = j /\ a = b
 | .pe i n k a, .pe j m l b => i = j /\ n = m /\ k = l /\ a = b
 | .pc a, .pc b => AV.leL a b
 | .agg a, .agg b => AV.leL a b
 | .tup a, .tup b => AV.leL a b
 | .fn f a, .fn g b => f = g /\ AV.leL a b
 | .fp as b q, .fp as' b' q' => if e : as = as' /\ b = b' then e.1 ▸ e.2 ▸ q = q' else False
 | .ifc t x, .ifc u y => t = u /\ AV.le x y
 | .nili, .nili => True
 | .oz i, .oz j => i = j
 | _, _ => False
def AV.leL : List AV -> List AV -> Prop
 | [], [] => True
 | _ :: r, .any :: q => AV.leL r q
 | x :: r, y :: q => AV.le x y /\ AV.leL r q
 | _, _ => False
end
def Obj.le : Option Obj -> Option Obj -> Prop
 | _, none => True
 | some (.box a), some (.box b) => AV.leL a b
 | some (.arr t xs fx), some (.arr u ys fy) => (if e : t = u then e ▸ xs = ys else False) /\ fx = fy
 | some (.zone t xs), some (.zone u ys) => if e : t = u then e ▸ xs = ys else False
 | _, _ => False
def Obj.leL : List (Option Obj) -> List (Option Obj) -> Prop
 | _, [] => True
 | x :: r, y :: q => Obj.le x y /\ Obj.leL r q
 | [], _ :: _ => False
mutual
def AV.wf (n : Nat) : AV -> Bool
 | .os i => Nat.blt i n
 | .oz i => Nat.blt i n
 | .oss i _ _ _ => Nat.blt i n
 | .p i _ => Nat.blt i n
 | .pe i _ _ _ => Nat.blt i n
 | .agg l => AV.wfL n l
 | .tup l => AV.wfL n l
 | .pc l => AV.wfL n l
 | .fn _ l => AV.wfL n l
 | .ifc _ x => AV.wf n x
 | _ => true
def AV.wfL (n : Nat) : List AV -> Bool
 | [] => true
 | x :: r => AV.wf n x && AV.wfL n r
end
def Obj.wfL (n : Nat) : List (Option Obj) -> Bool
 | [] => true
 | some (.box cs) :: r => AV.wfL n cs && Obj.wfL n r
 | _ :: r => Obj.wfL n r
def St.wf (s : St) : Bool := AV.wfL s.objs.length s.tmps && Obj.wfL s.objs.length s.objs && AV.wfL s.objs.length s.keep
def St.le (s t : St) : Prop :=
 match t.wf with
 | true => AV.leL s.tmps t.tmps /\ Obj.leL s.objs t.objs /\ AV.leL s.keep t.keep
 | false => False
abbrev Segs := List (Nat × (List Nat × (St -> List (Nat × AV))))
def setAll : List Nat -> Nat -> Nat
 | [], d => d
 | i :: r, d => setAll r (Nat.lor d (bitM i))
def segD (E : Env) (ops : Array Oper) (pl : List OP) (touch : Bool) (n : Nat) : List Nat -> Nat -> St -> (St -> Prop) -> Prop
 | [], _, s, K => K s
 | i :: r, d, s, K =>
   match (match pl[i]? with | some p => lightM n d i p | none => false), ops[i]? with
   | true, some o => guardD ops s o (fun s => aopL E touch s o fun v => segD E ops pl touch n r (Nat.lor d (bitM i)) (s.put o.dst v) K)
       (fun s => segD E ops pl touch n r (Nat.lor d (bitM i)) (s.put o.dst (.tup [])) K)
   | _, _ => False
def dstsOf (ops : Array Oper) (l : List Nat) : List Nat := l.filterMap fun i => (ops[i]?).bind (·.dst)
def segSt (ops : Array Oper) (l : List Nat) (asg : List (Nat × AV)) (s : St) : St := { tmps := headAVs (dstsOf ops l) asg 0 s.tmps, objs := s.objs, keep := s.keep }
def aopsD (E : Env) (ops : Array Oper) (pl : List OP) (touch : Bool) (n : Nat) (sg : Segs) : Nat -> Nat -> Nat -> St -> (St -> Prop) -> Prop
 | 0, f, d, s, K => match f with
   | 0 => match seqM pl (ops.toList.drop n).length n d with
     | true => aops E ops (ops.toList.drop n) s K
     | false => False
   | _ + 1 => False
 | g + 1, f, d, s, K => match f with
   | 0 => match seqM pl (ops.toList.drop n).length n d with
     | true => aops E ops (ops.toList.drop n) s K
     | false => False
   | f + 1 =>
     match findM n d 0 pl with
     | some i => match look sg i with
       | none => match ops[i]? with
         | none => False
         | some o => guardD ops s o (fun s => aopL E touch s o fun v => aopsD E ops pl touch n sg g f (Nat.lor d (bitM i)) (s.put o.dst v) K)
             (fun s => aopsD E ops pl touch n sg g f (Nat.lor d (bitM i)) (s.put o.dst (.tup [])) K)
       | some p => match Nat.ble p.1.length f with
         | true => segD E ops pl touch n (i :: p.1) d s (fun s' => s'.le (segSt ops (i :: p.1) (p.2 s) s)) /\
             aopsD E ops pl touch n sg g (f - p.1.length) (setAll (i :: p.1) d) (segSt ops (i :: p.1) (p.2 s) s) K
         | false => False
     | none => match rdyL d 0 pl with
       | [] => False
       | rs => allD (fun i => match ops[i]? with
         | none => False
         | some o => guardD ops s o (fun s => aopH E s o fun s => aopsD E ops pl touch n sg g f (Nat.lor d (bitM i)) s K)
           (fun s => aopsD E ops pl touch n sg g f (Nat.lor d (bitM i)) (s.put o.dst (.tup [])) K)) rs
def insB (o : Oper) : Bool :=
 match o.op with
 | .load .. | .convert .. => false
 | _ => lightB o
def storeB (o : Oper) : Bool :=
 match o.op with
 | .store .. => true
 | _ => false
def lastS (n : Nat) : Nat -> List Oper -> Option Nat
 | _, [] => none
 | i, o :: r => match lastS n (i + 1) r with
   | some j => some j
   | none => bif Nat.blt i n && storeB o then some i else none
def unionAf : List OP -> Nat -> Nat -> Nat
 | [], _, m => m
 | p :: r, i, m => unionAf r (i + 1) (bif tbM m i then Nat.lor m p.af else m)
def closeM (pl : List OP) : Nat -> Nat -> Nat
 | 0, m => m
 | g + 1, m => closeM pl g (unionAf pl 0 m)
def awaits (pl : List OP) (j i : Nat) : Bool := match pl[j]? with
 | some p => tbM (closeM pl 4 p.af) i
 | none => false
def gate (b : Bool) (p : Prop) : Prop := match b with | true => p | false => False
theorem gate_ok {b : Bool} {p : Prop} (h : gate b p) : b = true /\ p := by cases b with | true => exact ⟨rfl, h⟩ | false => exact h.elim
def onlyS (n j : Nat) : Nat -> List Oper -> Bool
 | _, [] => true
 | i, o :: r => (Nat.ble n i || (Nat.beq i j || lightB o)) && onlyS n j (i + 1) r
def onlyO (n : Nat) (ops : List Oper) : Option Nat -> Bool
 | none => false
 | some j => onlyS n j 0 ops
def aopsE (E : Env) (ops : Array Oper) (pl : List OP) (touch : Bool) (n j : Nat) : Nat -> Nat -> St -> (St -> Prop) -> Prop
 | 0, d, s, K => match seqM pl (ops.toList.drop n).length n d with
   | true => aops E ops (ops.toList.drop n) s K
   | false => False
 | f + 1, d, s, K =>
   match findM n d 0 pl with
   | some i => match ops[i]? with
     | none => False
     | some o => gate (!(Nat.beq i j) && (insB o || awaits pl j i)) (guardD ops s o (fun s => aopL E touch s o fun v => aopsE E ops pl touch n j f (Nat.lor d (bitM i)) (s.put o.dst v) K)
           (fun s => aopsE E ops pl touch n j f (Nat.lor d (bitM i)) (s.put o.dst (.tup [])) K))
   | none => match rdyL d 0 pl with
     | [] => False
     | rs => allD (fun i => match ops[i]? with
       | none => False
       | some o => guardD ops s o (fun s => match Nat.beq i j with
           | true => aop E s o fun s => aopsE E ops pl touch n j f (Nat.lor d (bitM i)) s K
           | false => aopH E s o fun s => aopsE E ops pl touch n j f (Nat.lor d (bitM i)) s K)
         (fun s => aopsE E ops pl touch n j f (Nat.lor d (bitM i)) (s.put o.dst (.tup [])) K)) rs
def aopB (E : Env) (s : St) (o : Oper) (K : AV -> Prop) : Prop :=
 match o.op with
 | .load t a => match s.eval a with
   | .pc l => loadV E s.heap t (.pc l) K
   | _ => False
 | .convert .. => False
 | _ => op1 E s.eval s.heap s.objs.length o fun v _ => K v
def storeP (E : Env) (s : St) (o : Oper) (K : St -> Prop) : Prop :=
 match o.op with
 | .store t a v => match E.ti t with
   | some i => match s.eval a with
     | .p ob off => storeV E s (.p ob off) (s.eval v) i.size fun s => K (s.put o.dst .any)
     | _ => False
   | none => False
 | _ => False
def aopsB (E : Env) (ops : Array Oper) (pl : List OP) (n j : Nat) : Nat -> Nat -> St -> (St -> Prop) -> Prop
 | 0, d, s, K => match seqM pl (ops.toList.drop n).length n d with
   | true => aops E ops (ops.toList.drop n) s K
   | false => False
 | f + 1, d, s, K =>
   match findM n d 0 pl with
   | some i => match ops[i]? with
     | none => False
     | some o => guardD ops s o (fun s => aopB E s o fun v => aopsB E ops pl n j f (Nat.lor d (bitM i)) (s.put o.dst v) K)
           (fun s => aopsB E ops pl n j f (Nat.lor d (bitM i)) (s.put o.dst (.tup [])) K)
   | none => match rdyL d 0 pl with
     | [i] => match f, Nat.beq i j, ops[i]? with
       | 0, true, some o => guardD ops s o (fun s => storeP E s o fun s => aopsB E ops pl n j 0 (Nat.lor d (bitM i)) s K)
           (fun s => aopsB E ops pl n j 0 (Nat.lor d (bitM i)) (s.put o.dst (.tup [])) K)
       | _, _, _ => False
     | _ => False
def aregion (E : Env) (ops : Array Oper) (pl : List OP) (sg : Segs) (s : St) (K : St -> Prop) : Prop :=
 match Region.noSelect ops && tailM pl (headM pl ops.size) 0 pl, lastS (headM pl ops.size) 0 ops.toList, onlyO (headM pl ops.size) ops.toList (lastS (headM pl ops.size) 0 ops.toList) with
 | true, none, _ => aopsD E ops pl (ops.any touchB) (headM pl ops.size) sg (headM pl ops.size) (headM pl ops.size) 0 s K
 | true, some j, false => aopsE E ops pl (ops.any touchB) (headM pl ops.size) j (headM pl ops.size) 0 s K
 | true, some j, true => aopsB E ops pl (headM pl ops.size) j (headM pl ops.size) 0 s K
 | false, _, _ => False
def cutSt (L : LoopAnn) (ws : List Nat) (s : St) : St := { tmps := maskO L.live (headAVs ws (L.cut s) 0 s.tmps), objs := s.objs, keep := s.keep }
def LoopAnn.ofCut (f : St -> List (Nat × AV)) : St -> LoopAnn := fun _ => { ι := Unit, inv := fun _ => True, slots := fun _ => [], objs := fun _ => [], μ := fun _ => 0, cut := f }
def AV.getI : AV -> Int
 | .d (.int _) n => n
 | _ => 0
def AV.getS : AV -> List UInt8
 | .d .str s => s
 | _ => []
def AV.getB : AV -> Bool
 | .d .bool b => b
 | .lb b => b
 | _ => false
def St.tI (s : St) (k : Nat) : Int := (s.tmps.getD k .any).getI
def St.tS (s : St) (k : Nat) : List UInt8 := (s.tmps.getD k .any).getS
def St.cellOf (s : St) (k f : Nat) : AV := match s.tmps.getD k .any with
 | .p i off => match s.heap i with
   | some (.box cs) => cs.getD (off + f) .any
   | _ => .any
 | .pc cs => cs.getD f .any
 | _ => .any
def regV (E : Env) (ops : Array Oper) (draw : Bool) (sg : Segs) (s : St) (K : St -> Prop) : Prop :=
 match draw with
 | false => aops E ops ops.toList s K
 | true => aregion E ops (prep ops) sg s K
def eqO : Operand -> Operand -> Bool
 | .tmp a, .tmp b => Nat.beq a b
 | .func a, .func b => Nat.beq a b
 | _, _ => false
def eqOs : List Operand -> List Operand -> Bool
 | [], [] => true
 | a :: l, b :: r => eqO a b && eqOs l r
 | _, _ => false
def eqNs : List Nat -> List Nat -> Bool
 | [], [] => true
 | a :: l, b :: r => Nat.beq a b && eqNs l r
 | _, _ => false
def eqCallee : Callee -> Callee -> Bool
 | .value a, .value b => eqO a b
 | .builtin a, .builtin b => decide (a = b)
 | _, _ => false
def eqOp : Op -> Op -> Bool
 | .move a, .move b => eqO a b
 | .assign a, .assign b => eqO a b
 | .load t a, .load u b => Nat.beq t u && eqO a b
 | .store t a c, .store u b d => Nat.beq t u && eqO a b && eqO c d
 | .indexAddr t a c, .indexAddr u b d => Nat.beq t u && eqO a b && eqO c d
 | .makeSlice t a c, .makeSlice u b d => Nat.beq t u && eqO a b && eqO c d
 | .call c, .call d => eqCallee c.callee d.callee && eqOs c.args.toList d.args.toList && eqNs c.argTypes.toList d.argTypes.toList
 | _, _ => false
def eqD : Option Nat -> Option Nat -> Bool
 | some a, some b => Nat.beq a b
 | none, none => true
 | _, _ => false
def eqOps : List Oper -> List (Option Nat × Op) -> Bool
 | [], [] => true
 | o :: l, x :: r => eqD o.dst x.1 && o.guard.isNone && eqOp o.op x.2 && eqOps l r
 | _, _ => false
def segsOf (A : List (Nat × (St -> LoopAnn))) (id : Nat) (s : St) : Segs := match look A (2000000 + id) with
 | none => []
 | some L => (L s).segs
def LoopAnn.ofSegs (f : St -> Segs) : St -> LoopAnn := fun s => { ι := Unit, inv := fun _ => True, slots := fun _ => [], objs := fun _ => [], μ := fun _ => 0, segs := f s }
def dsts (ops : Array Oper) : List Nat := ops.toList.filterMap (·.dst)
def awp (E : Env) (A : List (Nat × (St -> LoopAnn))) : Code -> (Ex -> St -> Prop) -> St -> Prop
 | .skip, Q, s => Q .normal s
 | .region id ops draw, Q, s => match look E.reg id with
   | some r => gate (!draw && eqOps ops.toList r.ops) (r.T s (Q .normal))
   | none => match look A (1000000 + id) with
     | none => regV E ops draw (segsOf A id s) s (Q .normal)
     | some L => regV E ops draw (segsOf A id s) s (fun s' => s'.le (cutSt (L s) (dsts ops) s)) /\ Q .normal (cutSt (L s) (dsts ops) s)
 | .seq a b, Q, s => awp E A a (fun e s => match e with
   | .normal => awp E A b Q s
   | .exit id => Q (.exit id) s
   | .ret => Q .ret s) s
 | .cond c a b, Q, s => match s.eval c with
   | .lb true => awp E A a Q s
   | .lb false => awp E A b Q s
   | .d .bool x => (x = true -> awp E A a Q s) /\ (x = false -> awp E A b Q s)
   | _ => False
 | .block id a, Q, s => match look A (3000000 + id) with
   | none => awp E A a (fun e s => match e with
     | .normal => Q .normal s
     | .exit j => match Nat.beq j id with
       | true => Q .normal s
       | false => Q (.exit j) s
     | .ret => Q .ret s) s
   | some L => awp E A a (fun e s' => match e with
     | .normal => ∃ i, (L s).inv i /\ (s'.fzS (L s).fz).le ((L s).st (writes a) s i)
     | .exit j => match Nat.beq j id with
       | true => ∃ i, (L s).inv i /\ (s'.fzS (L s).fz).le ((L s).st (writes a) s i)
       | false => Q (.exit j) s'
     | .ret => Q .ret s') s /\ ∀ i, (L s).inv i -> Q .normal ((L s).st (writes a) s i)
 | .loop a, Q, s => match look A (regionOf a) with
   | none => False
   | some L => (fun s0 : St => (∃ i, (L s0).inv i /\ s0.le ((L s0).st (writes a) s0 i)) /\
     ∀ i, (L s0).inv i -> awp E A a (fun e s' => match e with
       | .normal => ∃ j, (L s0).inv j /\ (L s0).μ j < (L s0).μ i /\ (s'.fzS (L s0).fz).le ((L s0).st (writes a) s0 j)
       | .exit id => Q (.exit id) s'
       | .ret => Q .ret s') ((L s0).st (writes a) s0 i)) (s.fzS (L s).fz)
 | .exit id, Q, s => Q (.exit id) s
 | .ret, Q, s => Q .ret s
 | _, _, _ => False
def goodL : List AV -> Bool
 | [] => true
 | .any :: _ => false
 | _ :: r => goodL r
def entry : (ps : List PTy) -> pdens ps -> Nat -> List AV × List (Option Obj)
 | [], _, _ => ([], [])
 | .v t :: ps, x, n => (valOf t.isPair (cellsOf t x.1) :: (entry ps x.2 n).1, (entry ps x.2 n).2)
 | .r t :: ps, x, n => (.pc (cellsOf t x.1) :: (entry ps x.2 n).1, (entry ps x.2 n).2)
 | .f as b :: ps, x, n => (.fp as b x.1 :: (entry ps x.2 n).1, (entry ps x.2 n).2)
 | .rf as b :: ps, x, n => (.pc [.fp as b x.1] :: (entry ps x.2 n).1, (entry ps x.2 n).2)
 | .o t :: ps, x, n => (.os n :: (entry ps x.2 (n + 1)).1, some (.arr t x.1 false) :: (entry ps x.2 (n + 1)).2)
 | .mo t :: ps, x, n => (.os n :: (entry ps x.2 (n + 1)).1, some (.arr t x.1 true) :: (entry ps x.2 (n + 1)).2)
 | .m t :: ps, x, n => (.p n 0 :: (entry ps x.2 (n + 1)).1, some (.box (cellsOf t x.1)) :: (entry ps x.2 (n + 1)).2)
def resAV (s : St) : ResultVar -> (size : Nat × Bool) -> AV
 | .tmp t, _ => s.tmps.getD t .any
 | .cell a _, (size, agg) => match s.tmps.getD a .any with
   | .p i off => match s.heap i with
     | some (.box cs) => match Nat.ble (off + size) cs.length with
       | true => valOf agg ((cs.drop off).take size)
       | false => .any
     | _ => .any
   | _ => .any
mutual
def AV.ownedOK : AV -> Bool
 | .os _ => true
 | .emp _ => true
 | .d t _ => !t.shares
 | .lb _ | .ifc _ _ => true
 | .agg l => AV.ownedOKL l
 | _ => false
def AV.ownedOKL : List AV -> Bool
 | [] => true
 | x :: r => AV.ownedOK x && AV.ownedOKL r
end
def RTy.own : RTy -> Bool
 | .o _ => true
 | .v _ => false
def ownIds : List RTy -> List AV -> List Nat
 | .o _ :: rs, v :: vs => AV.owned v ++ ownIds rs vs
 | .v _ :: rs, _ :: vs => ownIds rs vs
 | _, _ => []
def allFree (h : Heap) : List Nat -> Bool
 | [] => true
 | i :: r => (match h i with | some (.arr _ _ false) => true | _ => false) && allFree h r
def ownsOK : List RTy -> List AV -> Bool
 | .o _ :: rs, v :: vs => AV.ownedOK v && ownsOK rs vs
 | .v _ :: rs, v :: vs => (AV.owned v).isEmpty && ownsOK rs vs
 | [], [] => true
 | _, _ => false
def ressD (E : Env) (h : Heap) : (rs : List RTy) -> List AV -> Option (rdens rs)
 | [], [] => some ()
 | .v t :: rs, v :: vs => match toV E (fun _ => none) t v, ressD E h rs vs with | some x, some y => some (x, y) | _, _ => none
 | .o t :: rs, v :: vs => match toV E h t v, ressD E h rs vs with | some x, some y => some (x, y) | _, _ => none
 | _, _ => none
def updD (E : Env) (h : Heap) : (ps : List PTy) -> Nat -> Option (mdens ps)
 | [], _ => some ()
 | .v _ :: ps, n => updD E h ps n
 | .r _ :: ps, n => updD E h ps n
 | .f _ _ :: ps, n => updD E h ps n
 | .rf _ _ :: ps, n => updD E h ps n
 | .o _ :: ps, n => updD E h ps (n + 1)
 | .m t :: ps, n => match h n with
   | some (.box cs) => match toD E (fun _ => none) t cs, updD E h ps (n + 1) with
     | some (x, []), some y => some (x, y)
     | _, _ => none
   | _ => none
 | .mo t :: ps, n => match h n with
   | some (.arr u xs true) => match castTy (.slice u) (.slice t) xs, updD E h ps (n + 1) with
     | some x, some y => some (x, y)
     | _, _ => none
   | _ => none
def vOwned : List RTy -> List AV -> List Nat
 | .v _ :: rs, v :: vs => AV.owned v ++ vOwned rs vs
 | .o _ :: rs, _ :: vs => vOwned rs vs
 | _, _ => []
def mOwned (h : Heap) : List PTy -> Nat -> List Nat
 | [], _ => []
 | .m _ :: ps, n => (match h n with | some (.box cs) => AV.ownedL cs | _ => []) ++ mOwned h ps (n + 1)
 | .o _ :: ps, n => mOwned h ps (n + 1)
 | .mo _ :: ps, n => mOwned h ps (n + 1)
 | _ :: ps, n => mOwned h ps n
def resSize (E : Env) : ResultVar -> Nat × Bool
 | .tmp _ => (0, false)
 | .cell _ t => (((E.ti t).map (fun i => i.size)).getD 0, isAggT E t)
def resAVs (E : Env) (fn : Func) (s : St) : List AV := fn.results.toList.map fun r => resAV s r (resSize E r)
def inlT (E : Env) (A : St -> List AV -> List (Nat × (St -> LoopAnn))) (fn : Func) : Inl := fun s args K =>
 match fn.body with
 | none => False
 | some c => awp E (A s args) c (fun e s1 => match e with
   | .exit _ => False
   | _ => match goodL (resAVs E fn s1) with
     | true => K { tmps := s1.keep.take s.tmps.length, objs := s1.objs, keep := s1.keep.drop s.tmps.length } (resAVs E fn s1)
     | false => False)
   { tmps := args ++ List.replicate (fn.ntmps - args.length) .any, objs := s.objs, keep := s.tmps ++ s.keep }
def retC (E : Env) (sp : FSpec) (x : pdens sp.ps) (s : St) (vs : List AV) : Prop :=
 match ownsOK sp.rs vs, nodupB (ownIds sp.rs vs), allFree s.heap (ownIds sp.rs vs), ressD E s.heap sp.rs vs, updD E s.heap sp.ps 0 with
 | true, true, true, some y, some u => y = sp.fn x /\ u = sp.upd x
 | _, _, _, _, _ => False
def retV (E : Env) (sp : FSpec) (fn : Func) (x : pdens sp.ps) (s : St) : Prop :=
 retC E sp x (s.freezes (vOwned sp.rs (resAVs E fn s) ++ mOwned s.heap sp.ps 0)) (resAVs E fn (s.freezes (vOwned sp.rs (resAVs E fn s) ++ mOwned s.heap sp.ps 0)))
def entrySt (fn : Func) (sp : FSpec) (x : pdens sp.ps) : St :=
 { tmps := (entry sp.ps x 0).1 ++ List.replicate (fn.ntmps - sp.ps.length) .any, objs := (entry sp.ps x 0).2 }
def vc (E : Env) (A : List (Nat × (St -> LoopAnn))) (fn : Func) (sp : FSpec) (x : pdens sp.ps) : Prop :=
 match fn.body with
 | none => False
 | some c => awp E A c (fun e s => match e with
   | .normal => retV E sp fn x s
   | .ret => retV E sp fn x s
   | .exit _ => False) (entrySt fn sp x)
end Go.Ab


namespace Go.Ab
def lim : Nat := 1099511627776
def anyVal (E : Env) : AnyV -> Value
 | .b x => .iface E.anyB (.bool x)
 | .n x => .iface E.anyN (.int .i64 x)
 | .s x => .iface E.anyS (.string ⟨x.toArray⟩)
def AnyV.small : AnyV -> Prop
 | .s x => x.length < lim
 | _ => True
def Rep (E : Env) (X : Nat -> Prop) (w : World) : (t : Ty) -> t.den -> List Value -> Prop
 | .int k, n, cs => cs = [.int k n]
 | .bool, b, cs => cs = [.bool b]
 | .str, s, cs => cs = [.string ⟨s.toArray⟩] /\ s.length < lim
 | .any, x, cs => cs = [anyVal E x] /\ x.small
 | .unit, _, cs => cs = []
 | .err, b, cs => ∃ v, cs = [v] /\ ((b = true /\ v = .nilIface) ∨ (b = false /\ ∃ t u, v = .iface t u))
 | .pair a b, x, cs => ∃ c1 c2, cs = c1 ++ c2 /\ Rep E X w a x.1 c1 /\ Rep E X w b x.2 c2
 | .slice t, xs, cs => ∃ a n c, cs = [.slice a n c] /\ n = xs.length /\ n <= c /\ n < lim /\
     (xs = [] ∨ ∃ b off, a = some ⟨b, off, none⟩ /\ b < w.heap.size /\ X b /\ ∀ i x, xs[i]? = some x ->
       ∃ cells, (∀ j v, cells[j]? = some v -> w.cell? ⟨b, off + i * t.size + j, none⟩ = some v) /\ Rep E X w t x cells)
theorem Rep.length {E : Env} {X : Nat -> Prop} {w : World} : ∀ {t : Ty} {x : t.den} {cs : List Value}, Rep E X w t x cs -> cs.length = t.size
 | .int _, _, _, h => by cases h; rfl
 | .bool, _, _, h => by cases h; rfl
 | .str, _, _, h => by cases h.1; rfl
 | .any, _, _, h => by cases h.1; rfl
 | .unit, _, _, h => by cases h; rfl
 | .err, _, _, h => by obtain ⟨v, rfl, _⟩ := h; rfl
 | .pair a b, x, cs, h => by
   obtain ⟨c1, c2, rfl, h1, h2⟩ := h
   simp [Ty.size, Rep.length h1, Rep.length h2]
 | .slice t, xs, cs, h => by
   obtain ⟨a, n, c, rfl, _⟩ := h
   rfl
theorem cell?_congr {w w' : World} {a : Addr} (h : w'.heap[a.block]? = w.heap[a.block]?) : w'.cell? a = w.cell? a := by simp [World.cell?, h]
theorem cell?_lt {w : World} {a : Addr} {v : Value} (h : w.cell? a = some v) : a.block < w.heap.size := by
 rcases Nat.lt_or_ge a.block w.heap.size with hl | hl
 · exact hl
 · have e : w.heap[a.block]? = none := by simp [hl]
   simp [World.cell?, e] at h
theorem Rep.mono {E : Env} {X X' : Nat -> Prop} {w w' : World} (hs : w.heap.size <= w'.heap.size) (hX : ∀ b, b < w.heap.size -> X b -> X' b /\ w'.heap[b]? = w.heap[b]?) :
   ∀ {t : Ty} {x : t.den} {cs : List Value}, Rep E X w t x cs -> Rep E X' w' t x cs
 | .int _, _, _, h => h
 | .bool, _, _, h => h
 | .str, _, _, h => h
 | .any, _, _, h => h
 | .unit, _, _, h => h
 | .err, _, _, h => h
 | .pair a b, x, cs, h => by
   obtain ⟨c1, c2, rfl, h1, h2⟩ := h
   exact ⟨c1, c2, rfl, h1.mono hs hX, h2.mono hs hX⟩
 | .slice t, xs, cs, h => by
   obtain ⟨a, n, c, rfl, hn, hc, hl, h⟩ := h
   refine ⟨a, n, c, rfl, hn, hc, hl, ?_⟩
   rcases h with h | ⟨b, off, rfl, hlt, hb, h⟩
   · exact .inl h
   · refine .inr ⟨b, off, rfl, by omega, (hX b hlt hb).1, fun i x hi => ?_⟩
     obtain ⟨cells, hc, hr⟩ := h i x hi
     exact ⟨cells, fun j v hj => by rw [cell?_congr (hX b hlt hb).2]; exact hc j v hj, hr.mono hs hX⟩
def VD (E : Env) (X : Nat -> Prop) (w : World) (t : Ty) (x : t.den) (v : Value) : Prop :=
 if t.isPair then ∃ cs, v = .agg cs.toArray /\ Rep E X w t x cs else t.leafB = true /\ Rep E X w t x [v]
theorem VD.mono {E : Env} {X X' : Nat -> Prop} {w w' : World} (hs : w.heap.size <= w'.heap.size) (hX : ∀ b, b < w.heap.size -> X b -> X' b /\ w'.heap[b]? = w.heap[b]?)
   {t : Ty} {x : t.den} {v : Value} (h : VD E X w t x v) : VD E X' w' t x v := by
 unfold VD at *
 split at h
 · obtain ⟨cs, rfl, h⟩ := h; rw [if_pos (by assumption)]; exact ⟨cs, rfl, h.mono hs hX⟩
 · rw [if_neg (by assumption)]; exact ⟨h.1, h.2.mono hs hX⟩
def ArgsD (E : Env) (X : Nat -> Prop) (w : World) : (ts : List Ty) -> dens ts -> List Value -> Prop
 | [], _, vs => vs = []
 | t :: ts, x, vs => ∃ v r, vs = v :: r /\ VD E X w t x.1 v /\ ArgsD E X w ts x.2 r
structure Keep (O : Nat -> Prop) (w w' : World) : Prop where
 os : w'.os = w.os
 tape : w'.tape = w.tape
 output : w'.output = w.output
 frozen : ∀ a, a.block < w.heap.size -> w'.frozen? a = w.frozen? a
 size : w.heap.size <= w'.heap.size
 block : ∀ b, b < w.heap.size -> ¬ O b -> w'.heap[b]? = w.heap[b]?
theorem Keep.refl (O : Nat -> Prop) (w : World) : Keep O w w := ⟨rfl, rfl, rfl, fun _ _ => rfl, Nat.le_refl _, fun _ _ _ => rfl⟩
theorem Keep.trans {O : Nat -> Prop} {a b c : World} (h : Keep O a b) (k : Keep O b c) : Keep O a c :=
 ⟨k.os.trans h.os, k.tape.trans h.tape, k.output.trans h.output, fun a ha => (k.frozen a (Nat.lt_of_lt_of_le ha h.size)).trans (h.frozen a ha), Nat.le_trans h.size k.size, fun i hi ho => (k.block i (Nat.lt_of_lt_of_le hi h.size) ho).trans (h.block i hi ho)⟩
theorem Keep.weaken {O O' : Nat -> Prop} {a b : World} (h : Keep O a b) (ho : ∀ i, i < a.heap.size -> O i -> O' i) : Keep O' a b :=
 ⟨h.os, h.tape, h.output, h.frozen, h.size, fun i hi hn => h.block i hi (fun h => hn (ho i hi h))⟩
def Enters (P : Program) (f : Nat) : Prop := ∃ fn, P.funcs[f]? = some fn /\ fn.body.isSome = true /\ (fn.name == "runtime.NumGoroutine") = false
def PF (P : Program) (E : Env) (S : Nat -> Prop) (w : World) (ts : List Ty) (b : Ty) (p : (dens ts -> b.den) × (dens ts -> Prop)) (v : Value) : Prop :=
 b.leafB = true /\ b.shares = false /\ ∃ g caps, v = .func (.func g) #[] caps /\ Enters P g /\
   ∀ w1, w.heap.size <= w1.heap.size -> (∀ k, k < w.heap.size -> S k -> w1.heap[k]? = w.heap[k]?) ->
     ∀ x vs, ArgsD E (fun _ => True) w1 ts x vs -> p.2 x ->
       Calls P g (vs.toArray ++ caps) w1 fun e w2 => ∃ r, e = .returned r /\ Rep E (fun _ => True) w2 b (p.1 x) [r] /\ Keep (fun _ => False) w1 w2
theorem PF.mono {P : Program} {E : Env} {S S' : Nat -> Prop} {w w' : World} {ts : List Ty} {b : Ty} {p : (dens ts -> b.den) × (dens ts -> Prop)} {v : Value}
   (hs : w.heap.size <= w'.heap.size) (hS : ∀ k, k < w.heap.size -> S k -> S' k /\ w'.heap[k]? = w.heap[k]?) (h : PF P E S w ts b p v) : PF P E S' w' ts b p v := by
 obtain ⟨h1, h2, g, caps, rfl, hg, h⟩ := h
 exact ⟨h1, h2, g, caps, rfl, hg, fun w1 hs1 ha => h w1 (Nat.le_trans hs hs1) fun k hk hSk => (ha k (Nat.lt_of_lt_of_le hk hs) (hS k hk hSk).1).trans (hS k hk hSk).2⟩
structure RC where
 P : Program
 E : Env
 m : Nat -> Value
 n : Nat
 S : Nat -> Prop
 X : Nat -> Prop
 w : World
mutual
def VRel (c : RC) : AV -> Value -> Prop
 | .d t x, v => t.leafB = true /\ Rep c.E c.X c.w t x [v]
 | .lb b, v => v = .bool b
 | .emp n, v => ∃ a, v = .slice a 0 0 /\ a.isNone = n
 | .agg l, v => ∃ vs, v = .agg vs.toArray /\ VRelL c l vs
 | .tup l, v => ∃ vs, v = .tuple vs.toArray /\ VRelL c l vs
 | .os i, v => i < c.n /\ v = c.m i /\ ∃ a n cap, v = .slice a n cap
 | .oss i sz lo hi, v => i < c.n /\ ∃ a n cap a', c.m i = .slice a n cap /\ lo <= hi /\ hi <= n /\ n <= cap /\ (cap ≠ lo -> a' = a.map (·.add (lo * sz))) /\ v = .slice a' (hi - lo) (cap - lo)
 | .p i off, v => i < c.n /\ ∃ b, c.m i = .pointer (some ⟨b, 0, none⟩) /\ v = .pointer (some ⟨b, off, none⟩)
 | .pc l, v => ∃ b o, v = .pointer (some ⟨b, o, none⟩) /\ b < c.w.heap.size /\ c.S b /\ ∃ cs, (∀ j x, cs[j]? = some x -> c.w.cell? ⟨b, o + j, none⟩ = some x) /\ VRelL c l cs
 | .pe i n k off, v => i < c.n /\ ∃ b len cap, c.m i = .slice (some ⟨b, 0, none⟩) len cap /\ cap ≠ 0 /\ v = .pointer (some ⟨b, k * n + off, none⟩)
 | .fn f l, v => ∃ cs, v = .func (.func f) #[] cs.toArray /\ VRelL c l cs
 | .fp ts b p, v => PF c.P c.E c.S c.w ts b p v
 | .ifc t x, v => ∃ u, v = .iface t u /\ VRel c x u
 | .nili, v => v = .nilIface
 | .any, _ => True
 | .oz i, v => i < c.n /\ ∃ r, c.m i = .tuple (List.toArray (v :: r)) /\ ∃ a n cap, v = .slice a n cap
def VRelL (c : RC) : List AV -> List Value -> Prop
 | [], vs => vs = []
 | x :: r, vs => ∃ v q, vs = v :: q /\ VRel c x v /\ VRelL c r q
end
structure RC.Le (c c' : RC) : Prop where
 P : c'.P = c.P
 E : c'.E = c.E
 m : ∀ i, i < c.n -> c'.m i = c.m i
 n : c.n <= c'.n
 size : c.w.heap.size <= c'.w.heap.size
 S : ∀ b, b < c.w.heap.size -> c.S b -> c'.S b /\ c'.w.heap[b]? = c.w.heap[b]?
 X : ∀ b, b < c.w.heap.size -> c.X b -> c'.X b /\ c'.w.heap[b]? = c.w.heap[b]?
mutual
theorem VRel.mono {c c' : RC} (h : c.Le c') : ∀ {x : AV} {v : Value}, VRel c x v -> VRel c' x v
 | .d t x, v, r => by
   simp only [VRel] at *
   exact ⟨r.1, by rw [h.E]; exact r.2.mono h.size h.X⟩
 | .lb b, v, r => r
 | .emp n, v, r => r
 | .agg l, v, r => by
   simp only [VRel] at *
   obtain ⟨vs, rfl, r⟩ := r
   exact ⟨vs, rfl, VRelL.mono h r⟩
 | .tup l, v, r => by
   simp only [VRel] at *
   obtain ⟨vs, rfl, r⟩ := r
   exact ⟨vs, rfl, VRelL.mono h r⟩
 | .os i, v, r => by
   simp only [VRel] at *
   exact ⟨Nat.lt_of_lt_of_le r.1 h.n, by rw [h.m i r.1]; exact r.2⟩
 | .oss i sz lo hi, v, r => by
   simp only [VRel] at *
   exact ⟨Nat.lt_of_lt_of_le r.1 h.n, by rw [h.m i r.1]; exact r.2⟩
 | .p i off, v, r => by
   simp only [VRel] at *
   exact ⟨Nat.lt_of_lt_of_le r.1 h.n, by rw [h.m i r.1]; exact r.2⟩
 | .pc l, v, r => by
   simp only [VRel] at *
   obtain ⟨b, o, rfl, hb, hS, cs, hc, r⟩ := r
   exact ⟨b, o, rfl, Nat.lt_of_lt_of_le hb h.size, (h.S b hb hS).1, cs, fun j x hj => by rw [cell?_congr (h.S b hb hS).2]; exact hc j x hj, VRelL.mono h r⟩
 | .pe i n k off, v, r => by
   simp only [VRel] at *
   exact ⟨Nat.lt_of_lt_of_le r.1 h.n, by rw [h.m i r.1]; exact r.2⟩
 | .fn f l, v, r => by
   simp only [VRel] at *
   obtain ⟨vs, rfl, r⟩ := r
   exact ⟨vs, rfl, VRelL.mono h r⟩
 | .fp ts b p, v, r => by
   simp only [VRel] at *
   rw [h.P, h.E]
   exact r.mono h.size h.S
 | .ifc t x, v, r => by
   simp only [VRel] at *
   obtain ⟨u, rfl, r⟩ := r
   exact ⟨u, rfl, VRel.mono h r⟩
 | .nili, v, r => r
 | .any, _, _ => by simp only [VRel]
 | .oz i, v, r => by
   simp only [VRel] at *
   exact ⟨Nat.lt_of_lt_of_le r.1 h.n, by rw [h.m i r.1]; exact r.2⟩
theorem VRelL.mono {c c' : RC} (h : c.Le c') : ∀ {l : List AV} {vs : List Value}, VRelL c l vs -> VRelL c' l vs
 | [], vs, r => r
 | x :: l, vs, r => by
   simp only [VRelL] at *
   obtain ⟨v, q, rfl, r1, r2⟩ := r
   exact ⟨v, q, rfl, VRel.mono h r1, VRelL.mono h r2⟩
end
theorem VRelL.length {c : RC} : ∀ {l : List AV} {vs : List Value}, VRelL c l vs -> vs.length = l.length
 | [], vs, h => by simp only [VRelL] at h; simp [h]
 | x :: l, vs, h => by
   simp only [VRelL] at h
   obtain ⟨v, q, rfl, _, h⟩ := h
   simp [VRelL.length h]
theorem VRelL.get {c : RC} : ∀ {l : List AV} {vs : List Value}, VRelL c l vs -> ∀ (i : Nat) (x : AV), l[i]? = some x -> ∃ v, vs[i]? = some v /\ VRel c x v
 | [], vs, h, i, x, hx => by simp at hx
 | y :: l, vs, h, 0, x, hx => by
   simp only [VRelL] at h
   obtain ⟨v, q, rfl, r, _⟩ := h
   simp at hx
   exact ⟨v, rfl, hx ▸ r⟩
 | y :: l, vs, h, i + 1, x, hx => by
   simp only [VRelL] at h
   obtain ⟨v, q, rfl, _, r⟩ := h
   simpa using r.get i x (by simpa using hx)
theorem VRelL.set {c : RC} : ∀ {l : List AV} {vs : List Value}, VRelL c l vs -> ∀ (i : Nat) (x : AV) (v : Value), VRel c x v -> VRelL c (l.set i x) (vs.set i v)
 | [], vs, h, i, x, v, hv => by
   simp only [VRelL] at h
   subst h
   simp [VRelL]
 | y :: l, vs, h, 0, x, v, hv => by
   simp only [VRelL] at h
   obtain ⟨u, q, rfl, r, r2⟩ := h
   simp only [List.set, VRelL]
   exact ⟨v, q, rfl, hv, r2⟩
 | y :: l, vs, h, i + 1, x, v, hv => by
   simp only [VRelL] at h
   obtain ⟨u, q, rfl, r, r2⟩ := h
   simp only [List.set, VRelL]
   exact ⟨u, _, rfl, r, r2.set i x v hv⟩
theorem VRelL.append {c : RC} : ∀ {l l' : List AV} {vs vs' : List Value}, VRelL c l vs -> VRelL c l' vs' -> VRelL c (l ++ l') (vs ++ vs')
 | [], l', vs, vs', h, h' => by
   simp only [VRelL] at h
   subst h
   exact h'
 | x :: l, l', vs, vs', h, h' => by
   simp only [VRelL] at h
   obtain ⟨v, q, rfl, r, r2⟩ := h
   simp only [List.cons_append, VRelL]
   exact ⟨v, _, rfl, r, r2.append h'⟩
theorem VRelL.take {c : RC} : ∀ {l : List AV} {vs : List Value}, VRelL c l vs -> ∀ n, VRelL c (l.take n) (vs.take n)
 | _, _, _, 0 => by simp [VRelL]
 | [], vs, h, n + 1 => by
   simp only [VRelL] at h
   subst h
   simp [VRelL]
 | x :: l, vs, h, n + 1 => by
   simp only [VRelL] at h
   obtain ⟨v, q, rfl, r, r2⟩ := h
   simp only [List.take_succ_cons, VRelL]
   exact ⟨v, _, rfl, r, r2.take n⟩
theorem VRelL.drop {c : RC} : ∀ {l : List AV} {vs : List Value}, VRelL c l vs -> ∀ n, VRelL c (l.drop n) (vs.drop n)
 | _, _, h, 0 => by simpa using h
 | [], vs, h, n + 1 => by
   simp only [VRelL] at h
   subst h
   simp [VRelL]
 | x :: l, vs, h, n + 1 => by
   simp only [VRelL] at h
   obtain ⟨v, q, rfl, r, r2⟩ := h
   simpa using r2.drop n
theorem VRelL.split {c : RC} : ∀ {l l' : List AV} {vs : List Value}, VRelL c (l ++ l') vs -> ∃ v1 v2, vs = v1 ++ v2 /\ VRelL c l v1 /\ VRelL c l' v2
 | [], l', vs, h => ⟨[], vs, rfl, by simp [VRelL], h⟩
 | x :: l, l', vs, h => by
   simp only [List.cons_append, VRelL] at h
   obtain ⟨v, q, rfl, r, r2⟩ := h
   obtain ⟨v1, v2, rfl, h1, h2⟩ := r2.split
   exact ⟨v :: v1, v2, rfl, by simp only [VRelL]; exact ⟨v, v1, rfl, r, h1⟩, h2⟩
def blk : Value -> Option Nat
 | .pointer (some a) => some a.block
 | .slice (some a) _ c => if c = 0 then none else some a.block
 | _ => none
def rows : Value -> Nat -> Prop
 | .tuple vs, b => ∃ v ∈ vs.toList, blk v = some b
 | v, b => blk v = some b
theorem rows_p {p : Option Addr} {b : Nat} : rows (.pointer p) b = (blk (.pointer p) = some b) := rfl
theorem rows_s {a : Option Addr} {n c b : Nat} : rows (.slice a n c) b = (blk (.slice a n c) = some b) := rfl
def NR (E : Env) (w : World) : (t : Ty) -> t.den -> List Value -> List Value -> Prop
 | .slice a, xs, cs, hs => ∃ hd hs', cs = [hd] /\ hs = hd :: hs' /\ ∃ ad n cap, hd = .slice ad n cap /\ n = xs.length /\ n <= cap /\ n < lim /\
     ((cap = 0 /\ hs' = []) ∨ ∃ b vs e, ad = some ⟨b, 0, none⟩ /\ w.heap[b]? = some (.cells (List.toArray vs) e (0, 0)) /\ vs.length = cap * a.size /\ cap <= 9223372036854775807 /\
       ∃ hss : List (List Value), hss.length = xs.length /\ hs' = hss.flatten /\ ∀ k x hk, xs[k]? = some x -> hss[k]? = some hk -> NR E w a x ((vs.drop (k * a.size)).take a.size) hk)
 | .pair a b, x, cs, hs => ∃ c1 c2 h1 h2, cs = c1 ++ c2 /\ hs = h1 ++ h2 /\ NR E w a x.1 c1 h1 /\ NR E w b x.2 c2 h2
 | .int k, x, cs, hs => hs = [] /\ Rep E (fun _ => False) w (.int k) x cs
 | .bool, x, cs, hs => hs = [] /\ Rep E (fun _ => False) w .bool x cs
 | .str, x, cs, hs => hs = [] /\ Rep E (fun _ => False) w .str x cs
 | .any, x, cs, hs => hs = [] /\ Rep E (fun _ => False) w .any x cs
 | .unit, x, cs, hs => hs = [] /\ Rep E (fun _ => False) w .unit x cs
 | .err, x, cs, hs => hs = [] /\ Rep E (fun _ => False) w .err x cs
def Apart (hs : List Value) : Prop := ∀ (i j : Nat) (u v : Value) (b : Nat), hs[i]? = some u -> hs[j]? = some v -> blk u = some b -> blk v = some b -> i = j
theorem NR.lt {E : Env} {w : World} : ∀ {t : Ty} {x : t.den} {cs hs : List Value}, NR E w t x cs hs -> ∀ h ∈ hs, ∀ b, blk h = some b -> b < w.heap.size
 | .int _, _, _, _, r, h, hh => by rw [r.1] at hh; cases hh
 | .bool, _, _, _, r, h, hh => by rw [r.1] at hh; cases hh
 | .str, _, _, _, r, h, hh => by rw [r.1] at hh; cases hh
 | .any, _, _, _, r, h, hh => by rw [r.1] at hh; cases hh
 | .unit, _, _, _, r, h, hh => by rw [r.1] at hh; cases hh
 | .err, _, _, _, r, h, hh => by rw [r.1] at hh; cases hh
 | .pair a b, x, cs, hs, r, h, hh => by
   obtain ⟨c1, c2, h1, h2, rfl, rfl, r1, r2⟩ := r
   rcases List.mem_append.1 hh with hh | hh
   · exact r1.lt h hh
   · exact r2.lt h hh
 | .slice a, xs, cs, hs, r, h, hh => by
   obtain ⟨hd, hs', rfl, rfl, ad, n, cap, rfl, hn, hc, hl, r⟩ := r
   rcases r with ⟨rfl, rfl⟩ | ⟨b, vs, e, rfl, hb, hv, hm, hss, hlen, rfl, r⟩
   · intro b hb
     simp only [List.mem_singleton] at hh
     subst hh
     cases ad <;> simp [blk] at hb
   · rcases List.mem_cons.1 hh with rfl | hh
     · intro b' hb'
       simp only [blk] at hb'
       split at hb'
       · cases hb'
       · cases hb'
         exact (Array.getElem?_eq_some_iff.1 hb).1
     · obtain ⟨l, hl1, hl2⟩ := List.mem_flatten.1 hh
       obtain ⟨k, hk, rfl⟩ := List.getElem_of_mem hl1
       have hk' : k < xs.length := by omega
       exact (r k xs[k] hss[k] (List.getElem?_eq_getElem hk') (List.getElem?_eq_getElem hk)).lt h hl2
theorem NR.mono {E : Env} {w w' : World} : ∀ {t : Ty} {x : t.den} {cs hs : List Value}, NR E w t x cs hs -> (∀ h ∈ hs, ∀ b, blk h = some b -> w'.heap[b]? = w.heap[b]?) -> NR E w' t x cs hs
 | .int _, _, _, _, r, _ => r
 | .bool, _, _, _, r, _ => r
 | .str, _, _, _, r, _ => r
 | .any, _, _, _, r, _ => r
 | .unit, _, _, _, r, _ => r
 | .err, _, _, _, r, _ => r
 | .pair a b, x, cs, hs, r, hk => by
   obtain ⟨c1, c2, h1, h2, rfl, rfl, r1, r2⟩ := r
   exact ⟨c1, c2, h1, h2, rfl, rfl, r1.mono fun h hh => hk h (List.mem_append_left _ hh), r2.mono fun h hh => hk h (List.mem_append_right _ hh)⟩
 | .slice a, xs, cs, hs, r, hk => by
   obtain ⟨hd, hs', rfl, rfl, ad, n, cap, rfl, hn, hc, hl, r⟩ := r
   refine ⟨_, hs', rfl, rfl, ad, n, cap, rfl, hn, hc, hl, ?_⟩
   rcases r with ⟨rfl, rfl⟩ | ⟨b, vs, e, rfl, hb, hv, hm, hss, hlen, rfl, r⟩
   · exact .inl ⟨rfl, rfl⟩
   · rcases Nat.eq_zero_or_pos cap with h0 | h0
     · refine .inl ⟨h0, ?_⟩
       have : hss = [] := List.eq_nil_of_length_eq_zero (by omega)
       rw [this]; rfl
     · refine .inr ⟨b, vs, e, rfl, ?_, hv, hm, hss, hlen, rfl, fun k x hk' hx hh => (r k x hk' hx hh).mono fun h hm' => hk h (List.mem_cons_of_mem _ (List.mem_flatten.2 ⟨hk', List.mem_of_getElem? hh, hm'⟩))⟩
       rw [hk _ List.mem_cons_self b (by simp [blk]; omega)]; exact hb
theorem cell_of {w : World} {b : Nat} {vs : List Value} {e : TypeId} (h : w.heap[b]? = some (.cells (List.toArray vs) e (0, 0))) (j : Nat) : w.cell? ⟨b, j, none⟩ = vs[j]? := by
 simp [World.cell?, h]
theorem NR.rep {E : Env} {w : World} {X : Nat -> Prop} : ∀ {t : Ty} {x : t.den} {cs hs : List Value}, NR E w t x cs hs -> (∀ h ∈ hs, ∀ b, blk h = some b -> X b) -> Rep E X w t x cs
 | .int _, _, _, _, r, _ => r.2
 | .bool, _, _, _, r, _ => r.2
 | .str, _, _, _, r, _ => r.2
 | .any, _, _, _, r, _ => r.2
 | .unit, _, _, _, r, _ => r.2
 | .err, _, _, _, r, _ => r.2
 | .pair a b, x, cs, hs, r, hk => by
   obtain ⟨c1, c2, h1, h2, rfl, rfl, r1, r2⟩ := r
   exact ⟨c1, c2, rfl, r1.rep fun h hh => hk h (List.mem_append_left _ hh), r2.rep fun h hh => hk h (List.mem_append_right _ hh)⟩
 | .slice a, xs, cs, hs, r, hk => by
   obtain ⟨hd, hs', rfl, rfl, ad, n, cap, rfl, hn, hc, hl, r⟩ := r
   refine ⟨ad, n, cap, rfl, hn, hc, hl, ?_⟩
   rcases r with ⟨rfl, rfl⟩ | ⟨b, vs, e, rfl, hb, hv, hm, hss, hlen, rfl, r⟩
   · left
     exact List.eq_nil_of_length_eq_zero (by omega)
   · rcases Nat.eq_zero_or_pos cap with h0 | h0
     · left
       exact List.eq_nil_of_length_eq_zero (by omega)
     · refine .inr ⟨b, 0, rfl, (Array.getElem?_eq_some_iff.1 hb).1, hk _ List.mem_cons_self b (by simp [blk]; omega), fun k x hx => ?_⟩
       have hkl : k < hss.length := by rw [hlen]; exact (List.getElem?_eq_some_iff.1 hx).1
       have hh := List.getElem?_eq_getElem hkl
       refine ⟨(vs.drop (k * a.size)).take a.size, fun j v hj => ?_, (r k x _ hx hh).rep fun h hm' => hk h (List.mem_cons_of_mem _ (List.mem_flatten.2 ⟨_, List.mem_of_getElem? hh, hm'⟩))⟩
       rw [cell_of hb]
       have hja : j < a.size := by
         have := (List.getElem?_eq_some_iff.1 hj).1
         rw [List.length_take] at this
         omega
       rw [List.getElem?_take_of_lt hja, List.getElem?_drop] at hj
       rw [Nat.zero_add]; exact hj
def ORel (c : RC) (h : Value) : Obj -> Prop
 | .box cs => ∃ b t vs, h = .pointer (some ⟨b, 0, none⟩) /\ c.w.heap[b]? = some (.cells (List.toArray vs) t (0, 0)) /\ VRelL c cs vs
 | .arr t xs _ => ∃ a n cap, h = .slice a n cap /\ n = xs.length /\ n <= cap /\ n < lim /\ (cap = 0 ∨ ∃ b vs e, a = some ⟨b, 0, none⟩ /\ c.w.heap[b]? = some (.cells (List.toArray vs) e (0, 0)) /\
     vs.length = cap * t.size /\ cap <= 9223372036854775807 /\ ∀ k x, xs[k]? = some x -> Rep c.E c.X c.w t x ((vs.drop (k * t.size)).take t.size))
 | .zone t xs => ∃ hd hs, h = .tuple (List.toArray (hd :: hs)) /\ NR c.E c.w (.slice t) xs [hd] (hd :: hs) /\ Apart (hd :: hs)
theorem ORel.mono {c c' : RC} (h : c.Le c') {v : Value} {o : Obj} (hk : ∀ b, rows v b -> c'.w.heap[b]? = c.w.heap[b]?) (r : ORel c v o) : ORel c' v o := by
 cases o with
 | box cs =>
   obtain ⟨b, t, vs, rfl, hb, r⟩ := r
   exact ⟨b, t, vs, rfl, by rw [hk b rfl]; exact hb, r.mono h⟩
 | arr t xs fx =>
   obtain ⟨a, n, cap, rfl, hn, hc, hl, r⟩ := r
   refine ⟨a, n, cap, rfl, hn, hc, hl, ?_⟩
   rcases r with r | ⟨b, vs, e, rfl, hb, hv, hm, r⟩
   · exact .inl r
   · rcases Nat.eq_zero_or_pos cap with h0 | h0
     · exact .inl h0
     · refine .inr ⟨b, vs, e, rfl, ?_, hv, hm, fun k x hx => by rw [h.E]; exact (r k x hx).mono h.size h.X⟩
       rw [hk b (by simp [rows_p, rows_s, blk]; omega)]; exact hb
 | zone t xs =>
   obtain ⟨hd, hs, rfl, r, ha⟩ := r
   refine ⟨hd, hs, rfl, ?_, ha⟩
   rw [h.E]
   exact r.mono fun v hv b hb => hk b ⟨v, hv, hb⟩
def Own (objs : List (Option Obj)) (m : Nat -> Value) (b : Nat) : Prop := ∃ i o, objs[i]? = some (some o) /\ rows (m i) b
structure Ctx where
 P : Program
 E : Env
 w0 : World
 O0 : Nat -> Prop
 X0 : Nat -> Prop
 m0 : Nat -> Value
 n0 : Nat
 sub : ∀ b, O0 b -> X0 b
 tab : E.tab w0
 tabO : ∀ b, b < E.gl -> ¬ O0 b /\ b < w0.heap.size
 tabS : TabS E
 ks : List Value := []
 df : List Deferred := []
def Ctx.rc (G : Ctx) (objs : List (Option Obj)) (m : Nat -> Value) (w : World) : RC :=
 { P := G.P, E := G.E, m, n := objs.length, S := fun b => ¬ Own objs m b, X := fun b => (G.X0 b ∨ G.w0.heap.size <= b) /\ ¬ Own objs m b, w }
def Obj.fixed : Obj -> Bool
 | .box _ => true
 | .arr _ _ fx => fx
 | .zone _ _ => false
structure HoldsO (G : Ctx) (objs : List (Option Obj)) (m : Nat -> Value) (w : World) : Prop where
 rel : ∀ i o, objs[i]? = some (some o) -> ORel (G.rc objs m w) (m i) o
 disj : ∀ i j o o' b, objs[i]? = some (some o) -> objs[j]? = some (some o') -> rows (m i) b -> rows (m j) b -> i = j
 keep : Keep G.O0 G.w0 w
 new : ∀ b, Own objs m b -> G.O0 b ∨ G.w0.heap.size <= b
 len : G.n0 <= objs.length
 fix : ∀ i o, objs[i]? = some (some o) -> i < G.n0 -> o.fixed = true -> m i = G.m0 i
structure Holds (G : Ctx) (s : St) (a : Act) (w : World) (m : Nat -> Value) : Prop where
 o : HoldsO G s.objs m w
 tmps : VRelL (G.rc s.objs m w) s.tmps a.tmps.toList
 defers : a.defers = G.df
 kp : VRelL (G.rc s.objs m w) s.keep G.ks
theorem HoldsO.own_lt {G : Ctx} {objs : List (Option Obj)} {m : Nat -> Value} {w : World} (h : HoldsO G objs m w) {b : Nat} (hb : Own objs m b) : b < w.heap.size := by
 obtain ⟨i, o, ho, hb⟩ := hb
 have r := h.rel i o ho
 have some_lt : ∀ {x : Go.Obj}, w.heap[b]? = some x -> b < w.heap.size := fun {x} e => by
   rcases Nat.lt_or_ge b w.heap.size with hl | hl
   · exact hl
   · have : w.heap[b]? = none := by simp [hl]
     rw [this] at e; cases e
 cases o with
 | box cs =>
   obtain ⟨b', t, vs, hm, hh, _⟩ := r
   rw [hm] at hb
   simp only [rows_p, rows_s, blk, Option.some.injEq] at hb
   subst hb
   exact some_lt hh
 | arr t xs fx =>
   obtain ⟨a, n, cap, hm, _, _, _, r⟩ := r
   rw [hm] at hb
   rcases r with r | ⟨b', vs, e, rfl, hh, _⟩
   · subst r
     cases a <;> simp [rows_p, rows_s, blk] at hb
   · simp only [rows_p, rows_s, blk] at hb
     split at hb
     · cases hb
     · simp only [Option.some.injEq] at hb
       subst hb
       exact some_lt hh
 | zone t xs =>
   obtain ⟨hd, hs, hm, r, _⟩ := r
   rw [hm] at hb
   obtain ⟨v, hv, hb⟩ := hb
   exact r.lt v hv b hb
end Go.Ab


namespace Go.Ab
theorem Own.append {objs : List (Option Obj)} {news : List Obj} {m m' : Nat -> Value} (hm : ∀ i, i < objs.length -> m' i = m i) {b : Nat} :
   Own (objs ++ news.map some) m' b ↔ Own objs m b ∨ ∃ j o, news[j]? = some o /\ rows (m' (objs.length + j)) b := by
 constructor
 · rintro ⟨i, o, ho, hb⟩
   rcases Nat.lt_or_ge i objs.length with h | h
   · rw [List.getElem?_append_left h] at ho
     exact .inl ⟨i, o, ho, by rw [<- hm i h]; exact hb⟩
   · rw [List.getElem?_append_right h] at ho
     refine .inr ⟨i - objs.length, o, by simpa using ho, ?_⟩
     rw [show objs.length + (i - objs.length) = i by omega]; exact hb
 · rintro (⟨i, o, ho, hb⟩ | ⟨j, o, ho, hb⟩)
   · have hi : i < objs.length := by
       rcases Nat.lt_or_ge i objs.length with h | h
       · exact h
       · rw [List.getElem?_eq_none h] at ho; cases ho
     exact ⟨i, o, by rw [List.getElem?_append_left hi]; exact ho, by rw [hm i hi]; exact hb⟩
   · exact ⟨objs.length + j, o, by rw [List.getElem?_append_right (by omega)]; simpa using ho, hb⟩
theorem get_lt {α : Type u} {l : List α} {i : Nat} {x : α} (h : l[i]? = some x) : i < l.length := by
 rcases Nat.lt_or_ge i l.length with hl | hl
 · exact hl
 · rw [List.getElem?_eq_none hl] at h; cases h
theorem HoldsO.extend {G : Ctx} {objs : List (Option Obj)} {m m' : Nat -> Value} {w w' : World} (h : HoldsO G objs m w) (hk : Keep (fun _ => False) w w') (news : List Obj)
   (hm : ∀ i, i < objs.length -> m' i = m i)
   (hnew : ∀ j o, news[j]? = some o -> ∀ b, rows (m' (objs.length + j)) b -> w.heap.size <= b)
   (hdis : ∀ i j o o' b, news[i]? = some o -> news[j]? = some o' -> rows (m' (objs.length + i)) b -> rows (m' (objs.length + j)) b -> i = j)
   (hrel : (G.rc objs m w).Le (G.rc (objs ++ news.map some) m' w') -> ∀ j o, news[j]? = some o -> ORel (G.rc (objs ++ news.map some) m' w') (m' (objs.length + j)) o) :
   HoldsO G (objs ++ news.map some) m' w' /\ (G.rc objs m w).Le (G.rc (objs ++ news.map some) m' w') := by
 have hown : ∀ b, b < w.heap.size -> ¬ Own objs m b -> ¬ Own (objs ++ news.map some) m' b := fun b hb hn ho => by
   rcases (Own.append hm).1 ho with ho | ⟨j, o, ho, hbk⟩
   · exact hn ho
   · exact absurd (hnew j o ho b hbk) (by omega)
 have hle : (G.rc objs m w).Le (G.rc (objs ++ news.map some) m' w') :=
   { P := rfl, E := rfl, m := hm, n := by simp [Ctx.rc], size := hk.size,
     S := fun b hb hS => ⟨hown b hb hS, hk.block b hb (fun f => f)⟩,
     X := fun b hb hX => ⟨⟨hX.1, hown b hb hX.2⟩, hk.block b hb (fun f => f)⟩ }
 refine ⟨{ rel := ?_, disj := ?_, keep := ?_, new := ?_, len := Nat.le_trans h.len (by simp), fix := ?_ }, hle⟩
 · intro i o ho
   rcases Nat.lt_or_ge i objs.length with hi | hi
   · rw [List.getElem?_append_left hi] at ho
     rw [hm i hi]
     exact (h.rel i o ho).mono hle fun b hb => hk.block b (h.own_lt ⟨i, o, ho, hb⟩) (fun f => f)
   · rw [List.getElem?_append_right hi] at ho
     have := hrel hle (i - objs.length) o (by simpa using ho)
     rwa [show objs.length + (i - objs.length) = i by omega] at this
 · intro i j o o' b hi hj hbi hbj
   rcases Nat.lt_or_ge i objs.length with h1 | h1 <;> rcases Nat.lt_or_ge j objs.length with h2 | h2
   · rw [List.getElem?_append_left h1] at hi
     rw [List.getElem?_append_left h2] at hj
     rw [hm i h1] at hbi
     rw [hm j h2] at hbj
     exact h.disj i j o o' b hi hj hbi hbj
   · rw [List.getElem?_append_left h1] at hi
     rw [List.getElem?_append_right h2] at hj
     rw [hm i h1] at hbi
     have := h.own_lt ⟨i, o, hi, hbi⟩
     have := hnew (j - objs.length) o' (by simpa using hj) b (by rw [show objs.length + (j - objs.length) = j by omega]; exact hbj)
     omega
   · rw [List.getElem?_append_right h1] at hi
     rw [List.getElem?_append_left h2] at hj
     rw [hm j h2] at hbj
     have := h.own_lt ⟨j, o', hj, hbj⟩
     have := hnew (i - objs.length) o (by simpa using hi) b (by rw [show objs.length + (i - objs.length) = i by omega]; exact hbi)
     omega
   · rw [List.getElem?_append_right h1] at hi
     rw [List.getElem?_append_right h2] at hj
     have := hdis (i - objs.length) (j - objs.length) o o' b (by simpa using hi) (by simpa using hj)
       (by rw [show objs.length + (i - objs.length) = i by omega]; exact hbi) (by rw [show objs.length + (j - objs.length) = j by omega]; exact hbj)
     omega
 · exact h.keep.trans (hk.weaken fun _ _ f => f.elim)
 · intro b ho
   rcases (Own.append hm).1 ho with ho | ⟨j, o, ho, hbk⟩
   · exact h.new b ho
   · exact .inr (Nat.le_trans h.keep.size (hnew j o ho b hbk))
 · intro i o ho hi hf
   have hi' : i < objs.length := Nat.lt_of_lt_of_le hi h.len
   rw [List.getElem?_append_left hi'] at ho
   rw [hm i hi']
   exact h.fix i o ho hi hf
theorem HoldsO.grow {G : Ctx} {objs : List (Option Obj)} {m : Nat -> Value} {w w' : World} (h : HoldsO G objs m w) (hk : Keep (fun _ => False) w w') :
   HoldsO G objs m w' /\ (G.rc objs m w).Le (G.rc objs m w') := by
 have := h.extend hk [] (m' := m) (fun _ _ => rfl) (by simp) (by simp) (by simp)
 simpa using this
theorem RC.Le.refl (c : RC) : c.Le c := ⟨rfl, rfl, fun _ _ => rfl, Nat.le_refl _, Nat.le_refl _, fun _ _ h => ⟨h, rfl⟩, fun _ _ h => ⟨h, rfl⟩⟩
theorem RC.Le.trans {a b c : RC} (h : a.Le b) (k : b.Le c) : a.Le c :=
 { P := k.P.trans h.P, E := k.E.trans h.E, m := fun i hi => (k.m i (Nat.lt_of_lt_of_le hi h.n)).trans (h.m i hi), n := Nat.le_trans h.n k.n, size := Nat.le_trans h.size k.size,
   S := fun x hx hS => ⟨(k.S x (Nat.lt_of_lt_of_le hx h.size) (h.S x hx hS).1).1, (k.S x (Nat.lt_of_lt_of_le hx h.size) (h.S x hx hS).1).2.trans (h.S x hx hS).2⟩,
   X := fun x hx hX => ⟨(k.X x (Nat.lt_of_lt_of_le hx h.size) (h.X x hx hX).1).1, (k.X x (Nat.lt_of_lt_of_le hx h.size) (h.X x hx hX).1).2.trans (h.X x hx hX).2⟩ }
theorem heap_alloc (w : World) (o : Go.Obj) : (w.alloc o).heap = w.heap.push o := rfl
theorem heap_alloc_lt (w : World) (o : Go.Obj) {b : Nat} (hb : b < w.heap.size) : (w.alloc o).heap[b]? = w.heap[b]? := by
 rw [heap_alloc, Array.getElem?_push, if_neg (by omega)]
theorem heap_alloc_new' (w : World) (o : Go.Obj) : (w.alloc o).heap[w.heap.size]? = some o := by
 rw [heap_alloc, Array.getElem?_push, if_pos rfl]
theorem keep_alloc (w : World) (c : Array Value) (t : TypeId) : Keep (fun _ => False) w (w.alloc (.cells c t)) :=
 { os := rfl, tape := rfl, output := rfl, frozen := fun a _ => RowKit.frozen?_alloc_cells w c t a, size := by simp,
   block := fun b hb _ => heap_alloc_lt w _ hb }
theorem keep_drew (w : World) : Keep (fun _ => False) w w.drew :=
 { os := rfl, tape := rfl, output := rfl, frozen := fun _ _ => rfl, size := Nat.le_refl _, block := fun _ _ _ => rfl }
def ext1 (m : Nat -> Value) (n : Nat) (v : Value) : Nat -> Value := fun i => if i = n then v else m i
@[simp] theorem ext1_lt {m : Nat -> Value} {n i : Nat} {v : Value} (h : i < n) : ext1 m n v i = m i := by simp [ext1]; omega
@[simp] theorem ext1_self {m : Nat -> Value} {n : Nat} {v : Value} : ext1 m n v n = v := by simp [ext1]
theorem HoldsO.extend1 {G : Ctx} {objs : List (Option Obj)} {m : Nat -> Value} {w w' : World} (h : HoldsO G objs m w) (hk : Keep (fun _ => False) w w') (o : Obj) (v : Value)
   (hnew : ∀ b, rows v b -> w.heap.size <= b)
   (hrel : (G.rc objs m w).Le (G.rc (objs ++ [some o]) (ext1 m objs.length v) w') -> ORel (G.rc (objs ++ [some o]) (ext1 m objs.length v) w') v o) :
   HoldsO G (objs ++ [some o]) (ext1 m objs.length v) w' /\ (G.rc objs m w).Le (G.rc (objs ++ [some o]) (ext1 m objs.length v) w') := by
 have one : ∀ {j : Nat} {p : Obj}, [o][j]? = some p -> j = 0 /\ p = o := fun {j p} hj => by
   cases j with
   | zero => simp at hj; exact ⟨rfl, hj.symm⟩
   | succ j => simp at hj
 refine h.extend hk [o] (m' := ext1 m objs.length v) (fun i hi => ext1_lt hi) ?_ ?_ ?_
 · intro j p hj b hb
   obtain ⟨rfl, rfl⟩ := one hj
   exact hnew b (by simpa using hb)
 · intro i j p q b hi hj _ _
   obtain ⟨rfl, rfl⟩ := one hi
   exact (one hj).1.symm
 · intro hle j p hj
   obtain ⟨rfl, rfl⟩ := one hj
   simpa using hrel hle
theorem ofConst_ok (c : RC) (v : Value) : VRel c (ofConst v) v := by
 unfold ofConst
 split
 · rfl
 · exact ⟨rfl, rfl⟩
 · rename_i s
   split
   · rename_i hs
     have := Nat.le_of_ble_eq_true hs
     refine ⟨rfl, ?_, by simp only [lim]; omega⟩
     cases s; simp
   · simp only [VRel]
 · exact ⟨none, rfl, rfl⟩
 · rfl
 · simp only [VRel]
end Go.Ab


namespace Go.Ab
def HeapOK (c : RC) (h : Heap) : Prop := ∀ i o, h i = some o -> i < c.n /\ ORel c (c.m i) o
def Seen (c : RC) (h : Heap) (b : Nat) : Prop := (c.X b ∨ ∃ i t xs f, h i = some (.arr t xs f) /\ rows (c.m i) b) ∨ ∃ i t xs, h i = some (.zone t xs) /\ rows (c.m i) b
theorem castTy_some {a b : Ty} {x : a.den} {y : b.den} (h : castTy a b x = some y) : ∃ e : a = b, e ▸ x = y := by
 unfold castTy at h
 split at h
 · rename_i e; exact ⟨e, Option.some.inj h⟩
 · cases h
theorem rep_X {E : Env} {X Y : Nat -> Prop} {w : World} {t : Ty} {x : t.den} {cs : List Value} (h : Rep E X w t x cs) (hX : ∀ b, X b -> Y b) : Rep E Y w t x cs :=
 h.mono (Nat.le_refl _) fun b _ hb => ⟨hX b hb, rfl⟩
theorem heap_lt {w : World} {b : Nat} {o : Go.Obj} (h : w.heap[b]? = some o) : b < w.heap.size := by
 rcases Nat.lt_or_ge b w.heap.size with hl | hl
 · exact hl
 · have : w.heap[b]? = none := by simp [hl]
   rw [this] at h; cases h
theorem cell_at {w : World} {b : Nat} {vs : List Value} {e : TypeId} {f : Nat × Nat} (h : w.heap[b]? = some (.cells vs.toArray e f)) (j : Nat) : w.cell? ⟨b, j, none⟩ = vs[j]? := by
 simp [World.cell?, h]
theorem arr_rep {c : RC} {h : Heap} {i : Nat} {t : Ty} {xs : List t.den} {f : Bool} (hh : h i = some (.arr t xs f)) (r : ORel c (c.m i) (.arr t xs f)) :
   Rep c.E (Seen c h) c.w (.slice t) xs [c.m i] := by
 obtain ⟨a, n, cap, hm, hn, hc, hl, r⟩ := r
 refine ⟨a, n, cap, by rw [hm], hn, hc, hl, ?_⟩
 rcases r with r | ⟨b, vs, e, rfl, hb, hv, _, r⟩
 · left
   exact List.length_eq_zero_iff.1 (by omega)
 · by_cases h0 : cap = 0
   · left; exact List.length_eq_zero_iff.1 (by omega)
   · refine .inr ⟨b, 0, rfl, heap_lt hb, .inl (.inr ⟨i, t, xs, f, hh, by rw [hm]; simp [rows_p, rows_s, blk, h0]⟩), fun k x hx => ?_⟩
     refine ⟨_, fun j v hj => ?_, rep_X (r k x hx) fun b h => .inl (.inl h)⟩
     rw [cell_at hb, <- hj, List.getElem?_take_of_lt, List.getElem?_drop]
     · congr 1; omega
     · have := get_lt hj
       simp at this
       omega
theorem zone_rep {c : RC} {h : Heap} {i : Nat} {t : Ty} {xs : List t.den} {v : Value} {r : List Value} (hh : h i = some (.zone t xs)) (hm : c.m i = .tuple (List.toArray (v :: r))) (ro : ORel c (c.m i) (.zone t xs)) :
   Rep c.E (Seen c h) c.w (.slice t) xs [v] := by
 obtain ⟨hd, hs, e, hr, _⟩ := ro
 rw [hm] at e
 simp only [Value.tuple.injEq, List.toArray_eq_iff, List.toList_toArray, List.cons.injEq] at e
 obtain ⟨rfl, rfl⟩ := e
 refine hr.rep fun u hu b hb => .inr ⟨i, t, xs, hh, ?_⟩
 rw [hm]
 exact ⟨u, hu, hb⟩
theorem rep_sub {E : Env} {X : Nat -> Prop} {w : World} {t : Ty} {xs : List t.den} {a : Option Addr} {n cap : Nat} (r : Rep E X w (.slice t) xs [.slice a n cap]) {lo hi : Nat} (h1 : lo <= hi) (h2 : hi <= n)
   {a' : Option Addr} (ha : cap ≠ lo -> a' = a.map (·.add (lo * t.size))) : Rep E X w (.slice t) ((xs.take hi).drop lo) [.slice a' (hi - lo) (cap - lo)] := by
 obtain ⟨ad, n', cap', he, rfl, hc, hl, r⟩ := r
 simp only [List.cons.injEq, Value.slice.injEq, and_true] at he
 obtain ⟨rfl, rfl, rfl⟩ := he
 refine ⟨_, _, _, rfl, by simp; omega, by omega, by omega, ?_⟩
 rcases r with rfl | ⟨b, off, rfl, hb, hX, r⟩
 · left; simp
 · by_cases h0 : cap = lo
   · left
     apply List.length_eq_zero_iff.1
     simp; omega
   · refine .inr ⟨b, off + lo * t.size, by rw [ha h0]; simp [Addr.add], hb, hX, fun k x hx => ?_⟩
     rw [List.getElem?_drop] at hx
     have hlt := get_lt hx
     simp at hlt
     rw [List.getElem?_take_of_lt (by omega)] at hx
     obtain ⟨cells, hc, hr⟩ := r (lo + k) x hx
     refine ⟨cells, fun j v hj => ?_, hr⟩
     have := hc j v hj
     rw [<- this]
     congr 2
     rw [Nat.add_mul]; omega
theorem leafD_ok {c : RC} {h : Heap} (hok : HeapOK c h) : ∀ {t : Ty} {a : AV} {x : t.den} {v : Value}, leafD c.E h t a = some x -> VRel c a v -> Rep c.E (Seen c h) c.w t x [v] := by
 intro t a x v hx hv
 unfold leafD at hx
 split at hx
 ·
   simp only [VRel] at hv
   rename_i k k' n
   cases hk : (k == k') with
   | false => rw [hk] at hx; cases hx
   | true =>
     rw [hk] at hx
     have : k = k' := by simpa using hk
     subst this
     cases hx
     exact rep_X hv.2 fun b h => .inl (.inl h)
 · cases hx; exact rep_X hv.2 fun b h => .inl (.inl h)
 · cases hx; simp only [VRel] at hv; subst hv; rfl
 · cases hx; exact rep_X hv.2 fun b h => .inl (.inl h)
 · cases hx; exact rep_X hv.2 fun b h => .inl (.inl h)
 · cases hx; exact rep_X hv.2 fun b h => .inl (.inl h)
 · cases hx; simp only [VRel] at hv; subst hv; exact ⟨_, rfl, .inl ⟨rfl, rfl⟩⟩
 ·
   simp only [VRel] at hv
   obtain ⟨u, rfl, hv⟩ := hv
   rename_i t' b
   cases ht : Nat.beq t' c.E.anyB with
   | false => rw [ht] at hx; cases hx
   | true =>
     rw [ht] at hx
     cases hx
     have := Nat.eq_of_beq_eq_true ht
     subst this
     have hu : u = .bool b := by simpa [Rep] using hv.2
     subst hu
     exact ⟨rfl, trivial⟩
 · simp only [VRel] at hv
   obtain ⟨u, rfl, rfl⟩ := hv
   rename_i t' b
   cases ht : Nat.beq t' c.E.anyB with
   | false => rw [ht] at hx; cases hx
   | true =>
     rw [ht] at hx
     cases hx
     have := Nat.eq_of_beq_eq_true ht
     subst this
     exact ⟨rfl, trivial⟩
 · simp only [VRel] at hv
   obtain ⟨u, rfl, hv⟩ := hv
   rename_i t' n
   cases ht : Nat.beq t' c.E.anyN with
   | false => rw [ht] at hx; cases hx
   | true =>
     rw [ht] at hx
     cases hx
     have := Nat.eq_of_beq_eq_true ht
     subst this
     have hu : u = .int .i64 n := by simpa [Rep] using hv.2
     subst hu
     exact ⟨rfl, trivial⟩
 · simp only [VRel] at hv
   obtain ⟨u, rfl, hv⟩ := hv
   rename_i t' s
   cases ht : Nat.beq t' c.E.anyS with
   | false => rw [ht] at hx; cases hx
   | true =>
     rw [ht] at hx
     cases hx
     have := Nat.eq_of_beq_eq_true ht
     subst this
     have hu := hv.2
     simp only [Rep, List.cons.injEq, and_true] at hu
     obtain ⟨rfl, hs⟩ := hu
     exact ⟨rfl, hs⟩
 ·
   obtain ⟨e, rfl⟩ := castTy_some hx
   cases e
   exact rep_X hv.2 fun b h => .inl (.inl h)
 ·
   split at hx
   · rename_i b xs f hh
     obtain ⟨e, rfl⟩ := castTy_some hx
     cases e
     simp only [VRel] at hv
     rw [hv.2.1]
     exact arr_rep hh (hok _ _ hh).2
   · cases hx
 ·
   split at hx
   · rename_i b xs f hh
     split at hx
     · rename_i y hc hsz
       obtain ⟨e, rfl⟩ := castTy_some hc
       cases e
       cases hx
       have := Nat.eq_of_beq_eq_true hsz
       subst this
       simp only [VRel] at hv
       obtain ⟨hn, ad, n, cap, ad', hm, h1, h2, h3, h4, rfl⟩ := hv
       have r := arr_rep hh (hok _ _ hh).2
       rw [hm] at r
       exact rep_sub r h1 h2 h4
     · cases hx
   · cases hx
 ·
   cases hx
   simp only [VRel] at hv
   obtain ⟨a, rfl, _⟩ := hv
   exact ⟨a, 0, 0, rfl, rfl, Nat.le_refl _, by decide, .inl rfl⟩
 ·
   split at hx
   · rename_i b xs hh
     obtain ⟨e, rfl⟩ := castTy_some hx
     cases e
     simp only [VRel] at hv
     obtain ⟨hn, r, hm, _⟩ := hv
     exact zone_rep hh hm (hok _ _ hh).2
   · cases hx
 · cases hx
theorem toD_ok {c : RC} {h : Heap} (hok : HeapOK c h) : ∀ {t : Ty} {cs r : List AV} {x : t.den} {vs : List Value}, toD c.E h t cs = some (x, r) -> VRelL c cs vs ->
   ∃ v1 v2, vs = v1 ++ v2 /\ Rep c.E (Seen c h) c.w t x v1 /\ VRelL c r v2 := by
 have leaf : ∀ {t : Ty} {a : AV} {cs : List AV} {y : t.den} {vs : List Value}, leafD c.E h t a = some y -> VRelL c (a :: cs) vs ->
     ∃ v1 v2, vs = v1 ++ v2 /\ Rep c.E (Seen c h) c.w t y v1 /\ VRelL c cs v2 := by
   intro t a cs y vs hy hv
   simp only [VRelL] at hv
   obtain ⟨v, q, rfl, h1, h2⟩ := hv
   exact ⟨[v], q, rfl, leafD_ok hok hy h1, h2⟩
 intro t
 induction t with
 | unit =>
   intro cs r x vs hx hv
   simp only [toD, Option.some.injEq, Prod.mk.injEq, true_and] at hx
   subst hx
   exact ⟨[], vs, rfl, rfl, hv⟩
 | pair a b iha ihb =>
   intro cs r x vs hx hv
   simp only [toD] at hx
   split at hx
   · rename_i y q hy
     split at hx
     · rename_i z q' hz
       cases hx
       obtain ⟨v1, v2, rfl, h1, h2⟩ := iha hy hv
       obtain ⟨v3, v4, rfl, h3, h4⟩ := ihb hz h2
       exact ⟨v1 ++ v3, v4, by simp, ⟨v1, v3, rfl, h1, h3⟩, h4⟩
     · cases hx
   · cases hx
 | int k => intro cs r x vs hx hv; cases cs with
   | nil => simp [toD] at hx
   | cons a cs =>
     simp only [toD] at hx
     split at hx
     · rename_i y hy; cases hx; exact leaf hy hv
     · cases hx
 | bool => intro cs r x vs hx hv; cases cs with
   | nil => simp [toD] at hx
   | cons a cs =>
     simp only [toD] at hx
     split at hx
     · rename_i y hy; cases hx; exact leaf hy hv
     · cases hx
 | str => intro cs r x vs hx hv; cases cs with
   | nil => simp [toD] at hx
   | cons a cs =>
     simp only [toD] at hx
     split at hx
     · rename_i y hy; cases hx; exact leaf hy hv
     · cases hx
 | err => intro cs r x vs hx hv; cases cs with
   | nil => simp [toD] at hx
   | cons a cs =>
     simp only [toD] at hx
     split at hx
     · rename_i y hy; cases hx; exact leaf hy hv
     · cases hx
 | any => intro cs r x vs hx hv; cases cs with
   | nil => simp [toD] at hx
   | cons a cs =>
     simp only [toD] at hx
     split at hx
     · rename_i y hy; cases hx; exact leaf hy hv
     · cases hx
 | slice t ih => intro cs r x vs hx hv; cases cs with
   | nil => simp [toD] at hx
   | cons a cs =>
     simp only [toD] at hx
     split at hx
     · rename_i y hy; cases hx; exact leaf hy hv
     · cases hx
theorem toD_all {c : RC} {h : Heap} (hok : HeapOK c h) {t : Ty} {cs : List AV} {x : t.den} {vs : List Value} (hx : toD c.E h t cs = some (x, [])) (hv : VRelL c cs vs) :
   Rep c.E (Seen c h) c.w t x vs := by
 obtain ⟨v1, v2, rfl, h1, h2⟩ := toD_ok hok hx hv
 simp only [VRelL] at h2
 subst h2
 simpa using h1
theorem toV_ok {c : RC} {h : Heap} (hok : HeapOK c h) {t : Ty} {a : AV} {x : t.den} {v : Value} (hx : toV c.E h t a = some x) (hv : VRel c a v) : VD c.E (Seen c h) c.w t x v := by
 unfold toV at hx
 split at hx
 · split at hx
   · rename_i l hp
     split at hx
     · rename_i y hy
       cases hx
       simp only [VRel] at hv
       obtain ⟨vs, rfl, hv⟩ := hv
       unfold VD
       rw [if_pos hp]
       exact ⟨vs, rfl, toD_all hok hy hv⟩
     · cases hx
   · cases hx
 · split at hx
   · rename_i hl
     unfold VD
     rw [if_neg (by cases t <;> simp_all [Ty.leafB, Ty.isPair])]
     exact ⟨hl, leafD_ok hok hx hv⟩
   · cases hx
theorem cellsOf_ok {c : RC} {X : Nat -> Prop} (hX : ∀ b, X b -> c.X b) : ∀ {t : Ty} {x : t.den} {vs : List Value}, Rep c.E X c.w t x vs -> VRelL c (cellsOf t x) vs
 | .unit, _, vs, h => h
 | .pair a b, x, vs, h => by
   obtain ⟨c1, c2, rfl, h1, h2⟩ := h
   exact (cellsOf_ok hX h1).append (cellsOf_ok hX h2)
 | .int k, x, vs, h => by cases h; exact ⟨_, [], rfl, ⟨rfl, rfl⟩, rfl⟩
 | .bool, x, vs, h => by cases h; exact ⟨_, [], rfl, ⟨rfl, rfl⟩, rfl⟩
 | .str, x, vs, h => by obtain ⟨rfl, h⟩ := h; exact ⟨_, [], rfl, ⟨rfl, rfl, h⟩, rfl⟩
 | .any, x, vs, h => by obtain ⟨rfl, h⟩ := h; exact ⟨_, [], rfl, ⟨rfl, rfl, h⟩, rfl⟩
 | .err, x, vs, h => by obtain ⟨v, rfl, h⟩ := h; exact ⟨_, [], rfl, ⟨rfl, v, rfl, h⟩, rfl⟩
 | .slice t, x, vs, h => by
   have h' := h
   obtain ⟨a, n, cap, rfl, _⟩ := h
   exact ⟨_, [], rfl, ⟨rfl, rep_X h' hX⟩, rfl⟩
theorem valOf_ok {c : RC} {X : Nat -> Prop} (hX : ∀ b, X b -> c.X b) {t : Ty} {x : t.den} {v : Value} (h : VD c.E X c.w t x v) : VRel c (valOf t.isPair (cellsOf t x)) v := by
 unfold VD at h
 unfold valOf
 split at h
 · rename_i hp
   rw [if_pos hp]
   obtain ⟨cs, rfl, h⟩ := h
   exact ⟨cs, rfl, cellsOf_ok hX h⟩
 · rename_i hp
   rw [if_neg hp]
   have := cellsOf_ok (c := c) hX h.2
   obtain ⟨hl, _⟩ := h
   cases t <;> simp_all [cellsOf, Ty.leafB, VRelL]
theorem rep_scalar {E : Env} {X Y : Nat -> Prop} {w w' : World} : ∀ {t : Ty} {x : t.den} {vs : List Value}, t.shares = false -> Rep E X w t x vs -> Rep E Y w' t x vs
 | .unit, _, _, _, h => h
 | .err, _, _, _, h => h
 | .int _, _, _, _, h => h
 | .bool, _, _, _, h => h
 | .str, _, _, _, h => h
 | .any, _, _, _, h => h
 | .pair a b, x, vs, hs, h => by
   obtain ⟨c1, c2, rfl, h1, h2⟩ := h
   simp only [Ty.shares, Bool.or_eq_false_iff] at hs
   exact ⟨c1, c2, rfl, rep_scalar hs.1 h1, rep_scalar hs.2 h2⟩
 | .slice t, _, _, hs, _ => by simp [Ty.shares] at hs
end Go.Ab


namespace Go.Ab
def zeroOK : List AV -> List Value -> Bool
 | [], [] => true
 | .d (.int k) n :: r, .int k' n' :: q => k == k' && n == n' && zeroOK r q
 | .lb b :: r, .bool b' :: q => b == b' && zeroOK r q
 | .d .str [] :: r, .string s :: q => Nat.beq s.data.size 0 && zeroOK r q
 | .emp true :: r, .slice none 0 0 :: q => zeroOK r q
 | .nili :: r, .nilIface :: q => zeroOK r q
 | .any :: r, _ :: q => zeroOK r q
 | _, _ => false
def fieldsOK (P : Program) : List (Nat × Nat × Nat) -> List Field -> Bool
 | [], [] => true
 | (off, size, ft) :: r, f :: q => Nat.beq off f.offset && Nat.beq ft f.type && (match P.info? f.type with | some i => Nat.beq i.size size | none => false) && !(Nat.beq size 0) && fieldsOK P r q
 | _, _ => false
def tyOK (E : Env) : Ty -> TypeDesc -> Bool
 | .int k, .int k' => k == k'
 | .bool, .bool => true
 | .str, .string => true
 | .slice T, .slice e => match E.ty e with | some U => decide (U = T) | none => false
 | .pair _ _, .struct _ => true
 | .any, .interface ms => ms.isEmpty
 | _, _ => false
def eqFieldsOK (P : Program) : Nat -> List Ty -> List Field -> Bool
 | _, [], [] => true
 | i, t :: ts, f :: r => Nat.beq f.offset i && !(f.name == "_") && (match t, P.underlying f.type with
   | .int k, some (.int k') => k == k'
   | .bool, some .bool => true
   | .str, some .string => true
   | _, _ => false) && eqFieldsOK P (i + 1) ts r
 | _, _, _ => false
def isAggD : TypeDesc -> Bool
 | .struct _ => true
 | .array _ _ => true
 | _ => false
def tiCheck (P : Program) (E : Env) (t : Nat) (i : TI) : Bool :=
 match P.info? t, P.underlying t with
 | some inf, some d =>
   Nat.beq inf.size i.size && Nat.beq inf.bytes i.bytes && Nat.ble i.bytes 128 && !(Nat.beq i.size 0) &&
   (match inf.zero with | some z => zeroOK i.zero z.cells.toList && Nat.beq z.cells.size i.size | none => false) &&
   (match i.kind, d with
     | .slice e, .slice e' => Nat.beq e e'
     | .struct fs, .struct fields => fieldsOK P fs fields.toList
     | .scalar, d => !(isAggD d)
     | .other, d => !(isAggD d)
     | _, _ => false) &&
   (isAggD d || Nat.beq i.size 1) &&
   (match i.ty with | none => true | some T => Nat.beq T.size i.size && tyOK E T d && (T.leafB || T.isPair)) &&
   (!i.eq || (match d with | .struct fields => !(P.stoodInHeld t) && !(P.eqGuardType P.depth t) && eqFieldsOK P 0 ((i.ty.map Ty.leaves).getD []) fields.toList | _ => false))
 | _, _ => false
def tysOK (P : Program) (E : Env) : List (Nat × TI) -> Bool
 | [] => true
 | (t, i) :: r => tiCheck P E t i && tysOK P E r
structure EnvOK (P : Program) (E : Env) : Prop where
 tys : tysOK P E E.tys = true
 distinct : E.anyB ≠ E.anyN /\ E.anyB ≠ E.anyS /\ E.anyN ≠ E.anyS
 anyTys : E.ty E.anyB = some .bool /\ E.ty E.anyN = some (.int .i64) /\ E.ty E.anyS = some .str
 anyZ : ((P.info? E.anyB).bind (fun i => i.zero)) = some (.bool false) /\ ((P.info? E.anyN).bind (fun i => i.zero)) = some (.int .i64 0) /\ ((P.info? E.anyS).bind (fun i => i.zero)) = some (.string ⟨#[]⟩)
theorem look_check {P : Program} {E : Env} {l : List (Nat × TI)} (h : tysOK P E l = true) {t : Nat} {i : TI} (hl : look l t = some i) : tiCheck P E t i = true := by
 induction l with
 | nil => cases hl
 | cons a r ih =>
   obtain ⟨k, j⟩ := a
   simp only [tysOK, Bool.and_eq_true] at h
   simp only [look] at hl
   cases hk : Nat.beq k t with
   | true =>
     rw [hk] at hl
     cases hl
     rw [<- Nat.eq_of_beq_eq_true hk]; exact h.1
   | false =>
     rw [hk] at hl
     exact ih h.2 hl
structure TIOK (P : Program) (E : Env) (t : Nat) (i : TI) (inf : TypeInfo) (d : TypeDesc) : Prop where
 info : P.info? t = some inf
 desc : P.underlying t = some d
 size : inf.size = i.size
 bytes : inf.bytes = i.bytes
 small : i.bytes <= 128
 pos : 0 < i.size
 zero : ∃ z, inf.zero = some z /\ zeroOK i.zero z.cells.toList = true
 zlen : ∀ z, inf.zero = some z -> z.cells.size = i.size
 kslice : ∀ e, i.kind = .slice e -> d = .slice e
 kstruct : ∀ fs, i.kind = .struct fs -> ∃ fields, d = .struct fields /\ fieldsOK P fs fields.toList = true
 one : isAggD d = false -> i.size = 1
 agg : isAggD d = (match i.kind with | .struct _ => true | _ => false)
 ty : ∀ T, i.ty = some T -> T.size = i.size /\ tyOK E T d = true /\ (T.leafB = true ∨ T.isPair = true)
 eq : i.eq = true -> ∃ fields, d = .struct fields /\ P.stoodInHeld t = false /\ P.eqGuardType P.depth t = false /\ eqFieldsOK P 0 ((i.ty.map Ty.leaves).getD []) fields.toList = true
theorem EnvOK.ti {P : Program} {E : Env} (h : EnvOK P E) {t : Nat} {i : TI} (hl : E.ti t = some i) : ∃ inf d, TIOK P E t i inf d := by
 have hc := look_check h.tys hl
 unfold tiCheck at hc
 split at hc
 · rename_i inf d h1 h2
   simp only [Bool.and_eq_true] at hc
   obtain ⟨⟨⟨⟨⟨⟨⟨⟨c1, c2⟩, c3⟩, c4⟩, c5⟩, c6⟩, c9⟩, c7⟩, c8⟩ := hc
   refine ⟨inf, d, { info := h1, desc := h2, size := Nat.eq_of_beq_eq_true c1, bytes := Nat.eq_of_beq_eq_true c2, small := Nat.le_of_ble_eq_true c3, pos := ?_, zero := ?_, zlen := ?_, kslice := ?_, kstruct := ?_, one := ?_, agg := ?_, ty := ?_, eq := ?_ }⟩
   · rcases Nat.eq_zero_or_pos i.size with h0 | h0
     · rw [h0] at c4; simp at c4
     · exact h0
   · cases hz : inf.zero with
     | none => rw [hz] at c5; cases c5
     | some z => rw [hz] at c5; simp only [Bool.and_eq_true] at c5; exact ⟨z, rfl, c5.1⟩
   · intro z hz; rw [hz] at c5; simp only [Bool.and_eq_true] at c5; exact Nat.eq_of_beq_eq_true c5.2
   · intro e he
     rw [he] at c6
     cases d <;> first | cases c6 | (rename_i e'; simp only at c6; rw [Nat.eq_of_beq_eq_true c6])
   · intro fs he
     rw [he] at c6
     cases d <;> first | cases c6 | exact ⟨_, rfl, c6⟩
   · intro hd
     rw [hd] at c9
     exact Nat.eq_of_beq_eq_true (by simpa using c9)
   · cases hk : i.kind <;> rw [hk] at c6 <;> cases d <;> simp_all [isAggD]
   · intro T hT
     rw [hT] at c7
     simp only [Bool.and_eq_true, Bool.or_eq_true] at c7
     exact ⟨Nat.eq_of_beq_eq_true c7.1.1, c7.1.2, c7.2⟩
   · intro he
     rw [he] at c8
     simp only [Bool.not_true, Bool.false_or] at c8
     cases d <;> first | cases c8 | skip
     rename_i fields
     simp only [Bool.and_eq_true, Bool.not_eq_true'] at c8
     exact ⟨fields, rfl, c8.1.1, c8.1.2, c8.2⟩
 · cases hc
end Go.Ab


namespace Go.Ab
theorem zeroOK_rel (c : RC) : ∀ (l : List AV) (vs : List Value), zeroOK l vs = true -> VRelL c l vs := by
 intro l vs h
 fun_induction zeroOK l vs with
 | case1 => rfl
 | case2 k n r k' n' q ih =>
   simp only [Bool.and_eq_true, beq_iff_eq] at h
   obtain ⟨⟨rfl, rfl⟩, h⟩ := h
   exact ⟨_, _, rfl, ⟨rfl, rfl⟩, ih h⟩
 | case3 b r b' q ih =>
   simp only [Bool.and_eq_true, beq_iff_eq] at h
   obtain ⟨rfl, h⟩ := h
   exact ⟨_, _, rfl, rfl, ih h⟩
 | case4 r s q ih =>
   simp only [Bool.and_eq_true] at h
   refine ⟨_, _, rfl, ⟨rfl, ?_, by decide⟩, ih h.2⟩
   have h0 := Nat.eq_of_beq_eq_true h.1
   obtain ⟨⟨l⟩⟩ := s
   have : l = [] := List.length_eq_zero_iff.1 h0
   subst this
   rfl
 | case5 r q ih => exact ⟨_, _, rfl, ⟨none, rfl, rfl⟩, ih h⟩
 | case6 r q ih => exact ⟨_, _, rfl, rfl, ih h⟩
 | case7 r v q ih => exact ⟨_, _, rfl, by simp only [VRel], ih h⟩
 | case8 => cases h
theorem cells_ok {c : RC} {x : AV} {l : List AV} {v : Value} (h : x.cells? = some l) (r : VRel c x v) : VRelL c l v.cells.toList := by
 have one : ∀ {x : AV} {v : Value}, VRel c x v -> v.cells = #[v] -> VRelL c [x] v.cells.toList := fun {x v} r hv => by
   rw [hv]; exact ⟨v, [], rfl, r, rfl⟩
 cases x <;> simp only [AV.cells?, AV.solid, if_true, Option.some.injEq, Bool.false_eq_true, if_false, reduceCtorEq] at h <;> subst h
 case agg l =>
   simp only [VRel] at r
   obtain ⟨vs, rfl, r⟩ := r
   simpa [Value.cells] using r
 case d t x =>
   refine one r ?_
   simp only [VRel] at r
   obtain ⟨h1, h2⟩ := r
   cases t <;> simp_all [Ty.leafB, Rep]
   case int => rfl
   case bool => rfl
   case str => obtain ⟨rfl, _⟩ := h2; rfl
   case any => obtain ⟨rfl, _⟩ := h2; cases x <;> rfl
   case slice t => obtain ⟨_, _, _, rfl, _⟩ := h2; rfl
   case err => rcases h2 with ⟨_, rfl⟩ | ⟨_, _, _, rfl⟩ <;> rfl
 case lb b => refine one r ?_; simp only [VRel] at r; subst r; rfl
 case emp n => refine one r ?_; simp only [VRel] at r; obtain ⟨a, rfl, _⟩ := r; rfl
 case os i => refine one r ?_; simp only [VRel] at r; obtain ⟨_, _, _, _, _, rfl⟩ := r; rfl
 case oss => refine one r ?_; simp only [VRel] at r; obtain ⟨_, _, _, _, _, _, _, _, _, _, rfl⟩ := r; rfl
 case p => refine one r ?_; simp only [VRel] at r; obtain ⟨_, _, _, rfl⟩ := r; rfl
 case pc => refine one r ?_; simp only [VRel] at r; obtain ⟨_, _, rfl, _⟩ := r; rfl
 case pe => refine one r ?_; simp only [VRel] at r; obtain ⟨_, _, _, _, _, _, rfl⟩ := r; rfl
 case fn => refine one r ?_; simp only [VRel] at r; obtain ⟨_, rfl, _⟩ := r; rfl
 case fp => refine one r ?_; simp only [VRel] at r; obtain ⟨_, _, _, _, rfl, _⟩ := r; rfl
 case ifc => refine one r ?_; simp only [VRel] at r; obtain ⟨_, rfl, _⟩ := r; rfl
 case nili => refine one r ?_; simp only [VRel] at r; subst r; rfl
 case oz => refine one r ?_; simp only [VRel] at r; obtain ⟨_, _, _, _, _, _, rfl⟩ := r; rfl
theorem solid_one {c : RC} {x : AV} {v : Value} (h : x.solid = true) (r : VRel c x v) : v.oneCell' = true := by
 cases x <;> simp only [AV.solid, Bool.false_eq_true] at h <;> simp only [VRel] at r
 case d t x =>
   obtain ⟨h1, h2⟩ := r
   cases t <;> simp_all [Ty.leafB, Rep, Value.oneCell']
   case any => obtain ⟨rfl, _⟩ := h2; cases x <;> rfl
   case slice t => obtain ⟨_, _, _, rfl, _⟩ := h2; rfl
   case err => rcases h2 with ⟨_, rfl⟩ | ⟨_, _, _, rfl⟩ <;> rfl
 case lb b => subst r; rfl
 case emp n => obtain ⟨a, rfl, _⟩ := r; rfl
 case os i => obtain ⟨_, _, _, _, _, rfl⟩ := r; rfl
 case oss => obtain ⟨_, _, _, _, _, _, _, _, _, _, rfl⟩ := r; rfl
 case p => obtain ⟨_, _, _, rfl⟩ := r; rfl
 case pc => obtain ⟨_, _, rfl, _⟩ := r; rfl
 case pe => obtain ⟨_, _, _, _, _, _, rfl⟩ := r; rfl
 case fn => obtain ⟨_, rfl, _⟩ := r; rfl
 case fp => obtain ⟨_, _, _, _, rfl, _⟩ := r; rfl
 case ifc => obtain ⟨_, rfl, _⟩ := r; rfl
 case nili => subst r; rfl
 case oz => obtain ⟨_, _, _, _, _, _, rfl⟩ := r; rfl
theorem eval_ok {G : Ctx} {s : St} {a : Act} {w : World} {m : Nat -> Value} (h : Holds G s a w m) (x : Operand) : VRel (G.rc s.objs m w) (s.eval x) (a.eval x) := by
 cases x with
 | tmp t =>
   simp only [St.eval, Act.eval]
   cases he : s.tmps[t]? with
   | none => simp [List.getD, he, VRel]
   | some y =>
     obtain ⟨v, hv, r⟩ := h.tmps.get t y he
     have : a.tmps.getD t undef = v := by simpa [Array.getD_eq_getD_getElem?] using by rw [<- Array.getElem?_toList, hv]; rfl
     simp only [List.getD, he, Option.getD_some, this]
     exact r
 | const v => exact ofConst_ok _ v
 | global g => simp [St.eval, VRel]
 | func f => exact ⟨[], rfl, rfl⟩
def Ok1 (P : Program) (G : Ctx) (s : St) (a : Act) (w : World) (m : Nat -> Value) (o : Oper) (K : K1) : Prop :=
 ∀ next Q, (∀ v news val w' m', K v news -> Keep (fun _ => False) w w' -> HoldsO G (s.objs ++ news.map some) m' w' -> (G.rc s.objs m w).Le (G.rc (s.objs ++ news.map some) m' w') ->
   VRel (G.rc (s.objs ++ news.map some) m' w') v val -> next (a.put o.dst val) w') -> o.wp P a w next Q
variable {P : Program} {G : Ctx} {s : St} {a : Act} {w : World} {m : Nat -> Value} {o : Oper} {K : K1}
def OkL (P : Program) (G : Ctx) (s : St) (a : Act) (w : World) (m : Nat -> Value) (o : Oper) (O : Nat -> Prop) (K : K1) : Prop :=
 ∃ v val, K v [] /\ VRel (G.rc s.objs m w) v val /\ ∀ w', Keep O w w' -> (execOp a.eval o).run P w' = .ok (.value val) w'
def OkP (P : Program) (G : Ctx) (s : St) (a : Act) (w : World) (m : Nat -> Value) (o : Oper) (K : K1) : Prop :=
 ∃ v val, K v [] /\ VRel (G.rc s.objs m w) v val /\ ∀ w', (execOp a.eval o).run P w' = .ok (.value val) w'
variable {O : Nat -> Prop}
theorem OkP.lit {v : AV} {val : Value} (hr : ∀ w', (execOp a.eval o).run P w' = .ok (.value val) w') (hv : VRel (G.rc s.objs m w) v val) (hk : K v []) : OkP P G s a w m o K :=
 ⟨v, val, hk, hv, hr⟩
theorem OkP.okL (h : OkP P G s a w m o K) : OkL P G s a w m o O K := by
 obtain ⟨v, val, hk, hv, hr⟩ := h
 exact ⟨v, val, hk, hv, fun w' _ => hr w'⟩
theorem OkL.lit {v : AV} {val : Value} (hr : ∀ w', (execOp a.eval o).run P w' = .ok (.value val) w') (hv : VRel (G.rc s.objs m w) v val) (hk : K v []) : OkL P G s a w m o O K :=
 ⟨v, val, hk, hv, fun w' _ => hr w'⟩
theorem OkL.litO {v : AV} {val : Value} (hr : ∀ w', Keep O w w' -> (execOp a.eval o).run P w' = .ok (.value val) w') (hv : VRel (G.rc s.objs m w) v val) (hk : K v []) : OkL P G s a w m o O K :=
 ⟨v, val, hk, hv, hr⟩
def arrO (s : St) (m : Nat -> Value) (b : Nat) : Prop := ∃ i t xs f, s.objs[i]? = some (some (.arr t xs f)) /\ rows (m i) b
theorem arrO.own {b : Nat} (h : arrO s m b) : Own s.objs m b := by obtain ⟨i, t, xs, f, hi, hb⟩ := h; exact ⟨i, _, hi, hb⟩
theorem Ok1.same (h : Holds G s a w m) {v : AV} {val : Value} (hr : (execOp a.eval o).run P w = .ok (.value val) w) (hv : VRel (G.rc s.objs m w) v val) (hk : K v []) : Ok1 P G s a w m o K := by
 intro next Q hn
 unfold Oper.wp
 rw [hr, Oper.upon_value]
 exact hn v [] val w m hk (Keep.refl _ _) (by simpa using h.o) (by simpa using RC.Le.refl _) (by simpa using hv)
theorem OkL.ok1 (h : Holds G s a w m) (hl : OkL P G s a w m o O K) : Ok1 P G s a w m o K := by
 obtain ⟨v, val, hk, hv, hr⟩ := hl
 exact .same h (hr w (Keep.refl _ _)) hv hk
theorem OkP.ok1 (h : Holds G s a w m) (hl : OkP P G s a w m o K) : Ok1 P G s a w m o K := (OkP.okL (O := fun _ => False) hl).ok1 h
theorem Ok1.grow (h : Holds G s a w m) {v : AV} {val : Value} {w' : World} (hr : (execOp a.eval o).run P w = .ok (.value val) w') (hg : Keep (fun _ => False) w w')
   (hv : HoldsO G s.objs m w' -> (G.rc s.objs m w).Le (G.rc s.objs m w') -> VRel (G.rc s.objs m w') v val) (hk : K v []) : Ok1 P G s a w m o K := by
 intro next Q hn
 unfold Oper.wp
 rw [hr, Oper.upon_value]
 obtain ⟨h1, h2⟩ := h.o.grow hg
 exact hn v [] val w' m hk hg (by simpa using h1) (by simpa using h2) (by simpa using hv h1 h2)
theorem Ok1.new (h : Holds G s a w m) {v : AV} {val : Value} {w' : World} (hd : Value) (ob : Obj) (hr : (execOp a.eval o).run P w = .ok (.value val) w') (hg : Keep (fun _ => False) w w')
   (hnew : ∀ b, rows hd b -> w.heap.size <= b)
   (hrel : (G.rc s.objs m w).Le (G.rc (s.objs ++ [some ob]) (ext1 m s.objs.length hd) w') -> ORel (G.rc (s.objs ++ [some ob]) (ext1 m s.objs.length hd) w') hd ob)
   (hv : VRel (G.rc (s.objs ++ [some ob]) (ext1 m s.objs.length hd) w') v val) (hk : K v [ob]) : Ok1 P G s a w m o K := by
 intro next Q hn
 unfold Oper.wp
 rw [hr, Oper.upon_value]
 obtain ⟨h1, h2⟩ := h.o.extend1 hg ob hd hnew hrel
 exact hn v [ob] val w' _ hk hg h1 h2 hv
theorem bool_ok {c : RC} {x : AV} {v : Value} {b : Bool} (h : boolOf x = some b) (r : VRel c x v) : v = .bool b := by
 unfold boolOf at h
 split at h
 · cases h
   simp only [VRel] at r
   simpa [Rep] using r.2
 · cases h; exact r
 · cases h
theorem int_ok {c : RC} {k : IntKind} {n : Int} {v : Value} (r : VRel c (.d (.int k) n) v) : v = .int k n := by simpa [VRel, Rep] using r.2
theorem str_ok {c : RC} {s : List UInt8} {v : Value} (r : VRel c (.d .str s) v) : v = .string ⟨s.toArray⟩ /\ s.length < lim := by
 have := r.2
 simpa [Rep] using this
theorem mk_int {c : RC} (k : IntKind) (n : Int) : VRel c (.d (.int k) n) (.int k n) := ⟨rfl, rfl⟩
theorem mk_bool {c : RC} (b : Bool) : VRel c (.d .bool b) (.bool b) := ⟨rfl, rfl⟩
theorem mk_str {c : RC} {s : List UInt8} (h : s.length < lim) : VRel c (.d .str s) (.string ⟨s.toArray⟩) := ⟨rfl, rfl, h⟩
theorem op_move (h : Holds G s a w m) {x : Operand} (ho : o.op = .move x ∨ o.op = .assign x) (hk : K (s.eval x) []) : OkP P G s a w m o K :=
 .lit (fun w => by rcases ho with ho | ho <;> simp [execOp, ho]) (eval_ok h x) hk
theorem op_emp (h : Holds G s a w m) {x : Operand} (ho : o.op = .assign x) {b : Bool} (hx : s.eval x = .emp b) {t : Ty} (hk : K (.os s.objs.length) [.arr t [] false]) : Ok1 P G s a w m o K := by
 have r := eval_ok h x
 rw [hx] at r
 obtain ⟨ad, e, _⟩ := r
 have hb : blk (.slice ad 0 0) = none := by cases ad <;> simp [rows_p, rows_s, blk]
 refine .new h (v := .os s.objs.length) (val := .slice ad 0 0) (.slice ad 0 0) (.arr t [] false) (by simp [execOp, ho, e]) (Keep.refl _ _) (fun b hh => by rw [rows_s, hb] at hh; cases hh)
   (fun _ => ⟨ad, 0, 0, rfl, rfl, Nat.le_refl _, by decide, .inl rfl⟩) ⟨by simp [Ctx.rc], by simp [Ctx.rc], _, _, _, rfl⟩ hk
theorem op_pick (h : Holds G s a w m) {c x y : Operand} (ho : o.op = .pick c x y) {b : Bool} (hb : boolOf (s.eval c) = some b)
   (hk : (b = true -> K (s.eval x) []) /\ (b = false -> K (s.eval y) [])) : OkP P G s a w m o K := by
 have e := bool_ok hb (eval_ok h c)
 cases b
 · exact .lit (fun w => by simp [execOp, ho, e, asBool]) (eval_ok h y) (hk.2 rfl)
 · exact .lit (fun w => by simp [execOp, ho, e, asBool]) (eval_ok h x) (hk.1 rfl)
theorem box_new (h : Holds G s a w m) {t : TypeId} {v : Value} {l : List AV} (hr : (execOp a.eval o).run P w = .ok (.value (.pointer (some ⟨w.heap.size, 0, none⟩))) (w.alloc (.cells v.cells t)))
   (hl : VRelL (G.rc s.objs m w) l v.cells.toList) (hk : K (.p s.objs.length 0) [.box l]) : Ok1 P G s a w m o K := by
 refine .new h (v := .p s.objs.length 0) (.pointer (some ⟨w.heap.size, 0, none⟩)) (.box l) hr (keep_alloc _ _ _) (fun b hb => ?_)
   (fun hle => ⟨w.heap.size, t, v.cells.toList, rfl, by simpa [Ctx.rc] using heap_alloc_new' w (.cells v.cells t), hl.mono hle⟩) ⟨by simp [Ctx.rc], w.heap.size, by simp [Ctx.rc], rfl⟩ hk
 simp only [rows_p, rows_s, blk, Option.some.injEq] at hb; omega
theorem op_box (h : Holds G s a w m) {t : TypeId} {x : Operand} (ho : o.op = .box t x) {l : List AV} (hl : (s.eval x).cells? = some l) (hk : K (.p s.objs.length 0) [.box l]) : Ok1 P G s a w m o K :=
 box_new h (t := t) (v := a.eval x) (by simp [execOp, ho, Instr.box, newVar, newRow]) (cells_ok hl (eval_ok h x)) hk
theorem run_zero {t : TypeId} {i : TI} {inf : TypeInfo} {d : TypeDesc} (T : TIOK P G.E t i inf d) : ∃ z, zeroOK i.zero z.cells.toList = true /\ (zeroValue t).run P w = .ok z w /\ inf.zero = some z := by
 obtain ⟨z, hz, hz2⟩ := T.zero
 exact ⟨z, hz2, by simp [zeroValue, typeInfo, T.info, hz], hz⟩
theorem op_alloc (hE : EnvOK P G.E) (h : Holds G s a w m) {t : TypeId} (ho : o.op = .alloc t) {i : TI} (hi : G.E.ti t = some i) (hk : K (.p s.objs.length 0) [.box i.zero]) : Ok1 P G s a w m o K := by
 obtain ⟨inf, d, T⟩ := hE.ti hi
 obtain ⟨z, hz, hr, _⟩ := run_zero (w := w) T
 exact box_new h (t := t) (v := z) (by simp [execOp, ho, Instr.alloc, hr, newVar, newRow]) (zeroOK_rel _ _ _ hz) hk
theorem isAgg_run {t : TypeId} {i : TI} {inf : TypeInfo} {d : TypeDesc} (T : TIOK P G.E t i inf d) (hi : G.E.ti t = some i) : (isAgg t).run P w = .ok (isAggT G.E t) w := by
 have : isAggT G.E t = isAggD d := by
   rw [T.agg]
   simp only [isAggT, hi, Option.map_some]
   cases i.kind <;> rfl
 rw [this]
 cases d <;> simp [isAgg, run_underlying T.desc, isAggD]
theorem run_loadVar' (hE : EnvOK P G.E) {t : TypeId} {i : TI} (hi : G.E.ti t = some i) {b off : Nat} {cs : List Value} (hl : cs.length = i.size) :
   ∃ val, (∀ w : World, (∀ (j : Nat) v, cs[j]? = some v -> w.cell? ⟨b, off + j, none⟩ = some v) -> (Instr.loadAt t (.pointer (some ⟨b, off, none⟩))).run P w = .ok val w) /\ ((isAggT G.E t = true /\ val = .agg cs.toArray) ∨ (isAggT G.E t = false /\ cs = [val])) := by
 obtain ⟨inf, d, T⟩ := hE.ti hi
 have hag := fun w => isAgg_run (w := w) T hi
 cases hb : isAggT G.E t with
 | true =>
   rw [hb] at hag
   refine ⟨.agg cs.toArray, fun w hc => ?_, .inl ⟨rfl, rfl⟩⟩
   have hl' : (loadCells ⟨b, off, none⟩ cs.length).run P w = .ok cs.toArray w := run_loadCells_list (P := P) w ⟨b, off, none⟩ cs (fun j v hv => by rw [Addr.add_mid]; exact hc j v hv)
   simp [Instr.loadAt, Instr.sureAddr, loadVar, hag, sizeOf, typeInfo, T.info, T.size, <- hl, hl']
 | false =>
   rw [hb] at hag
   have h1 : i.size = 1 := by
     refine T.one ?_
     rw [T.agg, <- hb]
     simp only [isAggT, hi, Option.map_some]
     cases i.kind <;> rfl
   match cs, hl with
   | [v], _ =>
     refine ⟨v, fun w hc => ?_, .inr ⟨rfl, rfl⟩⟩
     have := hc 0 v rfl
     simp [Instr.loadAt, Instr.sureAddr, loadVar, hag]; simp at this; simp [this]
   | [], hl => simp at hl; omega
   | _ :: _ :: _, hl => simp at hl; omega
end Go.Ab


namespace Go.Ab
variable {P : Program} {G : Ctx} {s : St} {a : Act} {w : World} {m : Nat -> Value} {o : Oper} {K : K1} {O : Nat -> Prop}
theorem addr_add (b off j : Nat) : (⟨b, off, none⟩ : Addr).add j = ⟨b, off + j, none⟩ := by
 unfold Addr.add; split <;> simp_all
theorem Holds.heap (h : Holds G s a w m) : HeapOK (G.rc s.objs m w) s.heap := by
 intro i ob hi
 simp only [St.heap] at hi
 cases hg : s.objs[i]? with
 | none => rw [hg] at hi; cases hi
 | some x =>
   rw [hg] at hi
   simp only [Option.join_some] at hi
   subst hi
   exact ⟨get_lt hg, h.o.rel i ob hg⟩
theorem heap_get {i : Nat} {ob : Obj} (hi : s.heap i = some ob) : s.objs[i]? = some (some ob) := by
 simp only [St.heap] at hi
 cases hg : s.objs[i]? with
 | none => rw [hg] at hi; cases hi
 | some x => rw [hg] at hi; simp only [Option.join_some] at hi; rw [hi]
theorem valOf_cells {c : RC} {ag : Bool} {l : List AV} {cs : List Value} {val : Value} (hl : VRelL c l cs) (hv : (ag = true /\ val = .agg cs.toArray) ∨ (ag = false /\ cs = [val])) : VRel c (valOf ag l) val := by
 rcases hv with ⟨rfl, rfl⟩ | ⟨rfl, rfl⟩
 · exact ⟨cs, rfl, hl⟩
 · match l, hl with
   | [x], hl =>
     simp only [VRelL] at hl
     obtain ⟨v, q, e, r, rfl⟩ := hl
     simp only [List.cons.injEq, and_true] at e
     subst e
     simpa [valOf] using r
   | [], hl => simp [VRelL] at hl
   | _ :: _ :: _, hl => have := hl.length; simp at this
theorem keep_cell {O : Nat -> Prop} {w w' : World} (h : Keep O w w') {b o : Nat} (hb : b < w.heap.size) (hO : ¬ O b) : w'.cell? ⟨b, o, none⟩ = w.cell? ⟨b, o, none⟩ := cell?_congr (h.block b hb hO)
theorem op_load (hE : EnvOK P G.E) (h : Holds G s a w m) (hO : ∀ b, O b -> arrO s m b) {t : TypeId} {x : Operand} (hpe : (∃ i n k f, s.eval x = .pe i n k f) -> ∀ b, ¬ O b) (ho : o.op = .load t x) (hk : loadV G.E s.heap t (s.eval x) fun v => K v []) : OkL P G s a w m o O K := by
 have r := eval_ok h x
 unfold loadV at hk
 split at hk
 · cases hk
 · rename_i i hi
   split at hk
   ·
     rename_i ob off hx
     split at hk
     · rename_i cs hcs
       rw [hx] at r
       obtain ⟨hn, b, hm, hv⟩ := r
       obtain ⟨b', t', vs, hm', hb, hr⟩ := (h.heap ob _ hcs).2
       simp only [Ctx.rc] at hm hm' hb
       have hm0 := hm'
       rw [hm] at hm'
       simp only [Value.pointer.injEq, Option.some.injEq, Addr.mk.injEq, and_true] at hm'
       subst hm'
       have hlen := hr.length
       obtain ⟨val, h1, h2⟩ := run_loadVar' (P := P) hE hi (b := b) (off := off) (cs := (vs.drop off).take i.size) (by simp; omega)
       have hnO : ¬ O b := fun hh => by
         obtain ⟨j, t2, xs2, f2, hj, hbj⟩ := hO b hh
         have := h.o.disj j ob _ _ b hj (heap_get hcs) hbj (by rw [hm0]; rfl)
         subst this
         rw [heap_get hcs] at hj
         cases hj
       refine .litO (val := val) (fun w' hw => ?_) (valOf_cells ((hr.drop off).take i.size) h2) hk.2
       have := h1 w' (fun j v hj => by
         have hlt := get_lt hj
         simp at hlt
         rw [List.getElem?_take_of_lt (by omega), List.getElem?_drop] at hj
         rw [keep_cell hw (heap_lt hb) hnO, cell_at hb, hj])
       simp [execOp, ho, hv, this]
     · cases hk
   · rename_i cs hx
     rw [hx] at r
     obtain ⟨b, off, hv, hb, hS, vs, hc, hr⟩ := r
     have hlen := hr.length
     obtain ⟨val, h1, h2⟩ := run_loadVar' (P := P) hE hi (b := b) (off := off) (cs := vs.take i.size) (by simp; omega)
     refine .litO (val := val) (fun w' hw => ?_) (valOf_cells (hr.take i.size) h2) hk.2
     have := h1 w' (fun j v hj => by
       have hlt := get_lt hj
       simp at hlt
       rw [List.getElem?_take_of_lt (by omega)] at hj
       rw [keep_cell hw hb (fun hh => hS (hO b hh).own)]
       exact hc j v hj)
     simp [execOp, ho, hv, this]
   · rename_i ob n k off hx
     split at hk
     · rename_i e xs fx hcs
       rw [hx] at r
       obtain ⟨hn, b, len, cap, hm, hcap, hv⟩ := r
       obtain ⟨ad, n', cap', hm', hn', hc', hl', hr⟩ := (h.heap ob _ hcs).2
       simp only [Ctx.rc] at hm hm'
       rw [hm] at hm'
       simp only [Value.slice.injEq] at hm'
       obtain ⟨rfl, rfl, rfl⟩ := hm'
       rcases hr with hr | ⟨b', vs, e', hb', hh, hvl, _, hr⟩
       · exact absurd hr hcap
       · simp only [Option.some.injEq, Addr.mk.injEq, and_true] at hb'
         subst hb'
         simp only [lenL, nth] at hk
         obtain ⟨rfl, hof, hk1, hk2⟩ := hk
         have hx1 : xs[k]? = some xs[k] := List.getElem?_eq_getElem hk1
         have hrep := hr k _ hx1
         have hlen : k * e.size + e.size <= vs.length := by
           rw [hvl]
           calc k * e.size + e.size = (k + 1) * e.size := by rw [Nat.add_mul]; simp
             _ <= cap * e.size := Nat.mul_le_mul_right _ (by omega)
         have hcl := cellsOf_ok (c := G.rc s.objs m w) (fun b hb => hb) hrep
         obtain ⟨val, h1, h2⟩ := run_loadVar' (P := P) hE hi (b := b) (off := k * e.size + off) (cs := (((vs.drop (k * e.size)).take e.size).drop off).take i.size) (by simp; omega)
         refine .litO (val := val) (fun w' hw => ?_) (valOf_cells ((hcl.drop off).take i.size) h2) (hk2 _ hx1)
         have := h1 w' (fun j v hj => by
           have hlt := get_lt hj
           simp at hlt
           rw [List.getElem?_take_of_lt (by omega), List.getElem?_drop, List.getElem?_take_of_lt (by omega), List.getElem?_drop] at hj
           have := cell_at (w := w) hh (k * e.size + off + j)
           rw [keep_cell hw (heap_lt hh) (hpe ⟨_, _, _, _, hx⟩ b), this, <- hj]
           congr 1; omega)
         simp [execOp, ho, hv, this]
     · cases hk
   · cases hk
theorem field_at {E : Env} {t : TypeId} {i : TI} {inf : TypeInfo} {d : TypeDesc} (T : TIOK P E t i inf d) {f off size ft : Nat} (hf : i.field f = some (off, size, ft)) :
   ∃ (fields : Array Field) (F : Field) (iF : TypeInfo), d = .struct fields /\ fields[f]? = some F /\ F.offset = off /\ F.type = ft /\ P.info? F.type = some iF /\ iF.size = size /\ size ≠ 0 := by
 unfold TI.field at hf
 split at hf
 · rename_i fs hk
   obtain ⟨fields, rfl, hok⟩ := T.kstruct fs hk
   refine ⟨fields, ?_⟩
   have : ∀ (fs : List (Nat × Nat × Nat)) (l : List Field) (f : Nat), fieldsOK P fs l = true -> fs[f]? = some (off, size, ft) ->
       ∃ (F : Field) (iF : TypeInfo), l[f]? = some F /\ F.offset = off /\ F.type = ft /\ P.info? F.type = some iF /\ iF.size = size /\ size ≠ 0 := by
     intro fs
     induction fs with
     | nil => intro l f _ h; simp at h
     | cons x r ih =>
       intro l f hok h
       obtain ⟨a, b, c⟩ := x
       cases l with
       | nil => simp [fieldsOK] at hok
       | cons y q =>
         simp only [fieldsOK, Bool.and_eq_true] at hok
         obtain ⟨⟨⟨⟨h1, h2⟩, h3⟩, h4⟩, h5⟩ := hok
         cases f with
         | zero =>
           simp only [List.getElem?_cons_zero, Option.some.injEq, Prod.mk.injEq] at h
           obtain ⟨rfl, rfl, rfl⟩ := h
           split at h3
           · rename_i iF hiF
             exact ⟨y, iF, rfl, (Nat.eq_of_beq_eq_true h1).symm, (Nat.eq_of_beq_eq_true h2).symm, hiF, Nat.eq_of_beq_eq_true h3, by intro h0; subst h0; simp at h4⟩
           · cases h3
         | succ f =>
           obtain ⟨F, iF, hh⟩ := ih q f h5 (by simpa using h)
           exact ⟨F, iF, by simpa using hh⟩
   obtain ⟨F, iF, hF, hh⟩ := this fs fields.toList f hok hf
   exact ⟨F, iF, rfl, by rw [<- Array.getElem?_toList]; exact hF, hh⟩
 · cases hf
theorem run_fieldAt' (hE : EnvOK P G.E) {t f off size ft : Nat} (hf : (G.E.ti t).bind (fun i => i.field f) = some (off, size, ft)) (b p : Nat) :
   (Instr.fieldAt t (.pointer (some ⟨b, p, none⟩)) f).run P w = .ok (.pointer (some ⟨b, p + off, none⟩)) w := by
 cases hi : G.E.ti t with
 | none => rw [hi] at hf; cases hf
 | some i =>
   rw [hi] at hf
   obtain ⟨inf, d, T⟩ := hE.ti hi
   obtain ⟨fields, F, iF, rfl, hF, rfl, rfl, hiF, rfl, h0⟩ := field_at T hf
   simp [Instr.fieldAt, run_underlying T.desc, hF, Instr.sureAddr, fieldPlace, sizeOf, typeInfo, hiF, h0, addr_add]
theorem op_fieldAddr (hE : EnvOK P G.E) (h : Holds G s a w m) {t f : Nat} {x : Operand} (ho : o.op = .fieldAddr t x f) (hk : fieldAddrV G.E t (s.eval x) f fun v => K v []) : OkP P G s a w m o K := by
 have r := eval_ok h x
 unfold fieldAddrV at hk
 split at hk
 · cases hk
 · rename_i off size ft hf
   split at hk
   · rename_i ob p hx
     rw [hx] at r
     obtain ⟨hn, b, hm, hv⟩ := r
     exact .lit (v := .p ob (p + off)) (fun w => by simp [execOp, ho, hv, run_fieldAt' hE hf]) ⟨hn, b, hm, rfl⟩ hk
   · rename_i cs hx
     rw [hx] at r
     obtain ⟨b, p, hv, hb, hS, vs, hc, hr⟩ := r
     exact .lit (v := .pc (cs.drop off)) (fun w => by simp [execOp, ho, hv, run_fieldAt' hE hf]) ⟨b, p + off, rfl, hb, hS, vs.drop off, fun j v hj => by
       rw [List.getElem?_drop] at hj
       rw [<- hc _ v hj]
       congr 2; omega, hr.drop off⟩ hk
   · rename_i ob n k p hx
     rw [hx] at r
     obtain ⟨hn, b, len, cap, hm, hcap, hv⟩ := r
     exact .lit (v := .pe ob n k (p + off)) (val := .pointer (some ⟨b, k * n + p + off, none⟩)) (fun w => by simp [execOp, ho, hv, run_fieldAt' hE hf]) ⟨hn, b, len, cap, hm, hcap, by rw [Nat.add_assoc]⟩ hk
   · cases hk
theorem op_field (hE : EnvOK P G.E) (h : Holds G s a w m) {t f : Nat} {x : Operand} (ho : o.op = .field t x f) (hk : fieldV G.E t (s.eval x) f fun v => K v []) : OkP P G s a w m o K := by
 have r := eval_ok h x
 unfold fieldV at hk
 split at hk
 · rename_i off size ft l hf hx
   split at hk
   · rename_i j hj
     rw [hx] at r
     obtain ⟨vs, hv, hr⟩ := r
     have hlen := hr.length
     cases hi : G.E.ti t with
     | none => rw [hi] at hf; cases hf
     | some i =>
       rw [hi] at hf
       obtain ⟨inf, d, T⟩ := hE.ti hi
       obtain ⟨fields, F, iF, rfl, hF, rfl, rfl, hiF, rfl, h0⟩ := field_at T hf
       have hcs : VRelL (G.rc s.objs m w) ((l.drop F.offset).take iF.size) ((vs.drop F.offset).take iF.size) := (hr.drop _).take _
       obtain ⟨inf', d', T'⟩ := hE.ti hj
       have hag := fun w => isAgg_run (P := P) (w := w) T' hj
       have : inf' = iF := by have := T'.info; rw [hiF] at this; exact (Option.some.inj this).symm
       subst this
       obtain ⟨hle, hk⟩ := hk
       cases hb : isAggT G.E F.type with
       | true =>
         rw [hb] at hag hk
         refine .lit (val := .agg ((vs.drop F.offset).take inf'.size).toArray) (fun w => ?_) (valOf_cells hcs (.inl ⟨rfl, rfl⟩)) hk
         have e : vs.toArray.extract F.offset (F.offset + inf'.size) = ((vs.drop F.offset).take inf'.size).toArray := by
           simp
         simp only [execOp, ho, hv, Instr.field, Sem.run_bind, run_underlying T.desc, Result.andThen_ok, hF, asAgg, Sem.run_pure, part, hag, if_true, sizeOf, typeInfo, run_program, hiF, e]
       | false =>
         rw [hb] at hag hk
         have h1 : inf'.size = 1 := by
           rw [T'.size]
           refine T'.one ?_
           rw [T'.agg, <- hb]
           simp only [isAggT, hj, Option.map_some]
           cases j.kind <;> rfl
         rw [h1] at hle hcs hk
         have hlt : F.offset < vs.length := by omega
         have ec : (vs.drop F.offset).take 1 = [vs[F.offset]] := by
           rw [List.drop_eq_getElem_cons hlt]; rfl
         refine .lit (val := vs[F.offset]) (fun w => ?_) (valOf_cells hcs (.inr ⟨rfl, ec⟩)) hk
         have hg : vs.toArray[F.offset]? = some vs[F.offset] := by simp [hlt]
         simp only [execOp, ho, hv, Instr.field, Sem.run_bind, run_underlying T.desc, Result.andThen_ok, hF, asAgg, Sem.run_pure, part, hag, Bool.false_eq_true, if_false, hg]
   · cases hk
 · cases hk
end Go.Ab


namespace Go.Ab
variable {P : Program} {G : Ctx} {s : St} {a : Act} {w : World} {m : Nat -> Value} {o : Oper} {K : K1} {O : Nat -> Prop}
theorem elemSize_some {E : Env} (hE : EnvOK P E) {t z : Nat} (h : elemSize E t = some z) : ∃ e inf, P.underlying t = some (.slice e) /\ P.info? e = some inf /\ inf.size = z /\ 0 < z := by
 unfold elemSize at h
 split at h
 · rename_i e hk
   cases hi : E.ti t with
   | none => rw [hi] at hk; cases hk
   | some i =>
     rw [hi] at hk
     simp only [Option.map_some, Option.some.injEq] at hk
     obtain ⟨inf, d, T⟩ := hE.ti hi
     have hd := T.kslice e hk
     subst hd
     cases hj : E.ti e with
     | none => rw [hj] at h; cases h
     | some j =>
       rw [hj] at h
       cases h
       obtain ⟨inf', d', T'⟩ := hE.ti hj
       exact ⟨e, inf', T.desc, T'.info, T'.size, T'.pos⟩
 · cases h
theorem ty_str {E : Env} (hE : EnvOK P E) {t : Nat} (h : E.ty t = some .str) : P.underlying t = some .string := by
 unfold Env.ty at h
 cases hi : E.ti t with
 | none => rw [hi] at h; cases h
 | some i =>
   rw [hi] at h
   obtain ⟨inf, d, T⟩ := hE.ti hi
   have := (T.ty _ h).2.1
   cases d <;> simp [tyOK] at this
   exact T.desc
theorem ty_int {E : Env} (hE : EnvOK P E) {t : Nat} {k : IntKind} (h : E.ty t = some (.int k)) : P.underlying t = some (.int k) := by
 unfold Env.ty at h
 cases hi : E.ti t with
 | none => rw [hi] at h; cases h
 | some i =>
   rw [hi] at h
   obtain ⟨inf, d, T⟩ := hE.ti hi
   have := (T.ty _ h).2.1
   cases d <;> simp [tyOK] at this
   subst this
   exact T.desc
theorem ty_bool {E : Env} (hE : EnvOK P E) {t : Nat} (h : E.ty t = some .bool) : P.underlying t = some .bool := by
 unfold Env.ty at h
 cases hi : E.ti t with
 | none => rw [hi] at h; cases h
 | some i =>
   rw [hi] at h
   obtain ⟨inf, d, T⟩ := hE.ti hi
   have := (T.ty _ h).2.1
   cases d <;> simp [tyOK] at this
   exact T.desc
theorem run_indexAt' {t e : TypeId} {inf : TypeInfo} {z : Nat} (hu : P.underlying t = some (.slice e)) (hi : P.info? e = some inf) (hz : inf.size = z) {b off len cap : Nat} {k : IntKind} {n : Int} (h0 : 0 <= n) (h1 : n < len) :
   (Instr.indexAt t (.slice (some ⟨b, off, none⟩) len cap) (.int k n)).run P w = .ok (.pointer (some ⟨b, off + n.toNat * z, none⟩)) w := by
 simp [Instr.indexAt, run_underlying hu, asIntOf, h0, h1, sizeOf, typeInfo, hi, hz, addr_add]
theorem arr_block {c : RC} {i : Nat} {t : Ty} {xs : List t.den} {f : Bool} (r : ORel c (c.m i) (.arr t xs f)) {k : Nat} (hk : k < xs.length) :
   ∃ b n cap, c.m i = .slice (some ⟨b, 0, none⟩) n cap /\ n = xs.length /\ n <= cap /\ cap ≠ 0 := by
 obtain ⟨ad, n, cap, hm, hn, hc, hl, r⟩ := r
 rcases r with r | ⟨b, vs, e, rfl, _⟩
 · omega
 · exact ⟨b, n, cap, hm, hn, hc, by omega⟩
theorem op_indexAddr (hE : EnvOK P G.E) (h : Holds G s a w m) {t : Nat} {x i : Operand} (ho : o.op = .indexAddr t x i) (hk : indexAddrV G.E s.heap t (s.eval x) (s.eval i) fun v => K v []) : OkP P G s a w m o K := by
 have r := eval_ok h x
 have ri := eval_ok h i
 unfold indexAddrV at hk
 simp only [bnd, lenL, nthI, tN] at hk
 split at hk
 · rename_i k n z hi hz
   rw [hi] at ri
   have ei := int_ok ri
   obtain ⟨e, inf, hu, hinf, hsz, _⟩ := elemSize_some hE hz
   split at hk
   · rename_i t' xs hx
     split at hk
     · rename_i hb
       have := Nat.eq_of_beq_eq_true hb
       subst this
       obtain ⟨⟨h0, h1⟩, hk⟩ := hk
       rw [hx] at r
       obtain ⟨_, ad, n', cap, he, hn, hc, hl, r⟩ := r
       simp only [List.cons.injEq, and_true] at he
       rcases r with rfl | ⟨b, off, rfl, hb, hX, r⟩
       · simp at h1; omega
       · have hlt : n.toNat < xs.length := by omega
         have hg : xs[n.toNat]? = some xs[n.toNat] := List.getElem?_eq_getElem hlt
         obtain ⟨cells, hc1, hc2⟩ := r _ _ hg
         refine .lit (v := .pc (cellsOf t' xs[n.toNat])) (fun w => ?_) ⟨b, off + n.toNat * t'.size, rfl, hb, fun ho => hX.2 ho, cells, hc1, cellsOf_ok (fun b hb => hb) hc2⟩ (hk _ hg)
         simp [execOp, ho, he, ei, run_indexAt' hu hinf hsz (b := b) (off := off) (len := n') (cap := cap) h0 (by omega)]
     · cases hk
   · rename_i ob hx
     split at hk
     · rename_i t' xs fx hh
       split at hk
       · rename_i hb
         have := Nat.eq_of_beq_eq_true hb
         subst this
         obtain ⟨⟨h0, h1⟩, hk⟩ := hk
         rw [hx] at r
         obtain ⟨hn, hv, _⟩ := r
         obtain ⟨b, n', cap, hm, hn', hc, h0c⟩ := arr_block (h.heap ob _ hh).2 (k := n.toNat) (by omega)
         refine .lit (v := .pe ob t'.size n.toNat 0) (val := .pointer (some ⟨b, n.toNat * t'.size, none⟩)) (fun w => ?_) ⟨hn, b, n', cap, hm, h0c, by simp⟩ hk
         rw [hm] at hv
         have := run_indexAt' (w := w) hu hinf hsz (b := b) (off := 0) (len := n') (cap := cap) (k := k) h0 (by omega)
         simp only [Nat.zero_add] at this
         simp [execOp, ho, hv, ei, this]
       · cases hk
     · cases hk
   · rename_i ob sz lo hi' hx
     split at hk
     · rename_i t' xs fx hh
       split at hk
       · rename_i hb hb2
         have := Nat.eq_of_beq_eq_true hb
         subst this
         have := Nat.eq_of_beq_eq_true hb2
         subst this
         obtain ⟨⟨⟨h0, h1⟩, h2⟩, hk⟩ := hk
         rw [hx] at r
         obtain ⟨hn, ad, n', cap, ad', hm, hlo, hhi, hcp, had, hv⟩ := r
         obtain ⟨b, n'', cap', hm', hn', hc, h0c⟩ := arr_block (h.heap ob _ hh).2 (k := lo + n.toNat) (by omega)
         have hmm := hm.symm.trans hm'
         simp only [Value.slice.injEq] at hmm
         obtain ⟨e1, e2, e3⟩ := hmm
         subst e1 e3
         have had := had (by omega)
         subst had
         refine .lit (v := .pe ob t'.size (lo + n.toNat) 0) (val := .pointer (some ⟨b, (lo + n.toNat) * t'.size, none⟩)) (fun w => ?_) ⟨hn, b, n', cap, hm, h0c, by simp⟩ hk
         simp only [Option.map_some, addr_add] at hv
         have := run_indexAt' (w := w) hu hinf hsz (b := b) (off := 0 + lo * t'.size) (len := hi' - lo) (cap := cap - lo) (k := k) h0 h1
         simp [execOp, ho, hv, ei] 
         simp only [Nat.zero_add] at this
         rw [this]
         simp [Nat.add_mul]
       · cases hk
     · cases hk
   · cases hk
 · cases hk
theorem op_index (hE : EnvOK P G.E) (h : Holds G s a w m) {t : Nat} {x i : Operand} (ho : o.op = .index t x i) {l : List UInt8} (hx : s.eval x = .d .str l) {k : IntKind} {n : Int} (hi : s.eval i = .d (.int k) n)
   (ht : G.E.ty t = some .str) (hk : bnd n (lenL l) /\ ∀ c, nthI l n = some c -> K (.d (.int .u8) (c.toNat : Int)) []) : OkP P G s a w m o K := by
 have r := eval_ok h x
 have ri := eval_ok h i
 rw [hx] at r
 rw [hi] at ri
 obtain ⟨er, _⟩ := str_ok r
 have ei := int_ok ri
 simp only [bnd, lenL, nthI] at hk
 obtain ⟨⟨h0, h1⟩, hk⟩ := hk
 have hlt : n.toNat < l.length := by omega
 have hg : l[n.toNat]? = some l[n.toNat] := List.getElem?_eq_getElem hlt
 refine .lit (v := .d (.int .u8) (l[n.toNat].toNat : Int)) (val := .int .u8 (l[n.toNat].toNat : Int)) (fun w => ?_) (mk_int .u8 _) (hk _ hg)
 have := run_index_string (P := P) w t ⟨l.toArray⟩ k n (ty_str hE ht)
 rw [dif_pos ⟨h0, by simpa [ByteArray.size] using h1⟩] at this
 simp only [execOp, ho, er, ei, Sem.run_bind, this, Result.andThen_ok, Sem.run_pure]
 rfl
theorem op_len (hE : EnvOK P G.E) (h : Holds G s a w m) {t : Nat} {x : Operand} {ts : Array TypeId} {xs : Array Operand} (ho : o.op = .call { callee := .builtin .len, args := xs, argTypes := ts }) (hxs : xs.toList = [x]) (hts : ts.toList = [t])
   (hk : lenV G.E s.heap t (s.eval x) fun v => K v []) : OkP P G s a w m o K := by
 have r := eval_ok h x
 obtain rfl : xs = #[x] := by cases xs; simp at hxs; rw [hxs]
 obtain rfl : ts = #[t] := by cases ts; simp at hts; rw [hts]
 have run : ∀ {v : Value} {n : Nat}, (∀ w, (Builtin.len_ #[t] o.type #[v]).run P w = .ok (goInt n) w) -> a.eval x = v -> ∀ w, (execOp a.eval o).run P w = .ok (.value (.int .i64 n)) w := fun {v n} hr hv w => by
   have : execOp a.eval o = (do pure (Next.value (<- Builtin.len_ #[t] o.type #[a.eval x]))) := by simp [execOp, ho, resolve, invoke, builtin]
   rw [this, hv, Sem.run_bind, hr]
   rfl
 unfold lenV at hk
 simp only [lenL, iOf, fits] at hk
 split at hk
 · rename_i l hx ht
   rw [hx] at r
   obtain ⟨er, hl⟩ := str_ok r
   have := fun w => run_len_string (P := P) w t o.type ⟨l.toArray⟩ (ty_str hE ht)
   exact .lit (run this er) (mk_int _ _) (hk hl)
 · rename_i T l z hx hz
   obtain ⟨e, inf, hu, hinf, hsz, _⟩ := elemSize_some hE hz
   rw [hx] at r
   obtain ⟨_, ad, n, cap, he, hn, hc, hl, r⟩ := r
   simp only [List.cons.injEq, and_true] at he
   subst hn
   have := fun w => run_len_slice (P := P) w t o.type ad (List.length l) cap (by rw [hu]; simp [Program.elem, hu])
   exact .lit (run this he) (mk_int _ _) (hk hl)
 · rename_i i z hx hz
   obtain ⟨e, inf, hu, hinf, hsz, _⟩ := elemSize_some hE hz
   split at hk
   · rename_i T l f hh
     rw [hx] at r
     obtain ⟨ad, n, cap, hm, hn, hc, hl, _⟩ := (h.heap _ _ hh).2
     have he := r.2.1
     rw [hm] at he
     subst hn
     have := fun w => run_len_slice (P := P) w t o.type ad (List.length l) cap (by rw [hu]; simp [Program.elem, hu])
     exact .lit (run this he) (mk_int _ _) (hk hl)
   · cases hk
 · rename_i i z hx hz
   obtain ⟨e, inf, hu, hinf, hsz, _⟩ := elemSize_some hE hz
   split at hk
   · rename_i T l hh
     rw [hx] at r
     obtain ⟨hd, hs, e1, ⟨hd', hs', e2, e3, ad, n, cap, e4, hn, hc, hl, _⟩, _⟩ := (h.heap _ _ hh).2
     obtain ⟨_, r1, e5, _⟩ := r
     have e6 := e1.symm.trans e5
     simp only [Value.tuple.injEq, List.toArray_eq_iff, List.toList_toArray, List.cons.injEq] at e6
     simp only [List.cons.injEq, and_true] at e2
     subst hn
     have he : a.eval x = .slice ad (List.length l) cap := by rw [<- e6.1, e2, e4]
     have := fun w => run_len_slice (P := P) w t o.type ad (List.length l) cap (by rw [hu]; simp [Program.elem, hu])
     exact .lit (run this he) (mk_int _ _) (hk hl)
   · cases hk
 · rename_i i sz lo hi z hx hz
   obtain ⟨e, inf, hu, hinf, hsz, _⟩ := elemSize_some hE hz
   rw [hx] at r
   obtain ⟨hn, ad, n, cap, ad', hm, h1, h2, h3, h4, hv⟩ := r
   have := fun w => run_len_slice (P := P) w t o.type ad' (hi - lo) (cap - lo) (by rw [hu]; simp [Program.elem, hu])
   exact .lit (run this hv) (mk_int _ _) hk
 · rename_i b z hx hz
   obtain ⟨e, inf, hu, hinf, hsz, _⟩ := elemSize_some hE hz
   rw [hx] at r
   obtain ⟨ad, hv, _⟩ := r
   have := fun w => run_len_slice (P := P) w t o.type ad 0 0 (by rw [hu]; simp [Program.elem, hu])
   exact .lit (run this hv) (mk_int _ _) hk
 · cases hk
theorem op_slice (hE : EnvOK P G.E) (h : Holds G s a w m) {t : Nat} {x : Operand} {lo hi : Option Operand} (ho : o.op = .slice t x lo hi none) (hk : sliceV G.E s.heap t (s.eval x) (lo.map s.eval) (hi.map s.eval) fun v => K v []) : OkP P G s a w m o K := by
 have r := eval_ok h x
 have run : ∀ {val : Value}, (∀ w, (Instr.sliceAt t (a.eval x) (lo.map a.eval) (hi.map a.eval) none).run P w = .ok val w) -> ∀ w, (execOp a.eval o).run P w = .ok (.value val) w := fun {val} hr w => by
   have : execOp a.eval o = (do pure (Next.value (<- Instr.sliceAt t (a.eval x) (lo.map a.eval) (hi.map a.eval) none))) := by simp [execOp, ho]
   rw [this, Sem.run_bind, hr]
   rfl
 have mp : ∀ {y : Option Operand} {v : AV}, y.map s.eval = some v -> ∃ z, y = some z /\ s.eval z = v := fun {y v} hy => by
   cases y with
   | none => cases hy
   | some z => exact ⟨z, rfl, Option.some.inj hy⟩
 have mn : ∀ {y : Option Operand}, y.map s.eval = none -> y = none := fun {y} hy => by
   cases y with
   | none => rfl
   | some z => cases hy
 have bounds : ∀ {len : Nat} {k : Nat -> Nat -> Prop}, sliceV.go (lo.map s.eval) (hi.map s.eval) len k -> ∀ cap, len <= cap -> ∀ b, ∃ l u, l <= u /\ u <= len /\ k l u /\
     ∀ w, (Instr.sliceBounds b len cap (lo.map a.eval) (hi.map a.eval) none).run P w = .ok (l, u, cap) w := by
   intro len k hg cap hcap b
   unfold sliceV.go at hg
   simp only [boundLo, boundLH, tN] at hg
   split at hg
   · rename_i e1 e2
     rw [mn e1, mn e2]
     exact ⟨0, len, by omega, by omega, hg, fun w => by simp [Instr.sliceBounds]⟩
   · rename_i kk l e1 e2
     obtain ⟨z, rfl, hz⟩ := mp e1
     rw [mn e2]
     have rl := eval_ok h z
     rw [hz] at rl
     have el := int_ok rl
     obtain ⟨⟨h0, h1⟩, hg⟩ := hg
     exact ⟨Int.toNat l, len, by omega, by omega, hg, fun w => by simp [Instr.sliceBounds, el, run_sliceBound w _ l len _ h0 h1]⟩
   · rename_i kk u e1 e2
     rw [mn e1]
     obtain ⟨z, rfl, hz⟩ := mp e2
     have rl := eval_ok h z
     rw [hz] at rl
     have el := int_ok rl
     obtain ⟨⟨h0, h1⟩, hg⟩ := hg
     exact ⟨0, Int.toNat u, by omega, by omega, hg, fun w => by simp [Instr.sliceBounds, el, run_sliceBound w _ u cap _ h0 (by omega)]⟩
   · rename_i kl l ku u e1 e2
     obtain ⟨z, rfl, hz⟩ := mp e1
     obtain ⟨y, rfl, hy⟩ := mp e2
     have rl := eval_ok h z
     rw [hz] at rl
     have el := int_ok rl
     have rh := eval_ok h y
     rw [hy] at rh
     have eh := int_ok rh
     obtain ⟨⟨h0, h1, h2⟩, hg⟩ := hg
     have e3 : ((Int.toNat u : Nat) : Int) = u := Int.toNat_of_nonneg (Int.le_trans h0 h1)
     exact ⟨Int.toNat l, Int.toNat u, by omega, by omega, hg, fun w => by
       simp [Instr.sliceBounds, el, eh, run_sliceBound w _ u cap _ (Int.le_trans h0 h1) (by omega), run_sliceBound w _ l (Int.toNat u) _ h0 (by rw [e3]; exact h1)]⟩
   · cases hg
 have sl : ∀ {e : TypeId} {inf : TypeInfo} {z : Nat} {ad : Option Addr} {len cap l u : Nat}, P.underlying t = some (.slice e) -> P.info? e = some inf -> inf.size = z -> a.eval x = .slice ad len cap ->
     (∀ w, (Instr.sliceBounds true len cap (lo.map a.eval) (hi.map a.eval) none).run P w = .ok (l, u, cap) w) ->
     ∀ w, (execOp a.eval o).run P w = .ok (.value (.slice (if cap = l then ad else ad.map (·.add (l * z))) (u - l) (cap - l))) w := by
   intro e inf z ad len cap l u hu hinf hz hv hb
   refine run (fun w => ?_)
   rw [hv]
   simp [Instr.sliceAt, run_underlying hu, Instr.slice, hb, sizeOf, typeInfo, hinf, hz]
 unfold sliceV at hk
 simp only [lenL, subL] at hk
 split at hk
 · rename_i l hx
   split at hk
   · rename_i ht
     rw [hx] at r
     obtain ⟨er, hl⟩ := str_ok r
     obtain ⟨p, q, h1, h2, hk, hb⟩ := bounds hk _ (Nat.le_refl _) false
     have hu := ty_str hE ht
     refine .lit (v := .d .str ((List.take q l).drop p)) (val := .string ⟨((List.take q l).drop p).toArray⟩) (run (fun w => ?_)) (mk_str (by simp; omega)) hk
     rw [er]
     have es : (ByteArray.mk (List.toArray l)).size = List.length l := by simp [ByteArray.size]
     simp only [Instr.sliceAt, Sem.run_bind, run_underlying hu, Result.andThen_ok, Instr.slice, Option.isSome_none, Bool.false_eq_true, if_false, es, hb, Sem.run_pure, ByteArray.extract_mk]
     congr 4
     rw [List.drop_take]
   · cases hk
 · rename_i T xs z hx hz
   obtain ⟨e, inf, hu, hinf, hsz, _⟩ := elemSize_some hE hz
   split at hk
   · rename_i hb
     have := Nat.eq_of_beq_eq_true hb
     subst this
     rw [hx] at r
     have rr := r.2
     obtain ⟨_, ad, n, cap, he, hn, hc, hl, _⟩ := r
     simp only [List.cons.injEq, and_true] at he
     obtain ⟨p, q, h1, h2, hk, hbd⟩ := bounds hk cap (by omega) true
     rw [hn] at he hc
     rw [he] at rr
     exact .lit (v := .d (.slice T) ((List.take q xs).drop p)) (sl hu hinf hsz he hbd) ⟨rfl, rep_sub rr h1 h2 (fun hc => by rw [if_neg hc])⟩ hk
   · cases hk
 · rename_i i z hx hz
   obtain ⟨e, inf, hu, hinf, hsz, _⟩ := elemSize_some hE hz
   split at hk
   · rename_i T xs f hh
     split at hk
     · rename_i hb
       have := Nat.eq_of_beq_eq_true hb
       subst this
       rw [hx] at r
       obtain ⟨ad, n, cap, hm, hn, hc, hl, _⟩ := (h.heap _ _ hh).2
       have he := r.2.1
       rw [hm] at he
       obtain ⟨p, q, h1, h2, hk, hbd⟩ := bounds hk cap (by omega) true
       rw [<- hn] at hbd h2
       exact .lit (v := .oss i T.size p q) (sl hu hinf hsz he hbd) ⟨r.1, ad, n, cap, _, hm, h1, h2, hc, (fun hc => by rw [if_neg hc]), rfl⟩ hk
     · cases hk
   · cases hk
 · rename_i i sz lo' hi' z hx hz
   obtain ⟨e, inf, hu, hinf, hsz, _⟩ := elemSize_some hE hz
   split at hk
   · rename_i hb
     have := Nat.eq_of_beq_eq_true hb
     subst this
     rw [hx] at r
     obtain ⟨hn, ad, n, cap, ad', hm, h1, h2, h3, hA, hv⟩ := r
     obtain ⟨p, q, h4, h5, hk, hbd⟩ := bounds hk (cap - lo') (by omega) true
     refine .lit (v := .oss i z (lo' + p) (lo' + q)) (sl hu hinf hsz hv hbd) ⟨hn, ad, n, cap, _, hm, by omega, by omega, h3, fun hc => ?_, by rw [show lo' + q - (lo' + p) = q - p by omega, show cap - (lo' + p) = cap - lo' - p by omega]⟩ hk
     rw [if_neg (by omega), hA (by omega)]
     cases ad with
     | none => rfl
     | some ad =>
       simp only [Option.map_some, Option.some.injEq]
       unfold Addr.add
       split <;> split <;> simp_all [Nat.add_mul, Nat.add_assoc]
   · cases hk
 · rename_i b z hx hz
   obtain ⟨e, inf, hu, hinf, hsz, _⟩ := elemSize_some hE hz
   rw [hx] at r
   obtain ⟨ad, hv, hn⟩ := r
   obtain ⟨p, q, h1, h2, hk, hbd⟩ := bounds hk 0 (Nat.le_refl _) true
   have hp : p = 0 := by omega
   have hq : q = 0 := by omega
   subst hp hq
   exact .lit (v := .emp b) (val := .slice ad 0 0) (fun w => by have := sl hu hinf hsz hv hbd w; simpa using this) ⟨ad, rfl, hn⟩ hk
 · cases hk
end Go.Ab


namespace Go.Ab
variable {P : Program} {G : Ctx} {s : St} {a : Act} {w : World} {m : Nat -> Value} {o : Oper} {K : K1} {O : Nat -> Prop}
theorem exec_bin {op : BinOp} {t u : TypeId} {x y : Operand} (ho : o.op = .binOp op t x y u) {v : Value} (hg : (eqGuard op t x y (a.eval x) (a.eval y)).run P w = .ok () w) (hb : (Go.binOp op t (a.eval x) (a.eval y)).run P w = .ok v w) :
   (execOp a.eval o).run P w = .ok (.value v) w := by
 have : execOp a.eval o = (do pure (Next.value (<- (do eqGuard op t x y (a.eval x) (a.eval y); Go.binOp op t (a.eval x) (a.eval y))))) := by simp [execOp, ho]
 rw [this, Sem.run_bind, Sem.run_bind, hg, Result.andThen_ok, hb]
 rfl
theorem beqB (a b : List UInt8) : ((⟨a.toArray⟩ : ByteArray).toList == (⟨b.toArray⟩ : ByteArray).toList) = (a == b) := by
 simp
theorem eqCells_ok {c : RC} (w : World) : ∀ {ts : List Ty} {l r : List AV} {vs us : List Value} {z : Bool}, eqCells ts l r = some z -> VRelL c l vs -> VRelL c r us ->
   ∀ (fs : List Field) (i d : Nat) (pre pre' : List Value), eqFieldsOK c.P i ts fs = true -> pre.length = i -> pre'.length = i ->
     (Op.eqFields (d + 1) (pre ++ vs).toArray (pre' ++ us).toArray fs).run c.P w = .ok z w := by
 intro ts
 induction ts with
 | nil =>
   intro l r vs us z hz hl hr fs i d pre pre' hf _ _
   cases fs with
   | nil =>
     cases l <;> cases r <;> simp [eqCells] at hz
     subst hz
     simp [Op.eqFields]
   | cons f fs => simp [eqFieldsOK] at hf
 | cons t ts ih =>
   intro l r vs us z hz hl hr fs i d pre pre' hf hp hp'
   cases fs with
   | nil => simp [eqFieldsOK] at hf
   | cons f fs =>
     simp only [eqFieldsOK, Bool.and_eq_true, Bool.not_eq_true'] at hf
     obtain ⟨⟨⟨h1, h2⟩, h3⟩, h4⟩ := hf
     have hoff := Nat.eq_of_beq_eq_true h1
     have hname : f.name ≠ "_" := by simpa using h2
     have key : ∃ x l' y r' b z' D, l = x :: l' /\ r = y :: r' /\ z = (b && z') /\ eqCells ts l' r' = some z' /\ c.P.underlying f.type = some D /\ isAggD D = false /\
         ∀ v u, VRel c x v -> VRel c y u -> (Op.equalIn (d + 1) f.type v u).run c.P w = .ok b w := by
       cases l with
       | nil => cases t <;> simp [eqCells] at hz
       | cons x l' =>
         cases r with
         | nil => cases t <;> cases x <;> first | (simp [eqCells] at hz; done) | (rename_i T _; cases T <;> simp [eqCells] at hz)
         | cons y r' =>
           cases hD : c.P.underlying f.type with
           | none => rw [hD] at h3; cases t <;> simp at h3
           | some D =>
             rw [hD] at h3
             cases t with
             | int k =>
               cases D <;> simp at h3
               rename_i k'
               subst h3
               cases x <;> first | (simp [eqCells] at hz; done) | skip
               rename_i T av
               cases T <;> first | (simp [eqCells] at hz; done) | skip
               rename_i k1
               cases y <;> first | (simp [eqCells] at hz; done) | skip
               rename_i T2 bv
               cases T2 <;> first | (simp [eqCells] at hz; done) | skip
               rename_i k2
               simp only [eqCells] at hz
               split at hz
               · rename_i z' e1 e2 hz'
                 cases hz
                 have e1' : k = k1 := by simpa using e1
                 have e2' : k = k2 := by simpa using e2
                 subst e1' e2'
                 refine ⟨_, _, _, _, _, z', _, rfl, rfl, rfl, hz', rfl, rfl, fun v u rv ru => ?_⟩
                 rw [int_ok rv, int_ok ru]
                 exact run_equalIn_int w d f.type _ _ av bv hD
               · cases hz
             | bool =>
               cases D <;> simp at h3
               simp only [eqCells] at hz
               split at hz
               · rename_i av bv z' ha hb hz'
                 cases hz
                 refine ⟨_, _, _, _, _, z', _, rfl, rfl, rfl, hz', rfl, rfl, fun v u rv ru => ?_⟩
                 rw [bool_ok ha rv, bool_ok hb ru]
                 exact run_equalIn_bool' w d f.type av bv hD
               · cases hz
             | str =>
               cases D <;> simp at h3
               cases x <;> first | (simp [eqCells] at hz; done) | skip
               rename_i T av
               cases T <;> first | (simp [eqCells] at hz; done) | skip
               cases y <;> first | (simp [eqCells] at hz; done) | skip
               rename_i T2 bv
               cases T2 <;> first | (simp [eqCells] at hz; done) | skip
               simp only [eqCells] at hz
               split at hz
               · rename_i z' hz'
                 cases hz
                 refine ⟨_, _, _, _, _, z', _, rfl, rfl, rfl, hz', rfl, rfl, fun v u rv ru => ?_⟩
                 rw [(str_ok rv).1, (str_ok ru).1]
                 have := run_equalIn_string (P := c.P) w d f.type ⟨av.toArray⟩ ⟨bv.toArray⟩ hD
                 rw [beqB] at this
                 exact this
               · cases hz
             | any => cases D <;> simp at h3
             | unit => cases D <;> simp at h3
             | err => cases D <;> simp at h3
             | pair => cases D <;> simp at h3
             | slice => cases D <;> simp at h3
     obtain ⟨x, l', y, r', b, z', D, rfl, rfl, rfl, hz', hD, hA, hrun⟩ := key
     simp only [VRelL] at hl hr
     obtain ⟨v, vs, rfl, rx, hl⟩ := hl
     obtain ⟨u, us, rfl, ry, hr⟩ := hr
     have hrun := hrun v u rx ry
     have g1 : (pre ++ v :: vs).toArray[f.offset]? = some v := by rw [hoff]; simp [<- hp]
     have g2 : (pre' ++ u :: us).toArray[f.offset]? = some u := by rw [hoff]; simp [<- hp']
     have hagg : (isAgg f.type).run c.P w = .ok false w := by
       cases D <;> simp_all [isAgg, run_underlying hD, isAggD]
     have pv : (part f.type (pre ++ v :: vs).toArray f.offset).run c.P w = .ok v w := by
       simp only [part, Sem.run_bind, hagg, Result.andThen_ok, Bool.false_eq_true, if_false, g1, Sem.run_pure]
     have pu : (part f.type (pre' ++ u :: us).toArray f.offset).run c.P w = .ok u w := by
       simp only [part, Sem.run_bind, hagg, Result.andThen_ok, Bool.false_eq_true, if_false, g2, Sem.run_pure]
     simp only [Op.eqFields, if_pos hname, Sem.run_bind, pv, pu, Result.andThen_ok, hrun]
     cases b with
     | false => simp
     | true =>
       have := ih hz' hl hr fs (i + 1) d (pre ++ [v]) (pre' ++ [u]) h4 (by simp [hp]) (by simp [hp'])
       simpa using this
theorem cmpInt_ok {op : BinOp} {k : IntKind} {x y : Int} {r : Bool} {t : TypeId} (h : cmpInt op x y = some r) : (Go.binOp op t (.int k x) (.int k y)).run P w = .ok (.bool r) w := by
 cases op <;> simp only [cmpInt, Option.some.injEq, reduceCtorEq] at h <;> subst h <;> simp [Go.binOp, Op.intCmp]
theorem cmpStr_ok {op : BinOp} {x y : List UInt8} {r : Bool} {t : TypeId} (h : cmpStr op x y = some r) : (Go.binOp op t (.string ⟨x.toArray⟩) (.string ⟨y.toArray⟩)).run P w = .ok (.bool r) w := by
 cases op <;> simp only [cmpStr, Option.some.injEq, reduceCtorEq] at h <;> subst h <;> simp [Go.binOp, Op.stringOp]
theorem op_bin (hP : G.P = P) (hE : EnvOK P G.E) (h : Holds G s a w m) {op : BinOp} {t u : TypeId} {x y : Operand} (ho : o.op = .binOp op t x y u) (hk : binOpV G.E t op (s.eval x) (s.eval y) fun v => K v []) : OkP P G s a w m o K := by
 have rx := eval_ok h x
 have ry := eval_ok h y
 unfold binOpV at hk
 split at hk
 ·
   rename_i k xa k' ya hx hy
   rw [hx] at rx
   rw [hy] at ry
   have ex := int_ok rx
   have ey := int_ok ry
   have hg : ∀ w, (eqGuard op t x y (a.eval x) (a.eval y)).run P w = .ok () w := fun w => by rw [ex, eqGuard_at_int]; rfl
   split at hk
   · obtain ⟨h0, hk⟩ := hk
     refine .lit (fun w => exec_bin ho (hg w) ?_) (mk_int _ _) hk
     rw [ex, ey, binOp_shl, shift_shl_any k k' xa ya h0]
     rfl
   · obtain ⟨h0, hk⟩ := hk
     refine .lit (fun w => exec_bin ho (hg w) ?_) (mk_int _ _) hk
     rw [ex, ey, binOp_shr, shift_shr_any k k' xa ya h0]
     rfl
   · split at hk
     · cases hk
     · rename_i hkk
       have : k = k' := by simpa using hkk
       subst this
       split at hk
       · exact .lit (fun w => exec_bin ho (hg w) (by rw [ex, ey]; simp [Go.binOp, Op.intArith]; rfl)) (mk_int _ _) hk
       · exact .lit (fun w => exec_bin ho (hg w) (by rw [ex, ey]; simp [Go.binOp, Op.intArith]; rfl)) (mk_int _ _) hk
       · exact .lit (fun w => exec_bin ho (hg w) (by rw [ex, ey]; simp [Go.binOp, Op.intArith]; rfl)) (mk_int _ _) hk
       · obtain ⟨hz, hk⟩ := hk
         simp only [nz] at hz
         exact .lit (fun w => exec_bin ho (hg w) (by rw [ex, ey]; simp [Go.binOp, Op.intDiv, hz]; rfl)) (mk_int _ _) hk
       · obtain ⟨hz, hk⟩ := hk
         simp only [nz] at hz
         exact .lit (fun w => exec_bin ho (hg w) (by rw [ex, ey]; simp [Go.binOp, Op.intDiv, hz]; rfl)) (mk_int _ _) hk
       · exact .lit (fun w => exec_bin ho (hg w) (by rw [ex, ey]; simp [Go.binOp, Op.intBits]; rfl)) (mk_int _ _) hk
       · exact .lit (fun w => exec_bin ho (hg w) (by rw [ex, ey]; simp [Go.binOp, Op.intBits]; rfl)) (mk_int _ _) hk
       · exact .lit (fun w => exec_bin ho (hg w) (by rw [ex, ey]; simp [Go.binOp, Op.intBits]; rfl)) (mk_int _ _) hk
       · split at hk
         · rename_i r hr
           exact .lit (fun w => exec_bin ho (hg w) (by rw [ex, ey]; exact cmpInt_ok hr)) (mk_bool _) hk
         · cases hk
 ·
   rename_i xa ya hx hy
   rw [hx] at rx
   rw [hy] at ry
   obtain ⟨ex, lx⟩ := str_ok rx
   obtain ⟨ey, ly⟩ := str_ok ry
   have hg : ∀ w, (eqGuard op t x y (a.eval x) (a.eval y)).run P w = .ok () w := fun w => by rw [ex, eqGuard_at_string]; rfl
   split at hk
   · obtain ⟨hf, hk⟩ := hk
     simp only [fits, lenL] at hf
     refine .lit (v := .d .str (catS xa ya)) (fun w => exec_bin ho (hg w) ?_) (mk_str (by simp only [catS, List.length_append]; exact hf)) hk
     rw [ex, ey, binOp_string_add, run_string_add_sum w _ _ (by simp [ByteArray.size]; omega), ByteArray.mk_append_mk]
     rfl
   · split at hk
     · rename_i r hr
       exact .lit (fun w => exec_bin ho (hg w) (by rw [ex, ey]; exact cmpStr_ok hr)) (mk_bool _) hk
     · cases hk
 ·
   rename_i l r hx hy
   rw [hx] at rx
   rw [hy] at ry
   obtain ⟨vs, ex, hl⟩ := rx
   obtain ⟨us, ey, hr⟩ := ry
   have main : ∀ z, eqCells (((G.E.ty t).map Ty.leaves).getD []) l r = some z -> (G.E.ti t).map (fun i => i.eq) = some true ->
       (∀ w, (eqGuard op t x y (a.eval x) (a.eval y)).run P w = .ok () w) /\ ∀ w, (Op.equalIn 10000 t (.agg vs.toArray) (.agg us.toArray)).run P w = .ok z w := by
     intro z hz heq
     cases hi : G.E.ti t with
     | none => rw [hi] at heq; cases heq
     | some i =>
       rw [hi] at heq
       simp only [Option.map_some, Option.some.injEq] at heq
       obtain ⟨inf, d, T⟩ := hE.ti hi
       obtain ⟨fields, rfl, h1, h2, h3⟩ := T.eq heq
       have ht : (G.E.ty t) = i.ty := by simp [Env.ty, hi]
       rw [ht] at hz
       have hf : P.underlying t = some (.struct (P.fieldsOf t)) := by rw [T.desc]; simp [Program.fieldsOf, T.desc]
       have hff : P.fieldsOf t = fields := by simp [Program.fieldsOf, T.desc]
       refine ⟨fun w => by rw [ex, ey]; exact run_eqGuard_agg w op t x y _ _ h2, fun w' => ?_⟩
       rw [run_equalIn_agg w' 9999 t _ _ hf h1, hff]
       have := eqCells_ok (c := G.rc s.objs m w) w' hz hl hr fields.toList 0 9998 [] [] (by simpa [Ctx.rc, hP] using h3) rfl rfl
       simpa [Ctx.rc, hP] using this
   split at hk
   · rename_i z hz heq
     obtain ⟨g1, g2⟩ := main z hz heq
     exact .lit (fun w => exec_bin ho (g1 w) (by rw [ex, ey, run_eql_struct, g2]; rfl)) (mk_bool _) hk
   · rename_i z hz heq
     obtain ⟨g1, g2⟩ := main z hz heq
     exact .lit (fun w => exec_bin ho (g1 w) (by rw [ex, ey, run_neq_struct, g2]; rfl)) (mk_bool _) hk
   · cases hk
 ·
   rename_i b hx hy
   rw [hx] at rx
   rw [hy] at ry
   obtain ⟨ad, ex, hn⟩ := rx
   obtain ⟨ad', ey, hn'⟩ := ry
   have : ad' = none := by cases ad' <;> simp_all
   subst this
   have hg : ∀ w, (eqGuard op t x y (a.eval x) (a.eval y)).run P w = .ok () w := fun w => by rw [ex, eqGuard_at_slice]; rfl
   split at hk
   · rename_i z hz
     obtain ⟨e, inf, hu, _⟩ := elemSize_some hE hz
     refine .lit (v := .lb b) (val := .bool b) (fun w => exec_bin ho (hg w) ?_) rfl hk
     rw [ex, ey, <- hn]
     simp only [Go.binOp]
     simp [run_equal_slice_nil w t e ad _ _ hu]
   · rename_i z hz
     obtain ⟨e, inf, hu, _⟩ := elemSize_some hE hz
     refine .lit (v := .lb (!b)) (val := .bool (!b)) (fun w => exec_bin ho (hg w) ?_) rfl hk
     rw [ex, ey, <- hn]
     simp only [Go.binOp]
     simp [run_equal_slice_nil w t e ad _ _ hu]
   · cases hk
 ·
   rename_i T xs hx hy
   rw [hx] at rx
   rw [hy] at ry
   obtain ⟨_, ad, n, cap, ex, hn, hc, hl, hr⟩ := rx
   simp only [List.cons.injEq, and_true] at ex
   obtain ⟨ad', ey, hn'⟩ := ry
   have : ad' = none := by cases ad' <;> simp_all
   subst this
   have hg : ∀ w, (eqGuard op t x y (a.eval x) (a.eval y)).run P w = .ok () w := fun w => by rw [ex, eqGuard_at_slice]; rfl
   have hemp : ad.isNone = true -> xs = [] := by
     intro hh
     rcases hr with hr | ⟨b, off, rfl, _⟩
     · exact hr
     · cases hh
   split at hk
   · rename_i z hz
     obtain ⟨e, inf, hu, _⟩ := elemSize_some hE hz
     refine .lit (v := .d .bool ad.isNone) (val := .bool ad.isNone) (fun w => exec_bin ho (hg w) ?_) (mk_bool _) (hk _ hemp)
     rw [ex, ey]
     simp only [Go.binOp]
     simp [run_equal_slice_nil w t e ad _ _ hu]
   · rename_i z hz
     obtain ⟨e, inf, hu, _⟩ := elemSize_some hE hz
     refine .lit (v := .d .bool (!ad.isNone)) (val := .bool (!ad.isNone)) (fun w => exec_bin ho (hg w) ?_) (mk_bool _) (hk _ hemp)
     rw [ex, ey]
     simp only [Go.binOp]
     simp [run_equal_slice_nil w t e ad _ _ hu]
   · cases hk
 ·
   split at hk
   · rename_i xa ya hx hy
     have ex := bool_ok hx rx
     have ey := bool_ok hy ry
     have hg : ∀ w, (eqGuard op t x y (a.eval x) (a.eval y)).run P w = .ok () w := fun w => by rw [ex, eqGuard_at_bool]; rfl
     split at hk
     · rename_i ht
       exact .lit (fun w => exec_bin ho (hg w) (by rw [ex, ey]; exact run_eql_bool w t _ _ (ty_bool hE ht))) (mk_bool _) hk
     · rename_i ht
       exact .lit (fun w => exec_bin ho (hg w) (by rw [ex, ey]; exact run_neq_bool w t _ _ (ty_bool hE ht))) (mk_bool _) hk
     · cases hk
   · cases hk
end Go.Ab


namespace Go.Ab
variable {P : Program} {G : Ctx} {s : St} {a : Act} {w : World} {m : Nat -> Value} {o : Oper} {K : K1} {O : Nat -> Prop}
theorem ty_bytes {E : Env} (hE : EnvOK P E) {t : Nat} (h : E.ty t = some (.slice (.int .u8))) : ∃ e, P.underlying t = some (.slice e) /\ P.underlying e = some (.int .u8) := by
 unfold Env.ty at h
 cases hi : E.ti t with
 | none => rw [hi] at h; cases h
 | some i =>
   rw [hi] at h
   obtain ⟨inf, d, T⟩ := hE.ti hi
   have := (T.ty _ h).2.1
   cases d <;> simp [tyOK] at this
   rename_i e
   split at this
   · rename_i U hU
     simp only [decide_eq_true_eq] at this
     subst this
     exact ⟨e, T.desc, ty_int hE hU⟩
   · cases this
theorem op_not (h : Holds G s a w m) {t : TypeId} {x : Operand} (ho : o.op = .unOp .not t x) {b : Bool} (hb : boolOf (s.eval x) = some b) {v : AV} (hv : v = .lb (!b) ∨ v = .d .bool (!b)) (hk : K v []) : OkP P G s a w m o K := by
 have e := bool_ok hb (eval_ok h x)
 refine .lit (v := v) (val := .bool !b) (fun w => by simp [execOp, ho, e, Op.unary]) ?_ hk
 rcases hv with rfl | rfl
 · rfl
 · exact mk_bool _
theorem op_neg (h : Holds G s a w m) {t : TypeId} {x : Operand} (ho : o.op = .unOp .neg t x) {k : IntKind} {n : Int} (hx : s.eval x = .d (.int k) n) (hk : K (.d (.int k) (wNeg k n)) []) : OkP P G s a w m o K := by
 have e := eval_ok h x
 rw [hx] at e
 exact .lit (fun w => by simp only [execOp, ho, int_ok e, Op.unary, Op.intArith]; rfl) (mk_int _ _) hk
theorem rep_u8 {E : Env} {X : Nat -> Prop} {n : Int} {cs : List Value} (h : Rep E X w (.int .u8) n cs) : cs = [.int .u8 n] := h
theorem op_convertL {O : Nat -> Prop} (hE : EnvOK P G.E) (h : Holds G s a w m) {src dst : TypeId} {x : Operand} (ho : o.op = .convert src dst x) (hpe : (∀ k n, s.eval x ≠ .d (.int k) n) -> ∀ b, ¬ O b) (hk : convertV G.E src dst s.heap (s.eval x) K) : OkL P G s a w m o O K := by
 have r := eval_ok h x
 unfold convertV at hk
 split at hk
 · rename_i k' k k2 n hs hd hx
   rw [hx] at r
   have hu := ty_int hE hs
   have hu' := ty_int hE hd
   have hkd : P.intKind dst = k := by simp [Program.intKind, hu']
   refine .lit (fun w' => ?_) (mk_int _ _) hk
   have := run_convert_int (P := P) w' src dst k2 n (by rw [hu]; rfl) (by rw [hkd]; exact hu')
   rw [hkd] at this
   simp only [execOp, ho, int_ok r, Sem.run_bind, this, Result.andThen_ok, Sem.run_pure]
 · rename_i b hs hd hx
   rw [hx] at r
   have hu := ty_str hE hs
   have hu' := ty_str hE hd
   obtain ⟨e, hl⟩ := str_ok r
   exact .lit (val := .string ⟨b.toArray⟩) (fun w' => by simp [execOp, ho, e, convert, run_underlying hu, run_underlying hu']) (mk_str hl) hk
 · rename_i b hs hd hx
   rw [hx] at r
   obtain ⟨ad, e, _⟩ := r
   obtain ⟨el, hu, he⟩ := ty_bytes hE hs
   have hu' := ty_str hE hd
   have hc : ∀ w', (convert src dst (.slice ad 0 0)).run P w' = .ok (.string ⟨#[]⟩) w' := by
     intro w'
     cases ad with
     | none => rw [run_convert_bytes_nil w' src el hu he 0 0 dst hu']; rfl
     | some ad =>
       rw [run_convert_bytes_string w' src dst el _ 0 0 hu he hu', run_bytesToString w' _ 0 0 [] (by simp [loadCells, loadCellsFrom])]
       rfl
   exact .lit (v := .d .str []) (fun w' => by simp only [execOp, ho, e, Sem.run_bind, hc, Result.andThen_ok, Sem.run_pure]) (mk_str (by decide)) hk
 · rename_i hs hd hne
   obtain ⟨el, hu, he⟩ := ty_bytes hE hs
   have hu' := ty_str hE hd
   split at hk
   · rename_i xs hx
     have hno : ∀ b, ¬ O b := hpe fun k n e => by rw [e] at hx; cases hx
     have hr := leafD_ok (c := G.rc s.objs m w) h.heap hx r
     obtain ⟨ad, n, cap, e, hn, hc, hl, hr⟩ := hr
     simp only [List.cons.injEq, and_true] at e
     have hcv : ∀ w', Keep O w w' -> (convert src dst (.slice ad n cap)).run P w' = .ok (.string (strOfNums xs)) w' := by
       intro w' hkp
       rcases hr with rfl | ⟨b, off, rfl, hb, hX, hr⟩
       · have hn0 : n = 0 := hn
         subst hn0
         cases ad with
         | none => rw [run_convert_bytes_nil w' src el hu he 0 cap dst hu']; rfl
         | some ad =>
           rw [run_convert_bytes_string w' src dst el _ 0 cap hu he hu', run_bytesToString w' _ 0 cap [] (by simp [loadCells, loadCellsFrom])]
           rfl
       · refine run_convert_bytes_arg w' src el hu he b off n cap xs hn.symm (fun i hi => ?_) dst hu'
         have hlt : i < xs.length := by omega
         obtain ⟨cells, hc1, hc2⟩ := hr i _ (List.getElem?_eq_getElem hlt)
         have hc2 := rep_u8 hc2
         subst hc2
         have := hc1 0 _ rfl
         simp only [Ty.size, Nat.mul_one, Nat.add_zero] at this
         simp only [Ctx.rc] at this
         rw [cell?_congr (hkp.block b hb (hno b)), this]
         simp [List.getD, List.getElem?_eq_getElem hlt]
     refine .litO (v := .d .str (xs.map fun n => UInt8.ofNat n.toNat)) (val := .string (strOfNums xs)) (fun w' hkp => by simp only [execOp, ho, e, Sem.run_bind, hcv w' hkp, Result.andThen_ok, Sem.run_pure]) (mk_str ?_) hk
     rw [List.length_map]
     exact hn ▸ hl
   · cases hk
 · cases hk
theorem op_convert (hE : EnvOK P G.E) (h : Holds G s a w m) {src dst : TypeId} {x : Operand} (ho : o.op = .convert src dst x) (hk : convertV G.E src dst s.heap (s.eval x) K) : Ok1 P G s a w m o K :=
 (op_convertL (O := fun _ => False) hE h ho (fun _ _ hf => hf) hk).ok1 h
theorem op_iface (hE : EnvOK P G.E) (h : Holds G s a w m) {t : TypeId} {x : Operand} (ho : o.op = .makeInterface t x) {u : Ty} (ht : G.E.ty t = some u) (hu : u = .bool ∨ u = .str ∨ ∃ k, u = .int k) (hk : K (.ifc t (s.eval x)) []) : OkP P G s a w m o K := by
 have : ∃ d, P.underlying t = some d /\ ∀ ms, d ≠ .interface ms := by
   rcases hu with rfl | rfl | ⟨k, rfl⟩
   · exact ⟨_, ty_bool hE ht, by simp⟩
   · exact ⟨_, ty_str hE ht, by simp⟩
   · exact ⟨_, ty_int hE ht, by simp⟩
 obtain ⟨d, hd, hn⟩ := this
 refine .lit (v := .ifc t (s.eval x)) (val := .iface t (a.eval x)) (fun w => ?_) ⟨_, rfl, eval_ok h x⟩ hk
 simp only [execOp, ho, Instr.makeInterface, Sem.run_bind, run_underlying hd, Result.andThen_ok]
 cases d <;> first | rfl | exact absurd rfl (hn _)
theorem evals_ok (h : Holds G s a w m) : ∀ (l : List Operand), VRelL (G.rc s.objs m w) (l.map s.eval) (l.map a.eval)
 | [] => rfl
 | x :: l => ⟨_, _, rfl, eval_ok h x, evals_ok h l⟩
theorem op_fn (h : Holds G s a w m) {f : Nat} {first captured : Array Operand} (ho : o.op = .makeFunc (.func f) first captured) (hf : first.toList = []) (hk : K (.fn f (captured.toList.map s.eval)) []) : OkP P G s a w m o K := by
 have hf' : first = #[] := by cases first; simp_all
 refine .lit (v := .fn f (captured.toList.map s.eval)) (val := .func (.func f) #[] (captured.toList.map a.eval).toArray) (fun w => ?_) ⟨_, rfl, evals_ok h _⟩ hk
 have e : captured.map a.eval = (captured.toList.map a.eval).toArray := by rw [<- Array.toList_map]
 simp [execOp, ho, Instr.makeFunc, hf', e]
theorem op_extract (h : Holds G s a w m) {t : Operand} {i : Nat} (ho : o.op = .extract t i) {l : List AV} (hl : s.eval t = .tup l) {v : AV} (hi : l[i]? = some v) (hk : K v []) : OkP P G s a w m o K := by
 have r := eval_ok h t
 rw [hl] at r
 obtain ⟨vs, e, r⟩ := r
 obtain ⟨u, hu, r⟩ := r.get i v hi
 refine .lit (val := u) (fun w => ?_) r hk
 simp [execOp, ho, e, Instr.extract, hu]
theorem op_nilCheck (h : Holds G s a w m) {x : Operand} (ho : o.op = .nilCheck x)
   (hx : (∃ i k, s.eval x = .p i k) ∨ (∃ cs, s.eval x = .pc cs) ∨ (∃ i n k f, s.eval x = .pe i n k f) ∨ (∃ as b p, s.eval x = .fp as b p) ∨ (∃ f l, s.eval x = .fn f l)) (hk : K (s.eval x) []) : OkP P G s a w m o K := by
 have r := eval_ok h x
 refine .lit (val := a.eval x) (fun w => ?_) r hk
 rcases hx with ⟨i, k, e⟩ | ⟨cs, e⟩ | ⟨i, n, k, f, e⟩ | ⟨as, b, p, e⟩ | ⟨f, l, e⟩ <;> rw [e] at r
 · obtain ⟨_, _, _, hv⟩ := r
   simp [execOp, ho, hv]
 · obtain ⟨_, _, hv, _⟩ := r
   simp [execOp, ho, hv]
 · obtain ⟨_, _, _, _, _, _, hv⟩ := r
   simp [execOp, ho, hv]
 · obtain ⟨_, _, _, _, hv, _⟩ := r
   simp [execOp, ho, hv]
 · obtain ⟨_, hv, _⟩ := r
   simp [execOp, ho, hv]
theorem any_iface (E : Env) (v : AnyV) : ∃ u y, anyVal E v = .iface u y /\ ((u = E.anyB /\ ∃ b, v = .b b /\ y = .bool b) ∨ (u = E.anyN /\ ∃ n, v = .n n /\ y = .int .i64 n) ∨ (u = E.anyS /\ ∃ s, v = .s s /\ y = .string ⟨s.toArray⟩)) := by
 cases v
 · exact ⟨_, _, rfl, .inl ⟨rfl, _, rfl, rfl⟩⟩
 · exact ⟨_, _, rfl, .inr (.inl ⟨rfl, _, rfl, rfl⟩)⟩
 · exact ⟨_, _, rfl, .inr (.inr ⟨rfl, _, rfl, rfl⟩)⟩
theorem run_assert {D : TypeDesc} {t xT u : TypeId} {y z : Value} (hD : P.underlying t = some D) (hi : ∀ ms, D ≠ .interface ms) (hz : (zeroValue t).run P w = .ok z w) :
   (Instr.typeAssert (.iface u y) xT t true).run P w = .ok (if u = t then .tuple #[y, .bool true] else .tuple #[z, .bool false]) w := by
 unfold Instr.typeAssert
 simp only [Sem.run_bind, run_underlying hD, Result.andThen_ok]
 cases D <;> first | exact absurd rfl (hi _) | skip
 all_goals (split <;> simp [hz])
theorem op_assert (hE : EnvOK P G.E) (h : Holds G s a w m) {x : Operand} {xT t : TypeId} (ho : o.op = .typeAssert x xT t true) {v : AnyV} (hx : s.eval x = .d .any v)
   (hk : (t = G.E.anyB /\ (∀ b, v = .b b -> K (.tup [.d .bool b, .lb true]) []) /\ ((∀ b, v ≠ .b b) -> K (.tup [.lb false, .lb false]) [])) ∨
     (t = G.E.anyN /\ (∀ n, v = .n n -> K (.tup [.d (.int .i64) n, .lb true]) []) /\ ((∀ n, v ≠ .n n) -> K (.tup [.d (.int .i64) 0, .lb false]) [])) ∨
     (t = G.E.anyS /\ (∀ b, v = .s b -> K (.tup [.d .str b, .lb true]) []) /\ ((∀ b, v ≠ .s b) -> K (.tup [.d .str [], .lb false]) []))) : OkP P G s a w m o K := by
 have r := eval_ok h x
 rw [hx] at r
 obtain ⟨_, r, hsm⟩ := r
 simp only [List.cons.injEq, and_true] at r
 obtain ⟨u, y, e1, e2⟩ := any_iface G.E v
 rw [show (G.rc s.objs m w).E = G.E from rfl, e1] at r
 have zv : ∀ {t : Nat} {z : Value}, ((P.info? t).bind fun i => i.zero) = some z -> ∀ w, (zeroValue t).run P w = .ok z w := fun {t z} hz w => by
   cases hi : P.info? t with
   | none => rw [hi] at hz; cases hz
   | some i => rw [hi] at hz; simp only [Option.bind_some] at hz; simp [zeroValue, typeInfo, hi, hz]
 obtain ⟨d1, d2, d3⟩ := hE.distinct
 have run : ∀ {D : TypeDesc} {z : Value}, P.underlying t = some D -> (∀ ms, D ≠ .interface ms) -> (∀ w, (zeroValue t).run P w = .ok z w) ->
     ∀ w, (execOp a.eval o).run P w = .ok (.value (if u = t then .tuple #[y, .bool true] else .tuple #[z, .bool false])) w := fun {D z} h1 h2 h3 w => by
   simp only [execOp, ho, r, Sem.run_bind, run_assert h1 h2 (h3 w), Result.andThen_ok, Sem.run_pure]
 rcases hk with ⟨rfl, k1, k2⟩ | ⟨rfl, k1, k2⟩ | ⟨rfl, k1, k2⟩
 · have hr := run (ty_bool hE hE.anyTys.1) (by simp) (zv hE.anyZ.1)
   rcases e2 with ⟨rfl, b, rfl, rfl⟩ | ⟨rfl, b, rfl, rfl⟩ | ⟨rfl, b, rfl, rfl⟩
   · simp only [if_pos rfl] at hr
     exact .lit (v := .tup [.d .bool b, .lb true]) hr ⟨_, rfl, _, _, rfl, mk_bool _, _, _, rfl, rfl, rfl⟩ (k1 _ rfl)
   · simp only [if_neg (Ne.symm d1)] at hr
     exact .lit (v := .tup [.lb false, .lb false]) hr ⟨_, rfl, _, _, rfl, rfl, _, _, rfl, rfl, rfl⟩ (k2 (by simp))
   · simp only [if_neg (Ne.symm d2)] at hr
     exact .lit (v := .tup [.lb false, .lb false]) hr ⟨_, rfl, _, _, rfl, rfl, _, _, rfl, rfl, rfl⟩ (k2 (by simp))
 · have hr := run (ty_int hE hE.anyTys.2.1) (by simp) (zv hE.anyZ.2.1)
   rcases e2 with ⟨rfl, b, rfl, rfl⟩ | ⟨rfl, b, rfl, rfl⟩ | ⟨rfl, b, rfl, rfl⟩
   · simp only [if_neg d1] at hr
     exact .lit (v := .tup [.d (.int .i64) 0, .lb false]) hr ⟨_, rfl, _, _, rfl, mk_int _ _, _, _, rfl, rfl, rfl⟩ (k2 (by simp))
   · simp only [if_pos rfl] at hr
     exact .lit (v := .tup [.d (.int .i64) b, .lb true]) hr ⟨_, rfl, _, _, rfl, mk_int _ _, _, _, rfl, rfl, rfl⟩ (k1 _ rfl)
   · simp only [if_neg (Ne.symm d3)] at hr
     exact .lit (v := .tup [.d (.int .i64) 0, .lb false]) hr ⟨_, rfl, _, _, rfl, mk_int _ _, _, _, rfl, rfl, rfl⟩ (k2 (by simp))
 · have hr := run (ty_str hE hE.anyTys.2.2) (by simp) (zv hE.anyZ.2.2)
   rcases e2 with ⟨rfl, b, rfl, rfl⟩ | ⟨rfl, b, rfl, rfl⟩ | ⟨rfl, b, rfl, rfl⟩
   · simp only [if_neg d2] at hr
     exact .lit (v := .tup [.d .str [], .lb false]) hr ⟨_, rfl, _, _, rfl, mk_str (by decide), _, _, rfl, rfl, rfl⟩ (k2 (by simp))
   · simp only [if_neg d3] at hr
     exact .lit (v := .tup [.d .str [], .lb false]) hr ⟨_, rfl, _, _, rfl, mk_str (by decide), _, _, rfl, rfl, rfl⟩ (k2 (by simp))
   · simp only [if_pos rfl] at hr
     exact .lit (v := .tup [.d .str b, .lb true]) hr ⟨_, rfl, _, _, rfl, mk_str hsm, _, _, rfl, rfl, rfl⟩ (k1 _ rfl)
theorem op_mm (h : Holds G s a w m) {x y : Operand} {ts : Array TypeId} {mx : Bool} (ho : o.op = .call { callee := .builtin (if mx then .max else .min), args := #[x, y], argTypes := ts }) {k : IntKind} {p q : Int}
   (hx : s.eval x = .d (.int k) p) (hy : s.eval y = .d (.int k) q) (hk : K (.d (.int k) (mm mx p q)) []) : OkP P G s a w m o K := by
 have rx := eval_ok h x
 have ry := eval_ok h y
 rw [hx] at rx
 rw [hy] at ry
 have ex := int_ok rx
 have ey := int_ok ry
 refine .lit (val := .int k (mm mx p q)) (fun w => ?_) (mk_int _ _) hk
 cases mx
 · simp [execOp, ho, resolve, invoke, builtin, ex, ey, run_min_int2, mm]
 · simp [execOp, ho, resolve, invoke, builtin, ex, ey, run_max_int2, mm]
theorem run_enter {f : Nat} (hf : Enters P f) (args : Array Value) : (callFunc f args).run P w = .ok (.enter f args) w := by
 obtain ⟨fn, h1, h2, h3⟩ := hf
 have h4 : fn.body.isNone = false := by cases hb : fn.body <;> simp_all
 unfold callFunc
 simp only [Sem.run_bind, run_program, Result.andThen_ok, h1, h3, h4, Bool.false_eq_true, if_false, Sem.run_pure]
theorem exec_value {fx : Operand} {args : Array Operand} {ts : Array TypeId} (ho : o.op = .call { callee := .value fx, args, argTypes := ts }) {g : Nat} {caps : Array Value} (hv : a.eval fx = .func (.func g) #[] caps) (hg : Enters P g) :
   (execOp a.eval o).run P w = .ok (.enter g ((args.toList.map a.eval).toArray ++ caps)) w := by
 have e : args.map a.eval = (args.toList.map a.eval).toArray := by rw [<- Array.toList_map]
 have e0 : #[] ++ args.map a.eval = (args.toList.map a.eval).toArray := by rw [e]; simp
 simp only [execOp, ho, resolve, hv, Deferred.ofValue, Sem.run_bind, Sem.run_pure, Result.andThen_ok, invoke, run_enter hg, e0]
theorem goD_ok {c : RC} {h : Heap} (hok : HeapOK c h) : ∀ {as : List Ty} {l : List AV} {x : dens as} {vs : List Value}, callFp.go c.E h as l = some x -> VRelL c l vs -> ArgsD c.E (fun _ => True) c.w as x vs
 | [], l, x, vs, hx, hv => by
   cases l with
   | nil => exact hv
   | cons _ _ => simp [callFp.go] at hx
 | t :: ts, l, x, vs, hx, hv => by
   cases l with
   | nil => simp [callFp.go] at hx
   | cons y r =>
     obtain ⟨v, q, rfl, hv1, hv2⟩ := hv
     simp only [callFp.go] at hx
     split at hx
     · rename_i x1 x2 h1 h2
       cases hx
       exact ⟨v, q, rfl, (toV_ok hok h1 hv1).mono (Nat.le_refl _) (fun _ _ _ => ⟨trivial, rfl⟩), goD_ok hok h2 hv2⟩
     · cases hx
theorem leaf_val {t : Ty} {x : t.den} (h : t.leafB = true) : valOf t.isPair (cellsOf t x) = .d t x := by
 cases t <;> first | rfl | cases h
theorem op_callFp (hP : G.P = P) (h : Holds G s a w m) {fx : Operand} {args : Array Operand} {ts : Array TypeId} (ho : o.op = .call { callee := .value fx, args, argTypes := ts }) {as : List Ty} {b : Ty} {p : (dens as -> b.den) × (dens as -> Prop)}
   (hf : s.eval fx = .fp as b p) (hk : callFp G.E s.heap as b p (args.toList.map s.eval) fun v => K v []) : Ok1 P G s a w m o K := by
 have r := eval_ok h fx
 rw [hf] at r
 obtain ⟨hb, hsh, g, caps, hv, hg, hc⟩ := r
 have hg : Enters P g := by have := hg; simpa only [Ctx.rc, hP] using this
 unfold callFp at hk
 split at hk
 · cases hk
 · rename_i x hx
   have hargs := goD_ok (c := G.rc s.objs m w) h.heap hx (evals_ok h args.toList)
   intro next Q hn
   unfold Oper.wp
   rw [exec_value ho hv hg, Oper.upon_enter]
   have := hc w (Nat.le_refl _) (fun _ _ _ => rfl) x _ hargs hk.1
   simp only [Ctx.rc, hP] at this
   refine this.mono fun e w2 he => ?_
   obtain ⟨val, rfl, hrep, hkeep⟩ := he
   obtain ⟨h1, h2⟩ := h.o.grow hkeep
   refine hn (.d b (p.1 x)) [] val w2 m ?_ hkeep (by simpa using h1) (by simpa using h2) ?_
   · have := hk.2
     rwa [leaf_val hb] at this
   · exact ⟨hb, rep_scalar hsh (by simpa [Ctx.rc] using hrep)⟩
end Go.Ab


namespace Go.Ab
variable {P : Program} {G : Ctx} {s : St} {a : Act} {w : World} {m : Nat -> Value} {o : Oper} {K : K1}
def Chunks (E : Env) (X : Nat -> Prop) (w : World) (t : Ty) (xs : List t.den) (vs : List Value) : Prop :=
 vs.length = xs.length * t.size /\ ∀ (k : Nat) x, xs[k]? = some x -> Rep E X w t x ((vs.drop (k * t.size)).take t.size)
theorem Chunks.nil {E : Env} {X : Nat -> Prop} {w : World} {t : Ty} : Chunks E X w t [] [] := ⟨by simp, by simp⟩
theorem Chunks.cons {E : Env} {X : Nat -> Prop} {w : World} {t : Ty} {x : t.den} {xs : List t.den} {us vs : List Value} (h : Rep E X w t x us) (r : Chunks E X w t xs vs) : Chunks E X w t (x :: xs) (us ++ vs) := by
 have hl := h.length
 refine ⟨by simp [hl, r.1, Nat.add_mul]; omega, fun k y hy => ?_⟩
 cases k with
 | zero =>
   simp only [List.getElem?_cons_zero, Option.some.injEq] at hy
   subst hy
   simpa [<- hl] using h
 | succ k =>
   have := r.2 k y (by simpa using hy)
   have e : (us ++ vs).drop ((k + 1) * t.size) = vs.drop (k * t.size) := by
     rw [Nat.add_mul, Nat.one_mul, Nat.add_comm, <- hl, <- List.drop_drop]
     simp
   rw [e]; exact this
theorem Chunks.append {E : Env} {X : Nat -> Prop} {w : World} {t : Ty} {xs ys : List t.den} {us vs : List Value} (h : Chunks E X w t xs us) (r : Chunks E X w t ys vs) : Chunks E X w t (xs ++ ys) (us ++ vs) := by
 refine ⟨by simp [h.1, r.1, Nat.add_mul], fun k y hy => ?_⟩
 rcases Nat.lt_or_ge k xs.length with hk | hk
 · rw [List.getElem?_append_left hk] at hy
   have := h.2 k y hy
   have hlen : k * t.size + t.size <= us.length := by
     rw [h.1]
     calc k * t.size + t.size = (k + 1) * t.size := by rw [Nat.add_mul]; simp
       _ <= _ := Nat.mul_le_mul_right _ hk
   rw [List.drop_append_of_le_length (by omega), List.take_append_of_le_length (by simp; omega)]
   exact this
 · rw [List.getElem?_append_right hk] at hy
   have := r.2 _ y hy
   have e : (us ++ vs).drop (k * t.size) = vs.drop ((k - xs.length) * t.size) := by
     have : k * t.size = us.length + (k - xs.length) * t.size := by rw [h.1, <- Nat.add_mul]; congr 1; omega
     rw [this, <- List.drop_drop]
     simp
   rw [e]; exact this
theorem Chunks.mono {E : Env} {X X' : Nat -> Prop} {w w' : World} {t : Ty} {xs : List t.den} {us : List Value} (hs : w.heap.size <= w'.heap.size) (hX : ∀ b, b < w.heap.size -> X b -> X' b /\ w'.heap[b]? = w.heap[b]?) (h : Chunks E X w t xs us) :
   Chunks E X' w' t xs us := ⟨h.1, fun k x hx => (h.2 k x hx).mono hs hX⟩
theorem Chunks.take {E : Env} {X : Nat -> Prop} {w : World} {t : Ty} {xs : List t.den} {us : List Value} (h : Chunks E X w t xs us) {n : Nat} (hn : n <= xs.length) : Chunks E X w t (xs.take n) (us.take (n * t.size)) := by
 refine ⟨by simp only [List.length_take, h.1]; rw [Nat.min_eq_left hn, Nat.min_eq_left (Nat.mul_le_mul_right _ hn)], fun k x hx => ?_⟩
 have hk := get_lt hx
 simp only [List.length_take] at hk
 rw [List.getElem?_take_of_lt (by omega)] at hx
 have := h.2 k x hx
 rw [List.drop_take, List.take_take]
 have : min t.size (n * t.size - k * t.size) = t.size := by
   rw [<- Nat.sub_mul]
   exact Nat.min_eq_left (Nat.le_mul_of_pos_left _ (by omega))
 rw [this]; assumption
theorem rep_one {E : Env} {X : Nat -> Prop} {w : World} : ∀ {t : Ty} {x : t.den} {vs : List Value}, Rep E X w t x vs -> ∀ v ∈ vs, v.oneCell' = true
 | .unit, _, vs, h => by cases h; simp
 | .int _, _, vs, h => by cases h; simp [Value.oneCell']
 | .bool, _, vs, h => by cases h; simp [Value.oneCell']
 | .str, _, vs, h => by cases h.1; simp [Value.oneCell']
 | .any, x, vs, h => by cases h.1; cases x <;> simp [anyVal, Value.oneCell']
 | .err, _, vs, h => by obtain ⟨v, rfl, ⟨_, rfl⟩ | ⟨_, _, _, rfl⟩⟩ := h <;> simp [Value.oneCell']
 | .pair a b, x, vs, h => by
   obtain ⟨c1, c2, rfl, h1, h2⟩ := h
   intro v hv
   rcases List.mem_append.1 hv with hv | hv
   · exact rep_one h1 v hv
   · exact rep_one h2 v hv
 | .slice _, _, vs, h => by obtain ⟨_, _, _, rfl, _⟩ := h; simp [Value.oneCell']
theorem chunks_one {E : Env} {X : Nat -> Prop} {w : World} {t : Ty} {xs : List t.den} {vs : List Value} (h : Chunks E X w t xs vs) : ∀ v ∈ vs, v.oneCell' = true := by
 induction xs generalizing vs with
 | nil =>
   have : vs = [] := List.length_eq_zero_iff.1 (by simpa using h.1)
   subst this; simp
 | cons x xs ih =>
   intro v hv
   have h0 := h.2 0 x rfl
   simp only [Nat.zero_mul, List.drop_zero] at h0
   rw [<- List.take_append_drop t.size vs] at hv
   rcases List.mem_append.1 hv with hv | hv
   · exact rep_one h0 v hv
   · refine ih (vs := vs.drop t.size) ⟨by simp [h.1, Nat.add_mul], fun k y hy => ?_⟩ v hv
     have := h.2 (k + 1) y (by simpa using hy)
     rw [List.drop_drop]
     rwa [Nat.add_mul, Nat.one_mul, Nat.add_comm] at this
theorem gather {E : Env} {X : Nat -> Prop} {w : World} {t : Ty} {b : Nat} : ∀ (xs : List t.den) (off : Nat), (∀ (i : Nat) x, xs[i]? = some x -> ∃ cells : List Value, (∀ (j : Nat) v, cells[j]? = some v -> w.cell? ⟨b, off + i * t.size + j, none⟩ = some v) /\ Rep E X w t x cells) ->
   ∃ news, Chunks E X w t xs news /\ ∀ (j : Nat) u, news[j]? = some u -> w.cell? ⟨b, off + j, none⟩ = some u
 | [], off, _ => ⟨[], Chunks.nil, by simp⟩
 | x :: xs, off, h => by
   obtain ⟨cells, h1, h2⟩ := h 0 x rfl
   obtain ⟨news, h3, h4⟩ := gather (t := t) xs (off + t.size) (fun i y hy => by
     obtain ⟨cs, q1, q2⟩ := h (i + 1) y (by simpa using hy)
     refine ⟨cs, fun j v hj => ?_, q2⟩
     rw [<- q1 j v hj]
     congr 2
     rw [Nat.add_mul]; omega)
   refine ⟨cells ++ news, Chunks.cons h2 h3, fun j u hj => ?_⟩
   rcases Nat.lt_or_ge j cells.length with hlt | hge
   · rw [List.getElem?_append_left hlt] at hj
     have := h1 j u hj
     simpa using this
   · rw [List.getElem?_append_right hge] at hj
     have := h4 _ u hj
     have hl := h2.length
     rw [<- this]
     congr 2
     omega
def Src (c : RC) (Y : Nat -> Prop) (t : Ty) (xs : List t.den) (v : Value) (news : List Value) : Prop :=
 ∃ ad n cap, v = .slice ad n cap /\ n = xs.length /\ n <= cap /\ n < lim /\ Chunks c.E c.X c.w t xs news /\
   (xs = [] ∨ ∃ b off, ad = some ⟨b, off, none⟩ /\ b < c.w.heap.size /\ Y b /\ ∀ (j : Nat) u, news[j]? = some u -> c.w.cell? ⟨b, off + j, none⟩ = some u)
theorem src_rep {c : RC} {t : Ty} {xs : List t.den} {v : Value} (h : Rep c.E c.X c.w (.slice t) xs [v]) : ∃ news, Src c c.X t xs v news := by
 obtain ⟨ad, n, cap, e, hn, hc, hl, h⟩ := h
 simp only [List.cons.injEq, and_true] at e
 subst e
 rcases h with rfl | ⟨b, off, rfl, hb, hX, h⟩
 · exact ⟨[], ad, n, cap, rfl, hn, hc, hl, Chunks.nil, .inl rfl⟩
 · obtain ⟨news, h1, h2⟩ := gather xs off h
   exact ⟨news, _, _, _, rfl, hn, hc, hl, h1, .inr ⟨b, off, rfl, hb, hX, h2⟩⟩
theorem src_arr {c : RC} {h : Heap} {i : Nat} {t : Ty} {xs : List t.den} {f : Bool} (hh : h i = some (.arr t xs f)) (r : ORel c (c.m i) (.arr t xs f)) : ∃ news, Src c (Seen c h) t xs (c.m i) news := by
 obtain ⟨a, n, cap, hm, hn, hc, hl, r⟩ := r
 rcases r with r | ⟨b, vs, e, rfl, hb, hv, _, r⟩
 · subst r
   have : xs = [] := List.length_eq_zero_iff.1 (by omega)
   subst this
   exact ⟨[], a, n, 0, hm, hn, hc, hl, Chunks.nil, .inl rfl⟩
 · by_cases h0 : cap = 0
   · subst h0
     have : xs = [] := List.length_eq_zero_iff.1 (by omega)
     subst this
     exact ⟨[], _, n, 0, hm, hn, hc, hl, Chunks.nil, .inl rfl⟩
   · have hle : xs.length * t.size <= vs.length := by rw [hv]; exact Nat.mul_le_mul_right _ (by omega)
     refine ⟨vs.take (xs.length * t.size), _, n, cap, hm, hn, hc, hl, ⟨by simp; omega, fun k x hx => ?_⟩, .inr ⟨b, 0, rfl, heap_lt hb, .inl (.inr ⟨i, t, xs, f, hh, by rw [hm]; simp [rows_p, rows_s, blk, h0]⟩), fun j u hj => ?_⟩⟩
     · have hk := get_lt hx
       have := r k x hx
       rw [List.drop_take, List.take_take]
       have e : min t.size (xs.length * t.size - k * t.size) = t.size := by
         rw [<- Nat.sub_mul]
         exact Nat.min_eq_left (Nat.le_mul_of_pos_left _ (by omega))
       rw [e]; exact this
     · have := get_lt hj
       simp at this
       rw [List.getElem?_take_of_lt (by omega)] at hj
       rw [cell_at hb]
       simpa using hj
theorem src_sub {c : RC} {Y : Nat -> Prop} {t : Ty} {xs : List t.den} {a : Option Addr} {n cap : Nat} {news : List Value} (r : Src c Y t xs (.slice a n cap) news) {lo hi : Nat} (h1 : lo <= hi) (h2 : hi <= n)
   {a' : Option Addr} (ha : cap ≠ lo -> a' = a.map (·.add (lo * t.size))) : ∃ news', Src c Y t ((xs.take hi).drop lo) (.slice a' (hi - lo) (cap - lo)) news' := by
 obtain ⟨ad, n', cap', he, rfl, hc, hl, hch, r⟩ := r
 simp only [Value.slice.injEq] at he
 obtain ⟨rfl, rfl, rfl⟩ := he
 have hch' : Chunks c.E c.X c.w t ((xs.take hi).drop lo) ((news.take (hi * t.size)).drop (lo * t.size)) := by
   have ht := hch.take h2
   refine ⟨by simp only [List.length_drop, ht.1, <- Nat.sub_mul], fun k x hx => ?_⟩
   rw [List.getElem?_drop] at hx
   have := ht.2 _ x hx
   rw [List.drop_drop, <- Nat.add_mul]; exact this
 refine ⟨_, _, _, _, rfl, by simp; omega, by omega, by omega, hch', ?_⟩
 rcases r with rfl | ⟨b, off, rfl, hb, hX, r⟩
 · left; simp
 · by_cases h0 : cap = lo
   · left
     apply List.length_eq_zero_iff.1
     simp; omega
   · refine .inr ⟨b, off + lo * t.size, by rw [ha h0]; simp [Addr.add], hb, hX, fun k u hu => ?_⟩
     rw [List.getElem?_drop] at hu
     have hlt := get_lt hu
     simp at hlt
     rw [List.getElem?_take_of_lt (by omega)] at hu
     rw [<- r _ u hu]
     congr 2
     omega
theorem arrH_arr {h : Heap} {i : Nat} {t : Ty} {xs : List t.den} {f : Bool} (hh : arrH h i = some (.arr t xs f)) : h i = some (.arr t xs f) := by
 unfold arrH at hh
 split at hh
 · cases hh
 · exact hh
theorem arrH_zone {h : Heap} {i : Nat} {t : Ty} {xs : List t.den} : arrH h i ≠ some (.zone t xs) := by
 unfold arrH
 split
 · exact fun h => by cases h
 · rename_i hn
   exact fun e => hn _ _ e
theorem leafD_src {c : RC} {h : Heap} (hok : HeapOK c h) {t : Ty} {x : AV} {xs : List t.den} {v : Value} (hx : leafD c.E (arrH h) (.slice t) x = some xs) (hv : VRel c x v) : ∃ news, Src c (Seen c h) t xs v news := by
 have weak : ∀ {xs : List t.den} {v : Value}, (∃ news, Src c c.X t xs v news) -> ∃ news, Src c (Seen c h) t xs v news := fun ⟨news, a, n, k, e, h1, h2, h3, h4, h5⟩ =>
   ⟨news, a, n, k, e, h1, h2, h3, h4, h5.imp id fun ⟨b, off, q1, q2, q3, q4⟩ => ⟨b, off, q1, q2, .inl (.inl q3), q4⟩⟩
 cases x <;> first | (simp only [leafD, reduceCtorEq] at hx; done) | skip
 case d u ys =>
   cases u <;> first | (simp only [leafD, reduceCtorEq] at hx; done) | skip
   simp only [leafD] at hx
   obtain ⟨e, rfl⟩ := castTy_some hx
   cases e
   exact weak (src_rep hv.2)
 case os i =>
   simp only [leafD] at hx
   split at hx
   · rename_i b ys f hh
     replace hh := arrH_arr hh
     obtain ⟨e, rfl⟩ := castTy_some hx
     cases e
     simp only [VRel] at hv
     rw [hv.2.1]
     exact src_arr hh (hok _ _ hh).2
   · cases hx
 case oss i sz lo hi =>
   simp only [leafD] at hx
   split at hx
   · rename_i b ys f hh
     replace hh := arrH_arr hh
     split at hx
     · rename_i y hc hsz
       obtain ⟨e, rfl⟩ := castTy_some hc
       cases e
       cases hx
       have := Nat.eq_of_beq_eq_true hsz
       subst this
       simp only [VRel] at hv
       obtain ⟨hn, ad, n, cap, ad', hm, h1, h2, h3, h4, rfl⟩ := hv
       obtain ⟨news, r⟩ := src_arr hh (hok _ _ hh).2
       rw [hm] at r
       exact src_sub r h1 h2 h4
     · cases hx
   · cases hx
 case emp =>
   simp only [leafD, Option.some.injEq] at hx
   subst hx
   simp only [VRel] at hv
   obtain ⟨a, rfl, _⟩ := hv
   exact ⟨[], a, 0, 0, rfl, rfl, Nat.le_refl _, by decide, Chunks.nil, .inl rfl⟩
 case oz i =>
   simp only [leafD] at hx
   split at hx
   · rename_i b ys hh
     exact absurd hh arrH_zone
   · cases hx
end Go.Ab


namespace Go.Ab
variable {P : Program} {G : Ctx} {s : St} {a : Act} {w : World} {m : Nat -> Value} {o : Oper} {K : K1}
def RowF (w : World) (size : Nat) (v : Value) (n : Nat) (vs : List Value) : Prop :=
 ∃ a cap, v = .slice a n cap /\ n <= cap /\ vs.length = n * size /\
   (cap = 0 ∨ ∃ b cur e, a = some ⟨b, 0, none⟩ /\ w.heap[b]? = some (.cells (List.toArray cur) e (0, 0)) /\ cur.length = cap * size /\ cap <= 9223372036854775807 /\ cur.take (n * size) = vs)
theorem orel_row {c : RC} {t : Ty} {xs : List t.den} {f : Bool} {v : Value} {vs : List Value} (h : RowF c.w t.size v xs.length vs) (hc : Chunks c.E c.X c.w t xs vs) (hl : xs.length < lim) : ORel c v (.arr t xs f) := by
 obtain ⟨a, cap, rfl, h1, h2, h3⟩ := h
 refine ⟨a, _, cap, rfl, rfl, h1, hl, ?_⟩
 rcases h3 with h3 | ⟨b, cur, e, rfl, hb, q1, q2, q3⟩
 · exact .inl h3
 · refine .inr ⟨b, cur, e, rfl, hb, q1, q2, fun k x hx => ?_⟩
   have := hc.2 k x hx
   have hk := get_lt hx
   rw [<- q3, List.drop_take, List.take_take] at this
   have e : min t.size (xs.length * t.size - k * t.size) = t.size := by
     rw [<- Nat.sub_mul]
     exact Nat.min_eq_left (Nat.le_mul_of_pos_left _ (by omega))
   rwa [e] at this
theorem row_orel {c : RC} {t : Ty} {xs : List t.den} {f : Bool} {v : Value} (h : ORel c v (.arr t xs f)) : ∃ vs, RowF c.w t.size v xs.length vs /\ Chunks c.E c.X c.w t xs vs /\ xs.length < lim := by
 obtain ⟨a, n, cap, rfl, rfl, hc, hl, r⟩ := h
 rcases r with r | ⟨b, vs, e, rfl, hb, hv, hm, r⟩
 · subst r
   have : xs = [] := List.length_eq_zero_iff.1 (by omega)
   subst this
   exact ⟨[], ⟨a, 0, rfl, hc, by simp, .inl rfl⟩, Chunks.nil, hl⟩
 · have hle : xs.length * t.size <= vs.length := by rw [hv]; exact Nat.mul_le_mul_right _ (by omega)
   refine ⟨vs.take (xs.length * t.size), ⟨_, cap, rfl, hc, by simp; omega, .inr ⟨b, vs, e, rfl, hb, hv, hm, rfl⟩⟩, ⟨by simp; omega, fun k x hx => ?_⟩, hl⟩
   have hk := get_lt hx
   have := r k x hx
   rw [List.drop_take, List.take_take]
   have e : min t.size (xs.length * t.size - k * t.size) = t.size := by
     rw [<- Nat.sub_mul]
     exact Nat.min_eq_left (Nat.le_mul_of_pos_left _ (by omega))
   rwa [e]
theorem frozen_setRow (w : World) (g : Nat) (cs : Array Value) (a : Addr) : (w.setRow g cs).frozen? a = w.frozen? a := by
 by_cases h : a.block = g
 · subst h
   unfold World.frozen? World.setRow
   simp only [Array.getElem?_modify, if_true]
   cases w.heap[a.block]? with
   | none => rfl
   | some o => cases o <;> rfl
 · simp [World.frozen?, setRow_other w g a.block cs h]
theorem keep_setRow (w : World) (g : Nat) (cs : Array Value) : Keep (fun b => b = g) w (w.setRow g cs) :=
 { os := rfl, tape := rfl, output := rfl, frozen := fun a _ => frozen_setRow w g cs a, size := by simp [World.setRow], block := fun b _ hb => setRow_other w g b cs hb }
theorem run_append_room' (w : World) (t ty e e' : TypeId) (i : TypeInfo) (ht : P.underlying t = some (.slice e)) (hi : P.info? e = some i)
   (g sLen sCap : Nat) (cur : Array Value) (hg : w.heap[g]? = some (.cells cur e' (0, 0)))
   (a : Addr) (m c : Nat) (news : List Value) (hl : news.length = m * i.size) (hnews : ∀ j u, news[j]? = some u -> w.cell? (a.add j) = some u) (h1 : ∀ u ∈ news, u.oneCell' = true)
   (hroom : sLen + m <= sCap) (hfit : sLen * i.size + news.length <= cur.size) :
   (Builtin.append_ #[t, t] ty #[.slice (some ⟨g, 0, none⟩) sLen sCap, .slice (some a) m c]).run P w =
     .ok (.slice (some ⟨g, 0, none⟩) (sLen + m) sCap) (w.setRow g (cur.toList.take (sLen * i.size) ++ news ++ cur.toList.drop (sLen * i.size + news.length)).toArray) := by
 have hf := run_firstCells_some (P := P) w i.size m a m c news hl hnews
 have hst := run_storeCells_at P g (sLen * i.size) e' news 0 cur w hg (by simpa using hfit) h1
 simp only [Nat.add_zero] at hst
 simp [Builtin.append_, run_underlying ht, sizeOf, typeInfo, hi, Builtin.lenOf, hroom, hf, Addr.add_lit, hst]
theorem run_append_grow0 (w : World) (t ty e : TypeId) (i : TypeInfo) (z : Value) (ht : P.underlying t = some (.slice e)) (hi : P.info? e = some i) (hz : i.zero = some z)
   (b : Addr) (a : Addr) (n c : Nat) (news : List Value) (hl : news.length = n * i.size) (hnews : ∀ j v, news[j]? = some v -> w.cell? (a.add j) = some v)
   (h0 : 0 < n) (h63 : (n : Int) <= 9223372036854775807) (h48 : n * i.bytes <= 140737488355328) :
   (Builtin.append_ #[t, t] ty #[.slice (some b) 0 0, .slice (some a) n c]).run P w =
     .ok (.slice (some ⟨w.heap.size, 0, none⟩) n (grownCap w n 0 e)) (w.drew.alloc (.cells (news.toArray ++ Builtin.zeroCells z.cells (grownCap w n 0 e - n)) e)) := by
 have := run_append_grow (P := P) w t ty e i z ht hi hz b 0 0 [] (by simp) (by simp) a n c news hl hnews (by omega) (by omega) (by have := growslice_fits (need := n) (old := 0) (bytes := i.bytes) h0 h48; simpa using this)
 simpa using this
theorem append_run {t ty e : TypeId} {i : TypeInfo} {z : Value} (ht : P.underlying t = some (.slice e)) (hi : P.info? e = some i) (hz : i.zero = some z) (hzs : z.cells.size = i.size) (hsz : 0 < i.size) (hby : i.bytes <= 128)
   {v : Value} {n : Nat} {vs : List Value} (hr : RowF w i.size v n vs) {a2 : Option Addr} {mm c2 : Nat} {news : List Value} (hl : news.length = mm * i.size)
   (hnews : mm = 0 ∨ ∃ b off, a2 = some ⟨b, off, none⟩ /\ ∀ (j : Nat) u, news[j]? = some u -> w.cell? ⟨b, off + j, none⟩ = some u) (h1 : ∀ u ∈ news, u.oneCell' = true) (hlim : n + mm < lim) :
   ∃ v' w', (Builtin.append_ #[t, t] ty #[v, .slice a2 mm c2]).run P w = .ok v' w' /\ RowF w' i.size v' (n + mm) (vs ++ news) /\ Keep (fun b => rows v b) w w' /\ ∀ b, rows v' b -> rows v b ∨ w.heap.size <= b := by
 obtain ⟨ad, cap, rfl, hcap, hvl, hr⟩ := hr
 simp only [lim] at hlim
 rcases Nat.eq_zero_or_pos mm with rfl | hm
 · have hn : news = [] := List.length_eq_zero_iff.1 (by simpa using hl)
   subst hn
   refine ⟨.slice ad n cap, w, ?_, ⟨ad, cap, rfl, hcap, by simpa using hvl, by simpa using hr⟩, Keep.refl _ _, fun b hb => .inl hb⟩
   cases ad <;> cases a2 <;> simp [Builtin.append_, run_underlying ht, sizeOf, typeInfo, hi, Builtin.lenOf, hcap, Builtin.firstCells, loadCells, loadCellsFrom, storeCells]
 · rcases hnews with rfl | ⟨b2, off2, rfl, hnews⟩
   · omega
   have hnews' : ∀ j u, news[j]? = some u -> w.cell? ((⟨b2, off2, none⟩ : Addr).add j) = some u := fun j u hj => by rw [addr_add]; exact hnews j u hj
   have fit : (n + mm) * i.bytes <= 140737488355328 := by
     calc (n + mm) * i.bytes <= (n + mm) * 128 := Nat.mul_le_mul_left _ hby
       _ <= _ := by omega
   have grown : ∀ (olds : List Value) (old : Nat), olds.length = n * i.size -> n + mm <= 9223372036854775807 -> olds = vs ->
       RowF (w.drew.alloc (.cells (olds.toArray ++ news.toArray ++ Builtin.zeroCells z.cells (grownCap w (n + mm) old e - (n + mm))) e)) i.size
         (.slice (some ⟨w.heap.size, 0, none⟩) (n + mm) (grownCap w (n + mm) old e)) (n + mm) (vs ++ news) := by
     intro olds old ho hle he
     subst he
     have hge := grownCap_ge w (n + mm) old e
     have hcm := grownCap_le_maxLen w (n + mm) old e (by simp only [maxLen]; omega)
     refine ⟨_, _, rfl, hge, by simp [ho, hl, Nat.add_mul], .inr ⟨w.heap.size, olds ++ news ++ (Builtin.zeroCells z.cells (grownCap w (n + mm) old e - (n + mm))).toList, e, rfl, ?_, ?_, by simpa [maxLen] using hcm, ?_⟩⟩
     · have := heap_alloc_new' w.drew (.cells (olds.toArray ++ news.toArray ++ Builtin.zeroCells z.cells (grownCap w (n + mm) old e - (n + mm))) e)
       rw [show w.drew.heap.size = w.heap.size from rfl] at this
       rw [this]
       congr 2
       simp
     · simp only [List.length_append, ho, hl, Array.length_toList, size_zeroCells, hzs, <- Nat.add_mul]
       congr 1
       omega
     · rw [List.append_assoc, <- List.append_assoc, List.take_append_of_le_length (by simp [ho, hl, Nat.add_mul])]
       rw [List.take_of_length_le]
       simp [ho, hl, Nat.add_mul]
   have kg : ∀ {O : Nat -> Prop} (c : Array Value) (t : TypeId), Keep O w (w.drew.alloc (.cells c t)) := fun {O} c t => ((keep_drew w).trans (keep_alloc w.drew c t)).weaken fun _ _ f => f.elim
   have bn : ∀ {l c b : Nat}, rows (.slice (some ⟨w.heap.size, 0, none⟩) l c) b -> w.heap.size <= b := fun {l c b} hb => by
     simp only [rows_p, rows_s, blk] at hb
     split at hb
     · cases hb
     · simp only [Option.some.injEq] at hb; omega
   rcases Nat.eq_zero_or_pos cap with rfl | hcp
   · have hn0 : n = 0 := by omega
     subst hn0
     have hvs : vs = [] := List.length_eq_zero_iff.1 (by simpa using hvl)
     subst hvs
     have hg := grown [] 0 (by simp) (by omega) rfl
     cases ad with
     | none =>
       have := run_append_nil (P := P) w t ty e i z ht hi hz ⟨b2, off2, none⟩ mm c2 news hl hnews' hm (by omega) (by simp only [Nat.zero_add] at fit; omega)
       refine ⟨_, _, this, by simpa using hg, kg _ _, fun b hb => .inr (bn hb)⟩
     | some ad =>
       have := run_append_grow0 (P := P) w t ty e i z ht hi hz ad ⟨b2, off2, none⟩ mm c2 news hl hnews' hm (by omega) (by simp only [Nat.zero_add] at fit; omega)
       refine ⟨_, _, this, by simpa using hg, kg _ _, fun b hb => .inr (bn hb)⟩
   · rcases hr with hr | ⟨b, cur, e', rfl, hb, hcl, hcm, hct⟩
     · omega
     rcases Nat.lt_or_ge cap (n + mm) with hlt | hge
     · have holds : ∀ j u, vs[j]? = some u -> w.cell? ((⟨b, 0, none⟩ : Addr).add j) = some u := fun j u hj => by
         have hj' := get_lt hj
         rw [addr_add, cell_at hb]
         rw [<- hct, List.getElem?_take_of_lt (by rw [<- hct] at hj'; simp at hj'; omega)] at hj
         simpa using hj
       have := run_append_grow (P := P) w t ty e i z ht hi hz ⟨b, 0, none⟩ n cap vs hvl holds ⟨b2, off2, none⟩ mm c2 news hl hnews' hlt (by omega) (growslice_fits (by omega) fit)
       exact ⟨_, _, this, grown vs cap hvl (by omega) rfl, kg _ _, fun b hb => .inr (bn hb)⟩
     · have hfit : n * i.size + news.length <= cur.toArray.size := by
         simp only [List.size_toArray, hcl, hl, <- Nat.add_mul]
         exact Nat.mul_le_mul_right _ hge
       have := run_append_room' (P := P) w t ty e e' i ht hi b n cap cur.toArray hb ⟨b2, off2, none⟩ mm c2 news hl hnews' h1 hge hfit
       have hlc : n * i.size + news.length <= cur.length := by simpa using hfit
       refine ⟨_, _, this, ⟨_, cap, rfl, hge, by simp [hvl, hl, Nat.add_mul], .inr ⟨b, cur.take (n * i.size) ++ news ++ cur.drop (n * i.size + news.length), e', rfl, ?_, ?_, hcm, ?_⟩⟩, (keep_setRow w b _).weaken (fun k _ hk => ?_), fun k hk => .inl ?_⟩
       · have := setRow_heap w b cur.toArray (cur.take (n * i.size) ++ news ++ cur.drop (n * i.size + news.length)).toArray e' (0, 0) hb
         simpa using this
       · simp; omega
       · rw [List.take_append_of_le_length (by simp [hl, Nat.add_mul]; omega), List.take_of_length_le (by simp [hl, Nat.add_mul]; omega), hct]
       · subst hk
         simp [rows_p, rows_s, blk]; omega
       · simpa [rows_p, rows_s, blk] using hk
end Go.Ab


namespace Go.Ab
variable {P : Program} {G : Ctx} {s : St} {a : Act} {w : World} {m : Nat -> Value} {o : Oper} {K : K1}
theorem elem_ti {E : Env} (hE : EnvOK P E) {t e : Nat} (hk : (E.ti t).map (fun i => i.kind) = some (TK.slice e)) {ty : Ty} (hty : E.ty e = some ty) :
   ∃ (ie : TI) (inf : TypeInfo) (z : Value), E.ti e = some ie /\ P.underlying t = some (.slice e) /\ P.info? e = some inf /\ inf.zero = some z /\ z.cells.size = inf.size /\ inf.size = ty.size /\ 0 < inf.size /\ inf.bytes <= 128 /\
     zeroOK ie.zero z.cells.toList = true /\ ie.ty = some ty := by
 cases hi : E.ti t with
 | none => rw [hi] at hk; cases hk
 | some i =>
   rw [hi] at hk
   simp only [Option.map_some, Option.some.injEq] at hk
   obtain ⟨inf, d, T⟩ := hE.ti hi
   have hd := T.kslice e hk
   subst hd
   unfold Env.ty at hty
   cases hj : E.ti e with
   | none => rw [hj] at hty; cases hty
   | some j =>
     rw [hj] at hty
     simp only [Option.bind_some] at hty
     obtain ⟨inf', d', T'⟩ := hE.ti hj
     obtain ⟨z, hz, hz2⟩ := T'.zero
     exact ⟨j, inf', z, rfl, T.desc, T'.info, hz, by rw [T'.zlen z hz, T'.size], by rw [T'.size, (T'.ty _ hty).1], by rw [T'.size]; exact T'.pos, by rw [T'.bytes]; exact T'.small, hz2, hty⟩
theorem exec_append {x0 x : Operand} {t : TypeId} (ho : o.op = .call { callee := .builtin .append, args := #[x0, x], argTypes := #[t, t] }) {v : Value} {w' : World}
   (hr : (Builtin.append_ #[t, t] o.type #[a.eval x0, a.eval x]).run P w = .ok v w') : (execOp a.eval o).run P w = .ok (.value v) w' := by
 unfold execOp
 simp only [ho, resolve, invoke, builtin, Sem.run_bind, Sem.run_pure, Result.andThen_ok, List.map_toArray, List.map_cons, List.map_nil, hr]
theorem op_appendNew (hE : EnvOK P G.E) (h : Holds G s a w m) {x0 x : Operand} {t e : TypeId} (ho : o.op = .call { callee := .builtin .append, args := #[x0, x], argTypes := #[t, t] }) {c : Bool} (hx0 : s.eval x0 = .emp c)
   (hkd : (G.E.ti t).map (fun i => i.kind) = some (TK.slice e)) (hk : op1.appendNew G.E s.heap s.objs.length e c (s.eval x) K) : Ok1 P G s a w m o K := by
 have r0 := eval_ok h x0
 have r := eval_ok h x
 rw [hx0] at r0
 obtain ⟨ad, e0, hn0⟩ := r0
 unfold op1.appendNew at hk
 split at hk
 · rename_i ty hty
   obtain ⟨ie, inf, z, hie, hu, hinf, hz, hzs, hsz, hpos, hby, _, _⟩ := elem_ti hE hkd hty
   have row0 : RowF w inf.size (.slice ad 0 0) 0 [] := ⟨ad, 0, rfl, Nat.le_refl _, by simp, .inl rfl⟩
   have b0 : blk (.slice ad 0 0) = none := by cases ad <;> simp [rows_p, rows_s, blk]
   split at hk
   · rename_i cx hx
     rw [hx] at r
     obtain ⟨ad2, e2, _⟩ := r
     refine .same h (v := .emp c) (val := .slice ad 0 0) (exec_append ho ?_) ⟨ad, rfl, hn0⟩ hk
     rw [e0, e2]
     cases ad <;> cases ad2 <;> simp [Builtin.append_, run_underlying hu, sizeOf, typeInfo, hinf, Builtin.lenOf, Builtin.firstCells, loadCells, loadCellsFrom, storeCells]
   · split at hk
     · rename_i xs hx
       obtain ⟨news, ad2, n2, cap2, e2, hn2, hc2, hl2, hch, hsrc⟩ := leafD_src (c := G.rc s.objs m w) h.heap hx r
       subst hn2
       obtain ⟨v', w', hrun, hrow, hkeep, hblk⟩ := append_run (P := P) (ty := o.type) hu hinf hz hzs hpos hby row0 (a2 := ad2) (mm := xs.length) (c2 := cap2) (news := news) (by rw [hsz]; exact hch.1)
         (by
           rcases hsrc with rfl | ⟨b, off, q1, q2, q3, q4⟩
           · exact .inl rfl
           · exact .inr ⟨b, off, q1, q4⟩) (chunks_one hch) (by simpa using hl2)
       have hkeep' : Keep (fun _ => False) w w' := hkeep.weaken fun b _ hb => by rw [rows_s, b0] at hb; cases hb
       refine .new h (v := .os s.objs.length) v' (.arr ty xs false) (exec_append ho (by rw [e0, e2]; exact hrun)) hkeep' (fun b hb => ?_) (fun hle => ?_) ?_ (hk hl2)
       · rcases hblk b hb with h1 | h1
         · rw [rows_s, b0] at h1; cases h1
         · exact h1
       · refine orel_row (vs := news) ?_ (hch.mono hle.size fun b hb hX => hle.X b hb hX) hl2
         have : ty.size = inf.size := hsz.symm
         rw [this]
         simpa [Ctx.rc] using hrow
       · obtain ⟨av, cv, hv, _⟩ := hrow
         exact ⟨by simp [Ctx.rc], by simp [Ctx.rc], _, _, _, hv⟩
     · cases hk
 · cases hk
theorem oneCell_cells {v : Value} (h : v.oneCell' = true) : v.cells = #[v] := by cases v <;> first | rfl | cases h
theorem vd_cells {E : Env} {X : Nat -> Prop} {w : World} {t : Ty} {x : t.den} {v : Value} (h : VD E X w t x v) : Rep E X w t x v.cells.toList := by
 unfold VD at h
 split at h
 · obtain ⟨cs, rfl, h⟩ := h
   exact h
 · rw [oneCell_cells (rep_one h.2 v (by simp))]
   exact h.2
theorem zero_rep {E : Env} {l : List AV} {vs : List Value} (h : zeroOK l vs = true) {t : Ty} {x : t.den} (hx : toV E (fun _ => none) t (valOf t.isPair l) = some x) (X : Nat -> Prop) (w : World) : Rep E X w t x vs := by
 have key : ∀ (c : RC), c.E = E -> (∀ b, ¬ c.X b) -> c.w = w -> Rep E X w t x vs := by
   intro c hc hX hw
   subst hc hw
   have hl := zeroOK_rel c l vs h
   have no : HeapOK c (fun _ => none) := fun i o hi => by cases hi
   have : Rep c.E (Seen c fun _ => none) c.w t x vs := by
     unfold toV at hx
     split at hx
     · rename_i l' hv
       unfold valOf at hv
       split at hx
       · rename_i hp
         rw [if_pos hp] at hv
         cases hv
         split at hx
         · rename_i y hy
           cases hx
           exact toD_all no hy hl
         · cases hx
       · cases hx
     · split at hx
       · rename_i hlf
         have hp : t.isPair = false := by cases t <;> simp_all [Ty.leafB, Ty.isPair]
         unfold valOf at hx
         rw [hp] at hx
         match l, hl with
         | [a], hl =>
           simp only [VRelL] at hl
           obtain ⟨v, q, rfl, hv, rfl⟩ := hl
           exact leafD_ok no hx hv
         | [], _ => cases t <;> simp [leafD] at hx
         | _ :: _ :: _, _ => cases t <;> simp [leafD] at hx
       · cases hx
   refine this.mono (Nat.le_refl _) fun b _ hb => ?_
   rcases hb with (hb | ⟨i, _, _, _, hb, _⟩) | ⟨i, _, _, hb, _⟩
   · exact absurd hb (hX b)
   · cases hb
   · cases hb
 exact key { P := default, E := E, m := fun _ => undef, n := 0, S := fun _ => False, X := fun _ => False, w := w } rfl (fun _ h => h) rfl
theorem made_chunk (z : Array Value) (hz : 0 < z.size) (l c k : Nat) (hl : l <= c) (hk : k < l) :
   (((madeCells z (c * z.size)).toList.drop (k * z.size)).take z.size) = z.toList := by
 apply List.ext_getElem?
 intro j
 rcases Nat.lt_or_ge j z.size with hj | hj
 · rw [List.getElem?_take_of_lt hj, List.getElem?_drop]
   have hlt : k * z.size + j < c * z.size := by
     calc k * z.size + j < k * z.size + z.size := by omega
       _ = (k + 1) * z.size := by rw [Nat.add_mul]; simp
       _ <= c * z.size := Nat.mul_le_mul_right _ (by omega)
   have hm : (k * z.size + j) % z.size = j := by rw [Nat.mul_comm, Nat.mul_add_mod, Nat.mod_eq_of_lt hj]
   simp only [madeCells, Array.toList_map, Array.toList_range, List.getElem?_map, List.getElem?_range hlt, Option.map_some, hm]
   simp [hj]
 · rw [List.getElem?_eq_none (by simp; omega), List.getElem?_eq_none (by simpa using hj)]
theorem op_makeSlice (hE : EnvOK P G.E) (h : Holds G s a w m) {t e : TypeId} {xl xc : Operand} (ho : o.op = .makeSlice t xl xc) (hkd : (G.E.ti t).map (fun i => i.kind) = some (TK.slice e)) {l c : Int} (hl : s.eval xl = .d (.int .i64) l) (hc : s.eval xc = .d (.int .i64) c)
   {i : TI} (hi : G.E.ti e = some i) {ty : Ty} (hty : i.ty = some ty) {z : ty.den} (hz : toV G.E (fun _ => none) ty (valOf ty.isPair i.zero) = some z) (hb : mkOK l c) (hk : K (.os s.objs.length) [.arr ty (List.replicate (tN l) z) false]) : Ok1 P G s a w m o K := by
 have rl := eval_ok h xl
 have rc := eval_ok h xc
 rw [hl] at rl
 rw [hc] at rc
 obtain ⟨ie, inf, zv, hie, hu, hinf, hzv, hzs, hsz, hpos, hby, hzo, _⟩ := elem_ti hE hkd (show G.E.ty e = some ty by simp [Env.ty, hi, hty])
 rw [hi] at hie
 cases hie
 obtain ⟨h0, hlc, hlim⟩ := hb
 have hbytes : (inf.bytes : Int) * c <= 281474976710656 := by
   have : (inf.bytes : Int) * c <= 128 * c := Int.mul_le_mul_of_nonneg_right (by omega) (by omega)
   omega
 have hrun := run_make (P := P) w t e inf zv hu hinf hzv .i64 .i64 l c h0 hlc hbytes (by omega)
 have hex : (execOp a.eval o).run P w = .ok (.value (.slice (some ⟨w.heap.size, 0, none⟩) l.toNat c.toNat)) (w.alloc (.cells (madeCells zv.cells (c.toNat * inf.size)) e)) := by
   simp only [execOp, ho, int_ok rl, int_ok rc, Sem.run_bind, hrun, Result.andThen_ok, Sem.run_pure]
 refine .new h (v := .os s.objs.length) (.slice (some ⟨w.heap.size, 0, none⟩) l.toNat c.toNat) (.arr ty (List.replicate (tN l) z) false) hex (keep_alloc _ _ _) (fun b hb => ?_) (fun hle => ?_) ⟨by simp [Ctx.rc], by simp [Ctx.rc], _, _, _, rfl⟩ hk
 · simp only [rows_p, rows_s, blk] at hb
   split at hb
   · cases hb
   · simp only [Option.some.injEq] at hb; omega
 · have hnew := heap_alloc_new' w (.cells (madeCells zv.cells (c.toNat * inf.size)) e)
   have hll : (madeCells zv.cells (c.toNat * inf.size)).toList.length = c.toNat * ty.size := by rw [Array.length_toList, size_madeCells, hsz]
   have hle' : l.toNat * ty.size <= c.toNat * ty.size := Nat.mul_le_mul_right _ (by omega)
   refine orel_row (vs := (madeCells zv.cells (c.toNat * inf.size)).toList.take (l.toNat * ty.size)) ⟨_, c.toNat, by simp [tN], by simp [tN]; omega, ?_, .inr ⟨w.heap.size, (madeCells zv.cells (c.toNat * inf.size)).toList, e, rfl, ?_, hll, by omega, ?_⟩⟩ ⟨?_, fun k x hx => ?_⟩ ?_
   · rw [List.length_take, hll, Nat.min_eq_left hle']; simp [tN]
   · simpa [Ctx.rc] using hnew
   · simp [tN]
   · rw [List.length_take, hll, Nat.min_eq_left hle']; simp [tN]
   · have hkl := get_lt hx
     simp only [List.length_replicate, tN] at hkl
     simp only [List.getElem?_replicate, tN] at hx
     rw [if_pos hkl] at hx
     · cases hx
       rw [List.drop_take, List.take_take]
       have e1 : min ty.size (l.toNat * ty.size - k * ty.size) = ty.size := by
         rw [<- Nat.sub_mul]
         exact Nat.min_eq_left (Nat.le_mul_of_pos_left _ (by omega))
       rw [e1]
       have := made_chunk zv.cells (by omega) l.toNat c.toNat k (by omega) hkl
       rw [hzs, hsz] at this
       rw [hsz, this]
       exact zero_rep hzo hz _ _
   · simp only [List.length_replicate, tN, lim]; omega
theorem elems_ok {c : RC} {E : Env} (hcE : c.E = E) {s : St} {a : Act} (ev : ∀ x, VRel c (s.eval x) (a.eval x)) {t : Ty} (ht : t.leafB = true ∨ t.isPair = true) : ∀ (ps : List (Nat × Operand)) (i : Nat) (xs : List t.den), elemsV E (fun _ => none) s.eval t i ps = some xs ->
   (ps.map fun (p : Nat × Operand) => (p.1, a.eval p.2)) = ((ps.map fun p => a.eval p.2).zipIdx i).map (fun x => (x.2, x.1)) /\ xs.length = ps.length /\
     (∀ v ∈ ps.map (fun p => a.eval p.2), v.cells.size = t.size) /\ Chunks c.E c.X c.w t xs ((ps.map fun p => a.eval p.2).flatMap fun v => v.cells.toList)
 | [], i, xs, hx => by
   simp only [elemsV, Option.some.injEq] at hx
   subst hx
   exact ⟨rfl, rfl, by simp, Chunks.nil⟩
 | (k, x) :: ps, i, xs, hx => by
   simp only [elemsV] at hx
   split at hx
   · rename_i y ys h1 h2 h3
     cases hx
     obtain ⟨q1, q2, q3, q4⟩ := elems_ok hcE ev ht ps (i + 1) ys h3
     have hk := Nat.eq_of_beq_eq_true h1
     subst hk
     subst hcE
     have hr := vd_cells (toV_ok (c := c) (fun i o hi => by cases hi) h2 (ev x))
     have hr' : Rep c.E c.X c.w t y (a.eval x).cells.toList := hr.mono (Nat.le_refl _) fun b _ hb => by
       rcases hb with (hb | ⟨i, _, _, _, hb, _⟩) | ⟨i, _, _, hb, _⟩
       · exact ⟨hb, rfl⟩
       · cases hb
       · cases hb
     refine ⟨?_, by simp [q2], ?_, ?_⟩
     · simp only [List.map_cons, List.zipIdx_cons, List.map_cons, q1]
     · intro v hv
       simp only [List.map_cons, List.mem_cons] at hv
       rcases hv with rfl | hv
       · have := hr'.length
         simpa using this
       · exact q3 v hv
     · simp only [List.map_cons, List.flatMap_cons]
       exact Chunks.cons hr' q4
   · cases hx
theorem run_buildSlice0 (w : World) (t e : TypeId) {ie : TypeInfo} (hu : P.underlying t = some (.slice e)) (hie : P.info? e = some ie) :
   (Instr.buildSlice t 0 #[]).run P w = .ok (.slice (some ⟨w.heap.size, 0, none⟩) 0 0) (w.alloc (.cells #[] e)) := by
 simp [Instr.buildSlice, run_underlying hu, sizeOf, typeInfo, hie, newRow, Instr.fill, Array.range_zero']
theorem op_buildSlice0 (hE : EnvOK P G.E) (h : Holds G s a w m) {t : TypeId} {parts : Array (Nat × Operand)} (ho : o.op = .buildSlice t 0 parts) (hp : parts.toList = []) {z : Nat} (hz : elemSize G.E t = some z) (hk : K (.emp false) []) : Ok1 P G s a w m o K := by
 obtain ⟨e, inf, hu, hinf, _, _⟩ := elemSize_some hE hz
 have hp' : parts = #[] := by cases parts; simp_all
 subst hp'
 have := run_buildSlice0 (P := P) w t e hu hinf
 have hex : (execOp a.eval o).run P w = .ok (.value (.slice (some ⟨w.heap.size, 0, none⟩) 0 0)) (w.alloc (.cells #[] e)) := by simp [execOp, ho, this]
 refine .grow h (v := .emp false) (val := .slice (some ⟨w.heap.size, 0, none⟩) 0 0) hex (keep_alloc _ _ _) (fun _ _ => ⟨_, rfl, rfl⟩) hk
theorem op_buildSlice (hE : EnvOK P G.E) (h : Holds G s a w m) {t e : TypeId} {len : Nat} {parts : Array (Nat × Operand)} (ho : o.op = .buildSlice t len parts) (hne : parts.toList ≠ []) (hkd : (G.E.ti t).map (fun i => i.kind) = some (TK.slice e)) {ty : Ty} (hty : G.E.ty e = some ty)
   {xs : List ty.den} (hx : elemsV G.E (fun _ => none) s.eval ty 0 parts.toList = some xs) (hlen : parts.toList.length = len) (hsm : len * ty.size <= 16777216) (hk : K (.os s.objs.length) [.arr ty xs false]) : Ok1 P G s a w m o K := by
 obtain ⟨ie, inf, zv, hie, hu, hinf, hzv, hzs, hsz, hpos, hby, hzo, hiety⟩ := elem_ti hE hkd hty
 have htk : ty.leafB = true ∨ ty.isPair = true := by
   obtain ⟨inf', d', T'⟩ := hE.ti hie
   exact (T'.ty _ hiety).2.2
 obtain ⟨q1, q2, q3, q4⟩ := elems_ok (c := G.rc s.objs m w) rfl (eval_ok h) htk parts.toList 0 xs hx
 have hl0 : 0 < parts.toList.length := List.length_pos_iff.2 hne
 have hfill := Great.fill_whole (s := inf.size) hpos (parts.toList.map fun (p : Nat × Operand) => a.eval p.2) ((Array.range (len * inf.size)).map (zv.cells[· % zv.cells.size]!)) (fun v hv => by rw [hsz]; exact q3 v hv) (by simp only [List.length_map, hlen, Array.size_map, Array.size_range])
 have hrun := run_buildSlice (P := P) w t e len (parts.map fun (p : Nat × Operand) => (p.1, a.eval p.2)) _ inf zv hu hinf hzv (by rw [hsz]; omega) (by
   have : 0 < len * inf.size := Nat.mul_pos (by omega) hpos
   omega) (by rw [Array.toList_map, q1]; exact hfill)
 have hxl : xs.length = len := by rw [q2, hlen]
 have hfl := q4.1
 have hex : (execOp a.eval o).run P w = .ok (.value (.slice (some ⟨w.heap.size, 0, none⟩) len len)) (w.alloc (.cells ((parts.toList.map fun (p : Nat × Operand) => a.eval p.2).flatMap fun (v : Value) => v.cells.toList).toArray e)) := by
   simp only [execOp, ho, Sem.run_bind, hrun, Result.andThen_ok, Sem.run_pure]
 refine .new h (v := .os s.objs.length) (.slice (some ⟨w.heap.size, 0, none⟩) len len) (.arr ty xs false) hex (keep_alloc _ _ _) (fun b hb => ?_) (fun hle => ?_) ⟨by simp [Ctx.rc], by simp [Ctx.rc], _, _, _, rfl⟩ hk
 · simp only [rows_p, rows_s, blk] at hb
   split at hb
   · cases hb
   · simp only [Option.some.injEq] at hb; omega
 · have hnew := heap_alloc_new' w (.cells ((parts.toList.map fun (p : Nat × Operand) => a.eval p.2).flatMap fun (v : Value) => v.cells.toList).toArray e)
   have hsp : 0 < ty.size := by omega
   have hlenle : len <= len * ty.size := Nat.le_mul_of_pos_right _ hsp
   refine orel_row (vs := (parts.toList.map fun (p : Nat × Operand) => a.eval p.2).flatMap fun (v : Value) => v.cells.toList) ⟨_, len, by rw [hxl], by rw [hxl]; exact Nat.le_refl _, hfl, .inr ⟨w.heap.size, _, e, rfl, hnew, by rw [hfl, hxl], by omega, ?_⟩⟩ (Chunks.mono (X := (G.rc s.objs m w).X) (w := w) hle.size (fun b hb hX => hle.X b hb hX) q4) (by simp only [lim]; omega)
   rw [List.take_of_length_le (by rw [hfl]; exact Nat.le_refl _)]
end Go.Ab


namespace Go.Ab
variable {P : Program} {G : Ctx} {s : St} {a : Act} {w : World} {m : Nat -> Value} {o : Oper} {K : K1} {O : Nat -> Prop}
def fillVals : List Value -> Nat -> List Value -> List Value
 | cs, _, [] => cs
 | cs, off, v :: r => fillVals (cs.set off v) (off + 1) r
theorem fillVals_length : ∀ (us cs : List Value) (off : Nat), (fillVals cs off us).length = cs.length
 | [], _, _ => rfl
 | u :: us, cs, off => by simp [fillVals, fillVals_length us]
theorem fold_fill (off : Nat) : ∀ (us : List Value) (s : Nat) (cs : List Value), (us.zipIdx s).foldl (fun (cs : Array Value) (x : Value × Nat) => cs.setIfInBounds (off + x.2) x.1) cs.toArray = (fillVals cs (off + s) us).toArray
 | [], s, cs => rfl
 | u :: us, s, cs => by
   simp only [List.zipIdx_cons, List.foldl_cons, fillVals]
   have := fold_fill off us (s + 1) (cs.set (off + s) u)
   rw [<- Nat.add_assoc] at this
   rw [<- this]
   congr 1
   simp
theorem VRelL.fill {c : RC} : ∀ {l : List AV} {us : List Value} {cs : List AV} {vs : List Value} (off : Nat), VRelL c cs vs -> VRelL c l us -> VRelL c (fillCells cs off l) (fillVals vs off us)
 | [], us, cs, vs, off, h, r => by
   simp only [VRelL] at r
   subst r
   exact h
 | x :: l, us, cs, vs, off, h, r => by
   simp only [VRelL] at r
   obtain ⟨v, q, rfl, r1, r2⟩ := r
   exact VRelL.fill (off + 1) (h.set off x v r1) r2
theorem build_ok {c : RC} {i : TI} {s : St} {a : Act} (ev : ∀ x, VRel c (s.eval x) (a.eval x)) {places : Array (Nat × Nat)} (hp : ∀ f off size ft, i.field f = some (off, size, ft) -> places[f]? = some (off, size)) :
   ∀ (ps : List (Nat × Operand)) (cs : List AV) (vs : List Value) (cs' : List AV), buildV i s.eval cs ps = some cs' -> VRelL c cs vs ->
     ∃ vs', Instr.fill (fun x => places[x]?) vs.toArray (ps.map fun (p : Nat × Operand) => (p.1, a.eval p.2)) = some (List.toArray vs') /\ VRelL c cs' vs'
 | [], cs, vs, cs', hb, h => by
   simp only [buildV, Option.some.injEq] at hb
   subst hb
   exact ⟨vs, rfl, h⟩
 | (f, x) :: ps, cs, vs, cs', hb, h => by
   simp only [buildV] at hb
   split at hb
   · rename_i off size ft hf
     split at hb
     · rename_i l hl
       split at hb
       · rename_i h1 h2
         have h1 := Nat.eq_of_beq_eq_true h1
         have h2 := Nat.le_of_ble_eq_true h2
         have hc := cells_ok hl (ev x)
         have hlen := hc.length
         have hlen2 := h.length
         obtain ⟨vs', g1, g2⟩ := build_ok ev hp ps (fillCells cs off l) (fillVals vs off (a.eval x).cells.toList) cs' hb (h.fill off hc)
         refine ⟨vs', ?_, g2⟩
         simp only [List.map_cons]
         unfold Instr.fill
         simp only [hp f off size ft hf]
         have hsz : (a.eval x).cells.size = size := by rw [<- Array.length_toList, hlen, h1]
         rw [if_neg (by simp [hsz]; omega)]
         rw [<- g1]
         congr 1
         rw [<- Array.foldl_toList, Array.toList_zipIdx]
         have := fold_fill off (a.eval x).cells.toList 0 vs
         rw [Nat.add_zero] at this
         rw [<- this]
       · cases hb
     · cases hb
   · cases hb
theorem places_ok : ∀ {fs : List (Nat × Nat × Nat)} {l : List Field}, fieldsOK P fs l = true -> l.mapM (fun f => (P.info? f.type).map fun i => (f.offset, i.size)) = some (fs.map fun x => (x.1, x.2.1))
 | [], [], _ => rfl
 | [], _ :: _, h => by simp [fieldsOK] at h
 | _ :: _, [], h => by simp [fieldsOK] at h
 | (off, size, ft) :: fs, f :: l, h => by
   simp only [fieldsOK, Bool.and_eq_true] at h
   obtain ⟨⟨⟨⟨h1, h2⟩, h3⟩, h4⟩, h5⟩ := h
   have ih := places_ok h5
   split at h3
   · rename_i j hj
     simp only [List.mapM_cons, hj, Option.map_some, Option.bind_eq_bind, Option.bind_some, ih, Option.pure_def, List.map_cons]
     rw [<- Nat.eq_of_beq_eq_true h1, Nat.eq_of_beq_eq_true h3]
   · cases h3
theorem op_build (hE : EnvOK P G.E) (h : Holds G s a w m) {t : TypeId} {parts : Array (Nat × Operand)} (ho : o.op = .build t parts) {i : TI} (hi : G.E.ti t = some i) (hag : isAggT G.E t = true) {cs : List AV} (hb : buildV i s.eval i.zero parts.toList = some cs) (hk : K (.agg cs) []) : OkP P G s a w m o K := by
 obtain ⟨inf, d, T⟩ := hE.ti hi
 obtain ⟨z, hz, hz2⟩ := T.zero
 unfold isAggT at hag
 rw [hi] at hag
 simp only [Option.map_some] at hag
 cases hk' : i.kind <;> rw [hk'] at hag <;> simp only [Bool.false_eq_true] at hag
 rename_i fs
 obtain ⟨fields, rfl, hok⟩ := T.kstruct fs hk'
 have hpl := places_ok hok
 obtain ⟨vs', g1, g2⟩ := build_ok (c := G.rc s.objs m w) (a := a) (eval_ok h) (places := (fs.map fun x => (x.1, x.2.1)).toArray) (i := i) (fun f off size ft hf => by
   unfold TI.field at hf
   rw [hk'] at hf
   simp only at hf
   simp [hf]) parts.toList i.zero z.cells.toList cs hb (zeroOK_rel _ _ _ hz2)
 have hrun := fun w => run_build (P := P) w t (parts.map fun (p : Nat × Operand) => (p.1, a.eval p.2)) vs'.toArray (by
   unfold Program.built
   simp only [T.info, T.desc, hz, hpl, Array.toList_map]
   simpa using g1)
 have hex : ∀ w, (execOp a.eval o).run P w = .ok (.value (.agg vs'.toArray)) w := fun w => by
   simp only [execOp, ho, Sem.run_bind, hrun, Result.andThen_ok, Sem.run_pure]
 exact .lit (v := .agg cs) hex ⟨vs', rfl, g2⟩ hk
theorem toList_two {α : Type} {x : Array α} {a b : α} (h : x.toList = [a, b]) : x = #[a, b] := by cases x; simp_all
theorem toList_one {α : Type} {x : Array α} {a : α} (h : x.toList = [a]) : x = #[a] := by cases x; simp_all
theorem map_two {α β : Type} {x : List α} {f : α -> β} {p q : β} (h : x.map f = [p, q]) : ∃ a b, x = [a, b] /\ f a = p /\ f b = q := by
 match x, h with
 | [a, b], h => simp at h; exact ⟨a, b, rfl, h⟩
theorem map_one {α β : Type} {x : List α} {f : α -> β} {p : β} (h : x.map f = [p]) : ∃ a, x = [a] /\ f a = p := by
 match x, h with
 | [a], h => simp at h; exact ⟨a, rfl, h⟩
theorem op1_ok (hP : G.P = P) (hE : EnvOK P G.E) (h : Holds G s a w m) (hk : op1 G.E s.eval s.heap s.objs.length o K) : Ok1 P G s a w m o K := by
 unfold op1 at hk
 split at hk
 · rename_i x ho
   exact (op_move h (.inl ho) hk).ok1 h
 ·
   rename_i x ho
   split at hk
   · rename_i b e hx he
     split at hk
     · exact op_emp h ho hx hk
     · cases hk
   · exact (op_move h (.inr ho) hk).ok1 h
 ·
   rename_i c x y ho
   obtain ⟨b, hb, hk⟩ := pickP_ok hk
   exact (op_pick h ho hb hk).ok1 h
 ·
   rename_i t ho
   split at hk
   · rename_i i hi
     exact op_alloc hE h ho hi hk
   · cases hk
 ·
   rename_i t x ho
   split at hk
   · split at hk
     · rename_i l hl
       exact op_box h ho hl hk
     · cases hk
   · cases hk
 ·
   rename_i t parts ho
   split at hk
   · rename_i i hi
     split at hk
     · rename_i cs hag hb
       exact (op_build hE h ho hi hag hb hk).ok1 h
     · cases hk
   · cases hk
 ·
   rename_i t len parts ho
   split at hk
   · rename_i hp
     split at hk
     · rename_i z hz
       exact op_buildSlice0 hE h ho hp hz hk
     · cases hk
   · rename_i hp
     split at hk
     · rename_i e hkd
       split at hk
       · rename_i ty hty
         split at hk
         · rename_i xs hx h1 h2
           exact op_buildSlice hE h ho (fun hh => hp hh) hkd hty hx (Nat.eq_of_beq_eq_true h1) (Nat.le_of_ble_eq_true h2) hk
         · cases hk
       · cases hk
     · cases hk
 · rename_i t x ho
   exact (op_load (O := fun _ => False) hE h (fun _ hh => hh.elim) (fun _ _ hh => hh) ho hk).ok1 h
 ·
   rename_i x ho
   split at hk
   · rename_i e; exact (op_nilCheck h ho (.inl ⟨_, _, e⟩) (by rw [e]; exact hk)).ok1 h
   · rename_i e; exact (op_nilCheck h ho (.inr (.inl ⟨_, e⟩)) (by rw [e]; exact hk)).ok1 h
   · rename_i e; exact (op_nilCheck h ho (.inr (.inr (.inl ⟨_, _, _, _, e⟩))) (by rw [e]; exact hk)).ok1 h
   · rename_i e; exact (op_nilCheck h ho (.inr (.inr (.inr (.inl ⟨_, _, _, e⟩)))) (by rw [e]; exact hk)).ok1 h
   · rename_i e; exact (op_nilCheck h ho (.inr (.inr (.inr (.inr ⟨_, _, e⟩)))) (by rw [e]; exact hk)).ok1 h
   · cases hk
 · rename_i op t x y u ho
   exact (op_bin hP hE h ho hk).ok1 h
 ·
   rename_i op t x ho
   split at hk
   · rename_i b e; exact (op_not h ho (b := b) (by rw [e]; rfl) (.inl rfl) hk).ok1 h
   · rename_i b e; exact (op_not h ho (b := b) (by rw [e]; rfl) (.inr rfl) hk).ok1 h
   · rename_i k n e; exact (op_neg h ho e hk).ok1 h
   · cases hk
 · rename_i src dst x ho
   exact op_convert hE h ho hk
 ·
   rename_i t x ho
   split at hk
   · rename_i k ht; exact (op_iface hE h ho ht (.inr (.inr ⟨_, rfl⟩)) hk).ok1 h
   · rename_i ht; exact (op_iface hE h ho ht (.inl rfl) hk).ok1 h
   · rename_i ht; exact (op_iface hE h ho ht (.inr (.inl rfl)) hk).ok1 h
   · cases hk
 ·
   rename_i f first captured ho
   split at hk
   · rename_i hf
     exact (op_fn h ho hf hk).ok1 h
   · cases hk
 ·
   rename_i t xl xc ho
   split at hk
   · rename_i e l c hkd hl hc
     split at hk
     · rename_i i hi
       split at hk
       · rename_i ty hty
         split at hk
         · rename_i z hz
           exact op_makeSlice hE h ho hkd hl hc hi hty hz hk.1 hk.2
         · cases hk
       · cases hk
     · cases hk
   · cases hk
 · rename_i t x lo hi ho
   exact (op_slice hE h ho hk).ok1 h
 · rename_i t x f ho
   exact (op_fieldAddr hE h ho hk).ok1 h
 · rename_i t x f ho
   exact (op_field hE h ho hk).ok1 h
 · rename_i t x i ho
   exact (op_indexAddr hE h ho hk).ok1 h
 ·
   rename_i t x i ho
   split at hk
   · rename_i l k n hx hi ht
     exact (op_index hE h ho hx hi ht hk).ok1 h
   · cases hk
 ·
   rename_i t i ho
   split at hk
   · rename_i l hl
     split at hk
     · rename_i v hv
       exact (op_extract h ho hl hv hk).ok1 h
     · cases hk
   · cases hk
 ·
   rename_i x xT t ok ho
   split at hk
   · rename_i v hx
     split at hk
     · rename_i h2
       exact (op_assert hE h ho hx (.inl ⟨Nat.eq_of_beq_eq_true h2, hk⟩)).ok1 h
     · rename_i h2 _
       exact (op_assert hE h ho hx (.inr (.inl ⟨Nat.eq_of_beq_eq_true h2, hk⟩))).ok1 h
     · rename_i h2 _ _
       exact (op_assert hE h ho hx (.inr (.inr ⟨Nat.eq_of_beq_eq_true h2, hk⟩))).ok1 h
     · cases hk
   · cases hk
 ·
   rename_i b args ts ho
   split at hk
   · rename_i x hx
     split at hk
     · rename_i t ht
       obtain ⟨x', hx', rfl⟩ := map_one hx
       exact (op_len hE h ho hx' ht hk).ok1 h
     · cases hk
   · rename_i k p k' q hx
     obtain ⟨x', y', hx', e1, e2⟩ := map_two hx
     obtain ⟨rfl, hk⟩ := hk
     exact (op_mm (mx := false) h (by rw [ho, toList_two hx']; rfl) e1 e2 hk).ok1 h
   · rename_i k p k' q hx
     obtain ⟨x', y', hx', e1, e2⟩ := map_two hx
     obtain ⟨rfl, hk⟩ := hk
     exact (op_mm (mx := true) h (by rw [ho, toList_two hx']; rfl) e1 e2 hk).ok1 h
   · rename_i c x hx
     split at hk
     · rename_i t t' ht
       split at hk
       · rename_i e hb hkd
         obtain ⟨x', y', hx', e1, rfl⟩ := map_two hx
         have := Nat.eq_of_beq_eq_true hb
         subst this
         exact op_appendNew hE h (by rw [ho, toList_two hx', toList_two ht]) e1 hkd hk
       · cases hk
     · cases hk
   · cases hk
 ·
   rename_i f args ts ho
   split at hk
   · rename_i as b p hf
     exact op_callFp hP h ho hf hk
   · cases hk
 · cases hk
end Go.Ab


namespace Go.Ab
variable {P : Program} {G : Ctx} {s : St} {a : Act} {w : World} {m : Nat -> Value} {o : Oper}
theorem put_ok {c : RC} {s : St} {a : Act} (h : VRelL c s.tmps a.tmps.toList) {v : AV} {val : Value} (r : VRel c v val) (dst : Option Nat) : VRelL c (s.put dst v).tmps (a.put dst val).tmps.toList := by
 cases dst with
 | none => exact h
 | some d =>
   simp only [St.put, Act.put, Array.toList_setIfInBounds]
   exact h.set d v val r
theorem put_objs (s : St) (dst : Option Nat) (v : AV) : (s.put dst v).objs = s.objs := by cases dst <;> rfl
theorem put_keep (s : St) (dst : Option Nat) (v : AV) : (s.put dst v).keep = s.keep := by cases dst <;> rfl
theorem put_defers (a : Act) (dst : Option Nat) (v : Value) : (a.put dst v).defers = a.defers := by cases dst <;> rfl
theorem Holds.put (h : Holds G s a w m) {v : AV} {val : Value} (r : VRel (G.rc s.objs m w) v val) (dst : Option Nat) : Holds G (s.put dst v) (a.put dst val) w m :=
 { o := by rw [put_objs]; exact h.o, tmps := by rw [put_objs]; exact put_ok h.tmps r dst, defers := by rw [put_defers]; exact h.defers, kp := by rw [put_objs, put_keep]; exact h.kp }
structure LeX (i : Nat) (c c' : RC) : Prop where
 P : c'.P = c.P
 E : c'.E = c.E
 m : ∀ j, j < c.n -> j ≠ i -> c'.m j = c.m j
 n : c.n <= c'.n
 size : c.w.heap.size <= c'.w.heap.size
 S : ∀ b, b < c.w.heap.size -> c.S b -> c'.S b /\ c'.w.heap[b]? = c.w.heap[b]?
 X : ∀ b, b < c.w.heap.size -> c.X b -> c'.X b /\ c'.w.heap[b]? = c.w.heap[b]?
theorem beq_ne {i j : Nat} (h : Nat.beq i j = false) : j ≠ i := by
 rintro rfl
 simp at h
mutual
theorem VRel.killed {i : Nat} {c c' : RC} (h : LeX i c c') : ∀ {x : AV} {v : Value}, VRel c x v -> VRel c' (x.kill i) v
 | .d t x, v, r => by
   simp only [AV.kill, VRel] at *
   exact ⟨r.1, by rw [h.E]; exact r.2.mono h.size h.X⟩
 | .lb b, v, r => r
 | .emp n, v, r => r
 | .agg l, v, r => by
   simp only [AV.kill, VRel] at *
   obtain ⟨vs, rfl, r⟩ := r
   exact ⟨vs, rfl, VRelL.killed h r⟩
 | .tup l, v, r => by
   simp only [AV.kill, VRel] at *
   obtain ⟨vs, rfl, r⟩ := r
   exact ⟨vs, rfl, VRelL.killed h r⟩
 | .os j, v, r => by
   simp only [AV.kill]
   cases hb : Nat.beq i j with
   | true => simp only [cond_true, VRel]
   | false =>
     simp only [cond_false, VRel] at *
     exact ⟨Nat.lt_of_lt_of_le r.1 h.n, by rw [h.m j r.1 (beq_ne hb)]; exact r.2⟩
 | .oss j sz lo hi, v, r => by
   simp only [AV.kill]
   cases hb : Nat.beq i j with
   | true => simp only [cond_true, VRel]
   | false =>
     simp only [cond_false, VRel] at *
     exact ⟨Nat.lt_of_lt_of_le r.1 h.n, by rw [h.m j r.1 (beq_ne hb)]; exact r.2⟩
 | .p j off, v, r => by
   simp only [AV.kill]
   cases hb : Nat.beq i j with
   | true => simp only [cond_true, VRel]
   | false =>
     simp only [cond_false, VRel] at *
     exact ⟨Nat.lt_of_lt_of_le r.1 h.n, by rw [h.m j r.1 (beq_ne hb)]; exact r.2⟩
 | .pc l, v, r => by
   simp only [AV.kill, VRel] at *
   obtain ⟨b, o, rfl, hb, hS, cs, hc, r⟩ := r
   exact ⟨b, o, rfl, Nat.lt_of_lt_of_le hb h.size, (h.S b hb hS).1, cs, fun j x hj => by rw [cell?_congr (h.S b hb hS).2]; exact hc j x hj, VRelL.killed h r⟩
 | .pe j n k off, v, r => by
   simp only [AV.kill]
   cases hb : Nat.beq i j with
   | true => simp only [cond_true, VRel]
   | false =>
     simp only [cond_false, VRel] at *
     exact ⟨Nat.lt_of_lt_of_le r.1 h.n, by rw [h.m j r.1 (beq_ne hb)]; exact r.2⟩
 | .fn f l, v, r => by
   simp only [AV.kill, VRel] at *
   obtain ⟨vs, rfl, r⟩ := r
   exact ⟨vs, rfl, VRelL.killed h r⟩
 | .fp ts b p, v, r => by
   simp only [AV.kill, VRel] at *
   rw [h.P, h.E]
   exact r.mono h.size h.S
 | .ifc t x, v, r => by
   simp only [AV.kill, VRel] at *
   obtain ⟨u, rfl, r⟩ := r
   exact ⟨u, rfl, VRel.killed h r⟩
 | .nili, v, r => r
 | .any, _, _ => by simp only [AV.kill, VRel]
 | .oz j, v, r => by
   simp only [AV.kill]
   cases hb : Nat.beq i j with
   | true => simp only [cond_true, VRel]
   | false =>
     simp only [cond_false, VRel] at *
     exact ⟨Nat.lt_of_lt_of_le r.1 h.n, by rw [h.m j r.1 (beq_ne hb)]; exact r.2⟩
theorem VRelL.killed {i : Nat} {c c' : RC} (h : LeX i c c') : ∀ {l : List AV} {vs : List Value}, VRelL c l vs -> VRelL c' (AV.killL i l) vs
 | [], vs, r => r
 | x :: l, vs, r => by
   simp only [AV.killL, VRelL] at *
   obtain ⟨v, q, rfl, r1, r2⟩ := r
   exact ⟨v, q, rfl, VRel.killed h r1, VRelL.killed h r2⟩
end
theorem kill_some {i : Nat} {x : Option Obj} {p : Obj} (h : Obj.kill i x = some p) : ∃ q, x = some q /\ ((∃ cs, q = .box cs /\ p = .box (AV.killL i cs)) ∨ (∃ t xs f, q = .arr t xs f /\ p = q) ∨ (∃ t xs, q = .zone t xs /\ p = q)) := by
 cases x with
 | none => cases h
 | some q =>
   cases q with
   | box cs => simp only [Obj.kill, Option.some.injEq] at h; exact ⟨_, rfl, .inl ⟨cs, rfl, h.symm⟩⟩
   | arr t xs f => simp only [Obj.kill, Option.some.injEq] at h; exact ⟨_, rfl, .inr (.inl ⟨t, xs, f, rfl, h.symm⟩)⟩
   | zone t xs => simp only [Obj.kill, Option.some.injEq] at h; exact ⟨_, rfl, .inr (.inr ⟨t, xs, rfl, h.symm⟩)⟩
theorem ORel.changed {c c' : RC} {v : Value} {o p : Obj} (hE : c'.E = c.E) (hs : c.w.heap.size <= c'.w.heap.size) (hX : ∀ b, b < c.w.heap.size -> c.X b -> c'.X b /\ c'.w.heap[b]? = c.w.heap[b]?)
   (hk : ∀ b, rows v b -> c'.w.heap[b]? = c.w.heap[b]?) (r : ORel c v o)
   (hp : (∃ cs cs', o = .box cs /\ p = .box cs' /\ ∀ vs, VRelL c cs vs -> VRelL c' cs' vs) ∨ (∃ t xs f, o = .arr t xs f /\ p = o) ∨ (∃ t xs, o = .zone t xs /\ p = o)) : ORel c' v p := by
 rcases hp with ⟨cs, cs', rfl, rfl, hc⟩ | ⟨t, xs, f, rfl, rfl⟩ | ⟨t, xs, rfl, rfl⟩
 · obtain ⟨b, t, vs, rfl, hb, r⟩ := r
   exact ⟨b, t, vs, rfl, by rw [hk b rfl]; exact hb, hc vs r⟩
 · obtain ⟨ad, n, cap, rfl, hn, hc, hl, r⟩ := r
   refine ⟨ad, n, cap, rfl, hn, hc, hl, ?_⟩
   rcases r with r | ⟨b, vs, e, rfl, hb, hv, hm, r⟩
   · exact .inl r
   · rcases Nat.eq_zero_or_pos cap with h0 | h0
     · exact .inl h0
     · refine .inr ⟨b, vs, e, rfl, ?_, hv, hm, fun k x hx => by rw [hE]; exact (r k x hx).mono hs hX⟩
       rw [hk b (by simp [rows_p, rows_s, blk]; omega)]; exact hb
 · obtain ⟨hd, l, rfl, r, ha⟩ := r
   refine ⟨hd, l, rfl, ?_, ha⟩
   rw [hE]
   exact r.mono fun u hu b hb => hk b ⟨u, hu, hb⟩
def upd1 (m : Nat -> Value) (i : Nat) (v : Value) : Nat -> Value := fun j => if j = i then v else m j
@[simp] theorem upd1_self {m : Nat -> Value} {i : Nat} {v : Value} : upd1 m i v i = v := by simp [upd1]
theorem upd1_ne {m : Nat -> Value} {i j : Nat} {v : Value} (h : j ≠ i) : upd1 m i v j = m j := by simp [upd1, h]
def renewed (objs : List (Option Obj)) (i : Nat) (o' : Option Obj) : List (Option Obj) := (objs.map (Obj.kill i)).set i o'
theorem renewed_get {objs : List (Option Obj)} {i j : Nat} {o' : Option Obj} {p : Obj} (h : (renewed objs i o')[j]? = some (some p)) :
   (j = i /\ o' = some p /\ i < objs.length) ∨ (j ≠ i /\ ∃ q, objs[j]? = some (some q) /\ Obj.kill i (some q) = some p) := by
 unfold renewed at h
 by_cases hj : j = i
 · subst hj
   left
   have hlt := get_lt h
   simp at hlt
   rw [List.getElem?_set_self (by simpa using hlt)] at h
   exact ⟨rfl, Option.some.inj h, hlt⟩
 · right
   rw [List.getElem?_set_ne (Ne.symm hj), List.getElem?_map] at h
   cases hg : objs[j]? with
   | none => rw [hg] at h; cases h
   | some x =>
     rw [hg] at h
     simp only [Option.map_some, Option.some.injEq] at h
     obtain ⟨q, rfl, _⟩ := kill_some h
     exact ⟨hj, q, rfl, h⟩
theorem HoldsO.renew {objs : List (Option Obj)} {w' : World} (h : HoldsO G objs m w) {i : Nat} {o : Obj} (hi : objs[i]? = some (some o)) (v' : Value) (o' : Option Obj) (hk : Keep (fun b => rows (m i) b) w w')
   (hnew : ∀ p b, o' = some p -> rows v' b -> rows (m i) b ∨ w.heap.size <= b)
   (hfx : ∀ p, o' = some p -> i < G.n0 -> p.fixed = true -> v' = G.m0 i)
   (hrel : LeX i (G.rc objs m w) (G.rc (renewed objs i o') (upd1 m i v') w') -> ∀ p, o' = some p -> ORel (G.rc (renewed objs i o') (upd1 m i v') w') v' p) :
   HoldsO G (renewed objs i o') (upd1 m i v') w' /\ LeX i (G.rc objs m w) (G.rc (renewed objs i o') (upd1 m i v') w') := by
 have hown : ∀ b, b < w.heap.size -> Own (renewed objs i o') (upd1 m i v') b -> Own objs m b := by
   rintro b hb ⟨j, p, hp, hbk⟩
   rcases renewed_get hp with ⟨rfl, ho', _⟩ | ⟨hj, q, hq, _⟩
   · rw [upd1_self] at hbk
     rcases hnew p b ho' hbk with h1 | h1
     · exact ⟨j, o, hi, h1⟩
     · omega
   · rw [upd1_ne hj] at hbk
     exact ⟨j, q, hq, hbk⟩
 have hkb : ∀ b, b < w.heap.size -> ¬ Own objs m b -> w'.heap[b]? = w.heap[b]? := fun b hb hn => hk.block b hb fun hh => hn ⟨i, o, hi, hh⟩
 have hle : LeX i (G.rc objs m w) (G.rc (renewed objs i o') (upd1 m i v') w') :=
   { P := rfl, E := rfl, m := fun j _ hj => upd1_ne hj, n := by simp [Ctx.rc, renewed], size := hk.size,
     S := fun b hb hS => ⟨fun ho => hS (hown b hb ho), hkb b hb hS⟩,
     X := fun b hb hX => ⟨⟨hX.1, fun ho => hX.2 (hown b hb ho)⟩, hkb b hb hX.2⟩ }
 refine ⟨{ rel := ?_, disj := ?_, keep := ?_, new := ?_, len := by simpa [renewed] using h.len, fix := ?_ }, hle⟩
 · intro j p hp
   rcases renewed_get hp with ⟨rfl, ho', _⟩ | ⟨hj, q, hq, hkq⟩
   · rw [upd1_self]
     exact hrel hle p ho'
   · rw [upd1_ne hj]
     refine ORel.changed (c := G.rc objs m w) rfl hk.size hle.X (fun b hb => hk.block b (h.own_lt ⟨j, q, hq, hb⟩) fun hh => hj (h.disj j i q o b hq hi hb hh)) (h.rel j q hq) ?_
     obtain ⟨q', e, hh⟩ := kill_some hkq
     cases e
     rcases hh with ⟨cs, rfl, rfl⟩ | ⟨t, xs, f, rfl, rfl⟩ | ⟨t, xs, rfl, rfl⟩
     · exact .inl ⟨cs, _, rfl, rfl, fun vs hv => hv.killed hle⟩
     · exact .inr (.inl ⟨t, xs, f, rfl, rfl⟩)
     · exact .inr (.inr ⟨t, xs, rfl, rfl⟩)
 · intro j k p q b hj hk' hbj hbk
   rcases renewed_get hj with ⟨rfl, ho1, _⟩ | ⟨hj1, q1, hq1, _⟩ <;> rcases renewed_get hk' with ⟨rfl, ho2, _⟩ | ⟨hj2, q2, hq2, _⟩
   · rfl
   · rw [upd1_self] at hbj
     rw [upd1_ne hj2] at hbk
     rcases hnew p b ho1 hbj with h1 | h1
     · exact h.disj j k o q2 b hi hq2 h1 hbk
     · have := h.own_lt ⟨k, q2, hq2, hbk⟩; omega
   · rw [upd1_self] at hbk
     rw [upd1_ne hj1] at hbj
     rcases hnew q b ho2 hbk with h1 | h1
     · exact h.disj j k q1 o b hq1 hi hbj h1
     · have := h.own_lt ⟨j, q1, hq1, hbj⟩; omega
   · rw [upd1_ne hj1] at hbj
     rw [upd1_ne hj2] at hbk
     exact h.disj j k q1 q2 b hq1 hq2 hbj hbk
 · refine { os := hk.os.trans h.keep.os, tape := hk.tape.trans h.keep.tape, output := hk.output.trans h.keep.output, frozen := fun a ha => (hk.frozen a (Nat.lt_of_lt_of_le ha h.keep.size)).trans (h.keep.frozen a ha), size := Nat.le_trans h.keep.size hk.size, block := fun b hb hn => ?_ }
   rw [hk.block b (Nat.lt_of_lt_of_le hb h.keep.size) (fun hh => ?_)]
   · exact h.keep.block b hb hn
   · rcases h.new b ⟨i, o, hi, hh⟩ with h1 | h1
     · exact hn h1
     · omega
 · rintro b ⟨j, p, hp, hbk⟩
   rcases renewed_get hp with ⟨rfl, ho', _⟩ | ⟨hj, q, hq, _⟩
   · rw [upd1_self] at hbk
     rcases hnew p b ho' hbk with h1 | h1
     · exact h.new b ⟨j, o, hi, h1⟩
     · exact .inr (Nat.le_trans h.keep.size h1)
   · rw [upd1_ne hj] at hbk
     exact h.new b ⟨j, q, hq, hbk⟩
 · intro j p hp hn hf
   rcases renewed_get hp with ⟨rfl, ho', _⟩ | ⟨hj, q, hq, hkq⟩
   · rw [upd1_self]; exact hfx p ho' hn hf
   · rw [upd1_ne hj]
     obtain ⟨q', e, hh⟩ := kill_some hkq
     cases e
     refine h.fix j q hq hn ?_
     rcases hh with ⟨cs, rfl, hh⟩ | ⟨t', xs', f, rfl, hh⟩ | ⟨t', xs', rfl, hh⟩
     · rfl
     · rw [hh] at hf; exact hf
     · rw [hh] at hf; exact hf
theorem HoldsO.write {objs : List (Option Obj)} {w' : World} (h : HoldsO G objs m w) {i : Nat} {o : Obj} (hi : objs[i]? = some (some o)) (o' : Obj) (hk : Keep (fun b => rows (m i) b) w w')
   (hfx : o'.fixed = true -> o.fixed = true)
   (hrel : (G.rc objs m w).Le (G.rc (objs.set i (some o')) m w') -> ORel (G.rc (objs.set i (some o')) m w') (m i) o') :
   HoldsO G (objs.set i (some o')) m w' /\ (G.rc objs m w).Le (G.rc (objs.set i (some o')) m w') := by
 have hilt := get_lt hi
 have get : ∀ {j : Nat} {p : Obj}, (objs.set i (some o'))[j]? = some (some p) -> (j = i /\ p = o') ∨ (j ≠ i /\ objs[j]? = some (some p)) := fun {j p} hp => by
   by_cases hj : j = i
   · subst hj
     rw [List.getElem?_set_self hilt] at hp
     exact .inl ⟨rfl, (Option.some.inj (Option.some.inj hp)).symm⟩
   · rw [List.getElem?_set_ne (Ne.symm hj)] at hp
     exact .inr ⟨hj, hp⟩
 have hown : ∀ b, Own (objs.set i (some o')) m b -> Own objs m b := by
   rintro b ⟨j, p, hp, hbk⟩
   rcases get hp with ⟨rfl, rfl⟩ | ⟨hj, hq⟩
   · exact ⟨j, o, hi, hbk⟩
   · exact ⟨j, p, hq, hbk⟩
 have hkb : ∀ b, b < w.heap.size -> ¬ Own objs m b -> w'.heap[b]? = w.heap[b]? := fun b hb hn => hk.block b hb fun hh => hn ⟨i, o, hi, hh⟩
 have hle : (G.rc objs m w).Le (G.rc (objs.set i (some o')) m w') :=
   { P := rfl, E := rfl, m := fun j _ => rfl, n := by simp [Ctx.rc], size := hk.size,
     S := fun b hb hS => ⟨fun ho => hS (hown b ho), hkb b hb hS⟩,
     X := fun b hb hX => ⟨⟨hX.1, fun ho => hX.2 (hown b ho)⟩, hkb b hb hX.2⟩ }
 refine ⟨{ rel := ?_, disj := ?_, keep := ?_, new := ?_, len := by simpa using h.len, fix := ?_ }, hle⟩
 · intro j p hp
   rcases get hp with ⟨rfl, rfl⟩ | ⟨hj, hq⟩
   · exact hrel hle
   · refine ORel.changed (c := G.rc objs m w) rfl hk.size hle.X (fun b hb => hk.block b (h.own_lt ⟨j, p, hq, hb⟩) fun hh => hj (h.disj j i p o b hq hi hb hh)) (h.rel j p hq) ?_
     cases p with
     | box cs => exact .inl ⟨cs, cs, rfl, rfl, fun vs hv => hv.mono hle⟩
     | arr t xs f => exact .inr (.inl ⟨t, xs, f, rfl, rfl⟩)
     | zone t xs => exact .inr (.inr ⟨t, xs, rfl, rfl⟩)
 · intro j k p q b hj hk' hbj hbk
   have live : ∀ {j : Nat} {p : Obj}, (objs.set i (some o'))[j]? = some (some p) -> ∃ p', objs[j]? = some (some p') := fun {j p} hh => by
     rcases get hh with ⟨rfl, _⟩ | ⟨_, hq⟩
     · exact ⟨o, hi⟩
     · exact ⟨p, hq⟩
   have e1 := live hj
   have e2 := live hk'
   obtain ⟨p', e1⟩ := e1
   obtain ⟨q', e2⟩ := e2
   exact h.disj j k p' q' b e1 e2 hbj hbk
 · refine { os := hk.os.trans h.keep.os, tape := hk.tape.trans h.keep.tape, output := hk.output.trans h.keep.output, frozen := fun a ha => (hk.frozen a (Nat.lt_of_lt_of_le ha h.keep.size)).trans (h.keep.frozen a ha), size := Nat.le_trans h.keep.size hk.size, block := fun b hb hn => ?_ }
   rw [hk.block b (Nat.lt_of_lt_of_le hb h.keep.size) (fun hh => ?_)]
   · exact h.keep.block b hb hn
   · rcases h.new b ⟨i, o, hi, hh⟩ with h1 | h1
     · exact hn h1
     · omega
 · intro b hb
   exact h.new b (hown b hb)
 · intro j p hp hn hf
   rcases get hp with ⟨rfl, rfl⟩ | ⟨hj, hq⟩
   · exact h.fix j o hi hn (hfx hf)
   · exact h.fix j p hq hn hf
structure LeF (i : Nat) (t : Ty) (xs : List t.den) (c c' : RC) : Prop where
 le : c.Le c'
 rep : Rep c'.E c'.X c'.w (.slice t) xs [c.m i]
mutual
theorem VRel.frozen {i : Nat} {t : Ty} {xs : List t.den} {c c' : RC} (h : LeF i t xs c c') : ∀ {x : AV} {v : Value}, VRel c x v -> VRel c' (x.freeze i t xs) v
 | .d t x, v, r => VRel.mono h.le r
 | .lb b, v, r => r
 | .emp n, v, r => r
 | .agg l, v, r => by
   simp only [AV.freeze, VRel] at *
   obtain ⟨vs, rfl, r⟩ := r
   exact ⟨vs, rfl, VRelL.frozen h r⟩
 | .tup l, v, r => by
   simp only [AV.freeze, VRel] at *
   obtain ⟨vs, rfl, r⟩ := r
   exact ⟨vs, rfl, VRelL.frozen h r⟩
 | .os j, v, r => by
   simp only [AV.freeze]
   cases hb : Nat.beq i j with
   | true =>
     have := Nat.eq_of_beq_eq_true hb
     subst this
     simp only [cond_true, VRel] at *
     rw [r.2.1]
     exact ⟨rfl, h.rep⟩
   | false => exact VRel.mono h.le r
 | .oss j sz lo hi, v, r => by
   simp only [AV.freeze]
   cases hb : Nat.beq i j with
   | true =>
     have := Nat.eq_of_beq_eq_true hb
     subst this
     simp only [cond_true, VRel] at *
     cases hsz : Nat.beq sz t.size with
     | true =>
       have := Nat.eq_of_beq_eq_true hsz
       subst this
       obtain ⟨_, ad, n, cap, ad', hm, h1, h2, h3, h4, rfl⟩ := r
       have := h.rep
       rw [hm] at this
       simp only [cond_true, VRel]
       exact ⟨rfl, rep_sub this h1 h2 h4⟩
     | false => simp only [cond_false, VRel]
   | false => exact VRel.mono h.le r
 | .p j off, v, r => by
   simp only [AV.freeze]
   cases hb : Nat.beq i j with
   | true => simp only [cond_true, VRel]
   | false => exact VRel.mono h.le r
 | .pc l, v, r => by
   simp only [AV.freeze, VRel] at *
   obtain ⟨b, o, rfl, hb, hS, cs, hc, r⟩ := r
   exact ⟨b, o, rfl, Nat.lt_of_lt_of_le hb h.le.size, (h.le.S b hb hS).1, cs, fun j x hj => by rw [cell?_congr (h.le.S b hb hS).2]; exact hc j x hj, VRelL.frozen h r⟩
 | .pe j n k off, v, r => by
   simp only [AV.freeze]
   cases hb : Nat.beq i j with
   | true => simp only [cond_true, VRel]
   | false => exact VRel.mono h.le r
 | .fn f l, v, r => by
   simp only [AV.freeze, VRel] at *
   obtain ⟨vs, rfl, r⟩ := r
   exact ⟨vs, rfl, VRelL.frozen h r⟩
 | .fp ts b p, v, r => VRel.mono h.le r
 | .ifc t x, v, r => by
   simp only [AV.freeze, VRel] at *
   obtain ⟨u, rfl, r⟩ := r
   exact ⟨u, rfl, VRel.frozen h r⟩
 | .nili, v, r => r
 | .any, _, _ => by simp only [AV.freeze, VRel]
 | .oz j, v, r => by
   simp only [AV.freeze]
   cases hb : Nat.beq i j with
   | true => simp only [cond_true, VRel]
   | false => exact VRel.mono h.le r
theorem VRelL.frozen {i : Nat} {t : Ty} {xs : List t.den} {c c' : RC} (h : LeF i t xs c c') : ∀ {l : List AV} {vs : List Value}, VRelL c l vs -> VRelL c' (AV.freezeL i t xs l) vs
 | [], vs, r => r
 | x :: l, vs, r => by
   simp only [AV.freezeL, VRelL] at *
   obtain ⟨v, q, rfl, r1, r2⟩ := r
   exact ⟨v, q, rfl, VRel.frozen h r1, VRelL.frozen h r2⟩
end
end Go.Ab


