/- The abstract machine of this claim, and its soundness against the model, part 1: proved once, for any program. Merged by a script out of the prover's texts AmDefs, AmExec, AmCode, AmRel, AmHeap, AmSteps, AmOk, AmOps, AmOps2, AmOps3, AmOps4, AmOps5, AmOps6, AmOps7, AmOps8, AmOps9. -/
import GoSem.Dispatch
import GoSem.Machine.Frame
import Derived.RangeFuncLeaves
import Derived.RangeFuncRecord
import Derived.OrdersIn
import Derived.Laws.IdiomCopy
import Derived.Laws.Sem
import Derived.RecoverIn
import Derived.Laws.StructEq
import Derived.Laws.Concat
import Derived.Laws.Build
namespace Am
open Go
inductive P where
  | z
  | d0 (p : P)
  | d1 (p : P)
  | d2 (p : P)
  | d3 (p : P)
  | d4 (p : P)
  | d5 (p : P)
  | d6 (p : P)
  | d7 (p : P)
  deriving DecidableEq
inductive Kd (β γ : Type) where
  | no (v : β)
  | yes (v : β) (a0 a1 a2 a3 a4 a5 a6 a7 : γ)
structure T (α : Type) where
  k : Kd (Option α) (T α)
def P.mk : Nat → P → P
  | 0, p => .d0 p
  | 1, p => .d1 p
  | 2, p => .d2 p
  | 3, p => .d3 p
  | 4, p => .d4 p
  | 5, p => .d5 p
  | 6, p => .d6 p
  | _, p => .d7 p
def pathF : Nat → Nat → P
  | 0, _ => .z
  | f + 1, k => match k.beq 0 with
    | true => .z
    | false => P.mk ((k - 1) % 8) (pathF f ((k - 1) / 8))
def path (k : Nat) : P := pathF k k
namespace T
variable {α : Type}
def e : T α := ⟨.no none⟩
def getP : P → T α → Option α
  | .z, ⟨.no v⟩ => v
  | .z, ⟨.yes v _ _ _ _ _ _ _ _⟩ => v
  | .d0 _, ⟨.no _⟩ => none
  | .d0 p, ⟨.yes _ a _ _ _ _ _ _ _⟩ => getP p a
  | .d1 _, ⟨.no _⟩ => none
  | .d1 p, ⟨.yes _ _ a _ _ _ _ _ _⟩ => getP p a
  | .d2 _, ⟨.no _⟩ => none
  | .d2 p, ⟨.yes _ _ _ a _ _ _ _ _⟩ => getP p a
  | .d3 _, ⟨.no _⟩ => none
  | .d3 p, ⟨.yes _ _ _ _ a _ _ _ _⟩ => getP p a
  | .d4 _, ⟨.no _⟩ => none
  | .d4 p, ⟨.yes _ _ _ _ _ a _ _ _⟩ => getP p a
  | .d5 _, ⟨.no _⟩ => none
  | .d5 p, ⟨.yes _ _ _ _ _ _ a _ _⟩ => getP p a
  | .d6 _, ⟨.no _⟩ => none
  | .d6 p, ⟨.yes _ _ _ _ _ _ _ a _⟩ => getP p a
  | .d7 _, ⟨.no _⟩ => none
  | .d7 p, ⟨.yes _ _ _ _ _ _ _ _ a⟩ => getP p a
def setP : P → T α → Option α → T α
  | .z, ⟨.no _⟩, a => ⟨.no a⟩
  | .z, ⟨.yes _ a0 a1 a2 a3 a4 a5 a6 a7⟩, a => ⟨.yes a a0 a1 a2 a3 a4 a5 a6 a7⟩
  | .d0 p, ⟨.no v⟩, a => ⟨.yes v (setP p e a) e e e e e e e⟩
  | .d0 p, ⟨.yes v a0 a1 a2 a3 a4 a5 a6 a7⟩, a => ⟨.yes v (setP p a0 a) a1 a2 a3 a4 a5 a6 a7⟩
  | .d1 p, ⟨.no v⟩, a => ⟨.yes v e (setP p e a) e e e e e e⟩
  | .d1 p, ⟨.yes v a0 a1 a2 a3 a4 a5 a6 a7⟩, a => ⟨.yes v a0 (setP p a1 a) a2 a3 a4 a5 a6 a7⟩
  | .d2 p, ⟨.no v⟩, a => ⟨.yes v e e (setP p e a) e e e e e⟩
  | .d2 p, ⟨.yes v a0 a1 a2 a3 a4 a5 a6 a7⟩, a => ⟨.yes v a0 a1 (setP p a2 a) a3 a4 a5 a6 a7⟩
  | .d3 p, ⟨.no v⟩, a => ⟨.yes v e e e (setP p e a) e e e e⟩
  | .d3 p, ⟨.yes v a0 a1 a2 a3 a4 a5 a6 a7⟩, a => ⟨.yes v a0 a1 a2 (setP p a3 a) a4 a5 a6 a7⟩
  | .d4 p, ⟨.no v⟩, a => ⟨.yes v e e e e (setP p e a) e e e⟩
  | .d4 p, ⟨.yes v a0 a1 a2 a3 a4 a5 a6 a7⟩, a => ⟨.yes v a0 a1 a2 a3 (setP p a4 a) a5 a6 a7⟩
  | .d5 p, ⟨.no v⟩, a => ⟨.yes v e e e e e (setP p e a) e e⟩
  | .d5 p, ⟨.yes v a0 a1 a2 a3 a4 a5 a6 a7⟩, a => ⟨.yes v a0 a1 a2 a3 a4 (setP p a5 a) a6 a7⟩
  | .d6 p, ⟨.no v⟩, a => ⟨.yes v e e e e e e (setP p e a) e⟩
  | .d6 p, ⟨.yes v a0 a1 a2 a3 a4 a5 a6 a7⟩, a => ⟨.yes v a0 a1 a2 a3 a4 a5 (setP p a6 a) a7⟩
  | .d7 p, ⟨.no v⟩, a => ⟨.yes v e e e e e e e (setP p e a)⟩
  | .d7 p, ⟨.yes v a0 a1 a2 a3 a4 a5 a6 a7⟩, a => ⟨.yes v a0 a1 a2 a3 a4 a5 a6 (setP p a7 a)⟩
def get (t : T α) (k : Nat) : Option α := getP (path k) t
def put (t : T α) (k : Nat) (a : Option α) : T α := setP (path k) t a
def set (t : T α) (k : Nat) (a : α) : T α := setP (path k) t (some a)
def ofListFrom : Nat → List α → T α → T α
  | _, [], t => t
  | i, a :: l, t => ofListFrom (i + 1) l (t.set i a)
def ofList (l : List α) : T α := ofListFrom 0 l e
end T
inductive AV where
  | bool (b : Bool)
  | int (k : IntKind) (n : Int)
  | str (s : List Nat)
  | ptr (id off : Nat)
  | gptr (g off : Nat)
  | nilPtr
  | slice (id off len tag : Nat)
  | nilSlice
  | map (id : Nat)
  | nilMap
  | func (fn : Fn) (first cap : List AV)
  | yield (l : Nat)
  | nilFunc
  | iface (t : Nat) (v : AV)
  | nilIface
  | agg (l : List AV)
  | tup (l : List AV)
  | unk
  deriving Inhabited
mutual
def AV.same : AV → AV → Bool
  | .bool a, .bool b => (match a, b with | true, true => true | false, false => true | _, _ => false)
  | .int k a, .int k' b => (decide (k = k')) && (match a, b with
      | .ofNat a, .ofNat b => a.beq b
      | .negSucc a, .negSucc b => a.beq b
      | _, _ => false)
  | .str a, .str b => sameN a b
  | .ptr a b, .ptr c d => a.beq c && b.beq d
  | .gptr a b, .gptr c d => a.beq c && b.beq d
  | .nilPtr, .nilPtr => true
  | .slice a b c d, .slice a' b' c' d' => a.beq a' && b.beq b' && c.beq c' && d.beq d'
  | .nilSlice, .nilSlice => true
  | .map a, .map b => a.beq b
  | .nilMap, .nilMap => true
  | .func (.func f) a b, .func (.func f') a' b' => f.beq f' && AV.sames a a' && AV.sames b b'
  | .yield a, .yield b => a.beq b
  | .nilFunc, .nilFunc => true
  | .iface t v, .iface t' v' => t.beq t' && AV.same v v'
  | .nilIface, .nilIface => true
  | .agg a, .agg b => AV.sames a b
  | .tup a, .tup b => AV.sames a b
  | _, _ => false
def AV.sames : List AV → List AV → Bool
  | [], [] => true
  | a :: x, b :: y => AV.same a b && AV.sames x y
  | _, _ => false
def sameN : List Nat → List Nat → Bool
  | [], [] => true
  | a :: x, b :: y => a.beq b && sameN x y
  | _, _ => false
end
def AV.cells : AV → List AV
  | .agg l => l
  | v => [v]
inductive An where
  | no
  | n (k : Option (List Nat)) (r : Nat) (a b : An)
  deriving Inhabited
def An.l : An → An
  | .no => .no
  | .n _ _ a _ => a
def An.r : An → An
  | .no => .no
  | .n _ _ _ b => b
def An.id : An → Nat
  | .no => 0
  | .n _ r _ _ => r
structure Rng where
  ps : List Nat
  assign : Code
  body : Code
  al : An
  ar : An
inductive AObj where
  | cells (n : Nat) (t : T AV)
  | map (es : List (AV × AV × Nat)) (clock : Nat)
  | strIter (s : List Nat) (pos : Nat)
  | loop (st : LoopState) (pend : Option Code) (env : T AV) (r : Nat) (defers : Nat)
  | marks
  | mapIter (m since : Nat) (seen : List Nat) (last : Nat)
  deriving Inhabited
structure Gd where
  n : Nat
  rng : T Rng
structure H where
  next : Nat
  t : T AObj
inductive TD where
  | bool | int (k : IntKind) | str | ptr (e : Nat) | slice (e esz : Nat) | arr (n e esz : Nat)
  | map (k e : Nat) | struct (fs : List (Nat × Nat × Nat × Bool)) | func | iface | other
  deriving Inhabited
structure TI where
  size : Nat
  bytes : Nat
  d : TD
  zero : Option (List AV)
  guard : Bool
  deriving Inhabited
def TI.isAgg (t : TI) : Bool := match t.d with | .struct _ | .arr .. => true | _ => false
inductive R (α : Type) where
  | ok (a : α)
  | pan (v : AV) (h : H)
  | bad (why : String)
def R.bind {α β : Type} : R α → (α → R β) → R β
  | .ok a, f => f a
  | .pan v h, _ => .pan v h
  | .bad w, _ => .bad w
instance : Monad R where
  pure := .ok
  bind := R.bind
def R.np {α : Type} : R α → R α
  | .pan _ _ => .bad "panic"
  | r => r
theorem R.np_ok {α : Type} {r : R α} {a : α} (h : r.np = .ok a) : r = .ok a := by
  cases r with
  | ok b => exact h
  | pan v h' => cases h
  | bad w => cases h
theorem R.np_pan {α : Type} {r : R α} {v : AV} {h : H} (e : r.np = .pan v h) : False := by
  cases r <;> cases e
def ofOpt {α : Type} (why : String) : Option α → R α
  | some a => .ok a
  | none => .bad why
inductive X where
  | norm | ret | exit (id : Nat) | goto (l : Nat) | pan (v : AV)
  deriving Inhabited
structure S where
  env : T AV
  marks : List Nat
  h : H
def H.obj (h : H) (id : Nat) : Option AObj := h.t.get id
def H.new (h : H) (o : AObj) : Nat × H := (h.next, ⟨h.next + 1, h.t.set h.next o⟩)
def minN (a b : Nat) : Nat := match Nat.ble a b with | true => a | false => b
def H.upd (h : H) (id : Nat) (o : AObj) : H := ⟨h.next, h.t.set id o⟩
def H.kill (h : H) (id : Nat) : H := ⟨h.next, h.t.put id none⟩
def getCells (t : T AV) : Nat → Nat → Option (List AV)
  | _, 0 => some []
  | off, n + 1 => match t.get off with
    | none => none
    | some v => match getCells t (off + 1) n with
      | none => none
      | some l => some (v :: l)
def setCells (t : T AV) : Nat → List AV → T AV
  | _, [] => t
  | off, v :: l => setCells (t.set off v) (off + 1) l
def H.loads (h : H) (id off n : Nat) : Option (List AV) := match h.obj id with
  | some (.cells m t) => match Nat.ble (off + n) m with
    | true => getCells t off n
    | false => none
  | _ => none
def AV.isCell : AV → Bool
  | .agg _ | .tup _ | .unk => false
  | _ => true
def allB {α : Type} (f : α → Bool) : List α → Bool
  | [] => true
  | a :: l => match f a with | true => allB f l | false => false
def H.stores (h : H) (id off : Nat) (l : List AV) : Option H := match h.obj id with
  | some (.cells m t) => match Nat.ble (off + l.length) m, allB AV.isCell l with
    | true, true => some (h.upd id (.cells m (setCells t off l)))
    | _, _ => none
  | _ => none
def maxOf : IntKind → Nat
  | .i8 => 127 | .i16 => 32767 | .i32 => 2147483647 | .i64 => 9223372036854775807
  | .u8 => 255 | .u16 => 65535 | .u32 => 4294967295 | .u64 => 18446744073709551615
def wrapN (k : IntKind) (n : Nat) : Int := match Nat.ble n (maxOf k) with
  | true => Int.ofNat n
  | false => k.wrap (Int.ofNat n)
def wrapI (k : IntKind) : Int → Int
  | .ofNat n => wrapN k n
  | .negSucc n => k.wrap (.negSucc n)
def addI (k : IntKind) : Int → Int → Int
  | .ofNat a, .ofNat b => wrapN k (a + b)
  | a, b => k.wrap (a + b)
def subI (k : IntKind) : Int → Int → Int
  | .ofNat a, .ofNat b => match Nat.ble b a with
    | true => wrapN k (a - b)
    | false => k.wrap (Int.ofNat a - Int.ofNat b)
  | a, b => k.wrap (a - b)
def mulI (k : IntKind) : Int → Int → Int
  | .ofNat a, .ofNat b => wrapN k (a * b)
  | a, b => k.wrap (a * b)
def eqI : Int → Int → Bool
  | .ofNat a, .ofNat b => a.beq b
  | .negSucc a, .negSucc b => a.beq b
  | _, _ => false
def leI : Int → Int → Bool
  | .ofNat a, .ofNat b => a.ble b
  | .negSucc a, .negSucc b => b.ble a
  | .negSucc _, .ofNat _ => true
  | .ofNat _, .negSucc _ => false
def ltI (a b : Int) : Bool := !(leI b a)
def kindEq (a b : IntKind) : Bool := match a, b with
  | .i8, .i8 | .i16, .i16 | .i32, .i32 | .i64, .i64 | .u8, .u8 | .u16, .u16 | .u32, .u32 | .u64, .u64 => true
  | _, _ => false
def signedK : IntKind → Bool
  | .i8 | .i16 | .i32 | .i64 => true
  | _ => false
def bitsOf : IntKind → Nat
  | .i8 | .u8 => 8 | .i16 | .u16 => 16 | .i32 | .u32 => 32 | .i64 | .u64 => 64
def bitsI (op : BinOp) (k : IntKind) (a b : Int) : Option Int :=
  match a, b with
  | .ofNat a, .ofNat b => match Nat.blt a (2 ^ bitsOf k), Nat.blt b (2 ^ bitsOf k) with
    | true, true => match op with
      | .and => some (wrapN k (a.land b))
      | .or => some (wrapN k (a.lor b))
      | .xor => some (wrapN k (a.xor b))
      | .andNot => some (wrapN k (a.xor (a.land b)))
      | _ => none
    | _, _ => none
  | _, _ => none
def divI (op : BinOp) (k : IntKind) (a b : Int) : Option Int :=
  match op, a, b with
  | .quo, .ofNat a, .ofNat (b + 1) => some (wrapN k (a / (b + 1)))
  | .rem, .ofNat a, .ofNat (b + 1) => some (Int.ofNat (a % (b + 1)))
  | .quo, a, .ofNat (b + 1) => some (k.wrap (a.tdiv (Int.ofNat (b + 1))))
  | .rem, a, .ofNat (b + 1) => some (a.tmod (Int.ofNat (b + 1)))
  | _, _, _ => none
def shiftI (op : BinOp) (k : IntKind) (a b : Int) : Option Int :=
  match op, a, b with
  | .shl, .ofNat a, .ofNat n => some (wrapN k (a * 2 ^ (minN n (bitsOf k))))
  | .shr, .ofNat a, .ofNat n => some (Int.ofNat (a / 2 ^ (minN n (bitsOf k))))
  | _, _, _ => none
def cmpI (op : BinOp) (a b : Int) : Option Bool :=
  match op with
  | .eql => some (eqI a b)
  | .neq => some (!(eqI a b))
  | .lss => some (ltI a b)
  | .leq => some (leI a b)
  | .gtr => some (ltI b a)
  | .geq => some (leI b a)
  | _ => none
def intBin (op : BinOp) (k : IntKind) (a b : Int) : Option AV :=
  match op with
  | .add => some (.int k (addI k a b))
  | .sub => some (.int k (subI k a b))
  | .mul => some (.int k (mulI k a b))
  | .quo | .rem => (divI op k a b).map (.int k)
  | .and | .or | .xor | .andNot => (bitsI op k a b).map (.int k)
  | .shl | .shr => none
  | _ => (cmpI op a b).map .bool
def eqS : List Nat → List Nat → Bool
  | [], [] => true
  | a :: x, b :: y => match a.beq b with | true => eqS x y | false => false
  | _, _ => false
def ltS : List Nat → List Nat → Bool
  | _, [] => false
  | [], _ :: _ => true
  | a :: x, b :: y => match a.beq b with | true => ltS x y | false => Nat.blt a b
def strBin (op : BinOp) (a b : List Nat) : Option AV :=
  match op with
  | .add => match Nat.ble (a.length + b.length) 1000000 with | true => some (.str (a ++ b)) | false => none
  | .eql => some (.bool (eqS a b))
  | .neq => some (.bool (!(eqS a b)))
  | .lss => some (.bool (ltS a b))
  | .leq => some (.bool (ltS a b || eqS a b))
  | .gtr => some (.bool (!(ltS a b || eqS a b)))
  | .geq => some (.bool (!(ltS a b)))
  | _ => none
def boolEq : Bool → Bool → Bool
  | true, true => true
  | false, false => true
  | _, _ => false
def unA (op : UnOp) (a : AV) : Option AV :=
  match op, a with
  | .not, .bool b => some (.bool (!b))
  | .neg, .int k n => some (.int k (subI k 0 n))
  | .xor, .int .u64 n => (bitsI .xor .u64 (Int.ofNat 18446744073709551615) n).map (.int .u64)
  | _, _ => none
def ofBytes (s : ByteArray) : List Nat := s.data.toList.map UInt8.toNat
mutual
def ofValue : Value → AV
  | .bool b => .bool b
  | .int k n => .int k n
  | .string s => .str (ofBytes s)
  | .pointer none => .nilPtr
  | .slice none 0 0 => .nilSlice
  | .map none => .nilMap
  | .nilFunc => .nilFunc
  | .nilIface => .nilIface
  | .agg ⟨cs⟩ => .agg (ofValues cs)
  | .tuple ⟨cs⟩ => .tup (ofValues cs)
  | _ => .unk
def ofValues : List Value → List AV
  | [] => []
  | v :: l => ofValue v :: ofValues l
end
def evalO (env : T AV) : Operand → AV
  | .tmp t => match env.get t with | some v => v | none => .unk
  | .const v => ofValue v
  | .global g => .gptr g 0
  | .func f => .func (.func f) [] []
def evalOs (env : T AV) : List Operand → List AV
  | [] => []
  | o :: l => evalO env o :: evalOs env l
inductive Ext where
  | indexByteString
abbrev Sum := List AV → H → Option (AV × H)
structure Ctx where
  ty : T TI
  fn : T Func
  an : T An
  rng : T Rng
  ext : T Ext
  gl : T (Nat × T AV)
  sum : T Sum
  df : T Unit
def agg? (b : Bool) (l : List AV) : Option AV := match b, l with
  | true, l => some (.agg l)
  | false, [v] => some v
  | _, _ => none
def takeFrom {α : Type} (l : List α) (off n : Nat) : List α := (l.drop off).take n
def partOf (c : Ctx) (t : Nat) (l : List AV) (off : Nat) : Option AV := match c.ty.get t with
  | some ti => match Nat.ble (off + ti.size) l.length with
    | true => agg? ti.isAgg (takeFrom l off ti.size)
    | false => none
  | none => none
def replaceAt : List AV → Nat → List AV → List AV
  | l, _, [] => l
  | [], _, _ => []
  | _ :: l, 0, w :: ws => w :: replaceAt l 0 ws
  | v :: l, off + 1, ws => v :: replaceAt l off ws
def AV.known : AV → Bool
  | .unk => false
  | _ => true
def fillStruct (fs : List (Nat × Nat × Nat × Bool)) : List AV → List (Nat × AV) → Option (List AV)
  | l, [] => some l
  | l, (i, v) :: rest => match fs[i]? with
    | some (off, _, size, _) => match v.cells.length.beq size, Nat.ble (off + size) l.length, v.known with
      | true, true, true => fillStruct fs (replaceAt l off v.cells) rest
      | _, _, _ => none
    | none => none
def fillArr (esz : Nat) : List AV → List (Nat × AV) → Option (List AV)
  | l, [] => some l
  | l, (i, v) :: rest => match v.cells.length.beq esz, Nat.ble (i * esz + esz) l.length, v.known with
    | true, true, true => fillArr esz (replaceAt l (i * esz) v.cells) rest
    | _, _, _ => none
def repl : Nat → List AV → List AV
  | 0, _ => []
  | n + 1, l => l ++ repl n l
def evalParts (env : T AV) : List (Nat × Operand) → List (Nat × AV)
  | [] => []
  | (i, o) :: l => (i, evalO env o) :: evalParts env l
end Am

namespace Am
open Go
inductive Tgt where
  | fn (f : Nat)
  | yield (l : Nat)
abbrev Run := Tgt → List AV → H → R (AV × H)
def callA (run : Run) (fv : AV) (args : List AV) (h : H) : R (AV × H) :=
  match fv with
  | .func (.func f) first cap => run (.fn f) (first ++ args ++ cap) h
  | .yield l => run (.yield l) args h
  | _ => .bad "call: no function"
def tagOf (esz : Nat) (exact : Bool) : Nat := 2 * esz + (match exact with | true => 1 | false => 0)
def isExact (tag : Nat) : Bool := (tag % 2).beq 1
def loadA (c : Ctx) (t : Nat) (id off : Nat) (h : H) : R AV :=
  match c.ty.get t with
  | none => .bad "load: type"
  | some ti => match ti.isAgg with
    | true => match h.loads id off ti.size with
      | some l => .ok (.agg l)
      | none => .bad "load: cells"
    | false => match h.loads id off 1 with
      | some [v] => .ok v
      | _ => .bad "load: cell"
def loadG (c : Ctx) (t : Nat) (g off : Nat) : Option AV :=
  match c.ty.get t, c.gl.get g with
  | some ti, some (n, tr) => match Nat.ble (off + ti.size) n with
    | true => match getCells tr off ti.size with
      | some l => agg? ti.isAgg l
      | none => none
    | false => none
  | _, _ => none
def storeA (c : Ctx) (t : Nat) (id off : Nat) (v : AV) (h : H) : R H :=
  match c.ty.get t with
  | none => .bad "store: type"
  | some ti => match v.cells.length.beq ti.size with
    | true => ofOpt "store: cells" (h.stores id off v.cells)
    | false => .bad "store: size"
def sliceCells (esz : Nat) (v : AV) (h : H) : Option (List AV) :=
  match v with
  | .nilSlice => some []
  | .slice id off len tag => match (tag / 2).beq esz with
    | true => h.loads id off (len * esz)
    | false => none
  | .str s => some (s.map fun b => .int .u8 (Int.ofNat b))
  | _ => none
def lenA : AV → Option Nat
  | .nilSlice => some 0
  | .slice _ _ len _ => some len
  | .str s => some s.length
  | _ => none
def newCells (l : List AV) (h : H) : Nat × H := h.new (.cells l.length (T.ofList l))
def wholeOf (esz : Nat) (v : AV) (h : H) : Option (Nat × T AV) :=
  match v with
  | .slice id off len tag => match off.beq 0, (tag / 2).beq esz, h.obj id with
    | true, true, some (.cells m t) => match m.beq (len * esz) with
      | true => some (m, t)
      | false => none
    | _, _, _ => none
  | _ => none
def growOk (ei : TI) (esz need : Nat) : Bool := match ei.zero with
  | some z => z.length.beq esz && Nat.ble need 16777216 && Nat.ble (need * ei.bytes) 16777216 && Nat.ble ei.bytes 1048576
  | none => false
def strFits (esz : Nat) : AV → Bool
  | .str _ => esz.beq 1
  | _ => true
def baseT (off k : Nat) (t : T AV) : Option (T AV) := match off.beq 0 with
  | true => some t
  | false => match getCells t off k with
    | some old => some (T.ofList old)
    | none => none
def appendA (ei : TI) (esz : Nat) (s x : AV) (h : H) : R (AV × H) :=
  match lenA x, lenA s with
  | some n, some len => match n.beq 0 with
    | true => match s with
      | .nilSlice => .ok (s, h)
      | .slice _ _ _ tag => match (tag / 2).beq esz with
        | true => .ok (s, h)
        | false => .bad "append: element's size"
      | _ => .bad "append: slice"
    | false => match growOk ei esz (len + n) && strFits esz x, sliceCells esz x h with
      | true, some l => match s with
        | .nilSlice => match wholeOf esz x h with
          | some (m, t) => let (id, h) := h.new (.cells m t); .ok (.slice id 0 n (2 * esz), h)
          | none => let (id, h) := newCells l h; .ok (.slice id 0 n (2 * esz), h)
        | .slice id off len tag => match (tag / 2).beq esz with
          | false => .bad "append: element's size"
          | true => match isExact tag with
            | true => match len.beq 0, wholeOf esz x h with
              | true, some (m, t) => let (i, h) := h.new (.cells m t); .ok (.slice i 0 n (2 * esz), h)
              | _, _ => match h.loads id off (len * esz) with
                | some old => let (i, h) := newCells (old ++ l) h; .ok (.slice i 0 (len + n) (2 * esz), h)
                | none => .bad "append: old cells"
            | false => match h.obj id with
              | some (.cells m t) => match Nat.ble (off + len * esz) m, allB AV.isCell l, baseT off (len * esz) t with
                | true, true, some t0 => let (i, h) := (h.kill id).new (.cells (len * esz + l.length) (setCells t0 (len * esz) l)); .ok (.slice i 0 (len + n) (2 * esz), h)
                | _, _, _ => .bad "append: behind the slice's end stand other cells"
              | _ => .bad "append: object"
        | _ => .bad "append: slice"
      | _, _ => .bad "append: cells"
  | _, _ => .bad "append: length"
def appendMakeA (ei : TI) (esz n : Nat) (h : H) : R (AV × H) := match n.beq 0 with
  | true => .ok (.nilSlice, h)
  | false => match growOk ei esz n, ei.zero with
    | true, some z => let (id, h) := newCells (repl n z) h; .ok (.slice id 0 n (tagOf esz false), h)
    | _, _ => .bad "append: make"
def copyA (esz : Nat) (d x : AV) (h : H) : R (AV × H) :=
  match lenA d, lenA x, strFits esz x with
  | some a, some b, true =>
    match d with
    | .nilSlice => match x with
      | .nilSlice => .ok (.int .i64 0, h)
      | .slice _ _ _ tag => match (tag / 2).beq esz with
        | true => .ok (.int .i64 0, h)
        | false => .bad "copy: size"
      | .str _ => .ok (.int .i64 0, h)
      | _ => .bad "copy"
    | .slice id off _ tag => match (tag / 2).beq esz, sliceCells esz x h with
      | true, some l => match h.stores id off (l.take (minN b a * esz)) with
        | some h => .ok (.int .i64 (Int.ofNat (minN b a)), h)
        | none => .bad "copy: stores"
      | _, _ => .bad "copy: cells"
    | _ => .bad "copy: slice"
  | _, _, _ => .bad "copy: length"
def natOf : AV → Option Nat
  | .int _ (.ofNat n) => some n
  | _ => none
def boundOf (env : T AV) (dflt : Nat) : Option Operand → Option Nat
  | none => some dflt
  | some o => natOf (evalO env o)
def sliceSlice (esz : Nat) (v : AV) (lo : Option Nat) (hi max : Option Nat) : Option AV :=
  match v with
  | .nilSlice => match (lo.getD 0).beq 0, (hi.getD 0).beq 0, max with
    | true, true, none => some .nilSlice
    | _, _, _ => none
  | .slice id off len tag =>
    let h := hi.getD len
    let l := lo.getD 0
    match (tag / 2).beq esz, Nat.ble h len, Nat.ble l h with
    | true, true, true => match max with
      | none => some (.slice id (off + l * esz) (h - l) (tagOf esz (isExact tag && h.beq len)))
      | some m => match hi, Nat.ble h m, Nat.ble m len with
        | some _, true, true => some (.slice id (off + l * esz) (h - l) (tagOf esz (m.beq h)))
        | _, _, _ => none
    | _, _, _ => none
  | _ => none
def sliceArr (esz n : Nat) (v : AV) (lo : Option Nat) (hi max : Option Nat) (hp : H) : Option AV :=
  match v, max with
  | .ptr id off, none =>
    let h := hi.getD n
    let l := lo.getD 0
    match hp.obj id, Nat.ble h n, Nat.ble l h with
    | some (.cells m _), true, true => match Nat.ble (off + n * esz) m with
      | true => some (.slice id (off + l * esz) (h - l) (tagOf esz (h.beq n)))
      | false => none
    | _, _, _ => none
  | _, _ => none
def sliceStr (s : List Nat) (lo hi : Option Nat) : Option AV :=
  let h := hi.getD s.length
  let l := lo.getD 0
  match Nat.ble h s.length, Nat.ble l h with
  | true, true => some (.str (takeFrom s l (h - l)))
  | _, _ => none
def optNat (env : T AV) : Option Operand → Option (Option Nat)
  | none => some none
  | some o => match natOf (evalO env o) with
    | some n => some (some n)
    | none => none
def sliceA (c : Ctx) (t : Nat) (v : AV) (lo hi max : Option Nat) (h : H) : Option AV :=
  match c.ty.get t with
  | none => none
  | some ti => match ti.d with
    | .str => match v, max with
      | .str s, none => sliceStr s lo hi
      | _, _ => none
    | .slice _ esz => sliceSlice esz v lo hi max
    | .arr n _ esz => sliceArr esz n v lo hi max h
    | _ => none
def keyEq : AV → AV → Option Bool
  | .int k a, .int k' b => match kindEq k k' with | true => some (eqI a b) | false => none
  | .str a, .str b => some (eqS a b)
  | .bool a, .bool b => some (boolEq a b)
  | _, _ => none
def findKey (k : AV) : List (AV × AV × Nat) → Nat → Option (Option (Nat × AV × Nat))
  | [], _ => some none
  | (a, v, born) :: es, i => match keyEq k a with
    | some true => some (some (i, v, born))
    | some false => findKey k es (i + 1)
    | none => none
def setEntry : List (AV × AV × Nat) → Nat → AV → AV → List (AV × AV × Nat)
  | [], _, _, _ => []
  | (_, _, born) :: es, 0, k, v => (k, v, born) :: es
  | e :: es, i + 1, k, v => e :: setEntry es i k v
def delEntry : List (AV × AV × Nat) → Nat → List (AV × AV × Nat)
  | [], _ => []
  | _ :: es, 0 => es
  | e :: es, i + 1 => e :: delEntry es i
def plainKey (c : Ctx) (t : Nat) : AV → Bool
  | .int k _ => match c.ty.get t with | some ti => (match ti.d with | .int k' => kindEq k k' | _ => false) | none => false
  | .str _ => match c.ty.get t with | some ti => (match ti.d with | .str => true | _ => false) | none => false
  | .bool _ => match c.ty.get t with | some ti => (match ti.d with | .bool => true | _ => false) | none => false
  | _ => false
def mapTypes (c : Ctx) (t : Nat) : Option (Nat × Nat) := match c.ty.get t with
  | some ti => match ti.d with | .map k e => some (k, e) | _ => none
  | none => none
def valOf (isAgg : Bool) : List AV → Option AV := agg? isAgg
def zeroOf (c : Ctx) (t : Nat) : Option AV := match c.ty.get t with
  | some ti => match ti.zero with
    | some l => agg? ti.isAgg l
    | none => none
  | none => none
def lookRes (ok : Bool) (v : AV) (b : Bool) : AV := match ok with | true => .tup [v, .bool b] | false => v
def lookupA (c : Ctx) (t : Nat) (m k : AV) (ok : Bool) (h : H) : Option AV :=
  match mapTypes c t with
  | none => none
  | some (kt, e) => match plainKey c kt k with
    | false => none
    | true =>
      let es := match m with
        | .nilMap => some []
        | .map id => match h.obj id with
          | some (.map es _) => some es
          | _ => none
        | _ => none
      match es with
      | none => none
      | some es => match findKey k es 0 with
        | none => none
        | some (some (_, v, _)) => some (lookRes ok v true)
        | some none => match zeroOf c e with
          | some z => some (lookRes ok z false)
          | none => none
def mapUpdateA (c : Ctx) (t : Nat) (m k v : AV) (h : H) : Option H :=
  match mapTypes c t, m with
  | some (kt, _), .map id => match plainKey c kt k, h.obj id with
    | true, some (.map es clock) => match findKey k es 0 with
      | none => none
      | some (some (i, _, _)) => some (h.upd id (.map (setEntry es i k v) clock))
      | some none => some (h.upd id (.map (es ++ [(k, v, clock)]) (clock + 1)))
    | _, _ => none
  | _, _ => none
def mapEntryA (c : Ctx) (t : Nat) (m k : AV) (h : H) : Option (AV × H) :=
  match mapTypes c t, m with
  | some (kt, e), .map id => match plainKey c kt k, h.obj id with
    | true, some (.map es clock) => match findKey k es 0 with
      | none => none
      | some (some (i, v, born)) => some (.tup [v, .int .i64 (Int.ofNat born)], h.upd id (.map (setEntry es i k v) clock))
      | some none => match zeroOf c e with
        | some z => some (.tup [z, .int .i64 (Int.ofNat clock)], h.upd id (.map (es ++ [(k, z, clock)]) (clock + 1)))
        | none => none
    | _, _ => none
  | _, _ => none
def setStamp : List (AV × AV × Nat) → Nat → AV → Option (List (AV × AV × Nat))
  | [], _, _ => none
  | (k, v, born) :: es, b, x => match born.beq b with
    | true => some ((k, x, born) :: es)
    | false => match setStamp es b x with
      | some es => some ((k, v, born) :: es)
      | none => none
def entryStoreA (m s v : AV) (h : H) : Option H :=
  match m, natOf s with
  | .map id, some b => match h.obj id with
    | some (.map es clock) => match setStamp es b v with
      | some es => some (h.upd id (.map es clock))
      | none => none
    | _ => none
  | _, _ => none
def deleteA (c : Ctx) (t : Nat) (m k : AV) (h : H) : Option H :=
  match mapTypes c t, m with
  | some (kt, _), .map id => match plainKey c kt k, h.obj id with
    | true, some (.map es clock) => match findKey k es 0 with
      | none => none
      | some (some (i, _, _)) => some (h.upd id (.map (delEntry es i) clock))
      | some none => some (h.upd id (.map es clock))
    | _, _ => none
  | _, _ => none
def eqFs (c : Ctx) (eq : Nat → AV → AV → Option Bool) : List (Nat × Nat × Nat × Bool) → List AV → List AV → Option Bool
  | [], _, _ => some true
  | (off, t, _, blank) :: fs, xs, ys => match blank with
    | true => eqFs c eq fs xs ys
    | false => match partOf c t xs off, partOf c t ys off with
      | some a, some b => match eq t a b with
        | some true => eqFs c eq fs xs ys
        | some false => some false
        | none => none
      | _, _ => none
def eqEs (c : Ctx) (eq : Nat → AV → AV → Option Bool) (e esz : Nat) : Nat → Nat → List AV → List AV → Option Bool
  | 0, _, _, _ => some true
  | n + 1, i, xs, ys => match partOf c e xs (i * esz), partOf c e ys (i * esz) with
    | some a, some b => match eq e a b with
      | some true => eqEs c eq e esz n (i + 1) xs ys
      | some false => some false
      | none => none
    | _, _ => none
def eqT (c : Ctx) : Nat → Nat → AV → AV → Option Bool
  | 0, _, _, _ => none
  | d + 1, t, x, y => match c.ty.get t with
    | none => none
    | some ti => match ti.d, x, y with
      | .struct fs, .agg xs, .agg ys => eqFs c (eqT c d) fs xs ys
      | .arr n e esz, .agg xs, .agg ys => eqEs c (eqT c d) e esz n 0 xs ys
      | .bool, .bool a, .bool b => some (boolEq a b)
      | .int _, .int k a, .int k' b => match kindEq k k' with | true => some (eqI a b) | false => none
      | .str, .str a, .str b => some (eqS a b)
      | _, _, _ => none
def isConst : Operand → Bool
  | .const _ => true
  | _ => false
def eqD : TD → AV → AV → Option Bool
  | .bool, .bool a, .bool b => some (boolEq a b)
  | .ptr _, .nilPtr, .nilPtr => some true
  | .ptr _, .nilPtr, .ptr .. => some false
  | .ptr _, .nilPtr, .gptr .. => some false
  | .ptr _, .ptr .., .nilPtr => some false
  | .ptr _, .gptr .., .nilPtr => some false
  | .slice .., .nilSlice, .nilSlice => some true
  | .slice .., .nilSlice, .slice .. => some false
  | .slice .., .slice .., .nilSlice => some false
  | .map .., .nilMap, .nilMap => some true
  | .map .., .nilMap, .map _ => some false
  | .map .., .map _, .nilMap => some false
  | .func, .nilFunc, .nilFunc => some true
  | .func, .nilFunc, .func .. => some false
  | .func, .nilFunc, .yield _ => some false
  | .func, .func .., .nilFunc => some false
  | .func, .yield _, .nilFunc => some false
  | .iface, .nilIface, .iface .. => some false
  | .iface, .iface .., .nilIface => some false
  | _, _, _ => none
def eqOp (c : Ctx) (t : Nat) (x y : Operand) (a b : AV) : Option Bool :=
  match c.ty.get t with
  | none => none
  | some ti => match a, b with
    | .nilIface, .nilIface => match isConst x || isConst y, ti.d with
      | true, .iface => some true
      | _, _ => none
    | .agg _, .agg _ => match ti.guard, ti.isAgg with
      | false, true => eqT c 12 t a b
      | _, _ => none
    | a, b => eqD ti.d a b
def binOpA (c : Ctx) (op : BinOp) (t : Nat) (x y : Operand) (a b : AV) : Option AV :=
  match a, b with
  | .int k m, .int k' n => match op with
    | .shl => (shiftI .shl k m n).map (.int k)
    | .shr => (shiftI .shr k m n).map (.int k)
    | op => match kindEq k k' with
      | true => intBin op k m n
      | false => none
  | .str p, .str q => strBin op p q
  | a, b => match op with
    | .eql => (eqOp c t x y a b).map .bool
    | .neq => (eqOp c t x y a b).map fun r => .bool (!r)
    | _ => none
def fieldOf (c : Ctx) (t f : Nat) : Option (Nat × Nat × Nat × Bool) := match c.ty.get t with
  | some ti => match ti.d with
    | .struct fs => fs[f]?
    | _ => none
  | none => none
def isByteTy (c : Ctx) (e : Nat) : Bool := match c.ty.get e with
  | some ti => match ti.d with | .int .u8 => true | _ => false
  | none => false
def isByteV : AV → Bool
  | .int .u8 (.ofNat n) => Nat.blt n 256
  | _ => false
def convA (c : Ctx) (src dst : Nat) (v : AV) (h : H) : R (AV × H) :=
  match c.ty.get src, c.ty.get dst with
  | some s, some d => match s.d, d.d, v with
    | .int _, .int k, .int _ n => .ok (.int k (wrapI k n), h)
    | .str, .str, .str x => .ok (.str x, h)
    | .str, .slice e 1, .str x => match isByteTy c e with
      | true => let (id, h) := newCells (x.map fun b => .int .u8 (Int.ofNat b)) h; .ok (.slice id 0 x.length 2, h)
      | false => .bad "convert: runes"
    | .slice e 1, .str, .nilSlice => match isByteTy c e with
      | true => .ok (.str [], h)
      | false => .bad "convert: runes"
    | .slice e 1, .str, .slice id off len tag => match isByteTy c e, (tag / 2).beq 1, h.loads id off len with
      | true, true, some l => match allB isByteV l with
        | true => .ok (.str (l.filterMap natOf), h)
        | false => .bad "convert: bytes"
      | _, _, _ => .bad "convert: bytes"
    | .int _, .str, .int _ (.ofNat n) => match Nat.blt n 128 with
      | true => .ok (.str [n], h)
      | false => .bad "convert: rune to string"
    | _, _, _ => .bad "convert"
  | _, _ => .bad "convert: types"
def foldMax : Int → List AV → Option Int
  | m, [] => some m
  | m, .int _ n :: l => foldMax (match ltI m n with | true => n | false => m) l
  | _, _ => none
def foldMin : Int → List AV → Option Int
  | m, [] => some m
  | m, .int _ n :: l => foldMin (match ltI n m with | true => n | false => m) l
  | _, _ => none
def elemSize (c : Ctx) (t : Nat) : Option Nat := match c.ty.get t with
  | some ti => match ti.d with | .slice _ esz => some esz | _ => none
  | none => none
def elemZero (c : Ctx) (t : Nat) : Option (List AV) := match c.ty.get t with
  | some ti => match ti.d with
    | .slice e _ => match c.ty.get e with | some ei => ei.zero | none => none
    | _ => none
  | none => none
def builtinA (c : Ctx) (b : Builtin) (ts : List Nat) (args : List AV) (h : H) : R (AV × H) :=
  match b, args with
  | .len, [v] => match (match ts with | t :: _ => c.ty.get t | [] => none) with
    | some ti => match ti.d, v with
      | .arr n _ _, _ => .ok (.int .i64 (Int.ofNat n), h)
      | .str, .str s => .ok (.int .i64 (Int.ofNat s.length), h)
      | .slice .., .slice _ _ n _ => .ok (.int .i64 (Int.ofNat n), h)
      | .slice .., .nilSlice => .ok (.int .i64 0, h)
      | .map .., .nilMap => .ok (.int .i64 0, h)
      | .map .., .map id => match h.obj id with
        | some (.map es _) => .ok (.int .i64 (Int.ofNat es.length), h)
        | _ => .bad "len: map"
      | _, _ => .bad "len: type"
    | none => .bad "len: type"
  | .append, [s, x] => match ts with
    | [t, tx] => match c.ty.get t, c.ty.get tx with
      | some ti, some xi => match ti.d, (match xi.d with | .slice .. | .str => true | _ => false) with
        | .slice e esz, true => match c.ty.get e with
          | some ei => match esz.beq 0 with
            | true => .bad "append: size 0"
            | false => appendA ei esz s x h
          | none => .bad "append: type"
        | .slice e esz, false => match xi.d, s, natOf x, c.ty.get e with
          | .int _, .nilSlice, some n, some ei => match esz.beq 0 with
            | true => .bad "append: size 0"
            | false => appendMakeA ei esz n h
          | _, _, _, _ => .bad "append: type"
        | _, _ => .bad "append: type"
      | _, _ => .bad "append: type"
    | _ => .bad "append: type"
  | .copy, [d, x] => match ts with
    | t :: _ => match elemSize c t with
      | some esz => copyA esz d x h
      | none => .bad "copy: type"
    | [] => .bad "copy: type"
  | .cap, [.nilSlice] => match (match ts with | t :: _ => elemSize c t | [] => none) with
    | some _ => .ok (.int .i64 0, h)
    | none => .bad "cap: type"
  | .clear, [.map id] => match (match ts with | t :: _ => mapTypes c t | [] => none), h.obj id with
    | some _, some (.map _ clock) => .ok (.tup [], h.upd id (.map [] clock))
    | _, _ => .bad "clear: map"
  | .clear, [.nilSlice] => match (match ts with | t :: _ => elemSize c t | [] => none) with
    | some _ => .ok (.tup [], h)
    | none => .bad "clear: type"
  | .clear, [.slice id off len tag] => match ts with
    | t :: _ => match elemZero c t, elemSize c t with
      | some z, some esz => match (tag / 2).beq esz, z.length.beq esz, h.stores id off (repl len z) with
        | true, true, some h => .ok (.tup [], h)
        | _, _, _ => .bad "clear: cells"
      | _, _ => .bad "clear: type"
    | [] => .bad "clear: type"
  | .delete, [m, k] => match ts with
    | t :: _ => match deleteA c t m k h with
      | some h => .ok (.tup [], h)
      | none => .bad "delete"
    | [] => .bad "delete: type"
  | .max, .int k n :: l => match foldMax n l with
    | some m => .ok (.int k m, h)
    | none => .bad "max"
  | .min, .int k n :: l => match foldMin n l with
    | some m => .ok (.int k m, h)
    | none => .bad "min"
  | .panic, [v] => match v with
    | .iface .. => .pan v h
    | _ => .bad "panic"
  | _, _ => .bad "builtin"
def opA (c : Ctx) (run : Run) (env : T AV) (o : Op) (h : H) : R (AV × H) :=
  match o with
  | .move x | .assign x => .ok (evalO env x, h)
  | .pick x a b => match evalO env x with
    | .bool true => .ok (evalO env a, h)
    | .bool false => .ok (evalO env b, h)
    | _ => .bad "pick"
  | .alloc t => match c.ty.get t with
    | some ti => match ti.zero with
      | some l => let (id, h) := newCells l h; .ok (.ptr id 0, h)
      | none => .bad "alloc: zero"
    | none => .bad "alloc: type"
  | .box _ x => match (evalO env x).known with
    | true => let (id, h) := newCells (evalO env x).cells h; .ok (.ptr id 0, h)
    | false => .bad "box"
  | .build t ps => match c.ty.get t with
    | some ti => match ti.zero with
      | some z => match ti.d with
        | .struct fs => match fillStruct fs z (evalParts env ps.toList) with
          | some l => .ok (.agg l, h)
          | none => .bad "build: struct"
        | .arr _ _ esz => match fillArr esz z (evalParts env ps.toList) with
          | some l => .ok (.agg l, h)
          | none => .bad "build: array"
        | _ => .bad "build: type"
      | none => .bad "build: zero"
    | none => .bad "build: type"
  | .buildSlice t len ps => match c.ty.get t with
    | some ti => match ti.d with
      | .slice e esz => match c.ty.get e with
        | some ei => match ei.zero with
          | some z => match z.length.beq esz, Nat.ble (len * esz) 16777216, fillArr esz (repl len z) (evalParts env ps.toList) with
            | true, true, some l => let (id, h) := newCells l h; .ok (.slice id 0 len (tagOf esz true), h)
            | _, _, _ => .bad "buildSlice"
          | none => .bad "buildSlice: zero"
        | none => .bad "buildSlice: type"
      | _ => .bad "buildSlice: type"
    | none => .bad "buildSlice: type"
  | .load t x => match evalO env x with
    | .ptr id off => match loadA c t id off h with
      | .ok v => .ok (v, h)
      | .pan v h => .pan v h
      | .bad w => .bad w
    | .gptr g off => match loadG c t g off with
      | some v => .ok (v, h)
      | none => .bad "load: global"
    | _ => .bad "load: address"
  | .store t x y => match evalO env x with
    | .ptr id off => match storeA c t id off (evalO env y) h with
      | .ok h => .ok (.tup [], h)
      | .pan v h => .pan v h
      | .bad w => .bad w
    | _ => .bad "store: address"
  | .nilCheck x => match evalO env x with
    | .ptr id off => .ok (.ptr id off, h)
    | .gptr id off => .ok (.gptr id off, h)
    | .func (.func f) a b => .ok (.func (.func f) a b, h)
    | .iface t v => .ok (.iface t v, h)
    | _ => .bad "nilCheck"
  | .binOp op t x y _ => match binOpA c op t x y (evalO env x) (evalO env y) with
    | some v => .ok (v, h)
    | none => .bad "binOp"
  | .unOp op _ x => match unA op (evalO env x) with
    | some v => .ok (v, h)
    | none => .bad "unOp"
  | .convert s d x => convA c s d (evalO env x) h
  | .makeInterface t x => match c.ty.get t with
    | some ti => match ti.d with
      | .iface => .bad "makeInterface"
      | .other => .bad "makeInterface"
      | _ => .ok (.iface t (evalO env x), h)
    | none => .bad "makeInterface: type"
  | .makeFunc fn first cap => .ok (.func fn (evalOs env first.toList) (evalOs env cap.toList), h)
  | .makeMap _ none => let (id, h) := h.new (.map [] 0); .ok (.map id, h)
  | .makeMap t (some x) => match natOf (evalO env x), mapTypes c t with
    | some _, some _ => let (id, h) := h.new (.map [] 0); .ok (.map id, h)
    | _, _ => .bad "makeMap"
  | .makeSlice t l k => match c.ty.get t, natOf (evalO env l), natOf (evalO env k) with
    | some ti, some l, some k => match ti.d with
      | .slice e esz => match c.ty.get e with
        | some ei => match ei.zero, Nat.ble l k, Nat.ble (k * ei.bytes) 16777216, Nat.ble k 16777216 with
          | some z, true, true, true => match z.length.beq esz with
            | true => let (id, h) := newCells (repl l z) h; .ok (.slice id 0 l (tagOf esz (l.beq k)), h)
            | false => .bad "makeSlice: zero"
          | _, _, _, _ => .bad "makeSlice"
        | none => .bad "makeSlice: type"
      | _ => .bad "makeSlice: type"
    | _, _, _ => .bad "makeSlice: operands"
  | .slice t x lo hi mx => match optNat env lo, optNat env hi, optNat env mx with
    | some a, some b, some m => match sliceA c t (evalO env x) a b m h with
      | some v => .ok (v, h)
      | none => .bad "slice"
    | _, _, _ => .bad "slice: bounds"
  | .fieldAddr t x f => match evalO env x, fieldOf c t f with
    | .ptr id off, some (o, _, size, _) => match size.beq 0 with
      | true => .bad "fieldAddr: size 0"
      | false => .ok (.ptr id (off + o), h)
    | .gptr id off, some (o, _, size, _) => match size.beq 0 with
      | true => .bad "fieldAddr: size 0"
      | false => .ok (.gptr id (off + o), h)
    | _, _ => .bad "fieldAddr"
  | .field t x f => match evalO env x, fieldOf c t f with
    | .agg l, some (o, ft, _, _) => match partOf c ft l o with
      | some v => .ok (v, h)
      | none => .bad "field: part"
    | _, _ => .bad "field"
  | .indexAddr t x i => match c.ty.get t, natOf (evalO env i) with
    | some ti, some i => match ti.d, evalO env x with
      | .arr n _ esz, .ptr id off => match Nat.blt i n with
        | true => .ok (.ptr id (off + i * esz), h)
        | false => .bad "indexAddr: range"
      | .arr n _ esz, .gptr id off => match Nat.blt i n with
        | true => .ok (.gptr id (off + i * esz), h)
        | false => .bad "indexAddr: range"
      | .slice _ esz, .slice id off len tag => match Nat.blt i len, (tag / 2).beq esz with
        | true, true => .ok (.ptr id (off + i * esz), h)
        | _, _ => .bad "indexAddr: range"
      | _, _ => .bad "indexAddr"
    | _, _ => .bad "indexAddr: operands"
  | .index t x i => match c.ty.get t, natOf (evalO env i) with
    | some ti, some i => match ti.d, evalO env x with
      | .arr n e esz, .agg l => match Nat.blt i n, partOf c e l (i * esz) with
        | true, some v => .ok (v, h)
        | _, _ => .bad "index: range"
      | .str, .str s => match s[i]? with
        | some b => .ok (.int .u8 (Int.ofNat b), h)
        | none => .bad "index: range"
      | _, _ => .bad "index"
    | _, _ => .bad "index: operands"
  | .sliceToArrayPointer t x => match c.ty.get t, evalO env x with
    | some ti, .slice id off len tag => match ti.d with
      | .arr n _ esz => match Nat.ble n len, (tag / 2).beq esz, n.beq 0 with
        | true, true, false => .ok (.ptr id off, h)
        | _, _, _ => .bad "sliceToArrayPointer"
      | _ => .bad "sliceToArrayPointer: type"
    | _, _ => .bad "sliceToArrayPointer"
  | .lookup t m k ok => match lookupA c t (evalO env m) (evalO env k) ok h with
    | some v => .ok (v, h)
    | none => .bad "lookup"
  | .mapUpdate t m k v => match mapUpdateA c t (evalO env m) (evalO env k) (evalO env v) h with
    | some h => .ok (.tup [], h)
    | none => .bad "mapUpdate"
  | .insert t m k v => match mapUpdateA c t (evalO env m) (evalO env k) (evalO env v) h with
    | some h => .ok (.tup [], h)
    | none => .bad "insert"
  | .mapEntry t m k => match mapEntryA c t (evalO env m) (evalO env k) h with
    | some (v, h) => .ok (v, h)
    | none => .bad "mapEntry"
  | .entryStore _ m s v => match entryStoreA (evalO env m) (evalO env s) (evalO env v) h with
    | some h => .ok (.tup [], h)
    | none => .bad "entryStore"
  | .typeAssert x _ t ok => match evalO env x, c.ty.get t with
    | .iface u v, some ti => match ti.d with
      | .iface => .bad "typeAssert: interface"
      | .other => .bad "typeAssert: type"
      | _ => match u.beq t with
        | true => .ok (lookRes ok v true, h)
        | false => match ok, zeroOf c t with
          | true, some z => .ok (.tup [z, .bool false], h)
          | _, _ => .bad "typeAssert: panics"
    | _, _ => .bad "typeAssert"
  | .extract x i => match evalO env x with
    | .tup l => match l[i]? with
      | some v => .ok (v, h)
      | none => .bad "extract: range"
    | _ => .bad "extract"
  | .call k => match k.callee with
    | .value f => callA run (evalO env f) (evalOs env k.args.toList) h
    | .builtin b => builtinA c b k.argTypes.toList (evalOs env k.args.toList) h
    | .invoke .. => .bad "call: method of an interface"
  | .range t x => match c.ty.get t, evalO env x with
    | some ti, .str s => match ti.d with
      | .str => let (id, h) := h.new (.strIter s 0); .ok (.ptr id 0, h)
      | _ => .bad "range: type"
    | some ti, .map id => match ti.d, h.obj id with
      | .map _ _, some (.map _ clock) => let (i, h) := h.new (.mapIter id clock [] clock); .ok (.ptr i 0, h)
      | _, _ => .bad "range: map"
    | _, _ => .bad "range"
  | .next it isString => match isString, evalO env it with
    | true, .ptr id 0 => match h.obj id with
      | some (.strIter s pos) => match s[pos]? with
        | none => .ok (.tup [.bool false], h)
        | some b => match Nat.blt b 128 with
          | true => .ok (.tup [.bool true, .int .i64 (Int.ofNat pos), .int .i32 (Int.ofNat b)], h.upd id (.strIter s (pos + 1)))
          | false => .bad "next: a rune of several bytes"
      | _ => .bad "next: iterator"
    | false, .ptr id 0 => match h.obj id with
      | some (.mapIter m since seen last) => match h.obj m with
        | some (.map es clock) => match es, seen with
          | [], [] => .ok (.tup [.bool false], h)
          | [(k, v, born)], [] => match Nat.blt born since with
            | true => .ok (.tup [.bool true, k, v], h.upd id (.mapIter m since [born] clock))
            | false => .bad "next: an entry that is new"
          | [(_, _, born)], [b] => match b.beq born, Nat.blt born last with
            | true, true => .ok (.tup [.bool false], h)
            | _, _ => .bad "next: entries have turned"
          | _, _ => .bad "next: a map of several entries"
        | _ => .bad "next: map"
      | _ => .bad "next: iterator"
    | _, _ => .bad "next"
  | .entry it => match evalO env it with
    | .ptr id 0 => match h.obj id with
      | some (.mapIter m _ [b] last) => match h.obj m with
        | some (.map [(k, v, born)] clock) => match clock.beq last, b.beq born with
          | true, true => .ok (.tup [k, v], h)
          | _, _ => .bad "entry: the map has turned"
        | _ => .bad "entry: map"
      | _ => .bad "entry: iterator"
    | _ => .bad "entry"
  | .panic x => match evalO env x with
    | .iface t v => .pan (.iface t v) h
    | _ => .bad "panic"
  | _ => .bad "op"
def dstPut (env : T AV) : Option Nat → AV → T AV
  | none, _ => env
  | some d, v => env.set d v
def wantedA (env : T AV) (ops : List Oper) : Option (Nat × Bool) → Option Bool
  | none => some true
  | some (j, want) => match ops[j]? with
    | some oj => match oj.dst with
      | some d => match env.get d with
        | some (.bool b) => some (boolEq b want)
        | some .unk => none
        | some _ => some false
        | none => none
      | none => none
    | none => none
def deferB (c : Ctx) (env : T AV) (q : Call) : Bool := match q.callee, q.args.toList with
  | .value x, [] => match evalO env x with
    | .func (.func g) [] _ => (c.df.get g).isSome
    | _ => false
  | _, _ => false
def opD (c : Ctx) (run : Run) (env : T AV) (o : Op) (h : H) : R (AV × H) := match o with
  | .defer q => match deferB c env q with
    | true => .ok (.tup [], h)
    | false => .bad "defer"
  | .panic x => opA c run env (.panic x) h
  | .call q => match q.callee with
    | .value _ => opA c run env (.call q) h
    | _ => (opA c run env (.call q) h).np
  | o => (opA c run env o h).np
def opsA (c : Ctx) (run : Run) (ops : List Oper) : List Oper → T AV → H → R (T AV × H)
  | [], env, h => .ok (env, h)
  | o :: l, env, h => match wantedA env ops o.guard with
    | none => .bad ("guard " ++ o.pos)
    | some false => opsA c run ops l (dstPut env o.dst (.tup [])) h
    | some true => match opD c run env o.op h with
      | .ok (v, h) => opsA c run ops l (dstPut env o.dst v) h
      | .pan v h => .pan v h
      | .bad w => .bad (w ++ " @ " ++ o.pos)
end Am

namespace Am
open Go
inductive Cls where
  | pure | read | new | chain
def clsOf (c : Ctx) : Op → Cls
  | .move _ | .assign _ | .pick .. | .build .. | .fieldAddr .. | .field .. | .indexAddr .. | .index .. | .unOp .. | .binOp .. | .makeFunc .. | .makeInterface ..
  | .extract .. | .nilCheck _ | .sliceToArrayPointer .. | .typeAssert .. => .pure
  | .slice t .. => match c.ty.get t with
    | some ti => match ti.d with
      | .arr .. => .read
      | _ => .pure
    | none => .chain
  | .load .. | .lookup .. => .read
  | .alloc _ | .box .. | .buildSlice .. | .makeSlice .. | .makeMap .. => .new
  | .convert s d _ => match c.ty.get s, c.ty.get d with
    | some a, some b => match a.d, b.d with
      | .int _, .int _ => .pure
      | .str, .str => .pure
      | .int _, .str => .pure
      | .str, .slice .. => .new
      | _, _ => .chain
    | _, _ => .chain
  | .call k => match k.callee with
    | .builtin .len => match k.argTypes[0]? with
      | some t => match c.ty.get t with
        | some ti => match ti.d with
          | .map .. => .read
          | _ => .pure
        | none => .chain
      | none => .chain
    | .builtin .max | .builtin .min => .pure
    | _ => .chain
  | _ => .chain
def Cls.isChain : Cls → Bool | .chain => true | _ => false
def Cls.isNew : Cls → Bool | .new => true | _ => false
def Cls.isRead : Cls → Bool | .read => true | _ => false
def bindsAny (e : Edge) : Bool := match e.ground with
  | .textOnly _ | .gcOnly _ => false
  | _ => true
def edgesMask (ms : List Nat) : List Edge → Nat → Nat
  | [], m => m
  | e :: l, m => match bindsAny e with
    | true => edgesMask ms l (Nat.lor m (Nat.lor (2 ^ e.on) (ms.getD e.on 0)))
    | false => edgesMask ms l m
def masks : List Oper → List Nat → List Nat
  | [], acc => acc
  | o :: l, acc => masks l (acc ++ [edgesMask acc o.after.toList 0])
def hasBit (m i : Nat) : Bool := ((m / 2 ^ i) % 2).beq 1
def opTmps (o : Oper) : List Nat := o.op.operands.toList.filterMap fun | .tmp t => some t | _ => none
def guardTmp (ops : List Oper) (o : Oper) : List Nat := match o.guard with
  | none => []
  | some (j, _) => match ops[j]? with
    | some oj => match oj.dst with
      | some d => [d]
      | none => []
    | none => []
structure PO where
  i : Nat
  o : Oper
  c : Cls
  m : Nat       -- what stands before it
  lk : List Nat -- what it looks at
def mkPOs (c : Ctx) (ops : List Oper) : List Oper → List Nat → Nat → List PO
  | o :: l, m :: ms, i => ⟨i, o, clsOf c o.op, m, opTmps o ++ guardTmp ops o⟩ :: mkPOs c ops l ms (i + 1)
  | _, _, _ => []
def ready (done : Nat) (q : PO) : List PO → Nat → List PO → Nat × List PO
  | [], d, acc => (d, acc)
  | p :: l, d, acc =>
    match hasBit d p.i || p.c.isChain || (p.c.isNew && !(hasBit q.m p.i)) || !((Nat.land p.m d).beq p.m) with
    | true => ready done q l d acc
    | false => ready done q l (Nat.lor d (2 ^ p.i)) (p :: acc)
def planGo (all : List PO) : List PO → Nat → List PO → List PO
  | [], d, acc => rest d all acc
  | p :: l, d, acc => match p.c.isChain with
    | false => planGo all l d acc
    | true => match ready d p all d acc with
      | (d, acc) => planGo all l (Nat.lor d (2 ^ p.i)) (p :: acc)
where
  rest (d : Nat) : List PO → List PO → List PO
    | [], acc => acc.reverse
    | p :: l, acc => match hasBit d p.i with
      | true => rest d l acc
      | false => rest d l (p :: acc)
def memN (n : Nat) : List Nat → Bool
  | [] => false
  | m :: l => match n.beq m with | true => true | false => memN n l
def tmpsOk (p q : PO) : Bool :=
  (match q.o.dst with
   | none => true
   | some d => (match p.o.dst with | some d' => !(d.beq d') | none => true) && (!(memN d p.lk) || hasBit p.m q.i)) &&
  (match p.o.dst with
   | none => true
   | some d => !(memN d q.lk) || hasBit p.m q.i)
def clsOk (p q : PO) : Bool := match p.c, q.c with
  | .chain, .chain => hasBit p.m q.i
  | .chain, .new => hasBit p.m q.i
  | .read, .chain => hasBit p.m q.i
  | .read, .new => hasBit p.m q.i
  | _, _ => true
def planOk1 (bef : List PO) (p : PO) : Bool :=
  allB (fun q => !(q.i.beq p.i) && tmpsOk p q && !(hasBit q.m p.i) && clsOk p q) bef &&
  (match p.o.guard with | none => true | some (j, _) => hasBit p.m j) && !(hasBit p.m p.i)
def planOk : List PO → List PO → Bool
  | _, [] => true
  | bef, p :: l => match planOk1 bef p with
    | true => planOk (p :: bef) l
    | false => false
def plan (c : Ctx) (ops : List Oper) : Option (List PO) :=
  let pos := mkPOs c ops ops (masks ops []) 0
  let l := planGo pos pos 0 []
  match allB (fun p => memN p.i (l.map PO.i) && Nat.blt p.m (2 ^ ops.length)) pos, planOk [] l with
  | true, true => some l
  | _, _ => none
def staysAs (c : Ctx) (run : Run) (p : PO) (h' : H) : List (PO × T AV × AV) → Bool
  | [] => true
  | (q, env, v) :: l => match hasBit p.m q.i with
    | true => staysAs c run p h' l
    | false => match opA c run env q.o.op h' with
      | .ok (v', _) => match AV.same v v' with
        | true => staysAs c run p h' l
        | false => false
      | _ => false
def panOp : Op → Bool
  | .panic _ => true
  | .call q => (match q.callee with | .value _ => true | _ => false)
  | _ => false
def planA (c : Ctx) (run : Run) (ops : List Oper) : List PO → List (PO × T AV × AV) → T AV → H → R (T AV × H)
  | [], _, env, h => .ok (env, h)
  | p :: l, rd, env, h => match wantedA env ops p.o.guard with
    | none => .bad ("guard " ++ p.o.pos)
    | some false => planA c run ops l rd (dstPut env p.o.dst (.tup [])) h
    | some true => match opA c run env p.o.op h with
      | .ok (v, h') => match p.c with
        | .read => planA c run ops l ((p, env, v) :: rd) (dstPut env p.o.dst v) h'
        | .chain => match staysAs c run p h' rd with
          | true => planA c run ops l rd (dstPut env p.o.dst v) h'
          | false => .bad ("what was read may be changed " ++ p.o.pos)
        | _ => planA c run ops l rd (dstPut env p.o.dst v) h'
      | .pan v h' => match l, allB (fun j => j.beq p.i || hasBit p.m j) (List.range ops.length), panOp p.o.op with
        | [], true, true => .pan v h'
        | _, _, _ => .bad ("panics in a region that draws " ++ p.o.pos)
      | .bad w => .bad (w ++ " @ " ++ p.o.pos)
def loopA (f : S → R (X × S)) : Nat → S → R (X × S)
  | 0, _ => .bad "loop: rounds"
  | n + 1, s => match f s with
    | .ok (.norm, s) => loopA f n s
    | r => r
def rounds : Nat := 1000000
def enterA (rd : Option Nat) (s : S) : Option (Nat × List Nat × H) := match rd with
  | none => some ((s.h.new .marks).1, (s.h.new .marks).1 :: s.marks, (s.h.new .marks).2)
  | some l => match s.h.obj l with
    | some (.loop _ _ _ _ d) => some (d, s.marks, s.h)
    | _ => none
def rangeA (c : Ctx) (run : Run) (g : AV) (l : Nat) (h : H) : R (AV × H) := match g with
  | .func (.func f) first cap => match c.ext.get f with
    | none => run (.fn f) (first ++ [.yield l] ++ cap) h
    | some _ => .bad "rangeFunc: extern"
  | _ => .bad "rangeFunc: function"
def keepF : List Nat → T AV → T AV → T AV
  | [], _, acc => acc
  | t :: l, env, acc => keepF l env (match env.get t with | some v => acc.set t v | none => acc)
def keepT (l : List Nat) (env : T AV) : T AV := keepF l env .e
def S.keep (an : An) (s : S) : S := match an with
  | .n (some l) _ _ _ => ⟨keepT l s.env, s.marks, s.h⟩
  | _ => s
def rngs : Code → An → List (Nat × Rng)
  | .seq a b, an => rngs a an.l ++ rngs b an.r
  | .cond _ a b, an => rngs a an.l ++ rngs b an.r
  | .block _ b, an => rngs b an.l
  | .loop b, an => rngs b an.l
  | .scope b, an => rngs b an.l
  | .rangeFunc _ ps a b, an => [(an.id, ⟨ps.toList, a, b, an.l, an.r⟩)]
  | _, _ => []
def RngsOk (t : T Rng) : List (Nat × Rng) → Prop
  | [] => True
  | x :: l => t.get x.1 = some x.2 ∧ RngsOk t l
def noDefOp (o : Oper) : Bool := match o.op with
  | .defer _ => false
  | _ => true
def noDef : Code → Bool
  | .region _ ops _ => allB noDefOp ops.toList
  | .seq a b => noDef a && noDef b
  | .cond _ a b => noDef a && noDef b
  | .block _ b => noDef b
  | .loop b => noDef b
  | .rangeFunc _ _ a b => noDef a && noDef b
  | .scope b => noDef b
  | _ => true
def dropD : List Oper → T AV → T AV
  | [], env => env
  | o :: l, env => dropD l (match o.dst with | none => env | some d => env.put d none)
def execA (c : Ctx) (run : Run) (rd : Option Nat) : Code → An → S → R (X × S)
  | .skip, an, s => .ok (.norm, s.keep an)
  | .region _ ops draw, an, s => match (match draw with
      | false => opsA c run ops.toList ops.toList (s.keep an).env s.h
      | true => match plan c ops.toList with
        | some l => planA c run ops.toList l [] (s.keep an).env s.h
        | none => .bad ("no plan " ++ (ops.toList.head?.map Oper.pos).getD "")) with
    | .ok (env, h) => .ok (.norm, ⟨env, s.marks, h⟩)
    | .pan v h => .ok (.pan v, ⟨dropD ops.toList (s.keep an).env, s.marks, h⟩)
    | .bad w => .bad w
  | .seq a b, an, s => match execA c run rd a an.l (s.keep an) with
    | .ok (.norm, s) => execA c run rd b an.r s
    | r => r
  | .cond o a b, an, s => match evalO (s.keep an).env o with
    | .bool true => execA c run rd a an.l (s.keep an)
    | .bool false => execA c run rd b an.r (s.keep an)
    | _ => .bad "cond"
  | .block id b, an, s => match execA c run rd b an.l (s.keep an) with
    | .ok (.exit i, s) => match i.beq id with
      | true => .ok (.norm, s)
      | false => .ok (.exit i, s)
    | r => r
  | .loop b, an, s => loopA (execA c run rd b an.l) rounds (s.keep an)
  | .rangeFunc f ps assign body, an, s0 =>
    let s := s0.keep an
    let g := evalO s.env f
    match enterA rd s with
    | none => .bad "rangeFunc: loop"
    | some (d, marks, h) =>
      let (l, h) := h.new (.loop .ready none s.env an.id d)
      match rangeA c run g l h with
      | .ok (_, h) => match h.obj l with
        | some (.loop st pend env r d) => match st with
          | .busy => .bad "rangeFunc: busy"
          | _ =>
            let h := h.upd l (.loop .exhausted pend env r d)
            match pend with
            | none => .ok (.norm, ⟨s.env, marks, h⟩)
            | some .ret => .ok (.ret, ⟨s.env, marks, h⟩)
            | some (.exit i) => .ok (.exit i, ⟨s.env, marks, h⟩)
            | some _ => .bad "rangeFunc: jump"
        | _ => .bad "rangeFunc: loop gone"
      | .pan _ _ => .bad "rangeFunc: panics"
      | .bad w => .bad w
  | .exit id, an, s => .ok (.exit id, s.keep an)
  | .ret, an, s => .ok (.ret, s.keep an)
  | .scope b, an, s => match execA c run rd b an.l (s.keep an) with
    | .ok (.goto _, _) => .bad "goto"
    | r => r
  | .label _, an, s => .ok (.norm, s.keep an)
  | .goto _, _, _ => .bad "goto"
  | .refuse w, _, _ => .bad w
def resultsA (c : Ctx) (env : T AV) (h : H) : List ResultVar → R (List AV)
  | [] => .ok []
  | .tmp t :: l => match resultsA c env h l with
    | .ok vs => .ok (evalO env (.tmp t) :: vs)
    | r => r
  | .cell a t :: l => match evalO env (.tmp a) with
    | .ptr id off => match loadA c t id off h, resultsA c env h l with
      | .ok v, .ok vs => .ok (v :: vs)
      | _, _ => .bad "results"
    | _ => .bad "results: address"
def tupOf : List AV → AV
  | [v] => v
  | l => .tup l
def unmark : List Nat → H → Option H
  | [], h => some h
  | r :: l, h => match h.obj r with
    | some .marks => unmark l (h.kill r)
    | _ => none
def setParams : T AV → List Nat → List AV → Option (T AV)
  | env, [], [] => some env
  | env, t :: ts, v :: vs => setParams (env.set t v) ts vs
  | _, _, _ => none
def indexOf (b : Nat) : List Nat → Nat → Int
  | [], _ => -1
  | a :: l, i => match a.beq b with | true => Int.ofNat i | false => indexOf b l (i + 1)
def extA (e : Ext) (args : List AV) (h : H) : R (AV × H) := match e, args with
  | .indexByteString, [.str s, .int .u8 (.ofNat b)] => match Nat.blt b 256 with
    | true => .ok (.int .i64 (indexOf b s 0), h)
    | false => .bad "extern"
  | _, _ => .bad "extern"
def anOf (c : Ctx) (f : Nat) : An := match c.an.get f with | some a => a | none => .no
def stepA (c : Ctx) (run : Run) : Run
  | .fn f, args, h => match (match c.sum.get f with | some s => s args h | none => none) with
   | some r => .ok r
   | none => match c.fn.get f with
    | none => .bad ("no function " ++ toString f)
    | some fn => match fn.body with
      | none => match c.ext.get f with
        | some e => extA e args h
        | none => .bad ("no body " ++ fn.name)
      | some code => match execA c run none code (anOf c f) ⟨T.ofList args, [], h⟩ with
        | .ok (x, s) => match x with
          | .norm | .ret => match unmark s.marks s.h with
            | some h => match resultsA c s.env h fn.results.toList with
              | .ok vs => .ok (tupOf vs, h)
              | .pan _ _ => .bad "results"
              | .bad w => .bad w
            | none => .bad "marks"
          | .pan v => match noDef code, unmark s.marks s.h with
            | true, some h => .pan v h
            | _, _ => .bad "a panic in a function that defers"
          | _ => .bad "a jump out of a function"
        | .pan _ _ => .bad "panic"
        | .bad w => .bad (w ++ "\n  in " ++ fn.name)
  | .yield l, args, h => match h.obj l with
    | some (.loop _ _ env r _) => match c.rng.get r with
     | none => .bad "yield: no such range"
     | some q => match setParams env q.ps args with
      | none => .bad "yield: arguments"
      | some env => match execA c run (some l) q.assign q.al ⟨env, [], h⟩ with
        | .ok (.norm, s) => match s.h.obj l with
          | some (.loop .ready pend en r d) =>
            match execA c run (some l) q.body q.ar ⟨s.env, s.marks, s.h.upd l (.loop .busy pend en r d)⟩ with
            | .ok (x, s) => match s.h.obj l with
              | some (.loop _ _ en r d) => match x with
                | .norm => .ok (.bool true, s.h.upd l (.loop .ready none en r d))
                | .ret => .ok (.bool false, s.h.upd l (.loop .done (some .ret) en r d))
                | .exit i => .ok (.bool false, s.h.upd l (.loop .done (some (.exit i)) en r d))
                | _ => .bad "round: jump or panic"
              | _ => .bad "round: loop"
            | .pan _ _ => .bad "panic in a round"
            | .bad w => .bad (w ++ "\n  in a round")
          | _ => .bad "round: not ready"
        | .ok _ => .bad "round: assign"
        | .pan _ _ => .bad "panic in a round"
        | .bad w => .bad w
    | _ => .bad "yield: no loop"
def runA (c : Ctx) : Nat → Run
  | 0, _, _, _ => .bad "fuel"
  | k + 1, t, args, h => stepA c (runA c k) t args h
def tdOf (p : Program) : TypeDesc → TD
  | .bool => .bool
  | .int k => .int k
  | .string => .str
  | .pointer e => .ptr e
  | .slice e => .slice e ((p.info? e).map (·.size) |>.getD 0)
  | .array n e => .arr n e ((p.info? e).map (·.size) |>.getD 0)
  | .map k e => .map k e
  | .struct fs => .struct (fs.toList.map fun f => (f.offset, f.type, (p.info? f.type).map (·.size) |>.getD 0, f.name == "_"))
  | .func .. => .func
  | .interface _ => .iface
  | _ => .other
def tiOf (p : Program) (t : Nat) : Option TI := match p.info? t, p.underlying t with
  | some i, some d => some { size := i.size, bytes := i.bytes, d := tdOf p d, zero := i.zero.map fun z => (ofValue z).cells, guard := match d with | .struct _ | .array .. => p.eqGuardType p.depth t | _ => false }
  | _, _ => none
end Am

namespace Am
open Go
structure Loc where
  b : Nat
  base : Nat
  room : Nat
abbrev Rho := Nat → Option Loc
def Rho.le (ρ ρ' : Rho) : Prop := ∀ id l, ρ id = some l → ρ' id = some l
theorem Rho.le_refl (ρ : Rho) : ρ.le ρ := fun _ _ h => h
theorem Rho.le_trans {a b c : Rho} (h : a.le b) (k : b.le c) : a.le c := fun _ _ x => k _ _ (h _ _ x)
mutual
inductive VRel (ρ : Rho) : AV → Value → Prop
  | unk (v : Value) : VRel ρ .unk v
  | bool (b : Bool) : VRel ρ (.bool b) (.bool b)
  | int (k : IntKind) (n : Int) : VRel ρ (.int k n) (.int k n)
  | str (x : ByteArray) : VRel ρ (.str (ofBytes x)) (.string x)
  | ptr (id off : Nat) (l : Loc) (h : ρ id = some l) : VRel ρ (.ptr id off) (.pointer (some ⟨l.b, l.base + off, none⟩))
  | gptr (g off : Nat) : VRel ρ (.gptr g off) (.pointer (some ⟨g, off, none⟩))
  | nilPtr : VRel ρ .nilPtr (.pointer none)
  | slice (id off len tag : Nat) (l : Loc) (a : Addr) (cap : Nat) (h : ρ id = some l) (hl : len ≤ cap) (ha : cap = 0 ∨ a = ⟨l.b, l.base + off, none⟩)
      (hx : tag % 2 = 1 → cap = len) (hr : off + cap * (tag / 2) ≤ l.room) : VRel ρ (.slice id off len tag) (.slice (some a) len cap)
  | nilSlice : VRel ρ .nilSlice (.slice none 0 0)
  | map (id : Nat) (l : Loc) (h : ρ id = some l) : VRel ρ (.map id) (.map (some l.b))
  | nilMap : VRel ρ .nilMap (.map none)
  | func (fn : Fn) (first cap : List AV) (f c : List Value) (hf : VRels ρ first f) (hc : VRels ρ cap c) : VRel ρ (.func fn first cap) (.func fn ⟨f⟩ ⟨c⟩)
  | yield (id : Nat) (l : Loc) (h : ρ id = some l) : VRel ρ (.yield id) (.func (.yield l.b) #[] #[])
  | nilFunc : VRel ρ .nilFunc .nilFunc
  | iface (t : Nat) (v : AV) (x : Value) (h : VRel ρ v x) : VRel ρ (.iface t v) (.iface t x)
  | nilIface : VRel ρ .nilIface .nilIface
  | agg (l : List AV) (c : List Value) (h : VRels ρ l c) : VRel ρ (.agg l) (.agg ⟨c⟩)
  | tup (l : List AV) (c : List Value) (h : VRels ρ l c) : VRel ρ (.tup l) (.tuple ⟨c⟩)
inductive VRels (ρ : Rho) : List AV → List Value → Prop
  | nil : VRels ρ [] []
  | cons (a : AV) (v : Value) (l : List AV) (c : List Value) (h : VRel ρ a v) (t : VRels ρ l c) : VRels ρ (a :: l) (v :: c)
end
mutual
theorem VRel.mono {ρ ρ' : Rho} (hle : ρ.le ρ') : ∀ {a : AV} {v : Value}, VRel ρ a v → VRel ρ' a v
  | _, _, .unk v => .unk v
  | _, _, .bool b => .bool b
  | _, _, .int k n => .int k n
  | _, _, .str x => .str x
  | _, _, .ptr id off l h => .ptr id off l (hle _ _ h)
  | _, _, .gptr g off => .gptr g off
  | _, _, .nilPtr => .nilPtr
  | _, _, .slice id off len tag l a cap h hl ha hx hr => .slice id off len tag l a cap (hle _ _ h) hl ha hx hr
  | _, _, .nilSlice => .nilSlice
  | _, _, .map id l h => .map id l (hle _ _ h)
  | _, _, .nilMap => .nilMap
  | _, _, .func fn _ _ f c hf hc => .func fn _ _ f c (hf.mono hle) (hc.mono hle)
  | _, _, .yield id l h => .yield id l (hle _ _ h)
  | _, _, .nilFunc => .nilFunc
  | _, _, .iface t v x h => .iface t v x (h.mono hle)
  | _, _, .nilIface => .nilIface
  | _, _, .agg _ c h => .agg _ c (h.mono hle)
  | _, _, .tup _ c h => .tup _ c (h.mono hle)
theorem VRels.mono {ρ ρ' : Rho} (hle : ρ.le ρ') : ∀ {a : List AV} {v : List Value}, VRels ρ a v → VRels ρ' a v
  | _, _, .nil => .nil
  | _, _, .cons a v l c h t => .cons a v l c (h.mono hle) (t.mono hle)
end
theorem VRels.length {ρ : Rho} : ∀ {l : List AV} {c : List Value}, VRels ρ l c → l.length = c.length
  | _, _, .nil => rfl
  | _, _, .cons _ _ _ _ _ t => by simp [t.length]
theorem VRels.get {ρ : Rho} : ∀ {l : List AV} {c : List Value}, VRels ρ l c → ∀ {i : Nat} {a : AV}, l[i]? = some a → ∃ v, c[i]? = some v ∧ VRel ρ a v
  | _, _, .nil, i, a, h => by simp at h
  | _, _, .cons a v l c h t, 0, b, hb => by simp at hb; subst hb; exact ⟨v, by simp, h⟩
  | _, _, .cons a v l c h t, i + 1, b, hb => by
    simp only [List.getElem?_cons_succ] at hb ⊢
    exact t.get hb
theorem VRels.append {ρ : Rho} : ∀ {l : List AV} {c : List Value} {l' : List AV} {c' : List Value}, VRels ρ l c → VRels ρ l' c' → VRels ρ (l ++ l') (c ++ c')
  | _, _, _, _, .nil, h => h
  | _, _, _, _, .cons a v l c h t, h' => .cons a v _ _ h (t.append h')
theorem VRels.take {ρ : Rho} : ∀ {l : List AV} {c : List Value} (n : Nat), VRels ρ l c → VRels ρ (l.take n) (c.take n)
  | _, _, 0, _ => by simp; exact .nil
  | _, _, n + 1, .nil => by simp; exact .nil
  | _, _, n + 1, .cons a v l c h t => by simpa using VRels.cons a v _ _ h (t.take n)
theorem VRels.drop {ρ : Rho} : ∀ {l : List AV} {c : List Value} (n : Nat), VRels ρ l c → VRels ρ (l.drop n) (c.drop n)
  | _, _, 0, h => by simpa using h
  | _, _, n + 1, .nil => by simp; exact .nil
  | _, _, n + 1, .cons a v l c h t => by simpa using t.drop n
theorem VRels.of_forall {ρ : Rho} : ∀ {l : List AV} {c : List Value}, l.length = c.length → (∀ (i : Nat) (a : AV) (v : Value), l[i]? = some a → c[i]? = some v → VRel ρ a v) → VRels ρ l c
  | [], [], _, _ => .nil
  | [], _ :: _, h, _ => by simp at h
  | _ :: _, [], h, _ => by simp at h
  | a :: l, v :: c, h, k => .cons a v l c (k 0 a v rfl rfl) (VRels.of_forall (by simpa using h) fun i x y hx hy => k (i + 1) x y (by simpa using hx) (by simpa using hy))
theorem VRel.cells {ρ : Rho} {a : AV} {v : Value} (h : VRel ρ a v) (hu : a ≠ .unk) : VRels ρ a.cells v.cells.toList := by
  cases h <;> first
    | exact absurd rfl hu
    | (simp only [AV.cells, Value.cells]; assumption)
    | (simp only [AV.cells, Value.cells]; exact .cons _ _ _ _ (by first | exact .bool _ | exact .int _ _ | exact .str _ | exact .ptr _ _ _ (by assumption) | exact .gptr _ _ | exact .nilPtr | exact .slice _ _ _ _ _ _ _ (by assumption) (by assumption) (by assumption) (by assumption) (by assumption) | exact .nilSlice | exact .map _ _ (by assumption) | exact .nilMap | exact .func _ _ _ _ _ (by assumption) (by assumption) | exact .yield _ _ (by assumption) | exact .nilFunc | exact .iface _ _ _ (by assumption) | exact .nilIface | exact .tup _ _ (by assumption)) .nil)
def ERel (ρ : Rho) (env : T AV) (tmps : Array Value) : Prop := ∀ t v, env.get t = some v → ∃ x, tmps[t]? = some x ∧ VRel ρ v x
theorem ERel.mono {ρ ρ' : Rho} (hle : ρ.le ρ') {env : T AV} {tmps : Array Value} (h : ERel ρ env tmps) : ERel ρ' env tmps :=
  fun t v ht => let ⟨x, hx, hv⟩ := h t v ht; ⟨x, hx, hv.mono hle⟩
theorem P.mk_inj {i j : Nat} {p q : P} (hi : i < 8) (hj : j < 8) (h : P.mk i p = P.mk j q) : i = j ∧ p = q := by
  have e : ∀ k : Nat, k < 8 → k = 0 ∨ k = 1 ∨ k = 2 ∨ k = 3 ∨ k = 4 ∨ k = 5 ∨ k = 6 ∨ k = 7 := by omega
  rcases e i hi with rfl | rfl | rfl | rfl | rfl | rfl | rfl | rfl <;> rcases e j hj with rfl | rfl | rfl | rfl | rfl | rfl | rfl | rfl <;> simp_all [P.mk]
theorem P.mk_ne (i : Nat) (p : P) : P.mk i p ≠ .z := by unfold P.mk; split <;> simp
theorem pathF_inj : ∀ (f : Nat) (j f' k : Nat), j ≤ f → k ≤ f' → pathF f j = pathF f' k → j = k := by
  have z : ∀ f, pathF f 0 = .z := fun f => by cases f <;> rfl
  have s : ∀ f k, pathF (f + 1) (k + 1) = P.mk (k % 8) (pathF f (k / 8)) := fun f k => rfl
  intro f
  induction f with
  | zero =>
    intro j f' k hj hk h
    obtain rfl : j = 0 := by omega
    cases k with
    | zero => rfl
    | succ k =>
      obtain ⟨g, rfl⟩ : ∃ g, f' = g + 1 := ⟨f' - 1, by omega⟩
      rw [z, s] at h; exact absurd h.symm (P.mk_ne _ _)
  | succ f ih =>
    intro j f' k hj hk h
    cases j with
    | zero =>
      cases k with
      | zero => rfl
      | succ k =>
        obtain ⟨g, rfl⟩ : ∃ g, f' = g + 1 := ⟨f' - 1, by omega⟩
        rw [z, s] at h; exact absurd h.symm (P.mk_ne _ _)
    | succ j =>
      cases k with
      | zero => rw [z, s] at h; exact absurd h (P.mk_ne _ _)
      | succ k =>
        obtain ⟨g, rfl⟩ : ∃ g, f' = g + 1 := ⟨f' - 1, by omega⟩
        rw [s, s] at h
        obtain ⟨h1, h2⟩ := P.mk_inj (Nat.mod_lt _ (by decide)) (Nat.mod_lt _ (by decide)) h
        have := ih (j / 8) g (k / 8) (by omega) (by omega) h2
        omega
theorem path_inj {j k : Nat} (h : path j = path k) : j = k := pathF_inj _ _ _ _ (Nat.le_refl _) (Nat.le_refl _) h
theorem T.getP_e {α : Type} (p : P) : T.getP p (T.e : T α) = none := by cases p <;> rfl
theorem T.get_e {α : Type} (k : Nat) : (T.e : T α).get k = none := T.getP_e _
theorem T.getP_setP {α : Type} (p : P) : ∀ (t : T α) (a : Option α) (q : P), T.getP q (T.setP p t a) = if q = p then a else T.getP q t := by
  induction p with
  | z => rintro ⟨_ | _⟩ a q <;> cases q <;> simp [T.setP, T.getP]
  | d0 p ih => rintro ⟨_ | _⟩ a q <;> cases q <;> simp [T.setP, T.getP, T.getP_e, ih]
  | d1 p ih => rintro ⟨_ | _⟩ a q <;> cases q <;> simp [T.setP, T.getP, T.getP_e, ih]
  | d2 p ih => rintro ⟨_ | _⟩ a q <;> cases q <;> simp [T.setP, T.getP, T.getP_e, ih]
  | d3 p ih => rintro ⟨_ | _⟩ a q <;> cases q <;> simp [T.setP, T.getP, T.getP_e, ih]
  | d4 p ih => rintro ⟨_ | _⟩ a q <;> cases q <;> simp [T.setP, T.getP, T.getP_e, ih]
  | d5 p ih => rintro ⟨_ | _⟩ a q <;> cases q <;> simp [T.setP, T.getP, T.getP_e, ih]
  | d6 p ih => rintro ⟨_ | _⟩ a q <;> cases q <;> simp [T.setP, T.getP, T.getP_e, ih]
  | d7 p ih => rintro ⟨_ | _⟩ a q <;> cases q <;> simp [T.setP, T.getP, T.getP_e, ih]
theorem T.get_put {α : Type} (t : T α) (k : Nat) (a : Option α) (j : Nat) : (t.put k a).get j = if j = k then a else t.get j := by
  unfold T.put T.get
  rw [T.getP_setP]
  by_cases h : j = k
  · subst h; simp
  · rw [if_neg h, if_neg (fun hh => h (path_inj hh))]
theorem T.get_set {α : Type} (t : T α) (k : Nat) (a : α) (j : Nat) : (t.set k a).get j = if j = k then some a else t.get j := T.get_put t k (some a) j
theorem T.get_ofListFrom {α : Type} : ∀ (l : List α) (i : Nat) (t : T α) (j : Nat), (T.ofListFrom i l t).get j = if i ≤ j ∧ j < i + l.length then l[j - i]? else t.get j
  | [], i, t, j => by simp only [T.ofListFrom]; rw [if_neg (by simp only [List.length_nil]; omega)]
  | a :: l, i, t, j => by
    simp only [T.ofListFrom]
    rw [T.get_ofListFrom l (i + 1) (t.set i a) j, T.get_set]
    by_cases h1 : j = i
    · subst h1
      rw [if_neg (by omega), if_pos rfl, if_pos (by simp)]; simp
    · by_cases h2 : i + 1 ≤ j ∧ j < i + 1 + l.length
      · have h3 : j - i = (j - (i + 1)) + 1 := by omega
        rw [if_pos h2, if_pos (by simp; omega), h3]; simp
      · rw [if_neg h2, if_neg h1, if_neg (by simp; omega)]
theorem T.get_ofList {α : Type} (l : List α) (j : Nat) : (T.ofList l).get j = l[j]? := by
  unfold T.ofList
  rw [T.get_ofListFrom]
  by_cases h : j < l.length
  · simp [h]
  · rw [if_neg (by omega), List.getElem?_eq_none (by omega)]; exact T.get_e _
end Am

namespace Am
open Go
abbrev PH := Nat → Option AObj
def H.ph (h : H) : PH := h.t.get
theorem H.ph_obj (h : H) (id : Nat) : h.obj id = h.ph id := rfl
def Own (ρ : Rho) (h : PH) (b k : Nat) : Prop := ∃ id o l, h id = some o ∧ ρ id = some l ∧ l.b = b ∧ l.base ≤ k ∧ k < l.base + l.room
def dstOk (n : Nat) (o : Oper) : Bool := match o.dst with
  | none => true
  | some d => Nat.blt d n
def codeOk (n : Nat) : Code → Bool
  | .region _ ops _ => allB (dstOk n) ops.toList
  | .seq a b => codeOk n a && codeOk n b
  | .cond _ a b => codeOk n a && codeOk n b
  | .block _ b => codeOk n b
  | .loop b => codeOk n b
  | .rangeFunc _ ps a b => allB (fun p => Nat.blt p n) ps.toList && codeOk n a && codeOk n b
  | .scope b => codeOk n b
  | _ => true
def MRel (ρ : Rho) : List (AV × AV × Nat) → List MapEntry → Prop
  | [], [] => True
  | (k, v, born) :: es, e :: l => VRel ρ k e.key ∧ VRel ρ v e.val ∧ e.born = born ∧ MRel ρ es l
  | _, _ => False
theorem MRel.mono {ρ ρ' : Rho} (hle : ρ.le ρ') : ∀ {es : List (AV × AV × Nat)} {l : List MapEntry}, MRel ρ es l → MRel ρ' es l
  | [], [], _ => trivial
  | (_, _, _) :: _, _ :: _, ⟨a, b, c, d⟩ => ⟨a.mono hle, b.mono hle, c, MRel.mono hle d⟩
  | [], _ :: _, h => h.elim
  | _ :: _, [], h => h.elim
def ObjAt (G : Gd) (ρ : Rho) (o : AObj) (ob : Obj) (l : Loc) : Prop := match o with
  | .cells n t => ∃ arr elem fr, ob = .cells arr elem fr ∧ n ≤ l.room ∧ l.base + l.room ≤ arr.size ∧ (∀ k, l.base ≤ k → k < l.base + l.room → ¬ (fr.1 ≤ k ∧ k < fr.2)) ∧
      ∀ k, k < n → ∃ v x, t.get k = some v ∧ arr[l.base + k]? = some x ∧ VRel ρ v x
  | .map es clock => l.base = 0 ∧ 0 < l.room ∧ ∃ ces, ob = .map ces clock ∧ MRel ρ es ces.toList
  | .strIter s pos => l.base = 0 ∧ 0 < l.room ∧ ∃ x, ob = .stringIter x pos ∧ ofBytes x = s
  | .loop st pend env r d => l.base = 0 ∧ 0 < l.room ∧ ∃ lp : Loop, ob = .loop lp ∧ lp.state = st ∧ lp.pending = pend ∧ ERel ρ env lp.tmps ∧ (∃ ld, ρ d = some ld ∧ lp.defers = ld.b) ∧
      ∃ q, G.rng.get r = some q ∧ lp.params.toList = q.ps ∧ lp.assign = q.assign ∧ lp.body = q.body ∧ codeOk lp.tmps.size q.assign = true ∧ codeOk lp.tmps.size q.body = true ∧ allB (fun p => Nat.blt p lp.tmps.size) q.ps = true
  | .marks => l.base = 0 ∧ 0 < l.room ∧ ob = .deferred (some [])
  | .mapIter m since seen last => l.base = 0 ∧ 0 < l.room ∧ ∃ lm, ρ m = some lm ∧ ob = .mapIter (some lm.b) since ⟨seen⟩ last
theorem ObjAt.mono {G : Gd} {ρ ρ' : Rho} (hle : ρ.le ρ') {o : AObj} {ob : Obj} {l : Loc} (h : ObjAt G ρ o ob l) : ObjAt G ρ' o ob l := by
  cases o with
  | cells n t =>
    obtain ⟨arr, elem, fr, h1, h2, h3, h4, h5⟩ := h
    exact ⟨arr, elem, fr, h1, h2, h3, h4, fun k hk => let ⟨v, x, a, b, c⟩ := h5 k hk; ⟨v, x, a, b, c.mono hle⟩⟩
  | map es clock => obtain ⟨h1, h2, ces, h3, h4⟩ := h; exact ⟨h1, h2, ces, h3, h4.mono hle⟩
  | strIter s pos => exact h
  | loop st pend env r d =>
    obtain ⟨h1, h2, lp, h3, h4, h5, h6, ⟨ld, h10, h11⟩, h12⟩ := h
    exact ⟨h1, h2, lp, h3, h4, h5, h6.mono hle, ⟨ld, hle _ _ h10, h11⟩, h12⟩
  | marks => exact h
  | mapIter m since seen last => obtain ⟨h1, h2, lm, h3, h4⟩ := h; exact ⟨h1, h2, lm, hle _ _ h3, h4⟩
theorem ObjAt.noCells {G : Gd} {ρ : Rho} {o : AObj} {ob : Obj} {l : Loc} (h : ObjAt G ρ o ob l) : (∃ n t, o = .cells n t ∧ ∃ a b c, ob = .cells a b c) ∨ (l.base = 0 ∧ 0 < l.room ∧ ∀ a b c, ob ≠ .cells a b c) := by
  cases o with
  | cells n t => obtain ⟨arr, elem, fr, h1, _⟩ := h; exact .inl ⟨n, t, rfl, arr, elem, fr, h1⟩
  | map es clock => obtain ⟨h1, h2, ces, h3, h4⟩ := h; exact .inr ⟨h1, h2, by subst h3; intro a b c h; cases h⟩
  | strIter s pos => obtain ⟨h1, h2, ces, h3, h4⟩ := h; exact .inr ⟨h1, h2, by subst h3; intro a b c h; cases h⟩
  | loop st pend env r d => obtain ⟨h1, h2, lp, h3, _⟩ := h; exact .inr ⟨h1, h2, by subst h3; intro a b c h; cases h⟩
  | marks => obtain ⟨h1, h2, h3⟩ := h; exact .inr ⟨h1, h2, by subst h3; intro a b c h; cases h⟩
  | mapIter m since seen last => obtain ⟨h1, h2, lm, _, h3⟩ := h; exact .inr ⟨h1, h2, by subst h3; intro a b c h; cases h⟩
structure HRel (G : Gd) (ρ : Rho) (h : PH) (w : World) : Prop where
  obj : ∀ id o, h id = some o → ∃ l ob, ρ id = some l ∧ w.heap[l.b]? = some ob ∧ ObjAt G ρ o ob l
  disj : ∀ i j oi oj li lj, i ≠ j → h i = some oi → h j = some oj → ρ i = some li → ρ j = some lj → li.b = lj.b → ∀ k, li.base ≤ k → k < li.base + li.room → lj.base ≤ k → k < lj.base + lj.room → False
  low : ∀ id o l, h id = some o → ρ id = some l → G.n ≤ l.b
structure Tr (ρ : Rho) (h : PH) (n : Nat) (w : World) (ρ' : Rho) (h' : PH) (n' : Nat) (w' : World) : Prop where
  le : ρ.le ρ'
  out : ∀ id, id < n ∨ n' ≤ id → ρ' id = ρ id
  size : w.heap.size ≤ w'.heap.size
  kept : ∀ b ob, w.heap[b]? = some ob → (∀ k, ¬ Own ρ h b k) → w'.heap[b]? = some ob
  cells : ∀ b arr elem fr, w.heap[b]? = some (.cells arr elem fr) → ∃ arr', w'.heap[b]? = some (.cells arr' elem fr) ∧ arr'.size = arr.size ∧ ∀ k, ¬ Own ρ h b k → arr'[k]? = arr[k]?
  own : ∀ b k, b < w.heap.size → Own ρ' h' b k → Own ρ h b k
  new : ∀ id o, h' id = some o → h id = none → n ≤ id ∧ id < n'
  os : w'.os = w.os
  output : w'.output = w.output
  tape : w'.tape = w.tape
theorem Tr.refl (ρ : Rho) (h : PH) (n : Nat) (w : World) : Tr ρ h n w ρ h n w where
  le := ρ.le_refl
  out _ _ := rfl
  size := Nat.le_refl _
  kept _ _ h _ := h
  cells b arr elem fr h := ⟨arr, h, rfl, fun _ _ => rfl⟩
  own _ _ _ h := h
  new id o h1 h2 := by rw [h1] at h2; cases h2
  os := rfl
  output := rfl
  tape := rfl
theorem lt_of_get {α : Type} {a : Array α} {i : Nat} {x : α} (h : a[i]? = some x) : i < a.size := by
  rcases Nat.lt_or_ge i a.size with k | k
  · exact k
  · rw [Array.getElem?_eq_none k] at h; cases h
theorem Tr.trans {ρ ρ₁ ρ₂ : Rho} {h h₁ h₂ : PH} {n n₁ n₂ : Nat} {w w₁ w₂ : World} (a : Tr ρ h n w ρ₁ h₁ n₁ w₁) (b : Tr ρ₁ h₁ n₁ w₁ ρ₂ h₂ n₂ w₂)
    (hn : n ≤ n₁) (hn' : n₁ ≤ n₂) : Tr ρ h n w ρ₂ h₂ n₂ w₂ where
  le := Rho.le_trans a.le b.le
  out id hid := by rw [b.out id (by omega), a.out id (by omega)]
  size := Nat.le_trans a.size b.size
  kept x ob hx hno := b.kept x ob (a.kept x ob hx hno) fun k hk => hno k (a.own x k (lt_of_get hx) hk)
  cells x arr elem fr hx := by
    obtain ⟨arr₁, h1, h2, h3⟩ := a.cells x arr elem fr hx
    obtain ⟨arr₂, h4, h5, h6⟩ := b.cells x arr₁ elem fr h1
    exact ⟨arr₂, h4, h5.trans h2, fun k hk => (h6 k fun ho => hk (a.own x k (lt_of_get hx) ho)).trans (h3 k hk)⟩
  own x k hx ho := a.own x k hx (b.own x k (Nat.lt_of_lt_of_le hx a.size) ho)
  new id o h1 h2 := by
    cases h3 : h₁ id with
    | none => have := b.new id o h1 h3; omega
    | some o' => have := a.new id o' h3 h2; omega
  os := b.os.trans a.os
  output := b.output.trans a.output
  tape := b.tape.trans a.tape
def PH.or (h e : PH) : PH := fun id => match h id with
  | some o => some o
  | none => e id
theorem PH.or_left {h e : PH} {id : Nat} {o : AObj} (x : h id = some o) : (h.or e) id = some o := by simp [PH.or, x]
theorem PH.or_right {h e : PH} {id : Nat} (x : h id = none) : (h.or e) id = e id := by simp [PH.or, x]
theorem PH.or_cases {h e : PH} {id : Nat} {o : AObj} (x : (h.or e) id = some o) : h id = some o ∨ (h id = none ∧ e id = some o) := by
  cases hh : h id with
  | none => right; simpa [PH.or, hh] using x
  | some o' => left; simpa [PH.or, hh] using x
theorem HRel.sub {G : Gd} {ρ : Rho} {h h' : PH} {w : World} (a : HRel G ρ h w) (hs : ∀ id o, h' id = some o → h id = some o) : HRel G ρ h' w where
  obj id o x := a.obj id o (hs id o x)
  disj i j oi oj li lj hij hi hj := a.disj i j oi oj li lj hij (hs _ _ hi) (hs _ _ hj)
  low id o l x := a.low id o l (hs _ _ x)
theorem HRel.empty (G : Gd) (ρ : Rho) (w : World) : HRel G ρ (fun _ => none) w where
  obj id o x := by cases x
  disj i j oi oj li lj hij hi := by cases hi
  low id o l x := by cases x
theorem HRel.frame {G : Gd} {ρ ρ' : Rho} {h h' e : PH} {n n' : Nat} {w w' : World} (a : HRel G ρ (h.or e) w) (t : Tr ρ h n w ρ' h' n' w') (b : HRel G ρ' h' w')
    (he : ∀ id o, e id = some o → h id = none ∧ (id < n ∨ n' ≤ id)) : HRel G ρ' (h'.or e) w' := by
  have hnew : ∀ id o, e id = some o → h' id = none := fun id o hid => by
    obtain ⟨h1, h2⟩ := he id o hid
    cases h3 : h' id with
    | none => rfl
    | some o' => have := t.new id o' h3 h1; omega
  have eobj : ∀ id o, e id = some o → (h.or e) id = some o := fun id o hid => by rw [PH.or_right (he id o hid).1]; exact hid
  have notOwn : ∀ id o l, e id = some o → ρ id = some l → ∀ k, l.base ≤ k → k < l.base + l.room → ¬ Own ρ h l.b k := by
    intro id o l hid hl k hk1 hk2 ⟨i, oi, li, h1, h2, h3, h4, h5⟩
    exact a.disj i id oi o li l (fun hh => by subst hh; rw [(he _ _ hid).1] at h1; cases h1) (PH.or_left h1) (eobj id o hid) h2 hl h3 k h4 h5 hk1 hk2
  refine ⟨fun id o hid => ?_, fun i j oi oj li lj hij hi hj hli hlj hb k k1 k2 k3 k4 => ?_, fun id o l hid hl => ?_⟩
  · rcases PH.or_cases hid with h1 | ⟨_, h2⟩
    · exact b.obj id o h1
    · obtain ⟨l, ob, hl, hob, hat⟩ := a.obj id o (eobj id o h2)
      have hl' := t.le _ _ hl
      rcases hat.noCells with ⟨nn, tt, rfl, arr, elem, fr, rfl⟩ | ⟨hb0, hr0, hnc⟩
      · obtain ⟨arr', h3, h4, h5⟩ := t.cells _ arr elem fr hob
        refine ⟨l, _, hl', h3, ?_⟩
        obtain ⟨arr2, elem2, fr2, e1, e2, e3, e4, e5⟩ := hat
        cases e1
        refine ⟨arr', elem, fr, rfl, e2, by omega, e4, fun k hk => ?_⟩
        obtain ⟨v, x, f1, f2, f3⟩ := e5 k hk
        exact ⟨v, x, f1, by rw [h5 _ (notOwn id _ l h2 hl _ (by omega) (by omega))]; exact f2, f3.mono t.le⟩
      · refine ⟨l, ob, hl', t.kept _ ob hob ?_, hat.mono t.le⟩
        intro k ⟨i, oi, li, h1, h2', h3, h4, h5⟩
        obtain ⟨li', ob', q1, q2, q3⟩ := a.obj i oi (PH.or_left h1)
        rw [h2'] at q1; cases q1
        rw [h3, hob] at q2; cases q2
        rcases q3.noCells with ⟨_, _, _, aa, bb, cc, q4⟩ | ⟨q4, q5, _⟩
        · exact hnc _ _ _ q4
        · exact notOwn id o l h2 hl 0 (by omega) (by omega) ⟨i, oi, li, h1, h2', h3, by omega, by omega⟩
  · have main : ∀ i j oi oj li lj, i ≠ j → h' i = some oi → e j = some oj → ρ' i = some li → ρ' j = some lj → li.b = lj.b → ∀ k, li.base ≤ k → k < li.base + li.room → lj.base ≤ k → k < lj.base + lj.room → False := by
      intro i j oi oj li lj hij hi hj hli hlj hb k k1 k2 k3 k4
      obtain ⟨l, ob, q1, q2, _⟩ := a.obj j oj (eobj j oj hj)
      have q3 := t.le _ _ q1
      rw [hlj] at q3; cases q3
      exact notOwn j oj lj hj q1 k k3 k4 (t.own _ _ (lt_of_get q2) ⟨i, oi, li, hi, hli, hb, k1, k2⟩)
    rcases PH.or_cases hi with hi | ⟨_, hi⟩ <;> rcases PH.or_cases hj with hj | ⟨_, hj⟩
    · exact b.disj i j oi oj li lj hij hi hj hli hlj hb k k1 k2 k3 k4
    · exact main i j oi oj li lj hij hi hj hli hlj hb k k1 k2 k3 k4
    · exact main j i oj oi lj li (Ne.symm hij) hj hi hlj hli hb.symm k k3 k4 k1 k2
    · obtain ⟨l1, _, q1, _, _⟩ := a.obj i oi (eobj i oi hi)
      obtain ⟨l2, _, q2, _, _⟩ := a.obj j oj (eobj j oj hj)
      have p1 := t.le _ _ q1
      have p2 := t.le _ _ q2
      rw [hli] at p1; cases p1
      rw [hlj] at p2; cases p2
      exact a.disj i j oi oj li lj hij (eobj i oi hi) (eobj j oj hj) q1 q2 hb k k1 k2 k3 k4
  · rcases PH.or_cases hid with h1 | ⟨_, h2⟩
    · exact b.low id o l h1 hl
    · obtain ⟨l1, _, q1, _, _⟩ := a.obj id o (eobj id o h2)
      have p1 := t.le _ _ q1
      rw [hl] at p1; cases p1
      exact a.low id o l (eobj id o h2) q1
theorem Tr.frame {ρ ρ' : Rho} {h h' e : PH} {n n' : Nat} {w w' : World} (t : Tr ρ h n w ρ' h' n' w')
    (he : ∀ id o, e id = some o → h id = none ∧ (id < n ∨ n' ≤ id)) : Tr ρ (h.or e) n w ρ' (h'.or e) n' w' where
  le := t.le
  out := t.out
  size := t.size
  kept b ob hb hno := t.kept b ob hb fun k ⟨id, o, l, h1, h2, h3⟩ => hno k ⟨id, o, l, PH.or_left h1, h2, h3⟩
  cells b arr elem fr hb := by
    obtain ⟨arr', h1, h2, h3⟩ := t.cells b arr elem fr hb
    exact ⟨arr', h1, h2, fun k hno => h3 k fun ⟨id, o, l, h1, h2, h3⟩ => hno ⟨id, o, l, PH.or_left h1, h2, h3⟩⟩
  own b k hb := by
    rintro ⟨id, o, l, h1, h2, h3⟩
    rcases PH.or_cases h1 with h1 | ⟨_, h1⟩
    · obtain ⟨id, o, l, h1, h2, h3⟩ := t.own b k hb ⟨id, o, l, h1, h2, h3⟩
      exact ⟨id, o, l, PH.or_left h1, h2, h3⟩
    · obtain ⟨q1, q2⟩ := he id o h1
      exact ⟨id, o, l, by rw [PH.or_right q1]; exact h1, by rw [← t.out id q2]; exact h2, h3⟩
  new id o h1 h2 := by
    rcases PH.or_cases h1 with h1 | ⟨_, h1⟩
    · cases h3 : h id with
      | none => exact t.new id o h1 h3
      | some o' => rw [PH.or_left h3] at h2; cases h2
    · rw [PH.or_right (he id o h1).1, h1] at h2; cases h2
  os := t.os
  output := t.output
  tape := t.tape
end Am

namespace Am
open Go
theorem allB_iff {α : Type} {f : α → Bool} : ∀ {l : List α}, allB f l = true ↔ ∀ a ∈ l, f a = true
  | [] => by simp [allB]
  | a :: l => by
    simp only [allB, List.mem_cons, forall_eq_or_imp]
    cases f a <;> simp [allB_iff (l := l)]
theorem getCells_get : ∀ {t : T AV} {n off : Nat} {l : List AV}, getCells t off n = some l → l.length = n ∧ ∀ i, i < n → t.get (off + i) = l[i]?
  | t, 0, off, l, h => by simp only [getCells, Option.some.injEq] at h; subst h; exact ⟨rfl, fun i hi => by omega⟩
  | t, n + 1, off, l, h => by
    simp only [getCells] at h
    split at h
    · cases h
    · rename_i v hv
      split at h
      · cases h
      · rename_i r hr
        simp only [Option.some.injEq] at h
        subst h
        obtain ⟨h1, h2⟩ := getCells_get hr
        refine ⟨by simp [h1], fun i hi => ?_⟩
        cases i with
        | zero => simpa using hv
        | succ i =>
          have := h2 i (by omega)
          rw [show off + (i + 1) = off + 1 + i by omega, this]; simp
theorem get_setCells : ∀ (l : List AV) (t : T AV) (off j : Nat), (setCells t off l).get j = if off ≤ j ∧ j < off + l.length then l[j - off]? else t.get j
  | [], t, off, j => by simp only [setCells]; rw [if_neg (by simp only [List.length_nil]; omega)]
  | v :: l, t, off, j => by
    simp only [setCells]
    rw [get_setCells l (t.set off v) (off + 1) j, T.get_set]
    by_cases h1 : j = off
    · subst h1
      rw [if_neg (by omega), if_pos rfl, if_pos (by simp)]; simp
    · by_cases h2 : off + 1 ≤ j ∧ j < off + 1 + l.length
      · have h3 : j - off = (j - (off + 1)) + 1 := by omega
        rw [if_pos h2, if_pos (by simp; omega), h3]; simp
      · rw [if_neg h2, if_neg h1, if_neg (by simp; omega)]
theorem VRel.oneCell {ρ : Rho} {a : AV} {v : Value} (h : VRel ρ a v) (hc : a.isCell = true) : v.oneCell' = true := by
  cases h <;> first | rfl | cases hc
theorem VRels.oneCell {ρ : Rho} : ∀ {l : List AV} {c : List Value}, VRels ρ l c → allB AV.isCell l = true → ∀ v ∈ c, v.oneCell' = true
  | _, _, .nil, _, v, hv => by cases hv
  | _, _, .cons a x l c h t, ha, v, hv => by
    have ha := allB_iff.1 ha
    rcases List.mem_cons.1 hv with rfl | hv
    · exact h.oneCell (ha a (by simp))
    · exact t.oneCell (allB_iff.2 fun b hb => ha b (by simp [hb])) v hv
theorem addr_add (b o i : Nat) : (⟨b, o, none⟩ : Addr).add i = ⟨b, o + i, none⟩ := by unfold Addr.add; split <;> simp_all
theorem cell_of {w : World} {b k : Nat} {arr : Array Value} {e : TypeId} {fr : Nat × Nat} (h : w.heap[b]? = some (.cells arr e fr)) : w.cell? ⟨b, k, none⟩ = arr[k]? := by
  simp [World.cell?, h]
theorem frozen_of {w : World} {b k : Nat} {arr : Array Value} {e : TypeId} {fr : Nat × Nat} (h : w.heap[b]? = some (.cells arr e fr)) (hf : ¬ (fr.1 ≤ k ∧ k < fr.2)) : w.frozen? ⟨b, k, none⟩ = false := by
  obtain ⟨lo, hi⟩ := fr
  simp only [World.frozen?, h]
  simpa using hf
theorem setCell_heap_ne (w : World) (a : Addr) (v : Value) {b : Nat} (hb : b ≠ a.block) : (w.setCell a v).heap[b]? = w.heap[b]? := by
  simp [World.setCell, Array.getElem?_modify, Ne.symm hb]
theorem setCell_heap_eq (w : World) (b k : Nat) (v : Value) {arr : Array Value} {e : TypeId} {fr : Nat × Nat} (h : w.heap[b]? = some (.cells arr e fr)) :
    (w.setCell ⟨b, k, none⟩ v).heap[b]? = some (.cells (arr.setIfInBounds k v) e fr) := by
  simp [World.setCell, Array.getElem?_modify, h]
theorem setCells_heap (b : Nat) : ∀ (vs : List Value) (o : Nat) (w : World) {arr : Array Value} {e : TypeId} {fr : Nat × Nat}, w.heap[b]? = some (.cells arr e fr) → o + vs.length ≤ arr.size →
    ∃ arr', (w.setCells b o vs).heap[b]? = some (.cells arr' e fr) ∧ arr'.size = arr.size ∧ ∀ k, arr'[k]? = if o ≤ k ∧ k < o + vs.length then vs[k - o]? else arr[k]?
  | [], o, w, arr, e, fr, h, _ => ⟨arr, h, rfl, fun k => by rw [if_neg (by simp only [List.length_nil]; omega)]⟩
  | v :: r, o, w, arr, e, fr, h, hl => by
    simp only [List.length_cons] at hl
    obtain ⟨arr', h1, h2, h3⟩ := setCells_heap b r (o + 1) (w.setCell ⟨b, o, none⟩ v) (setCell_heap_eq w b o v h) (by simp; omega)
    refine ⟨arr', h1, by simpa using h2, fun k => ?_⟩
    rw [h3 k]
    by_cases e1 : k = o
    · subst e1
      rw [if_neg (by omega), if_pos (by simp)]
      simp [Array.getElem?_setIfInBounds]; omega
    · by_cases e2 : o + 1 ≤ k ∧ k < o + 1 + r.length
      · have e3 : k - o = (k - (o + 1)) + 1 := by omega
        rw [if_pos e2, if_pos (by simp; omega), e3]; simp
      · rw [if_neg e2, if_neg (by simp; omega)]
        simp [Ne.symm e1]
theorem setCells_heap_ne (b : Nat) : ∀ (vs : List Value) (o : Nat) (w : World) {x : Nat}, x ≠ b → (w.setCells b o vs).heap[x]? = w.heap[x]?
  | [], _, _, _, _ => rfl
  | v :: r, o, w, x, hx => by rw [World.setCells, setCells_heap_ne b r _ _ hx, setCell_heap_ne _ _ _ hx]
theorem setCells_size (b : Nat) : ∀ (vs : List Value) (o : Nat) (w : World), (w.setCells b o vs).heap.size = w.heap.size
  | [], _, _ => rfl
  | v :: r, o, w => by rw [World.setCells, setCells_size b r]; simp [World.setCell]
theorem setCells_rest (b : Nat) : ∀ (vs : List Value) (o : Nat) (w : World), (w.setCells b o vs).os = w.os ∧ (w.setCells b o vs).output = w.output ∧ (w.setCells b o vs).tape = w.tape
  | [], _, _ => ⟨rfl, rfl, rfl⟩
  | v :: r, o, w => by rw [World.setCells]; exact setCells_rest b r _ _
def PH.put (h : PH) (id : Nat) (o : AObj) : PH := fun i => if i = id then some o else h i
def PH.del (h : PH) (id : Nat) : PH := fun i => if i = id then none else h i
theorem ph_new (h : H) (o : AObj) : (h.new o).2.ph = h.ph.put h.next o := by funext i; simp [H.new, H.ph, PH.put, T.get_set]
theorem ph_upd (h : H) (id : Nat) (o : AObj) : (h.upd id o).ph = h.ph.put id o := by funext i; simp [H.upd, H.ph, PH.put, T.get_set]
theorem ph_kill (h : H) (id : Nat) : (h.kill id).ph = h.ph.del id := by funext i; simp [H.kill, H.ph, PH.del, T.get_put]
def Rho.put (ρ : Rho) (n : Nat) (l : Loc) : Rho := fun id => if id = n then some l else ρ id
theorem Rho.le_put {ρ : Rho} {n : Nat} {l : Loc} (h : ρ n = none) : ρ.le (ρ.put n l) := fun id x hx => by
  unfold Rho.put
  split
  · rename_i e; subst e; rw [h] at hx; cases hx
  · exact hx
theorem Rho.put_self (ρ : Rho) (n : Nat) (l : Loc) : (ρ.put n l) n = some l := by simp [Rho.put]
theorem heap_push {w : World} {ob : Obj} {b : Nat} {x : Obj} (h : w.heap[b]? = some x) : (w.heap.push ob)[b]? = some x := by
  have := lt_of_get h
  rw [Array.getElem?_push]
  rw [if_neg (by omega)]; exact h
theorem step_new {G : Gd} {ρ : Rho} {h : PH} {w : World} {n : Nat} {o : AObj} {ob : Obj} {room : Nat} (hr : HRel G ρ h w) (hg : G.n ≤ w.heap.size) (hn : ρ n = none)
    (hat : ObjAt G (ρ.put n ⟨w.heap.size, 0, room⟩) o ob ⟨w.heap.size, 0, room⟩) :
    HRel G (ρ.put n ⟨w.heap.size, 0, room⟩) (h.put n o) { w with heap := w.heap.push ob } ∧
    Tr ρ h n w (ρ.put n ⟨w.heap.size, 0, room⟩) (h.put n o) (n + 1) { w with heap := w.heap.push ob } := by
  have hle := Rho.le_put (l := ⟨w.heap.size, 0, room⟩) hn
  have other : ∀ {i : Nat} {oi : AObj} {li : Loc}, i ≠ n → (h.put n o) i = some oi → (ρ.put n ⟨w.heap.size, 0, room⟩) i = some li → h i = some oi ∧ ρ i = some li ∧ li.b < w.heap.size := by
    intro i oi li hi h1 h2
    simp only [PH.put, hi, if_false] at h1
    simp only [Rho.put, hi, if_false] at h2
    obtain ⟨l, _, q1, q2, _⟩ := hr.obj i oi h1
    rw [h2] at q1; cases q1
    exact ⟨h1, h2, lt_of_get q2⟩
  refine ⟨⟨fun id x hx => ?_, fun i j oi oj li lj hij hi hj hli hlj hb k k1 k2 k3 k4 => ?_, fun id x l hx hl => ?_⟩,
    ⟨hle, fun id hid => ?_, by simp, fun b x hb _ => heap_push hb, fun b arr e fr hb => ⟨arr, heap_push hb, rfl, fun _ _ => rfl⟩, fun b k hb ho => ?_, fun id x h1 h2 => ?_, rfl, rfl, rfl⟩⟩
  · by_cases e : id = n
    · subst e
      simp only [PH.put, if_true, Option.some.injEq] at hx
      subst hx
      exact ⟨_, ob, Rho.put_self _ _ _, by simp, hat⟩
    · simp only [PH.put, e, if_false] at hx
      obtain ⟨l, ob', q1, q2, q3⟩ := hr.obj id x hx
      exact ⟨l, ob', hle _ _ q1, heap_push q2, q3.mono hle⟩
  · by_cases e1 : i = n <;> by_cases e2 : j = n
    · omega
    · subst e1
      rw [Rho.put_self] at hli; cases hli
      obtain ⟨_, _, q⟩ := other e2 hj hlj
      simp at hb; omega
    · subst e2
      rw [Rho.put_self] at hlj; cases hlj
      obtain ⟨_, _, q⟩ := other e1 hi hli
      simp at hb; omega
    · obtain ⟨a1, a2, _⟩ := other e1 hi hli
      obtain ⟨b1, b2, _⟩ := other e2 hj hlj
      exact hr.disj i j oi oj li lj hij a1 b1 a2 b2 hb k k1 k2 k3 k4
  · by_cases e : id = n
    · subst e
      rw [Rho.put_self] at hl; cases hl
      exact hg
    · obtain ⟨a1, a2, _⟩ := other e hx hl
      exact hr.low id x l a1 a2
  · simp only [Rho.put]; rw [if_neg (by omega)]
  · obtain ⟨id, x, l, h1, h2, h3, h4, h5⟩ := ho
    by_cases e : id = n
    · subst e
      rw [Rho.put_self] at h2; cases h2
      simp at h3; omega
    · obtain ⟨a1, a2, _⟩ := other e h1 h2
      exact ⟨id, x, l, a1, a2, h3, h4, h5⟩
  · by_cases e : id = n
    · omega
    · simp only [PH.put, e, if_false] at h1
      rw [h1] at h2; cases h2
theorem step_write {G : Gd} {ρ : Rho} {h : PH} {w : World} {n id m m' off : Nat} {t : T AV} {l : List AV} {vs : List Value} {lc : Loc} (hr : HRel G ρ h w)
    (ho : h id = some (.cells m t)) (hl : ρ id = some lc) (hm : off + l.length ≤ lc.room) (hm' : m' ≤ lc.room) (hin' : ∀ k, k < m' → k < m ∨ (off ≤ k ∧ k < off + l.length)) (hv : VRels ρ l vs) :
    HRel G ρ (h.put id (.cells m' (setCells t off l))) (w.setCells lc.b (lc.base + off) vs) ∧
    Tr ρ h n w ρ (h.put id (.cells m' (setCells t off l))) n (w.setCells lc.b (lc.base + off) vs) := by
  obtain ⟨lc', ob, q1, q2, q3⟩ := hr.obj id _ ho
  rw [hl] at q1; cases q1
  obtain ⟨arr, e, fr, rfl, p2, p3, p4, p5⟩ := q3
  have hlen := hv.length
  obtain ⟨arr', r1, r2, r3⟩ := setCells_heap lc.b vs (lc.base + off) w q2 (by omega)
  have own0 : ∀ k, lc.base + off ≤ k → k < lc.base + off + vs.length → Own ρ h lc.b k := fun k k1 k2 => ⟨id, _, lc, ho, hl, rfl, by omega, by omega⟩
  have other : ∀ {i : Nat} {oi : AObj}, i ≠ id → (h.put id (.cells m' (setCells t off l))) i = some oi → h i = some oi := fun hi hx => by simpa [PH.put, hi] using hx
  refine ⟨⟨fun i x hx => ?_, fun i j oi oj li lj hij hi hj hli hlj hb k k1 k2 k3 k4 => ?_, fun i x li hx hli => ?_⟩,
    ⟨ρ.le_refl, fun _ _ => rfl, by rw [setCells_size]; exact Nat.le_refl _, fun b x hb hno => ?_, fun b ar e2 f2 hb => ?_, fun b k hb ho2 => ?_, fun i x h1 h2 => ?_, (setCells_rest _ _ _ _).1, (setCells_rest _ _ _ _).2.1, (setCells_rest _ _ _ _).2.2⟩⟩
  · by_cases ei : i = id
    · subst ei
      simp only [PH.put, if_true, Option.some.injEq] at hx
      subst hx
      refine ⟨lc, _, hl, r1, arr', e, fr, rfl, hm', by omega, p4, fun k hk => ?_⟩
      rw [get_setCells, r3]
      by_cases hin : off ≤ k ∧ k < off + l.length
      · rw [if_pos hin, if_pos (by omega), show lc.base + k - (lc.base + off) = k - off by omega]
        have hlt : k - off < l.length := by omega
        obtain ⟨x, hx1, hx2⟩ := hv.get (i := k - off) (List.getElem?_eq_getElem hlt)
        exact ⟨_, x, List.getElem?_eq_getElem hlt, hx1, hx2⟩
      · rw [if_neg hin, if_neg (by omega)]
        exact p5 k ((hin' k hk).resolve_right hin)
    · have hx := other ei hx
      obtain ⟨li, ob', s1, s2, s3⟩ := hr.obj i x hx
      by_cases eb : li.b = lc.b
      · rw [eb, q2] at s2; cases s2
        rcases s3.noCells with ⟨nn, tt, rfl, _⟩ | ⟨_, _, s6⟩
        · obtain ⟨arr2, e2, fr2, f1, f2, f3, f4, f5⟩ := s3
          cases f1
          refine ⟨li, _, s1, by rw [eb]; exact r1, arr', e, fr, rfl, f2, by omega, f4, fun k hk => ?_⟩
          rw [r3, if_neg]
          · exact f5 k hk
          · intro hin
            exact hr.disj i id _ _ li lc ei hx ho s1 hl eb (li.base + k) (by omega) (by omega) (by omega) (by omega)
        · exact absurd rfl (s6 _ _ _)
      · exact ⟨li, ob', s1, by rw [setCells_heap_ne _ _ _ _ eb]; exact s2, s3⟩
  · have fix : ∀ {i : Nat} {oi : AObj}, (h.put id (.cells m' (setCells t off l))) i = some oi → ∃ o', h i = some o' := fun {i oi} hx => by
      by_cases ei : i = id
      · subst ei; exact ⟨_, ho⟩
      · exact ⟨oi, other ei hx⟩
    obtain ⟨o1, h1⟩ := fix hi
    obtain ⟨o2, h2⟩ := fix hj
    exact hr.disj i j o1 o2 li lj hij h1 h2 hli hlj hb k k1 k2 k3 k4
  · by_cases ei : i = id
    · subst ei; exact hr.low i _ li ho hli
    · exact hr.low i x li (other ei hx) hli
  · by_cases eb : b = lc.b
    · subst eb
      by_cases hz : vs.length = 0
      · have : vs = [] := List.length_eq_zero_iff.1 hz
        subst this; exact hb
      · exact absurd (own0 (lc.base + off) (Nat.le_refl _) (by omega)) (hno _)
    · rw [setCells_heap_ne _ _ _ _ eb]; exact hb
  · by_cases eb : b = lc.b
    · subst eb
      rw [q2] at hb; cases hb
      exact ⟨arr', r1, r2, fun k hk => by rw [r3, if_neg]; intro hin; exact hk (own0 k hin.1 hin.2)⟩
    · exact ⟨ar, by rw [setCells_heap_ne _ _ _ _ eb]; exact hb, rfl, fun _ _ => rfl⟩
  · obtain ⟨i, x, li, h1, h2, h3⟩ := ho2
    by_cases ei : i = id
    · subst ei; exact ⟨i, _, li, ho, h2, h3⟩
    · exact ⟨i, x, li, other ei h1, h2, h3⟩
  · by_cases ei : i = id
    · subst ei; rw [ho] at h2; cases h2
    · rw [other ei h1] at h2; cases h2
theorem step_stores {G : Gd} {ρ : Rho} {h : PH} {w : World} {n id m off : Nat} {t : T AV} {l : List AV} {vs : List Value} {lc : Loc} (hr : HRel G ρ h w)
    (ho : h id = some (.cells m t)) (hl : ρ id = some lc) (hm : off + l.length ≤ m) (hv : VRels ρ l vs) :
    HRel G ρ (h.put id (.cells m (setCells t off l))) (w.setCells lc.b (lc.base + off) vs) ∧
    Tr ρ h n w ρ (h.put id (.cells m (setCells t off l))) n (w.setCells lc.b (lc.base + off) vs) := by
  obtain ⟨lc', ob, q1, q2, q3⟩ := hr.obj id _ ho
  rw [hl] at q1; cases q1
  obtain ⟨arr, e, fr, rfl, p2, p3, p4, p5⟩ := q3
  exact step_write hr ho hl (by omega) p2 (fun k hk => .inl hk) hv
theorem run_write {P : Program} {G : Gd} {ρ : Rho} {h : PH} {w : World} {id m off : Nat} {t : T AV} {l : List AV} {vs : List Value} {lc : Loc} (hr : HRel G ρ h w)
    (ho : h id = some (.cells m t)) (hl : ρ id = some lc) (hm : off + l.length ≤ lc.room) (hv : VRels ρ l vs) (h1 : allB AV.isCell l = true) :
    (storeCells ⟨lc.b, lc.base + off, none⟩ vs).run P w = .ok () (w.setCells lc.b (lc.base + off) vs) := by
  obtain ⟨lc', ob, q1, q2, q3⟩ := hr.obj id _ ho
  rw [hl] at q1; cases q1
  obtain ⟨arr, e, fr, rfl, p2, p3, p4, p5⟩ := q3
  have hlen := hv.length
  have := run_storeCells_cells (P := P) lc.b (lc.base + off) vs 0 w (fun j hj => by rw [cell_of q2, Array.getElem?_eq_getElem (by omega)]; rfl)
    (fun j hj => frozen_of q2 (p4 _ (by omega) (by omega))) (hv.oneCell h1)
  simpa using this
theorem step_setObj {G : Gd} {ρ : Rho} {h : PH} {w : World} {n id : Nat} {o o' : AObj} {ob' : Obj} {lc : Loc} (hr : HRel G ρ h w)
    (ho : h id = some o) (hl : ρ id = some lc) (hnc : ∀ m t, o ≠ .cells m t) (hat : ObjAt G ρ o' ob' lc) :
    HRel G ρ (h.put id o') { w with heap := w.heap.setIfInBounds lc.b ob' } ∧
    Tr ρ h n w ρ (h.put id o') n { w with heap := w.heap.setIfInBounds lc.b ob' } := by
  obtain ⟨lc', ob, q1, q2, q3⟩ := hr.obj id _ ho
  rw [hl] at q1; cases q1
  rcases q3.noCells with ⟨m, t, rfl, _⟩ | ⟨b0, r0, nc⟩
  · exact absurd rfl (hnc m t)
  have hlt := lt_of_get q2
  have hme : (w.heap.setIfInBounds lc.b ob')[lc.b]? = some ob' := by simp [hlt]
  have hne : ∀ {b : Nat}, b ≠ lc.b → (w.heap.setIfInBounds lc.b ob')[b]? = w.heap[b]? := fun hb => by simp [Ne.symm hb]
  have other : ∀ {i : Nat} {oi : AObj}, i ≠ id → (h.put id o') i = some oi → h i = some oi := fun hi hx => by simpa [PH.put, hi] using hx
  have apart : ∀ {i : Nat} {oi : AObj} {li : Loc}, i ≠ id → h i = some oi → ρ i = some li → li.b ≠ lc.b := by
    intro i oi li hi h1 h2 hb
    obtain ⟨li', ob2, s1, s2, s3⟩ := hr.obj i oi h1
    rw [h2] at s1; cases s1
    rw [hb, q2] at s2; cases s2
    rcases s3.noCells with ⟨_, _, _, a, b, c, e⟩ | ⟨c0, d0, _⟩
    · exact nc _ _ _ e
    · exact hr.disj i id oi o li lc hi h1 ho h2 hl hb 0 (by omega) (by omega) (by omega) (by omega)
  refine ⟨⟨fun i x hx => ?_, fun i j oi oj li lj hij hi hj hli hlj hb k k1 k2 k3 k4 => ?_, fun i x li hx hli => ?_⟩,
    ⟨ρ.le_refl, fun _ _ => rfl, by simp, fun b x hb hno => ?_, fun b ar e2 f2 hb => ?_, fun b k hb ho2 => ?_, fun i x h1 h2 => ?_, rfl, rfl, rfl⟩⟩
  · by_cases ei : i = id
    · subst ei
      simp only [PH.put, if_true, Option.some.injEq] at hx
      subst hx
      exact ⟨lc, ob', hl, hme, hat⟩
    · have hx := other ei hx
      obtain ⟨li, ob2, s1, s2, s3⟩ := hr.obj i x hx
      exact ⟨li, ob2, s1, by rw [hne (apart ei hx s1)]; exact s2, s3⟩
  · by_cases e1 : i = id <;> by_cases e2 : j = id
    · omega
    · subst e1
      rw [hl] at hli; cases hli
      exact apart e2 (other e2 hj) hlj hb.symm
    · subst e2
      rw [hl] at hlj; cases hlj
      exact apart e1 (other e1 hi) hli hb
    · exact hr.disj i j oi oj li lj hij (other e1 hi) (other e2 hj) hli hlj hb k k1 k2 k3 k4
  · by_cases ei : i = id
    · subst ei; exact hr.low i _ li ho hli
    · exact hr.low i x li (other ei hx) hli
  · by_cases eb : b = lc.b
    · subst eb; exact absurd ⟨id, o, lc, ho, hl, rfl, by omega, by omega⟩ (hno 0)
    · show (w.heap.setIfInBounds lc.b ob')[b]? = _
      rw [hne eb]; exact hb
  · have eb : b ≠ lc.b := fun eb => by subst eb; rw [q2] at hb; cases hb; exact nc _ _ _ rfl
    exact ⟨ar, by show (w.heap.setIfInBounds lc.b ob')[b]? = _; rw [hne eb]; exact hb, rfl, fun _ _ => rfl⟩
  · obtain ⟨i, x, li, h1, h2, h3⟩ := ho2
    by_cases ei : i = id
    · subst ei; exact ⟨i, _, li, ho, h2, h3⟩
    · exact ⟨i, x, li, other ei h1, h2, h3⟩
  · by_cases ei : i = id
    · subst ei; rw [ho] at h2; cases h2
    · rw [other ei h1] at h2; cases h2
theorem step_kill {G : Gd} {ρ : Rho} {h : PH} {w : World} {n id : Nat} (hr : HRel G ρ h w) : HRel G ρ (h.del id) w ∧ Tr ρ h n w ρ (h.del id) n w := by
  have sub : ∀ i o, (h.del id) i = some o → h i = some o := fun i o hx => by
    unfold PH.del at hx; split at hx
    · cases hx
    · exact hx
  exact ⟨hr.sub sub, ρ.le_refl, fun _ _ => rfl, Nat.le_refl _, fun _ _ hb _ => hb, fun b ar e f hb => ⟨ar, hb, rfl, fun _ _ => rfl⟩,
    fun b k _ ⟨i, o, l, h1, h2⟩ => ⟨i, o, l, sub i o h1, h2⟩, (fun i o h1 h2 => by rw [sub i o h1] at h2; cases h2), rfl, rfl, rfl⟩
theorem step_move {G : Gd} {ρ : Rho} {h : PH} {w : World} {n id m m' off : Nat} {t t' : T AV} {lc : Loc} (hr : HRel G ρ h w) (hn : ρ n = none)
    (ho : h id = some (.cells m t)) (hl : ρ id = some lc) (hoff : off + m' ≤ m) (ht : ∀ k, k < m' → t'.get k = t.get (off + k)) :
    HRel G (ρ.put n ⟨lc.b, lc.base + off, lc.room - off⟩) ((h.del id).put n (.cells m' t')) w ∧
    Tr ρ h n w (ρ.put n ⟨lc.b, lc.base + off, lc.room - off⟩) ((h.del id).put n (.cells m' t')) (n + 1) w := by
  obtain ⟨lc', ob, q1, q2, q3⟩ := hr.obj id _ ho
  rw [hl] at q1; cases q1
  obtain ⟨arr, e, fr, rfl, p2, p3, p4, p5⟩ := q3
  have hle := Rho.le_put (l := ⟨lc.b, lc.base + off, lc.room - off⟩) hn
  have hin : id ≠ n := fun e => by subst e; rw [hl] at hn; cases hn
  have other : ∀ {i : Nat} {oi : AObj} {li : Loc}, i ≠ n → ((h.del id).put n (.cells m' t')) i = some oi → (ρ.put n ⟨lc.b, lc.base + off, lc.room - off⟩) i = some li → i ≠ id ∧ h i = some oi ∧ ρ i = some li := by
    intro i oi li hi h1 h2
    simp only [PH.put, hi, if_false, PH.del] at h1
    simp only [Rho.put, hi, if_false] at h2
    split at h1
    · cases h1
    · rename_i hne; exact ⟨hne, h1, h2⟩
  refine ⟨⟨fun i x hx => ?_, fun i j oi oj li lj hij hi hj hli hlj hb k k1 k2 k3 k4 => ?_, fun i x l hx hli => ?_⟩,
    ⟨hle, fun i hi => ?_, Nat.le_refl _, fun b x hb _ => hb, fun b ar e f hb => ⟨ar, hb, rfl, fun _ _ => rfl⟩, fun b k hb ho2 => ?_, fun i x h1 h2 => ?_, rfl, rfl, rfl⟩⟩
  · by_cases ei : i = n
    · subst ei
      simp only [PH.put, if_true, Option.some.injEq] at hx
      subst hx
      refine ⟨_, _, Rho.put_self _ _ _, q2, arr, e, fr, rfl, by simp only; omega, by simp only; omega, fun k k1 k2 => p4 k (by simp only at k1; omega) (by simp only at k1 k2; omega), fun k hk => ?_⟩
      rw [ht k hk]
      obtain ⟨v, x, f1, f2, f3⟩ := p5 (off + k) (by omega)
      exact ⟨v, x, f1, by simp only; rw [show lc.base + off + k = lc.base + (off + k) by omega]; exact f2, f3.mono hle⟩
    · have h1 : h i = some x := by
        simp only [PH.put, ei, if_false, PH.del] at hx
        split at hx
        · cases hx
        · exact hx
      obtain ⟨li, ob2, s1, s2, s3⟩ := hr.obj i x h1
      exact ⟨li, ob2, hle _ _ s1, s2, s3.mono hle⟩
  · by_cases e1 : i = n <;> by_cases e2 : j = n
    · omega
    · subst e1
      rw [Rho.put_self] at hli; cases hli
      obtain ⟨a0, a1, a2⟩ := other e2 hj hlj
      simp only at hb k1 k2
      exact hr.disj j id oj _ lj lc a0 a1 ho a2 hl hb.symm k k3 k4 (by omega) (by omega)
    · subst e2
      rw [Rho.put_self] at hlj; cases hlj
      obtain ⟨a0, a1, a2⟩ := other e1 hi hli
      simp only at hb k3 k4
      exact hr.disj i id oi _ li lc a0 a1 ho a2 hl hb k k1 k2 (by omega) (by omega)
    · obtain ⟨a0, a1, a2⟩ := other e1 hi hli
      obtain ⟨b0, b1, b2⟩ := other e2 hj hlj
      exact hr.disj i j oi oj li lj hij a1 b1 a2 b2 hb k k1 k2 k3 k4
  · by_cases ei : i = n
    · subst ei
      rw [Rho.put_self] at hli; cases hli
      exact hr.low id _ lc ho hl
    · obtain ⟨_, a1, a2⟩ := other ei hx hli
      exact hr.low i x l a1 a2
  · simp only [Rho.put]; rw [if_neg (by omega)]
  · obtain ⟨i, x, l, h1, h2, h3, h4, h5⟩ := ho2
    by_cases ei : i = n
    · subst ei
      rw [Rho.put_self] at h2; cases h2
      simp only at h3 h4 h5
      exact ⟨id, _, lc, ho, hl, h3, by omega, by omega⟩
    · obtain ⟨_, a1, a2⟩ := other ei h1 h2
      exact ⟨i, x, l, a1, a2, h3, h4, h5⟩
  · by_cases ei : i = n
    · omega
    · simp only [PH.put, ei, if_false, PH.del] at h1
      split at h1
      · cases h1
      · rw [h1] at h2; cases h2
theorem step_drew {G : Gd} {ρ : Rho} {h : PH} {w : World} {n : Nat} (d : Nat) (hr : HRel G ρ h w) : HRel G ρ h { w with drawn := d } ∧ Tr ρ h n w ρ h n { w with drawn := d } :=
  ⟨⟨hr.obj, hr.disj, hr.low⟩, ρ.le_refl, fun _ _ => rfl, Nat.le_refl _, fun _ _ hb _ => hb, fun b ar e f hb => ⟨ar, hb, rfl, fun _ _ => rfl⟩, fun _ _ _ h => h,
    (fun i o h1 h2 => by rw [h1] at h2; cases h2), rfl, rfl, rfl⟩
end Am

namespace Am
open Go
def plainDesc : TypeDesc → Bool
  | .struct _ | .array .. => false
  | _ => true
def TDOk (P : Program) (t : Nat) : TD → Prop
  | .bool => P.underlying t = some .bool
  | .int k => P.underlying t = some (.int k)
  | .str => P.underlying t = some .string
  | .ptr e => P.underlying t = some (.pointer e)
  | .slice e z => P.underlying t = some (.slice e) ∧ ∃ i, P.info? e = some i ∧ i.size = z
  | .arr n e z => P.underlying t = some (.array n e) ∧ ∃ i, P.info? e = some i ∧ i.size = z
  | .map k e => P.underlying t = some (.map k e)
  | .struct fs => ∃ fields : Array Field, P.underlying t = some (.struct fields) ∧ P.stoodInHeld t = false ∧ (∀ f ∈ fields.toList, ∃ i, P.info? f.type = some i) ∧
      fs = fields.toList.map fun f => (f.offset, f.type, ((P.info? f.type).map (·.size)).getD 0, f.name == "_")
  | .func => ∃ a b v, P.underlying t = some (.func a b v)
  | .iface => ∃ ms, P.underlying t = some (.interface ms)
  | .other => ∃ d, P.underlying t = some d ∧ plainDesc d = true
def isAggV : Value → Bool
  | .agg _ => true
  | _ => false
structure TIOk (P : Program) (t : Nat) (ti : TI) : Prop where
  info : ∃ i, P.info? t = some i ∧ i.size = ti.size ∧ i.bytes = ti.bytes ∧ ∀ z, ti.zero = some z → ∃ zv, i.zero = some zv ∧ z = (ofValue zv).cells ∧ ofValue zv ≠ .unk ∧ isAggV zv = ti.isAgg
  d : TDOk P t ti.d
  guard : ti.guard = false → ti.isAgg = true → P.eqGuardType P.depth t = false
def QuietFn (P : Program) (g : Nat) : Prop := ∀ (cap : Array Value) (w : World), (callFunc g cap).run P w = .ok (.enter g cap) w ∧ CallsDIn Fence.wide 0 P g cap .returning w fun e u w' => u = .returning ∧ (∃ v, e = .returned v) ∧ Tr (fun _ => none) (fun _ => none) 0 w (fun _ => none) (fun _ => none) 0 w'
structure COk (c : Ctx) (P : Program) : Prop where
  ty : ∀ t ti, c.ty.get t = some ti → TIOk P t ti
  fn : ∀ f fn, c.fn.get f = some fn → P.funcs[f]? = some fn ∧ (fn.name == "runtime.NumGoroutine") = false ∧ ∀ code, fn.body = some code → codeOk fn.ntmps code = true ∧ RngsOk c.rng (rngs code (anOf c f))
  rng : ∀ r q, c.rng.get r = some q → RngsOk c.rng (rngs q.assign q.al) ∧ RngsOk c.rng (rngs q.body q.ar) ∧ noDef q.assign = true ∧ noDef q.body = true
  df : ∀ g, (c.df.get g).isSome = true → QuietFn P g
  mixed : P.follows .mixedOrders = true
section
variable {P : Program} {w : World}
theorem run_typeInfo {t : Nat} {i : TypeInfo} (h : P.info? t = some i) : (typeInfo t).run P w = .ok i w := by simp [typeInfo, h]
theorem run_sizeOf' {t : Nat} {i : TypeInfo} (h : P.info? t = some i) : (Go.sizeOf t).run P w = .ok i.size w := by simp [Go.sizeOf, run_typeInfo h]
theorem run_underlying' {t : Nat} {d : TypeDesc} (h : P.underlying t = some d) : (underlying t).run P w = .ok d w := by simp [underlying, h]
theorem run_isAgg' {t : Nat} {ti : TI} (h : TIOk P t ti) : (isAgg t).run P w = .ok ti.isAgg w := by
  have hd := h.d
  unfold TI.isAgg
  cases hh : ti.d <;> rw [hh] at hd <;> simp only [TDOk] at hd
  case struct fs => obtain ⟨f, h1, _⟩ := hd; simp [isAgg, run_underlying' h1]
  case arr => obtain ⟨h1, _⟩ := hd; simp [isAgg, run_underlying' h1]
  case slice => obtain ⟨h1, _⟩ := hd; simp [isAgg, run_underlying' h1]
  case func => obtain ⟨a, b, v, h1⟩ := hd; simp [isAgg, run_underlying' h1]
  case iface => obtain ⟨a, h1⟩ := hd; simp [isAgg, run_underlying' h1]
  case other =>
    obtain ⟨d, h1, h2⟩ := hd
    simp only [isAgg, Sem.run_bind, run_underlying' h1, Result.andThen_ok]
    cases d <;> first | rfl | cases h2
  all_goals simp [isAgg, run_underlying' hd]
theorem run_zero {t : Nat} {ti : TI} (h : TIOk P t ti) {z : List AV} (hz : ti.zero = some z) : ∃ zv, (zeroValue t).run P w = .ok zv w ∧ z = (ofValue zv).cells ∧ ofValue zv ≠ .unk := by
  obtain ⟨i, h1, _, _, h2⟩ := h.info
  obtain ⟨zv, h3, h4, h5, _⟩ := h2 z hz
  exact ⟨zv, by simp [zeroValue, run_typeInfo h1, h3], h4, h5⟩
end
mutual
theorem ofValue_rel (ρ : Rho) : ∀ (v : Value), VRel ρ (ofValue v) v
  | .bool b => .bool b
  | .int k n => .int k n
  | .string s => .str s
  | .pointer none => .nilPtr
  | .pointer (some a) => by unfold ofValue; exact .unk _
  | .slice none 0 0 => .nilSlice
  | .slice none 0 (n + 1) => by unfold ofValue; exact .unk _
  | .slice none (n + 1) m => by unfold ofValue; exact .unk _
  | .slice (some a) n m => by unfold ofValue; exact .unk _
  | .map none => .nilMap
  | .map (some r) => by unfold ofValue; exact .unk _
  | .nilFunc => .nilFunc
  | .nilIface => .nilIface
  | .agg ⟨cs⟩ => by unfold ofValue; exact .agg _ _ (ofValues_rel ρ cs)
  | .tuple ⟨cs⟩ => by unfold ofValue; exact .tup _ _ (ofValues_rel ρ cs)
  | .float .. => by unfold ofValue; exact .unk _
  | .complex .. => by unfold ofValue; exact .unk _
  | .chan _ => by unfold ofValue; exact .unk _
  | .func .. => by unfold ofValue; exact .unk _
  | .iface .. => by unfold ofValue; exact .unk _
theorem ofValues_rel (ρ : Rho) : ∀ (l : List Value), VRels ρ (ofValues l) l
  | [] => by unfold ofValues; exact .nil
  | v :: l => by unfold ofValues; exact .cons _ _ _ _ (ofValue_rel ρ v) (ofValues_rel ρ l)
end
theorem evalO_rel {ρ : Rho} {env : T AV} {a : Act} (h : ERel ρ env a.tmps) (x : Operand) : VRel ρ (evalO env x) (a.eval x) := by
  cases x with
  | tmp t =>
    simp only [evalO, Act.eval]
    cases ht : env.get t with
    | none => exact .unk _
    | some v =>
      obtain ⟨y, hy, hv⟩ := h t v ht
      simpa [Array.getD_eq_getD_getElem?, hy] using hv
  | const v => exact ofValue_rel ρ v
  | global g => exact .gptr g 0
  | func f => exact .func _ _ _ _ _ .nil .nil
theorem evalOs_rel {ρ : Rho} {env : T AV} {a : Act} (h : ERel ρ env a.tmps) : ∀ (l : List Operand), VRels ρ (evalOs env l) (l.map a.eval)
  | [] => .nil
  | x :: l => .cons _ _ _ _ (evalO_rel h x) (evalOs_rel h l)
structure GOk (c : Ctx) (G : Gd) (w : World) : Prop where
  rng : G.rng = c.rng
  size : G.n ≤ w.heap.size
  gl : ∀ g n t, c.gl.get g = some (n, t) → g < G.n ∧ ∃ arr elem fr, w.heap[g]? = some (.cells arr elem fr) ∧ ∀ k, k < n → ∃ v x, t.get k = some v ∧ arr[k]? = some x ∧ ∀ ρ, VRel ρ v x
theorem GOk.tr {c : Ctx} {G : Gd} {w w' : World} {ρ ρ' : Rho} {h h' : PH} {n n' : Nat} (g : GOk c G w) (hr : HRel G ρ h w) (t : Tr ρ h n w ρ' h' n' w') : GOk c G w' where
  rng := g.rng
  size := Nat.le_trans g.size t.size
  gl x m tr hx := by
    obtain ⟨h1, arr, e, fr, h2, h3⟩ := g.gl x m tr hx
    refine ⟨h1, arr, e, fr, t.kept _ _ h2 ?_, h3⟩
    intro k ⟨id, o, l, q1, q2, q3, _⟩
    have := hr.low id o l q1 q2
    omega
def Free (ρ : Rho) (n n' : Nat) : Prop := ∀ id, n ≤ id → id < n' → ρ id = none
def OpOk (c : Ctx) (P : Program) (G : Gd) (env : T AV) (o : Oper) (h : H) (v : AV) (h' : H) : Prop :=
  h.next ≤ h'.next ∧ ∀ (ρ : Rho) (a : Act) (w : World), ERel ρ env a.tmps → HRel G ρ h.ph w → GOk c G w → Free ρ h.next h'.next →
    ∃ ρ' w' x, ((execOp a.eval o).run P w = .ok (.value x) w' ∨ ((execOp a.eval o).run P w = .ok .skip w' ∧ x = undef)) ∧
      VRel ρ' v x ∧ HRel G ρ' h'.ph w' ∧ Tr ρ h.ph h.next w ρ' h'.ph h'.next w'
theorem OpOk.same {c : Ctx} {P : Program} {G : Gd} {env : T AV} {o : Oper} {h : H} {v : AV}
    (k : ∀ (ρ : Rho) (a : Act) (w : World), ERel ρ env a.tmps → HRel G ρ h.ph w → GOk c G w → ∃ x, (execOp a.eval o).run P w = .ok (.value x) w ∧ VRel ρ v x) : OpOk c P G env o h v h :=
  ⟨Nat.le_refl _, fun ρ a w he hr hg _ => let ⟨x, h1, h2⟩ := k ρ a w he hr hg; ⟨ρ, w, x, .inl h1, h2, hr, Tr.refl _ _ _ _⟩⟩
end Am

namespace Am
open Go
section
variable {c : Ctx} {P : Program} {G : Gd} {env : T AV} {o : Oper} {h h' : H} {v : AV} {run : Run}
theorem ok_move {x : Operand} (ho : o.op = .move x ∨ o.op = .assign x) : OpOk c P G env o h (evalO env x) h :=
  .same fun ρ a w he _ _ => ⟨a.eval x, by rcases ho with ho | ho <;> simp [execOp, ho], evalO_rel he x⟩
theorem VRel.ofBool {ρ : Rho} {b : Bool} {x : Value} (h : VRel ρ (.bool b) x) : x = .bool b := by cases h; rfl
theorem VRel.ofInt {ρ : Rho} {k : IntKind} {n : Int} {x : Value} (h : VRel ρ (.int k n) x) : x = .int k n := by cases h; rfl
theorem VRel.ofPtr {ρ : Rho} {id off : Nat} {x : Value} (h : VRel ρ (.ptr id off) x) : ∃ l, ρ id = some l ∧ x = .pointer (some ⟨l.b, l.base + off, none⟩) := by cases h; exact ⟨_, by assumption, rfl⟩
theorem VRel.ofGptr {ρ : Rho} {id off : Nat} {x : Value} (h : VRel ρ (.gptr id off) x) : x = .pointer (some ⟨id, off, none⟩) := by cases h; rfl
theorem VRel.ofStr {ρ : Rho} {s : List Nat} {x : Value} (h : VRel ρ (.str s) x) : ∃ y, x = .string y ∧ ofBytes y = s := by cases h; exact ⟨_, rfl, rfl⟩
theorem VRel.ofAgg {ρ : Rho} {s : List AV} {x : Value} (h : VRel ρ (.agg s) x) : ∃ y, x = .agg ⟨y⟩ ∧ VRels ρ s y := by cases h; exact ⟨_, rfl, by assumption⟩
theorem VRel.ofTup {ρ : Rho} {s : List AV} {x : Value} (h : VRel ρ (.tup s) x) : ∃ y, x = .tuple ⟨y⟩ ∧ VRels ρ s y := by cases h; exact ⟨_, rfl, by assumption⟩
theorem ok_pick {x p q : Operand} {b : Bool} (ho : o.op = .pick x p q) (hb : evalO env x = .bool b) : OpOk c P G env o h (if b then evalO env p else evalO env q) h :=
  .same fun ρ a w he _ _ => by
    have hx := evalO_rel he x
    rw [hb] at hx
    refine ⟨if b then a.eval p else a.eval q, ?_, ?_⟩
    · simp [execOp, ho, hx.ofBool, Go.asBool]
    · cases b
      · exact evalO_rel he q
      · exact evalO_rel he p
theorem ObjAt.newCells {ρ : Rho} {l : List AV} {cs : List Value} {b : Nat} (hv : VRels ρ l cs) (e : Nat) (room : Nat) (extra : List Value) (hroom : l.length ≤ room) (hsz : room = cs.length + extra.length) :
    ObjAt G ρ (.cells l.length (T.ofList l)) (.cells (cs ++ extra).toArray e) ⟨b, 0, room⟩ := by
  refine ⟨_, _, _, rfl, hroom, by simp [hsz], fun k _ _ => by simp, fun k hk => ?_⟩
  have hlen := hv.length
  obtain ⟨x, hx, hr⟩ := hv.get (List.getElem?_eq_getElem hk)
  refine ⟨l[k], x, by rw [T.get_ofList]; exact List.getElem?_eq_getElem hk, ?_, hr⟩
  simp only [Nat.zero_add, List.getElem?_toArray]
  rw [List.getElem?_append_left (by omega)]; exact hx
theorem new_cells {l : List AV} {cs extra : List Value} {e n : Nat} {ρ : Rho} {ph : PH} {w : World} (hr : HRel G ρ ph w) (hg : GOk c G w) (hn : ρ n = none) (hv : VRels ρ l cs) :
    ∃ ρ' w', (newRow e (cs ++ extra).toArray).run P w = .ok ⟨w.heap.size, 0, none⟩ w' ∧ ρ' n = some ⟨w.heap.size, 0, cs.length + extra.length⟩ ∧
      HRel G ρ' (ph.put n (.cells l.length (T.ofList l))) w' ∧ Tr ρ ph n w ρ' (ph.put n (.cells l.length (T.ofList l))) (n + 1) w' := by
  have hlen := hv.length
  have hle := Rho.le_put (l := ⟨w.heap.size, 0, cs.length + extra.length⟩) hn
  obtain ⟨h1, h2⟩ := step_new (n := n) (o := .cells l.length (T.ofList l)) (ob := .cells (cs ++ extra).toArray e) (room := cs.length + extra.length) hr hg.size hn
    (ObjAt.newCells (hv.mono hle) e _ extra (by omega) rfl)
  exact ⟨_, _, by simp [newRow], Rho.put_self _ _ _, h1, h2⟩
theorem ok_newPtr {l : List AV} (k : ∀ (ρ : Rho) (a : Act) (w : World), ERel ρ env a.tmps → HRel G ρ h.ph w → GOk c G w → ∃ e cs, VRels ρ l cs ∧
      (execOp a.eval o).run P w = ((newRow e cs.toArray).run P w).andThen fun ad w' => .ok (.value (.pointer (some ad))) w') :
    OpOk c P G env o h (.ptr (newCells l h).1 0) (newCells l h).2 := by
  refine ⟨by simp [newCells, H.new], fun ρ a w he hr hg hf => ?_⟩
  obtain ⟨e, cs, hv, hrun⟩ := k ρ a w he hr hg
  obtain ⟨ρ', w', h1, h2, h3, h4⟩ := new_cells (P := P) (extra := []) (e := e) hr hg (hf h.next (Nat.le_refl _) (by simp [newCells, H.new])) hv
  refine ⟨ρ', w', .pointer (some ⟨w.heap.size, 0, none⟩), .inl ?_, ?_, ?_, ?_⟩
  · rw [hrun]; simp only [List.append_nil] at h1; rw [h1]; rfl
  · exact .ptr _ _ _ h2
  · simp only [newCells, ph_new]; exact h3
  · simp only [newCells, ph_new]; exact h4
theorem ok_box {t : Nat} {x : Operand} (ho : o.op = .box t x) (hu : evalO env x ≠ .unk) : OpOk c P G env o h (.ptr (newCells (evalO env x).cells h).1 0) (newCells (evalO env x).cells h).2 :=
  ok_newPtr fun ρ a w he hr hg => ⟨t, (a.eval x).cells.toList, (evalO_rel he x).cells hu, by simp [execOp, ho, Instr.box, newVar, newRow, Result.andThen]⟩
theorem ok_alloc {t : Nat} {ti : TI} {z : List AV} (hc : COk c P) (ho : o.op = .alloc t) (ht : c.ty.get t = some ti) (hz : ti.zero = some z) :
    OpOk c P G env o h (.ptr (newCells z h).1 0) (newCells z h).2 :=
  ok_newPtr fun ρ a w he hr hg => by
    obtain ⟨zv, h1, h2, h3⟩ := run_zero (w := w) (hc.ty t ti ht) hz
    exact ⟨t, zv.cells.toList, by rw [h2]; exact (ofValue_rel ρ zv).cells h3, by simp [execOp, ho, Instr.alloc, newVar, newRow, h1, Result.andThen]⟩
theorem loads_some {id off n : Nat} {l : List AV} (hl : h.loads id off n = some l) : ∃ m t, h.ph id = some (.cells m t) ∧ off + n ≤ m ∧ getCells t off n = some l := by
  unfold H.loads at hl
  rw [H.ph_obj] at hl
  split at hl
  · rename_i m t hm
    split at hl
    · rename_i hb; exact ⟨m, t, hm, by simpa using hb, hl⟩
    · cases hl
  · cases hl
theorem loads_rel {ρ : Rho} {w : World} {id off n : Nat} {l : List AV} (hr : HRel G ρ h.ph w) (hl : h.loads id off n = some l) :
    ∃ lc cs, ρ id = some lc ∧ VRels ρ l cs ∧ (loadCells ⟨lc.b, lc.base + off, none⟩ n).run P w = .ok cs.toArray w ∧ ∀ i x, cs[i]? = some x → w.cell? ⟨lc.b, lc.base + off + i, none⟩ = some x := by
  obtain ⟨m, t, h1, h2, h3⟩ := loads_some hl
  obtain ⟨hlen, hget⟩ := getCells_get h3
  obtain ⟨lc, ob, q1, q2, q3⟩ := hr.obj id _ h1
  obtain ⟨arr, e, fr, rfl, p2, p3, p4, p5⟩ := q3
  have hc : ∀ i x, ((arr.toList.drop (lc.base + off)).take n)[i]? = some x → w.cell? ⟨lc.b, lc.base + off + i, none⟩ = some x := by
    intro i x hx
    rw [cell_of q2]
    rw [List.getElem?_take] at hx
    split at hx
    · simpa [List.getElem?_drop] using hx
    · cases hx
  have hlen2 : ((arr.toList.drop (lc.base + off)).take n).length = n := by simp; omega
  refine ⟨lc, (arr.toList.drop (lc.base + off)).take n, q1, ?_, ?_, hc⟩
  · refine VRels.of_forall (by omega) fun i a x ha hx => ?_
    have hi : i < n := by rw [← hlen]; exact (List.getElem?_eq_some_iff.1 ha).1
    obtain ⟨v, y, f1, f2, f3⟩ := p5 (off + i) (by omega)
    rw [hget i hi, ha] at f1
    cases f1
    rw [List.getElem?_take, if_pos hi, List.getElem?_drop, Array.getElem?_toList, show lc.base + off + i = lc.base + (off + i) by omega, f2] at hx
    cases hx
    exact f3
  · have := run_loadCells_list (P := P) w ⟨lc.b, lc.base + off, none⟩ ((arr.toList.drop (lc.base + off)).take n) (fun j y hy => by rw [addr_add]; exact hc j y hy)
    rw [hlen2] at this
    exact this
theorem load_rel {ρ : Rho} {w : World} {t id off : Nat} (hc : COk c P) (hr : HRel G ρ h.ph w) (hl : loadA c t id off h = .ok v) :
    ∃ lc x, ρ id = some lc ∧ VRel ρ v x ∧ (loadVar t ⟨lc.b, lc.base + off, none⟩).run P w = .ok x w := by
  unfold loadA at hl
  split at hl
  · cases hl
  · rename_i ti ht
    have hti := hc.ty t ti ht
    obtain ⟨i, hi, hsz, _⟩ := hti.info
    split at hl
    · rename_i hagg
      split at hl
      · rename_i l hll
        cases hl
        obtain ⟨lc, cs, h1, h2, h3, _⟩ := loads_rel (P := P) hr hll
        refine ⟨lc, .agg cs.toArray, h1, .agg _ _ h2, ?_⟩
        simp [loadVar, run_isAgg' hti, hagg, run_sizeOf' hi, hsz, h3]
      · cases hl
    · rename_i hagg
      split at hl
      · rename_i x hll
        cases hl
        obtain ⟨lc, cs, h1, h2, h3, h4⟩ := loads_rel (P := P) hr hll
        cases h2 with
        | cons _ y _ _ hy ht2 =>
          cases ht2
          refine ⟨lc, y, h1, hy, ?_⟩
          have := h4 0 y rfl
          simp only [Nat.add_zero] at this
          simp [loadVar, run_isAgg' hti, hagg, this]
      · cases hl
theorem ok_load {t id off : Nat} {x : Operand} (hc : COk c P) (ho : o.op = .load t x) (hx : evalO env x = .ptr id off) (hl : loadA c t id off h = .ok v) : OpOk c P G env o h v h :=
  .same fun ρ a w he hr hg => by
    have hp := evalO_rel he x
    rw [hx] at hp
    obtain ⟨l, h1, h2⟩ := hp.ofPtr
    obtain ⟨lc, y, h3, h4, h5⟩ := load_rel (P := P) hc hr hl
    rw [h1] at h3; cases h3
    exact ⟨y, by simp [execOp, ho, h2, Instr.loadAt, Instr.sureAddr, h5], h4⟩
theorem ok_loadG {t g off : Nat} {x : Operand} (hc : COk c P) (ho : o.op = .load t x) (hx : evalO env x = .gptr g off) (hl : loadG c t g off = some v) : OpOk c P G env o h v h :=
  .same fun ρ a w he hr hg => by
    have hp := evalO_rel he x
    rw [hx] at hp
    have hp := hp.ofGptr
    unfold loadG at hl
    split at hl
    · rename_i ti n tr ht hgl
      have hti := hc.ty t ti ht
      obtain ⟨i, hi, hsz, _⟩ := hti.info
      split at hl
      · rename_i hb
        have hb : off + ti.size ≤ n := by simpa using hb
        split at hl
        · rename_i l hget
          obtain ⟨hlen, hg2⟩ := getCells_get hget
          obtain ⟨_, arr, e, fr, q2, q3⟩ := hg.gl g n tr hgl
          have hsize : n ≤ arr.size := by
            rcases Nat.eq_zero_or_pos n with h0 | h0
            · omega
            · obtain ⟨_, _, _, q, _⟩ := q3 (n - 1) (by omega)
              have := lt_of_get q; omega
          have hcl : ∀ i x, ((arr.toList.drop off).take ti.size)[i]? = some x → w.cell? ⟨g, off + i, none⟩ = some x := by
            intro i x hx
            rw [cell_of q2]
            rw [List.getElem?_take] at hx
            split at hx
            · simpa [List.getElem?_drop] using hx
            · cases hx
          have hlen2 : ((arr.toList.drop off).take ti.size).length = ti.size := by simp; omega
          have hrel : VRels ρ l ((arr.toList.drop off).take ti.size) := by
            refine VRels.of_forall (by omega) fun i a x ha hx => ?_
            have hi : i < ti.size := by rw [← hlen]; exact (List.getElem?_eq_some_iff.1 ha).1
            obtain ⟨v, y, f1, f2, f3⟩ := q3 (off + i) (by omega)
            rw [hg2 i hi, ha] at f1
            cases f1
            rw [List.getElem?_take, if_pos hi, List.getElem?_drop, Array.getElem?_toList, f2] at hx
            cases hx
            exact f3 ρ
          have hload := run_loadCells_list (P := P) w ⟨g, off, none⟩ ((arr.toList.drop off).take ti.size) (fun j y hy => by rw [addr_add]; exact hcl j y hy)
          rw [hlen2] at hload
          unfold agg? at hl
          split at hl
          · rename_i hagg
            cases hl
            exact ⟨.agg ((arr.toList.drop off).take ti.size).toArray, by simp only [execOp, ho, hp]; simp [Instr.loadAt, Instr.sureAddr, loadVar, run_isAgg' hti, hagg, run_sizeOf' hi, hsz, hload], .agg _ _ hrel⟩
          · rename_i hagg
            cases hl
            have hl1 : ti.size = 1 := by simpa using hlen.symm
            cases hcs : (arr.toList.drop off).take ti.size with
            | nil => rw [hcs] at hlen2; simp at hlen2; omega
            | cons y r =>
              rw [hcs] at hrel
              cases hrel with
              | cons _ _ _ _ hy _ =>
                have := hcl 0 y (by rw [hcs]; rfl)
                simp only [Nat.add_zero] at this
                exact ⟨y, by simp [execOp, ho, hp, Instr.loadAt, Instr.sureAddr, loadVar, run_isAgg' hti, hagg, this], hy⟩
          · cases hl
        · cases hl
      · cases hl
    · cases hl
theorem stores_some {id off : Nat} {l : List AV} (hl : h.stores id off l = some h') : ∃ m t, h.ph id = some (.cells m t) ∧ off + l.length ≤ m ∧ allB AV.isCell l = true ∧ h' = h.upd id (.cells m (setCells t off l)) := by
  unfold H.stores at hl
  rw [H.ph_obj] at hl
  split at hl
  · rename_i m t hm
    split at hl
    · rename_i hb hb2; exact ⟨m, t, hm, by simpa using hb, hb2, by cases hl; rfl⟩
    · cases hl
  · cases hl
theorem stores_rel {ρ : Rho} {w : World} {id off n : Nat} {l : List AV} {vs : List Value} (hr : HRel G ρ h.ph w) (hl : h.stores id off l = some h') (hv : VRels ρ l vs) :
    h'.next = h.next ∧ ∃ lc w', ρ id = some lc ∧ (storeCells ⟨lc.b, lc.base + off, none⟩ vs).run P w = .ok () w' ∧ HRel G ρ h'.ph w' ∧ Tr ρ h.ph n w ρ h'.ph n w' := by
  obtain ⟨m, t, h1, h2, h3, rfl⟩ := stores_some hl
  obtain ⟨lc, ob, q1, q2, q3⟩ := hr.obj id _ h1
  obtain ⟨arr, e, fr, rfl, p2, p3, p4, p5⟩ := q3
  obtain ⟨s1, s2⟩ := step_stores (n := n) hr h1 q1 h2 hv
  refine ⟨rfl, lc, _, q1, run_write hr h1 q1 (by omega) hv h3, ?_, ?_⟩
  · rw [ph_upd]; exact s1
  · rw [ph_upd]; exact s2
theorem ok_store {t id off : Nat} {x y : Operand} (hc : COk c P) (ho : o.op = .store t x y) (hx : evalO env x = .ptr id off) (hl : storeA c t id off (evalO env y) h = .ok h') : OpOk c P G env o h (.tup []) h' := by
  unfold storeA at hl
  split at hl
  · cases hl
  · rename_i ti ht
    have hti := hc.ty t ti ht
    obtain ⟨i, hi, hsz, _⟩ := hti.info
    split at hl
    · rename_i hsize
      have hsize : (evalO env y).cells.length = ti.size := by simpa using hsize
      cases hst : h.stores id off (evalO env y).cells with
      | none => rw [hst] at hl; cases hl
      | some h2 =>
        rw [hst] at hl
        cases hl
        have hn : h'.next = h.next := by obtain ⟨m, t, _, _, _, rfl⟩ := stores_some hst; rfl
        refine ⟨by omega, fun ρ a w he hr hg _ => ?_⟩
        have hp := evalO_rel he x
        rw [hx] at hp
        obtain ⟨l, h1, h2⟩ := hp.ofPtr
        have hu : evalO env y ≠ .unk := fun e => by
          obtain ⟨m, t, _, _, h3, _⟩ := stores_some hst
          rw [e] at h3; simp [AV.cells, allB, AV.isCell] at h3
        have hv := (evalO_rel he y).cells hu
        obtain ⟨_, lc, w', q1, q2, q3, q4⟩ := stores_rel (P := P) (n := h.next) hr hst hv
        rw [h1] at q1; cases q1
        have hlen := hv.length
        have hlen1 : (a.eval y).cells.toList.length = (a.eval y).cells.size := by simp
        have hlen2 : (a.eval y).cells.size = i.size := by omega
        refine ⟨ρ, w', undef, .inr ⟨?_, rfl⟩, .tup _ _ .nil, q3, by rw [hn]; exact q4⟩
        simp [execOp, ho, h2, Instr.storeAt, Instr.sureAddr, storeVar, run_sizeOf' hi, hlen2, q2]
    · cases hl
end
end Am

namespace Am
open Go
section
variable {c : Ctx} {P : Program} {G : Gd} {env : T AV} {o : Oper} {h h' : H} {v : AV} {run : Run}
theorem bits_eq (k : IntKind) : k.bits = bitsOf k := by cases k <;> rfl
theorem wrapN_eq (k : IntKind) (n : Nat) : wrapN k n = k.wrap (Int.ofNat n) := by
  unfold wrapN
  split
  · rename_i hb
    have hb : n ≤ maxOf k := by simpa using hb
    unfold IntKind.wrap
    cases k <;> simp [maxOf, IntKind.bits, IntKind.signed] at hb ⊢ <;> omega
  · rfl
theorem wrapI_eq (k : IntKind) (n : Int) : wrapI k n = k.wrap n := by cases n <;> simp [wrapI, wrapN_eq]
theorem addI_eq (k : IntKind) (a b : Int) : addI k a b = k.wrap (a + b) := by
  unfold addI
  split
  · rw [wrapN_eq]; rfl
  · rfl
theorem subI_eq (k : IntKind) (a b : Int) : subI k a b = k.wrap (a - b) := by
  unfold subI
  split
  · split
    · rename_i hb
      have hb := Nat.le_of_ble_eq_true hb
      rw [wrapN_eq]
      congr 1
      simp only [Int.ofNat_eq_natCast]; omega
    · rfl
  · rfl
theorem mulI_eq (k : IntKind) (a b : Int) : mulI k a b = k.wrap (a * b) := by
  unfold mulI
  split
  · rw [wrapN_eq]; congr 1
  · rfl
theorem eqI_eq (a b : Int) : eqI a b = (a == b) := by
  unfold eqI
  split
  · rename_i a b; rw [Bool.eq_iff_iff]; simp; omega
  · rename_i a b; rw [Bool.eq_iff_iff]; simp
  · rename_i h1 h2
    cases a <;> cases b
    · exact absurd rfl (h1 _ _ rfl)
    · symm; simp
    · symm; simp
    · exact absurd rfl (h2 _ _ rfl)
theorem leI_eq (a b : Int) : leI a b = decide (a ≤ b) := by
  unfold leI
  split
  · rename_i a b; rw [Bool.eq_iff_iff]; simp
  · rename_i a b; rw [Bool.eq_iff_iff]; simp only [Int.negSucc_eq, Nat.ble_eq, decide_eq_true_eq]; omega
  · rename_i a b; rw [Bool.eq_iff_iff]; simp only [Int.negSucc_eq, Int.ofNat_eq_natCast, decide_eq_true_eq, true_iff]; omega
  · rename_i a b; rw [Bool.eq_iff_iff]; simp only [Int.negSucc_eq, Int.ofNat_eq_natCast, decide_eq_true_eq, Bool.false_eq_true, false_iff]; omega
theorem ltI_eq (a b : Int) : ltI a b = decide (a < b) := by
  unfold ltI
  rw [leI_eq, Bool.eq_iff_iff]; simp
theorem kindEq_eq {a b : IntKind} (h : kindEq a b = true) : a = b := by cases a <;> cases b <;> first | rfl | cases h
theorem boolEq_eq (a b : Bool) : boolEq a b = (a == b) := by cases a <;> cases b <;> rfl
theorem bitsI_eq {w : World} {op : BinOp} {k : IntKind} {a b n : Int} (hn : bitsI op k a b = some n) :
    (Op.intBits op k a b).run P w = .ok (.int k n) w := by
  unfold bitsI at hn
  split at hn
  · rename_i a b
    split at hn
    · rename_i ha hb
      have ha : a < 2 ^ k.bits := by rw [bits_eq]; simpa using ha
      have hb : b < 2 ^ k.bits := by rw [bits_eq]; simpa using hb
      have ea : (BitVec.ofInt k.bits (Int.ofNat a)).toNat = a := by simp [Nat.mod_eq_of_lt ha]
      have eb : (BitVec.ofInt k.bits (Int.ofNat b)).toNat = b := by simp [Nat.mod_eq_of_lt hb]
      split at hn
      · cases hn; simp only [Op.intBits, Sem.run_pure, BitVec.toNat_and, ea, eb, wrapN_eq]; rfl
      · cases hn; simp only [Op.intBits, Sem.run_pure, BitVec.toNat_or, ea, eb, wrapN_eq]; rfl
      · cases hn; simp only [Op.intBits, Sem.run_pure, BitVec.toNat_xor, ea, eb, wrapN_eq]; rfl
      · cases hn
        have e2 : (BitVec.ofInt k.bits (Int.ofNat a) &&& ~~~BitVec.ofInt k.bits (Int.ofNat b)) = BitVec.ofInt k.bits (Int.ofNat a) ^^^ (BitVec.ofInt k.bits (Int.ofNat a) &&& BitVec.ofInt k.bits (Int.ofNat b)) := by
          apply BitVec.eq_of_getLsbD_eq
          intro i hi
          simp only [BitVec.getLsbD_and, BitVec.getLsbD_not, BitVec.getLsbD_xor, hi, decide_true, Bool.true_and]
          cases (BitVec.ofInt k.bits (Int.ofNat a)).getLsbD i <;> cases (BitVec.ofInt k.bits (Int.ofNat b)).getLsbD i <;> rfl
        simp only [Op.intBits, Sem.run_pure, e2, BitVec.toNat_xor, BitVec.toNat_and, ea, eb, wrapN_eq]; rfl
      · cases hn
    · cases hn
  · cases hn
theorem divI_eq {w : World} {op : BinOp} {k : IntKind} {a b n : Int} (hn : divI op k a b = some n) :
    (Op.intDiv op k a b).run P w = .ok (.int k n) w := by
  unfold divI at hn
  split at hn
  · rename_i a b
    cases hn
    have : ¬ (Int.ofNat (b + 1) = 0) := by simp; omega
    simp only [Op.intDiv, this, if_false, Sem.run_pure, wrapN_eq]; rfl
  · rename_i a b
    cases hn
    have : ¬ (Int.ofNat (b + 1) = 0) := by simp; omega
    simp only [Op.intDiv, this, if_false, Sem.run_pure]; rfl
  · rename_i b _
    cases hn
    have : ¬ (Int.ofNat (b + 1) = 0) := by simp; omega
    simp only [Op.intDiv, this, if_false, Sem.run_pure]
  · rename_i b _
    cases hn
    have : ¬ (Int.ofNat (b + 1) = 0) := by simp; omega
    simp only [Op.intDiv, this, if_false, Sem.run_pure]
  · cases hn
theorem minN_eq (a b : Nat) : minN a b = min a b := by
  unfold minN
  split
  · rename_i h; have := Nat.le_of_ble_eq_true h; omega
  · rename_i h; have : ¬ a ≤ b := fun hh => by rw [Nat.ble_eq_true_of_le hh] at h; cases h
    omega
theorem shiftI_eq {w : World} {op : BinOp} {k yk : IntKind} {a b n : Int} (hn : shiftI op k a b = some n) :
    (Op.shift op k a yk b).run P w = .ok (.int k n) w := by
  unfold shiftI at hn
  split at hn
  · rename_i a b
    cases hn
    have : ¬ (Int.ofNat b < 0) := by simp
    simp only [Op.shift, this, if_false, Sem.run_pure, wrapN_eq, minN_eq, bits_eq]
    simp
  · rename_i a b
    cases hn
    have : ¬ (Int.ofNat b < 0) := by simp
    simp only [Op.shift, this, if_false, Sem.run_pure, minN_eq, bits_eq]
    rw [Int.fdiv_eq_ediv_of_nonneg _ (by exact Int.le_of_lt (Int.pow_pos (by decide)))]
    simp
  · cases hn
theorem cmpI_eq {w : World} {op : BinOp} {a b : Int} {r : Bool} (hn : cmpI op a b = some r) : (Op.intCmp op a b).run P w = .ok (.bool r) w := by
  unfold cmpI at hn
  cases op <;> simp only [Option.some.injEq] at hn <;> first | cases hn; done | (subst hn; simp [Op.intCmp, eqI_eq, leI_eq, ltI_eq]; try rfl)
theorem eqS_eq : ∀ (a b : List UInt8), eqS (a.map UInt8.toNat) (b.map UInt8.toNat) = (a == b)
  | [], [] => rfl
  | [], _ :: _ => rfl
  | _ :: _, [] => rfl
  | x :: a, y :: b => by
    simp only [List.map_cons, eqS, List.cons_beq_cons]
    have : (x.toNat.beq y.toNat) = (x == y) := by rw [Bool.eq_iff_iff]; simp [← UInt8.toNat_inj]
    rw [this]
    cases h : x == y
    · simp
    · simp [eqS_eq a b]
theorem ltS_eq : ∀ (a b : List UInt8), ltS (a.map UInt8.toNat) (b.map UInt8.toNat) = Op.bytesLess a b
  | [], [] => rfl
  | [], _ :: _ => rfl
  | _ :: _, [] => by simp [ltS, Op.bytesLess]
  | x :: a, y :: b => by
    simp only [List.map_cons, ltS, Op.bytesLess]
    have h1 : (x.toNat.beq y.toNat) = (x == y) := by rw [Bool.eq_iff_iff]; simp [← UInt8.toNat_inj]
    have h2 : Nat.blt x.toNat y.toNat = decide (x < y) := by rw [Bool.eq_iff_iff]; simp [UInt8.lt_iff_toNat_lt]
    rw [h1, h2]
    cases h : x == y
    · simp
    · have hxy : x = y := by simpa using h
      subst hxy
      simp [ltS_eq a b]
theorem ofBytes_def (s : ByteArray) : ofBytes s = s.toList.map UInt8.toNat := by simp [ofBytes, ByteArray.toList_eq]
theorem ofBytes_length (s : ByteArray) : (ofBytes s).length = s.size := by unfold ofBytes; rw [List.length_map, Array.length_toList]; rfl
theorem ofBytes_append (a b : ByteArray) : ofBytes (a ++ b) = ofBytes a ++ ofBytes b := by simp [ofBytes]
theorem strBin_eq {w : World} {ρ : Rho} {op : BinOp} {a b : ByteArray} {v : AV} (hn : strBin op (ofBytes a) (ofBytes b) = some v) : ∃ x, (Op.stringOp op a b).run P w = .ok x w ∧ VRel ρ v x := by
  have e1 := eqS_eq a.toList b.toList
  have e2 := ltS_eq a.toList b.toList
  rw [← ofBytes_def, ← ofBytes_def] at e1 e2
  unfold strBin at hn
  cases op <;> simp only [Option.some.injEq] at hn
  case add =>
    split at hn
    · rename_i hb
      cases hn
      have hb := Nat.le_of_ble_eq_true hb
      rw [ofBytes_length, ofBytes_length] at hb
      exact ⟨.string (a ++ b), run_string_add_sum (w := w) a b (Nat.le_trans hb (by exact Nat.le_of_ble_eq_true rfl)), by rw [← ofBytes_append]; exact .str _⟩
    · cases hn
  case eql => subst hn; exact ⟨_, rfl, by rw [e1]; exact .bool _⟩
  case neq => subst hn; exact ⟨_, rfl, by rw [e1]; exact .bool _⟩
  case lss => subst hn; exact ⟨_, rfl, by rw [e2]; exact .bool _⟩
  case leq => subst hn; exact ⟨_, rfl, by rw [e1, e2]; exact .bool _⟩
  case gtr => subst hn; exact ⟨_, rfl, by rw [e1, e2]; exact .bool _⟩
  case geq => subst hn; exact ⟨_, rfl, by rw [e2]; exact .bool _⟩
  all_goals cases hn
end
end Am

namespace Am
open Go
section
variable {c : Ctx} {P : Program} {G : Gd} {env : T AV} {o : Oper} {h h' : H} {v : AV} {run : Run}
theorem agg?_rel {ρ : Rho} {w : World} {t off : Nat} {ti : TI} {l : List AV} {cs : List Value} (hc : COk c P) (ht : c.ty.get t = some ti) (hv : VRels ρ l cs)
    (hb : off + ti.size ≤ l.length) (ha : agg? ti.isAgg (takeFrom l off ti.size) = some v) : ∃ x, (part t cs.toArray off).run P w = .ok x w ∧ VRel ρ v x := by
  have hti := hc.ty t ti ht
  obtain ⟨i, hi, hsz, _⟩ := hti.info
  have hlen := hv.length
  have htk := (hv.drop off).take ti.size
  unfold agg? at ha
  split at ha
  · rename_i hagg
    cases ha
    refine ⟨.agg ⟨(cs.drop off).take ti.size⟩, ?_, .agg _ _ htk⟩
    simp only [part, Sem.run_bind, run_isAgg' hti, hagg, Result.andThen_ok, if_true, run_sizeOf' hi, hsz, Sem.run_pure]
    congr 2
    apply Array.ext'
    simp
  · rename_i hagg hl
    cases ha
    have h1 : (takeFrom l off ti.size).length = 1 := by rw [hl]; rfl
    simp only [takeFrom, List.length_take, List.length_drop] at h1
    have h2 : ti.size = 1 := by omega
    have hget : l[off]? = some v := by
      have : (takeFrom l off ti.size)[0]? = some v := by rw [hl]; rfl
      simpa [takeFrom, h2] using this
    obtain ⟨x, hx, hr⟩ := hv.get hget
    refine ⟨x, ?_, hr⟩
    simp [part, run_isAgg' hti, hagg, hx]
  · cases ha
theorem partOf_rel {ρ : Rho} {w : World} {t off : Nat} {l : List AV} {cs : List Value} (hc : COk c P) (hv : VRels ρ l cs) (hp : partOf c t l off = some v) :
    ∃ x, (part t cs.toArray off).run P w = .ok x w ∧ VRel ρ v x := by
  unfold partOf at hp
  split at hp
  · rename_i ti ht
    split at hp
    · rename_i hb; exact agg?_rel hc ht hv (Nat.le_of_ble_eq_true hb) hp
    · cases hp
  · cases hp
theorem eqS_bytes (x y : ByteArray) : eqS (ofBytes x) (ofBytes y) = (x.toList == y.toList) := by rw [ofBytes_def, ofBytes_def]; exact eqS_eq _ _
theorem eqFs_rel {ρ : Rho} {w : World} (hc : COk c P) {d D : Nat} (ih : ∀ t a b x y r, eqT c d t a b = some r → VRel ρ a x → VRel ρ b y → (Op.equalIn D t x y).run P w = .ok r w)
    {xs ys : List AV} {cx cy : List Value} (hx : VRels ρ xs cx) (hy : VRels ρ ys cy) : ∀ (fields : List Field) (r : Bool),
    eqFs c (eqT c d) (fields.map fun f => (f.offset, f.type, ((P.info? f.type).map (·.size)).getD 0, f.name == "_")) xs ys = some r → (Op.eqFields D cx.toArray cy.toArray fields).run P w = .ok r w
  | [], r, he => by simp only [List.map_nil, eqFs, Option.some.injEq] at he; subst he; rfl
  | f :: fs, r, he => by
    simp only [List.map_cons, eqFs] at he
    split at he
    · rename_i hbl
      have hn : f.name = "_" := by simpa using hbl
      have := eqFs_rel hc ih hx hy fs r he
      simp only [Op.eqFields, hn, ne_eq, not_true_eq_false, if_false]
      exact this
    · rename_i hbl
      have hn : f.name ≠ "_" := by simpa using hbl
      split at he
      · rename_i a b ha hb
        obtain ⟨u, hu1, hu2⟩ := partOf_rel (w := w) hc hx ha
        obtain ⟨z, hz1, hz2⟩ := partOf_rel (w := w) hc hy hb
        split at he
        · rename_i h1
          have := eqFs_rel hc ih hx hy fs r he
          simp [Op.eqFields, hn, hu1, hz1, ih _ _ _ _ _ _ h1 hu2 hz2, this]
        · rename_i h1
          cases he
          simp [Op.eqFields, hn, hu1, hz1, ih _ _ _ _ _ _ h1 hu2 hz2]
        · cases he
      · cases he
def Op.eqElems (d elem n : Nat) (xs ys : Array Value) : Nat → Nat → Sem Bool
  | 0, _ => pure true
  | k + 1, i => do
    let a ← part elem xs (i * n)
    let b ← part elem ys (i * n)
    let r ← Op.equalIn d elem a b
    if (!r) = true then pure false else Op.eqElems d elem n xs ys k (i + 1)
theorem run_equalIn_array {w : World} {d t len elem n : Nat} {i : TypeInfo} {xs ys : Array Value} (ht : P.underlying t = some (.array len elem)) (hi : P.info? elem = some i) (hn : i.size = n) :
    (Op.equalIn (d + 1) t (.agg xs) (.agg ys)).run P w = (Op.eqElems d elem n xs ys len 0).run P w := by
  simp only [Op.equalIn, Sem.run_bind, run_underlying' ht, Result.andThen_ok, run_sizeOf' hi, hn]
  rw [Std.Legacy.Range.forIn_eq_forIn_range']
  have key : ∀ (k j : Nat) (w : World), ((Sem.run P (forIn (List.range' j k 1) ((none, ()) : Option Bool × Unit) fun i __s => do
            let a ← part elem xs (i * n)
            let b ← part elem ys (i * n)
            let e ← Op.equalIn d elem a b
            if (!e) = true then pure (ForInStep.done (some false, ())) else pure (ForInStep.yield (none, ()))) w).andThen
      fun a w' => Sem.run P (match a.fst with
        | some r => pure r
        | none => pure true) w') = Sem.run P (Op.eqElems d elem n xs ys k j) w := by
    intro k
    induction k with
    | zero => intro j w; simp [Op.eqElems]
    | succ k ih =>
      intro j w
      simp only [List.range'_succ, List.forIn_cons, Op.eqElems, Sem.run_bind]
      generalize (part elem xs (j * n)).run P w = r1
      cases r1 with
      | ok a w1 =>
        simp only [Result.andThen_ok]
        generalize (part elem ys (j * n)).run P w1 = r2
        cases r2 with
        | ok b w2 =>
          simp only [Result.andThen_ok]
          generalize (Op.equalIn d elem a b).run P w2 = r3
          cases r3 with
          | ok r w3 =>
            cases r
            · simp only [Result.andThen_ok, Bool.not_false, if_true, Sem.run_pure]
            · simp only [Result.andThen_ok, Bool.not_true, Bool.false_eq_true, if_false, Sem.run_pure]
              exact ih (j + 1) w3
          | halt x w3 => simp [Result.andThen]
        | halt x w2 => simp [Result.andThen]
      | halt x w1 => simp [Result.andThen]
  have e : List.range' [:len].start [:len].size [:len].step = List.range' 0 len 1 := by simp
  rw [e, ← key len 0 w]
  congr 1
  funext a w'
  cases a.fst <;> rfl
theorem eqEs_rel {ρ : Rho} {w : World} (hc : COk c P) {d D e n : Nat} (ih : ∀ t a b x y r, eqT c d t a b = some r → VRel ρ a x → VRel ρ b y → (Op.equalIn D t x y).run P w = .ok r w)
    {xs ys : List AV} {cx cy : List Value} (hx : VRels ρ xs cx) (hy : VRels ρ ys cy) : ∀ (k i : Nat) (r : Bool),
    eqEs c (eqT c d) e n k i xs ys = some r → (Op.eqElems D e n cx.toArray cy.toArray k i).run P w = .ok r w
  | 0, i, r, he => by simp only [eqEs, Option.some.injEq] at he; subst he; rfl
  | k + 1, i, r, he => by
    simp only [eqEs] at he
    split at he
    · rename_i a b ha hb
      obtain ⟨u, hu1, hu2⟩ := partOf_rel (w := w) hc hx ha
      obtain ⟨z, hz1, hz2⟩ := partOf_rel (w := w) hc hy hb
      split at he
      · rename_i h1
        have := eqEs_rel hc ih hx hy k (i + 1) r he
        simp [Op.eqElems, hu1, hz1, ih _ _ _ _ _ _ h1 hu2 hz2, this]
      · rename_i h1
        cases he
        simp [Op.eqElems, hu1, hz1, ih _ _ _ _ _ _ h1 hu2 hz2]
      · cases he
    · cases he
theorem eqT_rel {ρ : Rho} {w : World} (hc : COk c P) : ∀ (d D t : Nat) (a b : AV) (x y : Value) (r : Bool), d ≤ D → eqT c d t a b = some r → VRel ρ a x → VRel ρ b y → (Op.equalIn D t x y).run P w = .ok r w
  | 0, D, t, a, b, x, y, r, _, he, _, _ => by simp [eqT] at he
  | d + 1, D, t, a, b, x, y, r, hD, he, ha, hb => by
    obtain ⟨D, rfl⟩ : ∃ D', D = D' + 1 := ⟨D - 1, by omega⟩
    have ih : ∀ t a b x y r, eqT c d t a b = some r → VRel ρ a x → VRel ρ b y → (Op.equalIn D t x y).run P w = .ok r w := fun t a b x y r => eqT_rel hc d D t a b x y r (by omega)
    simp only [eqT] at he
    split at he
    · cases he
    · rename_i ti ht
      have hd := (hc.ty t ti ht).d
      split at he
      · rename_i fs xs ys htd
        rw [htd] at hd
        obtain ⟨fields, h1, h2, h3, rfl⟩ := hd
        obtain ⟨cx, rfl, hx⟩ := ha.ofAgg
        obtain ⟨cy, rfl, hy⟩ := hb.ofAgg
        have hf : P.fieldsOf t = fields := by simp [Program.fieldsOf, h1]
        rw [run_equalIn_struct w D t _ _ (by rw [hf]; exact h1) h2, hf]
        exact eqFs_rel hc ih hx hy fields.toList r he
      · rename_i n e z xs ys htd
        rw [htd] at hd
        obtain ⟨h1, i, h2, h3⟩ := hd
        obtain ⟨cx, rfl, hx⟩ := ha.ofAgg
        obtain ⟨cy, rfl, hy⟩ := hb.ofAgg
        rw [run_equalIn_array h1 h2 h3]
        exact eqEs_rel hc ih hx hy n 0 r he
      · rename_i p q htd
        rw [htd] at hd
        cases he
        rw [ha.ofBool, hb.ofBool, boolEq_eq]
        simp [Op.equalIn, run_underlying' hd]
      · rename_i k k1 p k2 q htd
        rw [htd] at hd
        split at he
        · rename_i hk
          have hk := kindEq_eq hk
          subst hk
          cases he
          rw [ha.ofInt, hb.ofInt, eqI_eq]
          simp [Op.equalIn, run_underlying' hd]
        · cases he
      · rename_i p q htd
        rw [htd] at hd
        cases he
        obtain ⟨p', rfl, rfl⟩ := ha.ofStr
        obtain ⟨q', rfl, rfl⟩ := hb.ofStr
        rw [eqS_bytes]
        simp [Op.equalIn, run_underlying' hd, beq_toListBytes]
      · cases he
end
end Am

namespace Am
open Go
section
variable {c : Ctx} {P : Program} {G : Gd} {env : T AV} {o : Oper} {h h' : H} {v : AV} {run : Run}
theorem intBin_eq {w : World} {op : BinOp} {t : Nat} {k : IntKind} {a b : Int} {ρ : Rho} (hs : op ≠ .shl) (hs2 : op ≠ .shr) (he : intBin op k a b = some v) :
    ∃ x, (binOp op t (.int k a) (.int k b)).run P w = .ok x w ∧ VRel ρ v x := by
  unfold intBin at he
  cases op <;> simp only [Option.map_eq_some_iff, Option.some.injEq] at he
  case add => subst he; exact ⟨.int k (k.wrap (a + b)), by simp [binOp, Op.intArith], by rw [addI_eq]; exact .int _ _⟩
  case sub => subst he; exact ⟨.int k (k.wrap (a - b)), by simp [binOp, Op.intArith], by rw [subI_eq]; exact .int _ _⟩
  case mul => subst he; exact ⟨.int k (k.wrap (a * b)), by simp [binOp, Op.intArith], by rw [mulI_eq]; exact .int _ _⟩
  case quo => obtain ⟨n, h1, rfl⟩ := he; exact ⟨_, by simp only [binOp, ne_eq, not_true_eq_false, if_false]; exact divI_eq h1, .int _ _⟩
  case rem => obtain ⟨n, h1, rfl⟩ := he; exact ⟨_, by simp only [binOp, ne_eq, not_true_eq_false, if_false]; exact divI_eq h1, .int _ _⟩
  case and => obtain ⟨n, h1, rfl⟩ := he; exact ⟨_, by simp only [binOp, ne_eq, not_true_eq_false, if_false]; exact bitsI_eq h1, .int _ _⟩
  case or => obtain ⟨n, h1, rfl⟩ := he; exact ⟨_, by simp only [binOp, ne_eq, not_true_eq_false, if_false]; exact bitsI_eq h1, .int _ _⟩
  case xor => obtain ⟨n, h1, rfl⟩ := he; exact ⟨_, by simp only [binOp, ne_eq, not_true_eq_false, if_false]; exact bitsI_eq h1, .int _ _⟩
  case andNot => obtain ⟨n, h1, rfl⟩ := he; exact ⟨_, by simp only [binOp, ne_eq, not_true_eq_false, if_false]; exact bitsI_eq h1, .int _ _⟩
  case shl => exact absurd rfl hs
  case shr => exact absurd rfl hs2
  all_goals (obtain ⟨n, h1, rfl⟩ := he; exact ⟨_, by simp only [binOp, ne_eq, not_true_eq_false, if_false]; exact cmpI_eq h1, .bool _⟩)
theorem run_eqGuard_other {w : World} (op : BinOp) (t : Nat) (x y : Operand) (a b : Value) (h1 : ¬ (a = .nilIface ∧ b = .nilIface)) (h2 : ∀ p q, ¬ (a = .agg p ∧ b = .agg q)) :
    (eqGuard op t x y a b).run P w = .ok () w := by
  cases op <;> first
    | rfl
    | (cases a <;> cases b <;> first | rfl | exact absurd ⟨rfl, rfl⟩ h1 | exact absurd ⟨rfl, rfl⟩ (h2 _ _))
theorem run_eqGuard_nil {w : World} (op : BinOp) (t : Nat) (x y : Operand) (hc : (isConst x || isConst y) = true) :
    (eqGuard op t x y .nilIface .nilIface).run P w = .ok () w := by
  cases op <;> first
    | rfl
    | (cases x <;> cases y <;> first | rfl | cases hc)
theorem eqD_runIn {w : World} {ρ : Rho} {t d : Nat} {a b : AV} {x y : Value} {r : Bool} {ti : TI} (hd : TDOk P t ti.d) (ha : VRel ρ a x) (hb : VRel ρ b y) (he : eqD ti.d a b = some r) :
    (Op.equalIn (d + 1) t x y).run P w = .ok r w := by
  unfold eqD at he
  split at he <;> first | (cases he; done) | skip
  all_goals (rename_i htd; rw [htd] at hd; cases he; cases ha; cases hb)
  all_goals first
    | (simp [Op.equalIn, run_underlying' hd, boolEq_eq]; done)
    | (obtain ⟨h1, _⟩ := hd; simp [Op.equalIn, run_underlying' h1]; done)
    | (obtain ⟨p, h1⟩ := hd; simp [Op.equalIn, run_underlying' h1]; done)
    | (obtain ⟨p, q, u, h1⟩ := hd; simp [Op.equalIn, run_underlying' h1]; done)
theorem run_eqlneq {w : World} {t : Nat} {x y : Value} {r : Bool} (hp : ∀ k n, x ≠ .int k n) (hq : ∀ s, x ≠ .string s) (hf : ∀ k n, x ≠ .float k n) (hk : ∀ k n m, x ≠ .complex k n m) (he : (Op.equal t x y).run P w = .ok r w) :
    (binOp .eql t x y).run P w = .ok (.bool r) w ∧ (binOp .neq t x y).run P w = .ok (.bool (!r)) w := by
  have e1 : binOp .eql t x y = (do pure (.bool (← Op.equal t x y))) := by
    cases x <;> first
      | exact absurd rfl (hp _ _)
      | exact absurd rfl (hq _)
      | exact absurd rfl (hf _ _)
      | exact absurd rfl (hk _ _ _)
      | (cases y <;> rfl)
  have e2 : binOp .neq t x y = (do pure (.bool (!(← Op.equal t x y)))) := by
    cases x <;> first
      | exact absurd rfl (hp _ _)
      | exact absurd rfl (hq _)
      | exact absurd rfl (hf _ _)
      | exact absurd rfl (hk _ _ _)
      | (cases y <;> rfl)
  exact ⟨by rw [e1]; simp [he], by rw [e2]; simp [he]⟩
theorem eqOp_run {w : World} {ρ : Rho} {t : Nat} {x y : Operand} {a b : AV} {p q : Value} {r : Bool} (hc : COk c P) (ha : VRel ρ a p) (hb : VRel ρ b q) (he : eqOp c t x y a b = some r) (op : BinOp) :
    (eqGuard op t x y p q).run P w = .ok () w ∧ (Op.equal t p q).run P w = .ok r w ∧ (∀ k n, p ≠ .int k n) ∧ (∀ s, p ≠ .string s) ∧ (∀ k n, p ≠ .float k n) ∧ (∀ k n m, p ≠ .complex k n m) := by
  unfold eqOp at he
  split at he
  · cases he
  · rename_i ti ht
    have hti := hc.ty t ti ht
    split at he
    · split at he
      · rename_i h1 h2
        cases he
        have hd := hti.d
        rw [h2] at hd
        obtain ⟨ms, hd⟩ := hd
        cases ha; cases hb
        refine ⟨run_eqGuard_nil op t x y h1, ?_, by simp, by simp, by simp, by simp⟩
        have : ∀ d, (Op.equalIn (d + 1) t .nilIface .nilIface).run P w = .ok true w := fun d => by simp [Op.equalIn, run_underlying' hd]
        exact this 9999
      · cases he
    · split at he
      · rename_i h1 h2
        obtain ⟨cx, rfl, hx⟩ := ha.ofAgg
        obtain ⟨cy, rfl, hy⟩ := hb.ofAgg
        exact ⟨run_eqGuard_agg w op t x y _ _ (hti.guard h1 h2), eqT_rel hc 12 10000 t _ _ _ _ r (by decide) he ha hb, by simp, by simp, by simp, by simp⟩
      · cases he
    · rename_i h1 h2
      refine ⟨?_, eqD_runIn (d := 9999) hti.d ha hb he, ?_, ?_, ?_, ?_⟩
      · refine run_eqGuard_other op t x y p q ?_ ?_
        · rintro ⟨rfl, rfl⟩
          cases ha <;> cases hb <;> first | exact h1 rfl rfl | (simp [eqD] at he)
        · rintro u z ⟨rfl, rfl⟩
          cases ha <;> cases hb <;> first | exact h2 _ _ rfl rfl | (simp [eqD] at he)
      all_goals (intros; rintro rfl; cases ha <;> cases hb <;> simp [eqD] at he)
theorem ok_binOp {op : BinOp} {t yt : Nat} {x y : Operand} (hc : COk c P) (ho : o.op = .binOp op t x y yt) (he : binOpA c op t x y (evalO env x) (evalO env y) = some v) : OpOk c P G env o h v h :=
  .same fun ρ a w hE hr hg => by
    have hx := evalO_rel hE x
    have hy := evalO_rel hE y
    have step : ∀ {u : Value}, (eqGuard op t x y (a.eval x) (a.eval y)).run P w = .ok () w → (binOp op t (a.eval x) (a.eval y)).run P w = .ok u w →
        (execOp a.eval o).run P w = .ok (.value u) w := fun h1 h2 => by simp [execOp, ho, h1, h2]
    generalize evalO env x = ax at *
    generalize evalO env y = ay at *
    generalize a.eval x = px at *
    generalize a.eval y = py at *
    unfold binOpA at he
    split at he
    · rename_i k m k' n
      have h1 := hx.ofInt
      have h2 := hy.ofInt
      subst h1; subst h2
      have hg1 : (eqGuard op t x y (.int k m) (.int k' n)).run P w = .ok () w := run_eqGuard_other op t x y _ _ (by simp) (by simp)
      split at he
      · obtain ⟨z, h3, rfl⟩ := Option.map_eq_some_iff.1 he
        exact ⟨.int k z, step hg1 (by simp only [binOp]; exact shiftI_eq h3), .int _ _⟩
      · obtain ⟨z, h3, rfl⟩ := Option.map_eq_some_iff.1 he
        exact ⟨.int k z, step hg1 (by simp only [binOp]; exact shiftI_eq h3), .int _ _⟩
      · rename_i hs1 hs2
        split at he
        · rename_i hk
          have hk := kindEq_eq hk
          subst hk
          obtain ⟨u, h3, h4⟩ := intBin_eq (P := P) (w := w) (t := t) (ρ := ρ) hs1 hs2 he
          exact ⟨u, step hg1 h3, h4⟩
        · cases he
    · rename_i p q
      obtain ⟨p', rfl, rfl⟩ := hx.ofStr
      obtain ⟨q', rfl, rfl⟩ := hy.ofStr
      obtain ⟨u, h3, h4⟩ := strBin_eq (P := P) (w := w) (ρ := ρ) he
      refine ⟨u, step (run_eqGuard_other op t x y _ _ (by simp) (by simp)) ?_, h4⟩
      have : binOp op t (.string p') (.string q') = Op.stringOp op p' q' := by cases op <;> rfl
      rw [this]; exact h3
    · split at he
      · obtain ⟨r, h3, rfl⟩ := Option.map_eq_some_iff.1 he
        obtain ⟨k1, k2, k3, k4, k5, k6⟩ := eqOp_run (P := P) (w := w) hc hx hy h3 .eql
        exact ⟨.bool r, step k1 (run_eqlneq k3 k4 k5 k6 k2).1, .bool _⟩
      · obtain ⟨r, h3, rfl⟩ := Option.map_eq_some_iff.1 he
        obtain ⟨k1, k2, k3, k4, k5, k6⟩ := eqOp_run (P := P) (w := w) hc hx hy h3 .neq
        exact ⟨.bool (!r), step k1 (run_eqlneq k3 k4 k5 k6 k2).2, .bool _⟩
      · cases he
theorem ok_unOp {op : UnOp} {t : Nat} {x : Operand} (ho : o.op = .unOp op t x) (he : unA op (evalO env x) = some v) : OpOk c P G env o h v h :=
  .same fun ρ a w hE hr hg => by
    have hx := evalO_rel hE x
    generalize evalO env x = ax at *
    unfold unA at he
    split at he
    · cases he
      exact ⟨.bool _, by simp [execOp, ho, hx.ofBool, Op.unary], .bool _⟩
    · rename_i k n
      cases he
      exact ⟨.int k (k.wrap (0 - n)), by simp [execOp, ho, hx.ofInt, Op.unary, Op.intArith], by rw [subI_eq]; exact .int _ _⟩
    · rename_i n
      obtain ⟨z, h3, rfl⟩ := Option.map_eq_some_iff.1 he
      have := bitsI_eq (P := P) (w := w) h3
      exact ⟨.int .u64 z, by simp only [execOp, ho, hx.ofInt, Op.unary, Sem.run_bind]; rw [show (if IntKind.u64.signed = true then (-1 : Int) else IntKind.u64.max) = Int.ofNat 18446744073709551615 from rfl, this]; rfl, .int _ _⟩
    · cases he
end
end Am

namespace Am
open Go
section
variable {c : Ctx} {P : Program} {G : Gd} {env : T AV} {o : Oper} {h h' : H} {v : AV} {run : Run}
theorem replaceAt_get : ∀ (l : List AV) (off : Nat) (ws : List AV) (k : Nat), off + ws.length ≤ l.length → (replaceAt l off ws)[k]? = if off ≤ k ∧ k < off + ws.length then ws[k - off]? else l[k]?
  | l, off, [], k, _ => by
    have : replaceAt l off [] = l := by cases l <;> rfl
    rw [this, if_neg (by simp only [List.length_nil]; omega)]
  | [], off, w :: ws, k, h => by simp only [List.length_cons, List.length_nil] at h; omega
  | v :: l, 0, w :: ws, k, h => by
    simp only [replaceAt]
    cases k with
    | zero => simp
    | succ k =>
      simp only [List.getElem?_cons_succ]
      rw [replaceAt_get l 0 ws k (by simp at h; omega)]
      by_cases hk : k < ws.length
      · rw [if_pos (by omega), if_pos (by simp; omega)]; simp
      · rw [if_neg (by omega), if_neg (by simp; omega)]
  | v :: l, off + 1, w :: ws, k, h => by
    simp only [replaceAt]
    cases k with
    | zero => simp
    | succ k =>
      simp only [List.getElem?_cons_succ]
      rw [replaceAt_get l off (w :: ws) k (by simp at h ⊢; omega)]
      by_cases hk : off ≤ k ∧ k < off + (w :: ws).length
      · rw [if_pos hk, if_pos (by omega), show k + 1 - (off + 1) = k - off by omega]
      · rw [if_neg hk, if_neg (by omega)]
theorem replaceAt_length : ∀ (l : List AV) (off : Nat) (ws : List AV), off + ws.length ≤ l.length → (replaceAt l off ws).length = l.length
  | l, off, [], _ => by cases l <;> rfl
  | [], off, w :: ws, h => by simp only [List.length_cons, List.length_nil] at h; omega
  | v :: l, 0, w :: ws, h => by simp only [replaceAt, List.length_cons]; rw [replaceAt_length l 0 ws (by simp at h; omega)]
  | v :: l, off + 1, w :: ws, h => by simp only [replaceAt, List.length_cons]; rw [replaceAt_length l off (w :: ws) (by simp at h ⊢; omega)]
def setFrom (cs : Array Value) (off : Nat) (vs : List Value) (j : Nat) : Array Value := match vs with
  | [] => cs
  | v :: r => setFrom (cs.setIfInBounds (off + j) v) off r (j + 1)
theorem foldl_setFrom (off : Nat) : ∀ (vs : List Value) (cs : Array Value) (j : Nat), (vs.zipIdx j).foldl (fun cs x => cs.setIfInBounds (off + x.2) x.1) cs = setFrom cs off vs j
  | [], _, _ => rfl
  | v :: r, cs, j => by simp only [List.zipIdx_cons, List.foldl_cons, setFrom]; exact foldl_setFrom off r _ _
theorem setFrom_get (off : Nat) : ∀ (vs : List Value) (cs : Array Value) (j k : Nat), off + j + vs.length ≤ cs.size → (setFrom cs off vs j)[k]? = if off + j ≤ k ∧ k < off + j + vs.length then vs[k - (off + j)]? else cs[k]?
  | [], cs, j, k, _ => by simp only [setFrom]; rw [if_neg (by simp only [List.length_nil]; omega)]
  | v :: r, cs, j, k, h => by
    simp only [List.length_cons] at h
    simp only [setFrom]
    rw [setFrom_get off r _ (j + 1) k (by simp; omega)]
    by_cases e1 : k = off + j
    · subst e1
      rw [if_neg (by omega), if_pos (by simp)]
      simp [Array.getElem?_setIfInBounds]; omega
    · by_cases e2 : off + (j + 1) ≤ k ∧ k < off + (j + 1) + r.length
      · have e3 : k - (off + j) = (k - (off + (j + 1))) + 1 := by omega
        rw [if_pos e2, if_pos (by simp; omega), e3]; simp
      · rw [if_neg e2, if_neg (by simp; omega)]
        simp [Ne.symm e1]
theorem setFrom_size (off : Nat) : ∀ (vs : List Value) (cs : Array Value) (j : Nat), (setFrom cs off vs j).size = cs.size
  | [], _, _ => rfl
  | v :: r, cs, j => by simp only [setFrom]; rw [setFrom_size off r]; simp
theorem fill_step {ρ : Rho} {l : List AV} {cs : Array Value} {a : AV} {x : Value} {off : Nat} (hl : VRels ρ l cs.toList) (hv : VRel ρ a x) (hk : a.known = true) (hb : off + a.cells.length ≤ l.length) :
    x.cells.size = a.cells.length ∧ VRels ρ (replaceAt l off a.cells) (x.cells.zipIdx.foldl (fun cs (c, j) => cs.setIfInBounds (off + j) c) cs).toList ∧ (replaceAt l off a.cells).length = l.length := by
  have hu : a ≠ .unk := by rintro rfl; cases hk
  have hc := hv.cells hu
  have hlen := hc.length
  have hll := hl.length
  have hsz : x.cells.size = a.cells.length := by rw [hlen]; simp
  have hls : l.length = cs.size := by rw [hll]; simp
  refine ⟨hsz, ?_, replaceAt_length _ _ _ hb⟩
  have hf : x.cells.zipIdx.foldl (fun cs (c, j) => cs.setIfInBounds (off + j) c) cs = setFrom cs off x.cells.toList 0 := by
    rw [← foldl_setFrom, ← Array.foldl_toList]
    congr 1
    simp
  rw [hf]
  refine VRels.of_forall ?_ fun i b y hb' hy => ?_
  · rw [replaceAt_length _ _ _ hb, hls, ← setFrom_size off x.cells.toList cs 0]; exact Array.length_toList.symm
  · rw [replaceAt_get _ _ _ _ hb] at hb'
    rw [Array.getElem?_toList, setFrom_get _ _ _ _ _ (by simp; omega)] at hy
    simp only [Nat.add_zero, Array.length_toList] at hy
    by_cases hin : off ≤ i ∧ i < off + a.cells.length
    · rw [if_pos hin] at hb'
      rw [if_pos (by omega)] at hy
      obtain ⟨z, h1, h2⟩ := hc.get hb'
      rw [h1] at hy; cases hy; exact h2
    · rw [if_neg hin] at hb'
      rw [if_neg (by omega)] at hy
      obtain ⟨z, h1, h2⟩ := hl.get hb'
      rw [Array.getElem?_toList, hy] at h1; cases h1; exact h2
theorem fillArr_rel {ρ : Rho} {a : Act} (hE : ERel ρ env a.tmps) {esz : Nat} : ∀ (ps : List (Nat × Operand)) (l : List AV) (cs : Array Value) (r : List AV),
    VRels ρ l cs.toList → fillArr esz l (evalParts env ps) = some r →
    ∃ cr, Instr.fill (fun i => some (i * esz, esz)) cs (ps.map fun p => (p.1, a.eval p.2)) = some cr ∧ VRels ρ r cr.toList
  | [], l, cs, r, hl, hf => by
    simp only [evalParts, fillArr, Option.some.injEq] at hf; subst hf
    exact ⟨cs, rfl, hl⟩
  | (i, x) :: ps, l, cs, r, hl, hf => by
    simp only [evalParts, fillArr] at hf
    split at hf
    · rename_i h1 h2 h3
      have h1 : (evalO env x).cells.length = esz := by simpa using h1
      have h2 := Nat.le_of_ble_eq_true h2
      obtain ⟨q1, q2, q3⟩ := fill_step (off := i * esz) hl (evalO_rel hE x) h3 (by omega)
      obtain ⟨cr, q4, q5⟩ := fillArr_rel hE ps _ _ r q2 hf
      refine ⟨cr, ?_, q5⟩
      simp only [List.map_cons, Instr.fill]
      have hll : l.length = cs.size := by rw [hl.length]; simp
      rw [if_neg (by simp; omega)]
      exact q4
    · cases hf
theorem fillStruct_rel {ρ : Rho} {a : Act} (hE : ERel ρ env a.tmps) {fs : List (Nat × Nat × Nat × Bool)} {pl : Array (Nat × Nat)} (hp : pl.toList = fs.map fun f => (f.1, f.2.2.1)) :
    ∀ (ps : List (Nat × Operand)) (l : List AV) (cs : Array Value) (r : List AV), VRels ρ l cs.toList → fillStruct fs l (evalParts env ps) = some r →
    ∃ cr, Instr.fill (pl[·]?) cs (ps.map fun p => (p.1, a.eval p.2)) = some cr ∧ VRels ρ r cr.toList
  | [], l, cs, r, hl, hf => by
    simp only [evalParts, fillStruct, Option.some.injEq] at hf; subst hf
    exact ⟨cs, rfl, hl⟩
  | (i, x) :: ps, l, cs, r, hl, hf => by
    simp only [evalParts, fillStruct] at hf
    split at hf
    · rename_i off ft size bl hfi
      split at hf
      · rename_i h1 h2 h3
        have h1 : (evalO env x).cells.length = size := by simpa using h1
        have h2 := Nat.le_of_ble_eq_true h2
        obtain ⟨q1, q2, q3⟩ := fill_step (off := off) hl (evalO_rel hE x) h3 (by omega)
        obtain ⟨cr, q4, q5⟩ := fillStruct_rel hE hp ps _ _ r q2 hf
        refine ⟨cr, ?_, q5⟩
        have hpi : pl[i]? = some (off, size) := by rw [← Array.getElem?_toList, hp]; simp [hfi]
        have hll : l.length = cs.size := by rw [hl.length]; simp
        simp only [List.map_cons, Instr.fill, hpi]
        rw [if_neg (by simp; omega)]
        exact q4
      · cases hf
    · cases hf
theorem run_places {w : World} (fields : Array Field) (hf : ∀ f ∈ fields.toList, ∃ i, P.info? f.type = some i) :
    (fields.mapM fun f => do pure (f.offset, ← Go.sizeOf f.type) : Sem (Array (Nat × Nat))).run P w = .ok (fields.map fun f => (f.offset, ((P.info? f.type).map (·.size)).getD 0)) w := by
  rw [Array.mapM_eq_mapM_toList]
  have : ∀ (l : List Field), (∀ f ∈ l, ∃ i, P.info? f.type = some i) → (l.mapM fun f => do pure (f.offset, ← Go.sizeOf f.type) : Sem (List (Nat × Nat))).run P w = .ok (l.map fun f => (f.offset, ((P.info? f.type).map (·.size)).getD 0)) w := by
    intro l
    induction l with
    | nil => intro _; simp
    | cons f l ih =>
      intro hl
      obtain ⟨i, hi⟩ := hl f (by simp)
      have h1 := ih fun g hg => hl g (by simp [hg])
      simp only [List.mapM_cons, Sem.run_bind, run_sizeOf' hi, Result.andThen_ok, Sem.run_pure, h1, List.map_cons, hi, Option.map_some, Option.getD_some]
  simp only [Sem.run_map, this fields.toList hf, Result.andThen_ok]
  congr 1
  apply Array.ext'
  simp
theorem ok_buildStruct {t : Nat} {ti : TI} {ps : Array (Nat × Operand)} {z l : List AV} {fs : List (Nat × Nat × Nat × Bool)} (hc : COk c P) (ho : o.op = .build t ps) (ht : c.ty.get t = some ti) (hz : ti.zero = some z)
    (hd : ti.d = .struct fs) (hf : fillStruct fs z (evalParts env ps.toList) = some l) : OpOk c P G env o h (.agg l) h :=
  .same fun ρ a w hE hr hg => by
    have hti := hc.ty t ti ht
    obtain ⟨zv, h1, h2, h3⟩ := run_zero (w := w) hti hz
    have hdd := hti.d
    rw [hd] at hdd
    obtain ⟨fields, k1, k2, k3, rfl⟩ := hdd
    obtain ⟨cr, q1, q2⟩ := fillStruct_rel hE (pl := fields.map fun f => (f.offset, ((P.info? f.type).map (·.size)).getD 0)) (by simp) ps.toList z zv.cells l (by rw [h2]; exact (ofValue_rel ρ zv).cells h3) hf
    refine ⟨.agg cr, ?_, .agg _ _ q2⟩
    have q1' : Instr.fill (fun x => (fields.map fun f => (f.offset, ((P.info? f.type).map (·.size)).getD 0))[x]?) zv.cells (ps.map fun x => (x.1, a.eval x.2)).toList = some cr := by rw [← q1]; simp
    simp only [execOp, ho, Instr.build, Sem.run_bind, h1, Result.andThen_ok, run_underlying' k1, run_places fields k3, Sem.run_pure]
    rw [show (ps.map fun (x : Nat × Operand) => match x with | (i, x) => (i, a.eval x)) = ps.map fun x => (x.1, a.eval x.2) from rfl, q1']
    rfl
theorem ok_buildArr {t n e esz : Nat} {ti : TI} {ps : Array (Nat × Operand)} {z l : List AV} (hc : COk c P) (ho : o.op = .build t ps) (ht : c.ty.get t = some ti) (hz : ti.zero = some z)
    (hd : ti.d = .arr n e esz) (hf : fillArr esz z (evalParts env ps.toList) = some l) : OpOk c P G env o h (.agg l) h :=
  .same fun ρ a w hE hr hg => by
    have hti := hc.ty t ti ht
    obtain ⟨zv, h1, h2, h3⟩ := run_zero (w := w) hti hz
    have hdd := hti.d
    rw [hd] at hdd
    obtain ⟨k1, i, k2, k3⟩ := hdd
    obtain ⟨cr, q1, q2⟩ := fillArr_rel hE ps.toList z zv.cells l (by rw [h2]; exact (ofValue_rel ρ zv).cells h3) hf
    refine ⟨.agg cr, ?_, .agg _ _ q2⟩
    have q1' : Instr.fill (fun i => some (i * esz, esz)) zv.cells (ps.map fun x => (x.1, a.eval x.2)).toList = some cr := by rw [← q1]; simp
    simp only [execOp, ho, Instr.build, Sem.run_bind, h1, Result.andThen_ok, run_underlying' k1, run_sizeOf' k2, k3]
    rw [show (ps.map fun (x : Nat × Operand) => match x with | (i, x) => (i, a.eval x)) = ps.map fun x => (x.1, a.eval x.2) from rfl, q1']
    rfl
end
end Am

namespace Am
open Go
section
variable {c : Ctx} {P : Program} {G : Gd} {env : T AV} {o : Oper} {h h' : H} {v : AV} {run : Run}
theorem repl_rel {ρ : Rho} : ∀ (n : Nat) {l : List AV} {cs : List Value}, VRels ρ l cs → VRels ρ (repl n l) ((List.replicate n cs).flatten)
  | 0, _, _, _ => .nil
  | n + 1, l, cs, h => by
    simp only [repl, List.replicate_succ, List.flatten_cons]
    exact h.append (repl_rel n h)
theorem flat_get (cs : List Value) : ∀ (n i : Nat), i < n * cs.length → ((List.replicate n cs).flatten)[i]? = cs[i % cs.length]?
  | 0, i, h => by simp at h
  | n + 1, i, h => by
    simp only [List.replicate_succ, List.flatten_cons]
    by_cases hi : i < cs.length
    · rw [List.getElem?_append_left hi, Nat.mod_eq_of_lt hi]
    · rw [List.getElem?_append_right (by omega), flat_get cs n (i - cs.length) (by rw [Nat.succ_mul] at h; omega)]
      congr 1
      exact (Nat.mod_eq_sub_mod (by omega)).symm
theorem flat_length (cs : List Value) (n : Nat) : ((List.replicate n cs).flatten).length = n * cs.length := by simp
theorem zeros_eq (z : Array Value) (n : Nat) : (Array.range (n * z.size)).map (fun i => z[i % z.size]!) = ((List.replicate n z.toList).flatten).toArray := by
  apply Array.ext'
  apply List.ext_getElem?
  intro i
  simp only [Array.toList_map, Array.toList_range, List.getElem?_map]
  by_cases hi : i < n * z.size
  · have hz : 0 < z.size := by rcases Nat.eq_zero_or_pos z.size with e | e
                               · rw [e] at hi; simp at hi
                               · exact e
    rw [flat_get _ _ _ (by simpa using hi), List.getElem?_range hi]
    have hm : i % z.size < z.size := Nat.mod_lt _ hz
    simp [hm]
  · rw [List.getElem?_eq_none (by simp; omega), List.getElem?_eq_none (by simp; omega)]; rfl
theorem ok_newSlice {l : List AV} {len esz : Nat} {ex : Bool} (k : ∀ (ρ : Rho) (a : Act) (w : World), ERel ρ env a.tmps → HRel G ρ h.ph w → GOk c G w → ∃ e cs extra cap, VRels ρ l cs ∧ len ≤ cap ∧ (ex = true → cap = len) ∧
      cap * esz ≤ cs.length + extra.length ∧ ∃ w1, (w1 = w ∨ w1 = { w with drawn := w.drawn + 1 }) ∧ (execOp a.eval o).run P w = ((newRow e (cs ++ extra).toArray).run P w1).andThen fun ad w' => .ok (.value (.slice (some ad) len cap)) w') :
    OpOk c P G env o h (.slice (newCells l h).1 0 len (tagOf esz ex)) (newCells l h).2 := by
  refine ⟨by simp [newCells, H.new], fun ρ a w he hr hg hf => ?_⟩
  obtain ⟨e, cs, extra, cap, hv, hcap, hex, hroom, w1, hw1, hrun⟩ := k ρ a w he hr hg
  have hst : HRel G ρ h.ph w1 ∧ GOk c G w1 ∧ Tr ρ h.ph h.next w ρ h.ph h.next w1 := by
    rcases hw1 with rfl | rfl
    · exact ⟨hr, hg, Tr.refl _ _ _ _⟩
    · obtain ⟨d1, d2⟩ := step_drew (n := h.next) (w.drawn + 1) hr
      exact ⟨d1, hg.tr hr d2, d2⟩
  obtain ⟨hr1, hg1, ht1⟩ := hst
  obtain ⟨ρ', w', h1, h2, h3, h4⟩ := new_cells (P := P) (extra := extra) (e := e) hr1 hg1 (hf h.next (Nat.le_refl _) (by simp [newCells, H.new])) hv
  refine ⟨ρ', w', .slice (some ⟨w1.heap.size, 0, none⟩) len cap, .inl ?_, ?_, ?_, ?_⟩
  · rw [hrun, h1]; rfl
  · refine .slice _ _ _ _ _ _ _ h2 hcap (.inr rfl) (fun ht => hex ?_) ?_
    · unfold tagOf at ht; cases ex
      · simp at ht
      · rfl
    · have : tagOf esz ex / 2 = esz := by
        cases ex
        · show (2 * esz + 0) / 2 = esz; omega
        · show (2 * esz + 1) / 2 = esz; omega
      rw [this]; simp only; omega
  · simp only [newCells, ph_new]; exact h3
  · simp only [newCells, ph_new]
    exact ht1.trans h4 (Nat.le_refl _) (Nat.le_succ _)
theorem ok_buildSlice {t e esz len : Nat} {ti ei : TI} {ps : Array (Nat × Operand)} {z l : List AV} (hc : COk c P) (ho : o.op = .buildSlice t len ps) (ht : c.ty.get t = some ti) (hd : ti.d = .slice e esz)
    (he : c.ty.get e = some ei) (hz : ei.zero = some z) (hzl : z.length = esz) (hsm : len * esz ≤ 2 ^ 24) (hf : fillArr esz (repl len z) (evalParts env ps.toList) = some l) :
    OpOk c P G env o h (.slice (newCells l h).1 0 len (tagOf esz true)) (newCells l h).2 := by
  refine ok_newSlice fun ρ a w hE hr hg => ?_
  have hti := hc.ty t ti ht
  have hdd := hti.d
  rw [hd] at hdd
  obtain ⟨k1, i, k2, k3⟩ := hdd
  obtain ⟨zv, h1, h2, h3⟩ := run_zero (w := w) (hc.ty e ei he) hz
  have hzr : VRels ρ z zv.cells.toList := by rw [h2]; exact (ofValue_rel ρ zv).cells h3
  have hzs : zv.cells.size = esz := by rw [← hzl, hzr.length]; simp
  have hcs0 : VRels ρ (repl len z) ((List.replicate len zv.cells.toList).flatten).toArray.toList := by simpa using repl_rel len hzr
  obtain ⟨cr, q1, q2⟩ := fillArr_rel hE ps.toList (repl len z) ((List.replicate len zv.cells.toList).flatten).toArray l hcs0 hf
  have hlr : l.length = len * esz := by
    have : ∀ (xs : List (Nat × AV)) (l0 r : List AV), fillArr esz l0 xs = some r → r.length = l0.length := by
      intro xs
      induction xs with
      | nil => intro l0 r hh; simp only [fillArr, Option.some.injEq] at hh; rw [hh]
      | cons p xs ih =>
        intro l0 r hh
        obtain ⟨i, v⟩ := p
        simp only [fillArr] at hh
        split at hh
        · rename_i g1 g2 g3
          have g1 : v.cells.length = esz := by simpa using g1
          rw [ih _ _ hh, replaceAt_length _ _ _ (by have := Nat.le_of_ble_eq_true g2; omega)]
        · cases hh
    rw [this _ _ _ hf, (repl_rel len hzr).length]
    simp [hzs]
  have hcrl : cr.toList.length = len * esz := by rw [← q2.length, hlr]
  refine ⟨e, cr.toList, [], len, q2, Nat.le_refl _, fun _ => rfl, by simp only [List.length_nil, Nat.add_zero]; omega, w, .inl rfl, ?_⟩
  have q1' : Instr.fill (fun i => some (i * esz, esz)) ((List.replicate len zv.cells.toList).flatten).toArray (ps.map fun x => (x.1, a.eval x.2)).toList = some cr := by rw [← q1]; simp
  simp only [execOp, ho, Instr.buildSlice, Sem.run_bind, run_underlying' k1, Result.andThen_ok, run_sizeOf' k2, k3, Sem.run_ite]
  rw [show (ps.map fun (x : Nat × Operand) => match x with | (i, x) => (i, a.eval x)) = ps.map fun x => (x.1, a.eval x.2) from rfl]
  by_cases h0 : len * esz = 0
  · have hfl : (List.replicate len zv.cells.toList).flatten.toArray = #[] := by
      have : ((List.replicate len zv.cells.toList).flatten).length = 0 := by rw [flat_length]; simpa [hzs] using h0
      rw [List.length_eq_zero_iff.1 this]
    have e2 : ∀ f : Nat → Value, (Array.range 0).map f = #[] := fun f => by apply Array.ext'; simp
    rw [hfl] at q1'
    simp only [h0, if_neg (show ¬ (0 > 2 ^ 24) by omega), if_true, Sem.run_pure, Result.andThen_ok, e2, q1', List.append_nil]
    simp [newRow, Result.andThen]
  · have e1 := zeros_eq zv.cells len
    rw [hzs] at e1
    simp only [if_neg (show ¬ (len * esz > 2 ^ 24) by omega), if_neg h0, Sem.run_bind, h1, Result.andThen_ok, Sem.run_pure, hzs, e1, q1', List.append_nil]
    simp [newRow, Result.andThen]
theorem fieldOf_rel {t f off ft sz : Nat} {bl : Bool} (hc : COk c P) (hf : fieldOf c t f = some (off, ft, sz, bl)) :
    ∃ fields fl i, P.underlying t = some (.struct fields) ∧ fields[f]? = some fl ∧ fl.offset = off ∧ fl.type = ft ∧ P.info? fl.type = some i ∧ i.size = sz := by
  unfold fieldOf at hf
  split at hf
  · rename_i ti ht
    have hd := (hc.ty t ti ht).d
    split at hf
    · rename_i fs htd
      rw [htd] at hd
      obtain ⟨fields, k1, k2, k3, rfl⟩ := hd
      rw [List.getElem?_map, Option.map_eq_some_iff] at hf
      obtain ⟨fl, h1, h2⟩ := hf
      obtain ⟨i, hi⟩ := k3 fl (List.mem_of_getElem? h1)
      simp only [Prod.mk.injEq] at h2
      refine ⟨fields, fl, i, k1, by simpa using h1, h2.1, h2.2.1, hi, ?_⟩
      rw [← h2.2.2.1, hi]; rfl
    · cases hf
  · cases hf
theorem run_fieldAt {w : World} {t f off ft sz b k : Nat} {bl : Bool} (hc : COk c P) (hf : fieldOf c t f = some (off, ft, sz, bl)) (hs : sz ≠ 0) :
    (Instr.fieldAt t (.pointer (some ⟨b, k, none⟩)) f).run P w = .ok (.pointer (some ⟨b, k + off, none⟩)) w := by
  obtain ⟨fields, fl, i, h1, h2, h3, h4, h5, h6⟩ := fieldOf_rel hc hf
  have hne : ¬ (i.size = 0) := by omega
  simp [Instr.fieldAt, run_underlying' h1, h2, Instr.sureAddr, fieldPlace, run_sizeOf' h5, hne, addr_add, h3]
theorem ok_fieldAddr {t f id off oo ft sz : Nat} {bl : Bool} {x : Operand} (hc : COk c P) (ho : o.op = .fieldAddr t x f) (hx : evalO env x = .ptr id off) (hf : fieldOf c t f = some (oo, ft, sz, bl)) (hs : sz ≠ 0) :
    OpOk c P G env o h (.ptr id (off + oo)) h :=
  .same fun ρ a w hE hr hg => by
    have hp := evalO_rel hE x
    rw [hx] at hp
    obtain ⟨l, h1, h2⟩ := hp.ofPtr
    refine ⟨.pointer (some ⟨l.b, l.base + (off + oo), none⟩), ?_, .ptr _ _ _ h1⟩
    simp only [execOp, ho, h2, Sem.run_bind, run_fieldAt hc hf hs, Result.andThen_ok, Sem.run_pure]
    rw [Nat.add_assoc]
theorem ok_fieldAddrG {t f id off oo ft sz : Nat} {bl : Bool} {x : Operand} (hc : COk c P) (ho : o.op = .fieldAddr t x f) (hx : evalO env x = .gptr id off) (hf : fieldOf c t f = some (oo, ft, sz, bl)) (hs : sz ≠ 0) :
    OpOk c P G env o h (.gptr id (off + oo)) h :=
  .same fun ρ a w hE hr hg => by
    have hp := evalO_rel hE x
    rw [hx] at hp
    refine ⟨.pointer (some ⟨id, off + oo, none⟩), ?_, .gptr _ _⟩
    simp only [execOp, ho, hp.ofGptr, Sem.run_bind, run_fieldAt hc hf hs, Result.andThen_ok, Sem.run_pure]
theorem ok_field {t f off ft sz : Nat} {bl : Bool} {x : Operand} {l : List AV} (hc : COk c P) (ho : o.op = .field t x f) (hx : evalO env x = .agg l) (hf : fieldOf c t f = some (off, ft, sz, bl)) (hp : partOf c ft l off = some v) :
    OpOk c P G env o h v h :=
  .same fun ρ a w hE hr hg => by
    have hv := evalO_rel hE x
    rw [hx] at hv
    obtain ⟨cs, h1, h2⟩ := hv.ofAgg
    obtain ⟨fields, fl, i, k1, k2, k3, k4, k5, k6⟩ := fieldOf_rel hc hf
    obtain ⟨y, q1, q2⟩ := partOf_rel (w := w) hc h2 hp
    refine ⟨y, ?_, q2⟩
    simp only [execOp, ho, h1, Instr.field, Sem.run_bind, run_underlying' k1, Result.andThen_ok, k2, Go.asAgg, Sem.run_pure, k3, k4]
    rw [show (⟨cs⟩ : Array Value) = cs.toArray from rfl, q1]; rfl
theorem VRel.ofNat {ρ : Rho} {a : AV} {n : Nat} {x : Value} (h : VRel ρ a x) (hn : natOf a = some n) : ∃ k, x = .int k (Int.ofNat n) := by
  unfold natOf at hn
  split at hn
  · cases hn; exact ⟨_, h.ofInt⟩
  · cases hn
theorem ok_indexArr {t n e esz i id off : Nat} {ti : TI} {x y : Operand} (hc : COk c P) (ho : o.op = .indexAddr t x y) (ht : c.ty.get t = some ti) (hd : ti.d = .arr n e esz)
    (hx : evalO env x = .ptr id off) (hi : natOf (evalO env y) = some i) (hlt : i < n) : OpOk c P G env o h (.ptr id (off + i * esz)) h :=
  .same fun ρ a w hE hr hg => by
    have hp := evalO_rel hE x
    rw [hx] at hp
    obtain ⟨l, h1, h2⟩ := hp.ofPtr
    obtain ⟨k, h3⟩ := (evalO_rel hE y).ofNat hi
    have hdd := (hc.ty t ti ht).d
    rw [hd] at hdd
    obtain ⟨k1, q, k2, k3⟩ := hdd
    refine ⟨.pointer (some ⟨l.b, l.base + (off + i * esz), none⟩), ?_, .ptr _ _ _ h1⟩
    simp [execOp, ho, h2, h3, Instr.indexAt, asIntOf, run_underlying' k1, Instr.sureAddr, hlt, run_sizeOf' k2, k3, addr_add, Nat.add_assoc]
theorem ok_indexArrG {t n e esz i id off : Nat} {ti : TI} {x y : Operand} (hc : COk c P) (ho : o.op = .indexAddr t x y) (ht : c.ty.get t = some ti) (hd : ti.d = .arr n e esz)
    (hx : evalO env x = .gptr id off) (hi : natOf (evalO env y) = some i) (hlt : i < n) : OpOk c P G env o h (.gptr id (off + i * esz)) h :=
  .same fun ρ a w hE hr hg => by
    have hp := evalO_rel hE x
    rw [hx] at hp
    obtain ⟨k, h3⟩ := (evalO_rel hE y).ofNat hi
    have hdd := (hc.ty t ti ht).d
    rw [hd] at hdd
    obtain ⟨k1, q, k2, k3⟩ := hdd
    refine ⟨.pointer (some ⟨id, off + i * esz, none⟩), ?_, .gptr _ _⟩
    simp [execOp, ho, hp.ofGptr, h3, Instr.indexAt, asIntOf, run_underlying' k1, Instr.sureAddr, hlt, run_sizeOf' k2, k3, addr_add]
theorem ok_indexSlice {t e esz i id off len tag : Nat} {ti : TI} {x y : Operand} (hc : COk c P) (ho : o.op = .indexAddr t x y) (ht : c.ty.get t = some ti) (hd : ti.d = .slice e esz)
    (hx : evalO env x = .slice id off len tag) (hi : natOf (evalO env y) = some i) (hlt : i < len) : OpOk c P G env o h (.ptr id (off + i * esz)) h :=
  .same fun ρ a w hE hr hg => by
    have hp := evalO_rel hE x
    rw [hx] at hp
    obtain ⟨k, h3⟩ := (evalO_rel hE y).ofNat hi
    have hdd := (hc.ty t ti ht).d
    rw [hd] at hdd
    obtain ⟨k1, q, k2, k3⟩ := hdd
    generalize hv : a.eval x = xv at hp
    cases hp with
    | slice _ _ _ _ l ad cap g1 g2 g3 g4 g5 =>
      have hcap : cap ≠ 0 := by omega
      have hadr := g3.resolve_left hcap
      subst hadr
      refine ⟨.pointer (some ⟨l.b, l.base + (off + i * esz), none⟩), ?_, .ptr _ _ _ g1⟩
      simp [execOp, ho, hv, h3, Instr.indexAt, asIntOf, run_underlying' k1, hlt, run_sizeOf' k2, k3, addr_add, Nat.add_assoc]
theorem ok_indexVal {t n e esz i : Nat} {ti : TI} {x y : Operand} {l : List AV} (hc : COk c P) (ho : o.op = .index t x y) (ht : c.ty.get t = some ti) (hd : ti.d = .arr n e esz)
    (hx : evalO env x = .agg l) (hi : natOf (evalO env y) = some i) (hlt : i < n) (hp : partOf c e l (i * esz) = some v) : OpOk c P G env o h v h :=
  .same fun ρ a w hE hr hg => by
    have hv := evalO_rel hE x
    rw [hx] at hv
    obtain ⟨cs, h1, h2⟩ := hv.ofAgg
    obtain ⟨k, h3⟩ := (evalO_rel hE y).ofNat hi
    have hdd := (hc.ty t ti ht).d
    rw [hd] at hdd
    obtain ⟨k1, q, k2, k3⟩ := hdd
    obtain ⟨z, q1, q2⟩ := partOf_rel (w := w) hc h2 hp
    refine ⟨z, ?_, q2⟩
    have : (part e ⟨cs⟩ (i * esz)).run P w = .ok z w := q1
    simp [execOp, ho, h1, h3, Instr.index, asIntOf, run_underlying' k1, hlt, run_sizeOf' k2, k3, this]
theorem ok_indexStr {t i b : Nat} {ti : TI} {x y : Operand} {s : List Nat} (hc : COk c P) (ho : o.op = .index t x y) (ht : c.ty.get t = some ti) (hd : ti.d = .str)
    (hx : evalO env x = .str s) (hi : natOf (evalO env y) = some i) (hb : s[i]? = some b) : OpOk c P G env o h (.int .u8 (Int.ofNat b)) h :=
  .same fun ρ a w hE hr hg => by
    have hv := evalO_rel hE x
    rw [hx] at hv
    obtain ⟨sb, h1, rfl⟩ := hv.ofStr
    obtain ⟨k, h3⟩ := (evalO_rel hE y).ofNat hi
    have hdd := (hc.ty t ti ht).d
    rw [hd] at hdd
    simp only [ofBytes, List.getElem?_map, Option.map_eq_some_iff] at hb
    obtain ⟨u, q1, rfl⟩ := hb
    have hlt : i < sb.size := by
      have := (List.getElem?_eq_some_iff.1 q1).1
      simpa using this
    have hg : sb[i]? = some u := by
      have e : sb[i]? = some sb[i] := getElem?_pos sb i hlt
      rw [e]
      have : sb.data.toList[i]? = some sb[i] := by
        rw [List.getElem?_eq_getElem (by simpa using hlt)]; rfl
      rw [q1] at this; exact this.symm
    refine ⟨.int .u8 (Int.ofNat u.toNat), ?_, .int _ _⟩
    simp [execOp, ho, h1, h3, Instr.index, asIntOf, run_underlying' hdd, hg]
end
end Am

namespace Am
open Go
section
variable {c : Ctx} {P : Program} {G : Gd} {env : T AV} {o : Oper} {h h' : H} {v : AV} {run : Run}
theorem ok_nilPtr {id off : Nat} {x : Operand} (ho : o.op = .nilCheck x) (hx : evalO env x = .ptr id off) : OpOk c P G env o h (.ptr id off) h :=
  .same fun ρ a w hE hr hg => by
    have hp := evalO_rel hE x
    rw [hx] at hp
    obtain ⟨l, h1, h2⟩ := hp.ofPtr
    exact ⟨_, by simp only [execOp, ho, h2]; rfl, .ptr _ _ _ h1⟩
theorem ok_nilGptr {id off : Nat} {x : Operand} (ho : o.op = .nilCheck x) (hx : evalO env x = .gptr id off) : OpOk c P G env o h (.gptr id off) h :=
  .same fun ρ a w hE hr hg => by
    have hp := evalO_rel hE x
    rw [hx] at hp
    exact ⟨_, by simp only [execOp, ho, hp.ofGptr]; rfl, .gptr _ _⟩
theorem ok_nilFn {f : Nat} {p q : List AV} {x : Operand} (ho : o.op = .nilCheck x) (hx : evalO env x = .func (.func f) p q) : OpOk c P G env o h (.func (.func f) p q) h :=
  .same fun ρ a w hE hr hg => by
    have hp := evalO_rel hE x
    rw [hx] at hp
    generalize hv : a.eval x = xv at hp
    cases hp with
    | func _ _ _ f' c' g1 g2 => exact ⟨_, by simp only [execOp, ho, hv]; rfl, .func _ _ _ _ _ g1 g2⟩
theorem ok_nilIface {t : Nat} {u : AV} {x : Operand} (ho : o.op = .nilCheck x) (hx : evalO env x = .iface t u) : OpOk c P G env o h (.iface t u) h :=
  .same fun ρ a w hE hr hg => by
    have hp := evalO_rel hE x
    rw [hx] at hp
    generalize hv : a.eval x = xv at hp
    cases hp with
    | iface _ _ y g1 => exact ⟨_, by simp only [execOp, ho, hv]; rfl, .iface _ _ _ g1⟩
theorem notIface {t : Nat} {d : TD} (hd : TDOk P t d) (h1 : d ≠ .iface) (h2 : d ≠ .other) : ∃ q, P.underlying t = some q ∧ ∀ ms, q ≠ .interface ms := by
  cases d <;> simp only [TDOk] at hd
  case struct fs => obtain ⟨f, k, _⟩ := hd; exact ⟨_, k, by simp⟩
  case arr => exact ⟨_, hd.1, by simp⟩
  case slice => exact ⟨_, hd.1, by simp⟩
  case func => obtain ⟨p, q, r, k⟩ := hd; exact ⟨_, k, by simp⟩
  case iface => exact absurd rfl h1
  case other => exact absurd rfl h2
  all_goals exact ⟨_, hd, by simp⟩
theorem ok_makeIface {t : Nat} {x : Operand} {ti : TI} (hc : COk c P) (ho : o.op = .makeInterface t x) (ht : c.ty.get t = some ti) (h1 : ti.d ≠ .iface) (h2 : ti.d ≠ .other) : OpOk c P G env o h (.iface t (evalO env x)) h :=
  .same fun ρ a w hE hr hg => by
    obtain ⟨q, k1, k2⟩ := notIface (hc.ty t ti ht).d h1 h2
    refine ⟨.iface t (a.eval x), ?_, .iface _ _ _ (evalO_rel hE x)⟩
    have : (Instr.makeInterface t (a.eval x)).run P w = .ok (.iface t (a.eval x)) w := by
      simp only [Instr.makeInterface, Sem.run_bind, run_underlying' k1, Result.andThen_ok]
      cases q <;> first | rfl | exact absurd rfl (k2 _)
    simp [execOp, ho, this]
theorem ok_makeFunc {fn : Fn} {p q : Array Operand} (ho : o.op = .makeFunc fn p q) : OpOk c P G env o h (.func fn (evalOs env p.toList) (evalOs env q.toList)) h :=
  .same fun ρ a w hE hr hg => by
    refine ⟨.func fn ⟨p.toList.map a.eval⟩ ⟨q.toList.map a.eval⟩, ?_, .func _ _ _ _ _ (evalOs_rel hE _) (evalOs_rel hE _)⟩
    simp only [execOp, ho, Instr.makeFunc, Sem.run_bind, Sem.run_pure, Result.andThen_ok]
    rw [show p.map a.eval = ⟨p.toList.map a.eval⟩ by apply Array.ext'; simp, show q.map a.eval = ⟨q.toList.map a.eval⟩ by apply Array.ext'; simp]
theorem ok_extract {i : Nat} {x : Operand} {l : List AV} (ho : o.op = .extract x i) (hx : evalO env x = .tup l) (hi : l[i]? = some v) : OpOk c P G env o h v h :=
  .same fun ρ a w hE hr hg => by
    have hp := evalO_rel hE x
    rw [hx] at hp
    obtain ⟨cs, h1, h2⟩ := hp.ofTup
    obtain ⟨y, h3, h4⟩ := h2.get hi
    exact ⟨y, by simp [execOp, ho, h1, Instr.extract, h3], h4⟩
theorem ok_newObj {ao : AObj} {v : AV} (k : ∀ (ρ : Rho) (a : Act) (w : World), ERel ρ env a.tmps → HRel G ρ h.ph w → GOk c G w → ∃ ob x, (∀ ρ', ObjAt G ρ' ao ob ⟨w.heap.size, 0, 1⟩) ∧
      (execOp a.eval o).run P w = .ok (.value x) { w with heap := w.heap.push ob } ∧ ∀ ρ', ρ' h.next = some ⟨w.heap.size, 0, 1⟩ → VRel ρ' v x) :
    OpOk c P G env o h v (h.new ao).2 := by
  refine ⟨by simp [H.new], fun ρ a w hE hr hg hf => ?_⟩
  obtain ⟨ob, x, h1, h2, h3⟩ := k ρ a w hE hr hg
  obtain ⟨s1, s2⟩ := step_new (n := h.next) (o := ao) (ob := ob) (room := 1) hr hg.size (hf h.next (Nat.le_refl _) (by simp [H.new])) (h1 _)
  exact ⟨_, _, x, .inl h2, h3 _ (Rho.put_self _ _ _), by rw [ph_new]; exact s1, by rw [ph_new]; exact s2⟩
theorem ok_makeMap {t : Nat} {r : Option Operand} (ho : o.op = .makeMap t r) (hr : r = none) : OpOk c P G env o h (.map (h.new (.map [] 0)).1) (h.new (.map [] 0)).2 := by
  subst hr
  refine ok_newObj fun ρ a w hE hr hg => ⟨.map #[] 0, .map (some w.heap.size), fun ρ' => ⟨rfl, Nat.one_pos, #[], rfl, trivial⟩, ?_, fun ρ' h => .map _ _ h⟩
  simp [execOp, ho, Instr.makeMap]
theorem ok_makeMapR {t n kt e : Nat} {r : Operand} {ti : TI} (hc : COk c P) (ho : o.op = .makeMap t (some r)) (hn : natOf (evalO env r) = some n) (ht : c.ty.get t = some ti) (hd : ti.d = .map kt e) :
    OpOk c P G env o h (.map (h.new (.map [] 0)).1) (h.new (.map [] 0)).2 := by
  refine ok_newObj fun ρ a w hE hr hg => ⟨.map #[] 0, .map (some w.heap.size), fun ρ' => ⟨rfl, Nat.one_pos, #[], rfl, trivial⟩, ?_, fun ρ' h => .map _ _ h⟩
  obtain ⟨k, h3⟩ := (evalO_rel hE r).ofNat hn
  have hdd := (hc.ty t ti ht).d
  rw [hd] at hdd
  simp [execOp, ho, Instr.makeMap, run_underlying' hdd, h3, Go.asInt, asIntOf]
theorem ok_makeSlice {t e esz l k : Nat} {x y : Operand} {ti ei : TI} {z : List AV} (hc : COk c P) (ho : o.op = .makeSlice t x y) (ht : c.ty.get t = some ti) (hd : ti.d = .slice e esz) (he : c.ty.get e = some ei)
    (hx : natOf (evalO env x) = some l) (hy : natOf (evalO env y) = some k) (hz : ei.zero = some z) (hzl : z.length = esz) (hlk : l ≤ k) (hb : k * ei.bytes ≤ 16777216) (hk : k ≤ 16777216) :
    OpOk c P G env o h (.slice (newCells (repl l z) h).1 0 l (tagOf esz (l.beq k))) (newCells (repl l z) h).2 := by
  refine ok_newSlice fun ρ a w hE hr hg => ?_
  have hdd := (hc.ty t ti ht).d
  rw [hd] at hdd
  obtain ⟨k1, i, k2, k3⟩ := hdd
  have hei := hc.ty e ei he
  obtain ⟨i', k2', _, k4, _⟩ := hei.info
  rw [k2] at k2'; cases k2'
  obtain ⟨zv, h1, h2, h3⟩ := run_zero (w := w) hei hz
  have hzr : VRels ρ z zv.cells.toList := by rw [h2]; exact (ofValue_rel ρ zv).cells h3
  have hzs : zv.cells.size = esz := by rw [← hzl, hzr.length]; simp
  obtain ⟨kx, q1⟩ := (evalO_rel hE x).ofNat hx
  obtain ⟨ky, q2⟩ := (evalO_rel hE y).ofNat hy
  have hw : ∀ n : Nat, n ≤ 16777216 → IntKind.i64.wrap (Int.ofNat n) = Int.ofNat n := fun n hn => by rw [← wrapN_eq]; unfold wrapN; rw [Nat.ble_eq_true_of_le (show n ≤ maxOf .i64 by simp [maxOf]; omega)]
  have hsplit : (List.replicate k zv.cells.toList).flatten = (List.replicate l zv.cells.toList).flatten ++ (List.replicate (k - l) zv.cells.toList).flatten := by
    rw [← List.flatten_append, List.replicate_append_replicate, show l + (k - l) = k by omega]
  refine ⟨e, (List.replicate l zv.cells.toList).flatten, (List.replicate (k - l) zv.cells.toList).flatten, k, repl_rel l hzr, hlk, fun hh => (Nat.eq_of_beq_eq_true hh).symm, ?_, w, .inl rfl, ?_⟩
  · rw [flat_length, flat_length, ← Nat.add_mul, Array.length_toList, hzs, show l + (k - l) = k by omega]; exact Nat.le_refl _
  · rw [← hsplit]
    have hbi : ((i.bytes : Int) * Int.ofNat k ≤ 2 ^ 48) := by
      rw [k4]
      have h9 : ((k * ei.bytes : Nat) : Int) ≤ 16777216 := Int.ofNat_le.2 hb
      have e9 : (ei.bytes : Int) * Int.ofNat k = ((k * ei.bytes : Nat) : Int) := by rw [Nat.mul_comm]; exact (Int.natCast_mul _ _).symm
      rw [e9]
      exact Int.le_trans h9 (by decide)
    have c1 : (decide ((i.bytes : Int) * Int.ofNat k > 2 ^ 48)) = false := by simp only [decide_eq_false_iff_not, gt_iff_lt, Int.not_lt]; exact hbi
    have c2 : decide (Int.ofNat k < 0) = false := by simp
    have c3 : decide (Int.ofNat l < 0) = false := by simp
    have c4 : decide (Int.ofNat l > Int.ofNat k) = false := by simp; omega
    simp only [execOp, ho, q1, q2, Instr.makeSlice, Sem.run_bind, run_underlying' k1, Result.andThen_ok, Go.asInt, asIntOf, Sem.run_pure, run_typeInfo k2, hw k hk, hw l (by omega), c1, c2, c3, c4, Bool.or_self, Bool.false_eq_true, if_false,
      run_askRoom, run_sizeOf' k2, k3, Sem.run_ite]
    by_cases h0 : k * esz = 0
    · have hfl : (List.replicate k zv.cells.toList).flatten.toArray = #[] := by
        have : ((List.replicate k zv.cells.toList).flatten).length = 0 := by rw [flat_length]; simpa [hzs] using h0
        rw [List.length_eq_zero_iff.1 this]
      have e2 : ∀ f : Nat → Value, (Array.range 0).map f = #[] := fun f => by apply Array.ext'; simp
      simp only [Int.ofNat_eq_natCast, Int.toNat_natCast, h0, if_true, e2, hfl]
      simp [newRow, Result.andThen]
    · have e1 := zeros_eq zv.cells k
      rw [hzs] at e1
      simp only [Int.ofNat_eq_natCast, Int.toNat_natCast, if_neg h0, h1, Result.andThen_ok, hzs, e1]
      simp [newRow, Result.andThen]
end
end Am

namespace Am
open Go
section
variable {c : Ctx} {P : Program} {G : Gd} {env : T AV} {o : Oper} {h h' : H} {v : AV} {run : Run}
def ORel (a : Option Nat) (x : Option Value) : Prop := match a, x with
  | none, none => True
  | some n, some y => ∃ k, y = .int k (Int.ofNat n)
  | _, _ => False
theorem optNat_rel {ρ : Rho} {a : Act} (hE : ERel ρ env a.tmps) {q : Option Operand} {r : Option Nat} (hq : optNat env q = some r) : ORel r (q.map a.eval) := by
  cases q with
  | none => simp only [optNat, Option.some.injEq] at hq; subst hq; trivial
  | some x =>
    simp only [optNat] at hq
    split at hq
    · rename_i n hn
      cases hq
      exact (evalO_rel hE x).ofNat hn
    · cases hq
theorem run_sliceBound {w : World} {k : IntKind} {n y : Nat} {code : BoundsCode} (hn : n ≤ y) : (Instr.sliceBound (.int k (Int.ofNat n)) y code).run P w = .ok n w := by
  have : (0 : Int) ≤ Int.ofNat n ∧ Int.ofNat n ≤ (y : Int) := by simp; omega
  simp only [Instr.sliceBound, asIntOf, Sem.run_bind, Sem.run_pure, Result.andThen_ok, this, and_self, if_true]
  rfl
theorem run_sliceBounds {w : World} {isS : Bool} {len cap : Nat} {lo hi mx : Option Nat} {vl vh vm : Option Value} (hl : ORel lo vl) (hh : ORel hi vh) (hm : ORel mx vm)
    (h1 : mx.getD cap ≤ cap) (h2 : hi.getD len ≤ mx.getD cap) (h3 : lo.getD 0 ≤ hi.getD len) (h4 : hi = none → mx = none) :
    (Instr.sliceBounds isS len cap vl vh vm).run P w = .ok (lo.getD 0, hi.getD len, mx.getD cap) w := by
  cases mx with
  | none =>
    cases vm with
    | some _ => exact hm.elim
    | none =>
      cases hi with
      | none =>
        cases vh with
        | some _ => exact hh.elim
        | none =>
          cases lo with
          | none => cases vl with
            | some _ => exact hl.elim
            | none => simp [Instr.sliceBounds]
          | some l => cases vl with
            | none => exact hl.elim
            | some y => obtain ⟨k, rfl⟩ := hl; simp only [Option.getD_some, Option.getD_none] at h1 h2 h3; simp only [Instr.sliceBounds, Sem.run_bind, Sem.run_pure, Result.andThen_ok, run_sliceBound h3, Option.getD_some, Option.getD_none]
      | some hv =>
        cases vh with
        | none => exact hh.elim
        | some y =>
          obtain ⟨k, rfl⟩ := hh
          cases lo with
          | none => cases vl with
            | some _ => exact hl.elim
            | none => simp only [Option.getD_some, Option.getD_none] at h1 h2 h3; simp only [Instr.sliceBounds, Sem.run_bind, Sem.run_pure, Result.andThen_ok, run_sliceBound h2, Option.getD_some, Option.getD_none]
          | some l => cases vl with
            | none => exact hl.elim
            | some y => obtain ⟨k, rfl⟩ := hl; simp only [Option.getD_some, Option.getD_none] at h1 h2 h3; simp only [Instr.sliceBounds, Sem.run_bind, Sem.run_pure, Result.andThen_ok, run_sliceBound h2, run_sliceBound h3, Option.getD_some, Option.getD_none]
  | some m =>
    cases vm with
    | none => exact hm.elim
    | some ym =>
      obtain ⟨km, rfl⟩ := hm
      cases hi with
      | none => cases h4 rfl
      | some hv =>
        cases vh with
        | none => exact hh.elim
        | some y =>
          obtain ⟨k, rfl⟩ := hh
          cases lo with
          | none => cases vl with
            | some _ => exact hl.elim
            | none => simp only [Option.getD_some, Option.getD_none] at h1 h2 h3; simp only [Instr.sliceBounds, Sem.run_bind, Sem.run_pure, Result.andThen_ok, run_sliceBound h1, run_sliceBound h2, Option.getD_some, Option.getD_none]
          | some l => cases vl with
            | none => exact hl.elim
            | some y => obtain ⟨k, rfl⟩ := hl; simp only [Option.getD_some, Option.getD_none] at h1 h2 h3; simp only [Instr.sliceBounds, Sem.run_bind, Sem.run_pure, Result.andThen_ok, run_sliceBound h1, run_sliceBound h2, run_sliceBound h3, Option.getD_some, Option.getD_none]
theorem tag_half (esz : Nat) (b : Bool) : tagOf esz b / 2 = esz := by
  cases b
  · show (2 * esz + 0) / 2 = esz; omega
  · show (2 * esz + 1) / 2 = esz; omega
theorem tag_odd {esz : Nat} {b : Bool} (h : tagOf esz b % 2 = 1) : b = true := by
  cases b
  · have : (2 * esz + 0) % 2 = 1 := h
    omega
  · rfl
theorem isExact_eq {tag : Nat} : isExact tag = true ↔ tag % 2 = 1 := by unfold isExact; simp
theorem sliceSlice_rel {ρ : Rho} {w : World} {t e esz : Nat} {u : AV} {x : Value} {lo hi mx : Option Nat} {vl vh vm : Option Value} {i : TypeInfo} (hv : VRel ρ u x) (hk : P.underlying t = some (.slice e)) (hi2 : P.info? e = some i) (hs : i.size = esz)
    (hl : ORel lo vl) (hh : ORel hi vh) (hm : ORel mx vm) (he : sliceSlice esz u lo hi mx = some v) : ∃ y, (Instr.slice t x vl vh vm).run P w = .ok y w ∧ VRel ρ v y := by
  unfold sliceSlice at he
  split at he
  · split at he
    · rename_i h1 h2
      cases he
      cases hv
      have h1 := Nat.eq_of_beq_eq_true h1
      have h2 := Nat.eq_of_beq_eq_true h2
      have e1 : hi.getD 0 = 0 := h2
      refine ⟨.slice none 0 0, ?_, .nilSlice⟩
      have := run_sliceBounds (P := P) (w := w) (isS := true) (len := 0) (cap := 0) (mx := none) hl hh hm (Nat.le_refl _) (by simp [h2]) (by simp [h1, h2]) (fun _ => rfl)
      simp [Instr.slice, this, h1, h2, run_underlying' hk, run_sizeOf' hi2]
    · cases he
  · rename_i id off len tag
    cases hv with
    | slice _ _ _ _ l ad cap g1 g2 g3 g4 g5 =>
      simp only at he
      split at he
      · rename_i c1 c2 c3
        have c1 : tag / 2 = esz := Nat.eq_of_beq_eq_true c1
        have c2 := Nat.le_of_ble_eq_true c2
        have c3 := Nat.le_of_ble_eq_true c3
        rw [c1] at g5
        have key : ∀ (m : Nat) (ex : Bool), (hi.getD len) ≤ m → m ≤ cap → mx.getD cap = m → (hi = none → mx = none) → (ex = true → m = hi.getD len) →
            ∃ y, (Instr.slice t (.slice (some ad) len cap) vl vh vm).run P w = .ok y w ∧ VRel ρ (.slice id (off + lo.getD 0 * esz) (hi.getD len - lo.getD 0) (tagOf esz ex)) y := by
          intro m ex q1 q2 q3 q4 q5
          have := run_sliceBounds (P := P) (w := w) (isS := true) (len := len) (cap := cap) hl hh hm (by rw [q3]; exact q2) (by rw [q3]; exact q1) c3 q4
          rw [q3] at this
          refine ⟨.slice (if m = lo.getD 0 then some ad else (some ad).map (·.add (lo.getD 0 * esz))) (hi.getD len - lo.getD 0) (m - lo.getD 0), ?_, ?_⟩
          · simp only [Instr.slice, Sem.run_bind, run_underlying' hk, Result.andThen_ok, this, run_sizeOf' hi2, hs, Sem.run_pure]
          · have hroom : off + lo.getD 0 * esz + (m - lo.getD 0) * esz ≤ l.room := by
              have e1 : (m - lo.getD 0) * esz + lo.getD 0 * esz = m * esz := by rw [← Nat.add_mul]; congr 1; omega
              have e2 : m * esz ≤ cap * esz := Nat.mul_le_mul_right _ q2
              omega
            by_cases em : m = lo.getD 0
            · rw [if_pos em]
              exact .slice _ _ _ _ l _ _ g1 (by omega) (.inl (by omega)) (fun ht => by have := q5 (tag_odd ht); omega) (by rw [tag_half]; exact hroom)
            · rw [if_neg em]
              have hcap : cap ≠ 0 := by omega
              have had := g3.resolve_left hcap
              subst had
              refine .slice _ _ _ _ l _ _ g1 (by omega) (.inr ?_) (fun ht => by have := q5 (tag_odd ht); omega) (by rw [tag_half]; exact hroom)
              show (⟨l.b, l.base + off, none⟩ : Addr).add (lo.getD 0 * esz) = _
              rw [addr_add, Nat.add_assoc]
        split at he
        · cases he
          refine key cap _ (by omega) (Nat.le_refl _) rfl (fun _ => rfl) (fun hx => ?_)
          simp only [Bool.and_eq_true] at hx
          rw [g4 (isExact_eq.1 hx.1), Nat.eq_of_beq_eq_true hx.2]
        · rename_i m
          split at he
          · rename_i d0 d1 d2
            cases he
            exact key m _ (Nat.le_of_ble_eq_true (by assumption)) (Nat.le_trans (Nat.le_of_ble_eq_true (n := m) (m := len) (by assumption)) g2) rfl (fun hn => by cases hn) (fun hx => Nat.eq_of_beq_eq_true hx)
          · cases he
      · cases he
  · cases he
theorem sliceStr_rel {ρ : Rho} {w : World} {t : Nat} {s : ByteArray} {lo hi : Option Nat} {vl vh : Option Value} (hk : P.underlying t = some .string)
    (hl : ORel lo vl) (hh : ORel hi vh) (he : sliceStr (ofBytes s) lo hi = some v) : ∃ y, (Instr.slice t (.string s) vl vh none).run P w = .ok y w ∧ VRel ρ v y := by
  unfold sliceStr at he
  simp only at he
  rw [ofBytes_length] at he
  split at he
  · rename_i c1 c2
    cases he
    have c1 := Nat.le_of_ble_eq_true c1
    have c2 := Nat.le_of_ble_eq_true c2
    have := run_sliceBounds (P := P) (w := w) (isS := false) (len := s.size) (cap := s.size) (mx := none) hl hh (vm := none) trivial (Nat.le_refl _) c1 c2 (fun _ => rfl)
    refine ⟨.string (s.extract (lo.getD 0) (hi.getD s.size)), by simp [Instr.slice, run_underlying' hk, this], ?_⟩
    have e : takeFrom (ofBytes s) (lo.getD 0) (hi.getD s.size - lo.getD 0) = ofBytes (s.extract (lo.getD 0) (hi.getD s.size)) := by
      unfold takeFrom ofBytes
      rw [← List.map_drop, ← List.map_take]
      congr 1
      rw [ByteArray.data_extract, Array.toList_extract]
    rw [e]; exact .str _
  · cases he
end
end Am

namespace Am
open Go
section
variable {c : Ctx} {P : Program} {G : Gd} {env : T AV} {o : Oper} {h h' : H} {v : AV} {run : Run}
theorem ok_slice {t : Nat} {x : Operand} {lo hi mx : Option Operand} {a b m : Option Nat} (hc : COk c P) (ho : o.op = .slice t x lo hi mx) (h1 : optNat env lo = some a) (h2 : optNat env hi = some b) (h3 : optNat env mx = some m)
    (hs : sliceA c t (evalO env x) a b m h = some v) : OpOk c P G env o h v h :=
  .same fun ρ ac w hE hr hg => by
    have hl := optNat_rel hE h1
    have hh := optNat_rel hE h2
    have hm := optNat_rel hE h3
    have hx := evalO_rel hE x
    generalize evalO env x = ax at *
    generalize hxv : ac.eval x = xv at *
    unfold sliceA at hs
    split at hs
    · cases hs
    · rename_i ti ht
      have hd := (hc.ty t ti ht).d
      split at hs
      · rename_i htd
        rw [htd] at hd
        split at hs
        · obtain ⟨s, rfl, rfl⟩ := hx.ofStr
          have hm' : mx.map ac.eval = none := by cases hmm : mx.map ac.eval with
            | none => rfl
            | some _ => rw [hmm] at hm; exact hm.elim
          obtain ⟨y, q1, q2⟩ := sliceStr_rel (P := P) (ρ := ρ) (w := w) (t := t) hd hl hh hs
          exact ⟨y, by simp [execOp, ho, hxv, Instr.sliceAt, run_underlying' hd, hm', q1], q2⟩
        · cases hs
      · rename_i e esz htd
        rw [htd] at hd
        obtain ⟨k1, i, k2, k3⟩ := hd
        obtain ⟨y, q1, q2⟩ := sliceSlice_rel (P := P) (ρ := ρ) (w := w) hx k1 k2 k3 hl hh hm hs
        exact ⟨y, by simp [execOp, ho, hxv, Instr.sliceAt, run_underlying' k1, q1], q2⟩
      · rename_i n e esz htd
        rw [htd] at hd
        obtain ⟨k1, i, k2, k3⟩ := hd
        unfold sliceArr at hs
        split at hs
        · rename_i id off
          simp only at hs
          split at hs
          · rename_i mm tt hob c1 c2
            split at hs
            · rename_i c3
              cases hs
              have c1 := Nat.le_of_ble_eq_true c1
              have c2 := Nat.le_of_ble_eq_true c2
              have c3 := Nat.le_of_ble_eq_true c3
              obtain ⟨l, g1, rfl⟩ := hx.ofPtr
              obtain ⟨l', ob, q1, q2, q3⟩ := hr.obj id _ hob
              rw [g1] at q1; cases q1
              obtain ⟨arr, el, fr, rfl, p2, _⟩ := q3
              have := run_sliceBounds (P := P) (w := w) (isS := false) (len := n) (cap := n) (mx := none) hl hh hm (Nat.le_refl _) c1 c2 (fun _ => rfl)
              simp only [Option.getD_none] at this
              refine ⟨.slice (some (if n = a.getD 0 then ⟨l.b, l.base + off, none⟩ else (⟨l.b, l.base + off, none⟩ : Addr).add (a.getD 0 * esz))) (b.getD n - a.getD 0) (n - a.getD 0), ?_, ?_⟩
              · simp only [execOp, ho, hxv, Instr.sliceAt, Sem.run_bind, run_underlying' k1, Result.andThen_ok, Instr.sureAddr, Sem.run_pure, this, run_sizeOf' k2, k3]
              · have hroom : off + a.getD 0 * esz + (n - a.getD 0) * esz ≤ l.room := by
                  have e1 : (n - a.getD 0) * esz + a.getD 0 * esz = n * esz := by rw [← Nat.add_mul]; congr 1; omega
                  omega
                by_cases em : n = a.getD 0
                · rw [if_pos em]
                  exact .slice _ _ _ _ l _ _ g1 (by omega) (.inl (by omega)) (fun ht => by have := Nat.eq_of_beq_eq_true (tag_odd ht); omega) (by rw [tag_half]; exact hroom)
                · rw [if_neg em]
                  refine .slice _ _ _ _ l _ _ g1 (by omega) (.inr ?_) (fun ht => by have := Nat.eq_of_beq_eq_true (tag_odd ht); omega) (by rw [tag_half]; exact hroom)
                  rw [addr_add, Nat.add_assoc]
            · cases hs
          · cases hs
        · cases hs
      · cases hs
theorem ok_sliceToArr {t n e esz id off len tag : Nat} {ti : TI} {x : Operand} (hc : COk c P) (ho : o.op = .sliceToArrayPointer t x) (ht : c.ty.get t = some ti) (hd : ti.d = .arr n e esz) (hx : evalO env x = .slice id off len tag)
    (h1 : n ≤ len) (h2 : n ≠ 0) : OpOk c P G env o h (.ptr id off) h :=
  .same fun ρ a w hE hr hg => by
    have hv := evalO_rel hE x
    rw [hx] at hv
    have hdd := (hc.ty t ti ht).d
    rw [hd] at hdd
    obtain ⟨k1, i, k2, k3⟩ := hdd
    generalize hxv : a.eval x = xv at hv
    cases hv with
    | slice _ _ _ _ l ad cap g1 g2 g3 g4 g5 =>
      have had := g3.resolve_left (by omega)
      subst had
      refine ⟨.pointer (some ⟨l.b, l.base + off, none⟩), ?_, .ptr _ _ _ g1⟩
      have hnl : ¬ len < n := by omega
      simp [execOp, ho, hxv, Instr.arrayAt, run_underlying' k1, hnl]
theorem run_builtin {w : World} {b : Builtin} {q : Call} {a : Act} (ho : o.op = .call q) (hq : q.callee = .builtin b) :
    ∃ cs, (execOp a.eval o).run P w = (builtin b q.argTypes o.type cs (q.args.map a.eval)).run P w :=
  ⟨q.args.map (fun | .const _ => true | _ => false), by simp only [execOp, ho, resolve, hq, Sem.run_bind, Sem.run_pure, Result.andThen_ok, invoke]; rfl⟩
theorem args_two {ρ : Rho} {a : Act} (hE : ERel ρ env a.tmps) {q : Call} {s x : AV} (h : evalOs env q.args.toList = [s, x]) : ∃ vs vx, q.args.map a.eval = #[vs, vx] ∧ VRel ρ s vs ∧ VRel ρ x vx := by
  have := evalOs_rel hE q.args.toList
  rw [h] at this
  generalize hl : q.args.toList.map a.eval = l at this
  cases this with
  | cons _ v1 _ _ r1 t =>
    cases t with
    | cons _ v2 _ _ r2 t => cases t; exact ⟨v1, v2, by apply Array.ext'; simpa using hl, r1, r2⟩
theorem args_one {ρ : Rho} {a : Act} (hE : ERel ρ env a.tmps) {q : Call} {s : AV} (h : evalOs env q.args.toList = [s]) : ∃ vs, q.args.map a.eval = #[vs] ∧ VRel ρ s vs := by
  have := evalOs_rel hE q.args.toList
  rw [h] at this
  generalize hl : q.args.toList.map a.eval = l at this
  cases this with
  | cons _ v1 _ _ r1 t => cases t; exact ⟨v1, by apply Array.ext'; simpa using hl, r1⟩
theorem new_cellsT {l : List AV} {t : T AV} {cs extra : List Value} {e n : Nat} {ρ : Rho} {ph : PH} {w : World} (hr : HRel G ρ ph w) (hg : GOk c G w) (hn : ρ n = none) (hv : VRels ρ l cs)
    (ht : ∀ k, k < l.length → t.get k = l[k]?) :
    ∃ ρ' w', (newRow e (cs ++ extra).toArray).run P w = .ok ⟨w.heap.size, 0, none⟩ w' ∧ ρ' n = some ⟨w.heap.size, 0, cs.length + extra.length⟩ ∧
      HRel G ρ' (ph.put n (.cells l.length t)) w' ∧ Tr ρ ph n w ρ' (ph.put n (.cells l.length t)) (n + 1) w' := by
  have hlen := hv.length
  have hle := Rho.le_put (l := ⟨w.heap.size, 0, cs.length + extra.length⟩) hn
  obtain ⟨h1, h2⟩ := step_new (n := n) (o := .cells l.length t) (ob := .cells (cs ++ extra).toArray e) (room := cs.length + extra.length) hr hg.size hn (by
    obtain ⟨arr, el, fr, q1, q2, q3, q4, q5⟩ := ObjAt.newCells (G := G) (b := w.heap.size) (hv.mono hle) e _ extra (Nat.le_trans (Nat.le_of_eq hlen) (Nat.le_add_right _ _)) rfl
    cases q1
    refine ⟨_, _, _, rfl, q2, q3, q4, fun k hk => ?_⟩
    obtain ⟨v, x, f1, f2, f3⟩ := q5 k hk
    rw [T.get_ofList] at f1
    exact ⟨v, x, by rw [ht k hk]; exact f1, f2, f3⟩)
  exact ⟨_, _, by simp [newRow], Rho.put_self _ _ _, h1, h2⟩
theorem sliceCells_rel {ρ : Rho} {w : World} {esz n : Nat} {x : AV} {vx : Value} {l : List AV} (hr : HRel G ρ h.ph w) (hx : VRel ρ x vx) (hl : lenA x = some n) (hs : strFits esz x = true) (hc : sliceCells esz x h = some l) :
    (Builtin.lenOf vx).run P w = .ok n w ∧ ∃ cs, VRels ρ l cs ∧ cs.length = n * esz ∧ ∀ m, m ≤ n → (Builtin.firstCells esz m vx).run P w = .ok (cs.take (m * esz)).toArray w := by
  cases hx with
  | nilSlice =>
    simp only [lenA, Option.some.injEq] at hl
    simp only [sliceCells, Option.some.injEq] at hc
    subst hl; subst hc
    refine ⟨by simp [Builtin.lenOf], [], .nil, by simp, fun m hm => ?_⟩
    simp [Builtin.firstCells]
  | slice id off len tag lc ad cap g1 g2 g3 g4 g5 =>
    simp only [lenA, Option.some.injEq] at hl
    subst hl
    simp only [sliceCells] at hc
    split at hc
    · rename_i ht
      obtain ⟨lc', cs, q1, q2, q3, q4⟩ := loads_rel (P := P) hr hc
      rw [g1] at q1; cases q1
      obtain ⟨mm, tt, z1, z2, z3⟩ := loads_some hc
      have hlen : cs.length = len * esz := by rw [← q2.length, (getCells_get z3).1]
      refine ⟨by simp [Builtin.lenOf], cs, q2, hlen, fun m hm => ?_⟩
      simp only [Builtin.firstCells]
      by_cases h0 : cap = 0
      · have : m = 0 := by omega
        subst this
        simp [loadCells, loadCellsFrom]
      · have had := g3.resolve_left h0
        subst had
        have hb : m * esz ≤ len * esz := Nat.mul_le_mul_right _ hm
        have := run_loadCells_list (P := P) w ⟨lc.b, lc.base + off, none⟩ (cs.take (m * esz)) (fun j y hy => by
          rw [List.getElem?_take] at hy
          split at hy
          · rw [addr_add]; exact q4 j y hy
          · cases hy)
        rw [List.length_take, hlen, Nat.min_eq_left hb] at this
        exact this
    · cases hc
  | str s =>
    simp only [lenA, Option.some.injEq] at hl
    simp only [sliceCells, Option.some.injEq] at hc
    rw [ofBytes_length] at hl
    subst hl; subst hc
    have hs : esz = 1 := Nat.eq_of_beq_eq_true hs
    subst hs
    refine ⟨by simp [Builtin.lenOf], (s.data.toList.map fun b => Value.int .u8 b.toNat), ?_, by simp, fun m hm => ?_⟩
    · unfold ofBytes
      rw [List.map_map]
      have : ∀ (l : List UInt8), VRels ρ (l.map ((fun b => AV.int .u8 (Int.ofNat b)) ∘ UInt8.toNat)) (l.map fun b => Value.int .u8 b.toNat) := by
        intro l
        induction l with
        | nil => exact .nil
        | cons b l ih => exact .cons _ _ _ _ (.int _ _) ih
      exact this _
    · simp only [Builtin.firstCells, Sem.run_pure]
      congr 1
      apply Array.ext'
      simp [ByteArray.data_extract, List.extract]
  | _ => simp [sliceCells] at hc
theorem getCells_total {t : T AV} : ∀ (n off : Nat), (∀ k, k < n → ∃ v, t.get (off + k) = some v) → ∃ l, getCells t off n = some l
  | 0, off, _ => ⟨[], rfl⟩
  | n + 1, off, h => by
    obtain ⟨v, hv⟩ := h 0 (by omega)
    obtain ⟨l, hl⟩ := getCells_total n (off + 1) (fun k hk => by have := h (k + 1) (by omega); rwa [show off + 1 + k = off + (k + 1) by omega])
    exact ⟨v :: l, by simp only [getCells]; simp only [Nat.add_zero] at hv; rw [hv, hl]⟩
theorem wholeOf_some {esz m : Nat} {x : AV} {t : T AV} {l : List AV} (hw : wholeOf esz x h = some (m, t)) (hl : sliceCells esz x h = some l) : m = l.length ∧ ∀ k, k < l.length → t.get k = l[k]? := by
  unfold wholeOf at hw
  split at hw
  · rename_i id off len tag
    split at hw
    · rename_i h1 h2 h3
      split at hw
      · rename_i h4
        cases hw
        have h1 := Nat.eq_of_beq_eq_true h1
        have h4 := Nat.eq_of_beq_eq_true h4
        subst h1
        simp only [sliceCells, h2] at hl
        obtain ⟨mm, tt, q1, q2, q3⟩ := loads_some hl
        rw [← H.ph_obj, h3] at q1
        cases q1
        obtain ⟨q4, q5⟩ := getCells_get q3
        refine ⟨by omega, fun k hk => ?_⟩
        have := q5 k (by omega)
        simpa using this
      · cases hw
    · cases hw
  · cases hw
theorem nextslicecap_le (need cap : Nat) (h : cap < need) : Builtin.nextslicecap need cap ≤ 4 * need + 2000 := by
  unfold Builtin.nextslicecap
  split
  · omega
  · split
    · omega
    · have : ∀ (r c : Nat), Builtin.growBy need r c ≤ max c (need + (need + 768) / 4) := by
        intro r
        induction r with
        | zero => intro c; simp only [Builtin.growBy]; omega
        | succ r ih =>
          intro c
          simp only [Builtin.growBy]
          split
          · omega
          · have := ih (c + (c + 768) / 4)
            omega
      have := this 4 cap
      omega
theorem run_append_new {w : World} {t tx ty e : Nat} {d : TypeDesc} {ts : Array TypeId} {i : TypeInfo} {zv : Value} {base : Option Addr} {len cap n : Nat} {vx : Value} {old new : List Value}
    (hts : ts = #[t, tx]) (h1 : P.underlying t = some (.slice e)) (h2 : P.underlying tx = some d) (h2' : ∀ k, d ≠ .int k) (h3 : P.info? e = some i) (hz : ∀ w, (zeroValue e).run P w = .ok zv w)
    (hn : (Builtin.lenOf vx).run P w = .ok n w) (hnew : (Builtin.firstCells i.size n vx).run P { w with drawn := w.drawn + 1 } = .ok new.toArray { w with drawn := w.drawn + 1 }) (hold : (Builtin.firstCells i.size len (.slice base len cap)).run P { w with drawn := w.drawn + 1 } = .ok old.toArray { w with drawn := w.drawn + 1 })
    (hcap : cap < len + n) (b1 : len + n ≤ 16777216) (b2 : (len + n) * i.bytes ≤ 16777216) (b3 : i.bytes ≤ 1048576) :
    ∃ newCap, len + n ≤ newCap ∧ (Builtin.append_ ts ty #[.slice base len cap, vx]).run P w =
      ((newRow e (old ++ new ++ ((List.replicate (newCap - (len + n)) zv.cells.toList).flatten)).toArray).run P { w with drawn := w.drawn + 1 }).andThen fun ad w' => .ok (.slice (some ad) (len + n) newCap) w' := by
  subst hts
  refine ⟨(Question.appendCap (len + n) cap e).cut (w.tape w.drawn (.appendCap (len + n) cap e)), by simp [Question.cut], ?_⟩
  have c1 : ¬ (len + n ≤ cap) := by omega
  have c2 : ¬ (((len + n : Nat) : Int) > IntKind.i64.max) := by
    intro q
    have : ((len + n : Nat) : Int) ≤ 16777216 := Int.ofNat_le.2 b1
    have h9 : IntKind.i64.max = 9223372036854775807 := rfl
    omega
  have c3 : ¬ (Builtin.nextslicecap (len + n) cap * i.bytes > 2 ^ 48) := by
    have q1 := nextslicecap_le (len + n) cap hcap
    have q2 : Builtin.nextslicecap (len + n) cap * i.bytes ≤ (4 * (len + n) + 2000) * i.bytes := Nat.mul_le_mul_right _ q1
    have q3 : (4 * (len + n) + 2000) * i.bytes = 4 * ((len + n) * i.bytes) + 2000 * i.bytes := by rw [Nat.add_mul, Nat.mul_assoc]
    omega
  have hf : (Question.appendCap (len + n) cap e).forced = false := rfl
  simp only [Builtin.append_, List.getElem?_toArray, List.getElem?_cons_zero, List.getElem?_cons_succ, Sem.run_bind, run_underlying' h1, Result.andThen_ok, run_sizeOf' h3, run_underlying' h2, Sem.run_pure, Bool.false_eq_true, if_false, hn,
    Sem.run_ite, c1, run_typeInfo h3]
  rw [if_neg (fun q => c2 q.1), if_neg c3]
  have hz2 := zeros_eq zv.cells ((Question.appendCap (len + n) cap e).cut (w.tape w.drawn (.appendCap (len + n) cap e)) - (len + n))
  have hz3 : ∀ m, Builtin.zeroCells zv.cells m = (Array.range (m * zv.cells.size)).map (fun i => zv.cells[i % zv.cells.size]!) := fun _ => rfl
  simp only [run_choose, hf, Bool.false_eq_true, if_false, Result.andThen_ok, run_askRoom, hold, Bool.not_false, if_true, hnew, hz, hz3, hz2]
  rw [show old.toArray ++ new.toArray ++ ((List.replicate ((Question.appendCap (len + n) cap e).cut (w.tape w.drawn (Question.appendCap (len + n) cap e)) - (len + n)) zv.cells.toList).flatten).toArray =
    (old ++ new ++ ((List.replicate ((Question.appendCap (len + n) cap e).cut (w.tape w.drawn (Question.appendCap (len + n) cap e)) - (len + n)) zv.cells.toList).flatten)).toArray by simp]
theorem run_append_room {w : World} {t tx ty e : Nat} {d : TypeDesc} {ts : Array TypeId} {i : TypeInfo} {base : Option Addr} {len cap n : Nat} {vx : Value} {new : List Value} {w' : World}
    (hts : ts = #[t, tx]) (h1 : P.underlying t = some (.slice e)) (h2 : P.underlying tx = some d) (h2' : ∀ k, d ≠ .int k) (h3 : P.info? e = some i)
    (hn : (Builtin.lenOf vx).run P w = .ok n w) (hnew : (Builtin.firstCells i.size n vx).run P w = .ok new.toArray w)
    (hcap : len + n ≤ cap) (hst : (match base with | some a => (storeCells (a.add (len * i.size)) new).run P w | none => .ok () w) = .ok () w') :
    (Builtin.append_ ts ty #[.slice base len cap, vx]).run P w = .ok (.slice base (len + n) cap) w' := by
  subst hts
  simp only [Builtin.append_, List.getElem?_toArray, List.getElem?_cons_zero, List.getElem?_cons_succ, Sem.run_bind, run_underlying' h1, Result.andThen_ok, run_sizeOf' h3, run_underlying' h2, Sem.run_pure, Bool.false_eq_true, if_false, hn,
    Sem.run_ite, hcap, if_true, Bool.not_false, hnew]
  cases base with
  | none => simp only at hst; cases hst; rfl
  | some a => simp only at hst; simp [hst]
end
end Am
