/- A logical machine for Go code: an interpreter over a logical heap, and how its values and its heap stand for those of the model. Conditions: none; each theorem states its own. -/
import GoSem.Step
import Derived.Laws.Sem
import Derived.Deep.MidRow
import Derived.Deep.Upon
import Derived.Laws.StructEq
import Derived.Laws.Pointers
import Derived.Laws.Cover3
import Derived.Laws.Entries
import Derived.ChangeKeysEq
import Derived.WideLaws
import Derived.Laws.BytesString
import Derived.Laws.BytesArg
set_option linter.unusedSectionVars false
set_option linter.unusedSimpArgs false
set_option linter.unusedVariables false
set_option linter.deprecated false
/- The logical machine: a small-step interpreter of Go code over a logical heap, whose blocks have logical numbers and whose slices made by append have unknown capacities. Definitions alone. -/
namespace Go.Lm

/-! ### Tries -/
inductive T (α : Type) where
  | leaf
  | node (v : Option α) (l r : T α)

def T.get {α : Type} : T α → Nat → Option α
  | .leaf, _ => none
  | .node v l r, n => cond (Nat.beq n 0) v (cond (Nat.beq (n % 2) 1) (l.get (n / 2)) (r.get (n / 2 - 1)))

def T.setK {α β : Type} : Nat → T α → Nat → Option α → (T α → β) → β
  | 0, t, _, _, k => k t
  | f + 1, .leaf, n, x, k => cond (Nat.beq n 0) (k (.node x .leaf .leaf))
      (cond (Nat.beq (n % 2) 1) (T.setK f .leaf (n / 2) x fun l => k (.node none l .leaf)) (T.setK f .leaf (n / 2 - 1) x fun r => k (.node none .leaf r)))
  | f + 1, .node v l r, n, x, k => cond (Nat.beq n 0) (k (.node x l r))
      (cond (Nat.beq (n % 2) 1) (T.setK f l (n / 2) x fun l' => k (.node v l' r)) (T.setK f r (n / 2 - 1) x fun r' => k (.node v l r')))

def T.set {α : Type} (t : T α) (n : Nat) (x : Option α) : T α := T.setK (n + 1) t n x id

/-! ### The logical heap -/
def unk : Nat := 18446744073709551616

structure Row where
  elem : TypeId
  esz : Nat
  cnt : Nat
  cls : Nat
  start : Nat
  cells : T (List Value)

inductive LObj where
  | row (r : Row)
  | dead
  | map (es : List MapEntry) (clock : Nat)
  | strIter (s : ByteArray) (pos : Nat)
  | mapIter (m : Option Nat) (since : Nat) (seen : List Nat) (stepped : Nat)
  | loop (st : LoopState) (pending : Option Code) (fn : FuncId) (tmps : T Value) (nt : Nat) (params : List Tmp) (assign body : Code) (defers : Nat)
  | deferred (calls : Option (List Deferred))

structure H where
  objs : T LObj
  next : Nat
  cls : T (List Nat)

structure Env where
  ty : Nat → Option (TypeInfo × TypeDesc)
  fn : Nat → Option Func
  /-- types whose values hold no interface with methods -/
  eg : Nat → Bool
  /-- functions that are taken by a contract: what they give; they change nothing -/
  sp : Nat → Option (H → List Value → Option Value)

def Env.size (E : Env) (t : Nat) : Option Nat := match E.ty t with | some (i, _) => some i.size | none => none
def aggDesc : TypeDesc → Bool
  | .struct _ | .array _ _ => true
  | _ => false

/-! ### Reading and writing rows -/
/-- cells off .. off + len of a row -/
def readC (r : Row) : Nat → Nat → Nat → Nat → Option (List Value)
  | _, _, _, 0 => some []
  | 0, _, _, _ + 1 => none
  | f + 1, i, o, len => match r.cells.get i with
    | none => none
    | some c => cond (Nat.ble (o + len) r.esz) (some ((c.drop o).take len))
        (match readC r f (i + 1) 0 (len - (r.esz - o)) with | none => none | some rest => some (c.drop o ++ rest))

def Row.read (r : Row) (off len : Nat) : Option (List Value) :=
  cond (Nat.ble (off + len) (r.cnt * r.esz)) (readC r (len + 1) (off / r.esz) (off % r.esz) len) none

/-- put cells in place of others -/
def splice (c : List Value) (o : Nat) (vs : List Value) : List Value := c.take o ++ (vs ++ c.drop (o + vs.length))

def writeC (esz : Nat) : Nat → T (List Value) → Nat → Nat → List Value → Option (T (List Value))
  | _, t, _, _, [] => some t
  | 0, _, _, _, _ :: _ => none
  | f + 1, t, i, o, v :: vs => match t.get i with
    | none => none
    | some c => cond (Nat.ble (o + (v :: vs).length) esz) (some (t.set i (some (splice c o (v :: vs)))))
        (writeC esz f (t.set i (some (splice c o ((v :: vs).take (esz - o))))) (i + 1) 0 ((v :: vs).drop (esz - o)))

def Row.write (r : Row) (off : Nat) (vs : List Value) : Option Row :=
  cond (Nat.ble (off + vs.length) (r.cnt * r.esz))
    (match writeC r.esz (vs.length + 1) r.cells (off / r.esz) (off % r.esz) vs with | some t => some { r with cells := t } | none => none) none

def H.row (h : H) (b : Nat) : Option Row := match h.objs.get b with | some (.row r) => some r | _ => none

def H.put (h : H) (b : Nat) (o : LObj) : H := { h with objs := h.objs.set b (some o) }
/-- a new object; its number is h.next -/
def H.new (h : H) (o : LObj) : H := { h with objs := h.objs.set h.next (some o), next := h.next + 1 }

/-- The rows of a class that overlap a range of its coordinates die, but for one. -/
def H.kill (h : H) (keep lo hi : Nat) : List Nat → H
  | [] => h
  | b :: bs => cond (Nat.beq b keep) (h.kill keep lo hi bs) (match h.objs.get b with
    | some (.row r) => cond (Nat.blt r.start hi && Nat.blt lo (r.start + r.cnt * r.esz)) ((h.put b .dead).kill keep lo hi bs) (h.kill keep lo hi bs)
    | _ => h.kill keep lo hi bs)

def H.clsOf (h : H) (c : Nat) : List Nat := match h.cls.get c with | some l => l | none => [c]

/-- cells are stored into a row -/
def H.writeAt (h : H) (b off : Nat) (vs : List Value) : Option H := match h.row b with
  | none => none
  | some r => match r.write off vs with
    | none => none
    | some r' => match h.cls.get r.cls with
      | none => cond (Nat.beq r.cls b) (some (h.put b (.row r'))) none
      | some l => some ((h.kill b (r.start + off) (r.start + off + vs.length) l).put b (.row r'))

def H.readAt (h : H) (b off len : Nat) : Option (List Value) := match h.row b with
  | none => none
  | some r => r.read off len

/-- a list as chunks of esz cells -/
def chunks (esz : Nat) : Nat → Nat → List Value → T (List Value) → Option (T (List Value))
  | _, _, [], t => some t
  | 0, _, _ :: _, _ => none
  | f + 1, i, v :: vs, t => cond (Nat.ble esz (v :: vs).length) (chunks esz f (i + 1) ((v :: vs).drop esz) (t.set i (some ((v :: vs).take esz)))) none

/-- a new row of its own class -/
def mkRow (h : H) (elem esz cnt : Nat) (vs : List Value) : Option LObj :=
  match chunks esz vs.length 0 vs .leaf with
  | some t => some (.row { elem, esz, cnt, cls := h.next, start := 0, cells := t })
  | none => none

def mkVar (h : H) (elem : Nat) (vs : List Value) : LObj := match vs with
  | [] => .row { elem, esz := 1, cnt := 0, cls := h.next, start := 0, cells := .leaf }
  | vs => .row { elem, esz := vs.length, cnt := 1, cls := h.next, start := 0, cells := .node (some vs) .leaf .leaf }

def vcells : Value → List Value
  | .agg cs => cs.toList
  | v => [v]

def undefV : Value := .tuple #[]

def flatV : Value → Bool
  | .tuple _ => false
  | _ => true

/-! ### Frames -/
structure PStep where
  i : Nat
  o : Oper
  re : List Nat

inductive LItem where
  | code (c : Code)
  | inBlock (id : Nat)
  | inLoop (body : Code)
  | inScope (body : Code)
  | ops (ops : Array Oper) (draw : Bool) (rest : List PStep)
  | inRangeFunc (loop : Nat)
  | endRangeFunc (loop : Nat)
  | beginRound

structure LF where
  fn : FuncId
  tmps : T Value
  nt : Nat
  todo : List LItem
  defers : List Deferred
  mode : FrameMode
  kind : CallKind
  roundOf : Option Nat

structure LS where
  f : LF
  cs : List LF
  h : H

abbrev Rho := Operand → Option Value

/-- no address in it (one level of parts) -/
def plainV : Value → Bool
  | .bool _ | .int _ _ | .string _ | .float _ _ | .pointer none | .slice none _ _ | .map none | .nilFunc | .nilIface => true
  | .func (.func _) a b => a.isEmpty && b.isEmpty
  | _ => false

def constV : Value → Bool
  | .agg cs => cs.toList.all plainV
  | .tuple cs => cs.toList.all plainV
  | .iface _ v => plainV v
  | v => plainV v

def rho (t : T Value) : Rho
  | .tmp n => some (match t.get n with | some v => v | none => undefV)
  | .const v => cond (constV v) (some v) none
  | .global _ => none
  | .func f => some (.func (.func f) #[] #[])

/-! ### Plans of regions that draw their order -/
inductive Kind where
  | pure | read | alloc | eff
  deriving DecidableEq

def kindOf (E : Env) : Op → Kind
  | .move _ | .pick .. | .build .. | .nilCheck _ | .binOp .. | .unOp .. | .makeInterface .. | .makeFunc .. | .fieldAddr .. | .field .. | .indexAddr .. | .index .. | .typeAssert .. | .extract .. | .sliceToArrayPointer .. => .pure
  | .load .. | .lookup .. | .slice .. => .read
  | .convert src dst _ => match E.ty src, E.ty dst with
    | some (_, .int _), _ => .pure
    | some (_, .string), some (_, .string) => .pure
    | some (_, .string), _ => .alloc
    | some (_, .slice _), some (_, .string) => .read
    | _, _ => .eff
  | .alloc _ | .box .. | .buildSlice .. | .makeMap .. | .makeSlice .. => .alloc
  | .call { callee := .builtin b, .. } => match b with
    | .len => .read
    | .cap | .min | .max => .pure
    | _ => .eff
  | _ => .eff

def bit (n : Nat) : Nat := 2 ^ n
def maskOf : List Nat → Nat
  | [] => 0
  | n :: l => bit n ||| maskOf l
def Operand.tmps (l : List Operand) : List Nat := l.filterMap fun | .tmp t => some t | _ => none
def isIn (m n : Nat) : Bool := m &&& n == m

structure PInfo where
  i : Nat
  o : Oper
  pre : Nat
  anc : Nat
  /-- what it looks at -/
  uses : Nat
  /-- and what it writes -/
  names : Nat
  dst : Nat
  /-- what its ancestors write -/
  ancW : Nat
  eff : Bool

def preOf (o : Oper) : List Nat := o.after.toList.filterMap fun e => if Region.binds .any e then some e.on else none

def infos (E : Env) (ops : List Oper) : Nat → List Oper → (acc : List PInfo) → List PInfo
  | _, [], acc => acc.reverse
  | i, o :: rest, acc =>
    let ps := preOf o
    let anc := acc.foldl (fun m p => cond (ps.contains p.i) (m ||| bit p.i ||| p.anc) m) 0
    let ancW := acc.foldl (fun m p => cond (Nat.testBit anc p.i) (m ||| p.dst) m) 0
    let g := match o.guard with | some (j, _) => (match (ops[j]?).bind (·.dst) with | some d => bit d | none => 0) | none => 0
    let dst := match o.dst with | some d => bit d | none => 0
    let uses := maskOf (Operand.tmps o.op.operands.toList) ||| g
    infos E ops (i + 1) rest ({ i, o, pre := maskOf ps, anc, uses, names := uses ||| dst, dst, ancW, eff := kindOf E o.op == .eff } :: acc)

/-- the first that is ready: one that acts only if it is the only one -/
def ready (done : Nat) (l : List PInfo) : List PInfo := l.filter fun p => !Nat.testBit done p.i && isIn p.pre done

def planGo (E : Env) : Nat → (all : List PInfo) → (done names writes : Nat) → (prior : List PInfo) → Option (List PStep)
  | 0, _, _, _, _, _ => none
  | f + 1, all, done, names, writes, prior =>
    match ready done all with
    | [] => cond (prior.length == all.length) (some []) none
    | r :: rs => match (r :: rs).find? (fun p => !p.eff) with
      | some p =>
        cond (p.dst != 0 && p.uses &&& p.dst == 0 && isIn (p.names &&& writes) p.ancW && p.dst &&& names == 0)
          (match planGo E f all (done ||| bit p.i) (names ||| p.names) (writes ||| p.dst) (p :: prior) with | some l => some ({ i := p.i, o := p.o, re := [] } :: l) | none => none) none
      | none =>
        cond (rs.isEmpty && isIn (r.names &&& writes) r.ancW && r.dst &&& writes == 0 && prior.all (fun q => Nat.testBit r.anc q.i || q.names &&& r.dst == 0))
          (match planGo E f all (done ||| bit r.i) (names ||| r.names) (writes ||| r.dst) (r :: prior) with
            | some l => some ({ i := r.i, o := r.o, re := (prior.filter fun q => !Nat.testBit r.anc q.i && (kindOf E q.o.op == .read || kindOf E q.o.op == .alloc)).map (·.i) } :: l) | none => none) none

def plan (E : Env) (ops : Array Oper) : Option (List PStep) :=
  let l := infos E ops.toList 0 ops.toList []
  planGo E (l.length + 1) l 0 0 0 []

def straight (ops : Array Oper) : List PStep := ops.toList.zipIdx.map fun (o, i) => { i, o, re := [] }

/-! ### Operations -/
def fieldOf (E : Env) (t f : Nat) : Option Field := match E.ty t with
  | some (_, .struct fs) => fs[f]?
  | _ => none

def partOf (E : Env) (t : Nat) (cs : List Value) (off : Nat) : Option Value := match E.ty t with
  | some (i, d) => cond (aggDesc d) (some (.agg ⟨(cs.drop off).take i.size⟩)) (cs[off]?)
  | none => none

/-- parts put in their places -/
def fillL : List Value → List (Nat × Nat × Value) → Option (List Value)
  | cs, [] => some cs
  | cs, (off, size, v) :: rest =>
    let vs := vcells v
    cond (flatV v && Nat.beq vs.length size && Nat.ble (off + vs.length) cs.length) (fillL (splice cs off vs) rest) none

def replic : Nat → List Value → List Value → List Value
  | 0, _, acc => acc
  | n + 1, z, acc => replic n z (z ++ acc)

def sameV : Value → Value → Option Bool
  | .bool a, .bool b => some (a == b)
  | .int _ a, .int _ b => some (a == b)
  | .string a, .string b => some (a.data.toList == b.data.toList)
  | _, _ => none

def eqFields (E : Env) (eq : Nat → Value → Value → Option Bool) (xs ys : List Value) : List Field → Option Bool
  | [] => some true
  | f :: fs => cond (f.name == "_") none (match partOf E f.type xs f.offset, partOf E f.type ys f.offset with
    | some a, some b => match eq f.type a b with
      | some true => eqFields E eq xs ys fs
      | some false => some false
      | none => none
    | _, _ => none)

def eqElems (E : Env) (eq : Nat → Value → Value → Option Bool) (e s : Nat) : Nat → List Value → List Value → Option Bool
  | 0, _, _ => some true
  | n + 1, xs, ys => match partOf E e xs 0, partOf E e ys 0 with
    | some a, some b => match eq e a b with
      | some true => eqElems E eq e s n (xs.drop s) (ys.drop s)
      | some false => some false
      | none => none
    | _, _ => none

/-- == of two values of a type; addresses only against nil, or in one object -/
def eqV (E : Env) : Nat → Nat → Value → Value → Option Bool
  | 0, _, _, _ => none
  | d + 1, t, x, y => match E.ty t with
    | none => none
    | some (_, ut) => match ut, x, y with
      | .bool, .bool a, .bool b => some (a == b)
      | .int _, .int k a, .int k' b => cond (k == k') (some (a == b)) none
      | .string, .string a, .string b => some (a.data.toList == b.data.toList)
      | .pointer _, .pointer none, .pointer b => some b.isNone
      | .pointer _, .pointer (some _), .pointer none => some false
      | .pointer e, .pointer (some ⟨b, o, none⟩), .pointer (some ⟨b', o', none⟩) => cond (Nat.beq b b' && Nat.beq o o' && (E.size e).isSome) (some true) none
      | .slice _, .slice none _ _, .slice b _ _ => some b.isNone
      | .slice _, .slice (some _) _ _, .slice none _ _ => some false
      | .map _ _, .map none, .map b => some b.isNone
      | .map _ _, .map (some _), .map none => some false
      | .func _ _ _, .nilFunc, .nilFunc => some true
      | .func _ _ _, .nilFunc, .func _ _ _ | .func _ _ _, .func _ _ _, .nilFunc => some false
      | .interface _, .nilIface, .nilIface => some true
      | .interface _, .nilIface, .iface _ _ | .interface _, .iface _ _, .nilIface => some false
      | .struct fs, .agg xs, .agg ys => eqFields E (eqV E d) xs.toList ys.toList fs.toList
      | .array n e, .agg xs, .agg ys => match E.size e with
        | some s => eqElems E (eqV E d) e s n xs.toList ys.toList
        | none => none
      | _, _, _ => none

def forceInt (k : IntKind) (n : Int) (f : Value → Option Value) : Option Value :=
  match n with
  | .ofNat m => cond (Nat.beq m 0) (f (.int k (.ofNat 0))) (f (.int k (.ofNat m)))
  | .negSucc m => cond (Nat.beq m 0) (f (.int k (.negSucc 0))) (f (.int k (.negSucc m)))

def natBits (op : BinOp) (a b : Nat) : Option Nat := match op with
  | .and => some (a &&& b)
  | .or => some (a ||| b)
  | .xor => some (a ^^^ b)
  | _ => none

def scalarV : Value → Bool
  | .int _ _ | .float _ _ | .complex _ _ _ | .string _ => true
  | _ => false

def bin (E : Env) (op : BinOp) (t : Nat) (x y : Value) : Option Value :=
  match op, x, y with
  | .shl, .int k a, .int _ b => cond (decide (b < 0)) none (forceInt k (k.wrap (a * 2 ^ (min b.toNat k.bits))) some)
  | .shr, .int k a, .int _ b => cond (decide (b < 0)) none (forceInt k (a.fdiv (2 ^ (min b.toNat k.bits))) some)
  | op, .int k a, .int k' b => cond (k == k') (match op with
    | .add => forceInt k (k.wrap (a + b)) some
    | .sub => forceInt k (k.wrap (a - b)) some
    | .mul => forceInt k (k.wrap (a * b)) some
    | .quo => cond (decide (b = 0)) none (forceInt k (k.wrap (a.tdiv b)) some)
    | .rem => cond (decide (b = 0)) none (forceInt k (a.tmod b) some)
    | .eql => some (.bool (decide (a = b)))
    | .neq => some (.bool (!decide (a = b)))
    | .lss => some (.bool (decide (a < b)))
    | .leq => some (.bool (decide (a ≤ b)))
    | .gtr => some (.bool (decide (b < a)))
    | .geq => some (.bool (decide (b ≤ a)))
    | op => match a, b with
      | .ofNat a, .ofNat b => match natBits op a b with
        | some c => forceInt k (k.wrap (Int.ofNat c)) some
        | none => match op with
          | .andNot => forceInt k (k.wrap (Int.ofNat (a ^^^ (a &&& b)))) some
          | _ => none
      | _, _ => none) none
  | .add, .string a, .string b => cond (decide (((a.size + b.size : Nat) : Int) > IntKind.i64.max)) none (some (.string ⟨⟨a.data.toList ++ b.data.toList⟩⟩))
  | .eql, .string a, .string b => some (.bool (a.data.toList == b.data.toList))
  | .neq, .string a, .string b => some (.bool (!(a.data.toList == b.data.toList)))
  | .lss, .string a, .string b => some (.bool (Op.bytesLess a.data.toList b.data.toList))
  | .leq, .string a, .string b => some (.bool (Op.bytesLess a.data.toList b.data.toList || a.data.toList == b.data.toList))
  | .gtr, .string a, .string b => some (.bool (!(Op.bytesLess a.data.toList b.data.toList || a.data.toList == b.data.toList)))
  | .geq, .string a, .string b => some (.bool (!Op.bytesLess a.data.toList b.data.toList))
  | .eql, x, y => cond (scalarV x) none ((eqV E 30 t x y).map .bool)
  | .neq, x, y => cond (scalarV x) none ((eqV E 30 t x y).map fun b => .bool !b)
  | _, _, _ => none

def isConstO : Operand → Bool
  | .const _ => true
  | _ => false

/-- == asks nothing more of these -/
def guardOk (E : Env) (op : BinOp) (t : Nat) (x y : Operand) (a b : Value) : Bool := match op, a, b with
  | .eql, .nilIface, .nilIface | .neq, .nilIface, .nilIface => isConstO x || isConstO y
  | .eql, .agg _, .agg _ | .neq, .agg _, .agg _ => E.eg t
  | _, _, _ => true

def un (op : UnOp) (x : Value) : Option Value := match op, x with
  | .neg, .int k n => forceInt k (k.wrap (0 - n)) some
  | .not, .bool b => some (.bool !b)
  | .xor, .int k (.ofNat n) => cond k.signed none (forceInt k (k.wrap (Int.ofNat ((2 ^ k.bits - 1) ^^^ n))) some)
  | _, _ => none

def natOf : Value → Option Nat
  | .int _ (.ofNat n) => some n
  | _ => none

def bound (ρ : Rho) (o : Option Operand) (d : Nat) : Option Nat := match o with
  | none => some d
  | some x => (ρ x).bind natOf

def fieldPart (E : Env) (ρ : Rho) (fs : Array Field) (x : Nat × Operand) : Option (Nat × Nat × Value) := match fs[x.1]?, ρ x.2 with
  | some f, some v => (E.size f.type).map fun s => (f.offset, s, v)
  | _, _ => none

def elemPart (ρ : Rho) (s : Nat) (x : Nat × Operand) : Option (Nat × Nat × Value) := (ρ x.2).map fun v => (x.1 * s, s, v)

/-- a pure operation -/
def exPure (E : Env) (ρ : Rho) : Op → Option Value
  | .move x => ρ x
  | .pick c a b => match ρ c with | some (.bool t) => cond t (ρ a) (ρ b) | _ => none
  | .build t ps => match E.ty t with
    | some (i, .struct fs) => match i.zero with
      | some z => match ps.toList.mapM (fieldPart E ρ fs) with
        | some l => (fillL (vcells z) l).map fun cs => .agg ⟨cs⟩
        | none => none
      | none => none
    | some (i, .array _ e) => match i.zero, E.size e with
      | some z, some s => match ps.toList.mapM (elemPart ρ s) with
        | some l => (fillL (vcells z) l).map fun cs => .agg ⟨cs⟩
        | none => none
      | _, _ => none
    | _ => none
  | .nilCheck x => match ρ x with
    | some (.pointer (some a)) => some (.pointer (some a))
    | some (.func (.func f) a b) => some (.func (.func f) a b)
    | _ => none
  | .binOp op t x y _ => match ρ x, ρ y with
    | some a, some b => cond (guardOk E op t x y a b) (bin E op t a b) none
    | _, _ => none
  | .unOp op _ x => match ρ x with | some a => un op a | none => none
  | .makeInterface t x => match E.ty t, ρ x with
    | some (_, .interface _), _ => none
    | some _, some v => some (.iface t v)
    | _, _ => none
  | .makeFunc (.func f) first captured => match first.toList.mapM ρ, captured.toList.mapM ρ with
    | some a, some b => some (.func (.func f) ⟨a⟩ ⟨b⟩)
    | _, _ => none
  | .fieldAddr t x f => match fieldOf E t f, ρ x with
    | some fd, some (.pointer (some ⟨b, o, none⟩)) => match E.size fd.type with
      | some 0 => none
      | some _ => some (.pointer (some ⟨b, o + fd.offset, none⟩))
      | none => none
    | _, _ => none
  | .field t x f => match fieldOf E t f, ρ x with
    | some fd, some (.agg cs) => partOf E fd.type cs.toList fd.offset
    | _, _ => none
  | .indexAddr t x ix => match E.ty t, ρ x, (ρ ix).bind natOf with
    | some (_, .array n e), some (.pointer (some ⟨b, o, none⟩)), some i => match E.size e with
      | some s => cond (Nat.blt i n) (some (.pointer (some ⟨b, o + i * s, none⟩))) none
      | none => none
    | some (_, .slice e), some (.slice (some ⟨b, o, none⟩) n _), some i => match E.size e with
      | some s => cond (Nat.blt i n) (some (.pointer (some ⟨b, o + i * s, none⟩))) none
      | none => none
    | _, _, _ => none
  | .index t x ix => match E.ty t, ρ x, (ρ ix).bind natOf with
    | some (_, .array n e), some (.agg cs), some i => match E.size e with
      | some s => cond (Nat.blt i n) (partOf E e cs.toList (i * s)) none
      | none => none
    | some (_, .string), some (.string s), some i => match s.data.toList[i]? with
      | some b => some (.int .u8 b.toNat)
      | none => none
    | _, _, _ => none
  | .typeAssert x _ t ok => match E.ty t, ρ x with
    | some (_, .interface _), _ => none
    | some (i, _), some (.iface u v) => cond (Nat.beq u t) (some (cond ok (.tuple #[v, .bool true]) v))
        (cond ok (i.zero.map fun z => .tuple #[z, .bool false]) none)
    | some (i, _), some .nilIface => cond ok (i.zero.map fun z => .tuple #[z, .bool false]) none
    | _, _ => none
  | .extract x i => match ρ x with | some (.tuple vs) => vs.toList[i]? | _ => none
  | .sliceToArrayPointer arr x => match E.ty arr, ρ x with
    | some (_, .array n _), some (.slice (some ⟨b, o, none⟩) m _) => cond (Nat.ble n m) (some (.pointer (some ⟨b, o, none⟩))) none
    | _, _ => none
  | .convert _ dst x => match E.ty dst, ρ x with
    | some (_, .int k), some (.int _ n) => forceInt k (k.wrap n) some
    | some (_, .string), some (.int _ n) => some (.string (Utf8.encode n))
    | some (_, .string), some (.string s) => some (.string s)
    | _, _ => none
  | .call { callee := .builtin .cap, args, argTypes } => match argTypes[0]?.bind E.ty, args[0]?.bind ρ with
    | some (_, .slice _), some (.slice _ _ c) => cond (Nat.blt c unk) (some (.int .i64 c)) none
    | _, _ => none
  | .call { callee := .builtin .min, args, .. } => match args.toList.mapM ρ with
    | some (x :: xs) => xs.foldlM (fun x y => match x, y with | .int k a, .int _ b => some (.int k (cond (decide (b < a)) b a)) | _, _ => none) x
    | _ => none
  | .call { callee := .builtin .max, args, .. } => match args.toList.mapM ρ with
    | some (x :: xs) => xs.foldlM (fun x y => match x, y with | .int k a, .int _ b => some (.int k (cond (decide (b > a)) b a)) | _, _ => none) x
    | _ => none
  | _ => none

def loadT (E : Env) (h : H) (t : Nat) (b off : Nat) : Option Value := match E.ty t with
  | some (i, d) => cond (aggDesc d) ((h.readAt b off i.size).map fun l => .agg ⟨l⟩) (match h.readAt b off 1 with | some [v] => some v | _ => none)
  | none => none

def sameNowL : TypeDesc → Value → Value → Option Bool
  | .int _, .int k a, .int k' b => cond (k == k') (some (a == b)) none
  | .string, .string a, .string b => some (a.data.toList == b.data.toList)
  | .bool, .bool a, .bool b => some (a == b)
  | _, _, _ => none

def findN (d : TypeDesc) (k : Value) : List MapEntry → Nat → Option (Option (Nat × MapEntry))
  | [], _ => some none
  | e :: es, i => match sameNowL d k e.key with
    | some true => some (some (i, e))
    | some false => findN d k es (i + 1)
    | none => none

def findA (E : Env) (kt : Nat) (k : Value) : List MapEntry → Nat → Option (Option (Nat × MapEntry))
  | [], _ => some none
  | e :: es, i => match eqV E 30 kt k e.key with
    | some true => some (some (i, e))
    | some false => findA E kt k es (i + 1)
    | none => none

/-- which entry of a map has a key -/
def findE (E : Env) (kt : Nat) (k : Value) (es : List MapEntry) : Option (Option (Nat × MapEntry)) := match E.ty kt with
  | some (_, d) => (match findN d k es 0 with
    | some r => some r
    | none => findA E kt k es 0)
  | none => none

/-- a key that may be one -/
def keyOk (E : Env) : Nat → Nat → Value → Bool
  | 0, _, _ => false
  | n + 1, t, v => match E.ty t with
    | none => false
    | some (_, d) => match d, v with
      | .interface _, .iface u x => (match E.ty u with | some (i, _) => i.comparable && keyOk E n u x | none => false)
      | .interface _, .nilIface => true
      | .array len e, .agg cs => (match E.ty e with | some (i, .int _) => Nat.beq i.size 1 && Nat.ble len cs.toList.length | _ => false)
      | .struct fs, .agg cs => fs.toList.all fun f => f.name == "_" || (match partOf E f.type cs.toList f.offset with | some x => keyOk E n f.type x | none => false)
      | .interface _, _ | .array _ _, _ | .struct _, _ => false
      | _, _ => true

def sameBitsL : Nat → Value → Value → Bool
  | 0, _, _ => false
  | n + 1, x, y => match x, y with
    | .bool a, .bool b => a == b
    | .int j a, .int k b => j == k && a == b
    | .string a, .string b => a.data.toList == b.data.toList
    | .pointer none, .pointer none => true
    | .pointer (some a), .pointer (some b) => Nat.beq a.block b.block && Nat.beq a.off b.off
    | .nilIface, .nilIface => true
    | .iface t v, .iface u w => Nat.beq t u && sameBitsL n v w
    | .agg a, .agg b => sames (sameBitsL n) a.toList b.toList
    | _, _ => false
where
  sames (f : Value → Value → Bool) : List Value → List Value → Bool
    | [], [] => true
    | a :: l, b :: m => f a b && sames f l m
    | _, _ => false

/-! ### Appending -/
/-- the cells of what is appended, as many things as n -/
def srcCells (h : H) (size : Nat) : Value → Option (Nat × List Value)
  | .slice none n _ => cond (Nat.beq n 0) (some (0, [])) none
  | .slice (some ⟨_, _, some _⟩) n _ => cond (Nat.beq n 0) (some (0, [])) none
  | .slice (some ⟨b, o, none⟩) n _ => (h.readAt b o (n * size)).map fun l => (n, l)
  | .string s => some (s.data.toList.length, s.data.toList.map fun b => .int .u8 b.toNat)
  | _ => none

def bytesOf : List Value → Option (List UInt8)
  | [] => some []
  | .int .u8 n :: l => (bytesOf l).map fun r => UInt8.ofNat n.toNat :: r
  | _ => none

/-- is a slice's capacity that great? -/
def capFits (hp : H) (a : Option Addr) (c s m : Nat) : Bool := cond (Nat.beq c unk) (match a with
    | some ⟨b, o, none⟩ => (match hp.row b with | some r => Nat.ble (o + m * s) (r.cnt * r.esz) && Nat.beq r.esz s | none => false)
    | _ => false) (Nat.ble m c)

/-- an operation that reads the heap -/
def exRead (E : Env) (hp : H) (ρ : Rho) : Op → Option Value
  | .load t a => match ρ a with | some (.pointer (some ⟨b, o, none⟩)) => loadT E hp t b o | _ => none
  | .slice t x lo hi mx => match E.ty t, ρ x with
    | some (_, .string), some (.string s) => cond mx.isSome none (match bound ρ lo 0, bound ρ hi s.data.toList.length with
      | some l, some h => cond (Nat.ble l h && Nat.ble h s.data.toList.length) (some (.string ⟨⟨(s.data.toList.drop l).take (h - l)⟩⟩)) none
      | _, _ => none)
    | some (_, .slice e), some (.slice a n c) => match bound ρ lo 0, bound ρ hi n, E.size e with
      | some l, some h, some s => match mx with
        | none => cond (Nat.beq c unk)
            (match a with
              | some ⟨b, o, none⟩ => (match hp.row b with
                | some r => cond (Nat.ble l h && Nat.ble (o + h * s) (r.cnt * r.esz) && Nat.beq r.esz s)
                    (some (.slice (some ⟨b, o + l * s, cond (Nat.beq l 0 || Nat.blt (o + l * s) (r.cnt * r.esz)) none (some o)⟩) (h - l) unk)) none
                | none => none)
              | some ⟨b, o, some o'⟩ => cond (Nat.beq l 0 && Nat.beq h 0) (some (.slice (some ⟨b, o, some o'⟩) 0 unk)) none
              | _ => none)
            (cond (Nat.ble l h && Nat.ble h c && Nat.blt c unk)
              (match a with
                | some ⟨b, o, none⟩ => some (.slice (some ⟨b, cond (Nat.beq c l) o (o + l * s), none⟩) (h - l) (c - l))
                | none => some (.slice none (h - l) (c - l))
                | _ => none) none)
        | some m => match hi, (ρ m).bind natOf with
          | some _, some m => cond (Nat.ble l h && Nat.ble h m && Nat.blt m unk && capFits hp a c s m)
              (match a with
                | some ⟨b, o, none⟩ => some (.slice (some ⟨b, cond (Nat.beq m l) o (o + l * s), none⟩) (h - l) (m - l))
                | none => some (.slice none (h - l) (m - l))
                | _ => none) none
          | _, _ => none
      | _, _, _ => none
    | some (_, .array n e), some (.pointer (some ⟨b, o, none⟩)) => match bound ρ lo 0, bound ρ hi n, E.size e with
      | some l, some h, some s => cond (mx.isNone && Nat.ble l h && Nat.ble h n && Nat.blt n unk)
          (some (.slice (some ⟨b, cond (Nat.beq n l) o (o + l * s), none⟩) (h - l) (n - l))) none
      | _, _, _ => none
    | _, _ => none
  | .lookup t m k ok => match E.ty t, ρ m, ρ k with
    | some (_, .map kt e), some (.map r), some k =>
      match (match r with | none => some [] | some r => match hp.objs.get r with | some (.map es _) => some es | _ => none) with
      | some es => cond (keyOk E 30 kt k) (match findE E kt k es with
        | some (some (_, x)) => some (cond ok (.tuple #[x.val, .bool true]) x.val)
        | some none => match E.ty e with
          | some (i, _) => i.zero.map fun z => cond ok (.tuple #[z, .bool false]) z
          | none => none
        | none => none) none
      | none => none
    | _, _, _ => none
  | .call { callee := .builtin .len, args, argTypes } => match argTypes[0]?.bind E.ty, args[0]?.bind ρ with
    | some (_, .string), some (.string s) => some (.int .i64 s.data.toList.length)
    | some (_, .array n _), some _ => some (.int .i64 n)
    | some (_, .slice _), some (.slice _ n _) => some (.int .i64 n)
    | some (_, .map _ _), some (.map none) => some (.int .i64 0)
    | some (_, .map _ _), some (.map (some r)) => match hp.objs.get r with | some (.map es _) => some (.int .i64 es.length) | _ => none
    | some (_, .pointer e), some _ => match E.ty e with | some (_, .array n _) => some (.int .i64 n) | _ => none
    | _, _ => none
  | .convert src dst x => match E.ty src, E.ty dst, ρ x with
    | some (_, .slice e), some (_, .string), some (.slice a n c) => match E.ty e with
      | some (_, .int .u8) => match srcCells hp 1 (.slice a n c) with
        | some (_, l) => (bytesOf l).map fun bs => .string ⟨⟨bs⟩⟩
        | none => none
      | _ => none
    | _, _, _ => none
  | _ => none

/-- an operation that makes an object: it, and the value under its number -/
def exAlloc (E : Env) (h : H) (ρ : Rho) : Op → Option (LObj × (Nat → Value))
  | .alloc t => match E.ty t with
    | some (i, _) => match i.zero with
      | some z => some (mkVar h t (vcells z), fun b => .pointer (some ⟨b, 0, none⟩))
      | none => none
    | none => none
  | .box t x => match ρ x with
    | some v => cond (flatV v) (some (mkVar h t (vcells v), fun b => .pointer (some ⟨b, 0, none⟩))) none
    | none => none
  | .buildSlice t n ps => match E.ty t with
    | some (_, .slice e) => match E.ty e with
      | some (i, _) => match i.zero, ps.toList.mapM (elemPart ρ i.size) with
        | some z, some l => match fillL (replic n (vcells z) []) l with
          | some cs => cond (Nat.blt 0 i.size && Nat.ble (n * i.size) 1000000) ((mkRow h e i.size n cs).map fun o => (o, fun b => .slice (some ⟨b, 0, none⟩) n n)) none
          | none => none
        | _, _ => none
      | none => none
    | _ => none
  | .convert _ dst x => match E.ty dst, ρ x with
    | some (_, .slice e), some (.string s) => match E.ty e with
      | some (_, .int .u8) => (mkRow h e 1 s.data.toList.length (s.data.toList.map fun b => .int .u8 b.toNat)).map fun ob => (ob, fun b => .slice (some ⟨b, 0, none⟩) s.data.toList.length unk)
      | _ => none
    | _, _ => none
  | .makeMap t r => match r with
    | none => some (.map [] 0, fun b => .map (some b))
    | some x => match E.ty t, ρ x with | some (_, .map _ _), some (.int _ _) => some (.map [] 0, fun b => .map (some b)) | _, _ => none
  | .makeSlice t n c => match E.ty t, (ρ n).bind natOf, (ρ c).bind natOf with
    | some (_, .slice e), some n, some c => match E.ty e with
      | some (i, _) => cond (Nat.ble n c && Nat.ble c 1000000 && Nat.blt 0 i.size && Nat.ble i.bytes 1000000) (match i.zero with
        | some z => (mkRow h e i.size c (replic c (vcells z) [])).map fun o => (o, fun b => .slice (some ⟨b, 0, none⟩) n c)
        | none => none) none
      | none => none
    | _, _, _ => none
  | _ => none

/-- a row behind another one's end: of the same class; or a new one -/
def appendL (h : H) (elem size bytes : Nat) (base : Option Addr) (n c k : Nat) (new : List Value) : Option (H × Value) :=
  cond (Nat.blt 0 size && Nat.ble (n + k) 1000000000 && Nat.ble ((n + k) * bytes) 140737488355328 && Nat.beq new.length (k * size))
  (match base with
  | none => cond (Nat.beq n 0 && Nat.beq c 0)
      (cond (Nat.beq k 0) (some (h, .slice none 0 0))
        ((mkRow h elem size k new).map fun o => (h.new o, .slice (some ⟨h.next, 0, none⟩) k unk))) none
  | some ⟨b, off, none⟩ => match h.row b with
    | none => none
    | some r =>
      cond (Nat.blt c unk)
        (cond (Nat.ble (n + k) c)
          ((h.writeAt b (off + n * size) new).map fun h' => (h', .slice (some ⟨b, off, none⟩) (n + k) c))
          (match r.read off (n * size) with
            | some old => (mkRow h elem size (n + k) (old ++ new)).map fun o => (h.new o, .slice (some ⟨h.next, 0, none⟩) (n + k) unk)
            | none => none))
        (cond (Nat.beq c unk && Nat.beq r.esz size)
          (cond (Nat.ble (off + (n + k) * size) (r.cnt * r.esz))
            ((h.writeAt b (off + n * size) new).map fun h' => (h', .slice (some ⟨b, off, none⟩) (n + k) unk))
            (cond (Nat.beq (off + n * size) (r.cnt * r.esz))
              (match r.read off (n * size) with
                | some old => match chunks size (n + k) 0 (old ++ new) .leaf with
                  | some t =>
                    let h1 := h.kill b (r.start + (off + n * size)) (r.start + (off + (n + k) * size)) (h.clsOf r.cls)
                    let h2 := h1.new (.row { elem, esz := size, cnt := n + k, cls := r.cls, start := r.start + off, cells := t })
                    some ({ h2 with cls := h2.cls.set r.cls (some (h.next :: h.clsOf r.cls)) }, .slice (some ⟨h.next, 0, none⟩) (n + k) unk)
                  | none => none
                | none => none) none)) none)
  | _ => none) none

/-! ### Steps -/
inductive Next where
  | val (v : Value) (h : H)
  /-- one of these -/
  | alts (l : List (Value × H))
  | enter (f : FuncId) (args : List Value) (h : H)
  | round (l : Nat) (f : FuncId) (tmps : T Value) (nt : Nat) (assign body : Code)
  | defer (d : Deferred)
  | recover
  | panic (v : Value)

def zipSet (nt : Nat) : List Tmp → List Value → T Value → Option (T Value)
  | [], [], t => some t
  | p :: ps, v :: vs, t => cond (Nat.blt p nt) (zipSet nt ps vs (t.set p (some v))) none
  | _, _, _ => none

def callL (E : Env) (h : H) (f : FuncId) (args : List Value) : Option Next :=
  match E.sp f with
  | some g => (g h args).map fun v => .val v h
  | none => some (.enter f args h)

def invokeL (E : Env) (h : H) (t : Target) (args : List Value) : Option Next :=
  match t with
  | .fn (.func f) captured => callL E h f (args ++ captured.toList)
  | .fn (.yield l) _ => match h.objs.get l with
    | some (.loop _ _ fn tmps nt params assign body _) => (zipSet nt params args tmps).map fun t => .round l fn t nt assign body
    | _ => none
  | .fn (.method name) _ => match args with
    | .iface t v :: rest => match E.ty t with
      | some (i, d) => match i.methods.find? (·.name == name) with
        | some m => cond m.path.isEmpty (match m.func, d with
          | some (f, true), .pointer _ => callL E h f (v :: rest)
          | some (f, false), .pointer e => match v with
            | .pointer (some ⟨b, o, none⟩) => match loadT E h e b o with | some x => callL E h f (x :: rest) | none => none
            | _ => none
          | some (f, false), _ => callL E h f (v :: rest)
          | _, _ => none) none
        | none => none
      | none => none
    | _ => none
  | _ => none

def resolveL (ρ : Rho) (c : Call) : Option (Target × List Value) :=
  match c.args.toList.mapM ρ with
  | none => none
  | some args => match c.callee with
    | .value f => match ρ f with
      | some (.func fn first captured) => some (.fn fn captured, first.toList ++ args)
      | _ => none
    | .invoke r name => (ρ r).map fun v => (.fn (.method name) #[], v :: args)
    | .builtin _ => none

def mapPut (E : Env) (kt : Nat) (k v : Value) (clock : Nat) (es : List MapEntry) : Option (List MapEntry × Nat) :=
  cond (keyOk E 30 kt k) (match findE E kt k es with
    | some (some (i, x)) => cond (sameBitsL 30 x.key k) (some (es.set i { key := k, val := v, born := x.born }, clock)) none
    | some none => some (es ++ [{ key := k, val := v, born := clock }], clock + 1)
    | none => none) none

def mapDel (E : Env) (kt : Nat) (k : Value) (es : List MapEntry) : Option (List MapEntry) :=
  cond (keyOk E 30 kt k) (match findE E kt k es with
    | some (some (i, _)) => some (es.eraseIdx i)
    | some none => some es
    | none => none) none

def lenL : Value → Option Nat
  | .slice _ m _ => some m
  | .string s => some s.data.toList.length
  | _ => none

/-- the cells that are copied -/
def copySrc (h : H) (s k : Nat) : Value → Option (List Value)
  | .slice none _ _ => some []
  | .slice (some ⟨b, o, none⟩) _ _ => h.readAt b o (k * s)
  | .slice (some ⟨_, _, some _⟩) _ _ => cond (Nat.beq k 0) (some []) none
  | .string st => some ((st.data.toList.take k).map fun b => .int .u8 b.toNat)
  | _ => none

/-- an operation that acts -/
def exEff (E : Env) (h : H) (ρ : Rho) (o : Oper) : Option Next :=
  match o.op with
  | .assign x => (ρ x).map fun v => .val v h
  | .store t a x => match ρ a, ρ x, E.size t with
    | some (.pointer (some ⟨b, off, none⟩)), some v, some s => cond (flatV v && Nat.beq (vcells v).length s) ((h.writeAt b off (vcells v)).map fun h' => .val undefV h') none
    | _, _, _ => none
  | .convert src dst x => match E.ty src, E.ty dst, ρ x with
    | some (_, .slice _), some (_, .slice e), some (.slice (some ⟨b, o, none⟩) n c) => cond (Nat.beq src dst) (match E.ty e, h.row b with | some (_, .int .u8), some _ => some (.val (.slice (some ⟨b, o, none⟩) n c) h) | _, _ => none) none
    | _, _, _ => none
  | .call c => match c.callee with
    | .builtin b => match c.args.toList.mapM ρ with
      | none => none
      | some args => match b, args, c.argTypes.toList with
        | .append, [.slice base n cp, x], ts => match ts with
          | t :: t2 :: _ => match E.ty t, E.ty t2 with
            | some (_, .slice e), some (_, .int _) => match E.ty e, natOf x with
              | some (i, _), some k => match i.zero with
                | some z => cond (Nat.ble k 1000000) ((appendL h e i.size i.bytes base n cp k (replic k (vcells z) [])).map fun (h', v) => .val v h') none
                | none => none
              | _, _ => none
            | some (_, .slice e), some _ => match E.ty e with
              | some (i, _) => cond i.zero.isSome (match srcCells h i.size x with
                | some (k, new) => (appendL h e i.size i.bytes base n cp k new).map fun (h', v) => .val v h'
                | none => none) none
              | none => none
            | _, _ => none
          | _ => none
        | .copy, [.slice base n _, x], t :: _ => match E.ty t with
          | some (_, .slice e) => match E.size e, lenL x with
            | some s, some m => match copySrc h s (Nat.min m n) x with
              | some cs => match base with
                | none => some (.val (.int .i64 (Nat.min m n)) h)
                | some ⟨b, o, none⟩ => (h.writeAt b o cs).map fun h' => .val (.int .i64 (Nat.min m n)) h'
                | some ⟨_, _, some _⟩ => cond cs.isEmpty (some (.val (.int .i64 (Nat.min m n)) h)) none
              | none => none
            | _, _ => none
          | _ => none
        | .clear, [x], t :: _ => match E.ty t, x with
          | some _, .map none | some _, .slice none _ _ | some _, .slice _ 0 _ => some (.val undefV h)
          | some (_, .map _ _), .map (some r) => match h.objs.get r with
            | some (.map _ clock) => some (.val undefV (h.put r (.map [] clock)))
            | _ => none
          | some (_, .slice e), .slice (some ⟨b, o, none⟩) n _ => match E.ty e with
            | some (i, _) => match i.zero with
              | some z => (h.writeAt b o (replic n (vcells z) [])).map fun h' => .val undefV h'
              | none => none
            | none => none
          | _, _ => none
        | .delete, [.map r, k], t :: _ => match E.ty t with
          | some (_, .map kt _) => match r with
            | none => cond (keyOk E 30 kt k) (some (.val undefV h)) none
            | some r => match h.objs.get r with
              | some (.map es clock) => (mapDel E kt k es).map fun es => .val undefV (h.put r (.map es clock))
              | _ => none
          | _ => none
        | .panic, [.iface t v], _ => some (.panic (.iface t v))
        | .recover, [], _ => some .recover
        | _, _, _ => none
    | _ => match resolveL ρ c with
      | some (t, args) => invokeL E h t args
      | none => none
  | .defer c => (resolveL ρ c).map fun (t, args) => .defer { target := t, args := ⟨args⟩ }
  | .panic x => match ρ x with | some (.iface t v) => some (.panic (.iface t v)) | _ => none
  | .mapUpdate t m k v | .insert t m k v => match E.ty t, ρ m, ρ k, ρ v with
    | some (_, .map kt _), some (.map (some r)), some k, some v => match h.objs.get r with
      | some (.map es clock) => (mapPut E kt k v clock es).map fun (es, clock) => .val undefV (h.put r (.map es clock))
      | _ => none
    | _, _, _, _ => none
  | .range t x => match E.ty t, ρ x with
    | some (_, .string), some (.string s) => some (.val (.pointer (some ⟨h.next, 0, none⟩)) (h.new (.strIter s 0)))
    | some (_, .map _ _), some (.map none) => some (.val (.pointer (some ⟨h.next, 0, none⟩)) (h.new (.mapIter none 0 [] 0)))
    | some (_, .map _ _), some (.map (some m)) => match h.objs.get m with
      | some (.map _ clock) => some (.val (.pointer (some ⟨h.next, 0, none⟩)) (h.new (.mapIter (some m) clock [] clock)))
      | _ => none
    | _, _ => none
  | .next it isString => match ρ it with
    | some (.pointer (some ⟨r, 0, _⟩)) => match h.objs.get r, isString with
      | some (.strIter s pos), true => cond (Nat.blt pos s.data.toList.length)
          (match Utf8.decode s pos with | (c, width) => some (.val (.tuple #[.bool true, .int .i64 pos, .int .i32 c]) (h.put r (.strIter s (pos + width)))))
          (some (.val (.tuple #[.bool false]) h))
      | some (.mapIter none _ _ _), false => some (.val (.tuple #[.bool false]) h)
      | some (.mapIter (some m) since seen _), false => match h.objs.get m with
        | some (.map es clock) => cond (Nat.ble since clock && es.all fun e => Nat.blt e.born since) (match es.filter (fun e => !seen.contains e.born) with
          | [] => some (.val (.tuple #[.bool false]) h)
          | [e] => some (.val (.tuple #[.bool true, e.key, e.val]) (h.put r (.mapIter (some m) since (seen ++ [e.born]) clock)))
          | l => some (.alts (l.map fun e => (.tuple #[.bool true, e.key, e.val], h.put r (.mapIter (some m) since (seen ++ [e.born]) clock))))) none
        | _ => none
      | _, _ => none
    | _ => none
  | .entry it => match ρ it with
    | some (.pointer (some ⟨r, 0, _⟩)) => match h.objs.get r with
      | some (.mapIter (some m) _ seen stepped) => match seen.getLast?, h.objs.get m with
        | some stamp, some (.map es clock) => cond (Nat.beq clock stepped) (match es.find? (·.born == stamp) with | some e => some (.val (.tuple #[e.key, e.val]) h) | none => none) none
        | _, _ => none
      | _ => none
    | _ => none
  | _ => none

/-- what an operation comes to -/
def exOp (E : Env) (h : H) (ρ : Rho) (o : Oper) : Option Next :=
  match kindOf E o.op with
  | .pure => (exPure E ρ o.op).map fun v => .val v h
  | .read => (exRead E h ρ o.op).map fun v => .val v h
  | .alloc => (exAlloc E h ρ o.op).map fun (ob, v) => .val (v h.next) (h.new ob)
  | .eff => exEff E h ρ o

inductive Out where
  | go (s : LS)
  | fork (l : List LS)
  | done (f : FuncId) (v : Value) (h : H)

def LF.fin (f : LF) (v : Value) : Option LF := match f.todo with
  | .ops ops dr (p :: rest) :: k => match p.o.dst with
    | some d => cond (Nat.blt d f.nt) (some { f with tmps := f.tmps.set d (some v), todo := .ops ops dr rest :: k }) none
    | none => some { f with todo := .ops ops dr rest :: k }
  | .inRangeFunc l :: k => some { f with todo := .endRangeFunc l :: k }
  | .beginRound :: k => some { f with todo := k }
  | _ => none

def sameVals (same : Value → Value → Bool) : List Value → List Value → Bool
  | [], [] => true
  | a :: l, b :: m => same a b && sameVals same l m
  | _, _ => false

def sameVal : Nat → Value → Value → Bool
  | 0, _, _ => false
  | n + 1, x, y => match x, y with
    | .bool a, .bool b => a == b
    | .int j a, .int k b => j == k && a == b
    | .string a, .string b => a.data.toList == b.data.toList
    | .pointer a, .pointer b => a == b
    | .slice a n c, .slice b m d => a == b && n == m && c == d
    | .map a, .map b => a == b
    | .nilFunc, .nilFunc => true
    | .nilIface, .nilIface => true
    | .func (.func f) a b, .func (.func g) c d => f == g && sameVals (sameVal n) a.toList c.toList && sameVals (sameVal n) b.toList d.toList
    | .iface t v, .iface u w => t == u && sameVal n v w
    | .agg a, .agg b => sameVals (sameVal n) a.toList b.toList
    | .tuple a, .tuple b => sameVals (sameVal n) a.toList b.toList
    | _, _ => false

/-- is it still so? -/
def recheck (E : Env) (h : H) (t : T Value) (ops : Array Oper) : List Nat → Bool
  | [] => true
  | i :: l => match ops[i]? with
    | none => false
    | some o => cond (wantedL t ops o)
        (match o.dst with
          | none => true
          | some d => match t.get d with
            | none => false
            | some v => match kindOf E o.op with
              | .read => (match exRead E h (rho t) o.op with | some v' => sameVal 10 v v' | none => false)
              | .alloc => (match v with
                | .pointer (some ⟨b, 0, none⟩) | .slice (some ⟨b, 0, none⟩) _ _ | .map (some b) => (match h.objs.get b, exAlloc E { h with next := b } (rho t) o.op with | some ob, some (ob', mk) => sameObj ob ob' && sameVal 10 v (mk b) | _, _ => false)
                | _ => false)
              | _ => false)
        true && recheck E h t ops l
where
  wantedL (t : T Value) (ops : Array Oper) (o : Oper) : Bool := match o.guard with
    | none => true
    | some (j, want) => match (ops[j]?).bind (·.dst) with
      | some d => match t.get d with | some (.bool b) => b == want | _ => false
      | none => false
  sameObj : LObj → LObj → Bool
    | .map [] 0, .map [] 0 => true
    | .row r, .row s => r.elem == s.elem && r.esz == s.esz && r.cnt == s.cnt && r.cls == s.cls && r.start == s.start &&
        (match r.read 0 (r.cnt * r.esz), s.read 0 (s.cnt * s.esz) with | some a, some b => sameVals (sameVal 10) a b | _, _ => false)
    | _, _ => false

/-- behind an operation: its value is laid, and what could have been otherwise is looked at again -/
def LF.finish (E : Env) (h : H) (f : LF) (v : Value) : Option LF := match f.todo with
  | .ops ops true (p :: rest) :: k => match f.fin v with
    | some f' => cond (recheck E h f'.tmps ops p.re) (some f') none
    | none => none
  | _ => f.fin v

def LF.raise (f : LF) (vs : List PanicEntry) : LF := match f.mode with
  | .panicking chain => { f with mode := .panicking (vs ++ chain) }
  | _ => { f with mode := .panicking vs }

def listSet : Nat → List Value → T Value → T Value
  | _, [], t => t
  | i, v :: vs, t => listSet (i + 1) vs (t.set i (some v))

def enterF (E : Env) (f : FuncId) (args : List Value) (kind : CallKind) : Option LF := match E.fn f with
  | some fn => match fn.body with
    | some c => cond (Nat.ble args.length fn.ntmps) (some { fn := f, tmps := listSet 0 args .leaf, nt := fn.ntmps, todo := [.code c], defers := [], mode := .run, kind, roundOf := none }) none
    | none => none
  | none => none

def roundF (l : Nat) (f : FuncId) (tmps : T Value) (nt : Nat) (assign body : Code) (kind : CallKind) : LF :=
  { fn := f, tmps, nt, todo := [.code assign, .beginRound, .code body], defers := [], mode := .run, kind, roundOf := some l }

def exitToL (id : Nat) : List LItem → Option (List LItem)
  | .inBlock id' :: k => cond (Nat.beq id' id) (some k) (exitToL id k)
  | _ :: k => exitToL id k
  | [] => none

def gotoInL (l : Nat) : List LItem → Option (List LItem)
  | .inScope body :: k => match findLabel body l with
    | some rest => some (.code rest :: .inScope body :: k)
    | none => gotoInL l k
  | _ :: k => gotoInL l k
  | [] => none

def doRet (E : Env) (s : LS) (v : Value) : Option Out := match s.cs with
  | [] => match s.f.kind with
    | .normal => some (.done s.f.fn v s.h)
    | _ => none
  | c :: rest => match s.f.kind with
    | .normal => (c.finish E s.h v).map fun c => .go { f := c, cs := rest, h := s.h }
    | .deferred => match c.mode with
     | .run => none
     | _ =>
      some (.go { f := (match c.mode with
        | .panicking ({ recovered := true, .. } :: older) => match older.dropWhile (!·.goexit) with
          | [] => { c with mode := .returning }
          | rest => { c with mode := .panicking rest }
        | _ => c), cs := rest, h := s.h })
    | _ => none

def putLoop (h : H) (l : Nat) (f : LoopState → Option Code → LoopState × Option Code) : Option H := match h.objs.get l with
  | some (.loop st pending fn tmps nt params assign body defers) => match f st pending with
    | (st', p') => some (h.put l (.loop st' p' fn tmps nt params assign body defers))
  | _ => none

def leave (E : Env) (s : LS) (jump : Option Code) : Option Out := match s.f.roundOf with
  | none => match jump with
    | none | some .ret => some (.go { s with f := { s.f with mode := .returning } })
    | _ => none
  | some l => match putLoop s.h l (fun _ _ => (cond jump.isNone .ready .done, jump)) with
    | some h => match s.cs with
      | [] => none
      | _ => doRet E { s with h } (.bool jump.isNone)
    | none => none

def goTo (s : LS) (todo : List LItem) : Option Out := some (.go { s with f := { s.f with todo } })

def tryRec (f : LF) (cs : List LF) : Option (Value × List LF) := match f.kind, cs with
  | .deferred, c :: rest => match c.mode with
    | .panicking ({ v, recovered := false, goexit := false } :: older) => some (v, { c with mode := .panicking ({ v, recovered := true } :: older) } :: rest)
    | _ => none
  | _, _ => none

def onNext (E : Env) (s : LS) : Next → Option Out
  | .val v h => (s.f.finish E h v).map fun f => .go { s with f, h }
  | .alts l => (l.mapM fun (v, h) => (s.f.finish E h v).map fun f => ({ s with f, h } : LS)).map .fork
  | .enter g args h => (enterF E g args .normal).map fun f => .go { f, cs := s.f :: s.cs, h }
  | .round l g tmps nt assign body => some (.go { f := roundF l g tmps nt assign body .normal, cs := s.f :: s.cs, h := s.h })
  | .defer d => match s.f.roundOf with
    | none => ({ s.f with defers := d :: s.f.defers }.finish E s.h undefV).map fun f => .go { s with f }
    | some _ => none
  | .recover => match tryRec s.f s.cs with
    | some (v, cs) => (s.f.finish E s.h v).map fun f => .go { f, cs, h := s.h }
    | none => (s.f.finish E s.h .nilIface).map fun f => .go { s with f }
  | .panic v => match s.f.todo with
    | .ops _ true _ :: _ => none
    | _ => some (.go { s with f := s.f.raise [{ v, recovered := false }] })

def lexec (E : Env) (s : LS) : Option Out := match s.f.todo with
  | [] => leave E s none
  | .ops ops dr (p :: _) :: _ => cond (recheck.wantedL s.f.tmps ops p.o)
      (match exOp E s.h (rho s.f.tmps) p.o with
        | some n => onNext E s n
        | none => none)
      ((s.f.fin undefV).map fun f => .go { s with f })
  | .ops _ _ [] :: k => goTo s k
  | .inBlock _ :: k | .inScope _ :: k => goTo s k
  | .inLoop body :: k => goTo s (.code body :: .inLoop body :: k)
  | .code c :: k => match c with
    | .ret => leave E s (some .ret)
    | .skip | .label _ => goTo s k
    | .seq a b => goTo s (.code a :: .code b :: k)
    | .cond c thn els => match rho s.f.tmps c with
      | some (.bool b) => goTo s (.code (cond b thn els) :: k)
      | _ => none
    | .block id body => goTo s (.code body :: .inBlock id :: k)
    | .loop body => goTo s (.code body :: .inLoop body :: k)
    | .scope body => goTo s (.code body :: .inScope body :: k)
    | .exit id => match exitToL id k with
      | some k' => goTo s k'
      | none => leave E s (some (.exit id))
    | .goto l => match gotoInL l k with
      | some k' => goTo s k'
      | none => leave E s (some (.goto l))
    | .region _ ops draw => cond draw (match plan E ops with | some l => goTo s (.ops ops true l :: k) | none => none) (goTo s (.ops ops false (straight ops) :: k))
    | .rangeFunc g params assign body => match rho s.f.tmps g with
      | some (.func fn first captured) =>
        match (match s.f.roundOf with
          | some l => match s.h.objs.get l with | some (.loop _ _ _ _ _ _ _ _ d) => some (d, s.h, []) | _ => none
          | none => some (s.h.next, s.h.new (.deferred (some [])), [({ target := .collected s.h.next, args := #[] } : Deferred)])) with
        | some (d, h, mark) =>
          let l := h.next
          let h := h.new (.loop .ready none s.f.fn s.f.tmps s.f.nt params.toList assign body d)
          match invokeL E h (.fn fn captured) (first.toList ++ [.func (.yield l) #[] #[]]) with
          | some n => onNext E { s with f := { s.f with todo := .inRangeFunc l :: k, defers := mark ++ s.f.defers }, h } n
          | none => none
        | none => none
      | _ => none
    | .refuse _ => none
  | .inRangeFunc _ :: _ => none
  | .beginRound :: k => match s.f.roundOf with
    | some l => match s.h.objs.get l with
      | some (.loop .ready pending fn tmps nt params assign body defers) =>
        some (.go { s with f := { s.f with todo := k }, h := s.h.put l (.loop .busy pending fn tmps nt params assign body defers) })
      | _ => none
    | none => none
  | .endRangeFunc l :: k => match s.h.objs.get l with
    | some (.loop st pending fn tmps nt params assign body defers) => match st with
      | .busy => none
      | _ => some (.go { s with f := { s.f with todo := (match pending with | some c => .code c :: k | none => k) }, h := s.h.put l (.loop .exhausted pending fn tmps nt params assign body defers) })
    | _ => none

def resultsL (E : Env) (h : H) (t : T Value) : List ResultVar → Option (List Value)
  | [] => some []
  | .tmp n :: l => match resultsL E h t l with
    | some vs => some ((match t.get n with | some v => v | none => undefV) :: vs)
    | none => none
  | .cell a ty :: l => match t.get a with
    | some (.pointer (some ⟨b, o, none⟩)) => match loadT E h ty b o, resultsL E h t l with
      | some v, some vs => some (v :: vs)
      | _, _ => none
    | _ => none

def lunwind (E : Env) (s : LS) : Option Out := match s.f.defers with
  | d :: ds => match d.target with
    | .collected b => match s.h.objs.get b with
      | some (.deferred (some calls)) => some (.go { s with f := { s.f with defers := calls ++ ds }, h := s.h.put b (.deferred none) })
      | _ => none
    | .fn (.func f) captured => match E.sp f with
      | some _ => none
      | none => (enterF E f (d.args.toList ++ captured.toList) .deferred).map fun g => .go { f := g, cs := { s.f with defers := ds } :: s.cs, h := s.h }
    | _ => none
  | [] => match s.f.mode with
    | .run => none
    | .panicking chain => match s.cs with
      | c :: rest => match c.todo with
        | .ops _ true _ :: _ => none
        | _ => some (.go { f := c.raise chain, cs := rest, h := s.h })
      | [] => none
    | .returning => match E.fn s.f.fn with
      | some fn => match resultsL E s.h s.f.tmps fn.results.toList with
        | some [v] => doRet E s v
        | some vs => doRet E s (.tuple ⟨vs⟩)
        | none => none
      | none => none

def lstep (E : Env) (s : LS) : Option Out := match s.f.mode with
  | .run => lexec E s
  | _ => lunwind E s

def lrun (E : Env) : Nat → LS → Option Out
  | 0, s => some (.go s)
  | n + 1, s => match lstep E s with
    | some (.go s') => lrun E n s'
    | r => r

end Go.Lm

/- Tries: what is set is got. -/
namespace Go.Lm
theorem T.setK_eq {α β : Type} : ∀ (f : Nat) (t : T α) (n : Nat) (x : Option α) (k : T α → β), T.setK f t n x k = k (T.setK f t n x id)
  | 0, t, n, x, k => by simp [T.setK]
  | f + 1, .leaf, n, x, k => by
    unfold T.setK
    cases Nat.beq n 0 <;> simp only [cond_true, cond_false, id]
    cases Nat.beq (n % 2) 1 <;> simp only [cond_true, cond_false]
    · rw [T.setK_eq f _ _ _ (fun r => k (T.node none .leaf r)), T.setK_eq f _ _ _ (fun r => T.node none .leaf r)]
    · rw [T.setK_eq f _ _ _ (fun l => k (T.node none l .leaf)), T.setK_eq f _ _ _ (fun l => T.node none l .leaf)]
  | f + 1, .node v l r, n, x, k => by
    unfold T.setK
    cases Nat.beq n 0 <;> simp only [cond_true, cond_false, id]
    cases Nat.beq (n % 2) 1 <;> simp only [cond_true, cond_false]
    · rw [T.setK_eq f _ _ _ (fun r' => k (T.node v l r')), T.setK_eq f _ _ _ (fun r' => T.node v l r')]
    · rw [T.setK_eq f _ _ _ (fun l' => k (T.node v l' r)), T.setK_eq f _ _ _ (fun l' => T.node v l' r)]

theorem nbeq (a b : Nat) : Nat.beq a b = decide (a = b) := by
  rw [Bool.eq_iff_iff]; simp [Nat.beq_eq]
theorem nble (a b : Nat) : Nat.ble a b = decide (a ≤ b) := by
  rw [Bool.eq_iff_iff]; simp
theorem nblt (a b : Nat) : Nat.blt a b = decide (a < b) := by
  rw [Bool.eq_iff_iff]; simp [Nat.blt]; omega

theorem T.get_setK {α : Type} : ∀ (f : Nat) (t : T α) (n m : Nat) (x : Option α), n < f → (T.setK f t n x id).get m = if m = n then x else t.get m
  | 0, _, _, _, _, h => by omega
  | f + 1, t, n, m, x, h => by
    have e0 : ∀ (m : Nat), (T.leaf : T α).get m = none := fun m => by simp [T.get]
    have go : ∀ (v : Option α) (l r : T α), (T.setK (f + 1) (.node v l r) n x id).get m = if m = n then x else (T.node v l r).get m := by
      intro v l r
      unfold T.setK
      rw [nbeq]
      by_cases hn : n = 0
      · subst hn
        simp only [decide_true, cond_true, id, T.get, nbeq]
        by_cases hm : m = 0
        · simp [hm]
        · simp [hm]
      · simp only [hn, decide_false, cond_false, nbeq]
        by_cases h2 : n % 2 = 1
        · simp only [h2, decide_true, cond_true]
          rw [T.setK_eq]
          simp only [id, T.get, nbeq]
          by_cases hm : m = 0
          · subst hm; simp [Ne.symm hn]
          · simp only [hm, decide_false, cond_false]
            by_cases hm2 : m % 2 = 1
            · simp only [hm2, decide_true, cond_true]
              rw [T.get_setK f l (n / 2) (m / 2) x (by omega)]
              have : (m / 2 = n / 2) ↔ (m = n) := by omega
              simp only [this]
            · simp only [hm2, decide_false, cond_false]
              rw [if_neg (by intro e; subst e; exact hm2 h2)]
        · simp only [h2, decide_false, cond_false]
          rw [T.setK_eq]
          simp only [id, T.get, nbeq]
          by_cases hm : m = 0
          · subst hm; simp [Ne.symm hn]
          · simp only [hm, decide_false, cond_false]
            by_cases hm2 : m % 2 = 1
            · simp only [hm2, decide_true, cond_true]
              rw [if_neg (by intro e; subst e; exact h2 hm2)]
            · simp only [hm2, decide_false, cond_false]
              rw [T.get_setK f r (n / 2 - 1) (m / 2 - 1) x (by omega)]
              have : (m / 2 - 1 = n / 2 - 1) ↔ (m = n) := by omega
              simp only [this]
    cases t with
    | node v l r => exact go v l r
    | leaf =>
      have : (T.setK (f + 1) (.leaf : T α) n x id) = T.setK (f + 1) (.node none .leaf .leaf) n x id := by
        unfold T.setK; rfl
      rw [this, go none .leaf .leaf]
      by_cases hm : m = n
      · simp [hm]
      · simp only [hm, if_false, T.get]
        cases Nat.beq m 0 <;> cases Nat.beq (m % 2) 1 <;> rfl

theorem T.get_set {α : Type} (t : T α) (n m : Nat) (x : Option α) : (t.set n x).get m = if m = n then x else t.get m := by
  unfold T.set; exact T.get_setK _ _ _ _ _ (by omega)
theorem T.get_set_same {α : Type} (t : T α) (n : Nat) (x : Option α) : (t.set n x).get n = x := by simp [T.get_set]
theorem T.get_set_ne {α : Type} (t : T α) {n m : Nat} (x : Option α) (h : m ≠ n) : (t.set n x).get m = t.get m := by simp [T.get_set, h]
@[simp] theorem T.get_leaf {α : Type} (n : Nat) : (T.leaf : T α).get n = none := by simp [T.get]
end Go.Lm

/- How logical values stand for those of the machine. -/
namespace Go.Lm

/-- where a logical object lies: its block, where in it, its capacity in things, how many cells a thing has; what its class is and where in it it begins; is it a row? -/
structure Place where
  blk : Nat
  dlt : Nat
  cap : Nat
  esz : Nat
  cls : Nat
  start : Nat
  row : Bool

abbrev Sig := Nat → Option Place

def Sig.blk (σ : Sig) (b : Nat) : Nat := match σ b with | some p => p.blk | none => 0
def Sig.dlt (σ : Sig) (b : Nat) : Nat := match σ b with | some p => p.dlt | none => 0
def Sig.capAt (σ : Sig) (b off : Nat) : Nat := match σ b with | some p => p.cap - off / p.esz | none => 0

def Sig.addr (σ : Sig) (a : Addr) : Addr := ⟨σ.blk a.block, σ.dlt a.block + a.off, a.spot⟩

def physFn (σ : Sig) : Fn → Fn
  | .yield l => .yield (σ.blk l)
  | f => f

def physSlice (σ : Sig) (a : Option Addr) (n c : Nat) : Value :=
  match a with
  | none => .slice none n c
  | some ⟨b, off, none⟩ => .slice (some (σ.addr ⟨b, off, none⟩)) n (if c = unk then σ.capAt b off else c)
  | some ⟨b, off, some o⟩ => .slice (some (σ.addr ⟨b, if σ.capAt b off = 0 then o else off, none⟩)) n (if c = unk then σ.capAt b off else c)

def phys (σ : Sig) (x : Value) : Value := match x with
  | .bool b => .bool b
  | .int k n => .int k n
  | .float k b => .float k b
  | .complex k a b => .complex k a b
  | .string s => .string s
  | .pointer a => .pointer (a.map σ.addr)
  | .slice a n c => physSlice σ a n c
  | .map r => .map (r.map σ.blk)
  | .chan r => .chan r
  | .func fn first captured => .func (physFn σ fn) ⟨first.toList.attach.map fun ⟨v, _⟩ => phys σ v⟩ ⟨captured.toList.attach.map fun ⟨v, _⟩ => phys σ v⟩
  | .nilFunc => .nilFunc
  | .iface t v => .iface t (phys σ v)
  | .nilIface => .nilIface
  | .agg cs => .agg ⟨cs.toList.attach.map fun ⟨v, _⟩ => phys σ v⟩
  | .tuple cs => .tuple ⟨cs.toList.attach.map fun ⟨v, _⟩ => phys σ v⟩
termination_by SizeOf.sizeOf x
decreasing_by
  all_goals simp_wf
  all_goals (try have := Array.sizeOf_lt_of_mem (Array.mem_toList_iff.1 ‹_ ∈ _›)); omega

theorem attach_map_phys (σ : Sig) (l : List Value) : (l.attach.map fun x : { x // x ∈ l } => phys σ x.1) = l.map (phys σ) := by
  rw [List.attach_map_val (f := phys σ)]

@[simp] theorem phys_bool (σ : Sig) (b : Bool) : phys σ (.bool b) = .bool b := by rw [phys]
@[simp] theorem phys_int (σ : Sig) (k : IntKind) (n : Int) : phys σ (.int k n) = .int k n := by rw [phys]
@[simp] theorem phys_float (σ : Sig) (k : FloatKind) (n : Nat) : phys σ (.float k n) = .float k n := by rw [phys]
@[simp] theorem phys_complex (σ : Sig) (k : FloatKind) (a b : Nat) : phys σ (.complex k a b) = .complex k a b := by rw [phys]
@[simp] theorem phys_chan (σ : Sig) (r : Option Nat) : phys σ (.chan r) = .chan r := by rw [phys]
@[simp] theorem phys_string (σ : Sig) (s : ByteArray) : phys σ (.string s) = .string s := by rw [phys]
@[simp] theorem phys_ptr (σ : Sig) (a : Option Addr) : phys σ (.pointer a) = .pointer (a.map σ.addr) := by rw [phys]
@[simp] theorem phys_slice (σ : Sig) (a : Option Addr) (n c : Nat) : phys σ (.slice a n c) = physSlice σ a n c := by rw [phys]
@[simp] theorem phys_map (σ : Sig) (r : Option Nat) : phys σ (.map r) = .map (r.map σ.blk) := by rw [phys]
@[simp] theorem phys_nilFunc (σ : Sig) : phys σ .nilFunc = .nilFunc := by rw [phys]
@[simp] theorem phys_nilIface (σ : Sig) : phys σ .nilIface = .nilIface := by rw [phys]
@[simp] theorem phys_iface (σ : Sig) (t : TypeId) (v : Value) : phys σ (.iface t v) = .iface t (phys σ v) := by rw [phys]
@[simp] theorem phys_agg (σ : Sig) (cs : Array Value) : phys σ (.agg cs) = .agg ⟨cs.toList.map (phys σ)⟩ := by rw [phys]; simp
@[simp] theorem phys_tuple (σ : Sig) (cs : Array Value) : phys σ (.tuple cs) = .tuple ⟨cs.toList.map (phys σ)⟩ := by rw [phys]; simp
@[simp] theorem phys_func (σ : Sig) (fn : Fn) (a b : Array Value) : phys σ (.func fn a b) = .func (physFn σ fn) ⟨a.toList.map (phys σ)⟩ ⟨b.toList.map (phys σ)⟩ := by
  rw [phys]; simp

/-- all that it leads to is there -/
inductive Wf (σ : Sig) : Value → Prop
  | bool (b : Bool) : Wf σ (.bool b)
  | int (k : IntKind) (n : Int) : Wf σ (.int k n)
  | float (k : FloatKind) (b : Nat) : Wf σ (.float k b)
  | string (s : ByteArray) : Wf σ (.string s)
  | nilPtr : Wf σ (.pointer none)
  | ptr (b off : Nat) (p : Place) (h : σ b = some p) : Wf σ (.pointer (some ⟨b, off, none⟩))
  | nilSlice (n c : Nat) : Wf σ (.slice none n c)
  | slice (b off n c : Nat) (p : Place) (h : σ b = some p) : Wf σ (.slice (some ⟨b, off, none⟩) n c)
  /-- nothing at a row's end: where it lies depends on the capacity -/
  | endS (b off o : Nat) (p : Place) (h : σ b = some p) : Wf σ (.slice (some ⟨b, off, some o⟩) 0 unk)
  | nilMap : Wf σ (.map none)
  | map (b : Nat) (p : Place) (h : σ b = some p) : Wf σ (.map (some b))
  | func (f : FuncId) (a b : Array Value) (ha : ∀ v ∈ a.toList, Wf σ v) (hb : ∀ v ∈ b.toList, Wf σ v) : Wf σ (.func (.func f) a b)
  | yield (l : Nat) (p : Place) (h : σ l = some p) : Wf σ (.func (.yield l) #[] #[])
  | nilFunc : Wf σ .nilFunc
  | iface (t : TypeId) (v : Value) (h : Wf σ v) : Wf σ (.iface t v)
  | nilIface : Wf σ .nilIface
  | agg (cs : Array Value) (h : ∀ v ∈ cs.toList, Wf σ v) (h1 : ∀ v ∈ cs.toList, v.oneCell' = true) : Wf σ (.agg cs)
  | tuple (cs : Array Value) (h : ∀ v ∈ cs.toList, Wf σ v) : Wf σ (.tuple cs)

def Sig.Le (σ τ : Sig) : Prop := ∀ b p, σ b = some p → τ b = some p
theorem Sig.Le.refl (σ : Sig) : σ.Le σ := fun _ _ h => h
theorem Sig.Le.trans {σ τ υ : Sig} (h : σ.Le τ) (k : τ.Le υ) : σ.Le υ := fun b p e => k b p (h b p e)

theorem Sig.Le.blk {σ τ : Sig} (h : σ.Le τ) {b : Nat} {p : Place} (e : σ b = some p) : τ.blk b = σ.blk b := by simp [Sig.blk, e, h b p e]
theorem Sig.Le.dlt {σ τ : Sig} (h : σ.Le τ) {b : Nat} {p : Place} (e : σ b = some p) : τ.dlt b = σ.dlt b := by simp [Sig.dlt, e, h b p e]
theorem Sig.Le.capAt {σ τ : Sig} (h : σ.Le τ) {b off : Nat} {p : Place} (e : σ b = some p) : τ.capAt b off = σ.capAt b off := by simp [Sig.capAt, e, h b p e]

theorem Wf.le {σ τ : Sig} (h : σ.Le τ) {v : Value} (w : Wf σ v) : Wf τ v := by
  induction w with
  | bool b => exact .bool b
  | int k n => exact .int k n
  | float k b => exact .float k b
  | string s => exact .string s
  | nilPtr => exact .nilPtr
  | ptr b off p e => exact .ptr b off p (h b p e)
  | nilSlice n c => exact .nilSlice n c
  | slice b off n c p e => exact .slice b off n c p (h b p e)
  | endS b off o p e => exact .endS b off o p (h b p e)
  | nilMap => exact .nilMap
  | map b p e => exact .map b p (h b p e)
  | func f a b _ _ ha hb => exact .func f a b ha hb
  | yield l p e => exact .yield l p (h l p e)
  | nilFunc => exact .nilFunc
  | iface t v _ ih => exact .iface t v ih
  | nilIface => exact .nilIface
  | agg cs _ h1 ih => exact .agg cs ih h1
  | tuple cs _ ih => exact .tuple cs ih

theorem phys_le {σ τ : Sig} (h : σ.Le τ) {v : Value} (w : Wf σ v) : phys τ v = phys σ v := by
  induction w with
  | bool b => simp
  | int k n => simp
  | float k b => simp
  | string s => simp
  | nilPtr => simp
  | ptr b off p e => simp [Sig.addr, h.blk e, h.dlt e]
  | nilSlice n c => simp [physSlice]
  | slice b off n c p e => simp [physSlice, Sig.addr, h.blk e, h.dlt e, h.capAt e]
  | endS b off o p e => simp [physSlice, Sig.addr, h.blk e, h.dlt e, h.capAt e]
  | nilMap => simp
  | map b p e => simp [h.blk e]
  | func f a b _ _ ha hb =>
    simp only [phys_func, physFn]
    rw [List.map_congr_left ha, List.map_congr_left hb]
  | yield l p e => simp [physFn, h.blk e]
  | nilFunc => simp
  | iface t v _ ih => simp [ih]
  | nilIface => simp
  | agg cs _ _ ih => simp only [phys_agg]; rw [List.map_congr_left ih]
  | tuple cs _ ih => simp only [phys_tuple]; rw [List.map_congr_left ih]

theorem physL_le {σ τ : Sig} (h : σ.Le τ) {l : List Value} (w : ∀ v ∈ l, Wf σ v) : l.map (phys τ) = l.map (phys σ) :=
  List.map_congr_left fun v hv => phys_le h (w v hv)

/-- what the machine's constants are -/
theorem phys_plain {σ : Sig} {v : Value} (h : plainV v = true) : phys σ v = v ∧ Wf σ v := by
  cases v with
  | bool b => exact ⟨by simp, .bool b⟩
  | int k n => exact ⟨by simp, .int k n⟩
  | float k n => exact ⟨by simp, .float k n⟩
  | string s => exact ⟨by simp, .string s⟩
  | pointer a => cases a with
    | none => exact ⟨by simp, .nilPtr⟩
    | some a => simp [plainV] at h
  | slice a n c => cases a with
    | none => exact ⟨by simp [physSlice], .nilSlice n c⟩
    | some a => simp [plainV] at h
  | map r => cases r with
    | none => exact ⟨by simp, .nilMap⟩
    | some a => simp [plainV] at h
  | nilFunc => exact ⟨by simp, .nilFunc⟩
  | nilIface => exact ⟨by simp, .nilIface⟩
  | func fn a b =>
    cases fn with
    | func f =>
      simp [plainV] at h
      obtain ⟨rfl, rfl⟩ := h
      exact ⟨by simp [physFn], .func f #[] #[] (by simp) (by simp)⟩
    | _ => simp [plainV] at h
  | _ => simp [plainV] at h

theorem phys_plains {σ : Sig} : ∀ {l : List Value}, l.all plainV = true → l.map (phys σ) = l ∧ ∀ v ∈ l, Wf σ v
  | [], _ => ⟨rfl, by simp⟩
  | v :: l, h => by
    simp only [List.all_cons, Bool.and_eq_true] at h
    have h1 := phys_plain (σ := σ) h.1
    have h2 := phys_plains (σ := σ) h.2
    exact ⟨by simp [h1.1, h2.1], fun x hx => by
      cases hx with
      | head => exact h1.2
      | tail _ hx => exact h2.2 x hx⟩

theorem plains_one {l : List Value} (h : l.all plainV = true) : ∀ v ∈ l, v.oneCell' = true := fun v hv => by
  have := List.all_eq_true.1 h v hv
  cases v <;> first | rfl | (simp [plainV] at this)

theorem phys_const {σ : Sig} {v : Value} (h : constV v = true) : phys σ v = v ∧ Wf σ v := by
  cases v with
  | agg cs => simp only [constV] at h; have := phys_plains (σ := σ) h; exact ⟨by simp [this.1], .agg cs this.2 (plains_one h)⟩
  | tuple cs => simp only [constV] at h; have := phys_plains (σ := σ) h; exact ⟨by simp [this.1], .tuple cs this.2⟩
  | iface t v => simp only [constV] at h; have := phys_plain (σ := σ) h; exact ⟨by simp [this.1], .iface t v this.2⟩
  | _ => exact phys_plain h

theorem phys_cells (σ : Sig) (v : Value) : ((phys σ v).cells).toList = (vcells v).map (phys σ) := by
  cases v <;> simp [Value.cells, vcells]
  rename_i a n c
  rcases a with _ | ⟨b, off, _ | o⟩ <;> rfl

theorem phys_undef (σ : Sig) : phys σ undefV = undef := by simp [undefV, undef]
theorem Wf.undef (σ : Sig) : Wf σ undefV := .tuple _ (by simp)
theorem Wf.cells {σ : Sig} {v : Value} (h : Wf σ v) (hf : flatV v = true) : ∀ x ∈ vcells v, Wf σ x ∧ x.oneCell' = true := by
  cases v with
  | agg cs => cases h with | agg _ h h1 => exact fun x hx => ⟨h x hx, h1 x hx⟩
  | tuple cs => simp [flatV] at hf
  | _ => all_goals (intro x hx; simp only [vcells, List.mem_singleton] at hx; subst hx; exact ⟨h, rfl⟩)
end Go.Lm

/- Rows of cells: what is read, and what is written. -/
namespace Go.Lm

def Row.cell (r : Row) (j : Nat) : Option Value := match r.cells.get (j / r.esz) with
  | some c => c[j % r.esz]?
  | none => none

/-- all chunks are there, and whole -/
def Row.ok (r : Row) : Prop := ∀ i, i < r.cnt → ∃ c, r.cells.get i = some c ∧ c.length = r.esz

theorem div_add' {n i o : Nat} (h : o < n) : (i * n + o) / n = i := by
  rw [Nat.mul_comm, Nat.mul_add_div (by omega), Nat.div_eq_of_lt h, Nat.add_zero]
theorem mod_add' {n i o : Nat} (h : o < n) : (i * n + o) % n = o := by
  rw [Nat.mul_comm, Nat.mul_add_mod, Nat.mod_eq_of_lt h]
theorem lt_of_mul_add {n i o m : Nat} (h : i * n + o < m * n) : i < m := by
  rcases Nat.lt_or_ge i m with h' | h'
  · exact h'
  · have := Nat.mul_le_mul_right n h'; omega

theorem Row.cell_at {r : Row} {i o : Nat} {c : List Value} (hc : r.cells.get i = some c) (ho : o < r.esz) : r.cell (i * r.esz + o) = c[o]? := by
  unfold Row.cell
  rw [div_add' ho, mod_add' ho, hc]

theorem Row.cell_some {r : Row} (hk : r.ok) {j : Nat} (h : j < r.cnt * r.esz) : ∃ v, r.cell j = some v := by
  have hz : 0 < r.esz := by rcases Nat.eq_zero_or_pos r.esz with e | e; · rw [e] at h; omega
                            · exact e
  have hi : j / r.esz < r.cnt := Nat.div_lt_of_lt_mul (by rw [Nat.mul_comm]; exact h)
  obtain ⟨c, hc, hl⟩ := hk _ hi
  have hm : j % r.esz < r.esz := Nat.mod_lt _ hz
  exact ⟨c[j % r.esz], by unfold Row.cell; rw [hc]; exact List.getElem?_eq_getElem (by omega)⟩

theorem readC_spec (r : Row) (hk : r.ok) : ∀ (f i o len : Nat) (l : List Value), o < r.esz → i * r.esz + o + len ≤ r.cnt * r.esz → readC r f i o len = some l →
    l.length = len ∧ ∀ k, k < len → r.cell (i * r.esz + o + k) = l[k]?
  | _, i, o, 0, l, _, _, h => by
    have : l = [] := by cases ‹Nat› <;> simp [readC] at h <;> exact h
    subst this
    exact ⟨rfl, fun k hk => by omega⟩
  | 0, i, o, n + 1, l, _, _, h => by simp [readC] at h
  | f + 1, i, o, n + 1, l, ho, hb, h => by
    have hi : i < r.cnt := by
      have : i * r.esz < r.cnt * r.esz := by omega
      exact Nat.lt_of_mul_lt_mul_right this
    obtain ⟨c, hc, hl⟩ := hk i hi
    simp only [readC, hc, nble] at h
    by_cases hle : o + (n + 1) ≤ r.esz
    · simp only [hle, decide_true, cond_true, Option.some.injEq] at h
      subst h
      refine ⟨by simp; omega, fun k hk' => ?_⟩
      rw [Nat.add_assoc, Row.cell_at hc (by omega), List.getElem?_take, if_pos hk', List.getElem?_drop]
    · simp only [hle, decide_false, cond_false] at h
      cases hr : readC r f (i + 1) 0 (n + 1 - (r.esz - o)) with
      | none => simp [hr] at h
      | some rest =>
        simp only [hr, Option.some.injEq] at h
        subst h
        have e1 : (i + 1) * r.esz = i * r.esz + r.esz := by rw [Nat.add_mul, Nat.one_mul]
        obtain ⟨h1, h2⟩ := readC_spec r hk f (i + 1) 0 (n + 1 - (r.esz - o)) rest (by omega) (by omega) hr
        refine ⟨by simp; omega, fun k hk' => ?_⟩
        rw [List.getElem?_append]
        by_cases hkk : k < r.esz - o
        · rw [if_pos (by simp; omega), Nat.add_assoc, Row.cell_at hc (by omega), List.getElem?_drop]
        · rw [if_neg (by simp; omega)]
          have := h2 (k - (r.esz - o)) (by omega)
          rw [show i * r.esz + o + k = (i + 1) * r.esz + 0 + (k - (r.esz - o)) by omega, this]
          congr 1
          simp; omega

theorem Row.read_spec {r : Row} (hk : r.ok) {off len : Nat} {l : List Value} (h : r.read off len = some l) :
    off + len ≤ r.cnt * r.esz ∧ l.length = len ∧ ∀ k, k < len → r.cell (off + k) = l[k]? := by
  unfold Row.read at h
  rw [nble] at h
  by_cases hb : off + len ≤ r.cnt * r.esz
  · simp only [hb, decide_true, cond_true] at h
    refine ⟨hb, ?_⟩
    cases len with
    | zero =>
      have : l = [] := by simp [readC] at h; exact h
      subst this
      exact ⟨rfl, fun k hk => by omega⟩
    | succ n =>
      have hz : 0 < r.esz := by rcases Nat.eq_zero_or_pos r.esz with e | e
                                · rw [e] at hb; omega
                                · exact e
      have e := Nat.div_add_mod off r.esz
      rw [Nat.mul_comm] at e
      have := readC_spec r hk _ _ _ _ _ (Nat.mod_lt off hz) (by omega) h
      rw [e] at this
      exact this
  · simp [hb] at h

theorem splice_length {c : List Value} {o : Nat} {vs : List Value} (h : o + vs.length ≤ c.length) : (splice c o vs).length = c.length := by
  unfold splice; simp; omega

theorem splice_get {c : List Value} {o : Nat} {vs : List Value} (h : o + vs.length ≤ c.length) (k : Nat) :
    (splice c o vs)[k]? = if o ≤ k ∧ k < o + vs.length then vs[k - o]? else c[k]? := by
  unfold splice
  rw [List.getElem?_append]
  simp only [List.length_take, show min o c.length = o by omega]
  by_cases h1 : k < o
  · rw [if_pos h1, if_neg (by omega), List.getElem?_take, if_pos h1]
  · rw [if_neg h1, List.getElem?_append]
    by_cases h2 : k - o < vs.length
    · rw [if_pos h2, if_pos (by omega)]
    · rw [if_neg h2, if_neg (by omega), List.getElem?_drop]
      congr 1; omega

/-- the same row but for cells in a range -/
structure Wrote (r r' : Row) (off : Nat) (vs : List Value) : Prop where
  elem : r'.elem = r.elem
  esz : r'.esz = r.esz
  cnt : r'.cnt = r.cnt
  cls : r'.cls = r.cls
  start : r'.start = r.start
  ok : r'.ok
  cell : ∀ j, r'.cell j = if off ≤ j ∧ j < off + vs.length then vs[j - off]? else r.cell j

theorem chunk_put {r : Row} (hk : r.ok) {i o : Nat} {c vs : List Value} (hc : r.cells.get i = some c) (hl : c.length = r.esz) (h : o + vs.length ≤ r.esz) (h0 : vs ≠ []) :
    Wrote r { r with cells := r.cells.set i (some (splice c o vs)) } (i * r.esz + o) vs := by
  have hpos : 0 < vs.length := List.length_pos_iff.2 h0
  refine ⟨rfl, rfl, rfl, rfl, rfl, ?_, ?_⟩
  · intro k hkk
    simp only [T.get_set]
    by_cases e : k = i
    · subst e
      exact ⟨splice c o vs, by simp, by rw [splice_length (by omega)]; exact hl⟩
    · simp only [e, if_false]
      exact hk k hkk
  · intro j
    unfold Row.cell
    simp only [T.get_set]
    have hz : 0 < r.esz := by omega
    have hd := Nat.div_add_mod j r.esz
    have hm := Nat.mod_lt j hz
    by_cases e : j / r.esz = i
    · simp only [e, if_true, hc]
      rw [splice_get (by omega)]
      rw [e, Nat.mul_comm] at hd
      by_cases hh : o ≤ j % r.esz ∧ j % r.esz < o + vs.length
      · rw [if_pos hh, if_pos (by omega)]
        congr 1; omega
      · rw [if_neg hh, if_neg (by omega)]
    · simp only [e, if_false]
      rw [if_neg]
      intro hh
      apply e
      have : j = i * r.esz + (j - i * r.esz) := by omega
      rw [this]
      exact div_add' (by omega)

theorem Wrote.trans {r r' r'' : Row} {off : Nat} {vs ws : List Value} (h : Wrote r r' off vs) (k : Wrote r' r'' (off + vs.length) ws) : Wrote r r'' off (vs ++ ws) := by
  refine ⟨k.elem.trans h.elem, k.esz.trans h.esz, k.cnt.trans h.cnt, k.cls.trans h.cls, k.start.trans h.start, k.ok, fun j => ?_⟩
  rw [k.cell, h.cell]
  by_cases h1 : off + vs.length ≤ j ∧ j < off + vs.length + ws.length
  · rw [if_pos h1, if_pos (by simp; omega), List.getElem?_append, if_neg (by omega)]
    congr 1; omega
  · rw [if_neg h1]
    by_cases h2 : off ≤ j ∧ j < off + vs.length
    · rw [if_pos h2, if_pos (by simp; omega), List.getElem?_append, if_pos (by omega)]
    · rw [if_neg h2, if_neg (by simp; omega)]

theorem writeC_spec : ∀ (f : Nat) (r : Row) (i o : Nat) (vs : List Value) (t : T (List Value)), r.ok → o < r.esz → i * r.esz + o + vs.length ≤ r.cnt * r.esz →
    writeC r.esz f r.cells i o vs = some t → Wrote r { r with cells := t } (i * r.esz + o) vs
  | _, r, i, o, [], t, hk, _, _, h => by
    have : t = r.cells := by cases ‹Nat› <;> simp [writeC] at h <;> exact h.symm
    subst this
    exact ⟨rfl, rfl, rfl, rfl, rfl, hk, fun j => by rw [if_neg (by simp only [List.length_nil]; omega)]⟩
  | 0, r, i, o, v :: vs, t, _, _, _, h => by simp [writeC] at h
  | f + 1, r, i, o, v :: vs, t, hk, ho, hb, h => by
    have hi : i < r.cnt := by
      have : i * r.esz < r.cnt * r.esz := by simp at hb; omega
      exact Nat.lt_of_mul_lt_mul_right this
    obtain ⟨c, hc, hl⟩ := hk i hi
    simp only [writeC, hc, nble] at h
    by_cases hle : o + (v :: vs).length ≤ r.esz
    · simp only [hle, decide_true, cond_true, Option.some.injEq] at h
      subst h
      exact chunk_put hk hc hl hle (by simp)
    · simp only [hle, decide_false, cond_false] at h
      have e1 : (i + 1) * r.esz = i * r.esz + r.esz := by rw [Nat.add_mul, Nat.one_mul]
      have ht : ((v :: vs).take (r.esz - o)).length = r.esz - o := by rw [List.length_take]; omega
      have w1 := chunk_put (vs := (v :: vs).take (r.esz - o)) hk hc hl (o := o) (by omega) (by intro e; rw [e] at ht; simp at ht; omega)
      have ih := writeC_spec f { r with cells := r.cells.set i (some (splice c o ((v :: vs).take (r.esz - o)))) } (i + 1) 0 ((v :: vs).drop (r.esz - o)) t w1.ok (by simp; omega) (by simp only [List.length_drop]; omega) h
      have := w1.trans (r'' := { r with cells := t }) (ws := (v :: vs).drop (r.esz - o)) (by
        rw [ht, show i * r.esz + o + (r.esz - o) = (i + 1) * r.esz + 0 by omega]; exact ih)
      rwa [List.take_append_drop] at this

theorem Row.write_spec {r r' : Row} (hk : r.ok) {off : Nat} {vs : List Value} (h : r.write off vs = some r') :
    off + vs.length ≤ r.cnt * r.esz ∧ Wrote r r' off vs := by
  unfold Row.write at h
  rw [nble] at h
  by_cases hb : off + vs.length ≤ r.cnt * r.esz
  · simp only [hb, decide_true, cond_true] at h
    refine ⟨hb, ?_⟩
    cases hw : writeC r.esz (vs.length + 1) r.cells (off / r.esz) (off % r.esz) vs with
    | none => simp [hw] at h
    | some t =>
      simp only [hw, Option.some.injEq] at h
      subst h
      cases vs with
      | nil =>
        have : t = r.cells := by simp [writeC] at hw; exact hw.symm
        subst this
        exact ⟨rfl, rfl, rfl, rfl, rfl, hk, fun j => by rw [if_neg (by simp only [List.length_nil]; omega)]⟩
      | cons v vs =>
        have hz : 0 < r.esz := by rcases Nat.eq_zero_or_pos r.esz with e | e
                                  · rw [e] at hb; simp at hb
                                  · exact e
        have e := Nat.div_add_mod off r.esz
        rw [Nat.mul_comm] at e
        have := writeC_spec _ r _ _ _ _ hk (Nat.mod_lt off hz) (by omega) hw
        rwa [e] at this
  · simp [hb] at h

theorem chunks_spec (esz : Nat) (hz : 0 < esz) : ∀ (f i : Nat) (vs : List Value) (t t' : T (List Value)), chunks esz f i vs t = some t' →
    ∃ n, vs.length = n * esz ∧ (∀ k, k < n → ∃ c, t'.get (i + k) = some c ∧ c.length = esz ∧ ∀ o, o < esz → c[o]? = vs[k * esz + o]?) ∧ ∀ k, (k < i ∨ i + n ≤ k) → t'.get k = t.get k
  | _, i, [], t, t', h => by
    have : t' = t := by cases ‹Nat› <;> simp [chunks] at h <;> exact h.symm
    subst this
    exact ⟨0, by simp, fun k hk => by omega, fun _ _ => rfl⟩
  | 0, i, v :: vs, t, t', h => by simp [chunks] at h
  | f + 1, i, v :: vs, t, t', h => by
    simp only [chunks, nble] at h
    by_cases hle : esz ≤ (v :: vs).length
    · simp only [hle, decide_true, cond_true] at h
      obtain ⟨n, h1, h2, h3⟩ := chunks_spec esz hz f (i + 1) _ _ _ h
      simp only [List.length_drop] at h1
      refine ⟨n + 1, by rw [Nat.add_mul]; omega, fun k hk => ?_, fun k hk => ?_⟩
      · cases k with
        | zero =>
          refine ⟨(v :: vs).take esz, ?_, by rw [List.length_take]; omega, fun o ho => ?_⟩
          · rw [h3 _ (.inl (by omega)), T.get_set]; simp
          · rw [List.getElem?_take, if_pos ho]; simp
        | succ k =>
          obtain ⟨c, g1, g2, g3⟩ := h2 k (by omega)
          refine ⟨c, by rw [show i + (k + 1) = i + 1 + k by omega]; exact g1, g2, fun o ho => ?_⟩
          rw [g3 o ho, List.getElem?_drop]
          congr 1
          rw [Nat.add_mul]; omega
      · rw [h3 k (by omega), T.get_set_ne _ _ (by omega)]
    · rw [decide_eq_false hle] at h; simp at h

theorem mkRow_spec {h : H} {elem esz cnt : Nat} {vs : List Value} {o : LObj} (hz : 0 < esz) (hl : vs.length = cnt * esz) (e : mkRow h elem esz cnt vs = some o) :
    ∃ r : Row, o = .row r ∧ r.ok ∧ r.elem = elem ∧ r.esz = esz ∧ r.cnt = cnt ∧ r.cls = h.next ∧ r.start = 0 ∧ ∀ j, j < cnt * esz → r.cell j = vs[j]? := by
  unfold mkRow at e
  cases hc : chunks esz vs.length 0 vs .leaf with
  | none => simp [hc] at e
  | some t =>
    simp only [hc, Option.some.injEq] at e
    obtain ⟨n, h1, h2, _⟩ := chunks_spec esz hz _ _ _ _ _ hc
    have hn : n = cnt := Nat.eq_of_mul_eq_mul_right hz (h1.symm.trans hl)
    subst hn
    refine ⟨_, e.symm, ?_, rfl, rfl, rfl, rfl, rfl, ?_⟩
    · intro i hi
      obtain ⟨c, g1, g2, _⟩ := h2 i hi
      exact ⟨c, by simpa using g1, g2⟩
    · intro j hj
      have hi : j / esz < n := Nat.div_lt_of_lt_mul (by rw [Nat.mul_comm]; exact hj)
      obtain ⟨c, g1, _, g3⟩ := h2 _ hi
      unfold Row.cell
      simp only [Nat.zero_add] at g1
      simp only [g1]
      rw [g3 _ (Nat.mod_lt j hz)]
      congr 1
      have := Nat.div_add_mod j esz
      rw [Nat.mul_comm] at this
      exact this
end Go.Lm

/- The logical heap and that of the machine. -/
namespace Go.Lm

def physD (σ : Sig) (d : Deferred) : Deferred :=
  { target := match d.target with
      | .fn fn c => .fn (physFn σ fn) ⟨c.toList.map (phys σ)⟩
      | .collected r => .collected (σ.blk r)
      | t => t
    args := ⟨d.args.toList.map (phys σ)⟩ }

inductive WfFn (σ : Sig) : Fn → Prop
  | func (f : FuncId) : WfFn σ (.func f)
  | method (n : String) : WfFn σ (.method n)
  | yield (l : Nat) (p : Place) (h : σ l = some p) : WfFn σ (.yield l)

inductive WfT (σ : Sig) : Target → Prop
  | fn (f : Fn) (c : Array Value) (h : WfFn σ f) (hc : ∀ v ∈ c.toList, Wf σ v) : WfT σ (.fn f c)
  | collected (r : Nat) (p : Place) (h : σ r = some p) : WfT σ (.collected r)

structure WfD (σ : Sig) (d : Deferred) : Prop where
  target : WfT σ d.target
  args : ∀ v ∈ d.args.toList, Wf σ v

theorem WfD.le {σ τ : Sig} (h : σ.Le τ) {d : Deferred} (w : WfD σ d) : WfD τ d := by
  refine ⟨?_, fun v hv => (w.args v hv).le h⟩
  cases e : d.target with
  | fn f c =>
    have := w.target; rw [e] at this
    cases this with
    | fn _ _ h1 hc =>
      refine .fn _ _ ?_ (fun v hv => (hc v hv).le h)
      cases h1 with
      | func f => exact .func f
      | method n => exact .method n
      | yield l p e' => exact .yield l p (h _ _ e')
  | collected r =>
    have := w.target; rw [e] at this
    cases this with
    | collected _ p h1 => exact .collected r p (h _ _ h1)
  | _ => have := w.target; rw [e] at this; cases this

theorem physD_le {σ τ : Sig} (h : σ.Le τ) {d : Deferred} (w : WfD σ d) : physD τ d = physD σ d := by
  unfold physD
  rw [physL_le h w.args]
  congr 1
  have ht := w.target
  cases e : d.target with
  | fn f c =>
    rw [e] at ht
    cases ht with
    | fn _ _ h1 hc =>
      simp only [physL_le h hc]
      cases h1 with
      | func f => rfl
      | method n => rfl
      | yield l p e' => simp [physFn, h.blk e']
  | collected r =>
    rw [e] at ht
    cases ht with
    | collected _ p h1 => simp [h.blk h1]
  | nil => rfl
  | builtin => rfl
  | coroexit => rfl

/-- temporaries -/
structure TmpRel (σ : Sig) (t : T Value) (a : Array Value) : Prop where
  val : ∀ n, n < a.size → a[n]? = some (phys σ ((t.get n).getD undefV))
  wf : ∀ n, Wf σ ((t.get n).getD undefV)
  out : ∀ n, a.size ≤ n → t.get n = none

theorem TmpRel.le {σ τ : Sig} (h : σ.Le τ) {t : T Value} {a : Array Value} (r : TmpRel σ t a) : TmpRel τ t a :=
  ⟨fun n hn => by rw [r.val n hn, phys_le h (r.wf n)], fun n => (r.wf n).le h, r.out⟩

theorem TmpRel.getD {σ : Sig} {t : T Value} {a : Array Value} (r : TmpRel σ t a) (n : Nat) : a.getD n undef = phys σ ((t.get n).getD undefV) := by
  by_cases h : n < a.size
  · have := r.val n h
    rw [Array.getD_eq_getD_getElem?, this]; rfl
  · rw [r.out n (by omega), Array.getD_eq_getD_getElem?, Array.getElem?_eq_none (by omega)]
    simp [phys_undef]

theorem TmpRel.set {σ : Sig} {t : T Value} {a : Array Value} (r : TmpRel σ t a) {d : Nat} {v : Value} (hd : d < a.size) (hv : Wf σ v) :
    TmpRel σ (t.set d (some v)) (a.setIfInBounds d (phys σ v)) := by
  refine ⟨fun n hn => ?_, fun n => ?_, fun n hn => ?_⟩
  · simp only [Array.size_setIfInBounds] at hn
    rw [T.get_set]
    by_cases e : n = d
    · subst e; simp [hn]
    · rw [if_neg e, ← r.val n hn, Array.getElem?_setIfInBounds_ne (by omega)]
  · rw [T.get_set]
    by_cases e : n = d
    · simp [e, hv]
    · rw [if_neg e]; exact r.wf n
  · simp only [Array.size_setIfInBounds] at hn
    rw [T.get_set_ne _ _ (by omega)]
    exact r.out n hn

structure LEnt (σ : Sig) (e : MapEntry) : Prop where
  key : Wf σ e.key
  val : Wf σ e.val

def physE (σ : Sig) (e : MapEntry) : MapEntry := { key := phys σ e.key, val := phys σ e.val, born := e.born }

/-- how an object lies -/
def objRel (σ : Sig) (w : World) (p : Place) : LObj → Prop
  | .row r => p.row = true ∧ r.esz = p.esz ∧ r.cls = p.cls ∧ r.start = p.start ∧ r.cnt ≤ p.cap ∧ r.ok ∧
      ∀ j v, j < r.cnt * r.esz → r.cell j = some v → w.cell? ⟨p.blk, p.dlt + j, none⟩ = some (phys σ v) ∧ Wf σ v ∧ v.oneCell' = true
  | .dead => p.row = true
  | .map es clock => p.row = false ∧ w.heap[p.blk]? = some (.map ⟨es.map (physE σ)⟩ clock) ∧ ∀ e ∈ es, LEnt σ e
  | .strIter s pos => p.row = false ∧ w.heap[p.blk]? = some (.stringIter s pos)
  | .mapIter m since seen stepped => p.row = false ∧ w.heap[p.blk]? = some (.mapIter (m.map σ.blk) since ⟨seen⟩ stepped) ∧ since ≤ stepped ∧ ∀ b, m = some b → ∃ q, σ b = some q
  | .loop st pending fn tmps nt params assign body defers => p.row = false ∧ (∃ q, σ defers = some q) ∧ ∃ a, w.heap[p.blk]? = some (.loop { state := st, pending, fn, tmps := a, params := ⟨params⟩, assign, body, defers := σ.blk defers }) ∧ TmpRel σ tmps a ∧ a.size = nt
  | .deferred calls => p.row = false ∧ w.heap[p.blk]? = some (.deferred (calls.map (List.map (physD σ)))) ∧ ∀ l, calls = some l → ∀ d ∈ l, WfD σ d

/-- what is frozen of a block lies behind its end -/
def endFz (w : World) (b : Nat) : Prop := ∀ c e lo hi, w.heap[b]? = some (.cells c e (lo, hi)) → lo = hi ∨ c.size ≤ lo

structure HRel (N0 : Nat) (w0 : World) (σ : Sig) (h : H) (w : World) : Prop where
  lt : ∀ b p, σ b = some p → b < h.next
  got : ∀ b o, h.objs.get b = some o → b < h.next
  obj : ∀ b p o, σ b = some p → h.objs.get b = some o → objRel σ w p o
  row : ∀ b p, σ b = some p → p.row = true → 0 < p.esz ∧ w.there p.blk 0 (p.dlt + p.cap * p.esz)
  inj : ∀ b b' p p', σ b = some p → σ b' = some p' → p.blk = p'.blk → b = b' ∨ (p.row = true ∧ p'.row = true ∧ p.cls = p'.cls ∧ p.dlt + p'.start = p'.dlt + p.start)
  rng : ∀ b p, σ b = some p → N0 ≤ p.blk ∧ p.blk < w.heap.size
  cls : ∀ b r, h.objs.get b = some (.row r) → (h.cls.get r.cls = none → b = r.cls) ∧ (∀ l, h.cls.get r.cls = some l → b ∈ l)
  clsLt : ∀ c l, h.cls.get c = some l → c < h.next
  old : ∀ q, q < N0 → w.heap[q]? = w0.heap[q]?
  size : N0 ≤ w.heap.size
  os : w.os = w0.os
  output : w.output = w0.output
  fz : ∀ b p, σ b = some p → p.row = true → endFz w p.blk
  rok : ∀ b r, h.objs.get b = some (.row r) → r.ok
  nrow : ∀ b p, σ b = some p → p.row = false → p.dlt = 0
end Go.Lm

/- The heap's operations keep the relation. -/
namespace Go.Lm

theorem oneCell_phys (σ : Sig) (v : Value) : (phys σ v).oneCell' = v.oneCell' := by
  cases v <;> simp [Value.oneCell']
  rename_i a n c
  rcases a with _ | ⟨b, off, _ | o⟩ <;> rfl

def overlaps (r : Row) (lo hi : Nat) : Bool := Nat.blt r.start hi && Nat.blt lo (r.start + r.cnt * r.esz)

theorem H.kill_spec (keep lo hi : Nat) : ∀ (l : List Nat) (h : H), (h.kill keep lo hi l).next = h.next ∧ (h.kill keep lo hi l).cls = h.cls ∧
    ∀ b, (h.kill keep lo hi l).objs.get b = match h.objs.get b with
      | some (.row r) => if b ≠ keep ∧ b ∈ l ∧ overlaps r lo hi = true then some .dead else some (.row r)
      | o => o
  | [], h => ⟨rfl, rfl, fun b => by
      simp only [H.kill]
      split <;> simp_all⟩
  | a :: l, h => by
    unfold H.kill
    rw [nbeq]
    by_cases ha : a = keep
    · simp only [ha, decide_true, cond_true]
      obtain ⟨h1, h2, h3⟩ := H.kill_spec keep lo hi l h
      refine ⟨h1, h2, fun b => ?_⟩
      rw [h3]
      cases hb : h.objs.get b with
      | none => rfl
      | some o =>
        cases o <;> simp only
        by_cases e : b = keep
        · simp [e]
        · simp [e]
    · simp only [ha, decide_false, cond_false]
      cases hg : h.objs.get a with
      | none =>
        simp only
        obtain ⟨h1, h2, h3⟩ := H.kill_spec keep lo hi l h
        refine ⟨h1, h2, fun b => ?_⟩
        rw [h3]
        cases hb : h.objs.get b with
        | none => rfl
        | some o =>
          cases o <;> simp only
          have : b ≠ a := by intro e; rw [e, hg] at hb; cases hb
          simp [this]
      | some o =>
        cases o with
        | row r =>
          simp only
          cases ho : overlaps r lo hi with
          | false =>
            unfold overlaps at ho
            rw [ho]
            simp only [cond_false]
            obtain ⟨h1, h2, h3⟩ := H.kill_spec keep lo hi l h
            refine ⟨h1, h2, fun b => ?_⟩
            rw [h3]
            cases hb : h.objs.get b with
            | none => rfl
            | some o =>
              cases o <;> simp only
              rename_i r'
              by_cases e : b = a
              · subst e
                rw [hg] at hb; cases hb
                simp [overlaps, ho]
              · simp [e]
          | true =>
            have ho' := ho
            unfold overlaps at ho
            rw [ho]
            simp only [cond_true]
            obtain ⟨h1, h2, h3⟩ := H.kill_spec keep lo hi l (h.put a .dead)
            refine ⟨h1, h2, fun b => ?_⟩
            rw [h3]
            simp only [H.put, T.get_set]
            by_cases e : b = a
            · subst e
              simp [hg, ho', ha]
            · simp only [e, if_false]
              cases hb : h.objs.get b with
              | none => rfl
              | some o =>
                cases o <;> simp only
                simp [e]
        | _ =>
          simp only
          obtain ⟨h1, h2, h3⟩ := H.kill_spec keep lo hi l h
          refine ⟨h1, h2, fun b => ?_⟩
          rw [h3]
          cases hb : h.objs.get b with
          | none => rfl
          | some o =>
            cases o <;> simp only
            have : b ≠ a := by intro e; rw [e, hg] at hb; cases hb
            simp [this]

theorem World.setCells_size (b : Nat) : ∀ (vs : List Value) (o : Nat) (w : World), (w.setCells b o vs).heap.size = w.heap.size
  | [], _, _ => rfl
  | v :: r, o, w => by rw [World.setCells, World.setCells_size b r]; simp [World.setCell]

theorem World.setCells_other (b : Nat) : ∀ (vs : List Value) (o : Nat) (w : World) (i : Nat), i ≠ b → (w.setCells b o vs).heap[i]? = w.heap[i]?
  | [], _, _, _, _ => rfl
  | v :: r, o, w, i, h => by
    rw [World.setCells, World.setCells_other b r _ _ i h]
    simp [World.setCell, Array.getElem?_modify, Ne.symm h]

theorem endFz_of_heap {w w' : World} {b : Nat} (h : w'.heap[b]? = w.heap[b]?) (f : endFz w b) : endFz w' b := by
  unfold endFz; rw [h]; exact f

theorem endFz_setCells {b' : Nat} : ∀ {w : World}, endFz w b' → ∀ (b o : Nat) (vs : List Value), endFz (w.setCells b o vs) b'
  | w, f, b, o, [] => f
  | w, f, b, o, v :: vs => by
    rw [World.setCells]
    refine endFz_setCells ?_ b (o + 1) vs
    intro c e lo hi hc
    simp only [World.setCell, Array.getElem?_modify] at hc
    split at hc
    · rename_i hb
      subst hb
      cases hg : w.heap[b]? with
      | none => simp [hg] at hc
      | some ob =>
        simp only [hg, Option.map_some, Option.some.injEq] at hc
        cases ob <;> simp only at hc
        all_goals (try (cases hc; done))
        rename_i c0 e0 f0
        obtain ⟨lo0, hi0⟩ := f0
        simp at hc
        obtain ⟨rfl, rfl, rfl, rfl⟩ := hc
        have := f _ _ _ _ hg
        simpa using this
    · exact f _ _ _ _ hc

section
variable {N0 : Nat} {w0 : World} {σ : Sig} {h : H} {w : World}

/-- what does not touch the heap -/
theorem HRel.world (R : HRel N0 w0 σ h w) {w' : World} (e : w'.heap = w.heap) (eo : w'.os = w.os) (ep : w'.output = w.output) : HRel N0 w0 σ h w' := by
  have hc : ∀ a, w'.cell? a = w.cell? a := fun a => by unfold World.cell?; rw [e]
  have hf : ∀ a, w'.frozen? a = w.frozen? a := fun a => by unfold World.frozen?; rw [e]
  refine ⟨R.lt, R.got, fun b p o hp ho => ?_, fun b p hp hr => ?_, R.inj, fun b p hp => by rw [e]; exact R.rng b p hp, R.cls, R.clsLt, fun q hq => by rw [e]; exact R.old q hq, by rw [e]; exact R.size, eo.trans R.os, ep.trans R.output, fun b p hp hr => by unfold endFz; rw [e]; exact R.fz b p hp hr, R.rok, R.nrow⟩
  · have := R.obj b p o hp ho
    cases o <;> simp only [objRel, hc, e] at this ⊢ <;> exact this
  · obtain ⟨h0, h1⟩ := R.row b p hp hr
    exact ⟨h0, fun j hj => by rw [hc, hf]; exact h1 j hj⟩

theorem HRel.rowAt (R : HRel N0 w0 σ h w) {b : Nat} {p : Place} (hp : σ b = some p) {r : Row} (hr : h.row b = some r) : objRel σ w p (.row r) ∧ h.objs.get b = some (.row r) := by
  unfold H.row at hr
  cases ho : h.objs.get b with
  | none => simp [ho] at hr
  | some o =>
    cases o <;> simp [ho] at hr
    subst hr
    exact ⟨R.obj b p _ hp ho, rfl⟩

/-- reading -/
theorem HRel.readAt (R : HRel N0 w0 σ h w) {b off len : Nat} {l : List Value} {p : Place} (hp : σ b = some p) (e : h.readAt b off len = some l) :
    l.length = len ∧ w.rangeAt p.blk (p.dlt + off) (l.map (phys σ)) ∧ (∀ v ∈ l, Wf σ v ∧ v.oneCell' = true) ∧ p.row = true := by
  unfold H.readAt at e
  cases hr : h.row b with
  | none => simp [hr] at e
  | some r =>
    simp only [hr] at e
    obtain ⟨⟨h1, h2, h3, h4, h5, hk, hcell⟩, _⟩ := R.rowAt hp hr
    obtain ⟨hb, hl, hc⟩ := Row.read_spec hk e
    refine ⟨hl, fun j v hv => ?_, fun v hv => ?_, h1⟩
    · rw [List.getElem?_map] at hv
      cases hj : l[j]? with
      | none => simp [hj] at hv
      | some u =>
        have hlt := (List.getElem?_eq_some_iff.1 hj).1
        simp only [hj, Option.map_some, Option.some.injEq] at hv
        subst hv
        have := (hcell (off + j) u (by omega) (by rw [hc j (by omega), hj])).1
        rw [show p.dlt + off + j = p.dlt + (off + j) by omega]
        exact this
    · obtain ⟨j, hj, rfl⟩ := List.getElem_of_mem hv
      have := hcell (off + j) l[j] (by omega) (by rw [hc j (by omega), List.getElem?_eq_getElem hj])
      exact this.2

/-- rows of a class that overlap a range are dead; the others, but for one object, are as they were -/
structure Killed (h h' : H) (b c lo hi : Nat) : Prop where
  same : ∀ b', b' ≠ b → h'.objs.get b' = h.objs.get b' ∨ (h'.objs.get b' = some .dead ∧ ∃ q, h.objs.get b' = some (.row q))
  apart : ∀ b' q, b' ≠ b → h'.objs.get b' = some (.row q) → q.cls = c → overlaps q lo hi = false

theorem H.killed (R : HRel N0 w0 σ h w) (b lo hi : Nat) {c : Nat} {l : List Nat} (hc : h.cls.get c = some l) :
    ((h.kill b lo hi l).next = h.next ∧ (h.kill b lo hi l).cls = h.cls) ∧ Killed h (h.kill b lo hi l) b c lo hi := by
  obtain ⟨k1, k2, k3⟩ := H.kill_spec b lo hi l h
  refine ⟨⟨k1, k2⟩, fun b' e2 => ?_, fun b' q e2 hg hqc => ?_⟩
  · rw [k3]
    cases hg : h.objs.get b' with
    | none => exact .inl rfl
    | some o =>
      cases o <;> simp only
      all_goals (try exact .inl trivial)
      split
      · exact .inr ⟨rfl, _, rfl⟩
      · exact .inl rfl
  · rw [k3] at hg
    cases hg' : h.objs.get b' with
    | none => simp [hg'] at hg
    | some o =>
      rw [hg'] at hg
      cases o <;> simp only at hg
      all_goals (try (cases hg; done))
      rename_i q'
      split at hg
      · cases hg
      · rename_i hn
        cases hg
        have hm := (R.cls b' q hg').2 l (by rw [hqc]; exact hc)
        cases ho : overlaps q lo hi with
        | false => rfl
        | true => exact absurd ⟨e2, hm, ho⟩ hn

/-- writing -/
theorem HRel.writeAt (R : HRel N0 w0 σ h w) {b off : Nat} {vs : List Value} {h' : H} {p : Place} (hp : σ b = some p) (e : h.writeAt b off vs = some h')
    (hv : ∀ v ∈ vs, Wf σ v ∧ v.oneCell' = true) :
    w.there p.blk (p.dlt + off) vs.length ∧ HRel N0 w0 σ h' (w.setCells p.blk (p.dlt + off) (vs.map (phys σ))) ∧ h'.next = h.next := by
  unfold H.writeAt at e
  cases hr : h.row b with
  | none => simp [hr] at e
  | some r =>
    simp only [hr] at e
    obtain ⟨⟨h1, h2, h3, h4, h5, hk, hcell⟩, hget⟩ := R.rowAt hp hr
    cases hw : r.write off vs with
    | none => simp [hw] at e
    | some r' =>
      simp only [hw] at e
      obtain ⟨hb, wr⟩ := Row.write_spec hk hw
      obtain ⟨hz, ht⟩ := R.row b p hp h1
      have hcap : r.cnt * r.esz ≤ p.cap * p.esz := by rw [h2]; exact Nat.mul_le_mul_right _ h5
      have hthere : w.there p.blk (p.dlt + off) vs.length := fun j hj => by
        have := ht (p.dlt + off + j) (by omega)
        simpa using this
      have hget' : (h'.next = h.next ∧ h'.cls = h.cls) ∧ h'.objs.get b = some (.row r') ∧ Killed h h' b r.cls (r.start + off) (r.start + off + vs.length) := by
        cases hcl : h.cls.get r.cls with
        | none =>
          simp only [hcl, nbeq] at e
          by_cases hbb : r.cls = b
          · simp only [hbb, decide_true, cond_true, Option.some.injEq] at e
            subst e
            refine ⟨⟨rfl, rfl⟩, by simp [H.put, T.get_set], fun b' e2 => ?_, fun b' q e2 hg hqc => ?_⟩
            · simp [H.put, T.get_set_ne _ _ e2]
            · simp only [H.put, T.get_set_ne _ _ e2] at hg
              have := (R.cls b' q hg).1 (by rw [hqc]; exact hcl)
              exact absurd (by rw [this, hqc, hbb]) e2
          · simp [hbb] at e
        | some l =>
          simp only [hcl, Option.some.injEq] at e
          subst e
          have K := H.killed R b (r.start + off) (r.start + off + vs.length) hcl
          refine ⟨K.1, by simp [H.put, T.get_set], fun b' e2 => ?_, fun b' q e2 hg hqc => ?_⟩
          · simp only [H.put, T.get_set_ne _ _ e2]
            exact K.2.same b' e2
          · simp only [H.put, T.get_set_ne _ _ e2] at hg
            exact K.2.apart b' q e2 hg hqc
      obtain ⟨⟨hn, hcl⟩, hgb, K⟩ := hget'
      refine ⟨hthere, ?_, hn⟩
      have hsz := World.setCells_size p.blk (vs.map (phys σ)) (p.dlt + off) w
      have hlen : (vs.map (phys σ)).length = vs.length := by simp
      -- objects that are no rows lie in other blocks
      have hother : ∀ b' p', σ b' = some p' → p'.row = false → p'.blk ≠ p.blk := fun b' p' hp' hf eq => by
        rcases R.inj b' b p' p hp' hp eq with rfl | ⟨h, _⟩
        · rw [hp] at hp'; cases hp'; rw [h1] at hf; cases hf
        · rw [h] at hf; cases hf
      refine ⟨fun b' p' hp' => by rw [hn]; exact R.lt b' p' hp', fun b' o ho => ?_, fun b' p' o hp' ho => ?_, fun b' p' hp' hr' => ?_, R.inj, fun b' p' hp' => by rw [hsz]; exact R.rng b' p' hp', fun b' q hq => ?_, fun c l hc => by rw [hcl] at hc; rw [hn]; exact R.clsLt c l hc, fun q hq => ?_, by rw [hsz]; exact R.size, by rw [World.os_setCells]; exact R.os, by rw [World.output_setCells]; exact R.output, fun b' p' hp' hr' => endFz_setCells (R.fz b' p' hp' hr') _ _ _, fun b' q hq => ?_, R.nrow⟩
      · rw [hn]
        by_cases e2 : b' = b
        · subst e2; exact R.lt _ _ hp
        · rcases K.same b' e2 with h | ⟨h, q, hq⟩
          · exact R.got b' o (by rw [← h]; exact ho)
          · exact R.got b' _ hq
      · by_cases e2 : b' = b
        · subst e2
          rw [hp] at hp'; cases hp'
          rw [hgb] at ho; cases ho
          refine ⟨h1, wr.esz.trans h2, wr.cls.trans h3, wr.start.trans h4, by rw [wr.cnt]; exact h5, wr.ok, fun j v hj hc => ?_⟩
          rw [wr.cnt, wr.esz] at hj
          rw [wr.cell] at hc
          by_cases hin : off ≤ j ∧ j < off + vs.length
          · rw [if_pos hin] at hc
            obtain ⟨hlt, hvj⟩ := List.getElem?_eq_some_iff.1 hc
            have hin' := World.cell?_setCells_in p.blk (vs.map (phys σ)) (p.dlt + off) w (fun i hi => (hthere i (by simpa using hi)).1) (j - off) (by simpa using hlt)
            rw [show p.dlt + off + (j - off) = p.dlt + j by omega] at hin'
            exact ⟨by rw [hin']; simp [hvj], hv v (by rw [← hvj]; exact List.getElem_mem hlt)⟩
          · rw [if_neg hin] at hc
            have := hcell j v hj hc
            refine ⟨?_, this.2⟩
            rw [World.cell?_setCells_out _ _ _ _ _ (fun _ _ => by simp only [hlen]; omega)]
            exact this.1
        · have hold : ∀ o, h.objs.get b' = some o → (∀ q, o = .row q → q.cls = r.cls → overlaps q (r.start + off) (r.start + off + vs.length) = false) → objRel σ (w.setCells p.blk (p.dlt + off) (vs.map (phys σ))) p' o := by
            intro o ho hap
            have := R.obj b' p' o hp' ho
            cases o with
            | row q =>
              obtain ⟨g1, g2, g3, g4, g5, g6, g7⟩ := this
              refine ⟨g1, g2, g3, g4, g5, g6, fun j v hj hc => ?_⟩
              obtain ⟨c1, c2⟩ := g7 j v hj hc
              refine ⟨?_, c2⟩
              rw [World.cell?_setCells_out _ _ _ _ _ (fun hblk _ => ?_)]
              · exact c1
              · simp only [hlen]
                rcases R.inj b' b p' p hp' hp hblk with e | ⟨_, _, i3, i4⟩
                · exact absurd e e2
                · have := hap q rfl (by rw [g3, i3, ← h3])
                  unfold overlaps at this
                  rw [nblt, nblt, Bool.and_eq_false_iff, decide_eq_false_iff_not, decide_eq_false_iff_not] at this
                  rw [h4] at this
                  rw [g4] at this
                  simp only at *
                  omega
            | dead => exact this
            | map es clock => exact ⟨this.1, by rw [World.setCells_other _ _ _ _ _ (hother b' p' hp' this.1)]; exact this.2.1, this.2.2⟩
            | strIter s pos => exact ⟨this.1, by rw [World.setCells_other _ _ _ _ _ (hother b' p' hp' this.1)]; exact this.2⟩
            | mapIter m since seen stepped => exact ⟨this.1, by rw [World.setCells_other _ _ _ _ _ (hother b' p' hp' this.1)]; exact this.2.1, this.2.2⟩
            | loop st pending fn tmps nt params assign body defers => exact ⟨this.1, this.2.1, by rw [World.setCells_other _ _ _ _ _ (hother b' p' hp' this.1)]; exact this.2.2⟩
            | deferred calls => exact ⟨this.1, by rw [World.setCells_other _ _ _ _ _ (hother b' p' hp' this.1)]; exact this.2.1, this.2.2⟩
          rcases K.same b' e2 with hs | ⟨hs, q, hq⟩
          · rw [hs] at ho
            exact hold o ho (fun q eq hqc => K.apart b' q e2 (by rw [hs, ho, eq]) hqc)
          · rw [hs] at ho; cases ho
            exact (R.obj b' p' _ hp' hq).1
      · obtain ⟨z0, z1⟩ := R.row b' p' hp' hr'
        exact ⟨z0, World.there_setCells z1 _ _ _⟩
      · rw [hcl]
        by_cases e2 : b' = b
        · subst e2
          rw [hgb] at hq; cases hq
          rw [wr.cls]
          exact R.cls _ r hget
        · rcases K.same b' e2 with hs | ⟨hs, q', hq'⟩
          · exact R.cls b' q (by rw [← hs]; exact hq)
          · rw [hs] at hq; cases hq
      · rw [World.setCells_other _ _ _ _ _ (by have := (R.rng b p hp).1; omega)]
        exact R.old q hq
      · by_cases e2 : b' = b
        · subst e2
          rw [hgb] at hq; cases hq
          exact wr.ok
        · rcases K.same b' e2 with hs | ⟨hs, q', hq'⟩
          · exact R.rok b' q (by rw [← hs]; exact hq)
          · rw [hs] at hq; cases hq
end
end Go.Lm

/- New objects. -/
namespace Go.Lm

def Sig.put (σ : Sig) (b : Nat) (p : Place) : Sig := fun b' => if b' = b then some p else σ b'
theorem Sig.put_same (σ : Sig) (b : Nat) (p : Place) : σ.put b p b = some p := by simp [Sig.put]
theorem Sig.le_put {σ : Sig} {b : Nat} (p : Place) (h : σ b = none) : σ.Le (σ.put b p) := fun b' q e => by
  unfold Sig.put
  by_cases e2 : b' = b
  · rw [e2, h] at e; cases e
  · rw [if_neg e2]; exact e

theorem LEnt.le {σ τ : Sig} (h : σ.Le τ) {e : MapEntry} (w : LEnt σ e) : LEnt τ e := ⟨w.key.le h, w.val.le h⟩
theorem physE_le {σ τ : Sig} (h : σ.Le τ) {e : MapEntry} (w : LEnt σ e) : physE τ e = physE σ e := by
  unfold physE; rw [phys_le h w.key, phys_le h w.val]

theorem cell_of_heap {w w' : World} {g : Nat} (h : w'.heap[g]? = w.heap[g]?) (j : Nat) : w'.cell? ⟨g, j, none⟩ = w.cell? ⟨g, j, none⟩ := by
  unfold World.cell?; rw [h]
theorem frozen_of_heap {w w' : World} {g : Nat} (h : w'.heap[g]? = w.heap[g]?) (j : Nat) : w'.frozen? ⟨g, j, none⟩ = w.frozen? ⟨g, j, none⟩ := by
  unfold World.frozen?; rw [h]

theorem objRel_mono {σ τ : Sig} (hle : σ.Le τ) {w w' : World} {p : Place} {o : LObj} (hh : w'.heap[p.blk]? = w.heap[p.blk]?) (r : objRel σ w p o) : objRel τ w' p o := by
  cases o with
  | row r' =>
    obtain ⟨g1, g2, g3, g4, g5, g6, g7⟩ := r
    refine ⟨g1, g2, g3, g4, g5, g6, fun j v hj hc => ?_⟩
    obtain ⟨c1, c2, c3⟩ := g7 j v hj hc
    rw [cell_of_heap hh, phys_le hle c2]
    exact ⟨c1, c2.le hle, c3⟩
  | dead => exact r
  | map es clock =>
    obtain ⟨g1, g2, g3⟩ := r
    refine ⟨g1, ?_, fun e he => (g3 e he).le hle⟩
    rw [hh, g2, List.map_congr_left fun e he => physE_le hle (g3 e he)]
  | strIter s pos => exact ⟨r.1, by rw [hh]; exact r.2⟩
  | mapIter m since seen stepped =>
    obtain ⟨g1, g2, g3, g4⟩ := r
    refine ⟨g1, ?_, g3, fun b hb => ?_⟩
    · rw [hh, g2]
      cases m with
      | none => rfl
      | some m =>
        obtain ⟨q, hq⟩ := g4 m rfl
        simp [hle.blk hq]
    · obtain ⟨q, hq⟩ := g4 b hb
      exact ⟨q, hle _ _ hq⟩
  | loop st pending fn tmps nt params assign body defers =>
    obtain ⟨g1, ⟨q, hq⟩, a, g2, g3, g4⟩ := r
    exact ⟨g1, ⟨q, hle _ _ hq⟩, a, by rw [hh, g2, hle.blk hq], g3.le hle, g4⟩
  | deferred calls =>
    obtain ⟨g1, g2, g3⟩ := r
    refine ⟨g1, ?_, fun l hl d hd => (g3 l hl d hd).le hle⟩
    rw [hh, g2]
    cases calls with
    | none => rfl
    | some l =>
      simp only [Option.map_some]
      rw [List.map_congr_left fun d hd => physD_le hle (g3 l rfl d hd)]

section
variable {N0 : Nat} {w0 : World} {σ : Sig} {h : H} {w : World}

theorem HRel.none_of_ge (R : HRel N0 w0 σ h w) {b : Nat} (hb : h.next ≤ b) : σ b = none := by
  cases e : σ b with
  | none => rfl
  | some p => have := R.lt b p e; omega

/-- A logical object that lies nowhere yet. -/
theorem HRel.newL (R : HRel N0 w0 σ h w) (o : LObj) (hc : ∀ r, o = .row r → r.cls = h.next ∧ r.ok) : HRel N0 w0 σ (h.new o) w := by
  have hn := R.none_of_ge (Nat.le_refl h.next)
  have hne : ∀ b p, σ b = some p → b ≠ h.next := fun b p e e2 => by rw [e2, hn] at e; cases e
  refine ⟨fun b p hp => Nat.lt_succ_of_lt (R.lt b p hp), fun b o' ho => ?_, fun b p o' hp ho => ?_, R.row, R.inj, R.rng, fun b r hr => ?_, fun c l hl => Nat.lt_succ_of_lt (R.clsLt c l hl), R.old, R.size, R.os, R.output, R.fz, fun b r hr => ?_, R.nrow⟩
  · simp only [H.new, T.get_set] at ho ⊢
    by_cases e : b = h.next
    · omega
    · rw [if_neg e] at ho
      have := R.got b o' ho
      omega
  · simp only [H.new, T.get_set] at ho
    rw [if_neg (hne b p hp)] at ho
    exact R.obj b p o' hp ho
  · simp only [H.new, T.get_set] at hr ⊢
    by_cases e : b = h.next
    · rw [if_pos e] at hr
      have := (hc r (Option.some.inj hr)).1
      rw [this]
      exact ⟨fun _ => e, fun l hl => by have := R.clsLt _ _ hl; omega⟩
    · rw [if_neg e] at hr
      exact R.cls b r hr
  · simp only [H.new, T.get_set] at hr
    by_cases e : b = h.next
    · rw [if_pos e] at hr
      exact (hc r (Option.some.inj hr)).2
    · rw [if_neg e] at hr
      exact R.rok b r hr

theorem alloc_get_lt {w : World} {o : Obj} {i : Nat} (hi : i < w.heap.size) : (w.alloc o).heap[i]? = w.heap[i]? := by
  show (w.heap.push o)[i]? = _
  simp [Array.getElem?_push, Nat.ne_of_lt hi]

/-- It is laid into a new block. -/
theorem HRel.lay (R : HRel N0 w0 σ h w) {b : Nat} (hs : σ b = none) (hb : b < h.next) (o : Obj) {p : Place} (hblk : p.blk = w.heap.size)
    (hobj : ∀ ob, h.objs.get b = some ob → objRel (σ.put b p) (w.alloc o) p ob)
    (hrow : p.row = true → 0 < p.esz ∧ (w.alloc o).there p.blk 0 (p.dlt + p.cap * p.esz)) (hfz : p.row = true → endFz (w.alloc o) p.blk) (hnr : p.row = false → p.dlt = 0) :
    HRel N0 w0 (σ.put b p) h (w.alloc o) := by
  have hle := Sig.le_put p hs
  have hcase : ∀ b' q, σ.put b p b' = some q → (b' = b ∧ q = p) ∨ (b' ≠ b ∧ σ b' = some q) := fun b' q e => by
    unfold Sig.put at e
    by_cases e2 : b' = b
    · rw [if_pos e2] at e; exact .inl ⟨e2, (Option.some.inj e).symm⟩
    · rw [if_neg e2] at e; exact .inr ⟨e2, e⟩
  refine ⟨fun b' q e => ?_, R.got, fun b' q ob e ho => ?_, fun b' q e hr => ?_, fun b' b'' q q' e e' eb => ?_, fun b' q e => ?_, R.cls, R.clsLt, fun q hq => ?_, ?_, R.os, R.output, fun b' q e hr => ?_, R.rok, fun b' q e hr => ?_⟩
  · rcases hcase b' q e with ⟨rfl, _⟩ | ⟨_, e⟩
    · exact hb
    · exact R.lt b' q e
  · rcases hcase b' q e with ⟨rfl, rfl⟩ | ⟨_, e⟩
    · exact hobj ob ho
    · exact objRel_mono hle (alloc_get_lt (R.rng b' q e).2) (R.obj b' q ob e ho)
  · rcases hcase b' q e with ⟨rfl, rfl⟩ | ⟨_, e⟩
    · exact hrow hr
    · obtain ⟨z0, z1⟩ := R.row b' q e hr
      have hh := alloc_get_lt (o := o) (R.rng b' q e).2
      exact ⟨z0, fun j hj => by rw [cell_of_heap hh, frozen_of_heap hh]; exact z1 j hj⟩
  · rcases hcase b' q e with ⟨rfl, rfl⟩ | ⟨_, e1⟩ <;> rcases hcase b'' q' e' with ⟨rfl, rfl⟩ | ⟨_, e2⟩
    · exact .inl rfl
    · have := (R.rng _ _ e2).2; omega
    · have := (R.rng _ _ e1).2; omega
    · exact R.inj _ _ _ _ e1 e2 eb
  · have hsz : (w.alloc o).heap.size = w.heap.size + 1 := by show (w.heap.push o).size = _; simp
    rcases hcase b' q e with ⟨rfl, rfl⟩ | ⟨_, e⟩
    · exact ⟨by rw [hblk]; exact R.size, by omega⟩
    · have := R.rng b' q e; omega
  · rw [alloc_get_lt (by have := R.size; omega)]; exact R.old q hq
  · have := R.size; show N0 ≤ (w.heap.push o).size; simp; omega
  · rcases hcase b' q e with ⟨rfl, rfl⟩ | ⟨_, e⟩
    · exact hfz hr
    · exact endFz_of_heap (alloc_get_lt (R.rng b' q e).2) (R.fz b' q e hr)
  · rcases hcase b' q e with ⟨rfl, rfl⟩ | ⟨_, e⟩
    · exact hnr hr
    · exact R.nrow b' q e hr

theorem cells_new {w : World} {cs : Array Value} {e : TypeId} (j : Nat) : (w.alloc (.cells cs e)).cell? ⟨w.heap.size, j, none⟩ = cs[j]? := by
  have : (w.alloc (.cells cs e)).heap[w.heap.size]? = some (.cells cs e) := by show (w.heap.push _)[w.heap.size]? = _; simp
  unfold World.cell?; rw [this]; rfl
theorem frozen_new {w : World} {cs : Array Value} {e : TypeId} (j : Nat) : (w.alloc (.cells cs e)).frozen? ⟨w.heap.size, j, none⟩ = false := by
  have : (w.alloc (.cells cs e)).heap[w.heap.size]? = some (.cells cs e) := by show (w.heap.push _)[w.heap.size]? = _; simp
  unfold World.frozen?; rw [this]; simp

/-- A row is laid: the block may have more cells than the row. -/
theorem HRel.layRow (R : HRel N0 w0 σ h w) {b : Nat} (hs : σ b = none) {r : Row} (hr : h.objs.get b = some (.row r)) (cs : Array Value) (e : TypeId) (cap : Nat)
    (hz : 0 < r.esz) (hk : r.ok) (hcap : r.cnt ≤ cap) (hsz : cap * r.esz ≤ cs.size)
    (hc : ∀ j v, j < r.cnt * r.esz → r.cell j = some v → cs[j]? = some (phys σ v) ∧ Wf σ v ∧ v.oneCell' = true) :
    HRel N0 w0 (σ.put b { blk := w.heap.size, dlt := 0, cap, esz := r.esz, cls := r.cls, start := r.start, row := true }) h (w.alloc (.cells cs e)) := by
  have hle := Sig.le_put { blk := w.heap.size, dlt := 0, cap, esz := r.esz, cls := r.cls, start := r.start, row := true } hs
  refine R.lay hs (R.got b _ hr) _ rfl (fun ob ho => ?_) (fun _ => ⟨hz, fun j hj => ?_⟩) (fun _ c' e' lo hi hc' => ?_) (fun e => by cases e)
  · rw [hr] at ho; cases ho
    refine ⟨rfl, rfl, rfl, rfl, hcap, hk, fun j v hj hcv => ?_⟩
    obtain ⟨c1, c2, c3⟩ := hc j v hj hcv
    simp only [Nat.zero_add]
    rw [cells_new, phys_le hle c2]
    exact ⟨c1, c2.le hle, c3⟩
  · simp only [Nat.zero_add] at hj ⊢
    rw [cells_new, frozen_new]
    exact ⟨by simp; omega, rfl⟩
  · have : (w.alloc (.cells cs e)).heap[w.heap.size]? = some (.cells cs e) := by show (w.heap.push _)[w.heap.size]? = _; simp
    change (w.alloc _).heap[w.heap.size]? = _ at hc'
    rw [this] at hc'; cases hc'; exact .inl rfl

/-- An object that is no row. -/
theorem HRel.layObj (R : HRel N0 w0 σ h w) {b : Nat} (hs : σ b = none) {ob : LObj} (hr : h.objs.get b = some ob) (o : Obj)
    (hobj : ∀ p : Place, p.row = false → p.blk = w.heap.size → objRel (σ.put b p) (w.alloc o) p ob) :
    HRel N0 w0 (σ.put b { blk := w.heap.size, dlt := 0, cap := 0, esz := 0, cls := 0, start := 0, row := false }) h (w.alloc o) :=
  R.lay hs (R.got b _ hr) _ rfl (fun ob' ho => by rw [hr] at ho; cases ho; exact hobj _ rfl rfl) (fun e => by cases e) (fun e => by cases e) (fun _ => rfl)

/-- An object that is no row is changed. -/
theorem HRel.putObj (R : HRel N0 w0 σ h w) {b : Nat} {p : Place} (hp : σ b = some p) (hf : p.row = false) {ob : LObj} (hob : ∀ r, ob ≠ .row r) (o : Obj)
    (hobj : objRel σ { w with heap := w.heap.setIfInBounds p.blk o } p ob) :
    HRel N0 w0 σ (h.put b ob) { w with heap := w.heap.setIfInBounds p.blk o } := by
  have hot : ∀ g, g ≠ p.blk → ({ w with heap := w.heap.setIfInBounds p.blk o } : World).heap[g]? = w.heap[g]? := fun g hg => by
    simp [Ne.symm hg]
  have hne : ∀ b' q, σ b' = some q → b' ≠ b → q.blk ≠ p.blk := fun b' q hq e eb => by
    rcases R.inj b' b q p hq hp eb with e' | ⟨_, h, _⟩
    · exact e e'
    · rw [hf] at h; cases h
  refine ⟨R.lt, fun b' o' ho => ?_, fun b' q o' hq ho => ?_, fun b' q hq hr => ?_, R.inj, fun b' q hq => by simpa using R.rng b' q hq, fun b' r hr => ?_, R.clsLt, fun q hq => ?_, by simpa using R.size, R.os, R.output, fun b' q hq hr => ?_, fun b' r hr => ?_, R.nrow⟩
  · simp only [H.put, T.get_set] at ho ⊢
    by_cases e : b' = b
    · rw [e]; exact R.lt b p hp
    · rw [if_neg e] at ho; exact R.got b' o' ho
  · simp only [H.put, T.get_set] at ho
    by_cases e : b' = b
    · subst e
      rw [if_pos rfl] at ho
      rw [hp] at hq; cases hq; cases ho
      exact hobj
    · rw [if_neg e] at ho
      exact objRel_mono (Sig.Le.refl σ) (hot _ (hne b' q hq e)) (R.obj b' q o' hq ho)
  · obtain ⟨z0, z1⟩ := R.row b' q hq hr
    have : q.blk ≠ p.blk := by
      by_cases e : b' = b
      · subst e; rw [hp] at hq; cases hq; rw [hf] at hr; cases hr
      · exact hne b' q hq e
    exact ⟨z0, fun j hj => by rw [cell_of_heap (hot _ this), frozen_of_heap (hot _ this)]; exact z1 j hj⟩
  · simp only [H.put, T.get_set] at hr ⊢
    by_cases e : b' = b
    · rw [if_pos e] at hr; exact absurd (Option.some.inj hr) (hob r)
    · rw [if_neg e] at hr; exact R.cls b' r hr
  · rw [hot q (by have := (R.rng b p hp).1; omega)]; exact R.old q hq
  · have : q.blk ≠ p.blk := by
      by_cases e : b' = b
      · subst e; rw [hp] at hq; cases hq; rw [hf] at hr; cases hr
      · exact hne b' q hq e
    exact endFz_of_heap (hot _ this) (R.fz b' q hq hr)
  · simp only [H.put, T.get_set] at hr
    by_cases e : b' = b
    · rw [if_pos e] at hr; exact absurd (Option.some.inj hr) (hob r)
    · rw [if_neg e] at hr; exact R.rok b' r hr

/-- What lies behind a block's end is frozen. -/
theorem HRel.freezeEnd (R : HRel N0 w0 σ h w) {b : Nat} {p : Place} (hp : σ b = some p) (hr : p.row = true) {c : Array Value} {e : TypeId} {lo hi : Nat}
    (hg : w.heap[p.blk]? = some (.cells c e (lo, hi))) : HRel N0 w0 σ h (w.freeze ⟨p.blk, c.size, none⟩ 1) := by
  obtain ⟨lo', hi', hlo, hnew, hot⟩ : ∃ lo' hi', c.size ≤ lo' ∧ (w.freeze ⟨p.blk, c.size, none⟩ 1).heap[p.blk]? = some (.cells c e (lo', hi')) ∧
      ∀ g, g ≠ p.blk → (w.freeze ⟨p.blk, c.size, none⟩ 1).heap[g]? = w.heap[g]? := by
    have hot : ∀ g, g ≠ p.blk → (w.freeze ⟨p.blk, c.size, none⟩ 1).heap[g]? = w.heap[g]? := fun g hgne => by
      simp [World.freeze, Array.getElem?_modify, Ne.symm hgne]
    by_cases hlh : lo = hi
    · exact ⟨c.size, c.size + 1, Nat.le_refl _, by simp [World.freeze, Array.getElem?_modify, hg, hlh], hot⟩
    · have := (R.fz b p hp hr c e lo hi hg).resolve_left hlh
      exact ⟨min lo c.size, max hi (c.size + 1), by omega, by simp [World.freeze, Array.getElem?_modify, hg, hlh], hot⟩
  have hsz : (w.freeze ⟨p.blk, c.size, none⟩ 1).heap.size = w.heap.size := by simp [World.freeze]
  have hcell : ∀ g j, (w.freeze ⟨p.blk, c.size, none⟩ 1).cell? ⟨g, j, none⟩ = w.cell? ⟨g, j, none⟩ := fun g j => by
    unfold World.cell?
    by_cases hgb : g = p.blk
    · subst hgb; simp only [hnew, hg]
    · simp only [hot g hgb]
  have hne : ∀ b' q, σ b' = some q → q.row = false → q.blk ≠ p.blk := fun b' q hq hf eb => by
    rcases R.inj b' b q p hq hp eb with e' | ⟨h, _⟩
    · subst e'; rw [hp] at hq; cases hq; rw [hr] at hf; cases hf
    · rw [hf] at h; cases h
  refine ⟨R.lt, R.got, fun b' q o hq ho => ?_, fun b' q hq hrq => ?_, R.inj, fun b' q hq => by rw [hsz]; exact R.rng b' q hq, R.cls, R.clsLt, fun q hq => ?_, by rw [hsz]; exact R.size, by simp [World.freeze]; exact R.os, by simp [World.freeze]; exact R.output, fun b' q hq hrq => ?_, R.rok, R.nrow⟩
  · have := R.obj b' q o hq ho
    cases o with
    | row r => simpa only [objRel, hcell] using this
    | dead => exact this
    | map es clock => exact ⟨this.1, by rw [hot _ (hne b' q hq this.1)]; exact this.2.1, this.2.2⟩
    | strIter s pos => exact ⟨this.1, by rw [hot _ (hne b' q hq this.1)]; exact this.2⟩
    | mapIter m since seen stepped => exact ⟨this.1, by rw [hot _ (hne b' q hq this.1)]; exact this.2.1, this.2.2⟩
    | loop st pending fn tmps nt params assign body defers => exact ⟨this.1, this.2.1, by rw [hot _ (hne b' q hq this.1)]; exact this.2.2⟩
    | deferred calls => exact ⟨this.1, by rw [hot _ (hne b' q hq this.1)]; exact this.2.1, this.2.2⟩
  · obtain ⟨z0, z1⟩ := R.row b' q hq hrq
    refine ⟨z0, fun j hj => ?_⟩
    obtain ⟨c1, c2⟩ := z1 j hj
    rw [hcell]
    refine ⟨c1, ?_⟩
    by_cases hgb : q.blk = p.blk
    · unfold World.cell? at c1
      simp only [hgb, hg] at c1
      unfold World.frozen?
      simp only [hgb, hnew]
      have hlt : 0 + j < c.size := by
        rcases Nat.lt_or_ge (0 + j) c.size with h' | h'
        · exact h'
        · rw [Array.getElem?_eq_none h'] at c1; simp at c1
      have : ¬ lo' ≤ 0 + j := by omega
      simp only [Bool.and_eq_false_iff, decide_eq_false_iff_not]
      exact .inl this
    · unfold World.frozen?
      simp only [hot _ hgb]
      exact c2
  · rw [hot q (by have := (R.rng b p hp).1; omega)]; exact R.old q hq
  · by_cases hgb : q.blk = p.blk
    · intro c' e' l' h' hh
      rw [hgb, hnew] at hh
      cases hh
      exact .inr hlo
    · exact endFz_of_heap (hot _ hgb) (R.fz b' q hq hrq)
end
end Go.Lm

/- What the tables say is so of the program; == of values. -/
namespace Go.Lm

structure EnvOK (E : Env) (P : Program) : Prop where
  ty : ∀ t i d, E.ty t = some (i, d) → P.info? t = some i ∧ P.underlying t = some d
  zero : ∀ t i d z, E.ty t = some (i, d) → i.zero = some z → constV z = true ∧ flatV z = true
  zsize : ∀ t i d z, E.ty t = some (i, d) → i.zero = some z → (vcells z).length = i.size
  held : ∀ t i fs, E.ty t = some (i, .struct fs) → P.stoodInHeld t = false
  fields : ∀ t i fs, E.ty t = some (i, .struct fs) → ∀ f ∈ fs.toList, ∃ s, E.size f.type = some s
  eg : ∀ t, E.eg t = true → P.eqGuardType P.depth t = false
  fn : ∀ f fn, E.fn f = some fn → P.funcs[f]? = some fn ∧ (fn.name == "runtime.NumGoroutine") = false
  mixed : P.follows .mixedOrders = true
  rfr : P.follows .rangeFuncRecover = true

section
variable {E : Env} {P : Program} (EO : EnvOK E P) {w : World}
include EO

theorem EnvOK.run_ty {t : Nat} {i : TypeInfo} {d : TypeDesc} (e : E.ty t = some (i, d)) (w : World) : (underlying t).run P w = .ok d w :=
  run_underlying (EO.ty t i d e).2 w
theorem EnvOK.run_info {t : Nat} {i : TypeInfo} {d : TypeDesc} (e : E.ty t = some (i, d)) (w : World) : (typeInfo t).run P w = .ok i w := by
  simp [typeInfo, (EO.ty t i d e).1]
theorem EnvOK.run_size {t s : Nat} (e : E.size t = some s) (w : World) : (sizeOf t).run P w = .ok s w := by
  unfold Env.size at e
  split at e
  · rename_i i d h
    cases e
    simp [sizeOf, EO.run_info h]
  · cases e
theorem EnvOK.run_agg {t : Nat} {i : TypeInfo} {d : TypeDesc} (e : E.ty t = some (i, d)) (w : World) : (isAgg t).run P w = .ok (aggDesc d) w := by
  unfold isAgg
  rw [Sem.run_bind, EO.run_ty e]
  cases d <;> rfl
theorem EnvOK.run_zero {t : Nat} {i : TypeInfo} {d : TypeDesc} {z : Value} (e : E.ty t = some (i, d)) (hz : i.zero = some z) (w : World) : (zeroValue t).run P w = .ok z w := by
  simp [zeroValue, EO.run_info e, hz]
omit EO in
theorem EnvOK.size_of {t : Nat} {i : TypeInfo} {d : TypeDesc} (e : E.ty t = some (i, d)) : E.size t = some i.size := by simp [Env.size, e]

theorem EnvOK.part {σ : Sig} {t off : Nat} {cs : List Value} {v : Value} (e : partOf E t cs off = some v) (w : World) :
    (part t ⟨cs.map (phys σ)⟩ off).run P w = .ok (phys σ v) w := by
  unfold partOf at e
  cases ht : E.ty t with
  | none => simp [ht] at e
  | some x =>
    obtain ⟨i, d⟩ := x
    simp only [ht] at e
    unfold Go.part
    rw [Sem.run_bind, EO.run_agg ht]
    simp only [Result.andThen_ok, Sem.run_ite]
    cases hd : aggDesc d with
    | true =>
      simp only [hd, cond_true, Option.some.injEq] at e
      subst e
      simp only [if_true, Sem.run_bind, EO.run_size (EnvOK.size_of ht), Result.andThen_ok, Sem.run_pure, phys_agg]
      congr 2
      apply Array.ext'
      simp [List.map_take, List.map_drop]
    | false =>
      simp only [hd, cond_false] at e
      simp [e]

omit EO in
theorem partOf_wf {σ : Sig} {t off : Nat} {cs : List Value} {v : Value} (h : ∀ x ∈ cs, Wf σ x ∧ x.oneCell' = true) (e : partOf E t cs off = some v) : Wf σ v := by
  unfold partOf at e
  cases ht : E.ty t with
  | none => simp [ht] at e
  | some x =>
    obtain ⟨i, d⟩ := x
    simp only [ht] at e
    cases hd : aggDesc d with
    | true =>
      simp only [hd, cond_true, Option.some.injEq] at e
      subst e
      exact .agg _ (fun x hx => (h x (List.mem_of_mem_drop (List.mem_of_mem_take hx))).1) (fun x hx => (h x (List.mem_of_mem_drop (List.mem_of_mem_take hx))).2)
    | false =>
      simp only [hd, cond_false] at e
      exact (h v (List.mem_of_getElem? e)).1
end
end Go.Lm

/- == of values, by the tables. -/
namespace Go.Lm
section
variable {E : Env} {P : Program} (EO : EnvOK E P) {w : World} {σ : Sig}
include EO

def EqAll (E : Env) (P : Program) (σ : Sig) (d : Nat) : Prop := ∀ t x y b, eqV E d t x y = some b → Wf σ x → Wf σ y → ∀ D, d ≤ D → ∀ w, (Op.equalIn D t (phys σ x) (phys σ y)).run P w = .ok b w

theorem eqFields_sound {d : Nat} (ih : EqAll E P σ d) {xs ys : List Value} (hx : ∀ v ∈ xs, Wf σ v ∧ v.oneCell' = true) (hy : ∀ v ∈ ys, Wf σ v ∧ v.oneCell' = true) {D : Nat} (hD : d ≤ D) :
    ∀ (fs : List Field) (b : Bool), eqFields E (eqV E d) xs ys fs = some b → (Op.eqFields D ⟨xs.map (phys σ)⟩ ⟨ys.map (phys σ)⟩ fs).run P w = .ok b w
  | [], b, e => by simp only [eqFields, Option.some.injEq] at e; subst e; rfl
  | f :: fs, b, e => by
    simp only [eqFields] at e
    cases hn : f.name == "_" with
    | true => simp [hn] at e
    | false =>
      have hne : f.name ≠ "_" := by simpa using hn
      simp only [hn, cond_false] at e
      cases ha : partOf E f.type xs f.offset with
      | none => simp [ha] at e
      | some a =>
        cases hb : partOf E f.type ys f.offset with
        | none => simp [ha, hb] at e
        | some c =>
          simp only [ha, hb] at e
          cases hr : eqV E d f.type a c with
          | none => simp [hr] at e
          | some r =>
            simp only [hr] at e
            have := ih f.type a c r hr (partOf_wf hx ha) (partOf_wf hy hb) D hD w
            simp only [Op.eqFields, hne, ne_eq, not_false_iff, if_true, Sem.run_bind, EO.part ha, EO.part hb, Result.andThen_ok, this]
            cases r with
            | true =>
              simp only [Bool.not_true, Bool.false_eq_true, if_false]
              exact eqFields_sound ih hx hy hD fs b (by simpa using e)
            | false => simp at e; subst e; simp

theorem eqElems_sound {d : Nat} (ih : EqAll E P σ d) {t s : Nat} (hs : E.size t = some s) {xs ys : List Value} (hx : ∀ v ∈ xs, Wf σ v ∧ v.oneCell' = true) (hy : ∀ v ∈ ys, Wf σ v ∧ v.oneCell' = true) {D : Nat} (hD : d ≤ D) (w : World) :
    ∀ (n k : Nat) (b : Bool), eqElems E (eqV E d) t s n (xs.drop (k * s)) (ys.drop (k * s)) = some b →
      Sem.run P (forIn (List.range' k n) ((none, ()) : Option Bool × PUnit) (fun i _ => do
        let a ← part t ⟨xs.map (phys σ)⟩ (i * s)
        let c ← part t ⟨ys.map (phys σ)⟩ (i * s)
        let r ← Op.equalIn D t a c
        if (!r) = true then pure (ForInStep.done (some false, ())) else pure (ForInStep.yield (none, ())))) w = Result.ok (if b then (none, ()) else (some false, ())) w
  | 0, k, b, e => by simp only [eqElems, Option.some.injEq] at e; subst e; simp
  | n + 1, k, b, e => by
    simp only [eqElems] at e
    have hpart : ∀ (l : List Value) v, partOf E t (l.drop (k * s)) 0 = some v → partOf E t l (k * s) = some v := fun l v h => by
      unfold partOf at h ⊢
      cases ht : E.ty t with
      | none => simp [ht] at h
      | some x =>
        simp only [ht] at h ⊢
        cases hd : aggDesc x.2 <;> simp only [hd, cond_true, cond_false, List.drop_drop, Nat.add_zero, List.getElem?_drop] at h ⊢ <;> exact h
    cases ha : partOf E t (xs.drop (k * s)) 0 with
    | none => simp [ha] at e
    | some a =>
      cases hb : partOf E t (ys.drop (k * s)) 0 with
      | none => simp [ha, hb] at e
      | some c =>
        simp only [ha, hb] at e
        have ha' := hpart _ _ ha
        have hb' := hpart _ _ hb
        cases hr : eqV E d t a c with
        | none => simp [hr] at e
        | some r =>
          simp only [hr] at e
          have := ih t a c r hr (partOf_wf hx ha') (partOf_wf hy hb') D hD w
          simp only [List.range'_succ, List.forIn_cons, Sem.run_bind, EO.part ha', EO.part hb', Result.andThen_ok, this]
          cases r with
          | true =>
            simp only [Bool.not_true, Bool.false_eq_true, if_false, Sem.run_pure, Result.andThen_ok]
            refine eqElems_sound ih hs hx hy hD w n (k + 1) b ?_
            rw [List.drop_drop, List.drop_drop] at e
            rw [show (k + 1) * s = k * s + s by rw [Nat.add_mul, Nat.one_mul]]
            exact e
          | false => simp at e; subst e; simp

theorem eqV_sound : ∀ d, EqAll E P σ d
  | 0 => fun t x y b e => by simp [eqV] at e
  | d + 1 => fun t x y b e hx hy D hD w => by
    obtain ⟨D, rfl⟩ : ∃ n, D = n + 1 := ⟨D - 1, by omega⟩
    simp only [eqV] at e
    cases ht : E.ty t with
    | none => simp [ht] at e
    | some p =>
      obtain ⟨i, ut⟩ := p
      simp only [ht] at e
      have hu := EO.run_ty ht
      unfold Op.equalIn
      rw [Sem.run_bind, hu]
      simp only [Result.andThen_ok]
      split at e
      all_goals (try (cases e; done))
      · cases e; simp
      · rename_i k' k a k'' b'
        cases hk : k == k'' with
        | false => simp [hk] at e
        | true => simp [hk] at e; subst e; have : k = k'' := by simpa using hk
                  simp [this]
      · cases e; simp [beq_toListBytes, ByteArray.toList_eq]
      · cases e; simp
      · cases e; simp
      · rename_i el b1 o1 b2 o2
        cases hc : (Nat.beq b1 b2 && Nat.beq o1 o2 && (E.size el).isSome) with
        | false => simp [hc] at e
        | true =>
          simp only [hc, cond_true, Option.some.injEq] at e
          subst e
          simp only [Bool.and_eq_true, nbeq, decide_eq_true_eq] at hc
          obtain ⟨⟨rfl, rfl⟩, hsz⟩ := hc
          obtain ⟨s, hs⟩ := Option.isSome_iff_exists.1 hsz
          simp only [phys_ptr, Option.map_some, Sem.run_bind, EO.run_size hs, Result.andThen_ok]
          split
          · simp [sameAddr]
          · simp
      · cases e
        rename_i bo _ _
        rcases bo with _ | ⟨b, off, _ | o⟩ <;> simp [physSlice]
      · cases e
        rename_i ad _ _ _ _
        rcases ad with ⟨b, off, _ | o⟩ <;> simp [physSlice]
      · cases e; simp
      · cases e; simp
      · cases e; simp
      · cases e; simp
      · cases e; simp
      · cases e; simp
      · cases e; simp
      · cases e; simp
      · rename_i fs xs ys
        cases hx with | agg _ hx1 hx2 => cases hy with | agg _ hy1 hy2 =>
        have hfs : P.fieldsOf t = fs := by unfold Program.fieldsOf; rw [(EO.ty _ _ _ ht).2]
        have := run_equalIn_struct (P := P) w D t ⟨xs.toList.map (phys σ)⟩ ⟨ys.toList.map (phys σ)⟩ (by rw [hfs]; exact (EO.ty _ _ _ ht).2) (EO.held _ _ _ ht)
        unfold Op.equalIn at this
        rw [Sem.run_bind, hu] at this
        simp only [Result.andThen_ok, hfs] at this
        simp only [phys_agg]
        rw [this]
        exact eqFields_sound EO (eqV_sound d) (fun v hv => ⟨hx1 v hv, hx2 v hv⟩) (fun v hv => ⟨hy1 v hv, hy2 v hv⟩) (by omega) _ _ e
      · rename_i n el xs ys
        cases hs : E.size el with
        | none => simp [hs] at e
        | some s =>
          simp only [hs] at e
          cases hx with | agg _ hx1 hx2 => cases hy with | agg _ hy1 hy2 =>
          simp only [phys_agg, Sem.run_bind, EO.run_size hs, Result.andThen_ok]
          have := eqElems_sound EO (eqV_sound d) hs (fun v hv => ⟨hx1 v hv, hx2 v hv⟩) (fun v hv => ⟨hy1 v hv, hy2 v hv⟩) (D := D) (by omega) w n 0 b (by simpa using e)
          rw [Std.Legacy.Range.forIn_eq_forIn_range']
          simp only [Std.Legacy.Range.size, Nat.sub_zero, Nat.add_sub_cancel, Nat.div_one]
          rw [this]
          cases b <;> rfl
end
end Go.Lm

/- The operations that only reckon. -/
namespace Go.Lm

def RhoRel (σ : Sig) (ρ : Rho) (r : Operand → Value) : Prop := ∀ x v, ρ x = some v → r x = phys σ v ∧ Wf σ v

theorem mapM_some {α β : Type} {f : α → Option β} : ∀ {l : List α} {m : List β}, l.mapM f = some m → m.length = l.length ∧ ∀ (i : Nat) (x : α), l[i]? = some x → ∃ y, f x = some y ∧ m[i]? = some y
  | [], m, h => by simp at h; subst h; simp
  | a :: l, m, h => by
    rw [List.mapM_cons] at h
    cases ha : f a with
    | none => simp [ha] at h
    | some b =>
      cases hl : l.mapM f with
      | none => simp [ha, hl] at h
      | some m' =>
        simp [ha, hl] at h
        subst h
        obtain ⟨h1, h2⟩ := mapM_some hl
        refine ⟨by simp [h1], fun i x hx => ?_⟩
        cases i with
        | zero => simp at hx; subst hx; exact ⟨b, ha, by simp⟩
        | succ i => simpa using h2 i x (by simpa using hx)

theorem mapM_map {α β γ : Type} {f : α → Option β} {g : α → γ} {p : β → γ} (hg : ∀ x y, f x = some y → g x = p y) {l : List α} {m : List β} (h : l.mapM f = some m) : l.map g = m.map p := by
  obtain ⟨h1, h2⟩ := mapM_some h
  apply List.ext_getElem?
  intro i
  rw [List.getElem?_map, List.getElem?_map]
  cases hi : l[i]? with
  | none =>
    have : m[i]? = none := by rw [List.getElem?_eq_none_iff] at hi ⊢; omega
    simp [this]
  | some x =>
    obtain ⟨y, hy, hm⟩ := h2 i x hi
    simp [hm, hg x y hy]

theorem mapM_mem {α β : Type} {f : α → Option β} {l : List α} {m : List β} (h : l.mapM f = some m) : ∀ y ∈ m, ∃ x ∈ l, f x = some y := fun y hy => by
  obtain ⟨h1, h2⟩ := mapM_some h
  obtain ⟨i, hi, rfl⟩ := List.getElem_of_mem hy
  obtain ⟨y', hy', hm⟩ := h2 i (l[i]'(by omega)) (List.getElem?_eq_getElem _)
  exact ⟨_, List.getElem_mem _, by rw [hy']; congr 1; rw [List.getElem?_eq_getElem hi] at hm; exact (Option.some.inj hm).symm⟩

theorem forceInt_eq (k : IntKind) (n : Int) (f : Value → Option Value) : forceInt k n f = f (.int k n) := by
  cases n <;> simp only [forceInt] <;> (cases ‹Nat› <;> rfl)

section
variable {E : Env} {P : Program} (EO : EnvOK E P) {w : World} {σ : Sig} {ρ : Rho} {r : Operand → Value} (RR : RhoRel σ ρ r)

theorem nat_bits {k : IntKind} {a b c : Nat} {op : BinOp} (h : natBits op a b = some c) : (Op.intBits op k (Int.ofNat a) (Int.ofNat b)).run P w = .ok (.int k (k.wrap (Int.ofNat c))) w := by
  have e : ∀ n : Nat, (BitVec.ofInt k.bits (Int.ofNat n)).toNat = n % 2 ^ k.bits := fun n => by simp
  have hw : ∀ n : Nat, k.wrap ((n % 2 ^ k.bits : Nat) : Int) = k.wrap (n : Int) := fun n => by
    unfold IntKind.wrap
    have : (((n % 2 ^ k.bits : Nat) : Int) % (2 ^ k.bits : Int)) = (n : Int) % (2 ^ k.bits : Int) := by
      rw [Int.natCast_emod]; simp
    simp only [this]
  cases op <;> simp only [natBits, Option.some.injEq] at h
  all_goals (try (cases h; done))
  all_goals subst h
  · simp only [Op.intBits, Sem.run_pure, BitVec.toNat_and, e]
    show _ = Result.ok (Value.int k (k.wrap ((a &&& b : Nat) : Int))) w
    rw [← hw (a &&& b), Nat.and_mod_two_pow]
  · simp only [Op.intBits, Sem.run_pure, BitVec.toNat_or, e]
    show _ = Result.ok (Value.int k (k.wrap ((a ||| b : Nat) : Int))) w
    rw [← hw (a ||| b), Nat.or_mod_two_pow]
  · simp only [Op.intBits, Sem.run_pure, BitVec.toNat_xor, e]
    show _ = Result.ok (Value.int k (k.wrap ((a ^^^ b : Nat) : Int))) w
    rw [← hw (a ^^^ b), Nat.xor_mod_two_pow]

theorem ibeq (x y : Int) : (x == y) = decide (x = y) := by rw [Bool.eq_iff_iff]; simp
theorem ibne (x y : Int) : (x != y) = !decide (x = y) := by rw [bne, ibeq]

theorem nat_andNot {k : IntKind} {a b : Nat} : (Op.intBits .andNot k (Int.ofNat a) (Int.ofNat b)).run P w = .ok (.int k (k.wrap (Int.ofNat (a ^^^ (a &&& b))))) w := by
  have hx : ∀ x y : BitVec k.bits, x &&& ~~~y = x ^^^ (x &&& y) := fun x y => by
    apply BitVec.eq_of_getLsbD_eq
    intro i hi
    simp only [BitVec.getLsbD_and, BitVec.getLsbD_not, BitVec.getLsbD_xor, hi, decide_true, Bool.true_and]
    cases x.getLsbD i <;> simp
  have h1 := nat_bits (P := P) (w := w) (k := k) (a := a) (b := a &&& b) (op := .xor) rfl
  rw [← h1]
  simp only [Op.intBits, Sem.run_pure, hx]
  congr 4
  simp

include EO in
theorem bin_sound {op : BinOp} {t : Nat} {a b v : Value} (e : bin E op t a b = some v) (ha : Wf σ a) (hb : Wf σ b) :
    (binOp op t (phys σ a) (phys σ b)).run P w = .ok (phys σ v) w ∧ Wf σ v := by
  have heq : ∀ {x y : Value} {f : Bool → Value} (hx : Wf σ x) (hy : Wf σ y), (eqV E 30 t x y).map f = some v → ∃ c, v = f c ∧ (Op.equal t (phys σ x) (phys σ y)).run P w = .ok c w := fun {x y f} hx hy h => by
    cases hc : eqV E 30 t x y with
    | none => simp [hc] at h
    | some c =>
      simp only [hc, Option.map_some, Option.some.injEq] at h
      exact ⟨c, h.symm, eqV_sound EO 30 t x y c hc hx hy _ (by decide) w⟩
  have hstr : ∀ x y : ByteArray, (x.data.toList == y.data.toList) = (x.toList == y.toList) := fun x y => by rw [ByteArray.toList_eq, ByteArray.toList_eq]
  cases a with
  | int k x =>
    cases b with
    | int k' y =>
      by_cases hsh : op = .shl ∨ op = .shr
      · rcases hsh with rfl | rfl
        all_goals
          simp only [bin] at e
          cases hn : decide (y < 0) with
          | true => simp [hn] at e
          | false =>
            simp only [hn, cond_false, forceInt_eq, Option.some.injEq] at e
            subst e
            exact ⟨by simp at hn; simp [binOp, Op.shift, Int.not_lt.2 hn], .int _ _⟩
      · cases hk : k == k' with
        | false => cases op <;> simp [bin, hk] at e <;> simp at hsh
        | true =>
          have hkk : k = k' := by simpa using hk
          subst hkk
          cases op <;> simp only [bin, beq_self_eq_true, cond_true, forceInt_eq, Option.some.injEq] at e
          all_goals (try (exact (hsh (.inl rfl)).elim))
          all_goals (try (exact (hsh (.inr rfl)).elim))
          all_goals (try (subst e; exact ⟨by simp [binOp, Op.intArith, Op.intCmp, ibeq, ibne], by first | exact .int _ _ | exact .bool _⟩))
          · cases hz : decide (y = 0) with
            | true => simp [hz] at e
            | false => simp only [hz, cond_false, Option.some.injEq] at e; subst e; exact ⟨by simp at hz; simp [binOp, Op.intDiv, hz], .int _ _⟩
          · cases hz : decide (y = 0) with
            | true => simp [hz] at e
            | false => simp only [hz, cond_false, Option.some.injEq] at e; subst e; exact ⟨by simp at hz; simp [binOp, Op.intDiv, hz], .int _ _⟩
          all_goals
            cases x with
            | negSucc x => simp at e
            | ofNat x =>
              cases y with
              | negSucc y => simp at e
              | ofNat y =>
                simp only [natBits, forceInt_eq, Option.some.injEq] at e
                subst e
                first
                  | exact ⟨by simp only [phys_int, binOp, ne_eq, not_true_eq_false, if_false]; exact nat_bits rfl, .int _ _⟩
                  | exact ⟨by simp only [phys_int, binOp, ne_eq, not_true_eq_false, if_false]; exact nat_andNot, .int _ _⟩
    | _ => cases op <;> simp [bin, scalarV] at e
  | string x =>
    cases b with
    | string y =>
      cases op <;> simp only [bin, scalarV, cond_true, Option.some.injEq] at e
      all_goals (try (cases e; done))
      · cases hl : decide (((x.size + y.size : Nat) : Int) > IntKind.i64.max) with
        | true => rw [hl] at e; simp at e
        | false =>
          rw [hl] at e
          simp only [cond_false, Option.some.injEq] at e
          subst e
          refine ⟨?_, .string _⟩
          have hn : ¬ ((x.size + y.size : Nat) : Int) > IntKind.i64.max := by simpa using hl
          simp only [phys_string, binOp, Op.stringOp, Sem.run_ite, hn, if_false, Sem.run_pure]
          congr 2
      all_goals (subst e; exact ⟨by simp [binOp, Op.stringOp, ByteArray.toList_eq], .bool _⟩)
    | _ => cases op <;> simp [bin, scalarV] at e
  | float k x => cases op <;> simp [bin, scalarV] at e
  | complex k x y => cases op <;> simp [bin, scalarV] at e
  | _ =>
    cases op <;> simp only [bin, scalarV, cond_false] at e
    all_goals (try (cases e; done))
    all_goals
      obtain ⟨c, rfl, hc⟩ := heq ha hb e
      refine ⟨?_, .bool _⟩
      simp only [phys_bool, phys_ptr, phys_slice, phys_map, phys_nilFunc, phys_nilIface, phys_iface, phys_agg, phys_tuple, phys_func, phys_chan] at hc ⊢
      try (rename_i a _ _; rcases a with _ | ⟨b, off, _ | o⟩ <;> simp only [physSlice] at hc ⊢)
      all_goals simp only [binOp, Sem.run_bind, hc, Result.andThen_ok, Sem.run_pure]

/-- reading a natural number -/
theorem natOf_spec {σ : Sig} {v : Value} {n : Nat} (h : natOf v = some n) : ∃ k, v = .int k (n : Int) := by
  cases v with
  | int k m => cases m with
    | ofNat m => simp [natOf] at h; subst h; exact ⟨k, rfl⟩
    | negSucc m => simp [natOf] at h
  | _ => simp [natOf] at h

include RR in
theorem rho_nat {x : Operand} {n : Nat} (h : (ρ x).bind natOf = some n) : ∃ k, r x = .int k (n : Int) := by
  cases hx : ρ x with
  | none => simp [hx] at h
  | some v =>
    simp only [hx, Option.bind_some] at h
    obtain ⟨k, rfl⟩ := natOf_spec (σ := σ) h
    exact ⟨k, by rw [(RR x _ hx).1]; simp⟩

theorem fold_put (off : Nat) : ∀ (vs : List Value) (k : Nat) (cs : Array Value), off + k + vs.length ≤ cs.size →
    ((vs.zipIdx k).foldl (fun (cs : Array Value) (x : Value × Nat) => cs.setIfInBounds (off + x.2) x.1) cs).toList = splice cs.toList (off + k) vs
  | [], k, cs, _ => by simp [splice]
  | v :: vs, k, cs, h => by
    simp only [List.zipIdx_cons, List.foldl_cons]
    simp only [List.length_cons] at h
    rw [fold_put off vs (k + 1) _ (by simp; omega)]
    apply List.ext_getElem?
    intro i
    have hsz : cs.toList.length = cs.size := by simp
    rw [splice_get (by simp; omega), splice_get (by simp only [List.length_cons]; omega)]
    simp only [Array.toList_setIfInBounds, List.length_cons]
    by_cases h1 : off + (k + 1) ≤ i ∧ i < off + (k + 1) + vs.length
    · rw [if_pos h1, if_pos (by omega), show i - (off + k) = (i - (off + (k + 1))) + 1 by omega]; simp
    · rw [if_neg h1, List.getElem?_set]
      by_cases h2 : off + k = i
      · rw [if_pos h2, if_pos (by omega), if_pos (by omega)]
        simp [← h2]
      · rw [if_neg h2, if_neg (by omega)]

theorem fill_sound {place : Nat → Option (Nat × Nat)} : ∀ (l : List (Nat × Nat × Value)) (cs cs' : List Value) (ps : List (Nat × Value)), fillL cs l = some cs' →
    ps.length = l.length → (∀ (i off size : Nat) (v : Value), l[i]? = some (off, size, v) → ∃ j, ps[i]? = some (j, phys σ v) ∧ place j = some (off, size)) →
    (∀ x ∈ cs, Wf σ x ∧ x.oneCell' = true) → (∀ (i off size : Nat) (v : Value), l[i]? = some (off, size, v) → Wf σ v) →
    Instr.fill place ⟨cs.map (phys σ)⟩ ps = some ⟨cs'.map (phys σ)⟩ ∧ (∀ x ∈ cs', Wf σ x ∧ x.oneCell' = true) ∧ cs'.length = cs.length
  | [], cs, cs', ps, e, hl, _, hw, _ => by
    simp only [fillL, Option.some.injEq] at e; subst e
    have : ps = [] := List.length_eq_zero_iff.1 hl
    subst this
    exact ⟨rfl, hw, rfl⟩
  | (off, size, v) :: l, cs, cs', ps, e, hl, hp, hw, hv => by
    cases ps with
    | nil => simp at hl
    | cons p ps =>
      obtain ⟨j, hj, hpl⟩ := hp 0 off size v (by simp)
      simp only [List.getElem?_cons_zero, Option.some.injEq] at hj
      subst hj
      simp only [fillL, nbeq, nble] at e
      cases hc : (flatV v && decide ((vcells v).length = size) && decide (off + (vcells v).length ≤ cs.length)) with
      | false => rw [hc] at e; simp at e
      | true =>
        rw [hc] at e
        simp only [cond_true] at e
        simp only [Bool.and_eq_true, decide_eq_true_eq] at hc
        obtain ⟨⟨hf, hs⟩, hb⟩ := hc
        have hvw := hv 0 off size v (by simp)
        have hcw := hvw.cells hf
        have hspl : ∀ x ∈ splice cs off (vcells v), Wf σ x ∧ x.oneCell' = true := fun x hx => by
          unfold splice at hx
          simp only [List.mem_append] at hx
          rcases hx with hx | hx | hx
          · exact hw x (List.mem_of_mem_take hx)
          · exact hcw x hx
          · exact hw x (List.mem_of_mem_drop hx)
        obtain ⟨i1, i2, i3⟩ := fill_sound l _ cs' ps e (by simpa using hl) (fun i o s v h => by simpa using hp (i + 1) o s v (by simpa using h)) hspl (fun i o s v h => hv (i + 1) o s v (by simpa using h))
        refine ⟨?_, i2, by rw [i3, splice_length hb]⟩
        have hcl : ((phys σ v).cells).toList.length = (vcells v).length := by rw [phys_cells]; simp
        have hsz : ((phys σ v).cells).size = size := by rw [← hs, ← hcl]; simp
        simp only [Instr.fill, hpl, hsz, ne_eq, not_true_eq_false, decide_false, Bool.false_or]
        have hnb : decide (off + size > (⟨cs.map (phys σ)⟩ : Array Value).size) = false := by simp; omega
        rw [hnb]
        simp only [Bool.false_eq_true, if_false]
        rw [← i1]
        congr 1
        apply Array.ext'
        rw [← Array.foldl_toList, Array.toList_zipIdx, phys_cells]
        have := fold_put off ((vcells v).map (phys σ)) 0 ⟨cs.map (phys σ)⟩ (by simp; omega)
        rw [this]
        simp [splice, List.map_take, List.map_drop]
end
end Go.Lm

/- The operations that only reckon, each. -/
namespace Go.Lm
section
variable {E : Env} {P : Program} (EO : EnvOK E P) {w : World} {σ : Sig} {ρ : Rho} {r : Operand → Value} (RR : RhoRel σ ρ r)

/-- a pure operation's run -/
def Does (P : Program) (r : Operand → Value) (o : Oper) (w : World) (v : Value) : Prop := (execOp r o).run P w = .ok (.value v) w

omit EO in
theorem physFn_func (σ : Sig) (f : FuncId) : physFn σ (.func f) = .func f := rfl

include EO RR
theorem guard_sound {op : BinOp} {t : Nat} {x y : Operand} {a b : Value} (ha : ρ x = some a) (hb : ρ y = some b) (h : guardOk E op t x y a b = true) :
    (eqGuard op t x y (phys σ a) (phys σ b)).run P w = .ok () w := by
  unfold eqGuard
  cases op
  case eql | neq =>
    cases a with
    | nilIface =>
      cases b with
      | nilIface =>
        simp only [guardOk, Bool.or_eq_true] at h
        simp only [phys_nilIface]
        rcases h with h | h
        · cases x <;> simp [isConstO] at h
          simp
        · cases y <;> simp [isConstO] at h
          simp
      | slice a _ _ => rcases a with _ | ⟨b, off, _ | o⟩ <;> simp [physSlice]
      | _ => simp
    | agg xs =>
      cases b with
      | agg ys =>
        simp only [guardOk] at h
        simp [EO.eg t h]
      | slice a _ _ => rcases a with _ | ⟨b, off, _ | o⟩ <;> simp [physSlice]
      | _ => simp
    | slice a _ _ => rcases a with _ | ⟨b, off, _ | o⟩ <;> simp [physSlice]
    | _ => simp
  all_goals simp

theorem pure_sound (o : Oper) {v : Value} (hk : kindOf E o.op = .pure) (e : exPure E ρ o.op = some v) : Does P r o w (phys σ v) ∧ Wf σ v := by
  obtain ⟨dst, op, ty, pos, after, guard⟩ := o
  unfold Does
  simp only at e hk ⊢
  cases op with
  | move x =>
    obtain ⟨h1, h2⟩ := RR x v e
    exact ⟨by simp [execOp, h1], h2⟩
  | pick c a b =>
    simp only [exPure] at e
    cases hc : ρ c with
    | none => simp [hc] at e
    | some cv =>
      cases cv <;> simp only [hc] at e
      all_goals (try (cases e; done))
      rename_i t
      have h1 := (RR c _ hc).1
      simp only [phys_bool] at h1
      cases t
      · simp only [cond_false] at e
        obtain ⟨h3, h4⟩ := RR b v e
        exact ⟨by simp [execOp, h1, asBool, h3], h4⟩
      · simp only [cond_true] at e
        obtain ⟨h3, h4⟩ := RR a v e
        exact ⟨by simp [execOp, h1, asBool, h3], h4⟩
  | nilCheck x =>
    simp only [exPure] at e
    split at e
    · rename_i a hx
      cases e
      obtain ⟨h1, h2⟩ := RR x _ hx
      exact ⟨by simp [execOp, h1], h2⟩
    · rename_i f a b hx
      cases e
      obtain ⟨h1, h2⟩ := RR x _ hx
      exact ⟨by simp [execOp, h1, physFn], h2⟩
    · cases e
  | binOp op t x y yt =>
    simp only [exPure] at e
    cases hx : ρ x with
    | none => simp [hx] at e
    | some a =>
      cases hy : ρ y with
      | none => simp [hx, hy] at e
      | some b =>
        simp only [hx, hy] at e
        cases hg : guardOk E op t x y a b with
        | false => simp [hg] at e
        | true =>
          simp only [hg, cond_true] at e
          obtain ⟨h1, h2⟩ := RR x _ hx
          obtain ⟨h3, h4⟩ := RR y _ hy
          obtain ⟨h5, h6⟩ := bin_sound EO (P := P) (w := w) e h2 h4
          exact ⟨by simp [execOp, h1, h3, guard_sound EO RR hx hy hg, h5], h6⟩
  | unOp op t x =>
    simp only [exPure] at e
    cases hx : ρ x with
    | none => simp [hx] at e
    | some a =>
      simp only [hx] at e
      have h1 := (RR x _ hx).1
      unfold un at e
      split at e
      · simp only [forceInt_eq, Option.some.injEq] at e
        subst e
        exact ⟨by simp [execOp, h1, Op.unary, Op.intArith], .int _ _⟩
      · cases e
        exact ⟨by simp [execOp, h1, Op.unary], .bool _⟩
      · rename_i k n
        cases hs : k.signed with
        | true => simp [hs] at e
        | false =>
          simp only [hs, cond_false, forceInt_eq, Option.some.injEq] at e
          subst e
          refine ⟨?_, .int _ _⟩
          have hmax : k.max = Int.ofNat (2 ^ k.bits - 1) := by cases k <;> simp [IntKind.signed] at hs <;> rfl
          have := nat_bits (P := P) (w := w) (k := k) (a := 2 ^ k.bits - 1) (b := n) (op := .xor) rfl
          rw [← hmax] at this
          simp only [execOp, h1, phys_int, Op.unary, hs, Bool.false_eq_true, if_false, Sem.run_bind, this, Result.andThen_ok, Sem.run_pure]
      · cases e
  | makeInterface t x =>
    simp only [exPure] at e
    cases ht : E.ty t with
    | none => simp [ht] at e
    | some p =>
      obtain ⟨i, d⟩ := p
      cases hx : ρ x with
      | none => cases d <;> simp [ht, hx] at e
      | some a =>
        obtain ⟨h1, h2⟩ := RR x _ hx
        cases d <;> simp only [ht, hx] at e
        all_goals (try (cases e; done))
        all_goals (cases e; exact ⟨by simp [execOp, Instr.makeInterface, EO.run_ty ht, h1], .iface _ _ h2⟩)
  | sliceToArrayPointer arr x =>
    simp only [exPure] at e
    split at e
    · rename_i i len el b o m c ht hx
      obtain ⟨h1, h2⟩ := RR x _ hx
      cases hl : Nat.ble len m with
      | false => rw [hl] at e; cases e
      | true =>
        rw [hl] at e
        simp only [cond_true, Option.some.injEq] at e
        subst e
        have hl' : ¬ m < len := by rw [nble] at hl; have := of_decide_eq_true hl; omega
        cases h2 with
        | slice _ _ _ _ q hq =>
          refine ⟨?_, .ptr b o q hq⟩
          simp [execOp, Instr.arrayAt, EO.run_ty ht, h1, physSlice, hl']
    · cases e
  | extract x i =>
    simp only [exPure] at e
    cases hx : ρ x with
    | none => simp [hx] at e
    | some a =>
      cases a <;> simp only [hx] at e
      all_goals (try (cases e; done))
      rename_i vs
      obtain ⟨h1, h2⟩ := RR x _ hx
      cases h2 with
      | tuple _ h2 =>
        refine ⟨?_, h2 v (List.mem_of_getElem? e)⟩
        simp [execOp, h1, Instr.extract, e]
  | makeFunc fn first captured =>
    cases fn <;> simp only [exPure] at e
    all_goals (try (cases e; done))
    rename_i f
    cases ha : first.toList.mapM ρ with
    | none => simp [ha] at e
    | some a =>
      cases hb : captured.toList.mapM ρ with
      | none => simp [ha, hb] at e
      | some b =>
        simp only [ha, hb, Option.some.injEq] at e
        subst e
        have h1 := mapM_map (g := r) (p := phys σ) (fun x y h => (RR x y h).1) ha
        have h2 := mapM_map (g := r) (p := phys σ) (fun x y h => (RR x y h).1) hb
        refine ⟨?_, .func f _ _ (fun v hv => ?_) (fun v hv => ?_)⟩
        · have e1 : first.map r = ⟨a.map (phys σ)⟩ := by apply Array.ext'; simp [h1]
          have e2 : captured.map r = ⟨b.map (phys σ)⟩ := by apply Array.ext'; simp [h2]
          simp [execOp, Instr.makeFunc, e1, e2, physFn]
        · obtain ⟨x, _, hx⟩ := mapM_mem ha v hv; exact (RR x v hx).2
        · obtain ⟨x, _, hx⟩ := mapM_mem hb v hv; exact (RR x v hx).2
  | fieldAddr t x f =>
    simp only [exPure, fieldOf] at e
    cases ht : E.ty t with
    | none => simp [ht] at e
    | some p =>
      obtain ⟨i, d⟩ := p
      cases d <;> simp only [ht] at e
      all_goals (try (simp at e; done))
      rename_i fs
      cases hf : fs[f]? with
      | none => simp [hf] at e
      | some fd =>
        simp only [hf] at e
        cases hx : ρ x with
        | none => simp [hx] at e
        | some a =>
          obtain ⟨h1, h2⟩ := RR x _ hx
          cases h2 with
          | ptr b o p hp =>
            simp only [hx] at e
            cases hs : E.size fd.type with
            | none => simp [hs] at e
            | some s =>
              cases s with
              | zero => simp [hs] at e
              | succ s =>
                simp only [hs, Option.some.injEq] at e
                subst e
                refine ⟨?_, .ptr _ _ p hp⟩
                have hadd : ∀ (q : Addr) (n : Nat), q.spot = none → q.add n = ⟨q.block, q.off + n, none⟩ := fun q n h => by
                  unfold Addr.add; split
                  · subst_vars; cases q; simp_all
                  · cases q; simp_all
                simp [execOp, Instr.fieldAt, EO.run_ty ht, hf, h1, Sig.addr, Instr.sureAddr, fieldPlace, EO.run_size hs, hadd, Nat.add_assoc]
          | _ => simp [hx] at e
  | field t x f =>
    simp only [exPure, fieldOf] at e
    cases ht : E.ty t with
    | none => simp [ht] at e
    | some p =>
      obtain ⟨i, d⟩ := p
      cases d <;> simp only [ht] at e
      all_goals (try (simp at e; done))
      rename_i fs
      cases hf : fs[f]? with
      | none => simp [hf] at e
      | some fd =>
        simp only [hf] at e
        cases hx : ρ x with
        | none => simp [hx] at e
        | some a =>
          obtain ⟨h1, h2⟩ := RR x _ hx
          cases h2 with
          | agg cs h2 h3 =>
            simp only [hx] at e
            refine ⟨?_, partOf_wf (fun v hv => ⟨h2 v hv, h3 v hv⟩) e⟩
            simp [execOp, Instr.field, EO.run_ty ht, hf, h1, asAgg, EO.part e]
          | _ => simp [hx] at e
  | indexAddr t x ix =>
    simp only [exPure] at e
    cases ht : E.ty t with
    | none => simp [ht] at e
    | some p =>
      obtain ⟨i, d⟩ := p
      cases hx : ρ x with
      | none => cases d <;> simp [ht, hx] at e
      | some a =>
        cases hi : (ρ ix).bind natOf with
        | none => cases d <;> simp [ht, hx, hi] at e
        | some n =>
          obtain ⟨k, hn⟩ := rho_nat RR hi
          obtain ⟨h1, h2⟩ := RR x _ hx
          cases d <;> simp only [ht, hx, hi] at e
          all_goals (try (simp at e; done))
          · rename_i el
            cases h2 with
            | slice b o m c p hp =>
              simp only at e
              cases hs : E.size el with
              | none => simp [hs] at e
              | some s =>
                simp only [hs, nblt] at e
                cases hlt : decide (n < m) with
                | false => rw [hlt] at e; simp at e
                | true =>
                  rw [hlt] at e
                  simp only [cond_true, Option.some.injEq] at e
                  subst e
                  have hlt' : n < m := by simpa using hlt
                  refine ⟨?_, .ptr _ _ p hp⟩
                  simp [execOp, Instr.indexAt, hn, asIntOf, EO.run_ty ht, h1, physSlice, Sig.addr, hlt', EO.run_size hs, Addr.add_mid, Nat.add_assoc]
            | _ => simp at e
          · rename_i len el
            cases h2 with
            | ptr b o p hp =>
              simp only at e
              cases hs : E.size el with
              | none => simp [hs] at e
              | some s =>
                simp only [hs, nblt] at e
                cases hlt : decide (n < len) with
                | false => rw [hlt] at e; simp at e
                | true =>
                  rw [hlt] at e
                  simp only [cond_true, Option.some.injEq] at e
                  subst e
                  have hlt' : n < len := by simpa using hlt
                  refine ⟨?_, .ptr _ _ p hp⟩
                  simp [execOp, Instr.indexAt, hn, asIntOf, EO.run_ty ht, h1, Instr.sureAddr, Sig.addr, hlt', EO.run_size hs, Addr.add_mid, Nat.add_assoc]
            | _ => simp at e
  | index t x ix =>
    simp only [exPure] at e
    cases ht : E.ty t with
    | none => simp [ht] at e
    | some p =>
      obtain ⟨i, d⟩ := p
      cases hx : ρ x with
      | none => cases d <;> simp [ht, hx] at e
      | some a =>
        cases hi : (ρ ix).bind natOf with
        | none => cases d <;> simp [ht, hx, hi] at e
        | some n =>
          obtain ⟨k, hn⟩ := rho_nat RR hi
          obtain ⟨h1, h2⟩ := RR x _ hx
          cases d <;> simp only [ht, hx, hi] at e
          all_goals (try (simp at e; done))
          · cases h2 with
            | string s =>
              simp only at e
              cases hb : s.data.toList[n]? with
              | none => simp [hb] at e
              | some c =>
                simp only [hb, Option.some.injEq] at e
                subst e
                refine ⟨?_, .int _ _⟩
                have hsb : s[n]? = some c := by
                  obtain ⟨hl, he⟩ := List.getElem?_eq_some_iff.1 hb
                  rw [getElem?_eq_some_iff]
                  exact ⟨by simpa using hl, he⟩
                simp [execOp, Instr.index, hn, asIntOf, EO.run_ty ht, h1, hsb]
            | _ => simp at e
          · rename_i len el
            cases h2 with
            | agg cs h2 h3 =>
              simp only at e
              cases hs : E.size el with
              | none => simp [hs] at e
              | some s =>
                simp only [hs, nblt] at e
                cases hlt : decide (n < len) with
                | false => rw [hlt] at e; simp at e
                | true =>
                  rw [hlt] at e
                  simp only [cond_true] at e
                  have hlt' : n < len := by simpa using hlt
                  refine ⟨?_, partOf_wf (fun v hv => ⟨h2 v hv, h3 v hv⟩) e⟩
                  simp [execOp, Instr.index, hn, asIntOf, EO.run_ty ht, h1, hlt', EO.run_size hs, EO.part e]
            | _ => simp at e
  | typeAssert x xt t ok =>
    simp only [exPure] at e
    cases ht : E.ty t with
    | none => simp [ht] at e
    | some p =>
      obtain ⟨i, d⟩ := p
      cases hx : ρ x with
      | none => cases d <;> simp [ht, hx] at e
      | some a =>
        obtain ⟨h1, h2⟩ := RR x _ hx
        have hd : ∀ ms, d ≠ .interface ms := fun ms h => by subst h; simp [ht, hx] at e
        have e' : (match a with
            | .iface u v => cond (Nat.beq u t) (some (cond ok (.tuple #[v, .bool true]) v)) (cond ok (i.zero.map fun z => .tuple #[z, .bool false]) none)
            | .nilIface => cond ok (i.zero.map fun z => .tuple #[z, .bool false]) none
            | _ => none) = some v := by
          cases d <;> (try exact absurd rfl (hd _)) <;> (simp only [ht, hx] at e; cases a <;> first | exact e | (cases e; done))
        have hzero : ∀ z, i.zero = some z → phys σ z = z ∧ Wf σ z := fun z hz => phys_const (EO.zero _ _ _ _ ht hz).1
        cases h2 with
        | iface u x2 hw =>
          simp only [nbeq] at e'
          by_cases hu : u = t
          · simp only [hu, decide_true, cond_true, Option.some.injEq] at e'
            subst e'
            subst hu
            cases ok
            · refine ⟨?_, hw⟩
              cases d <;> (try exact absurd rfl (hd _)) <;> simp [execOp, Instr.typeAssert, EO.run_ty ht, h1]
            · refine ⟨?_, .tuple _ (by simp [hw, Wf.bool])⟩
              cases d <;> (try exact absurd rfl (hd _)) <;> simp [execOp, Instr.typeAssert, EO.run_ty ht, h1]
          · simp only [hu, decide_false, cond_false] at e'
            cases ok
            · simp at e'
            · cases hz : i.zero with
              | none => simp [hz] at e'
              | some z =>
                simp only [hz, cond_true, Option.map_some, Option.some.injEq] at e'
                subst e'
                refine ⟨?_, .tuple _ (by simp [hzero z hz, Wf.bool])⟩
                cases d <;> (try exact absurd rfl (hd _)) <;> simp [execOp, Instr.typeAssert, EO.run_ty ht, h1, hu, EO.run_zero ht hz, hzero z hz]
        | nilIface =>
          simp only at e'
          cases ok
          · simp at e'
          · cases hz : i.zero with
            | none => simp [hz] at e'
            | some z =>
              simp only [hz, cond_true, Option.map_some, Option.some.injEq] at e'
              subst e'
              refine ⟨?_, .tuple _ (by simp [hzero z hz, Wf.bool])⟩
              cases d <;> (try exact absurd rfl (hd _)) <;> simp [execOp, Instr.typeAssert, EO.run_ty ht, h1, EO.run_zero ht hz, hzero z hz]
        | _ => simp at e'
  | convert src dst x =>
    simp only [exPure] at e
    cases ht : E.ty dst with
    | none => simp [ht] at e
    | some p =>
      obtain ⟨i, d⟩ := p
      cases hx : ρ x with
      | none => cases d <;> simp [ht, hx] at e
      | some a =>
        obtain ⟨h1, h2⟩ := RR x _ hx
        cases hs : E.ty src with
        | none => simp [kindOf, hs] at hk
        | some q =>
          obtain ⟨i', d'⟩ := q
          simp only [kindOf, hs, ht] at hk
          cases d <;> simp only [ht, hx] at e
          all_goals (try (simp at e; done))
          · rename_i k
            cases a <;> simp only at e
            all_goals (try (simp at e; done))
            simp only [forceInt_eq, Option.some.injEq] at e
            subst e
            refine ⟨?_, .int _ _⟩
            simp [execOp, convert, EO.run_ty hs, EO.run_ty ht, h1, Conv.intToInt]
          · cases a <;> simp only at e
            all_goals (try (simp at e; done))
            · simp only [Option.some.injEq] at e
              subst e
              refine ⟨?_, .string _⟩
              simp [execOp, convert, EO.run_ty hs, EO.run_ty ht, h1, Conv.intToString]
            · simp only [Option.some.injEq] at e
              subst e
              refine ⟨?_, .string _⟩
              simp [execOp, convert, EO.run_ty hs, EO.run_ty ht, h1]
  | build t ps =>
    simp only [exPure] at e
    cases ht : E.ty t with
    | none => simp [ht] at e
    | some p =>
      obtain ⟨i, d⟩ := p
      cases d <;> simp only [ht] at e
      all_goals (try (simp at e; done))
      · -- an array
        rename_i n el
        cases hz : i.zero with
        | none => simp [hz] at e
        | some z =>
          cases hs : E.size el with
          | none => simp [hz, hs] at e
          | some s =>
            simp only [hz, hs] at e
            cases hl : ps.toList.mapM (elemPart ρ s) with
            | none => simp [hl] at e
            | some l =>
              simp only [hl] at e
              cases hf : fillL (vcells z) l with
              | none => simp [hf] at e
              | some cs =>
                simp only [hf, Option.map_some, Option.some.injEq] at e
                subst e
                obtain ⟨hzc, hzf⟩ := EO.zero _ _ _ _ ht hz
                obtain ⟨hzp, hzw⟩ := phys_const (σ := σ) hzc
                obtain ⟨m1, m2⟩ := mapM_some hl
                have hget : ∀ (i off size : Nat) (v : Value), l[i]? = some (off, size, v) → ∃ k x, ps.toList[i]? = some (k, x) ∧ ρ x = some v ∧ off = k * s ∧ size = s := fun i off size v h => by
                  have hi : i < ps.toList.length := by have := (List.getElem?_eq_some_iff.1 h).1; omega
                  obtain ⟨y, hy, hy2⟩ := m2 i _ (List.getElem?_eq_getElem hi)
                  rw [h] at hy2; cases hy2
                  generalize hkx : ps.toList[i] = kx at hy
                  obtain ⟨k, x⟩ := kx
                  unfold elemPart at hy
                  cases hx : ρ x with
                  | none => simp [hx] at hy
                  | some v' =>
                    simp only [hx, Option.map_some, Option.some.injEq, Prod.mk.injEq] at hy
                    obtain ⟨rfl, rfl, rfl⟩ := hy
                    exact ⟨k, x, by rw [List.getElem?_eq_getElem hi, hkx], hx, rfl, rfl⟩
                obtain ⟨f1, f2, _⟩ := fill_sound (σ := σ) (place := fun i => some (i * s, s)) l (vcells z) cs (ps.toList.map fun (k, x) => (k, r x)) hf (by simp only [List.length_map]; omega)
                  (fun i off size v h => by
                    obtain ⟨k, x, g1, g2, rfl, rfl⟩ := hget i off size v h
                    exact ⟨k, by simp [g1, (RR x v g2).1], rfl⟩)
                  (hzw.cells hzf) (fun i off size v h => by obtain ⟨k, x, _, g2, _⟩ := hget i off size v h; exact (RR x v g2).2)
                refine ⟨?_, .agg _ (fun v hv => (f2 v hv).1) (fun v hv => (f2 v hv).2)⟩
                have hzc' : z.cells = ⟨(vcells z).map (phys σ)⟩ := by
                  apply Array.ext'
                  rw [← phys_cells, hzp]
                have hps : (ps.map fun x => (x.fst, r x.snd)).toList = ps.toList.map fun x => (x.fst, r x.snd) := by simp
                simp only [execOp, Instr.build, Sem.run_bind, EO.run_zero ht hz, EO.run_ty ht, Result.andThen_ok, EO.run_size hs, hps, hzc', f1, Sem.run_pure, phys_agg]
      · rename_i fs
        cases hz : i.zero with
        | none => simp [hz] at e
        | some z =>
          simp only [hz] at e
          cases hl : ps.toList.mapM (fieldPart E ρ fs) with
          | none => rw [hl] at e; simp at e
          | some l =>
            rw [hl] at e
            simp only at e
            cases hf : fillL (vcells z) l with
            | none => simp [hf] at e
            | some cs =>
              simp only [hf, Option.map_some, Option.some.injEq] at e
              subst e
              obtain ⟨hzc, hzf⟩ := EO.zero _ _ _ _ ht hz
              obtain ⟨hzp, hzw⟩ := phys_const (σ := σ) hzc
              obtain ⟨m1, m2⟩ := mapM_some hl
              have hsz : ∀ f ∈ fs.toList, E.size f.type = some ((E.size f.type).getD 0) := fun f hf => by
                obtain ⟨s, hs⟩ := EO.fields _ _ _ ht f hf
                simp [hs]
              have hget : ∀ (i off size : Nat) (v : Value), l[i]? = some (off, size, v) → ∃ k x f, ps.toList[i]? = some (k, x) ∧ ρ x = some v ∧ fs[k]? = some f ∧ off = f.offset ∧ size = (E.size f.type).getD 0 := fun i off size v h => by
                have hi : i < ps.toList.length := by have := (List.getElem?_eq_some_iff.1 h).1; omega
                obtain ⟨y, hy, hy2⟩ := m2 i _ (List.getElem?_eq_getElem hi)
                rw [h] at hy2; cases hy2
                generalize hkx : ps.toList[i] = kx at hy
                obtain ⟨k, x⟩ := kx
                unfold fieldPart at hy
                cases hfk : fs[k]? with
                | none => simp [hfk] at hy
                | some f =>
                  cases hx : ρ x with
                  | none => simp [hfk, hx] at hy
                  | some v' =>
                    simp only [hfk, hx] at hy
                    have hfm : f ∈ fs.toList := by
                      have := Array.mem_of_getElem? hfk
                      simpa using this
                    rw [hsz f hfm] at hy
                    simp only [Option.map_some, Option.some.injEq, Prod.mk.injEq] at hy
                    obtain ⟨rfl, rfl, rfl⟩ := hy
                    exact ⟨k, x, f, by rw [List.getElem?_eq_getElem hi, hkx], hx, hfk, rfl, rfl⟩
              obtain ⟨f1, f2, _⟩ := fill_sound (σ := σ) (place := fun i => (fs.map fun f => (f.offset, (E.size f.type).getD 0))[i]?) l (vcells z) cs (ps.toList.map fun (k, x) => (k, r x)) hf (by simp only [List.length_map]; omega)
                (fun i off size v h => by
                  obtain ⟨k, x, f, g1, g2, g3, rfl, rfl⟩ := hget i off size v h
                  exact ⟨k, by simp [g1, (RR x v g2).1], by simp [g3]⟩)
                (hzw.cells hzf) (fun i off size v h => by obtain ⟨k, x, f, _, g2, _⟩ := hget i off size v h; exact (RR x v g2).2)
              refine ⟨?_, .agg _ (fun v hv => (f2 v hv).1) (fun v hv => (f2 v hv).2)⟩
              have hzc' : z.cells = ⟨(vcells z).map (phys σ)⟩ := by
                apply Array.ext'
                rw [← phys_cells, hzp]
              have hps : (ps.map fun x => (x.fst, r x.snd)).toList = ps.toList.map fun x => (x.fst, r x.snd) := by simp
              have hmap : ∀ (fl : List Field), (∀ f ∈ fl, f ∈ fs.toList) → ((fl.mapM fun f => do pure (f.offset, ← sizeOf f.type) : Sem (List (Nat × Nat)))).run P w = .ok (fl.map fun f => (f.offset, (E.size f.type).getD 0)) w := fun fl => by
                induction fl with
                | nil => intro _; simp
                | cons f fl ih =>
                  intro hm
                  have := ih fun g hg => hm g (List.mem_cons_of_mem _ hg)
                  rw [List.mapM_cons]
                  simp only [Sem.run_bind, EO.run_size (hsz f (hm f List.mem_cons_self)), Result.andThen_ok, Sem.run_pure, this, List.map_cons]
              have hplaces : (fs.mapM fun f => do pure (f.offset, ← sizeOf f.type) : Sem (Array (Nat × Nat))).run P w = .ok (fs.map fun f => (f.offset, (E.size f.type).getD 0)) w := by
                rw [Array.mapM_eq_mapM_toList, Sem.run_map, hmap _ (fun _ h => h)]
                show Result.ok _ w = _
                congr 1
                apply Array.ext'
                simp
              simp only [execOp, Instr.build, Sem.run_bind, EO.run_zero ht hz, EO.run_ty ht, Result.andThen_ok, hplaces, hps, hzc', f1, Sem.run_pure, phys_agg]
  | call c =>
    obtain ⟨callee, args, argTypes⟩ := c
    cases callee with
    | value f => simp [kindOf] at hk
    | invoke f n => simp [kindOf] at hk
    | builtin b =>
      cases b
      case cap =>
        simp only [exPure] at e
        cases hA : argTypes[0]?.bind E.ty with
        | none => simp [hA] at e
        | some p =>
          cases hx : args[0]?.bind ρ with
          | none => obtain ⟨i, d⟩ := p; cases d <;> simp [hA, hx] at e
          | some a =>
            obtain ⟨i, d⟩ := p
            cases d <;> simp only [hA, hx] at e
            all_goals (try (simp at e; done))
            rename_i el
            cases a <;> simp only at e
            all_goals (try (simp at e; done))
            rename_i ad n c
            cases hc : Nat.blt c unk with
            | false => simp [hc] at e
            | true =>
              simp only [hc, cond_true, Option.some.injEq] at e
              subst e
              obtain ⟨t, ht, hty⟩ := Option.bind_eq_some_iff.1 hA
              obtain ⟨x, hx0, hx1⟩ := Option.bind_eq_some_iff.1 hx
              obtain ⟨h1, h2⟩ := RR x _ hx1
              have hm : (args.map r)[0]? = some (phys σ (.slice ad n c)) := by simp [hx0, h1]
              obtain ⟨ad', hp⟩ : ∃ ad', phys σ (.slice ad n c) = .slice ad' n c := by
                have : ¬ c = unk := by rw [nblt] at hc; simp at hc; omega
                rcases ad with _ | ⟨b, off, _ | o⟩ <;> simp [physSlice, this]
              refine ⟨?_, .int _ _⟩
              simp [execOp, resolve, invoke, builtin, Builtin.cap_, ht, hm, EO.run_ty hty, hp, goInt]
      case min =>
        simp only [exPure] at e
        cases hm : args.toList.mapM ρ with
        | none => simp [hm] at e
        | some l =>
          cases l with
          | nil => simp [hm] at e
          | cons x xs =>
            simp only [hm] at e
            have h2 := mapM_map (g := r) (p := phys σ) (fun x y h => (RR x y h).1) hm
            have hw : Wf σ x := by obtain ⟨y, _, hy⟩ := mapM_mem hm x (by simp); exact (RR y x hy).2
            have key : ∀ (xs : List Value) (x v : Value), Wf σ x → xs.foldlM (fun x y => match x, y with | .int k a, .int _ b => some (Value.int k (cond (decide (b < a)) b a)) | _, _ => none) x = some v →
                ((xs.map (phys σ)).foldlM Builtin.min2 (phys σ x)).run P w = .ok (phys σ v) w ∧ Wf σ v := by
              intro xs
              induction xs with
              | nil => intro x v hw h; simp at h; subst h; exact ⟨by simp, hw⟩
              | cons y ys ih =>
                intro x v hw h
                rw [List.foldlM_cons] at h
                cases x <;> cases y <;> simp only [Option.bind_eq_bind, Option.bind_none, Option.bind_some] at h
                all_goals (try (simp at h; done))
                rename_i k a k' b
                obtain ⟨g1, g2⟩ := ih _ _ (.int _ _) h
                refine ⟨?_, g2⟩
                simp only [List.map_cons, List.foldlM_cons, Sem.run_bind, phys_int, Builtin.min2, Sem.run_pure, Result.andThen_ok]
                rw [phys_int] at g1
                rw [← g1]
                congr 3
                by_cases hd : b < a <;> simp [hd]
            obtain ⟨k1, k2⟩ := key xs x v hw e
            refine ⟨?_, k2⟩
            have hl : (args.map r).toList = phys σ x :: xs.map (phys σ) := by simp [h2]
            simp [execOp, resolve, invoke, builtin, Builtin.min_, h2, k1]
      case max =>
        simp only [exPure] at e
        cases hm : args.toList.mapM ρ with
        | none => simp [hm] at e
        | some l =>
          cases l with
          | nil => simp [hm] at e
          | cons x xs =>
            simp only [hm] at e
            have h2 := mapM_map (g := r) (p := phys σ) (fun x y h => (RR x y h).1) hm
            have hw : Wf σ x := by obtain ⟨y, _, hy⟩ := mapM_mem hm x (by simp); exact (RR y x hy).2
            have key : ∀ (xs : List Value) (x v : Value), Wf σ x → xs.foldlM (fun x y => match x, y with | .int k a, .int _ b => some (Value.int k (cond (decide (b > a)) b a)) | _, _ => none) x = some v →
                ((xs.map (phys σ)).foldlM Builtin.max2 (phys σ x)).run P w = .ok (phys σ v) w ∧ Wf σ v := by
              intro xs
              induction xs with
              | nil => intro x v hw h; simp at h; subst h; exact ⟨by simp, hw⟩
              | cons y ys ih =>
                intro x v hw h
                rw [List.foldlM_cons] at h
                cases x <;> cases y <;> simp only [Option.bind_eq_bind, Option.bind_none, Option.bind_some] at h
                all_goals (try (simp at h; done))
                rename_i k a k' b
                obtain ⟨g1, g2⟩ := ih _ _ (.int _ _) h
                refine ⟨?_, g2⟩
                simp only [List.map_cons, List.foldlM_cons, Sem.run_bind, phys_int, Builtin.max2, Sem.run_pure, Result.andThen_ok]
                rw [phys_int] at g1
                rw [← g1]
                congr 3
                by_cases hd : b > a <;> simp [hd]
            obtain ⟨k1, k2⟩ := key xs x v hw e
            refine ⟨?_, k2⟩
            have hl : (args.map r).toList = phys σ x :: xs.map (phys σ) := by simp [h2]
            simp [execOp, resolve, invoke, builtin, Builtin.max_, h2, k1]
      all_goals simp [kindOf] at hk
  | _ => simp [kindOf] at hk
end
end Go.Lm

/- The operations that read the heap. -/
namespace Go.Lm

theorem beq_bytes (x y : ByteArray) : (x == y) = (x.data.toList == y.data.toList) := by
  simp [beq_toListBytes, ByteArray.toList_eq]

theorem ite_cond {α : Type} (c : Bool) (x y : α) : (if c = true then x else y) = cond c x y := by cases c <;> rfl

section inv
variable {σ : Sig}
theorem phys_int_inv {v : Value} {k : IntKind} {n : Int} (h : phys σ v = .int k n) : v = .int k n := by
  cases v with
  | int => simpa using h
  | slice a b c => rcases a with _ | ⟨b, off, _ | o⟩ <;> simp [physSlice] at h
  | _ => simp at h
theorem phys_string_inv {v : Value} {s : ByteArray} (h : phys σ v = .string s) : v = .string s := by
  cases v with
  | string => simpa using h
  | slice a b c => rcases a with _ | ⟨b, off, _ | o⟩ <;> simp [physSlice] at h
  | _ => simp at h
theorem phys_bool_inv {v : Value} {s : Bool} (h : phys σ v = .bool s) : v = .bool s := by
  cases v with
  | bool => simpa using h
  | slice a b c => rcases a with _ | ⟨b, off, _ | o⟩ <;> simp [physSlice] at h
  | _ => simp at h
end inv

theorem sameNow_phys (σ : Sig) (d : TypeDesc) (k e : Value) : Instr.sameNow d (phys σ k) (phys σ e) = sameNowL d k e := by
  unfold sameNowL
  split
  · rename_i k1 a k2 b
    by_cases h : k1 = k2
    · simp [Instr.sameNow, h]
    · have : (k1 == k2) = false := by simpa using h
      simp [Instr.sameNow, h, this]
  · simp [Instr.sameNow, beq_bytes]
  · simp [Instr.sameNow]
  · rename_i h1 h2 h3
    unfold Instr.sameNow
    split
    · rename_i e1 e2; exact (h1 _ _ _ _ _ rfl (phys_int_inv e1) (phys_int_inv e2)).elim
    · rename_i e1 e2; exact (h2 _ _ rfl (phys_string_inv e1) (phys_string_inv e2)).elim
    · rename_i e1 e2; exact (h3 _ _ rfl (phys_bool_inv e1) (phys_bool_inv e2)).elim
    · rfl

theorem findNow_phys (σ : Sig) (d : TypeDesc) (k : Value) : ∀ (es : List MapEntry) (i : Nat),
    Instr.findNow d (phys σ k) (es.map (physE σ)) i = (findN d k es i).map (Option.map fun x => (x.1, phys σ x.2.val))
  | [], i => rfl
  | e :: es, i => by
    simp only [List.map_cons, Instr.findNow, findN, physE, sameNow_phys]
    cases sameNowL d k e.key with
    | none => rfl
    | some b =>
      cases b with
      | true => rfl
      | false => exact findNow_phys σ d k es (i + 1)

theorem findN_get (d : TypeDesc) (k : Value) : ∀ (es : List MapEntry) (i : Nat) (j : Nat) (x : MapEntry), findN d k es i = some (some (j, x)) → i ≤ j ∧ es[j - i]? = some x
  | [], i, j, x, h => by simp [findN] at h
  | e :: es, i, j, x, h => by
    simp only [findN] at h
    cases hs : sameNowL d k e.key with
    | none => simp [hs] at h
    | some b =>
      cases b with
      | true => simp [hs] at h; obtain ⟨rfl, rfl⟩ := h; simp
      | false =>
        simp only [hs] at h
        obtain ⟨h1, h2⟩ := findN_get d k es (i + 1) j x h
        refine ⟨by omega, ?_⟩
        rw [show j - i = (j - (i + 1)) + 1 by omega]
        simpa using h2

theorem findA_get (E : Env) (t : Nat) (k : Value) : ∀ (es : List MapEntry) (i : Nat) (j : Nat) (x : MapEntry), findA E t k es i = some (some (j, x)) → i ≤ j ∧ es[j - i]? = some x
  | [], i, j, x, h => by simp [findA] at h
  | e :: es, i, j, x, h => by
    simp only [findA] at h
    cases hs : eqV E 30 t k e.key with
    | none => simp [hs] at h
    | some b =>
      cases b with
      | true => simp [hs] at h; obtain ⟨rfl, rfl⟩ := h; simp
      | false =>
        simp only [hs] at h
        obtain ⟨h1, h2⟩ := findA_get E t k es (i + 1) j x h
        refine ⟨by omega, ?_⟩
        rw [show j - i = (j - (i + 1)) + 1 by omega]
        simpa using h2

section
variable {E : Env} {P : Program} (EO : EnvOK E P) {w : World} {σ : Sig}
include EO

theorem findA_sound {t : Nat} {k : Value} (hk : Wf σ k) : ∀ (es : List MapEntry) (i : Nat) (r : Option (Nat × MapEntry)), (∀ e ∈ es, LEnt σ e) → findA E t k es i = some r →
    (Instr.findAsking t (phys σ k) (es.map (physE σ)) i).run P w = .ok (r.map fun x => (x.1, phys σ x.2.val)) w
  | [], i, r, _, h => by simp [findA] at h; subst h; simp [Instr.findAsking]
  | e :: es, i, r, hw, h => by
    simp only [findA] at h
    cases hs : eqV E 30 t k e.key with
    | none => simp [hs] at h
    | some b =>
      have := eqV_sound EO 30 t k e.key b hs hk (hw e (by simp)).key Op.maxDepth (by decide) w
      have he : (Op.equal t (phys σ k) (physE σ e).key).run P w = .ok b w := this
      simp only [List.map_cons, Instr.findAsking, Sem.run_bind, he, Result.andThen_ok]
      cases b with
      | true => simp [hs] at h; subst h; simp [physE]
      | false =>
        simp only [hs] at h
        simp only [Bool.false_eq_true, if_false]
        exact findA_sound hk es (i + 1) r (fun e he => hw e (List.mem_cons_of_mem _ he)) h

theorem findE_sound {t : Nat} {k : Value} (hk : Wf σ k) {es : List MapEntry} {r : Option (Nat × MapEntry)} (hw : ∀ e ∈ es, LEnt σ e) (h : findE E t k es = some r) :
    (Instr.findKey t (phys σ k) (es.map (physE σ))).run P w = .ok (r.map fun x => (x.1, phys σ x.2.val)) w ∧ ∀ i x, r = some (i, x) → es[i]? = some x := by
  unfold findE at h
  cases ht : E.ty t with
  | none => simp [ht] at h
  | some p =>
    obtain ⟨ti, d⟩ := p
    simp only [ht] at h
    unfold Instr.findKey
    simp only [Sem.run_bind, EO.run_ty ht, Result.andThen_ok, findNow_phys]
    cases hn : findN d k es 0 with
    | some r' =>
      simp only [hn, Option.some.injEq] at h
      subst h
      exact ⟨by simp, fun i x e => by subst e; simpa using (findN_get d k es 0 i x hn).2⟩
    | none =>
      simp only [hn] at h
      exact ⟨by simpa using findA_sound EO hk es 0 r hw h, fun i x e => by subst e; simpa using (findA_get E t k es 0 i x h).2⟩

theorem partOf_run {t off : Nat} {cs : List Value} {v : Value} (e : partOf E t cs off = some v) : (part t ⟨cs.map (phys σ)⟩ off).run P w = .ok (phys σ v) w := EO.part e w

theorem keyOk_sound (em : Bool) : ∀ (n t : Nat) (v : Value), keyOk E n t v = true → Wf σ v → ∀ N, n < N → (Instr.checkKey em N t (phys σ v)).run P w = .ok () w
  | 0, t, v, h, _, N, _ => by simp [keyOk] at h
  | n + 1, t, v, h, hv, N, hN => by
    obtain ⟨N, rfl⟩ : ∃ m, N = m + 1 := ⟨N - 1, by omega⟩
    simp only [keyOk] at h
    cases ht : E.ty t with
    | none => simp [ht] at h
    | some p =>
      obtain ⟨ti, d⟩ := p
      simp only [ht] at h
      unfold Instr.checkKey
      simp only [Sem.run_bind, EO.run_ty ht, Result.andThen_ok]
      split at h
      · rename_i ms u x
        cases hu : E.ty u with
        | none => simp [hu] at h
        | some q =>
          obtain ⟨ui, ud⟩ := q
          simp only [hu, Bool.and_eq_true] at h
          cases hv with
          | iface _ _ hx =>
            have := keyOk_sound em n u x h.2 hx N (by omega)
            simp [EO.run_info hu, h.1, this]
      · simp
      · rename_i len e cs
        cases hu : E.ty e with
        | none => simp [hu] at h
        | some q =>
          obtain ⟨ui, ud⟩ := q
          cases ud <;> simp only [hu] at h
          all_goals (try (simp at h; done))
          rename_i k
          simp only [Bool.and_eq_true, nbeq, nble, decide_eq_true_eq] at h
          have hs : E.size e = some 1 := by rw [EnvOK.size_of hu, h.1]
          obtain ⟨N, rfl⟩ : ∃ m, N = m + 1 := ⟨N - 1, by omega⟩
          simp only [phys_agg]
          rw [Std.Legacy.Range.forIn_eq_forIn_range']
          simp only [Std.Legacy.Range.size, Nat.sub_zero, Nat.add_sub_cancel, Nat.div_one]
          have key : ∀ m i, i + m ≤ len → (forIn (List.range' i m) PUnit.unit (fun i r => do
              Instr.checkKey em (N + 1) e (← part e ⟨cs.toList.map (phys σ)⟩ (i * (← sizeOf e)))
              pure (ForInStep.yield PUnit.unit))).run P w = .ok PUnit.unit w := by
            intro m
            induction m with
            | zero => intro i _; simp
            | succ m ih =>
              intro i hi
              have hlt : i < cs.toList.length := by omega
              have hp : partOf E e cs.toList (i * 1) = some cs.toList[i] := by
                simp only [partOf, hu, aggDesc, cond_false, Nat.mul_one]
                exact List.getElem?_eq_getElem hlt
              have hc : (Instr.checkKey em (N + 1) e (phys σ cs.toList[i])).run P w = .ok () w := by
                unfold Instr.checkKey
                simp [EO.run_ty hu]
              simp only [List.range'_succ, List.forIn_cons, Sem.run_bind, EO.run_size hs, Result.andThen_ok, EO.part hp, hc, Sem.run_pure]
              exact ih (i + 1) (by omega)
          have := key len 0 (by omega)
          simpa using this
      · rename_i fs cs
        simp only [phys_agg]
        have key : ∀ fl : List Field, (fl.all fun f => f.name == "_" || (match partOf E f.type cs.toList f.offset with | some x => keyOk E n f.type x | none => false)) = true →
            (forIn fl PUnit.unit (fun (f : Field) (r : PUnit) => do
              if f.name ≠ "_" then Instr.checkKey em N f.type (← part f.type ⟨cs.toList.map (phys σ)⟩ f.offset)
              pure (ForInStep.yield PUnit.unit))).run P w = .ok PUnit.unit w := by
          intro fl
          induction fl with
          | nil => intro _; simp
          | cons f fl ih =>
            intro hh
            simp only [List.all_cons, Bool.and_eq_true, Bool.or_eq_true, beq_iff_eq] at hh
            have hrest := ih hh.2
            rw [List.forIn_cons]
            by_cases hn : f.name = "_"
            · simp only [hn, ne_eq, not_true_eq_false, if_false, Sem.run_bind, Sem.run_pure, Result.andThen_ok]
              exact hrest
            · have h1 := hh.1.resolve_left hn
              cases hp : partOf E f.type cs.toList f.offset with
              | none => simp [hp] at h1
              | some x =>
                simp only [hp] at h1
                cases hv with
                | agg _ hv1 hv2 =>
                  have := keyOk_sound em n f.type x h1 (partOf_wf (fun x hx => ⟨hv1 x hx, hv2 x hx⟩) hp) N (by omega)
                  simp only [hn, ne_eq, not_false_iff, if_true, Sem.run_bind, EO.part hp, Result.andThen_ok, this, Sem.run_pure]
                  exact hrest
        have := key fs.toList h
        simp only [Sem.run_bind] at this
        rw [← Array.forIn_toList]
        simpa using this
      · simp at h
      · simp at h
      · simp at h
      · rename_i g1 g2 g3 _ _ _ _
        cases d <;> first | (simp; done) | exact (g1 _ rfl).elim | exact (g2 _ _ rfl).elim | exact (g3 _ rfl).elim
end

section
variable {E : Env} {P : Program} (EO : EnvOK E P) {w : World} {σ : Sig} {ρ : Rho} {r : Operand → Value} (RR : RhoRel σ ρ r) {N0 : Nat} {w0 : World} {h : H} (R : HRel N0 w0 σ h w)
include EO R

theorem load_sound {t b off : Nat} {v : Value} {p : Place} (hp : σ b = some p) (e : loadT E h t b off = some v) :
    (loadVar t ⟨p.blk, p.dlt + off, none⟩).run P w = .ok (phys σ v) w ∧ Wf σ v ∧ flatV v = true := by
  unfold loadT at e
  cases ht : E.ty t with
  | none => simp [ht] at e
  | some q =>
    obtain ⟨i, d⟩ := q
    simp only [ht] at e
    cases hd : aggDesc d with
    | true =>
      simp only [hd, cond_true] at e
      cases hr : h.readAt b off i.size with
      | none => simp [hr] at e
      | some l =>
        simp only [hr, Option.map_some, Option.some.injEq] at e
        subst e
        obtain ⟨h1, h2, h3, _⟩ := R.readAt hp hr
        refine ⟨?_, .agg _ (fun v hv => (h3 v hv).1) (fun v hv => (h3 v hv).2), rfl⟩
        rw [run_loadVar_mid w p.blk (p.dlt + off) t (l.map (phys σ)) d h2 (EO.ty _ _ _ ht).2 (by cases d <;> simp_all [aggDesc, TypeDesc.isRow]) (by simp [(EO.ty _ _ _ ht).1, h1])]
        simp
    | false =>
      simp only [hd, cond_false] at e
      cases hr : h.readAt b off 1 with
      | none => simp [hr] at e
      | some l =>
        obtain ⟨h1, h2, h3, _⟩ := R.readAt hp hr
        match l, h1 with
        | [x], _ =>
          simp only [hr, Option.some.injEq] at e
          subst e
          have hc := h2 0 (phys σ x) (by simp)
          have hx := h3 x (by simp)
          refine ⟨?_, hx.1, by cases x <;> simp_all [flatV, Value.oneCell']⟩
          simp only [Nat.add_zero] at hc
          simp [loadVar, EO.run_agg ht, hd, hc]

theorem src_sound {n s : Nat} {x : Value} {l : List Value} (hx : Wf σ x) (e : srcCells h s x = some (n, l)) :
    (Builtin.lenOf (phys σ x)).run P w = .ok n w ∧ (Builtin.firstCells s n (phys σ x)).run P w = .ok ⟨l.map (phys σ)⟩ w ∧ (∀ v ∈ l, Wf σ v ∧ v.oneCell' = true) ∧ (s = 1 ∨ (∀ st, x ≠ .string st) → l.length = n * s) := by
  unfold srcCells at e
  split at e
  · rename_i m c
    cases hm : Nat.beq m 0 with
    | false => simp [hm] at e
    | true =>
      simp [hm] at e
      obtain ⟨rfl, rfl⟩ := e
      rw [nbeq] at hm
      have : m = 0 := by simpa using hm
      subst this
      simp [physSlice, Builtin.lenOf, Builtin.firstCells]
  · rename_i b o o' m c
    cases hm : Nat.beq m 0 with
    | false => simp [hm] at e
    | true =>
      simp [hm] at e
      obtain ⟨rfl, rfl⟩ := e
      rw [nbeq] at hm
      have : m = 0 := by simpa using hm
      subst this
      simp [physSlice, Builtin.lenOf, Builtin.firstCells, loadCells, loadCellsFrom]
  · rename_i b o m c
    cases hr : h.readAt b o (m * s) with
    | none => simp [hr] at e
    | some l' =>
      simp only [hr, Option.map_some, Option.some.injEq, Prod.mk.injEq] at e
      obtain ⟨rfl, rfl⟩ := e
      cases hx with
      | slice _ _ _ _ p hp =>
        obtain ⟨h1, h2, h3, _⟩ := R.readAt hp hr
        have := run_loadCells_list (P := P) w ⟨p.blk, p.dlt + o, none⟩ (l'.map (phys σ)) (fun j v hv => by rw [Addr.add_mid]; exact h2 j v hv)
        rw [List.length_map, h1] at this
        refine ⟨by simp [physSlice, Builtin.lenOf], ?_, h3, fun _ => h1⟩
        simp only [phys_slice, physSlice, Builtin.firstCells, Sig.addr, Sig.blk, Sig.dlt, hp, this]
  · rename_i st
    simp only [Option.some.injEq, Prod.mk.injEq] at e
    obtain ⟨rfl, rfl⟩ := e
    refine ⟨?_, ?_, ?_, ?_⟩
    · simp only [phys_string, Builtin.lenOf, Sem.run_pure]; rfl
    · simp only [phys_string, Builtin.firstCells, Sem.run_pure]
      congr 1
      apply Array.ext'
      have : st.extract 0 st.data.toList.length = st := ByteArray.extract_zero_size
      rw [this]
      simp
    · intro v hv
      obtain ⟨b, _, rfl⟩ := List.mem_map.1 hv
      exact ⟨.int _ _, rfl⟩
    · intro hs
      rcases hs with rfl | hs
      · simp
      · exact (hs _ rfl).elim
  · simp at e
end
end Go.Lm

/- The operations that read the heap, each. -/
namespace Go.Lm

theorem bytesOf_spec : ∀ {l : List Value} {bs : List UInt8}, bytesOf l = some bs → ∃ ns : List Int, l = ns.map (Value.int .u8) ∧ bs = ns.map fun n => UInt8.ofNat n.toNat
  | [], bs, h => by simp [bytesOf] at h; exact ⟨[], rfl, by simp [h]⟩
  | v :: l, bs, h => by
    unfold bytesOf at h
    split at h
    · rename_i heq; cases heq
    · rename_i n l' heq
      cases heq
      cases hl : bytesOf l with
      | none => simp [hl] at h
      | some b' =>
        simp [hl] at h
        obtain ⟨ns, h1, h2⟩ := bytesOf_spec hl
        exact ⟨n :: ns, by simp [h1], by simp [← h, h2]⟩
    · simp at h

section
variable {E : Env} {P : Program} (EO : EnvOK E P) {w : World} {σ : Sig} {ρ : Rho} {r : Operand → Value} (RR : RhoRel σ ρ r) {N0 : Nat} {w0 : World} {h : H} (R : HRel N0 w0 σ h w)

include RR in
theorem bound_some {x : Operand} {n : Nat} (e : (ρ x).bind natOf = some n) {y : Nat} (hle : n ≤ y) (c : BoundsCode) : (Instr.sliceBound (r x) y c).run P w = .ok n w := by
  obtain ⟨k, hk⟩ := rho_nat RR e
  unfold Instr.sliceBound
  have : (0 : Int) ≤ (n : Int) ∧ (n : Int) ≤ (y : Int) := ⟨by omega, by omega⟩
  simp [hk, asIntOf, this]

include RR in
theorem bounds_sound {isS : Bool} {n c l hh : Nat} {lo hi : Option Operand} (hl : bound ρ lo 0 = some l) (hhi : bound ρ hi n = some hh) (h1 : l ≤ hh) (h2 : hh ≤ c) :
    (Instr.sliceBounds isS n c (lo.map r) (hi.map r) none).run P w = .ok (l, hh, c) w := by
  unfold Instr.sliceBounds
  cases hi with
  | none =>
    simp [bound] at hhi
    subst hhi
    cases lo with
    | none => simp [bound] at hl; subst hl; simp
    | some x => simp [bound_some (P := P) (w := w) RR hl h1]
  | some y =>
    have hy := fun code => bound_some (P := P) (w := w) RR hhi h2 code
    cases lo with
    | none => simp [bound] at hl; subst hl; simp [hy]
    | some x => simp [hy, bound_some (P := P) (w := w) RR hl h1]

include RR in
theorem bounds_sound3 {isS : Bool} {n c l hh m : Nat} {lo : Option Operand} {x y : Operand} (hl : bound ρ lo 0 = some l) (hhi : (ρ x).bind natOf = some hh) (hm : (ρ y).bind natOf = some m) (h1 : l ≤ hh) (h2 : hh ≤ m) (h3 : m ≤ c) :
    (Instr.sliceBounds isS n c (lo.map r) (some (r x)) (some (r y))).run P w = .ok (l, hh, m) w := by
  unfold Instr.sliceBounds
  cases lo with
  | none => simp [bound] at hl; subst hl; simp [bound_some (P := P) (w := w) RR hm h3, bound_some (P := P) (w := w) RR hhi h2]
  | some x => simp [bound_some (P := P) (w := w) RR hm h3, bound_some (P := P) (w := w) RR hhi h2, bound_some (P := P) (w := w) RR hl h1]

theorem cap_fits {p : Place} {rw : Row} {o h s : Nat} (he : rw.esz = p.esz) (hc : rw.cnt ≤ p.cap) (hz : 0 < p.esz) (h1 : o + h * s ≤ rw.cnt * rw.esz) (h2 : rw.esz = s) : h ≤ p.cap - o / p.esz := by
  subst h2
  rw [he] at h1
  have : (o + h * p.esz) / p.esz = o / p.esz + h := Nat.add_mul_div_right _ _ hz
  have h3 : (o + h * p.esz) / p.esz ≤ rw.cnt := Nat.div_le_of_le_mul (by rw [Nat.mul_comm p.esz]; exact h1)
  omega

omit EO RR R in
theorem ok_slice {a a' : Option Addr} {n c : Nat} (hh : a = a') : (Result.ok (Value.slice a n c) w : Result Value) = .ok (.slice a' n c) w := by rw [hh]

include EO RR in
theorem slice_run {t el l u c n s : Nat} {x : Operand} {lo hi : Option Operand} {i : TypeInfo} {a : Option Addr} (ht : E.ty t = some (i, .slice el)) (hr : r x = .slice a n c)
    (hl : bound ρ lo 0 = some l) (hh : bound ρ hi n = some u) (hs : E.size el = some s) (h1 : l ≤ u) (h2 : u ≤ c) :
    (Instr.sliceAt t (r x) (lo.map r) (hi.map r) none).run P w = .ok (.slice (if c = l then a else a.map (·.add (l * s))) (u - l) (c - l)) w := by
  unfold Instr.sliceAt
  rw [Sem.run_bind, EO.run_ty ht]
  simp only [Result.andThen_ok, Instr.slice, Sem.run_bind, EO.run_ty ht, hr, bounds_sound RR hl hh h1 h2, EO.run_size hs, Sem.run_pure]

include EO RR in
theorem slice_run3 {t el l u c n s m : Nat} {x y z : Operand} {lo : Option Operand} {i : TypeInfo} {a : Option Addr} (ht : E.ty t = some (i, .slice el)) (hr : r x = .slice a n c)
    (hl : bound ρ lo 0 = some l) (hh : (ρ y).bind natOf = some u) (hm : (ρ z).bind natOf = some m) (hs : E.size el = some s) (h1 : l ≤ u) (h2 : u ≤ m) (h3 : m ≤ c) :
    (Instr.sliceAt t (r x) (lo.map r) (some (r y)) (some (r z))).run P w = .ok (.slice (if m = l then a else a.map (·.add (l * s))) (u - l) (m - l)) w := by
  unfold Instr.sliceAt
  rw [Sem.run_bind, EO.run_ty ht]
  simp only [Result.andThen_ok, Instr.slice, Sem.run_bind, EO.run_ty ht, hr, bounds_sound3 RR hl hh hm h1 h2 h3, EO.run_size hs, Sem.run_pure]

include EO RR R
theorem slice_sound {t : Nat} {x : Operand} {lo hi mx : Option Operand} {v : Value} (e : exRead E h ρ (.slice t x lo hi mx) = some v) :
    (Instr.sliceAt t (r x) (lo.map r) (hi.map r) (mx.map r)).run P w = .ok (phys σ v) w ∧ Wf σ v := by
  simp only [exRead] at e
  split at e
  · -- a string
    rename_i i st ht hx
    obtain ⟨hr, hw⟩ := RR x _ hx
    cases mx with
    | some m => cases e
    | none =>
      simp only [Option.isSome_none, cond_false] at e
      split at e
      · rename_i l u hl hh
        cases hc : (Nat.ble l u && Nat.ble u st.data.toList.length) with
        | false => rw [hc] at e; cases e
        | true =>
          rw [hc] at e
          simp only [cond_true, Option.some.injEq] at e
          subst e
          simp only [Bool.and_eq_true, nble, decide_eq_true_eq] at hc
          refine ⟨?_, .string _⟩
          have hb := bounds_sound (P := P) (w := w) (isS := false) RR hl hh hc.1 hc.2
          unfold Instr.sliceAt
          rw [Sem.run_bind, EO.run_ty ht]
          simp only [Result.andThen_ok, Instr.slice, Sem.run_bind, EO.run_ty ht, hr, phys_string, Option.map_none, Option.isSome_none, Bool.false_eq_true, if_false, Sem.run_pure]
          have hsz : st.size = st.data.toList.length := rfl
          rw [hsz, hb]
          simp only [Result.andThen_ok]
          congr 2
          apply ByteArray.ext
          simp only [ByteArray.data_extract]
          apply Array.ext'
          simp
      · cases e
  · -- a slice
    rename_i i el a n c ht hx
    obtain ⟨hr, hw⟩ := RR x _ hx
    split at e
    · rename_i l u s hl hh hs
      split at e
      · -- up to its capacity
        cases hc : Nat.beq c unk with
        | true =>
          rw [hc] at e
          simp only [cond_true] at e
          have hcu : c = unk := by rw [nbeq] at hc; simpa using hc
          subst hcu
          split at e
          · rename_i b o
            cases hw with
            | slice _ _ _ _ p hp =>
            cases hrow : h.row b with
            | none => rw [hrow] at e; cases e
            | some rw' =>
              rw [hrow] at e
              simp only at e
              cases hcc : (Nat.ble l u && Nat.ble (o + u * s) (rw'.cnt * rw'.esz) && Nat.beq rw'.esz s) with
              | false => rw [hcc] at e; cases e
              | true =>
                rw [hcc] at e
                simp only [cond_true, Option.some.injEq] at e
                subst e
                simp only [Bool.and_eq_true, nble, nbeq, decide_eq_true_eq] at hcc
                obtain ⟨⟨c1, c2⟩, c3⟩ := hcc
                obtain ⟨⟨g1, g2, g3, g4, g5, gk, gc⟩, _⟩ := R.rowAt hp hrow
                obtain ⟨hz, _⟩ := R.row b p hp g1
                have hu := cap_fits g2 g5 hz c2 c3
                have hes : p.esz = s := g2.symm.trans c3
                have hrx : r x = .slice (some ⟨p.blk, p.dlt + o, none⟩) n (p.cap - o / p.esz) := by
                  rw [hr]; simp [physSlice, Sig.addr, Sig.blk, Sig.dlt, Sig.capAt, hp]
                have hrun := slice_run (P := P) (w := w) EO RR ht hrx hl hh hs c1 hu
                have hdiv : (o + l * s) / p.esz = o / p.esz + l := by rw [hes]; exact Nat.add_mul_div_right _ _ (hes ▸ hz)
                have hcap : σ.capAt b (o + l * s) = p.cap - o / p.esz - l := by
                  simp only [Sig.capAt, hp, hdiv]; omega
                cases hb : (Nat.beq l 0 || Nat.blt (o + l * s) (rw'.cnt * rw'.esz)) with
                | true =>
                  simp only [hb, cond_true]
                  refine ⟨?_, .slice _ _ _ _ p hp⟩
                  simp only [Option.map_none]
                  rw [hrun]
                  simp only [phys_slice, physSlice, if_true, hcap]
                  refine ok_slice ?_
                  simp only [Bool.or_eq_true, nbeq, nblt, decide_eq_true_eq] at hb
                  by_cases hcl : p.cap - o / p.esz = l
                  · have hl0 : l = 0 := by
                      rcases hb with h0 | h0
                      · exact h0
                      · exfalso
                        rw [c3] at h0
                        have h5 : (o + l * s) / s < rw'.cnt := Nat.div_lt_of_lt_mul (by rw [Nat.mul_comm s rw'.cnt]; exact h0)
                        have h6 : (o + l * s) / p.esz < rw'.cnt := by rw [hes]; exact h5
                        rw [hdiv] at h6
                        omega
                    subst hl0
                    simp [hcl, Sig.addr, Sig.blk, Sig.dlt, hp]
                  · simp [hcl, Sig.addr, Sig.blk, Sig.dlt, hp, Addr.add_mid, Nat.add_assoc]
                | false =>
                  simp only [hb, cond_false]
                  simp only [Bool.or_eq_false_iff, nbeq, nblt, decide_eq_false_iff_not, Nat.not_lt] at hb
                  have hul : u = l := by
                    rw [c3] at hb
                    have h6 : o + u * s ≤ o + l * s := by rw [c3] at c2; omega
                    have h7 : u * s ≤ l * s := by omega
                    have := Nat.le_of_mul_le_mul_right h7 (hes ▸ hz)
                    omega
                  subst hul
                  rw [Nat.sub_self]
                  refine ⟨?_, .endS _ _ _ p hp⟩
                  simp only [Option.map_none]
                  rw [hrun]
                  simp only [phys_slice, physSlice, if_true, hcap, Nat.sub_self]
                  refine ok_slice ?_
                  by_cases hcl : p.cap - o / p.esz = u
                  · simp [hcl, Sig.addr, Sig.blk, Sig.dlt, hp]
                  · have : ¬ (p.cap - o / p.esz - u = 0) := by omega
                    simp [hcl, this, Sig.addr, Sig.blk, Sig.dlt, hp, Addr.add_mid, Nat.add_assoc]
          · rename_i b o o'
            cases hw with
            | endS _ _ _ p hp =>
            cases hcc : (Nat.beq l 0 && Nat.beq u 0) with
            | false => rw [hcc] at e; cases e
            | true =>
              rw [hcc] at e
              simp only [cond_true, Option.some.injEq] at e
              subst e
              simp only [Bool.and_eq_true, nbeq, decide_eq_true_eq] at hcc
              obtain ⟨rfl, rfl⟩ := hcc
              refine ⟨?_, .endS _ _ _ p hp⟩
              have hrx : r x = .slice (some (σ.addr ⟨b, if σ.capAt b o = 0 then o' else o, none⟩)) 0 (σ.capAt b o) := by rw [hr]; simp [physSlice]
              have hrun := slice_run (P := P) (w := w) EO RR ht hrx hl hh hs (Nat.le_refl _) (Nat.zero_le _)
              simp only [Option.map_none]
              rw [hrun]
              simp only [phys_slice, physSlice, if_true, Nat.sub_zero, Nat.zero_mul]
              refine ok_slice ?_
              simp [Sig.addr, Addr.add_mid]
          · cases e
        | false =>
          rw [hc] at e
          simp only [cond_false] at e
          have hcu : ¬ c = unk := by rw [nbeq] at hc; simpa using hc
          cases hcc : (Nat.ble l u && Nat.ble u c && Nat.blt c unk) with
          | false => rw [hcc] at e; cases e
          | true =>
            rw [hcc] at e
            simp only [cond_true] at e
            simp only [Bool.and_eq_true, nble, nblt, decide_eq_true_eq] at hcc
            obtain ⟨⟨c1, c2⟩, c3⟩ := hcc
            have hne : ¬ c - l = unk := by omega
            split at e
            · rename_i b o
              simp only [Option.some.injEq] at e
              subst e
              cases hw with
              | slice _ _ _ _ p hp =>
                have hrx : r x = .slice (some ⟨p.blk, p.dlt + o, none⟩) n c := by
                  rw [hr]; simp [physSlice, Sig.addr, Sig.blk, Sig.dlt, hp, hcu]
                have hrun := slice_run (P := P) (w := w) EO RR ht hrx hl hh hs c1 c2
                refine ⟨?_, ?_⟩
                · simp only [Option.map_none]
                  rw [hrun]
                  simp only [phys_slice, physSlice, hne, if_false]
                  refine ok_slice ?_
                  rw [nbeq]
                  by_cases hcl : c = l
                  · simp [hcl, Sig.addr, Sig.blk, Sig.dlt, hp]
                  · simp [hcl, Sig.addr, Sig.blk, Sig.dlt, hp, Addr.add_mid, Nat.add_assoc]
                · rw [nbeq]
                  by_cases hcl : c = l
                  · simp only [hcl, decide_true, cond_true]; exact .slice _ _ _ _ p hp
                  · simp only [hcl, decide_false, cond_false]; exact .slice _ _ _ _ p hp
            · simp only [Option.some.injEq] at e
              subst e
              have hrx : r x = .slice none n c := by rw [hr]; simp [physSlice]
              have hrun := slice_run (P := P) (w := w) EO RR ht hrx hl hh hs c1 c2
              refine ⟨?_, .nilSlice _ _⟩
              simp only [Option.map_none]
              rw [hrun]
              simp [physSlice]
            · cases e
      · -- with a bound on its capacity
        rename_i m
        split at e
        · rename_i y m' hm
          cases hcc : (Nat.ble l u && Nat.ble u m' && Nat.blt m' unk && capFits h a c s m') with
          | false => rw [hcc] at e; cases e
          | true =>
            rw [hcc] at e
            simp only [cond_true] at e
            simp only [Bool.and_eq_true, nble, nblt, decide_eq_true_eq] at hcc
            obtain ⟨⟨⟨c1, c2⟩, c3⟩, c4⟩ := hcc
            have hne : ¬ m' - l = unk := by omega
            have hu : (ρ y).bind natOf = some u := hh
            split at e
            · rename_i b o
              simp only [Option.some.injEq] at e
              subst e
              cases hw with
              | slice _ _ _ _ p hp =>
                obtain ⟨c', hrx, hmc⟩ : ∃ c', r x = .slice (some ⟨p.blk, p.dlt + o, none⟩) n c' ∧ m' ≤ c' := by
                  unfold capFits at c4
                  cases hc : Nat.beq c unk with
                  | false =>
                    rw [hc] at c4
                    simp only [cond_false, nble, decide_eq_true_eq] at c4
                    have hcu : ¬ c = unk := by rw [nbeq] at hc; simpa using hc
                    exact ⟨c, by rw [hr]; simp [physSlice, Sig.addr, Sig.blk, Sig.dlt, hp, hcu], c4⟩
                  | true =>
                    rw [hc] at c4
                    have hcu : c = unk := by rw [nbeq] at hc; simpa using hc
                    simp only [cond_true] at c4
                    cases hrow : h.row b with
                    | none => rw [hrow] at c4; cases c4
                    | some rw' =>
                      rw [hrow] at c4
                      simp only [Bool.and_eq_true, nble, nbeq, decide_eq_true_eq] at c4
                      obtain ⟨⟨g1, g2, g3, g4, g5, gk, gc⟩, _⟩ := R.rowAt hp hrow
                      obtain ⟨hz, _⟩ := R.row b p hp g1
                      exact ⟨_, by rw [hr]; simp [physSlice, Sig.addr, Sig.blk, Sig.dlt, Sig.capAt, hp, hcu], cap_fits g2 g5 hz c4.1 c4.2⟩
                have hrun := slice_run3 (P := P) (w := w) EO RR ht hrx hl hu hm hs c1 c2 hmc
                refine ⟨?_, ?_⟩
                · simp only [Option.map_some]
                  rw [hrun]
                  simp only [phys_slice, physSlice, hne, if_false]
                  refine ok_slice ?_
                  rw [nbeq]
                  by_cases hcl : m' = l
                  · simp [hcl, Sig.addr, Sig.blk, Sig.dlt, hp]
                  · simp [hcl, Sig.addr, Sig.blk, Sig.dlt, hp, Addr.add_mid, Nat.add_assoc]
                · rw [nbeq]
                  by_cases hcl : m' = l
                  · simp only [hcl, decide_true, cond_true]; exact .slice _ _ _ _ p hp
                  · simp only [hcl, decide_false, cond_false]; exact .slice _ _ _ _ p hp
            · simp only [Option.some.injEq] at e
              subst e
              have hmc : m' ≤ c := by
                unfold capFits at c4
                cases hc : Nat.beq c unk with
                | false => rw [hc] at c4; simpa [nble] using c4
                | true => rw [hc] at c4; simp at c4
              have hrx : r x = .slice none n c := by rw [hr]; simp [physSlice]
              have hrun := slice_run3 (P := P) (w := w) EO RR ht hrx hl hu hm hs c1 c2 hmc
              refine ⟨?_, .nilSlice _ _⟩
              simp only [Option.map_some]
              rw [hrun]
              simp [physSlice]
            · cases e
        · cases e
    · cases e
  · -- an array
    rename_i i n el b o ht hx
    obtain ⟨hr, hw⟩ := RR x _ hx
    split at e
    · rename_i l u s hl hh hs
      cases hc : (mx.isNone && Nat.ble l u && Nat.ble u n && Nat.blt n unk) with
      | false => rw [hc] at e; cases e
      | true =>
        rw [hc] at e
        simp only [cond_true, Option.some.injEq] at e
        subst e
        simp only [Bool.and_eq_true, nble, nblt, decide_eq_true_eq, Option.isNone_iff_eq_none] at hc
        obtain ⟨⟨⟨rfl, h1⟩, h2⟩, h3⟩ := hc
        cases hw with
        | ptr _ _ p hp =>
          have hb := bounds_sound (P := P) (w := w) (isS := false) RR hl hh h1 h2
          have hne : ¬ n - l = unk := by omega
          refine ⟨?_, ?_⟩
          · unfold Instr.sliceAt
            rw [Sem.run_bind, EO.run_ty ht]
            simp only [Result.andThen_ok, hr, phys_ptr, Option.map_some, Instr.sureAddr, Sem.run_bind, Sem.run_pure, Option.map_none, hb, EO.run_size hs, phys_slice, physSlice, hne, if_false]
            congr 3
            rw [nbeq]
            by_cases hnl : n = l
            · simp [hnl]
            · simp [hnl, Sig.addr, Addr.add_mid, Nat.add_assoc]
          · rw [nbeq]
            by_cases hnl : n = l
            · simp only [hnl, decide_true, cond_true]; exact .slice _ _ _ _ p hp
            · simp only [hnl, decide_false, cond_false]; exact .slice _ _ _ _ p hp
    · cases e
  · cases e
end
end Go.Lm

/- The operations that read the heap, each. -/
namespace Go.Lm
section
variable {E : Env} {P : Program} (EO : EnvOK E P) {w : World} {σ : Sig} {ρ : Rho} {r : Operand → Value} (RR : RhoRel σ ρ r) {N0 : Nat} {w0 : World} {h : H} (R : HRel N0 w0 σ h w)
include EO RR R

omit RR in
theorem mapObj {b : Nat} {es : List MapEntry} {clock : Nat} {p : Place} (hp : σ b = some p) (ho : h.objs.get b = some (.map es clock)) :
    (getObj (σ.blk b)).run P w = .ok (.map ⟨es.map (physE σ)⟩ clock) w ∧ (∀ e ∈ es, LEnt σ e) ∧ p.row = false := by
  obtain ⟨h1, h2, h3⟩ := R.obj b p _ hp ho
  have : σ.blk b = p.blk := by simp [Sig.blk, hp]
  exact ⟨by rw [this]; exact Go.run_getObj_map w _ _ _ h2, h3, h1⟩

theorem read_sound (o : Oper) {v : Value} (hk : kindOf E o.op = .read) (e : exRead E h ρ o.op = some v) : Does P r o w (phys σ v) ∧ Wf σ v := by
  obtain ⟨dst, op, ty, pos, after, guard⟩ := o
  simp only at hk e
  unfold Does
  cases op with
  | load t x =>
    simp only [exRead] at e
    split at e
    · rename_i b o hx
      obtain ⟨hr, hw⟩ := RR x _ hx
      cases hw with
      | ptr _ _ p hp =>
        obtain ⟨g1, g2, _⟩ := load_sound EO R hp e
        refine ⟨?_, g2⟩
        simp [execOp, Instr.loadAt, Instr.sureAddr, hr, Sig.addr, Sig.blk, Sig.dlt, hp, g1]
    · cases e
  | slice t x lo hi mx =>
    obtain ⟨g1, g2⟩ := slice_sound EO RR R e
    exact ⟨by simp [execOp, g1], g2⟩
  | lookup t m k ok =>
    simp only [exRead] at e
    split at e
    · rename_i i kt el mr kv ht hm hkv
      obtain ⟨hmr, hmw⟩ := RR m _ hm
      obtain ⟨hkr, hkw⟩ := RR k _ hkv
      split at e
      · rename_i es hes
        have hob : (∀ e ∈ es, LEnt σ e) ∧ ((mr = none ∧ es = []) ∨ ∃ b clock, mr = some b ∧ (getObj (σ.blk b)).run P w = .ok (.map ⟨es.map (physE σ)⟩ clock) w) := by
          cases mr with
          | none => simp at hes; subst hes; simp
          | some b =>
            simp only at hes
            split at hes
            · rename_i es' clock ho
              cases hes
              cases hmw with
              | map _ p hp =>
                obtain ⟨g1, g2, _⟩ := mapObj (P := P) EO R hp ho
                exact ⟨g2, .inr ⟨b, clock, rfl, g1⟩⟩
            · cases hes
        obtain ⟨hent, hob⟩ := hob
        cases hko : keyOk E 30 kt kv with
        | false => rw [hko] at e; cases e
        | true =>
          rw [hko] at e
          simp only [cond_true] at e
          have hck := fun em => keyOk_sound EO (w := w) em 30 kt kv hko hkw 10000 (by decide)
          cases hf : findE E kt kv es with
          | none => rw [hf] at e; cases e
          | some fr =>
            obtain ⟨f1, f2⟩ := findE_sound EO (w := w) hkw hent hf
            rw [hf] at e
            have hrun : ∀ (x : Value) (okv : Bool), ((∃ y : Nat × MapEntry, fr = some y ∧ x = y.2.val ∧ okv = true) ∨ (fr = none ∧ (zeroValue el).run P w = .ok (phys σ x) w ∧ okv = false)) →
                (execOp r { dst, op := .lookup t m k ok, type := ty, pos, after, guard }).run P w = .ok (.value (phys σ (if ok then .tuple #[x, .bool okv] else x))) w := fun x okv hx => by
              rcases hob with ⟨rfl, rfl⟩ | ⟨b, clock, rfl, hg⟩
              · rcases hx with ⟨y, rfl, rfl, rfl⟩ | ⟨rfl, hz, rfl⟩
                · have := f2 y.1 y.2 rfl
                  simp at this
                · simp only [List.map_nil, Option.map_none] at f1
                  simp only [execOp, Instr.lookup, Sem.run_bind, EO.run_ty ht, Result.andThen_ok, hmr, hkr, phys_map, Option.map_none, Sem.run_pure, hck, f1, hz]
                  cases ok <;> simp
              · rcases hx with ⟨y, rfl, rfl, rfl⟩ | ⟨rfl, hz, rfl⟩
                · simp only [execOp, Instr.lookup, Sem.run_bind, EO.run_ty ht, Result.andThen_ok, hmr, hkr, phys_map, Option.map_some, Sem.run_pure, hck, f1, hg]
                  cases ok <;> simp
                · simp only [Option.map_none] at f1
                  simp only [execOp, Instr.lookup, Sem.run_bind, EO.run_ty ht, Result.andThen_ok, hmr, hkr, phys_map, Option.map_some, Sem.run_pure, hck, f1, hg, hz]
                  cases ok <;> simp
            cases fr with
            | some x =>
              obtain ⟨j, x⟩ := x
              simp only [Option.some.injEq] at e
              have hx := hent x (List.mem_of_getElem? (f2 j x rfl))
              have := hrun x.val true (.inl ⟨(j, x), rfl, rfl, rfl⟩)
              refine ⟨?_, ?_⟩
              · rw [this, ← e]; cases ok <;> rfl
              · rw [← e]
                cases ok
                · exact hx.val
                · exact .tuple _ (by simp; exact ⟨hx.val, .bool _⟩)
            | none =>
              simp only at e
              cases hel : E.ty el with
              | none => rw [hel] at e; cases e
              | some q =>
                obtain ⟨i', d'⟩ := q
                rw [hel] at e
                simp only at e
                cases hz : i'.zero with
                | none => rw [hz] at e; cases e
                | some z =>
                  rw [hz] at e
                  simp only [Option.map_some, Option.some.injEq] at e
                  obtain ⟨hzc, hzf⟩ := EO.zero _ _ _ _ hel hz
                  obtain ⟨hzp, hzw⟩ := phys_const (σ := σ) hzc
                  have := hrun z false (.inr ⟨rfl, by rw [EO.run_zero hel hz, hzp], rfl⟩)
                  refine ⟨?_, ?_⟩
                  · rw [this, ← e]; cases ok <;> rfl
                  · rw [← e]
                    cases ok
                    · exact hzw
                    · exact .tuple _ (by simp; exact ⟨hzw, .bool _⟩)
      · cases e
    · cases e
  | convert src dst x =>
    simp only [exRead] at e
    split at e
    · rename_i i el i' ad n0 c0 hs hd hx
      obtain ⟨hr, hw⟩ := RR x _ hx
      split at e
      · rename_i i'' he
        cases hsr : srcCells h 1 (.slice ad n0 c0) with
        | none => rw [hsr] at e; cases e
        | some nl =>
          obtain ⟨n, l⟩ := nl
          rw [hsr] at e
          simp only at e
          cases hb : bytesOf l with
          | none => rw [hb] at e; cases e
          | some bs =>
            rw [hb] at e
            simp only [Option.map_some, Option.some.injEq] at e
            subst e
            refine ⟨?_, .string _⟩
            obtain ⟨ns, h1, h2⟩ := bytesOf_spec hb
            obtain ⟨s1, s2, s3, s4⟩ := src_sound EO R hw hsr
            obtain ⟨a', c', hph⟩ : ∃ a' c', phys σ (.slice ad n0 c0) = .slice a' n0 c' := by
              rcases ad with _ | ⟨b, off, _ | o⟩ <;> simp [physSlice]
            have hn : n0 = n := by rw [hph] at s1; simpa [Builtin.lenOf] using s1
            subst hn
            simp only [execOp, Sem.run_bind, hr, hph]
            rw [run_convert_bytes_string w src dst el a' n0 c' (EO.ty _ _ _ hs).2 (EO.ty _ _ _ he).2 (EO.ty _ _ _ hd).2]
            rw [hph] at s2
            cases a' with
            | none =>
              simp only [Builtin.firstCells, Sem.run_pure, Result.ok.injEq, and_true] at s2
              have : l = [] := by
                have := congrArg Array.toList s2
                simpa using this.symm
              subst this
              have : ns = [] := by simpa using h1.symm
              subst this
              subst h2
              simp [Conv.bytesToString]
              rfl
            | some a' =>
              simp only [Builtin.firstCells, Nat.mul_one] at s2
              rw [run_bytesToString w a' n0 c' ns (by rw [s2, h1]; simp [Function.comp_def])]
              simp only [Result.andThen_ok, Sem.run_pure, foldl_push_bytes, phys_string, h2]
              simp
      · cases e
    · cases e
  | call c =>
    obtain ⟨callee, args, argTypes⟩ := c
    cases callee with
    | value f => simp [kindOf] at hk
    | invoke f n => simp [kindOf] at hk
    | builtin b =>
      cases b
      case len =>
        simp only [exRead] at e
        have hstart : ∀ t (x : Value) y, argTypes[0]?.bind E.ty = some t → args[0]?.bind ρ = some y → ∃ ti xo, argTypes[0]? = some ti ∧ E.ty ti = some t ∧ args[0]? = some xo ∧ r xo = phys σ y ∧ Wf σ y := fun t x y h1 h2 => by
          obtain ⟨ti, a1, a2⟩ := Option.bind_eq_some_iff.1 h1
          obtain ⟨xo, b1, b2⟩ := Option.bind_eq_some_iff.1 h2
          obtain ⟨c1, c2⟩ := RR xo _ b2
          exact ⟨ti, xo, a1, a2, b1, c1, c2⟩
        split at e
        · rename_i i st h1 h2
          obtain ⟨ti, xo, a1, a2, b1, b2, b3⟩ := hstart _ undef _ h1 h2
          simp only [Option.some.injEq] at e
          subst e
          refine ⟨?_, .int _ _⟩
          have hm : (args.map r)[0]? = some (.string st) := by simp [b1, b2]
          simp only [execOp, resolve, invoke, builtin, Builtin.len_, Sem.run_bind, Sem.run_pure, Result.andThen_ok, a1, hm, EO.run_ty a2]
          rw [phys_int]; rfl
        · rename_i i n el y h1 h2
          obtain ⟨ti, xo, a1, a2, b1, b2, b3⟩ := hstart _ undef _ h1 h2
          simp only [Option.some.injEq] at e
          subst e
          refine ⟨?_, .int _ _⟩
          have hm : (args.map r)[0]? = some (phys σ y) := by simp [b1, b2]
          simp only [execOp, resolve, invoke, builtin, Builtin.len_, Sem.run_bind, Sem.run_pure, Result.andThen_ok, a1, hm, EO.run_ty a2]
          simp [goInt]
        · rename_i i el ad n c h1 h2
          obtain ⟨ti, xo, a1, a2, b1, b2, b3⟩ := hstart _ undef _ h1 h2
          simp only [Option.some.injEq] at e
          subst e
          refine ⟨?_, .int _ _⟩
          obtain ⟨ad', c', hp⟩ : ∃ ad' c', phys σ (.slice ad n c) = .slice ad' n c' := by
            rcases ad with _ | ⟨b, off, _ | o⟩ <;> simp [physSlice]
          have hm : (args.map r)[0]? = some (.slice ad' n c') := by simp only [Array.getElem?_map, b1, Option.map_some, b2, hp]
          simp only [execOp, resolve, invoke, builtin, Builtin.len_, Sem.run_bind, Sem.run_pure, Result.andThen_ok, a1, hm, EO.run_ty a2]
          simp [goInt]
        · rename_i i kt el h1 h2
          obtain ⟨ti, xo, a1, a2, b1, b2, b3⟩ := hstart _ undef _ h1 h2
          simp only [Option.some.injEq] at e
          subst e
          refine ⟨?_, .int _ _⟩
          have hm : (args.map r)[0]? = some (.map none) := by simp [b1, b2]
          simp only [execOp, resolve, invoke, builtin, Builtin.len_, Sem.run_bind, Sem.run_pure, Result.andThen_ok, a1, hm, EO.run_ty a2]
          simp [goInt]
        · rename_i i kt el mb h1 h2
          obtain ⟨ti, xo, a1, a2, b1, b2, b3⟩ := hstart _ undef _ h1 h2
          split at e
          · rename_i es clock ho
            simp only [Option.some.injEq] at e
            subst e
            refine ⟨?_, .int _ _⟩
            cases b3 with
            | map _ p hp =>
              obtain ⟨g1, g2, _⟩ := mapObj (P := P) EO R hp ho
              have hm : (args.map r)[0]? = some (.map (some (σ.blk mb))) := by simp [b1, b2]
              simp only [execOp, resolve, invoke, builtin, Builtin.len_, Sem.run_bind, Sem.run_pure, Result.andThen_ok, a1, hm, EO.run_ty a2, g1]
              simp [goInt]
          · cases e
        · rename_i i el y h1 h2
          obtain ⟨ti, xo, a1, a2, b1, b2, b3⟩ := hstart _ undef _ h1 h2
          split at e
          · rename_i i' n el' he
            simp only [Option.some.injEq] at e
            subst e
            refine ⟨?_, .int _ _⟩
            have hm : (args.map r)[0]? = some (phys σ y) := by simp [b1, b2]
            simp only [execOp, resolve, invoke, builtin, Builtin.len_, Sem.run_bind, Sem.run_pure, Result.andThen_ok, a1, hm, EO.run_ty a2, EO.run_ty he]
            simp [goInt]
          · cases e
        · cases e
      all_goals simp [kindOf] at hk
  | _ => simp [kindOf] at hk
end
end Go.Lm

