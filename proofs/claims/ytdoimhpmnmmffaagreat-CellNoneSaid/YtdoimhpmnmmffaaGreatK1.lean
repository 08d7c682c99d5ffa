/- Part 1 of the proof: the pieces below, each with its own first line. No condition but those in each statement. -/
import Derived.TacticsIn
import Derived.OrdersIn
import Derived.Laws.Sem
import Derived.Laws.World
import Derived.Laws.Cells
import Derived.RangeFuncIn
import Derived.IntWalk
import Derived.OrdersHeld
import Derived.Laws.AppendOwn
import Derived.Laws.Append
import Derived.Test.YtdoimhpmnmmffaaGreatProg
set_option linter.unusedVariables false
set_option linter.unusedSimpArgs false
/- The values that the operations of the loaded program come to which change no memory: each as a Lean function, and a proof that the machine's operation gives just that value. No condition. -/
namespace Go.Proofs.YtdoimhpmnmmffaaGreat
open Go

abbrev Heap := Array Obj
abbrev Env := Nat → Option Value

/-- what is known of a type -/
structure TI where
  desc : TypeDesc
  size : Nat
  bytes : Nat
  zero : Value

/-- tables: types; functions with a body; methods (dynamic pointer type, name ↦ function); struct types of whole numbers that may be compared -/
structure Tab where
  ty : Nat → Option TI
  me : Nat → String → Option Nat
  eq : Nat → Bool
  fn : Nat → Bool

structure TabOk (P : Program) (T : Tab) : Prop where
  fn : ∀ f, T.fn f = true → ∀ args (w : World), (callFunc f args).run P w = .ok (.enter f args) w
  ty : ∀ t i, T.ty t = some i → P.underlying t = some i.desc ∧ ∃ inf, P.info? t = some inf ∧ inf.zero = some i.zero ∧ inf.size = i.size ∧ inf.bytes = i.bytes
  me : ∀ t nm f, T.me t nm = some f → ∀ (a : Addr) (w : World),
    (method (P.types.size + Made.depth) t (.pointer (some a)) nm).run P w = .ok (f, .pointer (some a)) w ∧
    (nilAhead (P.types.size + Made.depth) t (.pointer (some a)) nm).run P w = .ok (some false) w ∧ T.fn f = true
  eq : ∀ t, T.eq t = true → P.eqGuardType P.depth t = false ∧ P.stoodInHeld t = false ∧ ∃ f g : Field, P.underlying t = some (.struct #[f, g]) ∧ f.name ≠ "_" ∧ g.name ≠ "_" ∧ f.offset = 0 ∧ g.offset = 1 ∧ (∃ k, P.underlying f.type = some (.int k)) ∧ ∃ k, P.underlying g.type = some (.int k)

def upd (e : Env) (d : Nat) (v : Option Value) : Env := fun t => bif Nat.beq t d then v else e t
def ev (e : Env) : Operand → Option Value
  | .tmp t => e t
  | .const v => some v
  | .global g => some (.pointer (some ⟨g, 0, none⟩))
  | .func f => some (.func (.func f) #[] #[])
def evs (e : Env) : List Operand → Option (List Value)
  | [] => some []
  | x :: xs => match ev e x, evs e xs with
    | some v, some vs => some (v :: vs)
    | _, _ => none
def evo (e : Env) : Option Operand → Option (Option Value)
  | none => some none
  | some x => match ev e x with
    | some v => some (some v)
    | none => none
def evp (e : Env) : List (Nat × Operand) → Option (List (Nat × Value))
  | [] => some []
  | (i, x) :: xs => match ev e x, evp e xs with
    | some v, some vs => some ((i, v) :: vs)
    | _, _ => none

/-! ### memory -/
def rdc (H : Heap) (b o : Nat) : Option Value := match H[b]? with
  | some (.cells c _ _) => c[o]?
  | _ => none
def rdn (H : Heap) (b o : Nat) : Nat → Option (List Value)
  | 0 => some []
  | n + 1 => match rdc H b o, rdn H b (o + 1) n with
    | some v, some vs => some (v :: vs)
    | _, _ => none
def rdv (p : Value) (H : Heap) : Option Value := match p with
  | .pointer (some ⟨b, o, none⟩) => rdc H b o
  | _ => none
def rda (n : Nat) (p : Value) (H : Heap) : Option Value := match p with
  | .pointer (some ⟨b, o, none⟩) => (rdn H b o n).map fun l => .agg l.toArray
  | _ => none

theorem cell_of_rdc {w : World} {b o : Nat} {v : Value} (h : rdc w.heap b o = some v) : w.cell? ⟨b, o, none⟩ = some v := by
  unfold rdc at h; unfold World.cell?
  split at h
  · rename_i c _ _ he; simp [he, h]
  · cases h

theorem addr_add (b o n : Nat) : (⟨b, o, none⟩ : Addr).add n = ⟨b, o + n, none⟩ := by
  unfold Addr.add; split
  · rename_i h; subst h; rfl
  · rfl

theorem run_loadFrom (P : Program) (w : World) (b o : Nat) : ∀ (n i : Nat) (acc : Array Value) (l : List Value), rdn w.heap b (o + i) n = some l →
    (loadCellsFrom ⟨b, o, none⟩ i n acc).run P w = .ok (acc ++ l.toArray) w
  | 0, i, acc, l, h => by
    simp only [rdn, Option.some.injEq] at h; subst h; simp [loadCellsFrom]
  | n + 1, i, acc, l, h => by
    simp only [rdn] at h
    split at h
    · rename_i v vs hv hvs
      simp only [Option.some.injEq] at h; subst h
      have hc := cell_of_rdc hv
      simp only [loadCellsFrom, Sem.run_bind, run_load, addr_add, hc, Result.andThen_ok]
      rw [run_loadFrom P w b o n (i + 1) (acc.push v) vs (by rw [← Nat.add_assoc]; exact hvs)]
      simp
    · cases h

/-! ### values of operations -/
def pickV (c a b : Value) : Option Value := match c with
  | .bool t => some (bif t then a else b)
  | _ => none
def ncV (T : Tab) (x : Value) : Option Value := match x with
  | .pointer (some a) => some (.pointer (some a))
  | .iface t v => some (.iface t v)
  | .func (.func f) a b => some (.func (.func f) a b)
  | .func (.yield l) a b => some (.func (.yield l) a b)
  | .func (.method nm) first cap => match (first[0]? : Option Value) with
    | some (.iface t (.pointer (some _))) => if (T.me t nm).isSome then some (.func (.method nm) first cap) else none
    | _ => none
  | _ => none

def bitV (op : BinOp) (k : IntKind) (x y : Int) : Option Value :=
  let a := BitVec.ofInt k.bits x
  let b := BitVec.ofInt k.bits y
  match op with
  | .and => some (.int k (k.wrap (a &&& b).toNat))
  | .or => some (.int k (k.wrap (a ||| b).toNat))
  | .xor => some (.int k (k.wrap (a ^^^ b).toNat))
  | .andNot => some (.int k (k.wrap (a &&& ~~~b).toNat))
  | _ => none
/-- on whole numbers -/
def intV (op : BinOp) (k : IntKind) (a : Int) (j : IntKind) (b : Int) : Option Value :=
  match op with
  | .add => if k = j then some (.int k (k.wrap (a + b))) else none
  | .sub => if k = j then some (.int k (k.wrap (a - b))) else none
  | .mul => if k = j then some (.int k (k.wrap (a * b))) else none
  | .eql => if k = j then some (.bool (a == b)) else none
  | .neq => if k = j then some (.bool (a != b)) else none
  | .lss => if k = j then some (.bool (decide (a < b))) else none
  | .leq => if k = j then some (.bool (decide (a ≤ b))) else none
  | .gtr => if k = j then some (.bool (decide (a > b))) else none
  | .geq => if k = j then some (.bool (decide (a ≥ b))) else none
  | .shl => if b < 0 then none else some (.int k (k.wrap (a * 2 ^ min b.toNat k.bits)))
  | .shr => if b < 0 then none else some (.int k (a.fdiv (2 ^ min b.toNat k.bits)))
  | .quo => none
  | .rem => none
  | op => if k = j then bitV op k a b else none
def strV (op : BinOp) (x y : ByteArray) : Option Value :=
  match op with
  | .eql => some (.bool (x.toList == y.toList))
  | .neq => some (.bool !(x.toList == y.toList))
  | .lss => some (.bool (Op.bytesLess x.toList y.toList))
  | .leq => some (.bool (Op.bytesLess x.toList y.toList || x.toList == y.toList))
  | .gtr => some (.bool !(Op.bytesLess x.toList y.toList || x.toList == y.toList))
  | .geq => some (.bool !(Op.bytesLess x.toList y.toList))
  | _ => none
def lnV (a : Value) : Option Value := match a with
  | .slice _ n _ => some (.int .i64 n)
  | _ => none
def lsV (a : Value) : Option Value := match a with
  | .string s => some (.int .i64 s.size)
  | _ => none
def mkC (size : Nat) (zero : Value) (n : Nat) : Array Value := (Array.range (n * size)).map (zero.cells[· % zero.cells.size]!)
def binI (op : BinOp) (a b : Value) : Option Value := match a, b with
  | .int k m, .int j n => intV op k m j n
  | _, _ => none
def binS (op : BinOp) (a b : Value) : Option Value := match a, b with
  | .string m, .string n => strV op m n
  | _, _ => none
/-- are two values that are compared with nil, or bools, the same? -/
def nilEq (d : TypeDesc) (x y : Value) : Option Bool := match d, x, y with
  | .bool, .bool a, .bool b => some (a == b)
  | .slice _, .slice none _ _, .slice b _ _ => some b.isNone
  | .slice _, .slice (some _) _ _, .slice none _ _ => some false
  | .map _ _, .map none, .map b => some b.isNone
  | .map _ _, .map (some _), .map none => some false
  | .func _ _ _, .nilFunc, .nilFunc => some true
  | .func _ _ _, .nilFunc, .func _ _ _ => some false
  | .func _ _ _, .func _ _ _, .nilFunc => some false
  | .interface _, .nilIface, .iface _ _ => some false
  | .interface _, .iface _ _, .nilIface => some false
  | _, _, _ => none
def ptrEq (size : Nat) (x y : Value) (H : Heap) : Option Bool := match x, y with
  | .pointer none, .pointer b => some b.isNone
  | .pointer (some _), .pointer none => some false
  | .pointer (some a), .pointer (some b) =>
    if size = 0 then none else
    if a.block = b.block then some (a == b) else
    match H[a.block]?, H[b.block]? with
    | some (.cells _ _ (0, 0)), some (.cells _ _ (0, 0)) => some false
    | _, _ => none
  | _, _ => none

/-- what an operation comes to: a value that is known; one that may not be there; one that hangs on memory -/
inductive Ex where
  | val (v : Value)
  | opt (o : Option Value)
  | rd (f : Heap → Option Value)
def Ex.at (x : Ex) (H : Heap) : Option Value := match x with
  | .val v => some v
  | .opt o => o
  | .rd f => f H

def isAgg (d : TypeDesc) : Bool := match d with
  | .struct _ => true
  | .array _ _ => true
  | _ => false

def unV (op : UnOp) (x : Value) : Option Value := match op, x with
  | .not, .bool b => some (.bool !b)
  | .neg, .int k n => some (.int k (k.wrap (0 - n)))
  | .xor, .int k n => bitV .xor k (if k.signed then -1 else k.max) n
  | _, _ => none
def cvV (k : IntKind) (x : Value) : Option Value := match x with
  | .int _ n => some (.int k (k.wrap n))
  | _ => none
def bytesOf : List Value → Option (List UInt8)
  | [] => some []
  | .int .u8 n :: r => (bytesOf r).map (UInt8.ofNat n.toNat :: ·)
  | _ :: _ => none
/-- a slice of bytes as a text -/
def bsS (x : Value) (H : Heap) : Option Value := match x with
  | .slice none _ _ => some (.string .empty)
  | .slice (some ⟨b, o, none⟩) len _ => match rdn H b o len with
    | some l => (bytesOf l).map fun bs => .string ⟨bs.toArray⟩
    | none => none
  | _ => none
def bdI (x : Option Value) (d : Nat) : Option Int := match x with
  | none => some d
  | some (.int _ n) => some n
  | _ => none
/-- x[lo:hi] of a slice of elements of a size, or of a text -/
def slV (size : Nat) (x : Value) (lo hi : Option Value) : Option Value := match x with
  | .slice a len cap => match bdI lo 0, bdI hi len with
    | some l, some h => if 0 ≤ l ∧ l ≤ h ∧ h ≤ cap then
        some (.slice (if (cap : Int) = l then a else a.map (·.add (l.toNat * size))) (h.toNat - l.toNat) (cap - l.toNat)) else none
    | _, _ => none
  | _ => none
def faV (off : Nat) (x : Value) : Option Value := match x with
  | .pointer (some ⟨b, o, none⟩) => some (.pointer (some ⟨b, o + off, none⟩))
  | _ => none
def fdV (agg : Bool) (off size : Nat) (x : Value) : Option Value := match x with
  | .agg cs => bif agg then some (.agg (cs.extract off (off + size))) else cs[off]?
  | _ => none
/-- &x[i] of a slice -/
def iaV (size : Nat) (x i : Value) : Option Value := match x, i with
  | .slice (some ⟨b, o, none⟩) len _, .int _ n => if 0 ≤ n ∧ n < len then some (.pointer (some ⟨b, o + n.toNat * size, none⟩)) else none
  | _, _ => none
/-- &x[i] of an array of a length -/
def aaV (len size : Nat) (x i : Value) : Option Value := match x, i with
  | .pointer (some ⟨b, o, none⟩), .int _ n => if 0 ≤ n ∧ n < len then some (.pointer (some ⟨b, o + n.toNat * size, none⟩)) else none
  | _, _ => none
/-- s[i] of a text -/
def ixV (x i : Value) : Option Value := match x, i with
  | .string s, .int _ n => if 0 ≤ n then (s[n.toNat]?).map fun b => .int .u8 b.toNat else none
  | _, _ => none
def exV (i : Nat) (x : Value) : Option Value := match x with
  | .tuple vs => vs[i]?
  | _ => none
/-- parts laid into cells -/
def putL (cells : List Value) (off : Nat) (vs : List Value) : List Value := cells.take off ++ vs ++ cells.drop (off + vs.length)
def filL (place : List (Nat × Nat)) : List Value → List (Nat × Value) → Option (List Value)
  | cells, [] => some cells
  | cells, (i, v) :: rest => match place[i]? with
    | none => none
    | some (off, size) =>
      if v.cells.size = size ∧ off + size ≤ cells.length then filL place (putL cells off v.cells.toList) rest else none
def bdV (zero : Value) (place : List (Nat × Nat)) (parts : List (Nat × Value)) : Option Value :=
  (filL place zero.cells.toList parts).map fun l => .agg l.toArray
def lenV (x : Value) : Option Value := match x with
  | .slice _ n _ => some (.int .i64 n)
  | .string s => some (.int .i64 s.size)
  | _ => none
/-- m[k], or v, ok := m[k] -/
def lkV (kd : TypeDesc) (zero : Value) (ok : Bool) (m k : Value) (H : Heap) : Option Value := match m with
  | .map none => some (bif ok then .tuple #[zero, .bool false] else zero)
  | .map (some r) => match H[r]? with
    | some (.map es _) => match Instr.findNow kd k es.toList 0 with
      | some (some (_, v)) => some (bif ok then .tuple #[v, .bool true] else v)
      | some none => some (bif ok then .tuple #[zero, .bool false] else zero)
      | none => none
    | _ => none
  | _ => none
def lenM (m : Value) (H : Heap) : Option Value := match m with
  | .map none => some (.int .i64 0)
  | .map (some r) => match H[r]? with
    | some (.map es _) => some (.int .i64 es.size)
    | _ => none
  | _ => none
/-- the entry that the iterator stands at -/
def enV (it : Value) (H : Heap) : Option Value := match it with
  | .pointer (some ⟨r, 0, _⟩) => match H[r]? with
    | some (.mapIter (some m) _ seen stepped) => match seen.back?, H[m]? with
      | some st, some (.map es clock) => if clock = stepped then (es.find? (·.born == st)).map fun e => .tuple #[e.key, e.val] else none
      | _, _ => none
    | _ => none
  | _ => none

def plainKey (d : TypeDesc) : Bool := match d with
  | .int _ => true
  | .string => true
  | _ => false
def minV (x y : Value) : Option Value := match x, y with
  | .int k a, .int _ b => some (.int k (if b < a then b else a))
  | _, _ => none
def maxV (x y : Value) : Option Value := match x, y with
  | .int k a, .int _ b => some (.int k (if b > a then b else a))
  | _, _ => none

end Go.Proofs.YtdoimhpmnmmffaaGreat

/- Each operation of the loaded program that changes no memory gives the value that Vc1's functions say. No condition. -/
namespace Go.Proofs.YtdoimhpmnmmffaaGreat
open Go

section
variable (P : Program) (T : Tab)

/-- two pairs of whole numbers that are compared -/
def pairV (a b : Value) : Option Bool := match a, b with
  | .agg x, .agg y => match x.toList, y.toList with
    | [.int j m, .int k n], [.int j' m', .int k' n'] => if j = j' ∧ k = k' then some (m == m' && n == n') else none
    | _, _ => none
  | _, _ => none

/-- which value an operation without effect comes to, by what is known of the temporaries -/
def exP (T : Tab) (o : Op) (e : Env) : Option Ex := match o with
  | .move x => (ev e x).map .val
  | .assign x => (ev e x).map .val
  | .pick c a b => match ev e c, ev e a, ev e b with
    | some c, some a, some b => some (.opt (pickV c a b))
    | _, _, _ => none
  | .load t a => match T.ty t, ev e a with
    | some i, some p => some (.rd (bif isAgg i.desc then rda i.size p else rdv p))
    | _, _ => none
  | .nilCheck x => match ev e x with
    | some v => some (.opt (ncV T v))
    | none => none
  | .binOp op t x y _ => match T.ty t, ev e x, ev e y with
    | some i, some a, some b => match i.desc with
      | .int _ => some (.opt (binI op a b))
      | .string => some (.opt (binS op a b))
      | .pointer z => match op, T.ty z with
        | .eql, some iz => some (.rd fun H => (ptrEq iz.size a b H).map .bool)
        | .neq, some iz => some (.rd fun H => (ptrEq iz.size a b H).map fun t => .bool !t)
        | _, _ => none
      | .struct _ => bif T.eq t then (match op with
        | .eql => some (.opt ((pairV a b).map .bool))
        | .neq => some (.opt ((pairV a b).map fun t => .bool !t))
        | _ => none) else none
      | d => match op with
        | .eql => some (.opt ((nilEq d a b).map .bool))
        | .neq => some (.opt ((nilEq d a b).map fun t => .bool !t))
        | _ => none
    | _, _, _ => none
  | .unOp op _ x => match ev e x with
    | some a => some (.opt (unV op a))
    | none => none
  | .convert s d x => match T.ty s, T.ty d, ev e x with
    | some i, some j, some a => match i.desc, j.desc with
      | .int _, .int k => some (.opt (cvV k a))
      | .slice z, .string => match T.ty z with
        | some iz => match iz.desc with
          | .int .u8 => some (.rd (bsS a))
          | _ => none
        | none => none
      | _, _ => none
    | _, _, _ => none
  | .makeInterface t x => match T.ty t, ev e x with
    | some i, some a => match i.desc with
      | .interface _ => none
      | _ => some (.val (.iface t a))
    | _, _ => none
  | .makeFunc fn a b => match evs e a.toList, evs e b.toList with
    | some x, some y => some (.val (.func fn x.toArray y.toArray))
    | _, _ => none
  | .slice t x lo hi none => match T.ty t, ev e x, evo e lo, evo e hi with
    | some i, some a, some l, some h => match i.desc with
      | .slice z => match T.ty z with
        | some iz => some (.opt (slV iz.size a l h))
        | none => none
      | _ => none
    | _, _, _, _ => none
  | .fieldAddr s x f => match T.ty s, ev e x with
    | some i, some a => match i.desc with
      | .struct fs => match fs.toList[f]? with
        | some fd => match T.ty fd.type with
          | some j => bif Nat.beq j.size 0 then none else some (.opt (faV fd.offset a))
          | none => none
        | none => none
      | _ => none
    | _, _ => none
  | .field s x f => match T.ty s, ev e x with
    | some i, some a => match i.desc with
      | .struct fs => match fs.toList[f]? with
        | some fd => match T.ty fd.type with
          | some j => some (.opt (fdV (isAgg j.desc) fd.offset j.size a))
          | none => none
        | none => none
      | _ => none
    | _, _ => none
  | .indexAddr t x i => match T.ty t, ev e x, ev e i with
    | some j, some a, some b => match j.desc with
      | .slice z => match T.ty z with
        | some iz => some (.opt (iaV iz.size a b))
        | none => none
      | .array n z => match T.ty z with
        | some iz => some (.opt (aaV n iz.size a b))
        | none => none
      | _ => none
    | _, _, _ => none
  | .index t x i => match T.ty t, ev e x, ev e i with
    | some j, some a, some b => match j.desc with
      | .string => some (.opt (ixV a b))
      | _ => none
    | _, _, _ => none
  | .lookup t m k ok => match T.ty t, ev e m, ev e k with
    | some i, some a, some b => match i.desc with
      | .map kt vt => match T.ty kt, T.ty vt with
        | some ik, some iv => bif plainKey ik.desc then some (.rd (lkV ik.desc iv.zero ok a b)) else none
        | _, _ => none
      | _ => none
    | _, _, _ => none
  | .entry it => match ev e it with
    | some a => some (.rd (enV a))
    | none => none
  | .extract x i => match ev e x with
    | some a => some (.opt (exV i a))
    | none => none
  | .build t parts => match T.ty t, evp e parts.toList with
    | some i, some ps => match i.desc with
      | .struct fs => match fs.toList.mapM fun f => (T.ty f.type).map fun j => (f.offset, j.size) with
        | some pl => some (.opt (bdV i.zero pl ps))
        | none => none
      | _ => none
    | _, _ => none
  | .call c => match c.callee, evs e c.args.toList with
    | .builtin .len, some [a] => match c.argTypes.toList with
      | t :: _ => match T.ty t with
        | some i => match i.desc with
          | .slice _ => some (.opt (lnV a))
          | .string => some (.opt (lsV a))
          | .map _ _ => some (.rd (lenM a))
          | _ => none
        | none => none
      | [] => none
    | .builtin .min, some [a, b] => some (.opt (minV a b))
    | .builtin .max, some [a, b] => some (.opt (maxV a b))
    | _, _ => none
  | _ => none

/-- what is known of the temporaries is so -/
def Mt (e : Env) (a : Act) : Prop := ∀ t v, e t = some v → a.tmps[t]? = some v

theorem Mt.ev {e : Env} {a : Act} (h : Mt e a) {x : Operand} {v : Value} (hx : ev e x = some v) : a.eval x = v := by
  cases x with
  | tmp t => simp [Act.eval, h t v hx]
  | const c => simp only [Proofs.YtdoimhpmnmmffaaGreat.ev, Option.some.injEq] at hx; exact hx
  | global g => simp only [Proofs.YtdoimhpmnmmffaaGreat.ev, Option.some.injEq] at hx; exact hx
  | func f => simp only [Proofs.YtdoimhpmnmmffaaGreat.ev, Option.some.injEq] at hx; exact hx

theorem Mt.evs {e : Env} {a : Act} (h : Mt e a) : ∀ {l : List Operand} {vs : List Value}, evs e l = some vs → l.map a.eval = vs
  | [], vs, hx => by simp only [Proofs.YtdoimhpmnmmffaaGreat.evs, Option.some.injEq] at hx; simp [← hx]
  | x :: l, vs, hx => by
    simp only [Proofs.YtdoimhpmnmmffaaGreat.evs] at hx
    split at hx
    · rename_i v ws hv hws
      simp only [Option.some.injEq] at hx; subst hx
      simp [h.ev hv, h.evs hws]
    · cases hx

theorem Mt.evo {e : Env} {a : Act} (h : Mt e a) {x : Option Operand} {v : Option Value} (hx : evo e x = some v) : x.map a.eval = v := by
  cases x with
  | none => simp only [Proofs.YtdoimhpmnmmffaaGreat.evo, Option.some.injEq] at hx; simp [← hx]
  | some x =>
    simp only [Proofs.YtdoimhpmnmmffaaGreat.evo] at hx
    split at hx
    · rename_i u hu; simp only [Option.some.injEq] at hx; subst hx; simp [h.ev hu]
    · cases hx

theorem Mt.evp {e : Env} {a : Act} (h : Mt e a) : ∀ {l : List (Nat × Operand)} {vs : List (Nat × Value)}, evp e l = some vs → l.map (fun (i, x) => (i, a.eval x)) = vs
  | [], vs, hx => by simp only [Proofs.YtdoimhpmnmmffaaGreat.evp, Option.some.injEq] at hx; simp [← hx]
  | (i, x) :: l, vs, hx => by
    simp only [Proofs.YtdoimhpmnmmffaaGreat.evp] at hx
    split at hx
    · rename_i v ws hv hws
      simp only [Option.some.injEq] at hx; subst hx
      simp [h.ev hv, h.evp hws]
    · cases hx

theorem run_underlying' {P : Program} {t : TypeId} {d : TypeDesc} (h : P.underlying t = some d) (w : World) : (underlying t).run P w = .ok d w := by
  simp [underlying, h]
theorem run_typeInfo' {P : Program} {t : TypeId} {i : TypeInfo} (h : P.info? t = some i) (w : World) : (typeInfo t).run P w = .ok i w := by
  simp [typeInfo, h]

theorem TabOk.und {P : Program} {T : Tab} (hT : TabOk P T) {t : Nat} {i : TI} (h : T.ty t = some i) (w : World) : (underlying t).run P w = .ok i.desc w :=
  run_underlying' (hT.ty t i h).1 w
theorem TabOk.sizeOf {P : Program} {T : Tab} (hT : TabOk P T) {t : Nat} {i : TI} (h : T.ty t = some i) (w : World) : (Go.sizeOf t).run P w = .ok i.size w := by
  obtain ⟨inf, h1, _, h3, _⟩ := (hT.ty t i h).2
  simp [Go.sizeOf, run_typeInfo' h1, h3]
theorem TabOk.bytes {P : Program} {T : Tab} (hT : TabOk P T) {t : Nat} {i : TI} (h : T.ty t = some i) (w : World) : ∃ inf, (Go.typeInfo t).run P w = .ok inf w ∧ inf.bytes = i.bytes := by
  obtain ⟨inf, h1, _, _, h4⟩ := (hT.ty t i h).2
  exact ⟨inf, run_typeInfo' h1 w, h4⟩
theorem TabOk.zero {P : Program} {T : Tab} (hT : TabOk P T) {t : Nat} {i : TI} (h : T.ty t = some i) (w : World) : (Go.zeroValue t).run P w = .ok i.zero w := by
  obtain ⟨inf, h1, h2, _, _⟩ := (hT.ty t i h).2
  simp [Go.zeroValue, run_typeInfo' h1, h2]
theorem TabOk.isAgg {P : Program} {T : Tab} (hT : TabOk P T) {t : Nat} {i : TI} (h : T.ty t = some i) (w : World) : (Go.isAgg t).run P w = .ok (isAgg i.desc) w := by
  simp only [Go.isAgg, Sem.run_bind, hT.und h, Result.andThen_ok]
  unfold Proofs.YtdoimhpmnmmffaaGreat.isAgg
  split <;> split <;> simp_all

theorem run_loadVar {P : Program} {T : Tab} (hT : TabOk P T) {t : Nat} {i : TI} (h : T.ty t = some i) {p v : Value} (w : World)
    (hv : (bif isAgg i.desc then rda i.size p w.heap else rdv p w.heap) = some v) : (Instr.loadAt t p).run P w = .ok v w := by
  unfold Instr.loadAt loadVar
  cases hb : isAgg i.desc with
  | true =>
    rw [hb] at hv
    simp only [cond_true] at hv
    unfold rda at hv
    split at hv
    · rename_i b o
      simp only [Option.map_eq_some_iff] at hv
      obtain ⟨l, hl, rfl⟩ := hv
      simp only [Instr.sureAddr, Sem.run_bind, Sem.run_pure, Result.andThen_ok, hT.isAgg h, hb, if_true, hT.sizeOf h, loadCells]
      rw [run_loadFrom P w b o i.size 0 #[] l hl]
      simp
    · cases hv
  | false =>
    rw [hb] at hv
    simp only [cond_false] at hv
    unfold rdv at hv
    split at hv
    · rename_i b o
      simp [Instr.sureAddr, hT.isAgg h, hb, cell_of_rdc hv]
    · cases hv

end
end Go.Proofs.YtdoimhpmnmmffaaGreat

/- The operations without effect: what the machine does is what 'exP' says. No condition but that the tables are the program's. -/
namespace Go.Proofs.YtdoimhpmnmmffaaGreat
open Go

section
variable {P : Program} {T : Tab} (hT : TabOk P T)

/-- the machine's operation gives v and leaves the world -/
def Gives (P : Program) (o : Oper) (a : Act) (v : Value) (w : World) : Prop := (execOp a.eval o).run P w = .ok (.value v) w

theorem gives_pure {o : Oper} {a : Act} {v : Value} {w : World} {s : Sem Value} (h : execOp a.eval o = (do pure (.value (← s)))) (hs : s.run P w = .ok v w) : Gives P o a v w := by
  unfold Gives; rw [h]; simp [hs]

theorem pickV_run {c x y v : Value} (h : pickV c x y = some v) (w : World) : (do pure (Next.value (if ← asBool c then x else y)) : Sem Next).run P w = .ok (.value v) w := by
  unfold pickV at h
  split at h
  · rename_i t; cases t <;> simp_all [asBool]
  · cases h

include hT in
theorem ncV_run {x v : Value} (h : ncV T x = some v) (w : World) (ρ : Operand → Value) (o : Oper) (y : Operand) (ho : o.op = .nilCheck y) (hy : ρ y = x) : (execOp ρ o).run P w = .ok (.value v) w := by
  unfold execOp; rw [ho]; simp only [hy]
  unfold ncV at h
  split at h
  · simp only [Option.some.injEq] at h; subst h; simp
  · simp only [Option.some.injEq] at h; subst h; simp
  · simp only [Option.some.injEq] at h; subst h; simp
  · simp only [Option.some.injEq] at h; subst h; simp
  · rename_i nm first cap
    split at h
    · rename_i t b hf
      split at h
      · rename_i hm
        simp only [Option.some.injEq] at h; subst h
        obtain ⟨f, hf'⟩ := Option.isSome_iff_exists.1 hm
        have := (hT.me t nm f hf' b w).2.1
        simp [hf, this]
      · cases h
    · cases h
  · cases h

theorem intV_run {op : BinOp} {t : TypeId} {k j : IntKind} {m n : Int} {v : Value} (h : intV op k m j n = some v) (w : World) :
    (binOp op t (.int k m) (.int j n)).run P w = .ok v w := by
  cases op <;> simp only [intV, bitV] at h
  case quo => cases h
  case rem => cases h
  case shl =>
    split at h
    · cases h
    · rename_i hk; simp only [Option.some.injEq] at h; subst h
      show (Op.shift .shl k m j n).run P w = _
      simp [Op.shift, hk]
  case shr =>
    split at h
    · cases h
    · rename_i hk; simp only [Option.some.injEq] at h; subst h
      show (Op.shift .shr k m j n).run P w = _
      simp [Op.shift, hk]
  all_goals
    split at h
    · rename_i hk; subst hk; simp only [Option.some.injEq] at h; subst h; simp [binOp, Op.intArith, Op.intCmp, Op.intBits]
    · cases h

theorem strV_run {op : BinOp} {t : TypeId} {m n : ByteArray} {v : Value} (h : strV op m n = some v) (w : World) :
    (binOp op t (.string m) (.string n)).run P w = .ok v w := by
  unfold strV at h
  split at h <;> first | (cases h; done) | (simp only [Option.some.injEq] at h; subst h; rfl)

theorem eqGuard_str (op : BinOp) (t : TypeId) (x y : Operand) (m n : ByteArray) : eqGuard op t x y (.string m) (.string n) = pure () := by cases op <;> rfl
theorem eqGuard_int (op : BinOp) (t : TypeId) (x y : Operand) (j k : IntKind) (m n : Int) : eqGuard op t x y (.int j m) (.int k n) = pure () := by cases op <;> rfl
theorem eqGuard_ptr (op : BinOp) (t : TypeId) (x y : Operand) (m : Option Addr) (b : Value) : eqGuard op t x y (.pointer m) b = pure () := by cases op <;> rfl

theorem equal_one {t : TypeId} {d : TypeDesc} (hd : P.underlying t = some d) {x y : Value} {b : Bool} (h : nilEq d x y = some b) (w : World) :
    (Op.equal t x y).run P w = .ok b w := by
  unfold Op.equal Op.maxDepth Op.equalIn
  simp only [Sem.run_bind, run_underlying' hd, Result.andThen_ok]
  unfold nilEq at h
  split at h <;> first | (cases h; done) | (simp only [Option.some.injEq] at h; subst h; rfl)

theorem guard_one {op : BinOp} {t : TypeId} {d : TypeDesc} {x y : Value} {b : Bool} (h : nilEq d x y = some b) (p q : Operand) : eqGuard op t p q x y = pure () := by
  unfold nilEq at h
  split at h <;> first | (cases h; done) | (cases op <;> rfl)

theorem binOp_eql_of {t : TypeId} {d : TypeDesc} {x y : Value} {b : Bool} (h : nilEq d x y = some b) : binOp .eql t x y = (do pure (.bool (← Op.equal t x y))) ∨ (∃ m n, x = .bool m ∧ y = .bool n) := by
  unfold nilEq at h
  split at h <;> first | (cases h; done) | exact .inl rfl | exact .inr ⟨_, _, rfl, rfl⟩
theorem binOp_eql_nil {t : TypeId} {d : TypeDesc} (hd : P.underlying t = some d) {x y : Value} {b : Bool} (h : nilEq d x y = some b) (w : World) :
    (binOp .eql t x y).run P w = .ok (.bool b) w ∧ (binOp .neq t x y).run P w = .ok (.bool !b) w := by
  have he := equal_one (P := P) hd h w
  have h1 : binOp .eql t x y = (do pure (.bool (← Op.equal t x y))) := by
    unfold nilEq at h; split at h <;> first | (cases h; done) | rfl
  have h2 : binOp .neq t x y = (do pure (.bool (!(← Op.equal t x y)))) := by
    unfold nilEq at h; split at h <;> first | (cases h; done) | rfl
  rw [h1, h2]; simp [he]

include hT in
theorem ptrEq_run {t z : TypeId} {iz : TI} (hd : P.underlying t = some (.pointer z)) (hz : T.ty z = some iz) {x y : Value} {b : Bool} {w : World} (h : ptrEq iz.size x y w.heap = some b) :
    (Op.equal t x y).run P w = .ok b w := by
  unfold Op.equal Op.maxDepth Op.equalIn
  simp only [Sem.run_bind, run_underlying' hd, Result.andThen_ok]
  unfold ptrEq at h
  split at h
  · simp only [Option.some.injEq] at h; subst h; simp
  · simp only [Option.some.injEq] at h; subst h; simp
  · rename_i a c
    split at h
    · cases h
    · rename_i hs
      simp only [Sem.run_bind, hT.sizeOf hz, Result.andThen_ok, hs, ne_eq, not_false_eq_true, if_true]
      unfold sameAddr
      split at h
      · rename_i hb
        simp only [Option.some.injEq] at h; subst h
        simp [hb]
      · rename_i hb
        have hb' : (a.block == c.block) = false := by simpa using hb
        split at h
        · rename_i c1 e1 c2 e2 h1 h2
          simp only [Option.some.injEq] at h; subst h
          have f1 : w.frozen? a = false := by simp [World.frozen?, h1]
          have f2 : w.frozen? c = false := by simp [World.frozen?, h2]
          have s1 : w.shape? a.block = some (e1, c1.size) := by simp [World.shape?, h1]
          have s2 : w.shape? c.block = some (e2, c2.size) := by simp [World.shape?, h2]
          have f3 : ∀ n, w.frozen? { block := a.block, off := n } = false := fun n => by simp [World.frozen?, h1]
          have f4 : ∀ n, w.frozen? { block := c.block, off := n } = false := fun n => by simp [World.frozen?, h2]
          simp [hb', f1, f2, s1, s2, noView, viewAt, mayBeOne, stringish, f3, f4]
        · cases h
  · cases h

theorem bd_run {x : Option Value} {d : Nat} {l : Int} (h : bdI x d = some l) : (x = none ∧ l = d) ∨ ∃ k n, x = some (.int k n) ∧ l = n := by
  unfold bdI at h
  split at h
  · simp only [Option.some.injEq] at h; exact .inl ⟨rfl, h.symm⟩
  · simp only [Option.some.injEq] at h; exact .inr ⟨_, _, rfl, h.symm⟩
  · cases h

theorem sliceBound_run {k : IntKind} {n : Int} {y : Nat} {c : BoundsCode} (h0 : 0 ≤ n) (h1 : n ≤ y) (w : World) : (Instr.sliceBound (.int k n) y c).run P w = .ok n.toNat w := by
  simp [Instr.sliceBound, asIntOf, h0, h1]

include hT in
theorem slV_run {t z : TypeId} {iz : TI} (hd : P.underlying t = some (.slice z)) (hz : T.ty z = some iz) {x v : Value} {lo hi : Option Value} (h : slV iz.size x lo hi = some v) (w : World) :
    (Instr.sliceAt t x lo hi none).run P w = .ok v w := by
  unfold slV at h
  split at h
  · rename_i a len cap
    split at h
    · rename_i l hh hl hhi
      split at h
      · rename_i hc
        obtain ⟨h0, h1, h2⟩ := hc
        simp only [Option.some.injEq] at h; subst h
        have e0 : (Instr.sliceBounds true len cap lo hi none).run P w = .ok (l.toNat, hh.toNat, cap) w := by
          unfold Instr.sliceBounds
          rcases bd_run hhi with ⟨rfl, rfl⟩ | ⟨k, n, rfl, rfl⟩
          · rcases bd_run hl with ⟨rfl, rfl⟩ | ⟨k', n', rfl, rfl⟩
            · simp
            · have := sliceBound_run (P := P) (k := k') (c := .sliceB) h0 (y := len) h1 w
              simp [this]
          · have b1 := sliceBound_run (P := P) (k := k) (c := .sliceAcap) (n := hh) (by omega) (y := cap) h2 w
            rcases bd_run hl with ⟨rfl, rfl⟩ | ⟨k', n', rfl, rfl⟩
            · simp [b1]
            · have := sliceBound_run (P := P) (k := k') (c := .sliceB) h0 (y := hh.toNat) (by omega) w
              simp [b1, this]
        unfold Instr.sliceAt Instr.slice
        simp only [Sem.run_bind, run_underlying' hd, Result.andThen_ok, e0, hT.sizeOf hz, Sem.run_pure]
        have : (cap = l.toNat) ↔ ((cap : Int) = l) := by omega
        simp only [this]
      · cases h
    · cases h
  · cases h

include hT in
theorem faV_run {s : TypeId} {fs : Array Field} {fd : Field} {f : Nat} {j : TI} (hd : P.underlying s = some (.struct fs)) (hf : fs.toList[f]? = some fd) (hj : T.ty fd.type = some j) (h0 : Nat.beq j.size 0 = false)
    {x v : Value} (h : faV fd.offset x = some v) (w : World) : (Instr.fieldAt s x f).run P w = .ok v w := by
  unfold faV at h
  split at h
  · rename_i b o
    simp only [Option.some.injEq] at h; subst h
    have hf' : fs[f]? = some fd := by simpa using hf
    have h0' : ¬ j.size = 0 := by intro e; rw [e] at h0; cases h0
    simp [Instr.fieldAt, run_underlying' hd, hf', Instr.sureAddr, fieldPlace, hT.sizeOf hj, h0', addr_add]
  · cases h

include hT in
theorem part_run {t : TypeId} {j : TI} (hj : T.ty t = some j) {cs : Array Value} {off : Nat} {v : Value} (h : fdV (isAgg j.desc) off j.size (.agg cs) = some v) (w : World) : (part t cs off).run P w = .ok v w := by
  unfold fdV at h
  simp only at h
  unfold part
  cases hb : isAgg j.desc with
  | true =>
    rw [hb] at h; simp only [cond_true, Option.some.injEq] at h; subst h
    simp [hT.isAgg hj, hb, hT.sizeOf hj]
  | false =>
    rw [hb] at h; simp only [cond_false] at h
    simp [hT.isAgg hj, hb, h]

include hT in
theorem iaV_run {t z : TypeId} {iz : TI} (hd : P.underlying t = some (.slice z)) (hz : T.ty z = some iz) {x i v : Value} (h : iaV iz.size x i = some v) (w : World) :
    (Instr.indexAt t x i).run P w = .ok v w := by
  unfold iaV at h
  split at h
  · rename_i b o len cap k n
    split at h
    · rename_i hc
      simp only [Option.some.injEq] at h; subst h
      simp [Instr.indexAt, asIntOf, run_underlying' hd, hc, hT.sizeOf hz, addr_add]
    · cases h
  · cases h

include hT in
theorem aaV_run {t z : TypeId} {len : Nat} {iz : TI} (hd : P.underlying t = some (.array len z)) (hz : T.ty z = some iz) {x i v : Value} (h : aaV len iz.size x i = some v) (w : World) :
    (Instr.indexAt t x i).run P w = .ok v w := by
  unfold aaV at h
  split at h
  · rename_i b o k n
    split at h
    · rename_i hc
      simp only [Option.some.injEq] at h; subst h
      simp [Instr.indexAt, asIntOf, run_underlying' hd, hc, hT.sizeOf hz, addr_add, Instr.sureAddr]
    · cases h
  · cases h

theorem ixV_run {t : TypeId} (hd : P.underlying t = some .string) {x i v : Value} (h : ixV x i = some v) (w : World) : (Instr.index t x i).run P w = .ok v w := by
  unfold ixV at h
  split at h
  · rename_i s k n
    split at h
    · rename_i h0
      simp only [Option.map_eq_some_iff] at h
      obtain ⟨b, hb, rfl⟩ := h
      simp [Instr.index, asIntOf, run_underlying' hd, h0, hb]
    · cases h
  · cases h

end
end Go.Proofs.YtdoimhpmnmmffaaGreat

/- More operations without effect (texts of bytes, structs that are built, lengths), and all of them in one: 'exP_sound'. No condition but that the tables are the program's. -/
namespace Go.Proofs.YtdoimhpmnmmffaaGreat
open Go

section
variable {P : Program} {T : Tab} (hT : TabOk P T)

theorem bytes_loop (w : World) (f : Value → ByteArray → Sem (ForInStep ByteArray)) (hf : ∀ n s, f (.int .u8 n) s = pure (ForInStep.yield (s.push (UInt8.ofNat n.toNat)))) :
    ∀ (l : List Value) (bs : List UInt8) (acc : Array UInt8), bytesOf l = some bs → (forIn (m := Sem) l (ByteArray.mk acc) f).run P w = .ok ⟨acc ++ bs.toArray⟩ w
  | [], bs, acc, h => by simp only [bytesOf, Option.some.injEq] at h; subst h; simp
  | x :: l, bs, acc, h => by
    unfold bytesOf at h
    split at h
    · cases ‹_ :: _ = []›
    · rename_i n r heq
      simp only [List.cons.injEq] at heq
      obtain ⟨rfl, rfl⟩ := heq
      simp only [Option.map_eq_some_iff] at h
      obtain ⟨bs', hb, rfl⟩ := h
      simp only [List.forIn_cons, hf, Sem.run_bind, Sem.run_pure, Result.andThen_ok]
      have := bytes_loop w f hf l bs' (acc.push (UInt8.ofNat n.toNat)) hb
      have e : (ByteArray.mk acc).push (UInt8.ofNat n.toNat) = ⟨acc.push (UInt8.ofNat n.toNat)⟩ := rfl
      rw [e, this]
      simp
    · cases h

theorem bsS_run {x v : Value} {w : World} (h : bsS x w.heap = some v) : (Conv.bytesToString x).run P w = .ok v w := by
  unfold bsS at h
  split at h
  · simp only [Option.some.injEq] at h; subst h; rfl
  · rename_i b o len cap
    split at h
    · rename_i l hl
      simp only [Option.map_eq_some_iff] at h
      obtain ⟨bs, hb, rfl⟩ := h
      have h1 := run_loadFrom P w b o len 0 #[] l hl
      unfold Conv.bytesToString
      simp only [loadCells, Sem.run_bind, h1, Result.andThen_ok]
      have e : (#[] ++ l.toArray : Array Value) = l.toArray := by simp
      rw [e]
      simp only [List.forIn_toArray]
      have e3 : ByteArray.empty = ByteArray.mk #[] := rfl
      rw [e3, bytes_loop (P := P) w _ (fun _ _ => rfl) l bs #[] hb]
      simp
    · cases h
  · cases h

theorem putL_set (l : List Value) (o : Nat) (v : Value) (r : List Value) (h : o + (r.length + 1) ≤ l.length) : putL (l.set o v) (o + 1) r = putL l o (v :: r) := by
  unfold putL
  rw [List.set_eq_take_append_cons_drop, if_pos (by omega)]
  have e1 : min o l.length = o := by omega
  have e2 : o + 1 - o = 1 := by omega
  have e3 : o + 1 + r.length - o = r.length + 1 := by omega
  simp only [List.take_append, List.length_take, e1, e2, List.take_succ_cons, List.take_zero, List.drop_append, e3, List.drop_succ_cons, List.drop_drop, List.length_cons, List.append_assoc, List.cons_append, List.nil_append, List.take_take, (List.drop_eq_nil_of_le (by simp; omega) : (l.take o).drop (o + 1 + r.length) = [])]
  have e4 : min (o + 1) o = o := by omega
  have e5 : o + 1 + r.length = o + (r.length + 1) := by omega
  rw [e4, e5]

theorem fill_fold (off : Nat) : ∀ (vs : List Value) (k : Nat) (cells : Array Value), off + k + vs.length ≤ cells.size →
    ((vs.zipIdx k).foldl (fun cs (x : Value × Nat) => cs.setIfInBounds (off + x.2) x.1) cells).toList = putL cells.toList (off + k) vs
  | [], k, cells, _ => by simp [putL]
  | v :: r, k, cells, h => by
    simp only [List.length_cons] at h
    simp only [List.zipIdx_cons, List.foldl_cons]
    rw [fill_fold off r (k + 1) _ (by simp; omega)]
    have : off + (k + 1) = off + k + 1 := by omega
    rw [this, Array.toList_setIfInBounds]
    exact putL_set _ _ _ _ (by simp; omega)

theorem putL_length (l : List Value) (o : Nat) (r : List Value) (h : o + r.length ≤ l.length) : (putL l o r).length = l.length := by
  unfold putL; simp; omega

theorem fill_filL (place : List (Nat × Nat)) : ∀ (parts : List (Nat × Value)) (cells : Array Value) (l : List Value), filL place cells.toList parts = some l →
    Instr.fill (place.toArray[·]?) cells parts = some l.toArray
  | [], cells, l, h => by simp only [filL, Option.some.injEq] at h; subst h; simp [Instr.fill]
  | (i, v) :: rest, cells, l, h => by
    unfold filL at h
    unfold Instr.fill
    split at h
    · cases h
    · rename_i off size hp
      have hp' : place.toArray[i]? = some (off, size) := by simpa using hp
      split at h
      · rename_i hc
        obtain ⟨hc1, hc2⟩ := hc
        simp only [hp', hc1]
        have hc2' : off + size ≤ cells.size := by simpa using hc2
        have hn : (decide (size ≠ size) || decide (off + size > cells.size)) = false := by simp; omega
        rw [if_neg (by rw [hn]; simp)]
        refine fill_filL place rest _ l ?_
        have := fill_fold off v.cells.toList 0 cells (by simp [hc1]; omega)
        simp only [Nat.add_zero] at this
        rw [← Array.foldl_toList, Array.toList_zipIdx, this]
        exact h
      · cases h

include hT in
theorem places_run (w : World) : ∀ (fs : List Field) (pl : List (Nat × Nat)), (fs.mapM fun f => (T.ty f.type).map fun j => (f.offset, j.size)) = some pl →
    (fs.mapM (m := Sem) fun f => do pure (f.offset, ← Go.sizeOf f.type)).run P w = .ok pl w
  | [], pl, h => by simp at h; subst h; simp
  | f :: fs, pl, h => by
    simp only [List.mapM_cons, Option.bind_eq_bind, Option.bind_eq_some_iff, Option.map_eq_some_iff, Option.pure_def, Option.some.injEq] at h
    obtain ⟨a, ⟨j, hj, rfl⟩, pl', hpl, rfl⟩ := h
    simp only [List.mapM_cons, Sem.run_bind, hT.sizeOf hj, Result.andThen_ok, Sem.run_pure, places_run w fs pl' hpl]

include hT in
theorem bdV_run {t : TypeId} {i : TI} {fs : Array Field} (hi : T.ty t = some i) (hd : i.desc = .struct fs) {pl : List (Nat × Nat)}
    (hpl : (fs.toList.mapM fun f => (T.ty f.type).map fun j => (f.offset, j.size)) = some pl) {parts : List (Nat × Value)} {v : Value}
    (h : bdV i.zero pl parts = some v) (w : World) : (Instr.build t parts.toArray).run P w = .ok v w := by
  unfold bdV at h
  simp only [Option.map_eq_some_iff] at h
  obtain ⟨l, hl, rfl⟩ := h
  have h1 := places_run hT w fs.toList pl hpl
  have h2 := fill_filL pl parts i.zero.cells l hl
  unfold Instr.build
  simp only [Sem.run_bind, hT.zero hi, Result.andThen_ok, hT.und hi, hd]
  have h3 : (fs.mapM (m := Sem) fun f => do pure (f.offset, ← Go.sizeOf f.type)).run P w = .ok pl.toArray w := by
    rw [Array.mapM_eq_mapM_toList]
    simp only [Sem.run_map, h1, Result.andThen_ok]
  simp only [h3, Result.andThen_ok, h2, Sem.run_pure]


theorem checkKey_plain {t : TypeId} {d : TypeDesc} (hd : P.underlying t = some d) (hp : plainKey d = true) (b : Bool) (k : Value) (w : World) : (Instr.checkKey b 10000 t k).run P w = .ok () w := by
  unfold Instr.checkKey
  simp only [Sem.run_bind, run_underlying' hd, Result.andThen_ok]
  unfold plainKey at hp
  split at hp <;> first | (cases hp; done) | simp

include hT in
theorem lkV_run {t kt vt : TypeId} {ik iv : TI} (hd : P.underlying t = some (.map kt vt)) (hk : T.ty kt = some ik) (hv : T.ty vt = some iv) (hp : plainKey ik.desc = true) {ok : Bool} {m k v : Value} {w : World}
    (h : lkV ik.desc iv.zero ok m k w.heap = some v) : (Instr.lookup t m k ok).run P w = .ok v w := by
  have hkd := (hT.ty kt ik hk).1
  unfold lkV at h
  unfold Instr.lookup
  simp only [Sem.run_bind, run_underlying' hd, Result.andThen_ok]
  split at h
  · simp only [Option.some.injEq] at h; subst h
    simp only [Sem.run_pure, Result.andThen_ok, checkKey_plain hkd hp, Instr.findKey, Sem.run_bind, run_underlying' hkd, Instr.findNow, hT.zero hv]
    cases ok <;> simp
  · rename_i r
    split at h
    · rename_i es clock he
      have hg : (getObj r).run P w = .ok (.map es clock) w := by simp [getObj, Sem.run, he]
      simp only [Sem.run_bind, hg, Result.andThen_ok, Sem.run_pure, checkKey_plain hkd hp, Instr.findKey, run_underlying' hkd]
      split at h
      · rename_i i u hf
        simp only [Option.some.injEq] at h; subst h
        simp only [hf, Sem.run_pure, Result.andThen_ok]
        cases ok <;> simp
      · rename_i hf
        simp only [Option.some.injEq] at h; subst h
        simp only [hf, Sem.run_pure, Result.andThen_ok, Sem.run_bind, hT.zero hv]
        cases ok <;> simp
      · cases h
    · cases h
  · cases h

end
end Go.Proofs.YtdoimhpmnmmffaaGreat

/- All operations without effect in one: what 'exP' says the machine does. No condition but that the tables are the program's. -/
namespace Go.Proofs.YtdoimhpmnmmffaaGreat
open Go

section
variable {P : Program} {T : Tab} (hT : TabOk P T)

theorem part_int {P : Program} {t : TypeId} {k : IntKind} (h : P.underlying t = some (.int k)) {cs : Array Value} {o : Nat} {v : Value} (hv : cs[o]? = some v) (w : World) : (part t cs o).run P w = .ok v w := by
  simp [part, Go.isAgg, run_underlying' h, hv]

theorem eqIn_int {P : Program} {t : TypeId} {q : IntKind} (h : P.underlying t = some (.int q)) (d : Nat) (k : IntKind) (m n : Int) (w : World) : (Op.equalIn (d + 1) t (.int k m) (.int k n)).run P w = .ok (m == n) w := by
  unfold Op.equalIn
  simp [run_underlying' h]

include hT in
theorem pair_equal {t : TypeId} (he : T.eq t = true) {j k : IntKind} (m n m' n' : Int) (w : World) :
    (Op.equal t (.agg #[.int j m, .int k n]) (.agg #[.int j m', .int k n'])).run P w = .ok (m == m' && n == n') w := by
  obtain ⟨_, h1, f, g, hu, hf, hg, of, og, ⟨kf, huf⟩, ⟨kg, hug⟩⟩ := hT.eq t he
  unfold Op.equal Op.maxDepth Op.equalIn
  simp only [Sem.run_bind, run_underlying' hu, Result.andThen_ok, run_program, h1]
  have p1 := part_int huf (cs := #[.int j m, .int k n]) (o := 0) (v := .int j m) rfl w
  have p2 := part_int huf (cs := #[.int j m', .int k n']) (o := 0) (v := .int j m') rfl w
  have p3 := part_int hug (cs := #[.int j m, .int k n]) (o := 1) (v := .int k n) rfl w
  have p4 := part_int hug (cs := #[.int j m', .int k n']) (o := 1) (v := .int k n') rfl w
  have q1 : (Op.equalIn 9999 f.type (.int j m) (.int j m')).run P w = .ok (m == m') w := eqIn_int huf 9998 j m m' w
  have q2 : (Op.equalIn 9999 g.type (.int k n) (.int k n')).run P w = .ok (n == n') w := eqIn_int hug 9998 k n n' w
  simp only [of, og, List.forIn_toArray, List.forIn_cons, List.forIn_nil, Sem.run_bind, ne_eq, hf, hg, not_false_eq_true, if_true, p1, p2, q1, Result.andThen_ok, Bool.false_eq_true, if_false]
  cases h1 : (m == m') <;> cases h2 : (n == n') <;> simp [h2, p3, p4, q2]

include hT in
theorem pair_guard {t : TypeId} (he : T.eq t = true) {op : BinOp} (x y : Operand) (a b : Array Value) (w : World) : (eqGuard op t x y (.agg a) (.agg b)).run P w = .ok () w := by
  obtain ⟨h0, _⟩ := hT.eq t he
  unfold eqGuard
  cases op <;> simp [h0]

include hT in
theorem pair_bin {t : TypeId} (he : T.eq t = true) {j k : IntKind} (m n m' n' : Int) (w : World) :
    (binOp .eql t (.agg #[.int j m, .int k n]) (.agg #[.int j m', .int k n'])).run P w = .ok (.bool (m == m' && n == n')) w ∧
    (binOp .neq t (.agg #[.int j m, .int k n]) (.agg #[.int j m', .int k n'])).run P w = .ok (.bool !(m == m' && n == n')) w := by
  have := pair_equal hT he (j := j) (k := k) m n m' n' w
  have h1 : binOp .eql t (.agg #[.int j m, .int k n]) (.agg #[.int j m', .int k n']) = (do pure (.bool (← Op.equal t (.agg #[.int j m, .int k n]) (.agg #[.int j m', .int k n'])))) := rfl
  have h2 : binOp .neq t (.agg #[.int j m, .int k n]) (.agg #[.int j m', .int k n']) = (do pure (.bool (!(← Op.equal t (.agg #[.int j m, .int k n]) (.agg #[.int j m', .int k n']))))) := rfl
  rw [h1, h2]; simp [this]

include hT in
theorem bin_sound {op : BinOp} {t yt : TypeId} {x y : Operand} {e : Env} {ex : Ex} (h : exP T (.binOp op t x y yt) e = some ex) {a : Act} (ha : Mt e a) {w : World} {v : Value} (hv : ex.at w.heap = some v) :
    (do eqGuard op t x y (a.eval x) (a.eval y); binOp op t (a.eval x) (a.eval y) : Sem Value).run P w = .ok v w := by
  simp only [exP] at h
  split at h
  · rename_i i u1 u2 hi h1 h2
    rw [ha.ev h1, ha.ev h2]
    have hd := (hT.ty t i hi).1
    split at h
    · simp only [Option.some.injEq] at h; subst h
      simp only [Ex.at, binI] at hv
      split at hv
      · rw [eqGuard_int]; simp [intV_run hv w]
      · cases hv
    · simp only [Option.some.injEq] at h; subst h
      simp only [Ex.at, binS] at hv
      split at hv
      · rw [eqGuard_str]; simp [strV_run hv w]
      · cases hv
    · rename_i z hz
      rw [hz] at hd
      split at h
      · rename_i iz hiz
        simp only [Option.some.injEq] at h; subst h
        simp only [Ex.at, Option.map_eq_some_iff] at hv
        obtain ⟨b, hb, rfl⟩ := hv
        have hr := ptrEq_run hT hd hiz hb
        obtain ⟨q, rfl⟩ : ∃ q, u1 = .pointer q := by
          unfold ptrEq at hb; split at hb <;> first | (cases hb; done) | exact ⟨_, rfl⟩
        obtain ⟨q', rfl⟩ : ∃ q, u2 = .pointer q := by
          unfold ptrEq at hb; split at hb <;> first | (cases hb; done) | exact ⟨_, rfl⟩
        rw [eqGuard_ptr]
        have : binOp .eql t (.pointer q) (.pointer q') = (do pure (.bool (← Op.equal t (.pointer q) (.pointer q')))) := rfl
        rw [this]; simp [hr]
      · rename_i iz hiz
        simp only [Option.some.injEq] at h; subst h
        simp only [Ex.at, Option.map_eq_some_iff] at hv
        obtain ⟨b, hb, rfl⟩ := hv
        have hr := ptrEq_run hT hd hiz hb
        obtain ⟨q, rfl⟩ : ∃ q, u1 = .pointer q := by
          unfold ptrEq at hb; split at hb <;> first | (cases hb; done) | exact ⟨_, rfl⟩
        obtain ⟨q', rfl⟩ : ∃ q, u2 = .pointer q := by
          unfold ptrEq at hb; split at hb <;> first | (cases hb; done) | exact ⟨_, rfl⟩
        rw [eqGuard_ptr]
        have : binOp .neq t (.pointer q) (.pointer q') = (do pure (.bool (!(← Op.equal t (.pointer q) (.pointer q'))))) := rfl
        rw [this]; simp [hr]
      · cases h
    · rename_i fs hfs
      cases he : T.eq t with
      | false => rw [he] at h; cases h
      | true =>
        rw [he] at h; simp only [cond_true] at h
        have key : ∀ r, pairV u1 u2 = some r → ∃ j k m n m' n', u1 = .agg #[.int j m, .int k n] ∧ u2 = .agg #[.int j m', .int k n'] ∧ r = (m == m' && n == n') := by
          intro r hr
          unfold pairV at hr
          split at hr
          · rename_i x y
            split at hr
            · rename_i j m k n j' m' k' n' hx hy
              split at hr
              · rename_i hjk; obtain ⟨rfl, rfl⟩ := hjk
                simp only [Option.some.injEq] at hr
                exact ⟨j, k, m, n, m', n', by rw [← hx], by rw [← hy], hr.symm⟩
              · cases hr
            · cases hr
          · cases hr
        split at h
        · simp only [Option.some.injEq] at h; subst h
          simp only [Ex.at, Option.map_eq_some_iff] at hv
          obtain ⟨r, hr, rfl⟩ := hv
          obtain ⟨j, k, m, n, m', n', rfl, rfl, rfl⟩ := key r hr
          simp [pair_guard hT he, (pair_bin hT he _ _ _ _ w).1]
        · simp only [Option.some.injEq] at h; subst h
          simp only [Ex.at, Option.map_eq_some_iff] at hv
          obtain ⟨r, hr, rfl⟩ := hv
          obtain ⟨j, k, m, n, m', n', rfl, rfl, rfl⟩ := key r hr
          simp [pair_guard hT he, (pair_bin hT he _ _ _ _ w).2]
        · cases h
    · split at h
      · simp only [Option.some.injEq] at h; subst h
        simp only [Ex.at, Option.map_eq_some_iff] at hv
        obtain ⟨b, hb, rfl⟩ := hv
        rw [guard_one hb]; simp [(binOp_eql_nil hd hb w).1]
      · simp only [Option.some.injEq] at h; subst h
        simp only [Ex.at, Option.map_eq_some_iff] at hv
        obtain ⟨b, hb, rfl⟩ := hv
        rw [guard_one hb]; simp [(binOp_eql_nil hd hb w).2]
      · cases h
  · cases h

include hT in
theorem cv_sound {s d : TypeId} {x : Operand} {e : Env} {ex : Ex} (h : exP T (.convert s d x) e = some ex) {a : Act} (ha : Mt e a) {w : World} {v : Value} (hv : ex.at w.heap = some v) :
    (convert s d (a.eval x)).run P w = .ok v w := by
  simp only [exP] at h
  split at h
  · rename_i i j u hi hj h1
    rw [ha.ev h1]
    have hs := hT.und (P := P) hi w
    have hd := hT.und (P := P) hj w
    split at h
    · rename_i k k' e1 e2
      simp only [Option.some.injEq] at h; subst h
      simp only [Ex.at] at hv
      unfold cvV at hv
      split at hv
      · simp only [Option.some.injEq] at hv; subst hv
        rw [e1] at hs; rw [e2] at hd
        simp [convert, hs, hd, Conv.intToInt]
      · cases hv
    · rename_i z e1 e2
      rw [e1] at hs; rw [e2] at hd
      split at h
      · rename_i iz hiz
        split at h
        · rename_i e3
          simp only [Option.some.injEq] at h; subst h
          simp only [Ex.at] at hv
          have hz := hT.und (P := P) hiz w
          rw [e3] at hz
          have hr := bsS_run (P := P) hv
          have : ∃ p l c, u = .slice p l c := by
            unfold bsS at hv; split at hv
            · exact ⟨_, _, _, rfl⟩
            · exact ⟨_, _, _, rfl⟩
            · cases hv
          obtain ⟨p, l, c, rfl⟩ := this
          unfold convert
          simp only [Sem.run_bind, hs, hd, Result.andThen_ok, hz, hr]
        · cases h
      · cases h
    · cases h
  · cases h

end
end Go.Proofs.YtdoimhpmnmmffaaGreat

/- What 'exP' says an operation comes to, the machine's operation gives, in every world in which it says so. No condition but that the tables are the program's. -/
namespace Go.Proofs.YtdoimhpmnmmffaaGreat
open Go

section
variable {P : Program} {T : Tab} (hT : TabOk P T)

include hT in
theorem exP_sound {o : Oper} {e : Env} {ex : Ex} (h : exP T o.op e = some ex) {a : Act} (ha : Mt e a) {w : World} {v : Value} (hv : ex.at w.heap = some v) :
    Gives P o a v w := by
  unfold Gives
  cases hop : o.op with
  | move x =>
    rw [hop] at h
    simp only [exP, Option.map_eq_some_iff] at h; obtain ⟨u, hu, rfl⟩ := h
    simp only [Ex.at, Option.some.injEq] at hv; subst hv
    simp [execOp, hop, ha.ev hu]
  | assign x =>
    rw [hop] at h
    simp only [exP, Option.map_eq_some_iff] at h; obtain ⟨u, hu, rfl⟩ := h
    simp only [Ex.at, Option.some.injEq] at hv; subst hv
    simp [execOp, hop, ha.ev hu]
  | pick c x y =>
    rw [hop] at h
    simp only [exP] at h
    split at h
    · rename_i c' x' y' h1 h2 h3
      simp only [Option.some.injEq] at h; subst h
      simp only [execOp, hop, ha.ev h1, ha.ev h2, ha.ev h3]
      exact pickV_run hv w
    · cases h
  | load t p =>
    rw [hop] at h
    simp only [exP] at h
    split at h
    · rename_i i u hi h1
      simp only [Option.some.injEq] at h; subst h
      simp only [Ex.at] at hv
      have hv' : (bif isAgg i.desc then rda i.size u w.heap else rdv u w.heap) = some v := by
        cases hb : isAgg i.desc <;> rw [hb] at hv <;> exact hv
      have := run_loadVar hT hi w hv'
      simp [execOp, hop, ha.ev h1, this]
    · cases h
  | nilCheck x =>
    have h0 := h
    rw [hop] at h
    simp only [exP] at h
    split at h
    · rename_i u h1
      simp only [Option.some.injEq] at h; subst h
      exact ncV_run hT hv w a.eval o x hop (ha.ev h1)
    · cases h
  | binOp op t x y yt =>
    rw [hop] at h
    have := bin_sound hT h ha hv
    simp only [execOp, hop, Sem.run_bind]
    simp only [Sem.run_bind] at this
    rw [this]; simp
  | unOp op t x =>
    rw [hop] at h
    simp only [exP] at h
    split at h
    · rename_i u h1
      simp only [Option.some.injEq] at h; subst h
      simp only [execOp, hop, ha.ev h1]
      simp only [Ex.at] at hv
      unfold unV at hv
      split at hv
      · simp only [Option.some.injEq] at hv; subst hv; rfl
      · simp only [Option.some.injEq] at hv; subst hv; rfl
      · unfold bitV at hv; simp only [Option.some.injEq] at hv; subst hv; rfl
      · cases hv
    · cases h
  | convert s d x =>
    rw [hop] at h
    have := cv_sound hT h ha hv
    simp [execOp, hop, this]
  | makeInterface t x =>
    rw [hop] at h
    simp only [exP] at h
    split at h
    · rename_i i u hi h1
      have hd := hT.und (P := P) hi w
      split at h
      · cases h
      · rename_i hni
        simp only [Option.some.injEq] at h; subst h
        simp only [Ex.at, Option.some.injEq] at hv; subst hv
        simp only [execOp, hop, ha.ev h1, Instr.makeInterface, Sem.run_bind, hd, Result.andThen_ok]
        simp
    · cases h
  | makeFunc fn x y =>
    rw [hop] at h
    simp only [exP] at h
    split at h
    · rename_i u u' h1 h2
      simp only [Option.some.injEq] at h; subst h
      simp only [Ex.at, Option.some.injEq] at hv; subst hv
      have e1 : x.map a.eval = u.toArray := by apply Array.ext'; simp [ha.evs h1]
      have e2 : y.map a.eval = u'.toArray := by apply Array.ext'; simp [ha.evs h2]
      simp [execOp, hop, Instr.makeFunc, e1, e2]
    · cases h
  | slice t x lo hi mx =>
    rw [hop] at h
    cases mx with
    | some m => simp only [exP] at h; cases h
    | none =>
      simp only [exP] at h
      split at h
      · rename_i i u l hh hi' h1 h2 h3
        have hd := (hT.ty t i hi').1
        split at h
        · rename_i z hz
          rw [hz] at hd
          split at h
          · rename_i iz hiz
            simp only [Option.some.injEq] at h; subst h
            have := slV_run hT hd hiz hv w
            simp [execOp, hop, ha.ev h1, ha.evo h2, ha.evo h3, this]
          · cases h
        · cases h
      · cases h
  | fieldAddr s x f =>
    rw [hop] at h
    simp only [exP] at h
    split at h
    · rename_i i u hi h1
      have hd := (hT.ty s i hi).1
      split at h
      · rename_i fs hfs
        rw [hfs] at hd
        split at h
        · rename_i fd hfd
          split at h
          · rename_i j hj
            cases hb : Nat.beq j.size 0 with
            | true => rw [hb] at h; cases h
            | false =>
              rw [hb] at h; simp only [cond_false, Option.some.injEq] at h; subst h
              have := faV_run hT hd hfd hj hb hv w
              simp [execOp, hop, ha.ev h1, this]
          · cases h
        · cases h
      · cases h
    · cases h
  | field s x f =>
    rw [hop] at h
    simp only [exP] at h
    split at h
    · rename_i i u hi h1
      have hd := hT.und (P := P) hi w
      split at h
      · rename_i fs hfs
        rw [hfs] at hd
        split at h
        · rename_i fd hfd
          split at h
          · rename_i j hj
            simp only [Option.some.injEq] at h; subst h
            simp only [Ex.at] at hv
            have : ∃ cs, u = .agg cs := by
              unfold fdV at hv; split at hv
              · exact ⟨_, rfl⟩
              · cases hv
            obtain ⟨cs, rfl⟩ := this
            have hp := part_run hT hj hv w
            have hfd' : fs[f]? = some fd := by simpa using hfd
            simp only [execOp, hop, ha.ev h1, Instr.field, Sem.run_bind, hd, Result.andThen_ok, hfd', asAgg, Sem.run_pure, hp]
          · cases h
        · cases h
      · cases h
    · cases h
  | indexAddr t x i =>
    rw [hop] at h
    simp only [exP] at h
    split at h
    · rename_i j u u' hj h1 h2
      have hd := (hT.ty t j hj).1
      split at h
      · rename_i z hz
        rw [hz] at hd
        split at h
        · rename_i iz hiz
          simp only [Option.some.injEq] at h; subst h
          have := iaV_run hT hd hiz hv w
          simp [execOp, hop, ha.ev h1, ha.ev h2, this]
        · cases h
      · rename_i n z hz
        rw [hz] at hd
        split at h
        · rename_i iz hiz
          simp only [Option.some.injEq] at h; subst h
          have := aaV_run hT hd hiz hv w
          simp [execOp, hop, ha.ev h1, ha.ev h2, this]
        · cases h
      · cases h
    · cases h
  | index t x i =>
    rw [hop] at h
    simp only [exP] at h
    split at h
    · rename_i j u u' hj h1 h2
      have hd := (hT.ty t j hj).1
      split at h
      · rename_i hz
        rw [hz] at hd
        simp only [Option.some.injEq] at h; subst h
        have := ixV_run hd hv w
        simp [execOp, hop, ha.ev h1, ha.ev h2, this]
      · cases h
    · cases h
  | lookup t m k ok =>
    rw [hop] at h
    simp only [exP] at h
    split at h
    · rename_i i u u' hi h1 h2
      have hd := (hT.ty t i hi).1
      split at h
      · rename_i kt vt hz
        rw [hz] at hd
        split at h
        · rename_i ik iv hik hiv
          cases hp : plainKey ik.desc with
          | false => rw [hp] at h; cases h
          | true =>
            rw [hp] at h; simp only [cond_true, Option.some.injEq] at h; subst h
            have := lkV_run hT hd hik hiv hp hv
            simp [execOp, hop, ha.ev h1, ha.ev h2, this]
        · cases h
      · cases h
    · cases h
  | entry it =>
    rw [hop] at h
    simp only [exP] at h
    split at h
    · rename_i u h1
      simp only [Option.some.injEq] at h; subst h
      simp only [Ex.at] at hv
      unfold enV at hv
      split at hv
      · rename_i r sp
        split at hv
        · rename_i m since seen stepped hr
          split at hv
          · rename_i st es clock hs hm
            split at hv
            · rename_i hc
              simp only [Option.map_eq_some_iff] at hv
              obtain ⟨x, hx, rfl⟩ := hv
              have g1 : (getObj r).run P w = .ok (.mapIter (some m) since seen stepped) w := by simp [getObj, Sem.run, hr]
              have g2 : (getObj m).run P w = .ok (.map es clock) w := by simp [getObj, Sem.run, hm]
              simp [execOp, hop, ha.ev h1, Instr.entry, g1, hs, g2, hc, hx]
            · cases hv
          · cases hv
        · cases hv
      · cases hv
    · cases h
  | extract x i =>
    rw [hop] at h
    simp only [exP] at h
    split at h
    · rename_i u h1
      simp only [Option.some.injEq] at h; subst h
      simp only [Ex.at] at hv
      unfold exV at hv
      split at hv
      · simp [execOp, hop, ha.ev h1, Instr.extract, hv]
      · cases hv
    · cases h
  | build t parts =>
    rw [hop] at h
    simp only [exP] at h
    split at h
    · rename_i i ps hi h1
      split at h
      · rename_i fs hfs
        split at h
        · rename_i pl hpl
          simp only [Option.some.injEq] at h; subst h
          have := bdV_run hT hi hfs hpl hv w
          have e1 : (parts.map fun (x : Nat × Operand) => (x.1, a.eval x.2)) = ps.toArray := by apply Array.ext'; simp [ha.evp h1]
          simp only [execOp, hop, Sem.run_bind]
          rw [e1, this]; simp
        · cases h
      · cases h
    · cases h
  | call c =>
    rw [hop] at h
    simp only [exP] at h
    split at h
    · rename_i u hc h1
      split at h
      · rename_i t ts ht
        split at h
        · rename_i i hi
          have hd := hT.und (P := P) hi w
          have e1 : c.args.map a.eval = #[u] := by apply Array.ext'; simp [ha.evs h1]
          have e2 : c.argTypes[0]? = some t := by simp [← Array.getElem?_toList, ht]
          split at h
          · rename_i z hz
            rw [hz] at hd
            simp only [Option.some.injEq] at h; subst h
            simp only [Ex.at] at hv
            first | unfold lnV at hv | unfold lsV at hv
            split at hv
            · simp only [Option.some.injEq] at hv; subst hv
              simp [execOp, hop, resolve, hc, e1, invoke, builtin, Builtin.len_, e2, hd, goInt]
            · cases hv
          · rename_i hz
            rw [hz] at hd
            simp only [Option.some.injEq] at h; subst h
            simp only [Ex.at] at hv
            first | unfold lnV at hv | unfold lsV at hv
            split at hv
            · simp only [Option.some.injEq] at hv; subst hv
              simp [execOp, hop, resolve, hc, e1, invoke, builtin, Builtin.len_, e2, hd, goInt]
            · cases hv
          · rename_i kt vt hz
            rw [hz] at hd
            simp only [Option.some.injEq] at h; subst h
            simp only [Ex.at] at hv
            unfold lenM at hv
            split at hv
            · simp only [Option.some.injEq] at hv; subst hv
              simp [execOp, hop, resolve, hc, e1, invoke, builtin, Builtin.len_, e2, hd, goInt]
            · rename_i r
              split at hv
              · rename_i es clock he
                simp only [Option.some.injEq] at hv; subst hv
                have hg : (getObj r).run P w = .ok (.map es clock) w := by simp [getObj, Sem.run, he]
                simp [execOp, hop, resolve, hc, e1, invoke, builtin, Builtin.len_, e2, hd, goInt, hg]
              · cases hv
            · cases hv
          · cases h
        · cases h
      · cases h
    · rename_i u u' hc h1
      simp only [Option.some.injEq] at h; subst h
      simp only [Ex.at] at hv
      have e1 : c.args.map a.eval = #[u, u'] := by apply Array.ext'; simp [ha.evs h1]
      unfold minV at hv
      split at hv
      · simp only [Option.some.injEq] at hv; subst hv
        simp [execOp, hop, resolve, hc, e1, invoke, builtin, Builtin.min_, Builtin.min2]
      · cases hv
    · rename_i u u' hc h1
      simp only [Option.some.injEq] at h; subst h
      simp only [Ex.at] at hv
      have e1 : c.args.map a.eval = #[u, u'] := by apply Array.ext'; simp [ha.evs h1]
      unfold maxV at hv
      split at hv
      · simp only [Option.some.injEq] at hv; subst hv
        simp [execOp, hop, resolve, hc, e1, invoke, builtin, Builtin.max_, Builtin.max2]
      · cases hv
    · cases h
  | _ => rw [hop] at h; simp only [exP] at h; cases h

end
end Go.Proofs.YtdoimhpmnmmffaaGreat

/- Triples on the heap for calls, and the operations that change memory: conditions that suffice for the machine's operation. No condition but that the tables are the program's. -/
namespace Go.Proofs.YtdoimhpmnmmffaaGreat
open Go

/-- a call of f, on every world with this heap: it returns as R says, or panics as X says; streams are as they were -/
def Runs (P : Program) (f : Nat) (args : List Value) (H : Heap) (R : Value → Heap → Prop) (X : List PanicEntry → Heap → Prop) : Prop :=
  ∀ w : World, w.heap = H → Calls P f args.toArray w fun en w' => w'.os = w.os ∧ w'.output = w.output ∧ match en with
    | .returned v => R v w'.heap
    | .panicked c => X c w'.heap
    | .outgrown => False

theorem Runs.mono {P : Program} {f : Nat} {args : List Value} {H : Heap} {R R' : Value → Heap → Prop} {X X' : List PanicEntry → Heap → Prop} (h : Runs P f args H R X)
    (hr : ∀ v H', R v H' → R' v H') (hx : ∀ c H', X c H' → X' c H') : Runs P f args H R' X' := fun w hw =>
  (h w hw).mono fun e w' he => by
    refine ⟨he.1, he.2.1, ?_⟩
    have h3 := he.2.2
    cases e with
    | returned v => exact hr _ _ h3
    | panicked c => exact hx _ _ h3
    | outgrown => exact h3

/-- a round of a loop over a function -/
def RunsR (P : Program) (l : Nat) (f : Nat) (tmps : Array Value) (assign body : Code) (H : Heap) (R : Value → Heap → Prop) (X : List PanicEntry → Heap → Prop) : Prop :=
  ∀ w : World, w.heap = H → RoundIn Fence.wide 0 P l f tmps assign body w fun en w' => w'.os = w.os ∧ w'.output = w.output ∧ match en with
    | .returned v => R v w'.heap
    | .panicked c => X c w'.heap
    | .outgrown => False

/-- a function value is called -/
def CallV (P : Program) (T : Tab) (fv : Value) (args : List Value) (H : Heap) (R : Value → Heap → Prop) (X : List PanicEntry → Heap → Prop) : Prop := match fv with
  | .func (.func f) first cap => T.fn f = true ∧ Runs P f (first.toList ++ args ++ cap.toList) H R X
  | .func (.yield l) first _ => first = #[] ∧ match H[l]? with
    | some (.loop r) => args.length = r.params.size ∧
      RunsR P l r.fn ((r.params.zip args.toArray).foldl (fun tmps (t, a) => tmps.setIfInBounds t a) r.tmps) r.assign r.body H R X
    | _ => False
  | _ => False

inductive Gt {α : Type} (o : Option α) (K : α → Prop) : Prop
  | mk (a : α) (h : o = some a) (k : K a)
inductive If (v : Value) (A B : Prop) : Prop
  | mk (b : Bool) (h : v = .bool b) (t : b = true → A) (f : b = false → B)
inductive Nw (o : Obj) (H : Heap) (K : Nat → Heap → Prop) : Prop
  | mk (k : K H.size (H.push o))
inductive Ca (P : Program) (f : Nat) (args : List Value) (H : Heap) (K : Value → Heap → Prop) (X : List PanicEntry → Heap → Prop) : Prop
  | mk (h : Runs P f args H K X)
inductive Cv (P : Program) (T : Tab) (fv : Value) (args : List Value) (H : Heap) (K : Value → Heap → Prop) (X : List PanicEntry → Heap → Prop) : Prop
  | mk (h : CallV P T fv args H K X)

/-- cells written in a row into a block without a mark -/
def stC (H : Heap) (b o : Nat) (vs : List Value) : Option Heap := match vs with
  | [] => some H
  | _ :: _ => match H[b]? with
    | some (.cells c t (0, 0)) => if o + vs.length ≤ c.size ∧ vs.all Value.oneCell' = true then some (H.setIfInBounds b (.cells (putL c.toList o vs).toArray t (0, 0))) else none
    | _ => none
def stV (n : Nat) (p v : Value) (H : Heap) : Option Heap := match p with
  | .pointer (some ⟨b, o, none⟩) => if v.cells.size = n then stC H b o v.cells.toList else none
  | _ => none
/-- the cells of what is appended, and how many elements they are -/
def srcC (size : Nat) (x : Value) (H : Heap) : Option (Nat × List Value) := match x with
  | .slice none n _ => some (n, [])
  | .slice (some ⟨b, o, none⟩) n _ => (rdn H b o (n * size)).map fun l => (n, l)
  | .string s => some (s.size, s.data.toList.map fun b => .int .u8 b.toNat)
  | _ => none
def stB (base : Option Addr) (k : Nat) (vs : List Value) (H : Heap) : Option Heap := match base with
  | none => some H
  | some ⟨b, o, none⟩ => stC H b (o + k) vs
  | _ => none
def srcB (base : Option Addr) (n : Nat) (H : Heap) : Option (List Value) := match base with
  | none => some []
  | some ⟨b, o, none⟩ => rdn H b o n
  | _ => none
inductive Ap (z size bytes : Nat) (zero s x : Value) (H : Heap) (K : Value → Heap → Prop) : Prop
  | mk (base : Option Addr) (n c m : Nat) (xs : List Value) (hs : s = .slice base n c) (hx : srcC size x H = some (m, xs))
      (room : n + m ≤ c → ∃ H', stB base (n * size) xs H = some H' ∧ K (.slice base (n + m) c) H')
      (grow : c < n + m → Builtin.nextslicecap (n + m) c * bytes ≤ 2 ^ 48 ∧ ∃ old, srcB base (n * size) H = some old ∧ ∀ cap, n + m ≤ cap →
        K (.slice (some ⟨H.size, 0, none⟩) (n + m) cap) (H.push (.cells (old.toArray ++ xs.toArray ++ Builtin.zeroCells zero.cells (cap - (n + m))) z (0, 0))))

def bsV (size n : Nat) (zero : Value) (parts : List (Nat × Value)) : Option (List Value) :=
  filL ((List.range n).map fun i => (i * size, size)) ((Array.range (n * size)).map (zero.cells[· % zero.cells.size]!)).toList parts
def mkV (bytes : Nat) (l c : Value) : Option (Nat × Nat) := match l, c with
  | .int .i64 l, .int .i64 c => if 0 ≤ l ∧ l ≤ c ∧ c * bytes ≤ 2 ^ 48 ∧ c < 2 ^ 62 then some (l.toNat, c.toNat) else none
  | _, _ => none
def muV (kd : TypeDesc) (m k v : Value) (H : Heap) : Option Heap := match m with
  | .map (some r) => match H[r]? with
    | some (.map es clock) => match Instr.findNow kd k es.toList 0 with
      | some (some (i, _)) => if Instr.sameBits 10000 (((es[i]?).map (·.key)).getD k) k = true then some (H.setIfInBounds r (.map (es.modify i fun e => { e with key := k, val := v }) clock)) else none
      | some none => some (H.setIfInBounds r (.map (es.push { key := k, val := v, born := clock }) (clock + 1)))
      | none => none
    | _ => none
  | _ => none
def dlV (kd : TypeDesc) (m k : Value) (H : Heap) : Option Heap := match m with
  | .map none => some H
  | .map (some r) => match H[r]? with
    | some (.map es clock) => match Instr.findNow kd k es.toList 0 with
      | some (some (i, _)) => some (H.setIfInBounds r (.map (es.eraseIdxIfInBounds i) clock))
      | some none => some (H.setIfInBounds r (.map es clock))
      | none => none
    | _ => none
  | _ => none
/-- the method that is called: the function, and the pointer that it is called on -/
def ivV (T : Tab) (name : String) (recv : Value) : Option (Nat × Value) := match recv with
  | .iface t (.pointer (some a)) => match T.me t name with
    | some f => some (f, .pointer (some a))
    | none => none
  | _ => none
/-- the iterator that a range over a map is given -/
def rgV (m : Value) (H : Heap) : Option Obj := match m with
  | .map none => some (.mapIter none 0 #[] 0)
  | .map (some r) => match H[r]? with
    | some (.map _ clock) => some (.mapIter (some r) clock #[] clock)
    | _ => none
  | _ => none
/-- the next entry of a map that is not changed while it is ranged over -/
inductive Nx (it : Value) (H : Heap) (K : Value → Heap → Prop) : Prop
  | none (r : Nat) (since last : Nat) (seen : Array Nat) (sp : Option Nat) (hi : it = .pointer (some ⟨r, 0, sp⟩)) (hr : H[r]? = some (.mapIter .none since seen last)) (k : K (.tuple #[.bool false]) H)
  | some (r m since clock : Nat) (seen : Array Nat) (sp : Option Nat) (es : Array MapEntry) (hi : it = .pointer (some ⟨r, 0, sp⟩)) (hr : H[r]? = some (.mapIter (some m) since seen clock)) (hm : H[m]? = some (.map es clock))
      (hb : ∀ e ∈ es.toList, e.born < since) (hc : ∀ e ∈ es.toList, e.born < clock)
      (more : ∀ e ∈ es.toList, e.born ∉ seen.toList → K (.tuple #[.bool true, e.key, e.val]) (H.setIfInBounds r (.mapIter (some m) since (seen.push e.born) clock)))
      (over : (∀ e ∈ es.toList, e.born ∈ seen.toList) → K (.tuple #[.bool false]) H)
end Go.Proofs.YtdoimhpmnmmffaaGreat

/- The operations that change memory: each law says that the condition of Vc7 suffices for the machine's operation. No condition but that the tables are the program's. -/
namespace Go.Proofs.YtdoimhpmnmmffaaGreat
open Go

section
variable {P : Program} {T : Tab} (hT : TabOk P T)

/-- what is asked of an operation's result -/
def Upon (P : Program) (w0 : World) (K : Value → Heap → Prop) (X : List PanicEntry → Heap → Prop) : Result Next → Prop
  | .ok (.value v) w' => w'.os = w0.os ∧ w'.output = w0.output ∧ K v w'.heap
  | .ok .skip w' => w'.os = w0.os ∧ w'.output = w0.output ∧ K undef w'.heap
  | .ok (.enter f args) w' => w'.os = w0.os ∧ w'.output = w0.output ∧ Runs P f args.toList w'.heap K X
  | .ok (.round l f tmps assign body) w' => w'.os = w0.os ∧ w'.output = w0.output ∧ RunsR P l f tmps assign body w'.heap K X
  | .halt (.panic v) w' => w'.os = w0.os ∧ w'.output = w0.output ∧ X [{ v, recovered := false }] w'.heap
  | _ => False

theorem upon_val {w w' : World} {K : Value → Heap → Prop} {X : List PanicEntry → Heap → Prop} {s : Sem Value} {v : Value} (hs : s.run P w = .ok v w') (ho : w'.os = w.os) (hp : w'.output = w.output)
    (hk : K v w'.heap) : Upon P w K X ((do pure (Next.value (← s)) : Sem Next).run P w) := by
  simp only [Sem.run_bind, hs, Result.andThen_ok, Sem.run_pure]; exact ⟨ho, hp, hk⟩
theorem upon_unit {w w' : World} {K : Value → Heap → Prop} {X : List PanicEntry → Heap → Prop} {s : Sem Unit} (hs : s.run P w = .ok () w') (ho : w'.os = w.os) (hp : w'.output = w.output)
    (hk : K undef w'.heap) : Upon P w K X ((do s; pure Next.skip : Sem Next).run P w) := by
  simp only [Sem.run_bind, hs, Result.andThen_ok, Sem.run_pure]; exact ⟨ho, hp, hk⟩

/-- the world with another heap -/
def wh (w : World) (H : Heap) : World := { w with heap := H }

theorem stC_run : ∀ (vs : List Value) (i : Nat) (w : World) (b o : Nat) (c : Array Value) (t : TypeId), w.heap[b]? = some (.cells c t (0, 0)) → o + i + vs.length ≤ c.size → vs.all Value.oneCell' = true →
    (storeCells ⟨b, o, none⟩ vs i).run P w = .ok () (wh w (w.heap.setIfInBounds b (.cells (putL c.toList (o + i) vs).toArray t (0, 0))))
  | [], i, w, b, o, c, t, hb, _, _ => by
    have e : putL c.toList (o + i) [] = c.toList := by simp [putL]
    have : w.heap.setIfInBounds b (.cells c t (0, 0)) = w.heap := by
      obtain ⟨hlt, hg⟩ := Array.getElem?_eq_some_iff.1 hb
      apply Array.ext_getElem?
      intro j
      rw [Array.getElem?_setIfInBounds]
      split
      · rename_i hj; subst hj; rw [hb]
      · rfl
    simp only [storeCells, Sem.run_pure, e, Array.toArray_toList, this, wh]
  | v :: vs, i, w, b, o, c, t, hb, hl, hv => by
    simp only [List.length_cons] at hl
    simp only [List.all_cons, Bool.and_eq_true] at hv
    have hlt : b < w.heap.size := (Array.getElem?_eq_some_iff.1 hb).1
    have hcell : w.cell? ⟨b, o + i, none⟩ = some (c[o + i]'(by omega)) := by
      simp [World.cell?, hb, Array.getElem?_eq_getElem (show o + i < c.size by omega)]
    have hfr : w.frozen? ⟨b, o + i, none⟩ = false := by simp [World.frozen?, hb]
    have hset : w.setCell ⟨b, o + i, none⟩ v = wh w (w.heap.setIfInBounds b (.cells (c.setIfInBounds (o + i) v) t (0, 0))) := by
      unfold World.setCell wh
      congr 1
      apply Array.ext_getElem?
      intro j
      rw [Array.getElem?_modify, Array.getElem?_setIfInBounds]
      split
      · rename_i hj; subst hj
        rw [hb]; simp
      · rfl
    simp only [storeCells, Sem.run_bind, addr_add, run_store P w _ v _ hv.1, hcell, hfr, Bool.false_eq_true, if_false, Result.andThen_ok, hset]
    have hb' : (wh w (w.heap.setIfInBounds b (.cells (c.setIfInBounds (o + i) v) t (0, 0)))).heap[b]? = some (.cells (c.setIfInBounds (o + i) v) t (0, 0)) := by
      simp [wh, hlt]
    rw [stC_run vs (i + 1) _ b o _ t hb' (by simp; omega) hv.2]
    congr 1
    unfold wh
    congr 1
    simp only [Array.setIfInBounds_setIfInBounds, Array.toList_setIfInBounds]
    rw [← putL_set c.toList (o + i) v vs (by simp; omega)]
    have : o + (i + 1) = o + i + 1 := by omega
    rw [this]

theorem stC_ok {H' : Heap} {b o : Nat} {vs : List Value} {w : World} (h : stC w.heap b o vs = some H') : (storeCells ⟨b, o, none⟩ vs 0).run P w = .ok () (wh w H') := by
  unfold stC at h
  split at h
  · simp only [Option.some.injEq] at h; subst h; simp [storeCells, wh]
  · split at h
    · rename_i c t hb
      split at h
      · rename_i hc
        simp only [Option.some.injEq] at h; subst h
        exact stC_run _ 0 w b o c t hb (by simpa using hc.1) hc.2
      · cases h
    · cases h

include hT in
theorem stV_ok {t : TypeId} {i : TI} (hi : T.ty t = some i) {p v : Value} {w : World} {H' : Heap} (h : stV i.size p v w.heap = some H') : (Instr.storeAt t p v).run P w = .ok () (wh w H') := by
  unfold stV at h
  split at h
  · rename_i b o
    split at h
    · rename_i hs
      have := stC_ok (P := P) h
      unfold Instr.storeAt storeVar
      simp [Instr.sureAddr, hT.sizeOf hi, hs, this]
    · cases h
  · cases h

include hT in
theorem bsV_ok {t e : TypeId} {i j : TI} (hi : T.ty t = some i) (hd : i.desc = .slice e) (hj : T.ty e = some j) {n : Nat} (hn : n * j.size ≤ 2 ^ 24) {parts : List (Nat × Value)} {cs : List Value}
    (h : bsV j.size n j.zero parts = some cs) (w : World) :
    (Instr.buildSlice t n parts.toArray).run P w = .ok (.slice (some ⟨w.heap.size, 0, none⟩) n n) (wh w (w.heap.push (.cells cs.toArray e (0, 0)))) := by
  unfold bsV at h
  have hu := hT.und (P := P) hi w
  rw [hd] at hu
  unfold Instr.buildSlice
  simp only [Sem.run_bind, hu, Result.andThen_ok, hT.sizeOf hj]
  rw [if_neg (by omega)]
  have key : ∀ z : Array Value, (Array.range (n * j.size)).map (z[· % z.size]!) = (Array.range (n * j.size)).map (j.zero.cells[· % j.zero.cells.size]!) →
      (Instr.fill (fun i => some (i * j.size, j.size)) ((Array.range (n * j.size)).map (z[· % z.size]!)) parts) = some cs.toArray := by
    intro z hz'
    rw [hz']
    have hf : ∀ (parts : List (Nat × Value)) (cells : Array Value) (l : List Value), filL ((List.range n).map fun i => (i * j.size, j.size)) cells.toList parts = some l →
        Instr.fill (fun i => some (i * j.size, j.size)) cells parts = some l.toArray := by
      intro parts
      induction parts with
      | nil => intro cells l hl; simp only [filL, Option.some.injEq] at hl; subst hl; simp [Instr.fill]
      | cons p rest ih =>
        obtain ⟨q, v⟩ := p
        intro cells l hl
        unfold filL at hl
        unfold Instr.fill
        split at hl
        · cases hl
        · rename_i off size hp
          simp only [List.getElem?_map, Option.map_eq_some_iff, Prod.mk.injEq] at hp
          obtain ⟨q', hq, rfl, rfl⟩ := hp
          have hq' : q' = q := by
            have := List.getElem?_eq_some_iff.1 hq
            simp at this; exact this.2.symm
          subst hq'
          split at hl
          · rename_i hc
            obtain ⟨hc1, hc2⟩ := hc
            simp only [hc1]
            have hc2' : q' * j.size + j.size ≤ cells.size := by simpa using hc2
            have hn : (decide (j.size ≠ j.size) || decide (q' * j.size + j.size > cells.size)) = false := by simp; omega
            rw [if_neg (by rw [hn]; simp)]
            refine ih _ l ?_
            have := fill_fold (q' * j.size) v.cells.toList 0 cells (by simp [hc1]; omega)
            simp only [Nat.add_zero] at this
            rw [← Array.foldl_toList, Array.toList_zipIdx, this]
            exact hl
          · cases hl
    exact hf parts _ cs h
  by_cases h0 : n * j.size = 0
  · have := key #[] (by simp [h0])
    simp only [h0, if_true]
    rw [h0] at this
    simp only [this, Sem.run_bind, newRow, run_newObj, Result.andThen_ok, Sem.run_pure]
    rfl
  · have := key j.zero.cells rfl
    simp only [h0, if_false, Sem.run_bind, hT.zero hj, Result.andThen_ok, Sem.run_pure, this, newRow, run_newObj]
    rfl

theorem i64_id {n : Int} (h0 : -9223372036854775808 ≤ n) (h1 : n ≤ 9223372036854775807) : IntKind.i64.wrap n = n := by
  rw [IntKind.wrap_i64]; omega

include hT in
theorem mkV_ok {t e : TypeId} {i j : TI} (hi : T.ty t = some i) (hd : i.desc = .slice e) (hj : T.ty e = some j) {l c : Value} {m n : Nat} (h : mkV j.bytes l c = some (m, n)) (w : World) :
    (Instr.makeSlice t l c).run P w = .ok (.slice (some ⟨w.heap.size, 0, none⟩) m n) (wh w (w.heap.push (.cells ((Array.range (n * j.size)).map (j.zero.cells[· % j.zero.cells.size]!)) e (0, 0)))) := by
  unfold mkV at h
  split at h
  · rename_i l c
    split at h
    · rename_i hc
      obtain ⟨h0, h1, h2, h3⟩ := hc
      simp only [Option.some.injEq, Prod.mk.injEq] at h
      obtain ⟨rfl, rfl⟩ := h
      have hu := hT.und (P := P) hi w
      rw [hd] at hu
      obtain ⟨inf, hb1, hb2⟩ := hT.bytes (P := P) hj w
      have e1 : IntKind.i64.wrap l = l := i64_id (by omega) (by omega)
      have e2 : IntKind.i64.wrap c = c := i64_id (by omega) (by omega)
      have e3 : (j.bytes : Int) * c = c * j.bytes := Int.mul_comm _ _
      have e4 : (decide (c < 0) || decide ((j.bytes : Int) * c > 2 ^ 48)) = false := by
        simp only [Bool.or_eq_false_iff, decide_eq_false_iff_not]
        exact ⟨by omega, by rw [e3]; omega⟩
      have e5 : decide (l < 0) = false := by simp; omega
      have e6 : decide (l > c) = false := by simp; omega
      unfold Instr.makeSlice
      simp only [Sem.run_bind, hu, Result.andThen_ok, asInt, asIntOf, Sem.run_pure, hb1, hb2, e1, e2, e4, e5, e6, Bool.or_self, Bool.false_eq_true, if_false, run_askRoom, hT.sizeOf hj]
      by_cases hz : c.toNat * j.size = 0
      · have hm : ∀ f : Nat → Value, (Array.range 0).map f = #[] := fun f => by simp
        simp only [hz, if_true, Sem.run_pure, Result.andThen_ok, newRow, Sem.run_bind, run_newObj, hm]
        rfl
      · simp only [hz, if_false, Sem.run_bind, hT.zero hj, Sem.run_pure, Result.andThen_ok, newRow, run_newObj]
        rfl
    · cases h
  · cases h

end
end Go.Proofs.YtdoimhpmnmmffaaGreat

/- Maps that are written, slices that are appended to, ranges over maps: each law says that the condition of Vc7 suffices. No condition but that the tables are the program's. -/
namespace Go.Proofs.YtdoimhpmnmmffaaGreat
open Go

section
variable {P : Program} {T : Tab} (hT : TabOk P T)

theorem getObj_run {w : World} {r : Nat} {o : Obj} (h : w.heap[r]? = some o) (hc : ∀ c e f, o ≠ .cells c e f) : (getObj r).run P w = .ok o w := by
  simp only [getObj, Sem.run, h]
theorem setObj_run {w : World} {r : Nat} {o o' : Obj} (h : w.heap[r]? = some o) (hc : ∀ c e f, o ≠ .cells c e f) : (setObj r o').run P w = .ok () (wh w (w.heap.setIfInBounds r o')) := by
  simp only [setObj, Sem.run, h]; rfl

theorem getMap_run {w : World} {r : Nat} {es : Array MapEntry} {c : Nat} (h : w.heap[r]? = some (.map es c)) : (getObj r).run P w = .ok (.map es c) w := by simp only [getObj, Sem.run, h]
theorem setMap_run {w : World} {r : Nat} {es : Array MapEntry} {c : Nat} {o' : Obj} (h : w.heap[r]? = some (.map es c)) : (setObj r o').run P w = .ok () (wh w (w.heap.setIfInBounds r o')) := by
  simp only [setObj, Sem.run, h]; rfl
theorem getIter_run {w : World} {r : Nat} {m : Option Nat} {s l : Nat} {q : Array Nat} (h : w.heap[r]? = some (.mapIter m s q l)) : (getObj r).run P w = .ok (.mapIter m s q l) w := by simp only [getObj, Sem.run, h]
theorem setIter_run {w : World} {r : Nat} {m : Option Nat} {s l : Nat} {q : Array Nat} {o' : Obj} (h : w.heap[r]? = some (.mapIter m s q l)) : (setObj r o').run P w = .ok () (wh w (w.heap.setIfInBounds r o')) := by
  simp only [setObj, Sem.run, h]; rfl

include hT in
theorem muV_ok {t kt vt : TypeId} {i ik : TI} (hi : T.ty t = some i) (hd : i.desc = .map kt vt) (hk : T.ty kt = some ik) (hp : plainKey ik.desc = true) {m k v : Value} {w : World} {H' : Heap}
    (h : muV ik.desc m k v w.heap = some H') : (Instr.mapUpdate t m k v).run P w = .ok () (wh w H') := by
  have hkd := (hT.ty kt ik hk).1
  have hu := hT.und (P := P) hi w
  rw [hd] at hu
  unfold muV at h
  unfold Instr.mapUpdate
  simp only [Sem.run_bind, hu, Result.andThen_ok]
  split at h
  · rename_i r
    split at h
    · rename_i es clock he
      simp only [Sem.run_bind, getMap_run he, Result.andThen_ok, checkKey_plain hkd hp, Instr.findKey, run_underlying' hkd]
      split at h
      · rename_i j u hf
        split at h
        · rename_i hsb
          simp only [Option.some.injEq] at h; subst h
          simp only [hf, Sem.run_pure, Result.andThen_ok, Sem.run_bind, Instr.keyThatStays, hsb, if_true, setMap_run he]
        · cases h
      · rename_i hf
        simp only [Option.some.injEq] at h; subst h
        simp only [hf, Sem.run_pure, Result.andThen_ok, setMap_run he]
      · cases h
    · cases h
  · cases h

include hT in
theorem dlV_ok {t kt vt : TypeId} {i ik : TI} (hi : T.ty t = some i) (hd : i.desc = .map kt vt) (hk : T.ty kt = some ik) (hp : plainKey ik.desc = true) {m k : Value} {w : World} {H' : Heap} {ats : Array TypeId} {ty : TypeId} (ha : ats[0]? = some t)
    (h : dlV ik.desc m k w.heap = some H') : (Builtin.delete_ ats ty #[m, k]).run P w = .ok (.tuple #[]) (wh w H') := by
  have hkd := (hT.ty kt ik hk).1
  have hu := hT.und (P := P) hi w
  rw [hd] at hu
  unfold dlV at h
  unfold Builtin.delete_
  have e0 : (#[m, k] : Array Value)[0]? = some m := rfl
  have e1 : (#[m, k] : Array Value)[1]? = some k := rfl
  simp only [ha, e0, e1, Sem.run_bind, hu, Result.andThen_ok]
  split at h
  · simp only [Option.some.injEq] at h; subst h
    simp only [Sem.run_bind, checkKey_plain hkd hp, Result.andThen_ok, Sem.run_pure]; rfl
  · rename_i r
    split at h
    · rename_i es clock he
      simp only [Sem.run_bind, getMap_run he, Result.andThen_ok, checkKey_plain hkd hp, Instr.findKey, run_underlying' hkd]
      split at h
      · rename_i j u hf
        simp only [Option.some.injEq] at h; subst h
        simp only [hf, Sem.run_pure, Result.andThen_ok, Sem.run_bind, setMap_run he]
      · rename_i hf
        simp only [Option.some.injEq] at h; subst h
        simp only [hf, Sem.run_pure, Result.andThen_ok, Sem.run_bind, setMap_run he]
      · cases h
    · cases h
  · cases h

theorem srcC_len {size : Nat} {x : Value} {H : Heap} {m : Nat} {xs : List Value} (h : srcC size x H = some (m, xs)) (w : World) : (Builtin.lenOf x).run P w = .ok m w := by
  unfold srcC at h
  split at h
  · simp only [Option.some.injEq, Prod.mk.injEq] at h; obtain ⟨rfl, rfl⟩ := h; rfl
  · simp only [Option.map_eq_some_iff, Prod.mk.injEq] at h; obtain ⟨l, _, rfl, rfl⟩ := h; rfl
  · simp only [Option.some.injEq, Prod.mk.injEq] at h; obtain ⟨rfl, rfl⟩ := h; rfl
  · cases h

theorem srcC_cells {size : Nat} {x : Value} {m : Nat} {xs : List Value} {w : World} (h : srcC size x w.heap = some (m, xs)) : (Builtin.firstCells size m x).run P w = .ok xs.toArray w := by
  unfold srcC at h
  split at h
  · simp only [Option.some.injEq, Prod.mk.injEq] at h; obtain ⟨rfl, rfl⟩ := h; rfl
  · rename_i b o n _
    simp only [Option.map_eq_some_iff, Prod.mk.injEq] at h; obtain ⟨l, hl, rfl, rfl⟩ := h
    have := run_loadFrom P w b o (n * size) 0 #[] l hl
    simp only [Builtin.firstCells, loadCells, this]; simp
  · rename_i s
    simp only [Option.some.injEq, Prod.mk.injEq] at h; obtain ⟨rfl, rfl⟩ := h
    simp only [Builtin.firstCells, Sem.run_pure]
    congr 1
    have : s.extract 0 s.size = s := by simp [ByteArray.extract_zero_size]
    rw [this]
    apply Array.ext'
    simp
  · cases h

theorem srcB_cells {size n c : Nat} {base : Option Addr} {old : List Value} {w : World} (h : srcB base (n * size) w.heap = some old) : (Builtin.firstCells size n (.slice base n c)).run P w = .ok old.toArray w := by
  unfold srcB at h
  split at h
  · simp only [Option.some.injEq] at h; subst h; rfl
  · rename_i b o
    have := run_loadFrom P w b o (n * size) 0 #[] old h
    simp only [Builtin.firstCells, loadCells, this]; simp
  · cases h

def apDesc (d : TypeDesc) : Bool := match d with
  | .slice _ => true
  | .string => true
  | _ => false

include hT in
theorem ap_ok {t z : TypeId} {i j : TI} (hi : T.ty t = some i) (hd : i.desc = .slice z) (hj : T.ty z = some j) (hb0 : j.bytes ≠ 0) {ty : TypeId}
    {t2 : TypeId} {i2 : TI} (hi2 : T.ty t2 = some i2) (hn2 : apDesc i2.desc = true)
    {s x : Value} {w : World} {K : Value → Heap → Prop} {X : List PanicEntry → Heap → Prop} (h : Ap z j.size j.bytes j.zero s x w.heap K) :
    Upon P w K X ((do pure (Next.value (← Builtin.append_ #[t, t2] ty #[s, x])) : Sem Next).run P w) := by
  obtain ⟨base, n, c, m, xs, rfl, hx, room, grow⟩ := h
  have hu := (hT.ty t i hi).1
  rw [hd] at hu
  have hu2 := (hT.ty t2 i2 hi2).1
  obtain ⟨inf, hb1, hb4, hb5, hb2⟩ := (hT.ty z j hj).2
  have hl := srcC_len hx (P := P) w
  have hc := srcC_cells hx (P := P)
  by_cases hr : n + m ≤ c
  · obtain ⟨H', hs, hk⟩ := room hr
    refine upon_val (w' := wh w H') (v := .slice base (n + m) c) ?_ rfl rfl hk
    have hst : (do if let some a := base then storeCells (a.add (n * j.size)) xs else pure () : Sem Unit).run P w = .ok () (wh w H') := by
      unfold stB at hs
      split at hs
      · simp only [Option.some.injEq] at hs; subst hs; rfl
      · rename_i b o
        have := stC_ok (P := P) hs
        simp only [addr_add, this]
      · cases hs
    cases hdd : i2.desc <;> rw [hdd] at hn2 hu2 <;> first
      | (cases hn2; done)
      | (cases base with
         | none => simp only at hst; simp [Builtin.append_, run_underlying' hu, run_underlying' hu2, hT.sizeOf hj, hl, hr, hc]; simpa using hst
         | some a => simp only at hst; simp [Builtin.append_, run_underlying' hu, run_underlying' hu2, hT.sizeOf hj, hl, hr, hc, hst])
  · obtain ⟨hcap, old, ho, hk⟩ := grow (by omega)
    have hcap' : ¬ (281474976710656 < Builtin.nextslicecap (n + m) c * j.bytes) := by omega
    have has : ∀ q : Array Value, old.toArray ++ (xs.toArray ++ q) = (old ++ xs).toArray ++ q := fun q => by apply Array.ext'; simp [List.append_assoc]
    have hc1 := srcC_cells (w := w.drew) hx (P := P)
    have hc2 := srcB_cells (w := w.drew) (c := c) ho (P := P)
    have hcp : n + m ≤ (Question.appendCap (n + m) c z).cut (w.tape w.drawn (.appendCap (n + m) c z)) := by simp only [Question.cut]; omega
    refine upon_val (w' := wh w.drew (w.heap.push (.cells (old.toArray ++ xs.toArray ++ Builtin.zeroCells j.zero.cells ((Question.appendCap (n + m) c z).cut (w.tape w.drawn (.appendCap (n + m) c z)) - (n + m))) z (0, 0))))
      (v := .slice (some ⟨w.heap.size, 0, none⟩) (n + m) ((Question.appendCap (n + m) c z).cut (w.tape w.drawn (.appendCap (n + m) c z)))) ?_ rfl rfl (hk _ hcp)
    cases hdd : i2.desc <;> rw [hdd] at hn2 hu2 <;> first
      | (cases hn2; done)
      | (simp [Builtin.append_, run_underlying' hu, run_underlying' hu2, sizeOf, typeInfo, zeroValue, hb1, hb4, hb5, hb2, hb0, hl, hr, hcap', Question.forced, hc1, hc2, newRow]
         rw [has]; rfl)

/-- a range over a map: the iterator -/
theorem rgV_ok {t kt vt : TypeId} (hu : P.underlying t = some (.map kt vt)) {m : Value} {o : Obj} {w : World} (h : rgV m w.heap = some o) :
    (Instr.range t m).run P w = .ok (.pointer (some ⟨w.heap.size, 0, none⟩)) (wh w (w.heap.push o)) := by
  unfold rgV at h
  unfold Instr.range
  simp only [Sem.run_bind, run_underlying' hu, Result.andThen_ok]
  split at h
  · simp only [Option.some.injEq] at h; subst h
    rfl
  · split at h
    · rename_i r _ es clock he
      simp only [Option.some.injEq] at h; subst h
      simp only [Sem.run_bind, getMap_run he, Sem.run_pure, Result.andThen_ok, run_newObj]; rfl
    · cases h
  · cases h

theorem nx_ok {it : Value} {w : World} {K : Value → Heap → Prop} {X : List PanicEntry → Heap → Prop} {ty : TypeId} (h : Nx it w.heap K) :
    Upon P w K X ((do pure (Next.value (← Instr.next it false ty)) : Sem Next).run P w) := by
  cases h with
  | none r since last seen sp hi hr k =>
    subst hi
    refine upon_val (w' := w) (v := .tuple #[.bool false]) ?_ rfl rfl k
    unfold Instr.next
    simp only [Sem.run_bind, getIter_run hr, Result.andThen_ok, Sem.run_pure]
  | some r m since clock seen sp es hi hr hm hb hc more over =>
    subst hi
    have hall : (!seen.isEmpty && !es.isEmpty && es.all (·.born ≥ clock)) = false := by
      by_cases he : es.isEmpty = true
      · simp [he]
      · have : es.all (·.born ≥ clock) = false := by
          rw [Bool.eq_false_iff]
          intro hal
          rw [Array.all_eq_true] at hal
          have hpos : 0 < es.size := by
            rcases Nat.eq_zero_or_pos es.size with h0 | h0
            · exfalso; apply he; simp [Array.isEmpty, h0]
            · exact h0
          have h1 := hal 0 hpos
          have h2 := hc es[0] (by simp)
          simp at h1; omega
        simp [this]
    have hold : (es.filter fun e => !seen.contains e.born).filter (·.born < since) = es.filter fun e => !seen.contains e.born := by
      apply Array.filter_eq_self.2
      intro e he
      have := (Array.mem_filter.1 he).1
      simpa using hb e (by simpa using this)
    have hnew : (es.filter fun e => !seen.contains e.born).filter (·.born ≥ since) = #[] := by
      apply Array.filter_eq_empty_iff.2
      intro e he
      have := (Array.mem_filter.1 he).1
      have := hb e (by simpa using this)
      simp; omega
    generalize hleft : (es.filter fun e => !seen.contains e.born) = left at hold hnew
    unfold Instr.next
    simp only [Sem.run_bind, getIter_run hr, getMap_run hm, Result.andThen_ok, hall, Bool.false_eq_true, if_false, hleft, hold, hnew, Array.append_empty, run_choose, Sem.run_pure]
    by_cases h0 : left.isEmpty = true
    · have hl : left = #[] := by simpa using h0
      subst hl
      simp only [Array.isEmpty_empty, if_true]
      simp only [List.map_toArray, List.map_nil, Array.append_empty, List.size_toArray, List.length_cons, List.length_nil, Question.forced, Nat.le_refl, decide_true]
      refine ⟨rfl, rfl, over fun e he => ?_⟩
      have : e ∉ es.filter fun e => !seen.contains e.born := by rw [hleft]; simp
      rw [Array.mem_filter] at this
      simp only [not_and, Bool.not_eq_eq_eq_not] at this
      have := this (by simpa using he)
      simpa using this
    · have hpos : 0 < left.size := by
        rcases Nat.eq_zero_or_pos left.size with h1 | h1
        · exfalso; apply h0; simp [Array.isEmpty, h1]
        · exact h1
      simp only [h0, if_false, Array.empty_append, Array.size_map, Bool.false_eq_true]
      have key : ∀ (i : Nat) (w1 : World), w1.heap = w.heap → w1.os = w.os → w1.output = w.output → i < left.size →
          Upon P w K X (((match (left.map some)[i]? with
            | some (some e) => do
              setObj r (.mapIter (some m) since (seen.push e.born) clock)
              pure (.tuple #[.bool true, e.key, e.val])
            | some .none => pure (.tuple #[.bool false])
            | .none => stuck "Next: no such candidate" : Sem Value).run P w1).andThen fun a w' => (pure (Next.value a) : Sem Next).run P w') := by
        intro i w1 hh ho hp hi
        have e1 : (left.map some)[i]? = some (some left[i]) := by simp [hi]
        rw [e1]
        have hr' : w1.heap[r]? = some (.mapIter (some m) since seen clock) := by rw [hh]; exact hr
        simp only [Sem.run_bind, setIter_run hr', Result.andThen_ok, Sem.run_pure]
        refine ⟨ho, hp, ?_⟩
        have hmem : left[i] ∈ es.filter fun e => !seen.contains e.born := by rw [hleft]; simp
        rw [Array.mem_filter] at hmem
        have := more left[i] (by simpa using hmem.1) (by simpa using hmem.2)
        simp only [wh, hh]
        exact this
      split
      · exact key 0 w rfl rfl rfl hpos
      · refine key _ _ rfl rfl rfl ?_
        simp only [Question.cut]
        exact Nat.mod_lt _ hpos
end
end Go.Proofs.YtdoimhpmnmmffaaGreat

/- Every operation that changes memory, calls or panics: a condition 'vcE' that suffices for what the machine does. No condition but that the tables are the program's. -/
namespace Go.Proofs.YtdoimhpmnmmffaaGreat
open Go

def vcE (T : Tab) (P : Program) (o : Op) (e : Env) (H : Heap) (K : Value → Heap → Prop) (X : List PanicEntry → Heap → Prop) : Prop := match o with
  | .alloc t => match T.ty t with
    | some i => Nw (.cells i.zero.cells t (0, 0)) H fun b H' => K (.pointer (some ⟨b, 0, none⟩)) H'
    | none => False
  | .box t x => match ev e x with
    | some v => Nw (.cells v.cells t (0, 0)) H fun b H' => K (.pointer (some ⟨b, 0, none⟩)) H'
    | none => False
  | .buildSlice t n parts => match T.ty t, evp e parts.toList with
    | some i, some ps => match i.desc with
      | .slice z => match T.ty z with
        | some j => bif Nat.ble (n * j.size) 16777216 then Gt (bsV j.size n j.zero ps) fun cs => Nw (.cells cs.toArray z (0, 0)) H fun b H' => K (.slice (some ⟨b, 0, none⟩) n n) H' else False
        | none => False
      | _ => False
    | _, _ => False
  | .store t a x => match T.ty t, ev e a, ev e x with
    | some i, some p, some v => Gt (stV i.size p v H) fun H' => K undef H'
    | _, _, _ => False
  | .makeSlice t l c => match T.ty t, ev e l, ev e c with
    | some i, some lv, some cv => match i.desc with
      | .slice z => match T.ty z with
        | some j => Gt (mkV j.bytes lv cv) fun mn => Nw (.cells ((Array.range (mn.2 * j.size)).map (j.zero.cells[· % j.zero.cells.size]!)) z (0, 0)) H fun b H' => K (.slice (some ⟨b, 0, none⟩) mn.1 mn.2) H'
        | none => False
      | _ => False
    | _, _, _ => False
  | .makeMap _ none => Nw (.map #[] 0) H fun b H' => K (.map (some b)) H'
  | .mapUpdate t m k x => match T.ty t, ev e m, ev e k, ev e x with
    | some i, some mv, some kv, some v => match i.desc with
      | .map kt _ => match T.ty kt with
        | some ik => bif plainKey ik.desc then Gt (muV ik.desc mv kv v H) fun H' => K undef H' else False
        | none => False
      | _ => False
    | _, _, _, _ => False
  | .range t m => match T.ty t, ev e m with
    | some i, some mv => match i.desc with
      | .map _ _ => Gt (rgV mv H) fun o => Nw o H fun b H' => K (.pointer (some ⟨b, 0, none⟩)) H'
      | _ => False
    | _, _ => False
  | .next it false => match ev e it with
    | some v => Nx v H K
    | none => False
  | .panic x => match ev e x with
    | some v => match v with
      | .iface t u => X [{ v := .iface t u, recovered := false }] H
      | _ => False
    | none => False
  | .call c => match c.callee, evs e c.args.toList with
    | .value (.func f), some vs => bif T.fn f then Ca P f vs H K X else False
    | .value x, some vs => match ev e x with
      | some fv => Cv P T fv vs H K X
      | none => False
    | .invoke r name, some vs => match ev e r with
      | some rv => Gt (ivV T name rv) fun fp => Ca P fp.1 (fp.2 :: vs) H K X
      | none => False
    | .builtin .append, some [s, x] => match c.argTypes.toList with
      | [t, t2] => match T.ty t, T.ty t2 with
        | some i, some i2 => match i.desc with
          | .slice z => match T.ty z with
            | some j => bif apDesc i2.desc && !Nat.beq j.bytes 0 then Ap z j.size j.bytes j.zero s x H K else False
            | none => False
          | _ => False
        | _, _ => False
      | _ => False
    | .builtin .delete, some [m, k] => match c.argTypes.toList with
      | t :: _ => match T.ty t with
        | some i => match i.desc with
          | .map kt _ => match T.ty kt with
            | some ik => bif plainKey ik.desc then Gt (dlV ik.desc m k H) fun H' => K (.tuple #[]) H' else False
            | none => False
          | _ => False
        | none => False
      | _ => False
    | _, _ => False
  | _ => False

section
variable {P : Program} {T : Tab} (hT : TabOk P T)

theorem resolve_func (ρ : Operand → Value) (c : Call) (ty : TypeId) {x : Operand} (hc : c.callee = .value x) : resolve ρ c ty = Deferred.ofValue (ρ x) (c.args.map ρ) := by
  simp only [resolve, hc]

include hT in
theorem ca_ok {f : Nat} (hf : T.fn f = true) {vs : List Value} {args : Array Value} (ha : args.toList = vs) {w : World} {K : Value → Heap → Prop} {X : List PanicEntry → Heap → Prop} (h : Runs P f vs w.heap K X) :
    Upon P w K X ((callFunc f args).run P w) := by
  rw [hT.fn f hf]
  refine ⟨rfl, rfl, ?_⟩
  rw [ha]; exact h

include hT in
theorem cv_ok {fv : Value} {vs : List Value} {args : Array Value} (ha : args.toList = vs) {w : World} {K : Value → Heap → Prop} {X : List PanicEntry → Heap → Prop} (h : CallV P T fv vs w.heap K X) :
    Upon P w K X ((do let d ← Deferred.ofValue fv args; invoke d.target d.args : Sem Next).run P w) := by
  unfold CallV at h
  split at h
  · rename_i f first cap
    obtain ⟨hf, hr⟩ := h
    simp only [Deferred.ofValue, Sem.run_bind, Sem.run_pure, Result.andThen_ok, invoke]
    refine ca_ok hT hf ?_ hr
    simp [ha]
  · rename_i l first cap
    obtain ⟨hfst, h⟩ := h
    subst hfst
    split at h
    · rename_i r hl
      obtain ⟨hlen, hr⟩ := h
      simp only [Deferred.ofValue, Sem.run_bind, Sem.run_pure, Result.andThen_ok, invoke, Instr.yield, Instr.getLoop]
      have hg : (getObj l).run P w = .ok (.loop r) w := by simp only [getObj, Sem.run, hl]
      have ha2 : (#[] ++ args : Array Value) = args := by simp
      have hsz : args.size = r.params.size := by rw [← hlen, ← ha]; simp
      have ha3 : vs.toArray = args := by rw [← ha]
      rw [ha3] at hr
      simp only [hg, Result.andThen_ok, Sem.run_pure, ha2, hsz, ne_eq, not_true, if_false]
      exact ⟨rfl, rfl, hr⟩
    · exact h.elim
  · exact h.elim

include hT in
theorem vcE_sound {o : Oper} {e : Env} {a : Act} (ha : Mt e a) {w : World} {K : Value → Heap → Prop} {X : List PanicEntry → Heap → Prop} (h : vcE T P o.op e w.heap K X) :
    Upon P w K X ((execOp a.eval o).run P w) := by
  cases hop : o.op with
  | alloc t =>
    rw [hop] at h; simp only [vcE] at h
    split at h
    · rename_i i hi
      obtain ⟨k⟩ := h
      simp only [execOp, hop]
      refine upon_val (w' := wh w (w.heap.push (.cells i.zero.cells t (0, 0)))) (v := .pointer (some ⟨w.heap.size, 0, none⟩)) ?_ rfl rfl k
      simp only [Instr.alloc, Sem.run_bind, hT.zero hi, Result.andThen_ok, newVar, newRow, run_newObj, Sem.run_pure]; rfl
    · exact h.elim
  | box t x =>
    rw [hop] at h; simp only [vcE] at h
    split at h
    · rename_i v hv
      obtain ⟨k⟩ := h
      simp only [execOp, hop, ha.ev hv]
      refine upon_val (w' := wh w (w.heap.push (.cells v.cells t (0, 0)))) (v := .pointer (some ⟨w.heap.size, 0, none⟩)) ?_ rfl rfl k
      simp only [Instr.box, Sem.run_bind, Result.andThen_ok, newVar, newRow, run_newObj, Sem.run_pure]; rfl
    · exact h.elim
  | buildSlice t n parts =>
    rw [hop] at h; simp only [vcE] at h
    split at h
    · rename_i i ps hi hp
      split at h
      · rename_i z hz
        split at h
        · rename_i j hj
          cases hb : Nat.ble (n * j.size) 16777216 with
          | false => rw [hb] at h; exact h.elim
          | true =>
            rw [hb] at h; simp only [cond_true] at h
            obtain ⟨cs, hcs, ⟨k⟩⟩ := h
            have hb' := Nat.le_of_ble_eq_true hb
            have := bsV_ok hT hi hz hj (by omega) hcs w
            have e1 : (parts.map fun (x : Nat × Operand) => (x.1, a.eval x.2)) = ps.toArray := by apply Array.ext'; simp [ha.evp hp]
            simp only [execOp, hop]
            rw [e1]
            exact upon_val this rfl rfl k
        · exact h.elim
      · exact h.elim
    · exact h.elim
  | store t p x =>
    rw [hop] at h; simp only [vcE] at h
    split at h
    · rename_i i u v hi h1 h2
      obtain ⟨H', hs, k⟩ := h
      simp only [execOp, hop, ha.ev h1, ha.ev h2]
      exact upon_unit (stV_ok hT hi hs) rfl rfl k
    · exact h.elim
  | makeSlice t l c =>
    rw [hop] at h; simp only [vcE] at h
    split at h
    · rename_i i lv cv hi h1 h2
      split at h
      · rename_i z hz
        split at h
        · rename_i j hj
          obtain ⟨⟨m, n⟩, hmn, ⟨k⟩⟩ := h
          simp only [execOp, hop, ha.ev h1, ha.ev h2]
          exact upon_val (mkV_ok hT hi hz hj hmn w) rfl rfl k
        · exact h.elim
      · exact h.elim
    · exact h.elim
  | makeMap t r =>
    rw [hop] at h
    cases r with
    | some r => simp only [vcE] at h
    | none =>
      simp only [vcE] at h
      obtain ⟨k⟩ := h
      simp only [execOp, hop]
      refine upon_val (w' := wh w (w.heap.push (.map #[] 0))) (v := .map (some w.heap.size)) ?_ rfl rfl k
      rfl
  | mapUpdate t m k x =>
    rw [hop] at h; simp only [vcE] at h
    split at h
    · rename_i i mv kv v hi h1 h2 h3
      split at h
      · rename_i kt vt hz
        split at h
        · rename_i ik hk
          cases hp : plainKey ik.desc with
          | false => rw [hp] at h; exact h.elim
          | true =>
            rw [hp] at h; simp only [cond_true] at h
            obtain ⟨H', hs, kk⟩ := h
            simp only [execOp, hop, ha.ev h1, ha.ev h2, ha.ev h3]
            exact upon_unit (muV_ok hT hi hz hk hp hs) rfl rfl kk
        · exact h.elim
      · exact h.elim
    · exact h.elim
  | range t m =>
    rw [hop] at h; simp only [vcE] at h
    split at h
    · rename_i i mv hi h1
      split at h
      · rename_i kt vt hz
        obtain ⟨o', ho, ⟨k⟩⟩ := h
        simp only [execOp, hop, ha.ev h1]
        have hu := (hT.ty t i hi).1
        rw [hz] at hu
        exact upon_val (rgV_ok hu ho) rfl rfl k
      · exact h.elim
    · exact h.elim
  | next it b =>
    rw [hop] at h
    cases b with
    | true => simp only [vcE] at h
    | false =>
      simp only [vcE] at h
      split at h
      · rename_i v hv
        simp only [execOp, hop, ha.ev hv]
        exact nx_ok h
      · exact h.elim
  | panic x =>
    rw [hop] at h; simp only [vcE] at h
    split at h
    · rename_i v hv
      split at h
      · simp only [execOp, hop, ha.ev hv, Instr.panic, Sem.run_bind, run_goPanic, Result.andThen_halt]
        exact ⟨rfl, rfl, h⟩
      · exact h.elim
    · exact h.elim
  | call c =>
    rw [hop] at h; simp only [vcE] at h
    split at h
    · rename_i f vs hc hvs
      cases hf : T.fn f with
      | false => rw [hf] at h; exact h.elim
      | true =>
        rw [hf] at h; simp only [cond_true] at h
        obtain ⟨hr⟩ := h
        simp only [execOp, hop, resolve_func a.eval c o.type hc]
        have : a.eval (.func f) = .func (.func f) #[] #[] := rfl
        rw [this]
        refine cv_ok hT (vs := vs) (by simp [ha.evs hvs]) ⟨hf, by simpa using hr⟩
    · rename_i x vs hnf hc hvs
      split at h
      · rename_i fv hfv
        obtain ⟨hr⟩ := h
        simp only [execOp, hop, resolve_func a.eval c o.type hc, ha.ev hfv]
        exact cv_ok hT (vs := vs) (by simp [ha.evs hvs]) hr
      · exact h.elim
    · rename_i r name vs hc hvs
      split at h
      · rename_i rv hrv
        obtain ⟨⟨f, p⟩, hfp, ⟨hr⟩⟩ := h
        unfold ivV at hfp
        split at hfp
        · rename_i t ad
          split at hfp
          · rename_i f' hme
            simp only [Option.some.injEq, Prod.mk.injEq] at hfp
            obtain ⟨rfl, rfl⟩ := hfp
            obtain ⟨m1, _, m3⟩ := hT.me t name f' hme ad w
            simp only [execOp, hop, resolve, hc, Sem.run_bind, Sem.run_pure, Result.andThen_ok, invoke, ha.ev hrv]
            have e1 : (#[Value.iface t (.pointer (some ad))] ++ c.args.map a.eval)[0]? = some (.iface t (.pointer (some ad))) := by
              rw [Array.getElem?_append_left (by simp)]; rfl
            simp only [e1, callMethod, Sem.run_bind, run_program, Result.andThen_ok, m1]
            refine ca_ok hT m3 ?_ hr
            have e2 : c.args.toList.map a.eval = vs := ha.evs hvs
            simp only [Array.toList_append, ← e2]
            simp [List.take_of_length_le]
          · cases hfp
        · cases hfp
      · exact h.elim
    · rename_i s x hc hvs
      split at h
      · rename_i t t2 hts
        split at h
        · rename_i i i2 hi hi2
          split at h
          · rename_i z hz
            split at h
            · rename_i j hj
              cases hb : (apDesc i2.desc && !Nat.beq j.bytes 0) with
              | false => rw [hb] at h; exact h.elim
              | true =>
                rw [hb] at h; simp only [cond_true] at h
                simp only [Bool.and_eq_true, Bool.not_eq_true'] at hb
                have hb0 : j.bytes ≠ 0 := by intro e0; rw [e0] at hb; exact absurd hb.2 (by decide)
                have e1 : c.args.map a.eval = #[s, x] := by apply Array.ext'; simp [ha.evs hvs]
                have e2 : c.argTypes = #[t, t2] := by apply Array.ext'; simp [hts]
                simp only [execOp, hop, resolve, hc, Sem.run_bind, Sem.run_pure, Result.andThen_ok, invoke, builtin, e1, e2]
                exact (by simpa only [Sem.run_bind, Sem.run_pure] using ap_ok hT hi hz hj hb0 (ty := o.type) hi2 hb.1 h)
            · exact h.elim
          · exact h.elim
        · exact h.elim
      · exact h.elim
    · rename_i m k hc hvs
      split at h
      · rename_i t ts hts
        split at h
        · rename_i i hi
          split at h
          · rename_i kt vt hz
            split at h
            · rename_i ik hk
              cases hp : plainKey ik.desc with
              | false => rw [hp] at h; exact h.elim
              | true =>
                rw [hp] at h; simp only [cond_true] at h
                obtain ⟨H', hs, kk⟩ := h
                have e1 : c.args.map a.eval = #[m, k] := by apply Array.ext'; simp [ha.evs hvs]
                have e2 : c.argTypes[0]? = some t := by simp [← Array.getElem?_toList, hts]
                simp only [execOp, hop, resolve, hc, Sem.run_bind, Sem.run_pure, Result.andThen_ok, invoke, builtin, e1, dlV_ok hT hi hz hk hp e2 hs]
                exact ⟨rfl, rfl, kk⟩
            · exact h.elim
          · exact h.elim
        · exact h.elim
      · exact h.elim
    · exact h.elim
  | _ => rw [hop] at h; simp only [vcE] at h

end
end Go.Proofs.YtdoimhpmnmmffaaGreat

/- Straight-line code: a condition 'vcL' on a list of operations that suffices for the machine's run of them; guarded operations without effect come to one value. No condition but that the tables are the program's. -/
namespace Go.Proofs.YtdoimhpmnmmffaaGreat
open Go

def Wf (ro : Option Nat) : Fence := { fn := fun _ => True, depth := none, alive := false, round := ro }

section
variable {P : Program} {T : Tab}

theorem calls_wf {ro : Option Nat} {n : Nat} {f : Nat} {args : Array Value} {w : World} {R : Ending → World → Prop} (h : Calls P f args w R) : CallsIn (Wf ro) n P f args w R :=
  (callsIn_wide (n := n)).2 h
theorem round_wf {ro : Option Nat} {l f : Nat} {tmps : Array Value} {assign body : Code} {w : World} {R : Ending → World → Prop} (h : RoundIn Fence.wide 0 P l f tmps assign body w R) : RoundIn (Wf ro) 0 P l f tmps assign body w R := h

theorem upon_in {ro : Option Nat} {o : Oper} {a : Act} {w0 : World} {K : Value → Heap → Prop} {X : List PanicEntry → Heap → Prop} {r : Result Next} {next : Act → World → Prop} {Q : Exit → Act → World → Prop}
    (h : Upon P w0 K X r) (hn : ∀ v w', w'.os = w0.os → w'.output = w0.output → K v w'.heap → next (a.put o.dst v) w')
    (hx : ∀ c w', w'.os = w0.os → w'.output = w0.output → X c w'.heap → Q (.panic c) a w') : o.uponIn (Wf ro) 0 P a next Q r := by
  unfold Upon at h
  split at h
  · exact hn _ _ h.1 h.2.1 h.2.2
  · exact hn _ _ h.1 h.2.1 h.2.2
  · rename_i f args w'
    refine ⟨fun h => by simp [Wf] at h, calls_wf ?_⟩
    refine (h.2.2 w' rfl).mono fun en w'' he => ?_
    have h3 := he.2.2
    cases en with
    | returned v => exact hn _ _ (he.1.trans h.1) (he.2.1.trans h.2.1) h3
    | panicked c => exact hx _ _ (he.1.trans h.1) (he.2.1.trans h.2.1) h3
    | outgrown => exact h3.elim
  · rename_i l f tmps assign body w'
    refine ⟨fun h => by simp [Wf] at h, round_wf ?_⟩
    refine (h.2.2 w' rfl).mono fun en w'' he => ?_
    have h3 := he.2.2
    cases en with
    | returned v => exact hn _ _ (he.1.trans h.1) (he.2.1.trans h.2.1) h3
    | panicked c => exact hx _ _ (he.1.trans h.1) (he.2.1.trans h.2.1) h3
    | outgrown => exact h3.elim
  · exact hx _ _ h.1 h.2.1 h.2.2
  · exact h.elim

theorem exP_defer {o : Op} {e : Env} {ex : Ex} (h : exP T o e = some ex) : ∀ c, o ≠ .defer c := by
  intro c hc; subst hc; simp [exP] at h
theorem vcE_defer {o : Op} {e : Env} {H : Heap} {K : Value → Heap → Prop} {X : List PanicEntry → Heap → Prop} (h : vcE T P o e H K X) : ∀ c, o ≠ .defer c := by
  intro c hc; subst hc; simp [vcE] at h

theorem wp_gives {ro : Option Nat} {o : Oper} {a : Act} {w : World} {v : Value} {next : Act → World → Prop} {Q : Exit → Act → World → Prop} (hd : ∀ c, o.op ≠ .defer c) (h : Gives P o a v w) (hn : next (a.put o.dst v) w) :
    o.wpIn (Wf ro) 0 P a w next Q := by
  refine ⟨fun _ _ => trivial, ?_⟩
  rw [Oper.semAt_eq _ _ _ hd]
  unfold Gives at h
  rw [h]; exact hn

theorem wp_eff {ro : Option Nat} (hT : TabOk P T) {o : Oper} {e : Env} {a : Act} (ha : Mt e a) {w : World} {K : Value → Heap → Prop} {X : List PanicEntry → Heap → Prop} {next : Act → World → Prop} {Q : Exit → Act → World → Prop}
    (h : vcE T P o.op e w.heap K X) (hn : ∀ v w', w'.os = w.os → w'.output = w.output → K v w'.heap → next (a.put o.dst v) w')
    (hx : ∀ c w', w'.os = w.os → w'.output = w.output → X c w'.heap → Q (.panic c) a w') : o.wpIn (Wf ro) 0 P a w next Q := by
  refine ⟨fun _ _ => trivial, ?_⟩
  rw [Oper.semAt_eq _ _ _ (vcE_defer h)]
  exact upon_in (vcE_sound hT ha h) hn hx

/-! ### guards -/
def lkp (kn : List (Nat × Bool)) (d : Nat) : Option Bool := match kn with
  | [] => none
  | (t, b) :: r => bif Nat.beq t d then some b else lkp r d
def knx (kn : List (Nat × Bool)) (d : Option Nat) : List (Nat × Bool) := match d with
  | none => kn
  | some d => kn.filter fun x => !Nat.beq x.1 d
/-- a bool that is known -/
def bOf (kn : List (Nat × Bool)) (x : Operand) : Option Bool := match x with
  | .const (.bool b) => some b
  | .tmp t => lkp kn t
  | _ => none
def bopK (kn : List (Nat × Bool)) (o : Op) : Option Bool := match o with
  | .pick (.tmp c) a b => match lkp kn c with
    | some true => bOf kn a
    | some false => bOf kn b
    | none => none
  | .move x => bOf kn x
  | .assign x => bOf kn x
  | _ => none
def knv (kn : List (Nat × Bool)) (o : Oper) : List (Nat × Bool) := match o.dst with
  | none => kn
  | some d => match bopK kn o.op with
    | some b => (d, b) :: knx kn (some d)
    | none => knx kn (some d)
def put (e : Env) (d : Option Nat) (v : Value) : Env := match d with
  | none => e
  | some d => upd e d (some v)
inductive GS where
  | run
  | skip
  | ask (d : Nat)
  | bad
def gs (all : List Oper) (kn : List (Nat × Bool)) (o : Oper) : GS := match o.guard with
  | none => .run
  | some (j, want) => match (all[j]?).bind (·.dst) with
    | some d => match lkp kn d with
      | some b => bif b == want then .run else .skip
      | none => .ask d
    | none => .bad
/-- what an operation without effect comes to, with the guards that are known -/
def exK (T : Tab) (kn : List (Nat × Bool)) (o : Op) (e : Env) : Option Ex := match o with
  | .pick (.tmp c) a b => match lkp kn c with
    | some true => (ev e a).map .val
    | some false => (ev e b).map .val
    | none => exP T o e
  | o => exP T o e
def ifO (v : Value) (a b : Option Value) : Option Value := match v with
  | .bool t => bif t then a else b
  | _ => none

/-- the value of a temporary behind operations without effect -/
def evC (T : Tab) (all : List Oper) : Nat → List (Nat × Bool) → List Oper → Nat → Env → Heap → Option Value
  | 0, _, _, _, _, _ => none
  | _ + 1, _, [], out, e, _ => e out
  | n + 1, kn, o :: rest, out, e, H => match gs all kn o with
    | .run => match o.dst, exK T kn o.op e with
      | some d, some (.val v) => evC T all n (knv kn o) rest out (upd e d (some v)) H
      | some d, some x => (x.at H).bind fun v => evC T all n (knx kn (some d)) rest out (upd e d (some v)) H
      | _, _ => none
    | .skip => match o.dst with
      | some d => evC T all n (knx kn (some d)) rest out (upd e d (some undef)) H
      | none => none
    | .ask d => match e d with
      | some v => ifO v (evC T all n ((d, true) :: kn) (o :: rest) out e H) (evC T all n ((d, false) :: kn) (o :: rest) out e H)
      | none => none
    | .bad => none

def isP (o : Op) : Bool := match o with
  | .move _ | .assign _ | .pick _ _ _ | .load _ _ | .nilCheck _ | .binOp _ _ _ _ _ | .unOp _ _ _ | .convert _ _ _ | .makeInterface _ _ | .makeFunc _ _ _
  | .slice _ _ _ _ _ | .fieldAddr _ _ _ | .field _ _ _ | .indexAddr _ _ _ | .index _ _ _ | .extract _ _ | .build _ _ | .lookup _ _ _ _ | .entry _ => true
  | .call c => match c.callee with
    | .builtin .len => true
    | .builtin .min => true
    | .builtin .max => true
    | _ => false
  | _ => false
/-- operations without effect up to the choice that hangs on temporary d; the choice's place; what is left -/
def isPick (d : Nat) (o : Oper) : Option Nat := match o.op, o.dst with
  | .pick (.tmp c) _ _, some out => bif Nat.beq c d then some out else none
  | _, _ => none
def segOf (d : Nat) : List Oper → Option (List Oper × Nat × List Oper)
  | [] => none
  | o :: r => bif isP o.op then (match isPick d o with
    | some out => some ([o], out, r)
    | none => match segOf d r with
      | some (s, q, r') => some (o :: s, q, r')
      | none => none) else none
def forget (l : List Oper) (e : Env) : Env := match l with
  | [] => e
  | o :: r => match o.dst with
    | some d => forget r (upd e d none)
    | none => forget r e
def knxs (l : List Oper) (kn : List (Nat × Bool)) : List (Nat × Bool) := match l with
  | [] => kn
  | o :: r => knxs r (knx kn o.dst)

/-- a condition that suffices for a list of operations -/
def vcL (T : Tab) (P : Program) (all : List Oper) : Nat → List (Nat × Bool) → List Oper → Env → Heap → (Env → Heap → Prop) → (List PanicEntry → Heap → Prop) → Prop
  | 0, _, _, _, _, _, _ => False
  | _ + 1, _, [], e, H, K, _ => K e H
  | n + 1, kn, o :: rest, e, H, K, X => match gs all kn o with
    | .run => match exK T kn o.op e with
      | some (.val v) => vcL T P all n (knv kn o) rest (put e o.dst v) H K X
      | some x => Gt (x.at H) fun v => vcL T P all n (knx kn o.dst) rest (put e o.dst v) H K X
      | none => vcE T P o.op e H (fun v H' => vcL T P all n (knx kn o.dst) rest (put e o.dst v) H' K X) X
    | .skip => vcL T P all n (knx kn o.dst) rest (put e o.dst undef) H K X
    | .ask d => match segOf d (o :: rest) with
      | some (s, out, r) => Gt (evC T all (4 * s.length + 4) kn s out e H) fun v => vcL T P all n (knxs s kn) r (upd (forget s e) out (some v)) H K X
      | none => match e d with
        | some v => If v (vcL T P all n ((d, true) :: kn) (o :: rest) e H K X) (vcL T P all n ((d, false) :: kn) (o :: rest) e H K X)
        | none => False
    | .bad => False

/-! ### what is known of guards is so -/
def KnOk (kn : List (Nat × Bool)) (a : Act) : Prop := ∀ d b, lkp kn d = some b → a.tmps[d]? = some (.bool b)

def fitsL (N : Nat) (l : List Oper) : Bool := l.all fun o => match o.dst with
  | some d => Nat.blt d N
  | none => true

theorem Mt.put {e : Env} {a : Act} (h : Mt e a) {d : Option Nat} {v : Value} (hd : ∀ t, d = some t → t < a.tmps.size) : Mt (Proofs.YtdoimhpmnmmffaaGreat.put e d v) (a.put d v) := by
  cases d with
  | none => exact h
  | some d =>
    intro t u hu
    simp only [Proofs.YtdoimhpmnmmffaaGreat.put, upd] at hu
    simp only [Act.put]
    cases hb : Nat.beq t d with
    | true =>
      rw [hb] at hu; simp only [cond_true, Option.some.injEq] at hu; subst hu
      have := Nat.eq_of_beq_eq_true hb; subst this
      simp [hd t rfl]
    | false =>
      rw [hb] at hu; simp only [cond_false] at hu
      have hne : d ≠ t := fun e => by subst e; simp at hb
      rw [Array.getElem?_setIfInBounds_ne hne]
      exact h t u hu

theorem put_size {a : Act} {d : Option Nat} {v : Value} : (a.put d v).tmps.size = a.tmps.size := by cases d <;> simp [Act.put]
theorem put_defers {a : Act} {d : Option Nat} {v : Value} : (a.put d v).defers = a.defers := by cases d <;> simp [Act.put]

theorem lkp_filter {kn : List (Nat × Bool)} {d t : Nat} {b : Bool} (h : lkp (kn.filter fun x => !Nat.beq x.1 d) t = some b) : lkp kn t = some b ∧ t ≠ d := by
  induction kn with
  | nil => simp [lkp] at h
  | cons x kn ih =>
    obtain ⟨q, c⟩ := x
    simp only [List.filter_cons] at h
    cases hq : Nat.beq q d with
    | true =>
      simp only [hq, Bool.not_true, Bool.false_eq_true, if_false] at h
      obtain ⟨h1, h2⟩ := ih h
      have := Nat.eq_of_beq_eq_true hq; subst this
      refine ⟨?_, h2⟩
      simp only [lkp]
      have : Nat.beq q t = false := by
        rw [Bool.eq_false_iff]; intro hh; exact h2 (Nat.eq_of_beq_eq_true hh).symm
      rw [this]; exact h1
    | false =>
      simp only [hq, Bool.not_false, if_true, lkp] at h
      simp only [lkp]
      cases ht : Nat.beq q t with
      | true =>
        rw [ht] at h; simp only [cond_true, Option.some.injEq] at h
        have := Nat.eq_of_beq_eq_true ht; subst this
        refine ⟨by simp [h], fun hh => by subst hh; simp at hq⟩
      | false =>
        rw [ht] at h; simp only [cond_false] at h
        obtain ⟨h1, h2⟩ := ih h
        exact ⟨by simp [h1], h2⟩

theorem KnOk.put {kn : List (Nat × Bool)} {a : Act} (h : KnOk kn a) {d : Option Nat} {v : Value} : KnOk (knx kn d) (a.put d v) := by
  cases d with
  | none => exact h
  | some d =>
    intro t b ht
    obtain ⟨h1, h2⟩ := lkp_filter ht
    simp only [Act.put]
    rw [Array.getElem?_setIfInBounds_ne (Ne.symm h2)]
    exact h t b h1

theorem bOf_ok {kn : List (Nat × Bool)} {e : Env} {a : Act} (ha : Mt e a) (hk : KnOk kn a) {x : Operand} {v : Value} {b : Bool} (hx : ev e x = some v) (hb : bOf kn x = some b) : v = .bool b := by
  unfold bOf at hb
  split at hb
  · simp only [ev, Option.some.injEq] at hx; cases hb; exact hx.symm
  · rename_i t
    have h1 := ha t v hx
    rw [hk t b hb] at h1
    cases h1; rfl
  · cases hb
theorem bopK_ok {T : Tab} {kn : List (Nat × Bool)} {e : Env} {a : Act} (ha : Mt e a) (hk : KnOk kn a) {o : Op} {v : Value} {b : Bool} (hx : exK T kn o e = some (.val v)) (hb : bopK kn o = some b) : v = .bool b := by
  unfold bopK at hb
  split at hb
  · rename_i c x y
    simp only [exK] at hx
    split at hb
    · rename_i hl
      rw [hl] at hx
      simp only [Option.map_eq_some_iff, Ex.val.injEq] at hx
      obtain ⟨u, hu, rfl⟩ := hx
      exact bOf_ok ha hk hu hb
    · rename_i hl
      rw [hl] at hx
      simp only [Option.map_eq_some_iff, Ex.val.injEq] at hx
      obtain ⟨u, hu, rfl⟩ := hx
      exact bOf_ok ha hk hu hb
    · cases hb
  · simp only [exK, exP, Option.map_eq_some_iff, Ex.val.injEq] at hx
    obtain ⟨u, hu, rfl⟩ := hx
    exact bOf_ok ha hk hu hb
  · simp only [exK, exP, Option.map_eq_some_iff, Ex.val.injEq] at hx
    obtain ⟨u, hu, rfl⟩ := hx
    exact bOf_ok ha hk hu hb
  · cases hb
theorem KnOk.knv' {T : Tab} {kn : List (Nat × Bool)} {e : Env} {a : Act} (ha : Mt e a) (hk : KnOk kn a) {o : Oper} {v : Value} (hx : exK T kn o.op e = some (.val v)) (hd : ∀ t, o.dst = some t → t < a.tmps.size) : KnOk (knv kn o) (a.put o.dst v) := by
  have h0 : KnOk (knx kn o.dst) (a.put o.dst v) := hk.put
  unfold knv
  split
  · rename_i h; rw [h] at h0 ⊢; exact h0
  · rename_i d h
    rw [h] at h0 ⊢
    split
    · rename_i b hb
      have hv := bopK_ok ha hk hx hb
      subst hv
      intro t c ht
      simp only [lkp] at ht
      cases hq : Nat.beq d t with
      | true =>
        rw [hq] at ht; simp only [cond_true, Option.some.injEq] at ht; subst ht
        have := Nat.eq_of_beq_eq_true hq; subst this
        simp [Act.put, hd d h]
      | false => rw [hq] at ht; exact h0 t c ht
    · exact h0

theorem KnOk.cons {kn : List (Nat × Bool)} {a : Act} (h : KnOk kn a) {d : Nat} {b : Bool} (hd : a.tmps[d]? = some (.bool b)) : KnOk ((d, b) :: kn) a := by
  intro t c ht
  simp only [lkp] at ht
  cases hb : Nat.beq d t with
  | true =>
    rw [hb] at ht; simp only [cond_true, Option.some.injEq] at ht; subst ht
    have := Nat.eq_of_beq_eq_true hb; subst this; exact hd
  | false => rw [hb] at ht; exact h t c ht

theorem gs_run {all : List Oper} {kn : List (Nat × Bool)} {o : Oper} {a : Act} (hk : KnOk kn a) (h : gs all kn o = .run) : Region.wanted o (yielded all.toArray a.tmps) = true := by
  unfold gs at h
  unfold Region.wanted
  split at h
  · rename_i hg; simp [hg]
  · rename_i j want hg
    split at h
    · rename_i d hd
      split at h
      · rename_i b hb
        simp only [hg]
        have : yielded all.toArray a.tmps j = some b := by
          unfold yielded
          simp only [List.getElem?_toArray, hd, Option.bind_some, hk d b hb]
        rw [this]
        cases hw : (b == want) with
        | true => simpa using hw
        | false => rw [hw] at h; cases h
      · cases h
    · cases h
theorem gs_skip {all : List Oper} {kn : List (Nat × Bool)} {o : Oper} {a : Act} (hk : KnOk kn a) (h : gs all kn o = .skip) : Region.wanted o (yielded all.toArray a.tmps) = false := by
  unfold gs at h
  unfold Region.wanted
  split at h
  · cases h
  · rename_i j want hg
    split at h
    · rename_i d hd
      split at h
      · rename_i b hb
        simp only [hg]
        have : yielded all.toArray a.tmps j = some b := by
          unfold yielded
          simp only [List.getElem?_toArray, hd, Option.bind_some, hk d b hb]
        rw [this]
        cases hw : (b == want) with
        | true => rw [hw] at h; cases h
        | false => simpa using hw
      · cases h
    · cases h

theorem exK_sound (hT : TabOk P T) {kn : List (Nat × Bool)} {o : Oper} {e : Env} {ex : Ex} (h : exK T kn o.op e = some ex) {a : Act} (ha : Mt e a) (hk : KnOk kn a) {w : World} {v : Value} (hv : ex.at w.heap = some v) :
    Gives P o a v w ∧ ∀ c, o.op ≠ .defer c := by
  unfold exK at h
  split at h
  · rename_i c x y hop
    split at h
    · rename_i hl
      simp only [Option.map_eq_some_iff] at h; obtain ⟨u, hu, rfl⟩ := h
      simp only [Ex.at, Option.some.injEq] at hv; subst hv
      have hc := hk c true hl
      refine ⟨?_, fun c => by rw [hop]; simp⟩
      have e1 : a.eval (.tmp c) = .bool true := by simp [Act.eval, hc]
      unfold Gives
      simp only [execOp, hop, e1, asBool, ha.ev hu]
      simp
    · rename_i hl
      simp only [Option.map_eq_some_iff] at h; obtain ⟨u, hu, rfl⟩ := h
      simp only [Ex.at, Option.some.injEq] at hv; subst hv
      have hc := hk c false hl
      refine ⟨?_, fun c => by rw [hop]; simp⟩
      have e1 : a.eval (.tmp c) = .bool false := by simp [Act.eval, hc]
      unfold Gives
      simp only [execOp, hop, e1, asBool, ha.ev hu]
      simp
    · exact ⟨exP_sound hT h ha hv, exP_defer h⟩
  · exact ⟨exP_sound hT h ha hv, exP_defer h⟩

/-- an operation of a region is done, or passed over, without effect -/
inductive Ste (P : Program) (all : List Oper) (w : World) (o : Oper) (a : Act) : Act → Prop
  | run (v : Value) (hw : Region.wanted o (yielded all.toArray a.tmps) = true) (hd : ∀ c, o.op ≠ .defer c) (hg : Gives P o a v w) : Ste P all w o a (a.put o.dst v)
  | skip (hw : Region.wanted o (yielded all.toArray a.tmps) = false) : Ste P all w o a (a.put o.dst undef)
inductive Seq (P : Program) (all : List Oper) (w : World) : List Oper → Act → Act → Prop
  | nil (a : Act) : Seq P all w [] a a
  | cons {o : Oper} {l : List Oper} {a a' a'' : Act} (h : Ste P all w o a a') (t : Seq P all w l a' a'') : Seq P all w (o :: l) a a''

theorem Ste.wp {ro : Option Nat} {all : List Oper} {w : World} {o : Oper} {a a' : Act} (h : Ste P all w o a a') {Q : Exit → Act → World → Prop} {rest : List Oper}
    (hn : wpListIn (Wf ro) 0 P all.toArray Q rest a' w) : wpListIn (Wf ro) 0 P all.toArray Q (o :: rest) a w := by
  unfold wpListIn
  cases h with
  | run v hw hd hg => rw [if_pos hw]; exact wp_gives hd hg hn
  | skip hw => rw [if_neg (by rw [hw]; simp)]; exact ⟨fun _ _ => trivial, hn⟩
theorem Seq.wp {ro : Option Nat} {all : List Oper} {w : World} {Q : Exit → Act → World → Prop} {rest : List Oper} : ∀ {l : List Oper} {a a' : Act}, Seq P all w l a a' →
    wpListIn (Wf ro) 0 P all.toArray Q rest a' w → wpListIn (Wf ro) 0 P all.toArray Q (l ++ rest) a w
  | _, _, _, .nil _, hn => hn
  | _, _, _, .cons h t, hn => h.wp (t.wp hn)

end
end Go.Proofs.YtdoimhpmnmmffaaGreat

/- The conditions of Vc11 suffice: for guarded operations without effect, and for lists of operations. No condition but that the tables are the program's. -/
namespace Go.Proofs.YtdoimhpmnmmffaaGreat
open Go

section
variable {P : Program} {T : Tab}

theorem fits_cons {N : Nat} {o : Oper} {l : List Oper} (h : fitsL N (o :: l) = true) : (∀ t, o.dst = some t → t < N) ∧ fitsL N l = true := by
  simp only [fitsL, List.all_cons, Bool.and_eq_true] at h
  refine ⟨fun t ht => ?_, h.2⟩
  have := h.1; rw [ht] at this
  exact Nat.le_of_ble_eq_true this

/-- what a list of operations without effect comes to -/
structure EvOk (P : Program) (all : List Oper) (w : World) (l : List Oper) (a : Act) (out : Nat) (r : Value) where
  a' : Act
  sq : Seq P all w l a a'
  val : a'.tmps[out]? = some r
  size : a'.tmps.size = a.tmps.size
  defers : a'.defers = a.defers
  other : ∀ t, (∀ o ∈ l, o.dst ≠ some t) → a'.tmps[t]? = a.tmps[t]?
  kn : ∀ kn : List (Nat × Bool), KnOk kn a → KnOk (knxs l kn) a'

theorem put_other {a : Act} {d : Option Nat} {v : Value} {t : Nat} (h : d ≠ some t) : (a.put d v).tmps[t]? = a.tmps[t]? := by
  cases d with
  | none => rfl
  | some d => simp only [Act.put]; exact Array.getElem?_setIfInBounds_ne (fun e => h (by rw [e]))

theorem evC_sound (hT : TabOk P T) {all : List Oper} {N : Nat} {w : World} {out : Nat} {r : Value} : ∀ (n : Nat) (kn : List (Nat × Bool)) (l : List Oper) (e : Env) (a : Act), evC T all n kn l out e w.heap = some r →
    Mt e a → KnOk kn a → a.tmps.size = N → fitsL N l = true → Nonempty (EvOk P all w l a out r)
  | 0, _, _, _, _, h, _, _, _, _ => by simp [evC] at h
  | n + 1, kn, [], e, a, h, ha, hk, hs, _ => by
    simp only [evC] at h
    exact ⟨{ a' := a, sq := .nil a, val := ha _ _ h, size := rfl, defers := rfl, other := fun _ _ => rfl, kn := fun _ h => h }⟩
  | n + 1, kn, o :: rest, e, a, h, ha, hk, hs, hf => by
    obtain ⟨hf1, hf2⟩ := fits_cons hf
    have step : ∀ v kn', KnOk kn' (a.put o.dst v) → Ste P all w o a (a.put o.dst v) → evC T all n kn' rest out (put e o.dst v) w.heap = some r → Nonempty (EvOk P all w (o :: rest) a out r) := by
      intro v kn' hkn hst hev
      obtain ⟨b⟩ := evC_sound hT n _ rest _ _ hev (ha.put (fun t ht => by rw [hs]; exact hf1 t ht)) hkn (put_size.trans hs) hf2
      refine ⟨{ a' := b.a', sq := .cons hst b.sq, val := b.val, size := b.size.trans put_size, defers := b.defers.trans put_defers, other := fun t ht => ?_, kn := fun k hk' => ?_ }⟩
      · rw [b.other t (fun o' ho' => ht o' (List.mem_cons_of_mem _ ho'))]
        exact put_other (ht o (List.mem_cons_self ..))
      · exact b.kn _ hk'.put
    simp only [evC] at h
    split at h
    · rename_i hg
      have hw := gs_run hk hg
      split at h
      · rename_i d v hd hx
        obtain ⟨hgv, hnd⟩ := exK_sound hT hx ha hk (w := w) rfl
        refine step v _ (KnOk.knv' ha hk hx (fun t ht => by rw [hs]; exact hf1 t ht)) (.run v hw hnd hgv) ?_
        rw [hd]; exact h
      · rename_i d x hd hx
        obtain ⟨u, hu, h⟩ := Option.bind_eq_some_iff.1 h
        obtain ⟨hgv, hnd⟩ := exK_sound hT hx ha hk hu
        refine step u (knx kn o.dst) hk.put (.run u hw hnd hgv) ?_
        rw [hd]; exact h
      · cases h
    · rename_i hg
      have hw := gs_skip hk hg
      split at h
      · rename_i d hd
        refine step undef (knx kn o.dst) hk.put (.skip hw) ?_
        rw [hd]; exact h
      · cases h
    · rename_i d hg
      split at h
      · rename_i v hv
        unfold ifO at h
        split at h
        · rename_i t
          have hd := ha d _ hv
          cases t with
          | true => simp only [cond_true] at h; exact evC_sound hT n _ _ _ _ h ha (hk.cons hd) hs hf
          | false => simp only [cond_false] at h; exact evC_sound hT n _ _ _ _ h ha (hk.cons hd) hs hf
        · cases h
      · cases h
    · cases h

theorem segOf_app {d : Nat} : ∀ {l s r : List Oper} {out : Nat}, segOf d l = some (s, out, r) → l = s ++ r
  | [], _, _, _, h => by simp [segOf] at h
  | o :: l, s, r, out, h => by
    have key : (match segOf d l with | some (s, q, r') => some (o :: s, q, r') | none => none) = some (s, out, r) → o :: l = s ++ r := by
      intro h
      cases hs : segOf d l with
      | none => rw [hs] at h; cases h
      | some x =>
        obtain ⟨s', q, r'⟩ := x
        rw [hs] at h
        simp only [Option.some.injEq, Prod.mk.injEq] at h
        obtain ⟨rfl, rfl, rfl⟩ := h
        rw [segOf_app hs]; rfl
    simp only [segOf] at h
    cases hp : isP o.op with
    | false => rw [hp] at h; cases h
    | true =>
      rw [hp] at h; simp only [cond_true] at h
      cases hq : isPick d o with
      | some out' =>
        rw [hq] at h; simp only [Option.some.injEq, Prod.mk.injEq] at h
        obtain ⟨rfl, rfl, rfl⟩ := h; rfl
      | none => rw [hq] at h; exact key h

theorem mt_forget {a a' : Act} : ∀ (s : List Oper) (e : Env), Mt e a → (∀ t, (∀ o ∈ s, o.dst ≠ some t) → a'.tmps[t]? = a.tmps[t]?) → Mt (forget s e) a' := by
  intro s e ha ho
  have h2 : ∀ (s : List Oper) (e : Env) t v, forget s e t = some v → e t = some v ∧ ∀ o ∈ s, o.dst ≠ some t := by
    intro s
    induction s with
    | nil => intro e t v h; exact ⟨h, fun _ h => by cases h⟩
    | cons o s ih =>
      intro e t v h
      simp only [forget] at h
      cases hd : o.dst with
      | some d =>
        rw [hd] at h; simp only at h
        obtain ⟨h1, h2⟩ := ih _ t v h
        simp only [upd] at h1
        cases hb : Nat.beq t d with
        | true => rw [hb] at h1; cases h1
        | false =>
          rw [hb] at h1
          refine ⟨h1, fun o' ho' => ?_⟩
          rcases List.mem_cons.1 ho' with rfl | hm
          · rw [hd]; intro e'; cases e'; simp at hb
          · exact h2 o' hm
      | none =>
        rw [hd] at h; simp only at h
        obtain ⟨h1, h2⟩ := ih _ t v h
        refine ⟨h1, fun o' ho' => ?_⟩
        rcases List.mem_cons.1 ho' with rfl | hm
        · rw [hd]; simp
        · exact h2 o' hm
  intro t v h
  obtain ⟨h1, h3⟩ := h2 s e t v h
  rw [ho t h3]; exact ha t v h1

theorem fits_app {N : Nat} {s r : List Oper} (h : fitsL N (s ++ r) = true) : fitsL N s = true ∧ fitsL N r = true := by
  simp only [fitsL, List.all_append, Bool.and_eq_true] at h; exact h

/-- what holds behind a list of operations -/
structure Bh (N : Nat) (l : List Oper) (a : Act) (w : World) (a' : Act) (w' : World) : Prop where
  size : a'.tmps.size = N
  defers : a'.defers = a.defers
  os : w'.os = w.os
  output : w'.output = w.output
  other : ∀ t, (∀ o ∈ l, o.dst ≠ some t) → a'.tmps[t]? = a.tmps[t]?

theorem vcL_sound (hT : TabOk P T) {all : List Oper} {N : Nat} {ro : Option Nat} {Q : Exit → Act → World → Prop} {K : Env → Heap → Prop} {X : List PanicEntry → Heap → Prop} :
    ∀ (n : Nat) (kn : List (Nat × Bool)) (l : List Oper) (e : Env) (a : Act) (w : World), vcL T P all n kn l e w.heap K X → Mt e a → KnOk kn a → a.tmps.size = N → fitsL N l = true →
    (∀ e' a' w', Mt e' a' → Bh N l a w a' w' → K e' w'.heap → Q .normal a' w') →
    (∀ c a' w', a'.defers = a.defers → w'.os = w.os → w'.output = w.output → X c w'.heap → Q (.panic c) a' w') → wpListIn (Wf ro) 0 P all.toArray Q l a w
  | 0, _, _, _, _, _, h, _, _, _, _, _, _ => by simp [vcL] at h
  | n + 1, kn, [], e, a, w, h, ha, hk, hs, _, hK, _ => by
    simp only [vcL] at h
    exact hK e a w ha ⟨hs, rfl, rfl, rfl, fun _ _ => rfl⟩ h
  | n + 1, kn, o :: rest, e, a, w, h, ha, hk, hs, hf, hK, hX => by
    obtain ⟨hf1, hf2⟩ := fits_cons hf
    have bh : ∀ {v a' w'} {w1 : World}, w1.os = w.os → w1.output = w.output → Bh N rest (a.put o.dst v) w1 a' w' → Bh N (o :: rest) a w a' w' := fun h1 h2 h =>
      ⟨h.size, h.defers.trans put_defers, h.os.trans h1, h.output.trans h2, fun t ht => (h.other t (fun o' ho' => ht o' (List.mem_cons_of_mem _ ho'))).trans (put_other (ht o (List.mem_cons_self ..)))⟩
    have step : ∀ v kn', KnOk kn' (a.put o.dst v) → Ste P all w o a (a.put o.dst v) → vcL T P all n kn' rest (put e o.dst v) w.heap K X → wpListIn (Wf ro) 0 P all.toArray Q (o :: rest) a w := by
      intro v kn' hkn hst hev
      refine hst.wp (vcL_sound hT n _ rest _ _ w hev (ha.put (fun t ht => by rw [hs]; exact hf1 t ht)) hkn (put_size.trans hs) hf2 (fun e' a' w' hm hb hq => hK e' a' w' hm (bh rfl rfl hb) hq)
        (fun c a' w' hd h1 h2 hx => hX c a' w' (hd.trans put_defers) h1 h2 hx))
    simp only [vcL] at h
    split at h
    · rename_i hg
      have hw := gs_run hk hg
      split at h
      · rename_i v hx
        obtain ⟨hgv, hnd⟩ := exK_sound hT hx ha hk (w := w) rfl
        exact step v (knv kn o) (KnOk.knv' ha hk hx (fun t ht => by rw [hs]; exact hf1 t ht)) (.run v hw hnd hgv) h
      · rename_i x hnv hx
        obtain ⟨v, hv, h⟩ := h
        obtain ⟨hgv, hnd⟩ := exK_sound hT hx ha hk hv
        exact step v (knx kn o.dst) hk.put (.run v hw hnd hgv) h
      · unfold wpListIn
        rw [if_pos hw]
        refine wp_eff hT ha h (fun v w' h1 h2 hv => ?_) (fun c w' h1 h2 hx => hX c a w' rfl h1 h2 hx)
        exact vcL_sound hT n _ rest _ _ w' hv (ha.put (fun t ht => by rw [hs]; exact hf1 t ht)) hk.put (put_size.trans hs) hf2 (fun e' a' w'' hm hb hq => hK e' a' w'' hm (bh h1 h2 hb) hq)
          (fun c a' w'' hd h3 h4 hx => hX c a' w'' (hd.trans put_defers) (h3.trans h1) (h4.trans h2) hx)
    · rename_i hg
      exact step undef (knx kn o.dst) hk.put (.skip (gs_skip hk hg)) h
    · rename_i d hg
      split at h
      · rename_i s out r hseg
        obtain ⟨v, hv, h⟩ := h
        have happ := segOf_app hseg
        rw [happ] at hf ⊢
        obtain ⟨hfs, hfr⟩ := fits_app hf
        obtain ⟨b⟩ := evC_sound hT _ kn s e a hv ha hk hs hfs
        refine b.sq.wp ?_
        refine vcL_sound hT n _ r _ _ w h ?_ (b.kn kn hk) (b.size.trans hs) hfr (fun e' a' w' hm hb hq => hK e' a' w' hm ?_ hq) (fun c a' w' hd h1 h2 hx => hX c a' w' (hd.trans b.defers) h1 h2 hx)
        · intro t u hu
          simp only [upd] at hu
          cases hb : Nat.beq t out with
          | true =>
            rw [hb] at hu; simp only [cond_true, Option.some.injEq] at hu; subst hu
            rw [Nat.eq_of_beq_eq_true hb]; exact b.val
          | false => rw [hb] at hu; exact mt_forget s e ha b.other t u hu
        · rw [happ]
          exact ⟨hb.size, hb.defers.trans b.defers, hb.os, hb.output, fun t ht => (hb.other t (fun o' ho' => ht o' (List.mem_append_right _ ho'))).trans (b.other t (fun o' ho' => ht o' (List.mem_append_left _ ho')))⟩
      · split at h
        · rename_i v hv
          obtain ⟨t, rfl, h1, h2⟩ := h
          have hd := ha d _ hv
          cases t with
          | true => exact vcL_sound hT n _ _ e a w (h1 rfl) ha (hk.cons hd) hs hf hK hX
          | false => exact vcL_sound hT n _ _ e a w (h2 rfl) ha (hk.cons hd) hs hf hK hX
        · exact h.elim
    · exact h.elim
end
end Go.Proofs.YtdoimhpmnmmffaaGreat

/- Regions that draw their order of evaluation: an operation without effect may be taken first, where what it reads stays as it is till the first operation with effect that waits for it. (After the kit's law of the same kind in Derived/OrdersHeld.lean; the condition hangs on what has come up.) -/
namespace Go.Proofs.YtdoimhpmnmmffaaGreat
open Go

section
variable {P : Program} {ops : Array Oper} {Q : Exit → Act → World → Prop} {S : Array Bool → World → Prop} {C : World → Prop} {ro : Option Nat}

def anyS (ro : Option Nat) (P : Program) (ops : Array Oper) (Q : Exit → Act → World → Prop) (S : Array Bool → World → Prop) : Nat → Array Bool → Act → World → Prop
  | 0, listed, a, w => Region.ready .any ops listed = [] ∧ Q .normal a w
  | fuel + 1, listed, a, w => (Region.ready .any ops listed = [] → Q .normal a w) ∧
    ∀ i ∈ Region.ready .any ops listed, wpOpIn (Wf ro) 0 P ops Q i (fun a' w' => S (listed.setIfInBounds i true) w' ∧ anyS ro P ops Q S fuel (listed.setIfInBounds i true) a' w') a w

theorem any_of_S : ∀ (fuel : Nat) (listed : Array Bool) (a : Act) (w : World), anyS ro P ops Q S fuel listed a w → wpAnyIn (Wf ro) 0 P .any ops Q fuel listed a w
  | 0, _, _, _, h => h
  | fuel + 1, _, _, _, h => ⟨h.1, fun i hi => wpOpIn_mono (fun a' w' h' => any_of_S fuel _ a' w' h'.2) (h.2 i hi)⟩

theorem anyS_mono {S' : Array Bool → World → Prop} (hs : ∀ l w, S' l w → S l w) : ∀ (fuel : Nat) (listed : Array Bool) (a : Act) (w : World), anyS ro P ops Q S' fuel listed a w → anyS ro P ops Q S fuel listed a w
  | 0, _, _, _, h => h
  | fuel + 1, _, _, _, h => ⟨h.1, fun i hi => wpOpIn_mono (fun a' w' h' => ⟨hs _ _ h'.1, anyS_mono hs fuel _ a' w' h'.2⟩) (h.2 i hi)⟩

theorem yields_in {i : Nat} {o : Oper} {v : Value} {a : Act} (hi : ops[i]? = some o) (hd : ∀ c, o.op ≠ .defer c) (hy : YieldsIf P ops C o v a) {K : Act → World → Prop} {w : World} (hC : C w) (h : K (a.put o.dst v) w) :
    wpOpIn (Wf ro) 0 P ops Q i K a w := by
  unfold wpOpIn
  simp only [hi]
  rcases hy with ⟨hw, hv⟩ | ⟨hw, rfl⟩
  · rw [if_pos hw]; exact wp_gives hd (hv w hC) h
  · rw [if_neg (by rw [hw]; simp)]; exact ⟨fun _ _ => trivial, h⟩

/-- one operation, apart from oi: whether oi's value is already in its temporary makes no difference to it -/
theorem in_put {j : Nat} {oi oj : Oper} {v : Value} (hj : ops[j]? = some oj) (hap : oi.apart ops oj = true) (hsi : ∀ cs b, oi.op ≠ .select cs b) (hsj : ∀ cs b, oj.op ≠ .select cs b) (hdj : ∀ c, oj.op ≠ .defer c)
    (hQ : ∀ c a w, Q (.panic c) (a.put oi.dst v) w → Q (.panic c) a w) {K : Act → World → Prop} {a : Act} {w : World} (hy : YieldsIf P ops C oi v a) (h : wpOpIn (Wf ro) 0 P ops Q j K (a.put oi.dst v) w) :
    wpOpIn (Wf ro) 0 P ops Q j (fun a' w' => YieldsIf P ops C oi v a' ∧ K (a'.put oi.dst v) w') a w := by
  obtain ⟨h1, h2, h3⟩ := Oper.apart_spec hap
  have keep : ∀ (a : Act), YieldsIf P ops C oi v a → ∀ u, YieldsIf P ops C oi v (a.put oj.dst u) := fun a hy u =>
    hy.of_same (execOp_put oi hsi a oj.dst u h3) (wanted_put oi a oj.dst u h3)
  unfold wpOpIn at *
  simp only [hj] at *
  rw [wanted_put oj a oi.dst v h1] at h
  split
  · rename_i hw
    simp only [hw, if_true] at h
    refine ⟨fun _ _ => trivial, ?_⟩
    have h := h.2
    rw [Oper.semAt_eq _ _ _ hdj] at h ⊢
    rw [execOp_put oj hsj a oi.dst v h1] at h
    generalize (execOp a.eval oj).run P w = r at *
    cases r with
    | ok n w' =>
      cases n <;> simp only [Oper.uponIn] at h ⊢
      case value u => exact ⟨keep a hy u, by rw [← Act.put_comm a v u h2]; exact h⟩
      case skip => exact ⟨keep a hy _, by rw [← Act.put_comm a v undef h2]; exact h⟩
      case defer d =>
        have hyd : YieldsIf P ops C oi v { a with defers := d :: a.defers } := hy.of_same rfl rfl
        refine ⟨keep _ hyd _, ?_⟩
        rw [← Act.put_comm _ v undef h2, ← Act.put_defers]
        exact h
      case enter f args =>
        refine ⟨h.1, h.2.mono fun e w'' he => ?_⟩
        cases e with
        | returned u => exact ⟨keep a hy u, by rw [← Act.put_comm a v u h2]; exact he⟩
        | panicked c => exact hQ _ _ _ he
        | outgrown => exact he
      case row row args => exact ⟨h.1, h.2.mono fun u w'' he => ⟨keep a hy u, by rw [← Act.put_comm a v u h2]; exact he⟩⟩
      case round l f tmps assign body =>
        refine ⟨h.1, h.2.mono fun e w'' he => ?_⟩
        cases e with
        | returned u => exact ⟨keep a hy u, by rw [← Act.put_comm a v u h2]; exact he⟩
        | panicked c => exact hQ _ _ _ he
        | outgrown => exact he
    | halt x w' =>
      cases x <;> simp only [Oper.uponIn] at h ⊢
      case panic u => exact hQ _ _ _ h
  · rename_i hw
    simp only [hw] at h
    exact ⟨fun _ _ => trivial, keep a hy _, by rw [← Act.put_comm a v undef h2]; exact h.2⟩

/-- what each operation waits for, as bits: it is so of the edges -/
structure PreOk (ops : Array Oper) (pre : Nat → Nat) : Prop where
  mem : ∀ (j : Nat) (o : Oper) (i : Nat), ops[j]? = some o → (pre j).testBit i = true → ∃ e ∈ o.after, Region.binds .any e = true ∧ (e.on = i ∨ (pre e.on).testBit i = true)

theorem any_first {i : Nat} {oi : Oper} {v : Value} {pre : Nat → Nat} (hpre : PreOk ops pre) (hi : ops[i]? = some oi) (hsel : ∀ (j : Nat) (o : Oper) cs b, ops[j]? = some o → o.op ≠ .select cs b) (hdef : ∀ (j : Nat) (o : Oper) c, ops[j]? = some o → o.op ≠ .defer c)
    (hQ : ∀ c a w, Q (.panic c) (a.put oi.dst v) w → Q (.panic c) a w)
    (hSi : ∀ l w, S (l.setIfInBounds i true) w ↔ S l w)
    (hSC : ∀ l w, S l w → (∀ j, (pre j).testBit i = true → l.getD j false = false) → C w) :
    ∀ (fuel : Nat) (listed : Array Bool) (a : Act) (w : World),
      (∀ j oj, ops[j]? = some oj → j ≠ i → listed.getD j true = false → (∀ e ∈ oj.after, Region.binds .any e = true → e.on ≠ i) → oi.apart ops oj = true) →
      i ∈ Region.ready .any ops listed → (∀ j, (pre j).testBit i = true → listed.getD j false = false) → YieldsIf P ops C oi v a → C w → S listed w →
      anyS ro P ops Q S fuel (listed.setIfInBounds i true) (a.put oi.dst v) w → anyS ro P ops Q S (fuel + 1) listed a w := by
  intro fuel
  induction fuel with
  | zero =>
    intro listed a w _ hr _ hy hC hS H
    refine ⟨fun h => (by rw [h] at hr; cases hr), fun j hj => ?_⟩
    by_cases hji : j = i
    · subst hji; exact yields_in hi (fun c => hdef j oi c hi) hy hC ⟨(hSi _ _).2 hS, H⟩
    · have := ready_mono hj hji
      rw [H.1] at this
      cases this
  | succ fuel ih =>
    intro listed a w hfree hr hdesc hy hC hS H
    refine ⟨fun h => (by rw [h] at hr; cases hr), fun j hj => ?_⟩
    by_cases hji : j = i
    · subst hji; exact yields_in hi (fun c => hdef j oi c hi) hy hC ⟨(hSi _ _).2 hS, H⟩
    · have h1 := H.2 j (ready_mono hj hji)
      obtain ⟨hjun, oj, hoj, hall⟩ := mem_ready.1 hj
      have hnot : ∀ e ∈ oj.after, Region.binds .any e = true → e.on ≠ i := fun e he hb heq => by
        have h1 := hall e he hb
        have h0 := (mem_ready.1 hr).1
        rw [heq] at h1
        rcases Nat.lt_or_ge i listed.size with h' | h'
        · simp [h'] at h0 h1; rw [h0] at h1; cases h1
        · simp [Array.getElem?_eq_none h'] at h1
      have h2 := in_put hoj (hfree j oj hoj hji hjun hnot) (fun cs b => hsel i oi cs b hi) (fun cs b => hsel j oj cs b hoj) (fun c => hdef j oj c hoj) hQ hy h1
      have hfree' : ∀ k ok, ops[k]? = some ok → k ≠ i → (listed.setIfInBounds j true).getD k true = false →
          (∀ e ∈ ok.after, Region.binds .any e = true → e.on ≠ i) → oi.apart ops ok = true := fun k ok hk hki hun hno => by
        refine hfree k ok hk hki ?_ hno
        by_cases hjk : j = k
        · subst hjk; exact hjun
        · rw [getD_set_ne true hjk] at hun; exact hun
      have hjpre : (pre j).testBit i = false := by
        rw [Bool.eq_false_iff]; intro hp
        obtain ⟨e, he, hb, h⟩ := hpre.mem j oj i hoj hp
        rcases h with h | h
        · exact hnot e he hb h
        · have h3 := hall e he hb
          rw [hdesc e.on h] at h3; cases h3
      have hdesc' : ∀ k, (pre k).testBit i = true → (listed.setIfInBounds j true).getD k false = false := fun k hk => by
        by_cases hjk : j = k
        · subst hjk; rw [hjpre] at hk; cases hk
        · rw [getD_set_ne false hjk]; exact hdesc k hk
      refine wpOpIn_mono (fun a' w' h3 => ?_) h2
      obtain ⟨hy', hS', hrest⟩ := h3
      rw [Array.setIfInBounds_comm _ _ (Ne.symm hji)] at hS' hrest
      have hS2 := (hSi _ _).1 hS'
      exact ⟨hS2, ih (listed.setIfInBounds j true) a' w' hfree' (ready_mono hr (Ne.symm hji)) hdesc' hy' (hSC _ _ hS2 hdesc') hS2 hrest⟩
end
end Go.Proofs.YtdoimhpmnmmffaaGreat

/- Regions that draw their order: a condition 'vcD' by stages (operations without effect as soon as they may come up, one with effect at a time), which suffices whatever order is drawn. No condition but that the tables are the program's. -/
namespace Go.Proofs.YtdoimhpmnmmffaaGreat
open Go

structure PR where
  idx : Nat
  f : Heap → Option Value
  v : Value

inductive Sm (o : Option Value) (v : Value) (q : Prop) : Prop
  | mk (h : o = some v) (k : q)
def obl : List PR → Heap → Prop → Prop
  | [], _, q => q
  | r :: rs, H, q => Sm (r.f H) r.v (obl rs H q)
def andL {α : Type} : List α → (α → Prop) → Prop
  | [], _ => True
  | [x], f => f x
  | x :: y :: r, f => f x ∧ andL (y :: r) f
def isPush (o : Op) : Bool := match o with
  | .alloc _ => true
  | .box _ _ => true
  | .buildSlice _ _ _ => true
  | .makeSlice _ _ _ => true
  | .makeMap _ _ => true
  | _ => false
/-- may it come up? -/
def rdy1 (m : Nat) (o : Oper) (i : Nat) : Bool := !m.testBit i && o.after.toList.all fun e => !Region.binds .any e || m.testBit e.on
def rdy (m : Nat) : List Oper → Nat → List Nat
  | [], _ => []
  | o :: r, i => bif rdy1 m o i then i :: rdy m r (i + 1) else rdy m r (i + 1)

/-- all that may come up and has no effect -/
def clo (T : Tab) (all : List Oper) : Nat → List Oper → Nat → Nat → List (Nat × Bool) → Env → Heap → List PR → (Nat → List (Nat × Bool) → Env → List PR → Prop) → Prop
  | 0, _, _, _, _, _, _, _, _ => False
  | _ + 1, [], _, m, kn, e, _, pend, k => k m kn e pend
  | n + 1, o :: rest, i, m, kn, e, H, pend, k => bif isP o.op && rdy1 m o i then (match gs all kn o with
    | .run => match exK T kn o.op e with
      | some (.val v) => clo T all n rest (i + 1) (m ||| 1 <<< i) (knv kn o) (put e o.dst v) H pend k
      | some (.opt x) => Gt x fun v => clo T all n rest (i + 1) (m ||| 1 <<< i) (knx kn o.dst) (put e o.dst v) H pend k
      | some (.rd f) => Gt (f H) fun v => clo T all n rest (i + 1) (m ||| 1 <<< i) (knx kn o.dst) (put e o.dst v) H (⟨i, f, v⟩ :: pend) k
      | none => False
    | .skip => clo T all n rest (i + 1) (m ||| 1 <<< i) (knx kn o.dst) (put e o.dst undef) H pend k
    | .ask d => match e d with
      | some v => If v (clo T all n (o :: rest) i m ((d, true) :: kn) e H pend k) (clo T all n (o :: rest) i m ((d, false) :: kn) e H pend k)
      | none => False
    | .bad => False) else clo T all n rest (i + 1) m kn e H pend k

def vcD (T : Tab) (P : Program) (all : List Oper) (pre : Nat → Nat) : Nat → Nat → List (Nat × Bool) → Env → Heap → List PR → (Env → Heap → Prop) → (List PanicEntry → Heap → Prop) → Prop
  | 0, _, _, _, _, _, _, _ => False
  | n + 1, m, kn, e, H, pend, K, X => clo T all (3 * all.length + 3) all 0 m kn e H pend fun m kn e pend =>
    match rdy m all 0 with
    | [] => K e H
    | rs => andL rs fun i => match all[i]? with
      | none => False
      | some o => bif isP o.op then False else match gs all kn o with
        | .run => let pd := pend.filter fun r => !(pre i).testBit r.idx
          vcE T P o.op e H (fun v H' => bif isPush o.op then vcD T P all pre n (m ||| 1 <<< i) (knx kn o.dst) (put e o.dst v) H' pd K X
            else obl pd H' (vcD T P all pre n (m ||| 1 <<< i) (knx kn o.dst) (put e o.dst v) H' pd K X)) X
        | .skip => vcD T P all pre n (m ||| 1 <<< i) (knx kn o.dst) (put e o.dst undef) H (pend.filter fun r => !(pre i).testBit r.idx) K X
        | .ask d => match e d with
          | some v => If v (vcD T P all pre n m ((d, true) :: kn) e H pend K X) (vcD T P all pre n m ((d, false) :: kn) e H pend K X)
          | none => False
        | .bad => False

/-- what each operation waits for, reckoned from the edges -/
def preL : List Oper → List Nat → List Nat
  | [], acc => acc
  | o :: r, acc => preL r (acc ++ [o.after.toList.foldl (fun s e => bif Region.binds .any e then s ||| (1 <<< e.on) ||| acc.getD e.on 0 else s) 0])
def preOf (all : List Oper) : List Nat := preL all []
/-- the edges of operation i are as preOf says; who writes a temporary that another one looks at waits for it, or the other one waits -/
def preOkB (all : List Oper) (pre : List Nat) : Bool :=
  (List.range all.length).all fun i => match all[i]? with
    | none => false
    | some o => (o.after.toList.all fun e => !Region.binds .any e || ((pre.getD i 0).testBit e.on && decide (e.on < i))) &&
      Nat.blt (pre.getD i 0) (1 <<< all.length) && (List.range all.length).all fun k => !(pre.getD i 0).testBit k || o.after.toList.any fun e => Region.binds .any e && (Nat.beq e.on k || (pre.getD e.on 0).testBit k)
def apartB (all : List Oper) (pre : List Nat) : Bool :=
  (List.range all.length).all fun i => match all[i]? with
    | none => false
    | some o => (match o.op with | .select _ _ => false | .defer _ => false | _ => true) &&
      (List.range all.length).all fun j => Nat.beq i j || (pre.getD i 0).testBit j || match all[j]? with
        | some o' => (o'.after.toList.any fun e => Region.binds .any e && Nat.beq e.on i) || o.apart all.toArray o'
        | none => true

section
variable {P : Program} {T : Tab}

def Pushy (f : Heap → Option Value) : Prop := ∀ H o v, f H = some v → f (H.push o) = some v

theorem get_push {H : Heap} {o x : Obj} {b : Nat} (h : H[b]? = some x) : (H.push o)[b]? = some x := by
  rw [Array.getElem?_push]
  have := (Array.getElem?_eq_some_iff.1 h).1
  rw [if_neg (by omega)]; exact h
theorem rdc_push {H : Heap} {o : Obj} {b k : Nat} {v : Value} (h : rdc H b k = some v) : rdc (H.push o) b k = some v := by
  unfold rdc at h ⊢
  split at h
  · rename_i hb; rw [get_push hb]; exact h
  · cases h
theorem rdn_push {H : Heap} {o : Obj} {b : Nat} : ∀ (n k : Nat) {l : List Value}, rdn H b k n = some l → rdn (H.push o) b k n = some l
  | 0, _, _, h => h
  | n + 1, k, l, h => by
    simp only [rdn] at h ⊢
    split at h
    · rename_i v vs hv hvs
      rw [rdc_push hv, rdn_push n _ hvs]; exact h
    · cases h
theorem rdv_push (p : Value) : Pushy (rdv p) := fun H o v h => by
  unfold rdv at h ⊢
  split at h
  · exact rdc_push h
  · cases h
theorem rda_push (n : Nat) (p : Value) : Pushy (rda n p) := fun H o v h => by
  unfold rda at h ⊢
  split at h
  · simp only [Option.map_eq_some_iff] at h ⊢
    obtain ⟨l, hl, rfl⟩ := h
    exact ⟨l, rdn_push _ _ hl, rfl⟩
  · cases h
theorem bsS_push (x : Value) : Pushy (bsS x) := fun H o v h => by
  unfold bsS at h ⊢
  split at h
  · exact h
  · split at h
    · rename_i l hl; simp only [rdn_push _ _ hl]; exact h
    · cases h
  · cases h
theorem ptrEq_push (n : Nat) (x y : Value) {H : Heap} {o : Obj} {b : Bool} (h : ptrEq n x y H = some b) : ptrEq n x y (H.push o) = some b := by
  unfold ptrEq at h ⊢
  split at h
  · exact h
  · exact h
  · split at h
    · cases h
    · rename_i h0
      rw [if_neg h0]
      split at h
      · rename_i hb; simp only [hb, if_true]; exact h
      · rename_i hb
        rw [if_neg hb]
        split at h
        · rename_i h1 h2; rw [get_push h1, get_push h2]; exact h
        · cases h
  · cases h
theorem lkV_push (kd : TypeDesc) (z : Value) (ok : Bool) (m k : Value) : Pushy (lkV kd z ok m k) := fun H o v h => by
  unfold lkV at h ⊢
  split at h
  · exact h
  · split at h
    · rename_i hr; rw [get_push hr]; exact h
    · cases h
  · cases h
theorem lenM_push (m : Value) : Pushy (lenM m) := fun H o v h => by
  unfold lenM at h ⊢
  split at h
  · exact h
  · split at h
    · rename_i hr; rw [get_push hr]; exact h
    · cases h
  · cases h
theorem enV_push (m : Value) : Pushy (enV m) := fun H o v h => by
  unfold enV at h ⊢
  split at h
  · split at h
    · rename_i hr
      rw [get_push hr]
      simp only
      split at h
      · rename_i hs hm; rw [hs, get_push hm]; exact h
      · cases h
    · cases h
  · cases h

theorem exP_push {o : Op} {e : Env} {f : Heap → Option Value} (h : exP T o e = some (.rd f)) : Pushy f := by
  unfold exP at h
  simp only [Bool.cond_eq_ite] at h
  repeat' split at h
  all_goals first
    | (cases h; done)
    | (simp only [Option.map_eq_some_iff] at h; obtain ⟨_, _, h⟩ := h; cases h; done)
    | (simp only [Option.some.injEq, Ex.rd.injEq] at h; subst h
       first
        | exact rdv_push _
        | exact rda_push _ _
        | exact bsS_push _
        | exact lenM_push _
        | exact enV_push _
        | exact lkV_push _ _ _ _ _
        | (intro H o v hv; simp only [Option.map_eq_some_iff] at hv ⊢; obtain ⟨b, hb, rfl⟩ := hv; exact ⟨b, ptrEq_push _ _ _ hb, rfl⟩)
        | (split
           · exact rda_push _ _
           · exact rdv_push _))
theorem exK_push {kn : List (Nat × Bool)} {o : Op} {e : Env} {f : Heap → Option Value} (h : exK T kn o e = some (.rd f)) : Pushy f := by
  unfold exK at h
  split at h
  · split at h
    · simp only [Option.map_eq_some_iff] at h; obtain ⟨_, _, h⟩ := h; cases h
    · simp only [Option.map_eq_some_iff] at h; obtain ⟨_, _, h⟩ := h; cases h
    · exact exP_push h
  · exact exP_push h
end
end Go.Proofs.YtdoimhpmnmmffaaGreat

/- The condition by stages suffices for a region that draws its order. No condition but that the tables are the program's and that the edges are as the check says. -/
namespace Go.Proofs.YtdoimhpmnmmffaaGreat
open Go

section
variable {P : Program} {T : Tab} {all : List Oper} {pre : List Nat} {N : Nat} {ro : Option Nat} {Q : Exit → Act → World → Prop}

def pf (pre : List Nat) (i : Nat) : Nat := pre.getD i 0

theorem pre_parts (h : preOkB all pre = true) {j : Nat} {o : Oper} (hj : all[j]? = some o) :
    (∀ e ∈ o.after, Region.binds .any e = true → (pf pre j).testBit e.on = true ∧ e.on < j) ∧ (∀ k, all.length ≤ k → (pf pre j).testBit k = false) ∧
    (∀ k, k < all.length → (pf pre j).testBit k = true → ∃ e ∈ o.after, Region.binds .any e = true ∧ (e.on = k ∨ (pf pre e.on).testBit k = true)) := by
  have hlt : j < all.length := (List.getElem?_eq_some_iff.1 hj).1
  simp only [preOkB, List.all_eq_true, List.mem_range] at h
  have h1 := h j hlt
  rw [hj] at h1
  simp only [Bool.and_eq_true, List.all_eq_true, List.mem_range] at h1
  obtain ⟨⟨h2, h3⟩, h4⟩ := h1
  refine ⟨fun e he hb => ?_, fun k hk => ?_, fun k hk hb => ?_⟩
  · have := h2 e (by simpa using he)
    rw [hb] at this
    simp only [Bool.not_true, Bool.false_or, Bool.and_eq_true, decide_eq_true_eq] at this
    exact this
  · have h5 : pre.getD j 0 < 1 <<< all.length := Nat.le_of_ble_eq_true h3
    rw [Nat.one_shiftLeft] at h5
    exact Nat.testBit_lt_two_pow (Nat.lt_of_lt_of_le h5 (Nat.pow_le_pow_right (by omega) hk))
  · have h5 := h4 k hk
    have hb' : (pre.getD j 0).testBit k = true := hb
    rw [hb'] at h5
    simp only [Bool.not_true, Bool.false_or, List.any_eq_true, Bool.and_eq_true, Bool.or_eq_true] at h5
    obtain ⟨e, he, hbd, h6⟩ := h5
    exact ⟨e, by simpa using he, hbd, h6.imp (fun h => Nat.eq_of_beq_eq_true h) id⟩

theorem preOk_of (h : preOkB all pre = true) : PreOk all.toArray (pf pre) := by
  constructor
  intro j o i hj hb
  obtain ⟨_, h2, h3⟩ := pre_parts h (j := j) (o := o) (by simpa using hj)
  by_cases hi : i < all.length
  · exact h3 i hi hb
  · rw [h2 i (by omega)] at hb; cases hb

/-- the mask says what has come up -/
structure St (all : List Oper) (pre : List Nat) (m : Nat) (listed : Array Bool) : Prop where
  size : listed.size = all.length
  bits : ∀ j, listed.getD j false = m.testBit j
  closed : ∀ i j, m.testBit i = true → (pf pre i).testBit j = true → m.testBit j = true

theorem St.lt {m : Nat} {listed : Array Bool} (h : St all pre m listed) {j : Nat} (hj : m.testBit j = true) : j < all.length := by
  rw [← h.bits j] at hj
  rcases Nat.lt_or_ge j listed.size with h' | h'
  · rw [← h.size]; exact h'
  · simp [Array.getElem?_eq_none h'] at hj
theorem St.getT {m : Nat} {listed : Array Bool} (h : St all pre m listed) {j : Nat} (hj : j < all.length) : listed.getD j true = m.testBit j := by
  rw [← h.bits j]
  have : j < listed.size := by rw [h.size]; exact hj
  simp [this]

theorem testBit_or (m i j : Nat) : (m ||| 1 <<< i).testBit j = (m.testBit j || decide (i = j)) := by
  rw [Nat.testBit_or, Nat.one_shiftLeft, Nat.testBit_two_pow]

theorem getD_set {l : Array Bool} {i j : Nat} (h : i < l.size) : (l.setIfInBounds i true).getD j false = (l.getD j false || decide (i = j)) := by
  by_cases hij : i = j
  · subst hij; simp [h]
  · rw [getD_set_ne false hij]; simp [hij]

/-- it may come up: by the mask, and by the machine -/
theorem rdy1_iff {m : Nat} {listed : Array Bool} (h : St all pre m listed) {i : Nat} {o : Oper} (ho : all[i]? = some o) : rdy1 m o i = true ↔ i ∈ Region.ready .any all.toArray listed := by
  have hlt : i < all.length := (List.getElem?_eq_some_iff.1 ho).1
  rw [mem_ready, h.getT hlt]
  unfold rdy1
  simp only [Bool.and_eq_true, Bool.not_eq_true', List.all_eq_true, Bool.or_eq_true]
  constructor
  · rintro ⟨h1, h2⟩
    refine ⟨h1, o, by simpa using ho, fun e he hb => ?_⟩
    rw [h.bits]
    rcases h2 e (by simpa using he) with h3 | h3
    · rw [hb] at h3; cases h3
    · exact h3
  · rintro ⟨h1, o', ho', h2⟩
    have : o' = o := by have e1 : all.toArray[i]? = some o := by simpa using ho
                        rw [e1] at ho'; cases ho'; rfl
    subst this
    refine ⟨h1, fun e he => ?_⟩
    cases hb : Region.binds .any e with
    | false => simp
    | true => right; rw [← h.bits]; exact h2 e (by simpa using he) hb

theorem ready_pre (hp : preOkB all pre = true) {m : Nat} {listed : Array Bool} (h : St all pre m listed) {i : Nat} {o : Oper} (ho : all[i]? = some o) (hr : rdy1 m o i = true) :
    ∀ j, (pf pre i).testBit j = true → m.testBit j = true := by
  intro j hj
  obtain ⟨_, h2, h3⟩ := pre_parts hp ho
  by_cases hjl : j < all.length
  · obtain ⟨e, he, hb, h4⟩ := h3 j hjl hj
    unfold rdy1 at hr
    simp only [Bool.and_eq_true, List.all_eq_true, Bool.or_eq_true] at hr
    have h5 : m.testBit e.on = true := by
      rcases hr.2 e (by simpa using he) with h6 | h6
      · rw [hb] at h6; cases h6
      · exact h6
    rcases h4 with h4 | h4
    · rw [← h4]; exact h5
    · exact h.closed e.on j h5 h4
  · rw [h2 j (by omega)] at hj; cases hj

theorem St.add (hp : preOkB all pre = true) {m : Nat} {listed : Array Bool} (h : St all pre m listed) {i : Nat} {o : Oper} (ho : all[i]? = some o) (hr : rdy1 m o i = true) :
    St all pre (m ||| 1 <<< i) (listed.setIfInBounds i true) := by
  have hlt : i < all.length := (List.getElem?_eq_some_iff.1 ho).1
  refine ⟨by simp [h.size], fun j => ?_, fun k j hk hj => ?_⟩
  · rw [testBit_or, getD_set (by rw [h.size]; exact hlt), h.bits]
  · rw [testBit_or] at hk ⊢
    simp only [Bool.or_eq_true, decide_eq_true_eq] at hk ⊢
    rcases hk with hk | hk
    · exact .inl (h.closed k j hk hj)
    · subst hk; exact .inl (ready_pre hp h ho hr j hj)

/-- the reads that have been made give what they gave, till an operation with effect that waits for them has come up -/
def SR (all : List Oper) (pre : List Nat) (al : List PR) (l : Array Bool) (w : World) : Prop :=
  ∀ r ∈ al, (∀ j oj, all[j]? = some oj → isP oj.op = false → (pf pre j).testBit r.idx = true → l.getD j false = false) → r.f w.heap = some r.v

theorem SR_set {al : List PR} {i : Nat} {oi : Oper} (hi : all[i]? = some oi) (hp : isP oi.op = true) (l : Array Bool) (w : World) : SR all pre al (l.setIfInBounds i true) w ↔ SR all pre al l w := by
  have : ∀ j oj, all[j]? = some oj → isP oj.op = false → (l.setIfInBounds i true).getD j false = l.getD j false := by
    intro j oj hj hjp
    have hne : i ≠ j := by rintro rfl; rw [hi] at hj; cases hj; rw [hp] at hjp; cases hjp
    rw [getD_set_ne false hne]
  constructor
  · intro h r hr hc; exact h r hr (fun j oj hj hjp hb => by rw [this j oj hj hjp]; exact hc j oj hj hjp hb)
  · intro h r hr hc; exact h r hr (fun j oj hj hjp hb => by rw [← this j oj hj hjp]; exact hc j oj hj hjp hb)

def cnt (l : Array Bool) : Nat := l.toList.countP (! ·)
theorem countP_set' (l : List Bool) (i : Nat) (h : l[i]? = some false) : (l.set i true).countP (! ·) + 1 = l.countP (! ·) := by
  have hlt : i < l.length := (List.getElem?_eq_some_iff.1 h).1
  have h1 : l[i] = false := (List.getElem?_eq_some_iff.1 h).2
  rw [List.countP_set (h := hlt)]
  have : 0 < l.countP (! ·) := List.countP_pos_iff.2 ⟨l[i], List.getElem_mem hlt, by simp [h1]⟩
  simp [h1]; omega
theorem cnt_set {l : Array Bool} {i : Nat} (hi : i < l.size) (h : l.getD i false = false) : cnt (l.setIfInBounds i true) + 1 = cnt l := by
  unfold cnt
  rw [Array.toList_setIfInBounds]
  exact countP_set' _ _ (by simp [hi] at h; simp [hi, h])

theorem anyS_done {S : Array Bool → World → Prop} {listed : Array Bool} {a : Act} {w : World} (hr : Region.ready .any all.toArray listed = []) (h : Q .normal a w) : ∀ fuel, anyS ro P all.toArray Q S fuel listed a w
  | 0 => ⟨hr, h⟩
  | _ + 1 => ⟨fun _ => h, by rw [hr]; intro i hi; cases hi⟩

theorem apart_parts (h : apartB all pre = true) {i : Nat} {o : Oper} (hi : all[i]? = some o) : (∀ cs b, o.op ≠ .select cs b) ∧ (∀ c, o.op ≠ .defer c) ∧
    ∀ j oj, all[j]? = some oj → j ≠ i → (pf pre i).testBit j = false → (∀ e ∈ oj.after, Region.binds .any e = true → e.on ≠ i) → o.apart all.toArray oj = true := by
  have hlt : i < all.length := (List.getElem?_eq_some_iff.1 hi).1
  simp only [apartB, List.all_eq_true, List.mem_range] at h
  have h1 := h i hlt
  rw [hi] at h1
  simp only [Bool.and_eq_true, List.all_eq_true, List.mem_range] at h1
  refine ⟨fun cs b hc => ?_, fun c hc => ?_, fun j oj hj hne hnp hnd => ?_⟩
  · rw [hc] at h1; simp at h1
  · rw [hc] at h1; simp at h1
  · have h2 := h1.2 j (List.getElem?_eq_some_iff.1 hj).1
    rw [hj] at h2
    simp only [Bool.or_eq_true, List.any_eq_true, Bool.and_eq_true] at h2
    rcases h2 with (h2 | h2) | h2 | h2
    · exact absurd (Nat.eq_of_beq_eq_true h2).symm hne
    · have : (pf pre i).testBit j = true := h2
      rw [hnp] at this; cases this
    · obtain ⟨e, he, hb, h3⟩ := h2
      exact absurd (Nat.eq_of_beq_eq_true h3) (hnd e (by simpa using he) hb)
    · exact h2

/-- the state of a walk through a region -/
structure Wk (T : Tab) (all : List Oper) (pre : List Nat) (N : Nat) (m : Nat) (kn : List (Nat × Bool)) (e : Env) (pend al : List PR) (listed : Array Bool) (a a0 : Act) (w : World) : Prop where
  st : St all pre m listed
  mt : Mt e a
  kn : KnOk kn a
  size : a.tmps.size = N
  defers : a.defers = a0.defers
  sr : SR all pre al listed w
  push : ∀ r ∈ al, Pushy r.f
  pend : ∀ r ∈ al, r ∈ pend ∨ ∃ j oj, all[j]? = some oj ∧ isP oj.op = false ∧ (pf pre j).testBit r.idx = true ∧ listed.getD j false = true
  other : ∀ t, (∀ o ∈ all, o.dst ≠ some t) → a.tmps[t]? = a0.tmps[t]?

theorem clo_sound (hT : TabOk P T) (hp : preOkB all pre = true) (hap : apartB all pre = true) (hfit : fitsL N all = true) (hQ : ∀ c a a' w, a'.defers = a.defers → Q (.panic c) a w → Q (.panic c) a' w)
    {k : Nat → List (Nat × Bool) → Env → List PR → Prop} {w : World} {a0 : Act} :
    ∀ (n : Nat) (rest : List Oper) (i m : Nat) (kn : List (Nat × Bool)) (e : Env) (pend al : List PR) (listed : Array Bool) (a : Act) (fuel : Nat), clo T all n rest i m kn e w.heap pend k → rest = all.drop i →
      Wk T all pre N m kn e pend al listed a a0 w → cnt listed ≤ fuel →
      (∀ m' kn' e' pend' al' listed' a' fuel', Wk T all pre N m' kn' e' pend' al' listed' a' a0 w → cnt listed' ≤ fuel' → k m' kn' e' pend' → anyS ro P all.toArray Q (SR all pre al') fuel' listed' a' w) →
      anyS ro P all.toArray Q (SR all pre al) fuel listed a w
  | 0, _, _, _, _, _, _, _, _, _, _, h, _, _, _, _ => by simp [clo] at h
  | n + 1, [], i, m, kn, e, pend, al, listed, a, fuel, h, _, hw, hc, hk => by
    simp only [clo] at h
    exact hk m kn e pend al listed a fuel hw hc h
  | n + 1, o :: rest, i, m, kn, e, pend, al, listed, a, fuel, h, hr, hw, hc, hk => by
    have hi : all[i]? = some o := by
      have : (all.drop i)[0]? = some o := by rw [← hr]; rfl
      simpa using this
    have hrest : rest = all.drop (i + 1) := by
      have : (all.drop i).drop 1 = rest := by rw [← hr]; rfl
      rw [← this, List.drop_drop]
    have hlt : i < all.length := (List.getElem?_eq_some_iff.1 hi).1
    simp only [clo] at h
    cases hb : (isP o.op && rdy1 m o i) with
    | false =>
      rw [hb] at h; simp only [cond_false] at h
      exact clo_sound hT hp hap hfit hQ n rest (i + 1) m kn e pend al listed a fuel h hrest hw hc hk
    | true =>
      rw [hb] at h; simp only [cond_true] at h
      simp only [Bool.and_eq_true] at hb
      obtain ⟨hpo, hrd⟩ := hb
      have hready := (rdy1_iff hw.st hi).1 hrd
      have hun : listed.getD i false = false := by
        rw [hw.st.bits]; unfold rdy1 at hrd; simp only [Bool.and_eq_true, Bool.not_eq_true'] at hrd; exact hrd.1
      obtain ⟨hns, hnd, hfree⟩ := apart_parts hap hi
      have hdst : ∀ t, o.dst = some t → t < N := by
        intro t ht
        have hm := List.mem_of_getElem? hi
        simp only [fitsL, List.all_eq_true] at hfit
        have := hfit o hm; rw [ht] at this
        exact Nat.le_of_ble_eq_true this
      have hdesc : ∀ j, (pf pre j).testBit i = true → listed.getD j false = false := by
        intro j hj
        rw [hw.st.bits, Bool.eq_false_iff]; intro hjm
        have := hw.st.closed j i hjm hj
        rw [← hw.st.bits, hun] at this; cases this
      have hfr : ∀ j oj, all.toArray[j]? = some oj → j ≠ i → listed.getD j true = false → (∀ e ∈ oj.after, Region.binds .any e = true → e.on ≠ i) → o.apart all.toArray oj = true := by
        intro j oj hj hne hul hno
        have hj' : all[j]? = some oj := by simpa using hj
        refine hfree j oj hj' hne ?_ hno
        rw [Bool.eq_false_iff]; intro hjp
        have := ready_pre hp hw.st hi hrd j hjp
        rw [hw.st.getT (List.getElem?_eq_some_iff.1 hj').1, this] at hul; cases hul
      -- the operation is taken first
      have take : ∀ (v : Value) (kn' : List (Nat × Bool)) (hkn : KnOk kn' (a.put o.dst v)) (C : World → Prop) (al' : List PR) (pend' : List PR), YieldsIf P all.toArray C o v a → C w → (∀ l w', SR all pre al' l w' → SR all pre al l w') → SR all pre al' listed w →
          (∀ l w', SR all pre al' l w' → (∀ j, (pf pre j).testBit i = true → l.getD j false = false) → C w') →
          (∀ r ∈ al', Pushy r.f) → (∀ r ∈ al', r ∈ pend' ∨ ∃ j oj, all[j]? = some oj ∧ isP oj.op = false ∧ (pf pre j).testBit r.idx = true ∧ listed.getD j false = true) →
          clo T all n rest (i + 1) (m ||| 1 <<< i) kn' (put e o.dst v) w.heap pend' k → anyS ro P all.toArray Q (SR all pre al) fuel listed a w := by
        intro v kn' hkn C al' pend' hy hC hmono hsr hSC hpu hpe hclo
        refine anyS_mono hmono _ _ _ _ ?_
        have hcs := cnt_set (i := i) (by rw [hw.st.size]; exact hlt) hun
        obtain ⟨f', rfl⟩ : ∃ f', fuel = f' + 1 := ⟨fuel - 1, by omega⟩
        refine any_first (preOk_of hp) (by simpa using hi) (fun j oj cs b hj => (apart_parts hap (by simpa using hj)).1 cs b) (fun j oj c hj => (apart_parts hap (by simpa using hj)).2.1 c)
          (fun c a w hq => hQ c _ _ w (by cases o.dst <;> rfl) hq) (fun l w => SR_set hi hpo l w) hSC f' listed a w hfr hready hdesc hy hC hsr ?_
        refine clo_sound hT hp hap hfit hQ n rest (i + 1) _ _ _ pend' al' _ _ f' hclo hrest ?_ (by omega) hk
        refine ⟨hw.st.add hp hi hrd, hw.mt.put (fun t ht => by rw [hw.size]; exact hdst t ht), hkn, put_size.trans hw.size, put_defers.trans hw.defers, (SR_set hi hpo _ _).2 hsr, hpu, fun r hr => ?_, fun t ht => ?_⟩
        · rcases hpe r hr with h1 | ⟨j, oj, h1, h2, h3, h4⟩
          · exact .inl h1
          · refine .inr ⟨j, oj, h1, h2, h3, ?_⟩
            rw [getD_set (by rw [hw.st.size]; exact hlt), h4]; rfl
        · rw [put_other (ht o (List.mem_of_getElem? hi))]; exact hw.other t ht
      have pure : ∀ v kn', KnOk kn' (a.put o.dst v) → YieldsIf P all.toArray (fun _ => True) o v a → clo T all n rest (i + 1) (m ||| 1 <<< i) kn' (put e o.dst v) w.heap pend k → anyS ro P all.toArray Q (SR all pre al) fuel listed a w :=
        fun v kn' hkn hy hclo => take v kn' hkn (fun _ => True) al pend hy trivial (fun _ _ h => h) hw.sr (fun _ _ _ _ => trivial) hw.push hw.pend hclo
      split at h
      · rename_i hg
        have hwant := gs_run hw.kn hg
        split at h
        · rename_i v hx
          exact pure v (knv kn o) (KnOk.knv' hw.mt hw.kn hx (fun t ht => by rw [hw.size]; exact hdst t ht)) (.inl ⟨hwant, fun w' _ => (exK_sound hT hx hw.mt hw.kn (w := w') rfl).1⟩) h
        · rename_i x hx
          obtain ⟨v, hv, h⟩ := h
          exact pure v (knx kn o.dst) hw.kn.put (.inl ⟨hwant, fun w' _ => (exK_sound hT hx hw.mt hw.kn (w := w') hv).1⟩) h
        · rename_i f hx
          obtain ⟨v, hv, h⟩ := h
          refine take v (knx kn o.dst) hw.kn.put (fun w' => f w'.heap = some v) (⟨i, f, v⟩ :: al) (⟨i, f, v⟩ :: pend) (.inl ⟨hwant, fun w' hC => (exK_sound hT hx hw.mt hw.kn (w := w') hC).1⟩) hv ?_ ?_ ?_ ?_ ?_ h
          · intro l w' hs r hr; exact hs r (List.mem_cons_of_mem _ hr)
          · intro r hr hc'
            rcases List.mem_cons.1 hr with rfl | hr
            · exact hv
            · exact hw.sr r hr hc'
          · intro l w' hs hl
            exact hs ⟨i, f, v⟩ (List.mem_cons_self ..) (fun j oj _ _ hb => hl j hb)
          · intro r hr
            rcases List.mem_cons.1 hr with rfl | hr
            · exact exK_push hx
            · exact hw.push r hr
          · intro r hr
            rcases List.mem_cons.1 hr with rfl | hr
            · exact .inl (List.mem_cons_self ..)
            · rcases hw.pend r hr with h1 | h1
              · exact .inl (List.mem_cons_of_mem _ h1)
              · exact .inr h1
        · exact h.elim
      · rename_i hg
        exact pure undef (knx kn o.dst) hw.kn.put (.inr ⟨gs_skip hw.kn hg, rfl⟩) h
      · rename_i d hg
        split at h
        · rename_i v hv
          obtain ⟨t, rfl, h1, h2⟩ := h
          have hd := hw.mt d _ hv
          cases t with
          | true => exact clo_sound hT hp hap hfit hQ n (o :: rest) i m _ e pend al listed a fuel (h1 rfl) hr { hw with kn := hw.kn.cons hd } hc hk
          | false => exact clo_sound hT hp hap hfit hQ n (o :: rest) i m _ e pend al listed a fuel (h2 rfl) hr { hw with kn := hw.kn.cons hd } hc hk
        · exact h.elim
      · exact h.elim
end
end Go.Proofs.YtdoimhpmnmmffaaGreat

/- The condition by stages suffices for a region that draws its order: the induction. No condition but that the tables are the program's and that the edges are as the check says. -/
namespace Go.Proofs.YtdoimhpmnmmffaaGreat
open Go

section
variable {P : Program} {T : Tab} {all : List Oper} {pre : List Nat} {N : Nat} {ro : Option Nat} {Q : Exit → Act → World → Prop}

theorem mem_rdy {m i : Nat} : ∀ {l : List Oper} {k : Nat}, i ∈ rdy m l k → ∃ o, l[i - k]? = some o ∧ k ≤ i ∧ rdy1 m o i = true
  | [], k, h => by simp [rdy] at h
  | o :: l, k, h => by
    have key : i ∈ rdy m l (k + 1) → ∃ o', (o :: l)[i - k]? = some o' ∧ k ≤ i ∧ rdy1 m o' i = true := fun h => by
      obtain ⟨o', h1, h2, h3⟩ := mem_rdy h
      refine ⟨o', ?_, by omega, h3⟩
      have : i - k = (i - (k + 1)) + 1 := by omega
      rw [this, List.getElem?_cons_succ]; exact h1
    simp only [rdy] at h
    cases hb : rdy1 m o k with
    | true =>
      rw [hb] at h; simp only [cond_true] at h
      rcases List.mem_cons.1 h with rfl | h
      · exact ⟨o, by simp, Nat.le_refl _, hb⟩
      · exact key h
    | false => rw [hb] at h; exact key h
theorem rdy_mem {m i : Nat} {o : Oper} : ∀ {l : List Oper} {k : Nat}, l[i - k]? = some o → k ≤ i → rdy1 m o i = true → i ∈ rdy m l k
  | [], k, h, _, _ => by simp at h
  | o' :: l, k, h, hk, hr => by
    simp only [rdy]
    by_cases hik : i = k
    · subst hik
      simp only [Nat.sub_self, List.getElem?_cons_zero, Option.some.injEq] at h; subst h
      rw [hr]; exact List.mem_cons_self ..
    · have : i - k = (i - (k + 1)) + 1 := by omega
      rw [this, List.getElem?_cons_succ] at h
      have h2 := rdy_mem (l := l) (k := k + 1) h (by omega) hr
      cases rdy1 m o' k with
      | true => exact List.mem_cons_of_mem _ h2
      | false => exact h2

theorem rdy_iff {m : Nat} {listed : Array Bool} (h : St all pre m listed) {i : Nat} : i ∈ rdy m all 0 ↔ i ∈ Region.ready .any all.toArray listed := by
  constructor
  · intro hi
    obtain ⟨o, h1, _, h3⟩ := mem_rdy hi
    exact (rdy1_iff h (by simpa using h1)).1 h3
  · intro hi
    obtain ⟨_, o, h1, _⟩ := mem_ready.1 hi
    have h1' : all[i]? = some o := by simpa using h1
    exact rdy_mem (by simpa using h1') (Nat.zero_le _) ((rdy1_iff h h1').2 hi)

theorem andL_mem {α : Type} {f : α → Prop} : ∀ {l : List α}, andL l f → ∀ x ∈ l, f x
  | [], _, x, h => by cases h
  | [y], h, x, hx => by
    rcases List.mem_cons.1 hx with rfl | h'
    · exact h
    · cases h'
  | y :: z :: r, h, x, hx => by
    rcases List.mem_cons.1 hx with rfl | h'
    · exact h.1
    · exact andL_mem h.2 x h'

theorem obl_spec {H : Heap} {q : Prop} : ∀ {l : List PR}, obl l H q → (∀ r ∈ l, r.f H = some r.v) ∧ q
  | [], h => ⟨(fun _ h => by cases h), h⟩
  | r :: l, h => by
    obtain ⟨h1, h2⟩ := h
    obtain ⟨h3, h4⟩ := obl_spec h2
    refine ⟨fun x hx => ?_, h4⟩
    rcases List.mem_cons.1 hx with rfl | hx
    · exact h1
    · exact h3 x hx

/-- what a pushing operation does to memory -/
theorem vcE_push {o : Op} {e : Env} {H : Heap} {K : Value → Heap → Prop} {X : List PanicEntry → Heap → Prop} (hpu : isPush o = true) (h : vcE T P o e H K X) :
    vcE T P o e H (fun v H' => (∃ x, H' = H.push x) ∧ K v H') X := by
  unfold isPush at hpu
  split at hpu
  · simp only [vcE] at h ⊢
    split at h
    · rename_i i hi; obtain ⟨k⟩ := h; exact ⟨⟨_, rfl⟩, k⟩
    · exact h.elim
  · simp only [vcE] at h ⊢
    split at h
    · rename_i i hi; obtain ⟨k⟩ := h; exact ⟨⟨_, rfl⟩, k⟩
    · exact h.elim
  · simp only [vcE] at h ⊢
    split at h
    · rename_i i ps hi hps
      split at h
      · rename_i z hz
        split at h
        · rename_i j hj
          cases hb : Nat.ble _ 16777216 with
          | false => rw [hb] at h; exact h.elim
          | true =>
            rw [hb] at h; simp only [cond_true] at h ⊢
            obtain ⟨cs, hcs, ⟨k⟩⟩ := h
            exact ⟨cs, hcs, ⟨⟨_, rfl⟩, k⟩⟩
        · exact h.elim
      · exact h.elim
    · exact h.elim
  · simp only [vcE] at h ⊢
    split at h
    · rename_i i lv cv hi hl hc
      split at h
      · rename_i z hz
        split at h
        · rename_i j hj
          obtain ⟨cs, hcs, ⟨k⟩⟩ := h
          exact ⟨cs, hcs, ⟨⟨_, rfl⟩, k⟩⟩
        · exact h.elim
      · exact h.elim
    · exact h.elim
  · rename_i t r
    cases r with
    | none => simp only [vcE] at h ⊢; obtain ⟨k⟩ := h; exact ⟨⟨_, rfl⟩, k⟩
    | some _ => simp [vcE] at h
  · cases hpu

variable {K : Env → Heap → Prop} {X : List PanicEntry → Heap → Prop}

theorem vcD_sound (hT : TabOk P T) (hp : preOkB all pre = true) (hap : apartB all pre = true) (hfit : fitsL N all = true) (hQ : ∀ c a a' w, a'.defers = a.defers → Q (.panic c) a w → Q (.panic c) a' w) {a0 : Act} {w0 : World}
    (hK : ∀ e' a' w', Mt e' a' → Bh N all a0 w0 a' w' → K e' w'.heap → Q .normal a' w')
    (hX : ∀ c a' w', a'.defers = a0.defers → w'.os = w0.os → w'.output = w0.output → X c w'.heap → Q (.panic c) a' w') :
    ∀ (n m : Nat) (kn : List (Nat × Bool)) (e : Env) (pend al : List PR) (listed : Array Bool) (a : Act) (fuel : Nat) (w : World), vcD T P all (pf pre) n m kn e w.heap pend K X →
      Wk T all pre N m kn e pend al listed a a0 w → w.os = w0.os → w.output = w0.output → cnt listed ≤ fuel → anyS ro P all.toArray Q (SR all pre al) fuel listed a w
  | 0, _, _, _, _, _, _, _, _, _, h, _, _, _, _ => by simp [vcD] at h
  | n + 1, m, kn, e, pend, al, listed, a, fuel, w, h, hw, ho1, ho2, hc => by
    simp only [vcD] at h
    refine clo_sound hT hp hap hfit hQ _ all 0 m kn e pend al listed a fuel h rfl hw hc ?_
    clear h hw hc
    intro m kn e pend al listed a fuel hw hc h
    split at h
    · rename_i hr
      have hr' : Region.ready .any all.toArray listed = [] := by
        cases hl : Region.ready .any all.toArray listed with
        | nil => rfl
        | cons i r =>
          have : i ∈ Region.ready .any all.toArray listed := by rw [hl]; exact List.mem_cons_self ..
          rw [← rdy_iff hw.st, hr] at this; cases this
      exact anyS_done hr' (hK e a w hw.mt ⟨hw.size, hw.defers, ho1, ho2, hw.other⟩ h) fuel
    · rename_i hne
      obtain ⟨f', rfl⟩ : ∃ f', fuel = f' + 1 := by
        cases hr : rdy m all 0 with
        | nil => exact (hne hr).elim
        | cons i r =>
          have hi : i ∈ rdy m all 0 := by rw [hr]; exact List.mem_cons_self ..
          obtain ⟨o, h1, _, h3⟩ := mem_rdy hi
          have h1' : all[i]? = some o := by simpa using h1
          have hlt : i < all.length := (List.getElem?_eq_some_iff.1 h1').1
          have hun : listed.getD i false = false := by
            rw [hw.st.bits]; unfold rdy1 at h3; simp only [Bool.and_eq_true, Bool.not_eq_true'] at h3; exact h3.1
          have := cnt_set (i := i) (by rw [hw.st.size]; exact hlt) hun
          exact ⟨fuel - 1, by omega⟩
      refine ⟨fun hr => ?_, fun i hi => ?_⟩
      · exfalso; apply hne
        cases hl : rdy m all 0 with
        | nil => rfl
        | cons i r =>
          have : i ∈ rdy m all 0 := by rw [hl]; exact List.mem_cons_self ..
          rw [rdy_iff hw.st, hr] at this; cases this
      · have hi' := (rdy_iff hw.st).2 hi
        obtain ⟨o, h1, _, hrd⟩ := mem_rdy hi'
        have ho : all[i]? = some o := by simpa using h1
        have hlt : i < all.length := (List.getElem?_eq_some_iff.1 ho).1
        have h := andL_mem h i hi'
        rw [ho] at h; simp only at h
        cases hpo : isP o.op with
        | true => rw [hpo] at h; exact h.elim
        | false =>
          rw [hpo] at h; simp only [cond_false] at h
          have hun : listed.getD i false = false := by
            rw [hw.st.bits]; unfold rdy1 at hrd; simp only [Bool.and_eq_true, Bool.not_eq_true'] at hrd; exact hrd.1
          have hcs := cnt_set (i := i) (by rw [hw.st.size]; exact hlt) hun
          have hdst : ∀ t, o.dst = some t → t < N := by
            intro t ht
            have hm := List.mem_of_getElem? ho
            simp only [fitsL, List.all_eq_true] at hfit
            have := hfit o hm; rw [ht] at this
            exact Nat.le_of_ble_eq_true this
          -- the reads that must still be so
          have sr' : ∀ w' : World, (∀ r ∈ al, r ∈ pend → (pf pre i).testBit r.idx = false → r.f w.heap = some r.v → r.f w'.heap = some r.v) → SR all pre al (listed.setIfInBounds i true) w' := by
            intro w' hh r hr hcond
            have hir : (pf pre i).testBit r.idx = false := by
              rw [Bool.eq_false_iff]; intro hb
              have := hcond i o ho hpo hb
              rw [getD_set (by rw [hw.st.size]; exact hlt)] at this; simp at this
            have hcond' : ∀ j oj, all[j]? = some oj → isP oj.op = false → (pf pre j).testBit r.idx = true → listed.getD j false = false := by
              intro j oj hj hjp hb
              have := hcond j oj hj hjp hb
              rw [getD_set (by rw [hw.st.size]; exact hlt)] at this
              simp only [Bool.or_eq_false_iff] at this; exact this.1
            have hrp : r ∈ pend := by
              rcases hw.pend r hr with h1 | ⟨j, oj, h1, h2, h3, h4⟩
              · exact h1
              · rw [hcond' j oj h1 h2 h3] at h4; cases h4
            exact hh r hr hrp hir (hw.sr r hr hcond')
          have wk' : ∀ (v : Value) (w' : World), SR all pre al (listed.setIfInBounds i true) w' →
              Wk T all pre N (m ||| 1 <<< i) (knx kn o.dst) (put e o.dst v) (pend.filter fun r => !(pf pre i).testBit r.idx) al (listed.setIfInBounds i true) (a.put o.dst v) a0 w' := by
            intro v w' hs
            refine ⟨hw.st.add hp ho hrd, hw.mt.put (fun t ht => by rw [hw.size]; exact hdst t ht), hw.kn.put, put_size.trans hw.size, put_defers.trans hw.defers, hs, hw.push, fun r hr => ?_, fun t ht => ?_⟩
            · rcases hw.pend r hr with h1 | ⟨j, oj, h1, h2, h3, h4⟩
              · cases hb : (pf pre i).testBit r.idx with
                | false => exact .inl (List.mem_filter.2 ⟨h1, by rw [hb]; rfl⟩)
                | true => exact .inr ⟨i, o, ho, hpo, hb, by rw [getD_set (by rw [hw.st.size]; exact hlt)]; simp⟩
              · refine .inr ⟨j, oj, h1, h2, h3, ?_⟩
                rw [getD_set (by rw [hw.st.size]; exact hlt), h4]; rfl
            · rw [put_other (ht o (List.mem_of_getElem? ho))]; exact hw.other t ht
          have goeff : ∀ {K' : Value → Heap → Prop}, vcE T P o.op e w.heap K' X → Region.wanted o (yielded all.toArray a.tmps) = true →
              (∀ v (w' : World), w'.os = w.os → w'.output = w.output → K' v w'.heap → SR all pre al (listed.setIfInBounds i true) w' ∧
                vcD T P all (pf pre) n (m ||| 1 <<< i) (knx kn o.dst) (put e o.dst v) w'.heap (pend.filter fun r => !(pf pre i).testBit r.idx) K X) →
              wpOpIn (Wf ro) 0 P all.toArray Q i (fun a' w' => SR all pre al (listed.setIfInBounds i true) w' ∧ anyS ro P all.toArray Q (SR all pre al) f' (listed.setIfInBounds i true) a' w') a w := by
            intro K' hv hwant hk
            unfold wpOpIn
            have : all.toArray[i]? = some o := by simpa using ho
            simp only [this, hwant, if_true]
            refine wp_eff hT hw.mt hv (fun v w' h1 h2 hkv => ?_) (fun c w' h1 h2 hx => hX c a w' hw.defers (h1.trans ho1) (h2.trans ho2) hx)
            obtain ⟨hs, hd⟩ := hk v w' h1 h2 hkv
            exact ⟨hs, vcD_sound hT hp hap hfit hQ hK hX n _ _ _ _ al _ _ f' w' hd (wk' v w' hs) (h1.trans ho1) (h2.trans ho2) (by omega)⟩
          split at h
          · rename_i hg
            have hwant := gs_run hw.kn hg
            cases hpu : isPush o.op with
            | true =>
              simp only [hpu, cond_true] at h
              refine goeff (vcE_push hpu h) hwant (fun v w' h1 h2 hk => ⟨sr' w' fun r hr _ _ hv => ?_, hk.2⟩)
              obtain ⟨x, hx⟩ := hk.1
              rw [hx]; exact hw.push r hr _ _ _ hv
            | false =>
              simp only [hpu, cond_false] at h
              refine goeff h hwant (fun v w' h1 h2 hk => ?_)
              obtain ⟨h3, h4⟩ := obl_spec hk
              exact ⟨sr' w' fun r hr hrp hir _ => h3 r (List.mem_filter.2 ⟨hrp, by rw [hir]; rfl⟩), h4⟩
          · rename_i hg
            have hwant := gs_skip hw.kn hg
            have hs := sr' w (fun r _ _ _ hv => hv)
            unfold wpOpIn
            have : all.toArray[i]? = some o := by simpa using ho
            simp only [this, hwant, Bool.false_eq_true, if_false]
            refine ⟨fun _ _ => trivial, hs, ?_⟩
            exact vcD_sound hT hp hap hfit hQ hK hX n _ _ _ _ al _ _ f' w h (wk' undef w hs) ho1 ho2 (by omega)
          · rename_i d hg
            split at h
            · rename_i v hv
              obtain ⟨t, rfl, h1, h2⟩ := h
              have hd := hw.mt d _ hv
              cases t with
              | true => exact (vcD_sound hT hp hap hfit hQ hK hX n _ _ _ _ al _ _ (f' + 1) w (h1 rfl) { hw with kn := hw.kn.cons hd } ho1 ho2 hc).2 i hi
              | false => exact (vcD_sound hT hp hap hfit hQ hK hX n _ _ _ _ al _ _ (f' + 1) w (h2 rfl) { hw with kn := hw.kn.cons hd } ho1 ho2 hc).2 i hi
            · exact h.elim
          · exact h.elim

end
end Go.Proofs.YtdoimhpmnmmffaaGreat

/- The condition 'vc' on a function's loaded body, and that it suffices for the machine's run of it (functions that neither defer nor range over a function). No condition but that the tables are the program's. -/
namespace Go.Proofs.YtdoimhpmnmmffaaGreat
open Go

def wr : Code → List Nat
  | .region _ ops _ => ops.toList.filterMap (·.dst)
  | .seq a b => wr a ++ wr b
  | .cond _ a b => wr a ++ wr b
  | .block _ b => wr b
  | .loop b => wr b
  | _ => []
def memB (t : Nat) : List Nat → Bool
  | [] => false
  | x :: r => bif Nat.beq x t then true else memB t r
def look : List Nat → List Value → Nat → Option Value
  | s :: ss, v :: vs, t => bif Nat.beq s t then some v else look ss vs t
  | _, _, _ => none
def outE (e : Env) (w sl : List Nat) (vs : List Value) : Env := fun t => match look sl vs t with
  | some v => some v
  | none => bif memB t w then none else e t
def slv (e : Env) : List Nat → Option (List Value)
  | [] => some []
  | s :: r => match e s, slv e r with
    | some v, some vs => some (v :: vs)
    | _, _ => none
def FnT (α : Type) : Nat → Type
  | 0 => Heap → α
  | n + 1 => Value → FnT α n
def apP : (n : Nat) → FnT Prop n → List Value → Heap → Prop
  | 0, I, [], H => I H
  | n + 1, I, v :: vs, H => apP n (I v) vs H
  | _, _, _, _ => False
def apN : (n : Nat) → FnT Nat n → List Value → Heap → Nat
  | 0, I, [], H => I H
  | n + 1, I, v :: vs, H => apN n (I v) vs H
  | _, _, _, _ => 0
def allP : Nat → (List Value → Prop) → Prop
  | 0, p => p []
  | n + 1, p => ∀ v, allP n fun vs => p (v :: vs)
/-- a loop: an invariant of the values that it carries, and a measure -/
inductive Lp {α β : Type} (B : α → β → Prop) : Prop
  | mk (I : α) (μ : β) (h : B I μ)
/-- ways that come together: what holds there -/
inductive Jo {α : Type} (K B : α → Prop) : Prop
  | mk (I : α) (k : K I) (b : B I)

def ann (A : List (Nat × List Nat)) (p : Nat) : Option (List Nat) := match A with
  | [] => none
  | (q, s) :: r => bif Nat.beq q p then some s else ann r p
def exitK (B : List (Nat × (Env → Heap → Prop))) (id : Nat) : Option (Env → Heap → Prop) := match B with
  | [] => none
  | (q, k) :: r => bif Nat.beq q id then some k else exitK r id
/-- the ways out of a piece of code come together, where the note A says so -/
def joinAt (A : List (Nat × List Nat)) (p : Nat) (w : List Nat) (e : Env) (K : Env → Heap → Prop) (f : (Env → Heap → Prop) → Prop) : Prop := match ann A p with
  | none => f K
  | some sl => Jo (α := FnT Prop sl.length) (fun I => ∀ H, allP sl.length fun us => apP sl.length I us H → K (outE e w sl us) H)
      fun I => f fun e' H' => match slv e' sl with
        | some vs => apP sl.length I vs H'
        | none => False

def vc (T : Tab) (P : Program) (A : List (Nat × List Nat)) (N : Nat) : Nat → Code → Env → Heap → (Env → Heap → Prop) → List (Nat × (Env → Heap → Prop)) → (Env → Heap → Prop) → (List PanicEntry → Heap → Prop) → Prop
  | _, .skip, e, H, K, _, _, _ => K e H
  | _, .label _, e, H, K, _, _, _ => K e H
  | p, .region _ ops d, e, H, K, _, _, X => bif fitsL N ops.toList then joinAt A p (wr (.region 0 ops d)) e K fun K => bif d then
        (bif preOkB ops.toList (preOf ops.toList) && apartB ops.toList (preOf ops.toList) then vcD T P ops.toList (pf (preOf ops.toList)) (4 * ops.size + 4) 0 [] e H [] K X else False)
      else vcL T P ops.toList (4 * ops.size + 4) [] ops.toList e H K X else False
  | p, .seq a b, e, H, K, B, R, X => vc T P A N (2 * p) a e H (fun e H => vc T P A N (2 * p + 1) b e H K B R X) B R X
  | p, .cond c a b, e, H, K, B, R, X => match ev e c with
    | some v => joinAt A p (wr (.cond c a b)) e K fun K => If v (vc T P A N (2 * p) a e H K B R X) (vc T P A N (2 * p + 1) b e H K B R X)
    | none => False
  | p, .block id b, e, H, K, B, R, X => joinAt A p (wr (.block id b)) e K fun K => vc T P A N (2 * p) b e H K ((id, K) :: B) R X
  | p, .loop b, e, H, _, B, R, X => match ann A p with
    | some sl => match slv e sl with
      | some vs => Lp (α := FnT Prop sl.length) (β := FnT Nat sl.length) fun I μ => apP sl.length I vs H ∧ ∀ H', allP sl.length fun us => apP sl.length I us H' →
          vc T P A N (2 * p) b (outE e (wr b) sl us) H' (fun e2 H2 => match slv e2 sl with
            | some vs2 => apP sl.length I vs2 H2 ∧ Nat.lt (apN sl.length μ vs2 H2) (apN sl.length μ us H')
            | none => False) B R X
      | none => False
    | none => False
  | _, .exit id, e, H, _, B, _, _ => match exitK B id with
    | some k => k e H
    | none => False
  | _, .ret, e, H, _, _, R, _ => R e H
  | _, _, _, _, _, _, _, _ => False

def argE : List Value → Env
  | [] => fun _ => none
  | v :: vs => fun t => match t with
    | 0 => some v
    | t + 1 => argE vs t
def resL (T : Tab) (e : Env) (H : Heap) : List ResultVar → Option (List Value)
  | [] => some []
  | .tmp t :: r => match e t, resL T e H r with
    | some v, some vs => some (v :: vs)
    | _, _ => none
  | .cell a t :: r => match e a, T.ty t, resL T e H r with
    | some p, some i, some vs => match (bif isAgg i.desc then rda i.size p else rdv p) H with
      | some v => some (v :: vs)
      | none => none
    | _, _, _ => none
def oneV : List Value → Value
  | [v] => v
  | vs => .tuple vs.toArray
/-- what is handed back -/
def resP (T : Tab) (e : Env) (H : Heap) (R : Value → Heap → Prop) : List ResultVar → List Value → Prop
  | [], vs => R (oneV vs.reverse) H
  | .tmp t :: r, vs => match e t with
    | some v => resP T e H R r (v :: vs)
    | none => False
  | .cell a t :: r, vs => match e a, T.ty t with
    | some p, some i => Gt ((bif isAgg i.desc then rda i.size p else rdv p) H) fun v => resP T e H R r (v :: vs)
    | _, _ => False
/-- the condition on a call of a function -/
def vcF (T : Tab) (P : Program) (A : List (Nat × List Nat)) (N : Nat) (rs : List ResultVar) (c : Code) (args : List Value) (H : Heap) (R : Value → Heap → Prop) (X : List PanicEntry → Heap → Prop) : Prop :=
  bif Nat.ble args.length N then vc T P A N 1 c (argE args) H (fun e H => resP T e H R rs []) [] (fun e H => resP T e H R rs []) X else False

section
variable {P : Program} {T : Tab} {A : List (Nat × List Nat)} {N : Nat} {ro : Option Nat}

theorem memB_iff {t : Nat} : ∀ {l : List Nat}, memB t l = true ↔ t ∈ l
  | [] => by simp [memB]
  | x :: r => by
    simp only [memB, List.mem_cons]
    cases hb : Nat.beq x t with
    | true => have := Nat.eq_of_beq_eq_true hb; simp [this]
    | false =>
      have hne : t ≠ x := fun e => by subst e; simp at hb
      simp only [cond_false, memB_iff (l := r), hne, false_or]

/-- what holds behind a piece of code -/
structure Bc (N : Nat) (l : List Nat) (a : Act) (w : World) (a' : Act) (w' : World) : Prop where
  size : a'.tmps.size = N
  defers : a'.defers = a.defers
  os : w'.os = w.os
  output : w'.output = w.output
  other : ∀ t, t ∉ l → a'.tmps[t]? = a.tmps[t]?

theorem Bc.trans {l l' : List Nat} {a a' a'' : Act} {w w' w'' : World} (h : Bc N l a w a' w') (h' : Bc N l' a' w' a'' w'') : Bc N (l ++ l') a w a'' w'' :=
  ⟨h'.size, h'.defers.trans h.defers, h'.os.trans h.os, h'.output.trans h.output, fun t ht => by
    rw [List.mem_append, not_or] at ht
    exact (h'.other t ht.2).trans (h.other t ht.1)⟩
theorem Bc.sub {l l' : List Nat} {a a' : Act} {w w' : World} (h : Bc N l a w a' w') (hs : ∀ t ∈ l, t ∈ l') : Bc N l' a w a' w' :=
  ⟨h.size, h.defers, h.os, h.output, fun t ht => h.other t fun h' => ht (hs t h')⟩
theorem Bc.same {l : List Nat} {a a' a'' : Act} {w w' w'' : World} (h : Bc N l a w a' w') (h' : Bc N l a' w' a'' w'') : Bc N l a w a'' w'' :=
  (h.trans h').sub fun t ht => by rcases List.mem_append.1 ht with h | h <;> exact h
theorem Bc.of_bh {ops : Array Oper} {d : Bool} {a a' : Act} {w w' : World} (h : Bh N ops.toList a w a' w') : Bc N (wr (.region 0 ops d)) a w a' w' :=
  ⟨h.size, h.defers, h.os, h.output, fun t ht => h.other t fun o ho hd => ht (by
    simp only [wr, List.mem_filterMap]; exact ⟨o, ho, hd⟩)⟩

theorem slv_len {e : Env} : ∀ {sl : List Nat} {vs : List Value}, slv e sl = some vs → vs.length = sl.length
  | [], vs, h => by simp only [slv, Option.some.injEq] at h; subst h; rfl
  | s :: r, vs, h => by
    simp only [slv] at h
    split at h
    · rename_i v vs' hv hvs
      cases h
      simp [slv_len hvs]
    · cases h
theorem slv_get {e : Env} : ∀ {sl : List Nat} {vs : List Value}, slv e sl = some vs → ∀ t v, look sl vs t = some v → e t = some v
  | [], vs, h, t, v, hl => by simp only [slv, Option.some.injEq] at h; subst h; simp [look] at hl
  | s :: r, vs, h, t, v, hl => by
    simp only [slv] at h
    split at h
    · rename_i u vs' hv hvs
      cases h
      simp only [look] at hl
      cases hb : Nat.beq s t with
      | true =>
        rw [hb] at hl; simp only [cond_true, Option.some.injEq] at hl; subst hl
        rw [← Nat.eq_of_beq_eq_true hb]; exact hv
      | false => rw [hb] at hl; exact slv_get hvs t v hl
    · cases h
theorem slv_map {e : Env} {a : Act} (ha : Mt e a) : ∀ {sl : List Nat} {vs : List Value}, slv e sl = some vs → (sl.map fun s => a.tmps.getD s undef) = vs
  | [], vs, h => by simp only [slv, Option.some.injEq] at h; subst h; rfl
  | s :: r, vs, h => by
    simp only [slv] at h
    split at h
    · rename_i v vs' hv hvs
      cases h
      rw [List.map_cons, slv_map ha hvs]
      have := ha s v hv
      simp [Array.getD_eq_getD_getElem?, this]
    · cases h
theorem allP_spec : ∀ {n : Nat} {p : List Value → Prop}, allP n p → ∀ vs : List Value, vs.length = n → p vs
  | 0, p, h, vs, hl => by
    cases vs with
    | nil => exact h
    | cons _ _ => simp at hl
  | n + 1, p, h, vs, hl => by
    cases vs with
    | nil => simp at hl
    | cons v vs => exact allP_spec (h v) vs (by simpa using hl)

theorem mt_outE {e e' : Env} {a a' : Act} {w sl : List Nat} {vs : List Value} (ha : Mt e a) (ha' : Mt e' a') (ho : ∀ t, t ∉ w → a'.tmps[t]? = a.tmps[t]?) (hs : slv e' sl = some vs) : Mt (outE e w sl vs) a' := by
  intro t v h
  simp only [outE] at h
  split at h
  · rename_i u hu
    cases h
    exact ha' t v (slv_get hs t v hu)
  · cases hb : memB t w with
    | true => rw [hb] at h; cases h
    | false =>
      rw [hb] at h
      rw [ho t (fun hm => by rw [memB_iff.2 hm] at hb; cases hb)]
      exact ha t v h

/-- what is asked of the ways out -/
structure Ks (N : Nat) (l : List Nat) (a : Act) (w : World) (K : Env → Heap → Prop) (B : List (Nat × (Env → Heap → Prop))) (R : Env → Heap → Prop) (X : List PanicEntry → Heap → Prop) (Q : Exit → Act → World → Prop) : Prop where
  k : ∀ e' a' w', Mt e' a' → Bc N l a w a' w' → K e' w'.heap → Q .normal a' w'
  b : ∀ id k, exitK B id = some k → ∀ e' a' w', Mt e' a' → Bc N l a w a' w' → k e' w'.heap → Q (.exit id) a' w'
  r : ∀ e' a' w', Mt e' a' → Bc N l a w a' w' → R e' w'.heap → Q .ret a' w'
  x : ∀ c a' w', a'.defers = a.defers → w'.os = w.os → w'.output = w.output → X c w'.heap → Q (.panic c) a' w'

theorem join_sound {p : Nat} {l : List Nat} {e : Env} {K : Env → Heap → Prop} {f : (Env → Heap → Prop) → Prop} {a : Act} {w : World} {B : List (Nat × (Env → Heap → Prop))} {R : Env → Heap → Prop} {X : List PanicEntry → Heap → Prop} {Q : Exit → Act → World → Prop}
    (h : joinAt A p l e K f) (ha : Mt e a) (hks : Ks N l a w K B R X Q) : ∃ K', f K' ∧ Ks N l a w K' B R X Q := by
  unfold joinAt at h
  split at h
  · exact ⟨K, h, hks⟩
  · rename_i sl _
    obtain ⟨I, hk, hf⟩ := h
    refine ⟨_, hf, { hks with k := fun e' a' w' hm hb hI => ?_ }⟩
    split at hI
    · rename_i vs hvs
      have := allP_spec (hk w'.heap) vs (slv_len hvs) hI
      exact hks.k _ a' w' (mt_outE ha hm hb.other hvs) hb this
    · exact hI.elim

theorem Ks.bc {l l' : List Nat} {a a1 : Act} {w w1 : World} {K K' : Env → Heap → Prop} {B : List (Nat × (Env → Heap → Prop))} {R : Env → Heap → Prop} {X : List PanicEntry → Heap → Prop} {Q Q' : Exit → Act → World → Prop}
    (h : Ks N l a w K B R X Q) (hb : Bc N l a w a1 w1) (hs : ∀ t ∈ l', t ∈ l) (hq : ∀ id a w, Q (.exit id) a w → Q' (.exit id) a w) (hr : ∀ a w, Q .ret a w → Q' .ret a w) (hx : ∀ c a w, Q (.panic c) a w → Q' (.panic c) a w)
    (hk : ∀ e' a' w', Mt e' a' → Bc N l' a1 w1 a' w' → K' e' w'.heap → Q' .normal a' w') : Ks N l' a1 w1 K' B R X Q' where
  k := hk
  b := fun id k hid e' a' w' hm hb' hk' => hq _ _ _ (h.b id k hid e' a' w' hm (hb.same (hb'.sub hs)) hk')
  r := fun e' a' w' hm hb' hk' => hr _ _ (h.r e' a' w' hm (hb.same (hb'.sub hs)) hk')
  x := fun c a' w' hd h1 h2 hx' => hx _ _ _ (h.x c a' w' (hd.trans hb.defers) (h1.trans hb.os) (h2.trans hb.output) hx')

theorem bc_refl {l : List Nat} {a : Act} {w : World} (hs : a.tmps.size = N) : Bc N l a w a w := ⟨hs, rfl, rfl, rfl, fun _ _ => rfl⟩

theorem vc_sound (hT : TabOk P T) (hm : P.follows .mixedOrders = true) : ∀ (c : Code) (p : Nat) (e : Env) (a : Act) (w : World) (K : Env → Heap → Prop) (B : List (Nat × (Env → Heap → Prop))) (R : Env → Heap → Prop) (X : List PanicEntry → Heap → Prop) (Q : Exit → Act → World → Prop),
    vc T P A N p c e w.heap K B R X → Mt e a → a.tmps.size = N → (∀ c a a' w, a'.defers = a.defers → Q (.panic c) a w → Q (.panic c) a' w) → Ks N (wr c) a w K B R X Q → c.wpIn (Wf ro) 0 P Q a w := by
  intro c
  induction c with
  | skip =>
    intro p e a w K B R X Q h ha hs hp hk
    simp only [vc] at h
    exact wpIn_skip (hk.k e a w ha (bc_refl hs) h)
  | label l =>
    intro p e a w K B R X Q h ha hs hp hk
    simp only [vc] at h
    exact wpIn_label (hk.k e a w ha (bc_refl hs) h)
  | region id ops d =>
    intro p e a w K B R X Q h ha hs hp hk
    simp only [vc] at h
    cases hf : fitsL N ops.toList with
    | false => rw [hf] at h; exact h.elim
    | true =>
      rw [hf] at h; simp only [cond_true] at h
      have hk' : Ks N (wr (.region 0 ops d)) a w K B R X Q := hk
      obtain ⟨K', h, hk⟩ := join_sound h ha hk'
      clear hk'
      cases d with
      | false =>
        simp only [cond_false] at h
        refine wpIn_region_list ?_
        have : ops = ops.toList.toArray := by simp
        rw [this]
        refine vcL_sound hT _ [] ops.toList e a w h ha (fun _ _ h => by simp [lkp] at h) hs hf (fun e' a' w' hm hb hK => hk.k e' a' w' hm (.of_bh hb) hK) (fun c a' w' hd h1 h2 hx => hk.x c a' w' hd h1 h2 hx)
      | true =>
        simp only [cond_true] at h
        cases hpre : preOkB ops.toList (preOf ops.toList) && apartB ops.toList (preOf ops.toList) with
        | false => rw [hpre] at h; exact h.elim
        | true =>
          rw [hpre] at h; simp only [cond_true] at h
          simp only [Bool.and_eq_true] at hpre
          refine wpIn_region_any hm ?_
          have hsz : (ops.toList).length = ops.size := by simp
          have hops : ops = ops.toList.toArray := by simp
          have key : anyS ro P ops.toList.toArray Q (SR ops.toList (preOf ops.toList) []) ops.size (Array.replicate ops.size false) a { w with drawn := w.drawn + 1 } := by
            refine vcD_sound (w0 := { w with drawn := w.drawn + 1 }) (a0 := a) hT hpre.1 hpre.2 hf hp (fun e' a' w' hm hb hK => hk.k e' a' w' hm (.of_bh ⟨hb.size, hb.defers, hb.os, hb.output, hb.other⟩) hK)
              (fun c a' w' hd h1 h2 hx => hk.x c a' w' hd h1 h2 hx) _ 0 [] e [] [] _ a _ _ h ?_ rfl rfl ?_
            · refine ⟨⟨by simp, fun j => ?_, fun i j h => by simp at h⟩, ha, fun _ _ h => by simp [lkp] at h, hs, rfl, (fun r h => by cases h), (fun r h => by cases h), (fun r h => by cases h), fun _ _ => rfl⟩
              by_cases hj : j < ops.size <;> simp [hj]
            · simp only [cnt, Array.toList_replicate]; exact Nat.le_trans List.countP_le_length (by simp)
          rw [← hops] at key
          exact any_of_S _ _ _ _ key
  | seq x y ihx ihy =>
    intro p e a w K B R X Q h ha hs hp hk
    simp only [vc] at h
    refine wpIn_seq (ihx _ e a w _ B R X _ h ha hs ?_ ?_)
    · intro c a a' w hd hq; exact hp c a a' w hd hq
    · refine hk.bc (bc_refl hs) (fun t ht => List.mem_append_left _ ht) (fun _ _ _ h => h) (fun _ _ h => h) (fun _ _ _ h => h) ?_
      intro e1 a1 w1 hm1 hb1 h1
      refine ihy _ e1 a1 w1 K B R X Q h1 hm1 hb1.size hp ?_
      refine hk.bc (hb1.sub fun t ht => List.mem_append_left _ ht) (fun t ht => List.mem_append_right _ ht) (fun _ _ _ h => h) (fun _ _ h => h) (fun _ _ _ h => h) ?_
      intro e2 a2 w2 hm2 hb2 h2
      exact hk.k e2 a2 w2 hm2 (hb1.trans hb2) h2
  | cond c x y ihx ihy =>
    intro p e a w K B R X Q h ha hs hp hk
    simp only [vc] at h
    split at h
    · rename_i v hv
      obtain ⟨K', h, hk⟩ := join_sound h ha hk
      obtain ⟨t, rfl, h1, h2⟩ := h
      refine wpIn_cond_split (ha.ev hv) (fun ht => ?_) (fun ht => ?_)
      · exact ihx _ e a w K' B R X Q (h1 ht) ha hs hp (hk.bc (bc_refl hs) (fun t ht => List.mem_append_left _ ht) (fun _ _ _ h => h) (fun _ _ h => h) (fun _ _ _ h => h) fun e' a' w' hm hb hK => hk.k e' a' w' hm (hb.sub fun t ht => List.mem_append_left _ ht) hK)
      · exact ihy _ e a w K' B R X Q (h2 ht) ha hs hp (hk.bc (bc_refl hs) (fun t ht => List.mem_append_right _ ht) (fun _ _ _ h => h) (fun _ _ h => h) (fun _ _ _ h => h) fun e' a' w' hm hb hK => hk.k e' a' w' hm (hb.sub fun t ht => List.mem_append_right _ ht) hK)
    · exact h.elim
  | block id b ih =>
    intro p e a w K B R X Q h ha hs hp hk
    simp only [vc] at h
    obtain ⟨K', h, hk⟩ := join_sound h ha hk
    refine wpIn_block (ih _ e a w K' ((id, K') :: B) R X _ h ha hs (fun c a a' w hd hq => hp c a a' w hd hq) ?_)
    refine ⟨fun e' a' w' hm hb hK => hk.k e' a' w' hm hb hK, fun i k hi e' a' w' hm hb hK => ?_, fun e' a' w' hm hb hK => hk.r e' a' w' hm hb hK, fun c a' w' hd h1 h2 hx => hk.x c a' w' hd h1 h2 hx⟩
    simp only [exitK] at hi
    cases hbq : Nat.beq id i with
    | true =>
      rw [hbq] at hi; simp only [cond_true, Option.some.injEq] at hi; subst hi
      have := Nat.eq_of_beq_eq_true hbq; subst this
      simp only [Exit.inBlock, if_true]
      exact hk.k e' a' w' hm hb hK
    | false =>
      rw [hbq] at hi; simp only [cond_false] at hi
      have hne : i ≠ id := fun e => by subst e; simp at hbq
      simp only [Exit.inBlock, hne, if_false]
      exact hk.b i k hi e' a' w' hm hb hK
  | loop b ih =>
    intro p e a w K B R X Q h ha hs hp hk
    simp only [vc] at h
    split at h
    · rename_i sl _
      split at h
      · rename_i vs hvs
        obtain ⟨I, μ, h0, hround⟩ := h
        have hM : ∀ us (a : Act) (w : World), (∃ e', Mt e' a ∧ slv e' sl = some us) → apN sl.length μ (sl.map fun s => a.tmps.getD s undef) w.heap = apN sl.length μ us w.heap := by
          rintro us a w ⟨e', hm', hs'⟩
          rw [slv_map hm' hs']
        refine wpIn_loop (fun a' w' => Bc N (wr b) a w a' w' ∧ ∃ us, (∃ e', Mt e' a' ∧ slv e' sl = some us) ∧ apP sl.length I us w'.heap) (fun a w => apN sl.length μ (sl.map fun s => a.tmps.getD s undef) w.heap) ⟨bc_refl hs, vs, ⟨e, ha, hvs⟩, h0⟩ ?_
        rintro a1 w1 ⟨hb1, us, ⟨e1, hm1, hs1⟩, hI⟩
        have hv := allP_spec (hround w1.heap) us (slv_len hs1) hI
        refine ih _ _ a1 w1 _ B R X _ hv (mt_outE ha hm1 hb1.other hs1) hb1.size (fun c a a' w hd hq => hp c a a' w hd hq) ?_
        refine hk.bc hb1 (fun t ht => ht) (fun _ _ _ h => h) (fun _ _ h => h) (fun _ _ _ h => h) ?_
        intro e2 a2 w2 hm2 hb2 h2
        split at h2
        · rename_i vs2 hvs2
          refine ⟨⟨hb1.same hb2, vs2, ⟨e2, hm2, hvs2⟩, h2.1⟩, ?_⟩
          simp only [hM vs2 a2 w2 ⟨e2, hm2, hvs2⟩, hM us a1 w1 ⟨e1, hm1, hs1⟩]
          exact h2.2
        · exact h2.elim
      · exact h.elim
    · exact h.elim
  | exit id =>
    intro p e a w K B R X Q h ha hs hp hk
    simp only [vc] at h
    split at h
    · rename_i k hid
      exact wpIn_exit (hk.b id k hid e a w ha (bc_refl hs) h)
    · exact h.elim
  | ret =>
    intro p e a w K B R X Q h ha hs hp hk
    simp only [vc] at h
    exact wpIn_ret (hk.r e a w ha (bc_refl hs) h)
  | _ => intros; rename_i h _ _ _ _; simp [vc] at h

end
end Go.Proofs.YtdoimhpmnmmffaaGreat

/- A call of a function whose body's condition holds. No condition but that the tables are the program's and what the loaded function is. -/
namespace Go.Proofs.YtdoimhpmnmmffaaGreat
open Go

section
variable {P : Program} {T : Tab} {A : List (Nat × List Nat)} {N : Nat}

def resOne (tmps : Array Value) : ResultVar → Sem Value
  | .tmp t => pure (tmps.getD t undef)
  | .cell a t => do loadVar t (← asAddr (tmps.getD a undef))

theorem run_cell (hT : TabOk P T) {t : Nat} {i : TI} (h : T.ty t = some i) {p v : Value} (w : World)
    (hv : (bif isAgg i.desc then rda i.size p else rdv p) w.heap = some v) : (do loadVar t (← asAddr p) : Sem Value).run P w = .ok v w := by
  have hv' : (bif isAgg i.desc then rda i.size p w.heap else rdv p w.heap) = some v := by
    cases hb : isAgg i.desc <;> rw [hb] at hv <;> exact hv
  have hl := run_loadVar hT h w hv'
  have hp : ∃ ad, p = .pointer (some ad) := by
    cases hb : isAgg i.desc with
    | true =>
      rw [hb] at hv; simp only [cond_true, rda] at hv
      split at hv
      · exact ⟨_, rfl⟩
      · cases hv
    | false =>
      rw [hb] at hv; simp only [cond_false, rdv] at hv
      split at hv
      · exact ⟨_, rfl⟩
      · cases hv
  obtain ⟨ad, rfl⟩ := hp
  simp only [Instr.loadAt, Instr.sureAddr, Sem.run_bind, Sem.run_pure, Result.andThen_ok] at hl
  simp only [asAddr, Sem.run_bind, Sem.run_pure, Result.andThen_ok]
  exact hl

theorem resP_sound (hT : TabOk P T) {e : Env} {a : Act} (ha : Mt e a) {w : World} {R : Value → Heap → Prop} : ∀ (rs : List ResultVar) (vs : List Value), resP T e w.heap R rs vs →
    ∃ us : List Value, (rs.mapM (resOne a.tmps)).run P w = .ok us w ∧ R (oneV (vs.reverse ++ us)) w.heap
  | [], vs, h => ⟨[], by simp, by simpa [resP] using h⟩
  | .tmp t :: rs, vs, h => by
    simp only [resP] at h
    split at h
    · rename_i v hv
      obtain ⟨us, h1, h2⟩ := resP_sound hT ha rs (v :: vs) h
      refine ⟨v :: us, ?_, by simpa using h2⟩
      have := ha t v hv
      have hg : a.tmps.getD t undef = v := by simp [Array.getD_eq_getD_getElem?, this]
      simp only [List.mapM_cons, resOne, hg, Sem.run_bind, Sem.run_pure, Result.andThen_ok, h1]
    · exact h.elim
  | .cell x t :: rs, vs, h => by
    simp only [resP] at h
    split at h
    · rename_i p i hp hi
      obtain ⟨v, hv, h⟩ := h
      obtain ⟨us, h1, h2⟩ := resP_sound hT ha rs (v :: vs) h
      refine ⟨v :: us, ?_, by simpa using h2⟩
      have := ha x p hp
      have hg : a.tmps.getD x undef = p := by simp [Array.getD_eq_getD_getElem?, this]
      have hl := run_cell hT hi w hv
      rw [List.mapM_cons, Sem.run_bind]
      simp only [resOne, hg]
      rw [hl]
      simp only [Sem.run_bind, Sem.run_pure, Result.andThen_ok, h1]
    · exact h.elim

theorem results_eq (fn : Func) (tmps : Array Value) : results fn tmps = (do let vs ← fn.results.mapM (resOne tmps); pure (if h : vs.size = 1 then vs[0] else .tuple vs)) := by
  unfold results
  congr 2
theorem run_results (hT : TabOk P T) {fn : Func} {e : Env} {a : Act} (ha : Mt e a) {w : World} {R : Value → Heap → Prop} (h : resP T e w.heap R fn.results.toList []) :
    ∃ v, (results fn a.tmps).run P w = .ok v w ∧ R v w.heap := by
  obtain ⟨us, h1, h2⟩ := resP_sound hT ha _ _ h
  refine ⟨oneV us, ?_, by simpa using h2⟩
  rw [results_eq, Sem.run_bind, Array.mapM_eq_mapM_toList, map_eq_pure_bind, Sem.run_bind, h1]
  simp only [Result.andThen_ok, Sem.run_pure]
  congr 1
  match us with
  | [] => rfl
  | [_] => rfl
  | _ :: _ :: _ => rfl

theorem argE_get : ∀ (vs : List Value) (t : Nat) (v : Value), argE vs t = some v → vs[t]? = some v
  | [], _, _, h => by simp [argE] at h
  | x :: xs, 0, v, h => by simpa [argE] using h
  | x :: xs, t + 1, v, h => by simp only [argE] at h; simpa using argE_get xs t v h

theorem runs_of (hT : TabOk P T) (hm : P.follows .mixedOrders = true) {f : Nat} {fn : Func} {c : Code} (hf : P.funcs[f]? = some fn) (hb : fn.body = some c) (hN : fn.ntmps = N)
    {args : List Value} {H : Heap} {R : Value → Heap → Prop} {X : List PanicEntry → Heap → Prop} (h : vcF T P A N fn.results.toList c args H R X) : Runs P f args H R X := by
  intro w hw
  subst hw
  unfold vcF at h
  cases hle : Nat.ble args.length N with
  | false => rw [hle] at h; exact h.elim
  | true =>
    rw [hle] at h; simp only [cond_true] at h
    have hle := Nat.le_of_ble_eq_true hle
    refine (callsIn_wide (n := 0)).1 ?_
    refine callsIn_of_wp hf hb trivial ?_
    let a0 : Act := { tmps := args.toArray ++ Array.replicate (fn.ntmps - args.toArray.size) undef, defers := [] }
    have hm0 : Mt (argE args) a0 := by
      intro t v ht
      have := argE_get args t v ht
      have hlt : t < args.length := (List.getElem?_eq_some_iff.1 this).1
      simp only [a0]
      rw [Array.getElem?_append_left (by simpa using hlt)]
      simpa using this
    have hs0 : a0.tmps.size = N := by
      simp only [a0]; simp; omega
    have hrel : ∀ (e' : Env) (a' : Act) (w' : World), Mt e' a' → Bc N (wr c) a0 w a' w' → resP T e' w'.heap R fn.results.toList [] →
        a'.defers = [] ∧ ∃ v, (results fn a'.tmps).run P w' = .ok v w' ∧ w'.os = w.os ∧ w'.output = w.output ∧ R v w'.heap := by
      intro e' a' w' hm' hb' hr
      obtain ⟨v, h1, h2⟩ := run_results hT hm' hr
      exact ⟨hb'.defers, v, h1, hb'.os, hb'.output, h2⟩
    refine vc_sound (ro := none) hT hm c 1 (argE args) a0 w _ [] _ X _ h hm0 hs0 ?_ ?_
    · intro c a a' w' hd hq
      exact ⟨hd.trans hq.1, hq.2⟩
    · refine ⟨fun e' a' w' hm' hb' hr => ?_, fun id k hid => by simp [exitK] at hid, fun e' a' w' hm' hb' hr => ?_, fun c a' w' hd h1 h2 hx => ⟨hd, h1, h2, hx⟩⟩
      · exact hrel e' a' w' hm' hb' hr
      · exact hrel e' a' w' hm' hb' hr
end
end Go.Proofs.YtdoimhpmnmmffaaGreat

/- The tables of a loaded program, and a call of a function by its loaded body. -/
namespace Go.Proofs.YtdoimhpmnmmffaaGreat
open Go

def tyOf (P : Program) (t : Nat) : Option TI := match P.underlying t, P.info? t with
  | some d, some i => match i.zero with
    | some z => some ⟨d, i.size, i.bytes, z⟩
    | none => none
  | _, _ => none

theorem tyOf_ok {P : Program} {t : Nat} {i : TI} (h : tyOf P t = some i) : P.underlying t = some i.desc ∧ ∃ inf, P.info? t = some inf ∧ inf.zero = some i.zero ∧ inf.size = i.size ∧ inf.bytes = i.bytes := by
  unfold tyOf at h
  split at h
  · rename_i d inf hd hi
    split at h
    · rename_i z hz
      cases h
      exact ⟨hd, inf, hi, hz, rfl, rfl⟩
    · cases h
  · cases h

def isFn (P : Program) (f : Nat) : Bool := match P.funcs[f]? with
  | some fn => fn.body.isSome && !(fn.name == "runtime.NumGoroutine")
  | none => false
theorem isFn_ok {P : Program} {f : Nat} (h : isFn P f = true) (args : Array Value) (w : World) : (callFunc f args).run P w = .ok (.enter f args) w := by
  unfold isFn at h
  split at h
  · rename_i fn hf
    simp only [Bool.and_eq_true, Bool.not_eq_true'] at h
    have h1 : fn.body.isNone = false := by
      cases hb : fn.body with
      | none => rw [hb] at h; simp at h
      | some c => rfl
    simp only [callFunc, Sem.run_bind, run_program, Result.andThen_ok, hf, h.2, h1]
    simp
  · cases h

def fnsOk (P : Program) (lo hi : Nat) : Bool := (List.range (hi - lo)).all fun k => isFn P (lo + k)
theorem fnsOk_at {P : Program} {lo hi f : Nat} (h : fnsOk P lo hi = true) (h1 : lo ≤ f) (h2 : f < hi) : isFn P f = true := by
  simp only [fnsOk, List.all_eq_true, List.mem_range] at h
  have := h (f - lo) (by omega)
  rwa [Nat.add_sub_cancel' h1] at this

def mkTab (P : Program) (me : Nat → String → Option Nat) (eq : Nat → Bool) (lo hi : Nat) : Tab where
  ty := tyOf P
  me := me
  eq := eq
  fn := fun f => Nat.ble lo f && Nat.blt f hi
/-- a method of a type -/
def MeOk (P : Program) (lo hi t : Nat) (nm : String) (f : Nat) : Prop := ∀ (a : Addr) (w : World),
    (method (P.types.size + Made.depth) t (.pointer (some a)) nm).run P w = .ok (f, .pointer (some a)) w ∧
    (nilAhead (P.types.size + Made.depth) t (.pointer (some a)) nm).run P w = .ok (some false) w ∧ (Nat.ble lo f && Nat.blt f hi) = true
def EqOk (P : Program) (t : Nat) : Prop := P.eqGuardType P.depth t = false ∧ P.stoodInHeld t = false ∧ ∃ f g : Field, P.underlying t = some (.struct #[f, g]) ∧ f.name ≠ "_" ∧ g.name ≠ "_" ∧ f.offset = 0 ∧ g.offset = 1 ∧ (∃ k, P.underlying f.type = some (.int k)) ∧ ∃ k, P.underlying g.type = some (.int k)
theorem mkTab_ok {P : Program} {me : Nat → String → Option Nat} {eq : Nat → Bool} {lo hi : Nat} (hf : fnsOk P lo hi = true) (hm : ∀ t nm f, me t nm = some f → MeOk P lo hi t nm f) (he : ∀ t, eq t = true → EqOk P t) : TabOk P (mkTab P me eq lo hi) where
  fn := fun f h => by
    have h : (Nat.ble lo f && Nat.blt f hi) = true := h
    simp only [Bool.and_eq_true] at h
    exact isFn_ok (fnsOk_at hf (Nat.le_of_ble_eq_true h.1) (Nat.le_of_ble_eq_true h.2))
  ty := fun t i h => tyOf_ok h
  me := fun t nm f h a w => hm t nm f h a w
  eq := fun t h => he t h

/-- the condition on a call of a loaded function -/
def vcB (T : Tab) (P : Program) (A : List (Nat × List Nat)) (fn : Func) (args : List Value) (H : Heap) (R : Value → Heap → Prop) (X : List PanicEntry → Heap → Prop) : Prop := match fn.body with
  | some c => vcF T P A fn.ntmps fn.results.toList c args H R X
  | none => False
theorem runs_b {P : Program} {T : Tab} (hT : TabOk P T) (hm : P.follows .mixedOrders = true) {A : List (Nat × List Nat)} {f : Nat} {fn : Func} (hf : P.funcs[f]? = some fn)
    {args : List Value} {H : Heap} {R : Value → Heap → Prop} {X : List PanicEntry → Heap → Prop} (h : vcB T P A fn args H R X) : Runs P f args H R X := by
  unfold vcB at h
  split at h
  · rename_i c hb
    exact runs_of hT hm hf hb rfl h
  · exact h.elim
theorem runs_e {P : Program} {T : Tab} (hT : TabOk P T) (hm : P.follows .mixedOrders = true) {A : List (Nat × List Nat)} {f : Nat} {fn : Func} (hf : P.funcs[f]? = some fn)
    {args : List Value} {H : Heap} {R : Value → Heap → Prop} {X : List PanicEntry → Heap → Prop} {I : Prop} (e : vcB T P A fn args H R X = I) (h : I) : Runs P f args H R X := runs_b hT hm hf (Eq.mpr e h)
end Go.Proofs.YtdoimhpmnmmffaaGreat

/- Rules by which the conditions are worked through. No condition. -/
namespace Go.Proofs.YtdoimhpmnmmffaaGreat
open Go

section
variable {α : Type} {P : Program} {T : Tab}

@[congr] theorem Gt_congr {o o' : Option α} {K : α → Prop} (h : o = o') : Gt o K = Gt o' K := by rw [h]
@[simp] theorem Gt_some {a : α} {K : α → Prop} : Gt (some a) K ↔ K a := ⟨fun ⟨_, h, k⟩ => by cases h; exact k, fun k => ⟨a, rfl, k⟩⟩
@[simp] theorem Gt_none {K : α → Prop} : Gt none K ↔ False := ⟨(fun ⟨_, h, _⟩ => by cases h), False.elim⟩
@[congr] theorem If_congr {v v' : Value} {A B : Prop} (h : v = v') : If v A B = If v' A B := by rw [h]
@[simp] theorem If_true {A B : Prop} : If (.bool true) A B ↔ A := ⟨fun ⟨_, h, t, _⟩ => by cases h; exact t rfl, fun a => ⟨true, rfl, fun _ => a, fun h => by cases h⟩⟩
@[simp] theorem If_false {A B : Prop} : If (.bool false) A B ↔ B := ⟨fun ⟨_, h, _, f⟩ => by cases h; exact f rfl, fun b => ⟨false, rfl, (fun h => by cases h), fun _ => b⟩⟩
theorem If_iff {b : Bool} {A B : Prop} : If (.bool b) A B ↔ (b = true → A) ∧ (b = false → B) := ⟨fun ⟨_, h, t, f⟩ => by cases h; exact ⟨t, f⟩, fun h => ⟨b, rfl, h.1, h.2⟩⟩
@[congr] theorem Nw_congr {o o' : Obj} {H H' : Heap} {K : Nat → Heap → Prop} (h : o = o') (h2 : H = H') : Nw o H K = Nw o' H' K := by rw [h, h2]
@[simp] theorem Nw_iff {o : Obj} {H : Heap} {K : Nat → Heap → Prop} : Nw o H K ↔ K H.size (H.push o) := ⟨fun ⟨k⟩ => k, fun k => ⟨k⟩⟩
@[congr] theorem Sm_congr {o o' : Option Value} {v : Value} {q : Prop} (h : o = o') : Sm o v q = Sm o' v q := by rw [h]
@[simp] theorem Sm_some {v : Value} {q : Prop} : Sm (some v) v q ↔ q := ⟨fun ⟨_, k⟩ => k, fun k => ⟨rfl, k⟩⟩
theorem Sm_iff {o : Option Value} {v : Value} {q : Prop} : Sm o v q ↔ o = some v ∧ q := ⟨fun ⟨h, k⟩ => ⟨h, k⟩, fun ⟨h, k⟩ => ⟨h, k⟩⟩
@[congr] theorem Ca_congr {f : Nat} {as_ as_' : List Value} {H : Heap} {K : Value → Heap → Prop} {X : List PanicEntry → Heap → Prop} (h : as_ = as_') : Ca P f as_ H K X = Ca P f as_' H K X := by rw [h]
@[congr] theorem Cv_congr {f f' : Value} {as_ as_' : List Value} {H : Heap} {K : Value → Heap → Prop} {X : List PanicEntry → Heap → Prop} (h : f = f') (h2 : as_ = as_') : Cv P T f as_ H K X = Cv P T f' as_' H K X := by rw [h, h2]
@[congr] theorem Ap_congr {z size bytes : Nat} {zero s s' x x' : Value} {H : Heap} {K : Value → Heap → Prop} (h : s = s') (h2 : x = x') : Ap z size bytes zero s x H K = Ap z size bytes zero s' x' H K := by rw [h, h2]
@[congr] theorem Nx_congr {v v' : Value} {H : Heap} {K : Value → Heap → Prop} (h : v = v') : Nx v H K = Nx v' H K := by rw [h]

theorem Ca_of {f : Nat} {as_ : List Value} {H : Heap} {R K : Value → Heap → Prop} {Y X : List PanicEntry → Heap → Prop} (h : Runs P f as_ H R Y) (hr : ∀ v H', R v H' → K v H') (hx : ∀ c H', Y c H' → X c H') : Ca P f as_ H K X := ⟨h.mono hr hx⟩

theorem Jo0 {C : Heap → Prop} {B : (Heap → Prop) → Prop} (h : B C) : Jo (fun (I : Heap → Prop) => ∀ H, I H → C H) B := ⟨C, fun _ h => h, h⟩
theorem Jo1 {C : Value → Heap → Prop} {B : (Value → Heap → Prop) → Prop} (h : B C) : Jo (fun (I : Value → Heap → Prop) => ∀ H x, I x H → C x H) B := ⟨C, fun _ _ h => h, h⟩
theorem Jo2 {C : Value → Value → Heap → Prop} {B : (Value → Value → Heap → Prop) → Prop} (h : B C) : Jo (fun (I : Value → Value → Heap → Prop) => ∀ H x y, I x y H → C x y H) B := ⟨C, fun _ _ _ h => h, h⟩
theorem Jo3 {C : Value → Value → Value → Heap → Prop} {B : (Value → Value → Value → Heap → Prop) → Prop} (h : B C) : Jo (fun (I : Value → Value → Value → Heap → Prop) => ∀ H x y z, I x y z H → C x y z H) B := ⟨C, fun _ _ _ _ h => h, h⟩

/-! ### memory -/
/-- nothing that was there is changed -/
structure Grow (H H' : Heap) : Prop where
  size : H.size ≤ H'.size
  get : ∀ b, b < H.size → H'[b]? = H[b]?
theorem Grow.refl (H : Heap) : Grow H H := ⟨Nat.le_refl _, fun _ _ => rfl⟩
theorem Grow.trans {H H' H'' : Heap} (h : Grow H H') (h' : Grow H' H'') : Grow H H'' := ⟨Nat.le_trans h.size h'.size, fun b hb => (h'.get b (Nat.lt_of_lt_of_le hb h.size)).trans (h.get b hb)⟩
theorem Grow.push {H : Heap} {o : Obj} : Grow H (H.push o) := ⟨by simp, fun b hb => by rw [Array.getElem?_push]; split; omega; rfl⟩

@[simp] theorem rdv_ptr {b o : Nat} {H : Heap} : rdv (.pointer (some ⟨b, o, none⟩)) H = rdc H b o := rfl
@[simp] theorem rda_ptr {n b o : Nat} {H : Heap} : rda n (.pointer (some ⟨b, o, none⟩)) H = (rdn H b o n).map fun l => .agg l.toArray := rfl
theorem rdc_of {H : Heap} {b o : Nat} {c : Array Value} {t : Nat} {m : Nat × Nat} (h : H[b]? = some (.cells c t m)) : rdc H b o = c[o]? := by unfold rdc; rw [h]
@[simp] theorem faV_ptr {off b o : Nat} : faV off (.pointer (some ⟨b, o, none⟩)) = some (.pointer (some ⟨b, o + off, none⟩)) := rfl
@[simp] theorem ncV_ptr {a : Addr} : ncV T (.pointer (some a)) = some (.pointer (some a)) := rfl
@[simp] theorem lnV_slice {a : Option Addr} {n c : Nat} : lnV (.slice a n c) = some (.int .i64 n) := rfl
@[simp] theorem lsV_str {s : ByteArray} : lsV (.string s) = some (.int .i64 s.size) := rfl
@[simp] theorem exV_tuple {i : Nat} {vs : Array Value} : exV i (.tuple vs) = vs[i]? := rfl
@[simp] theorem pickV_bool {b : Bool} {x y : Value} : pickV (.bool b) x y = some (bif b then x else y) := rfl
@[simp] theorem unV_not {b : Bool} : unV .not (.bool b) = some (.bool !b) := rfl
@[simp] theorem cvV_int {j k : IntKind} {n : Int} : cvV k (.int j n) = some (.int k (k.wrap n)) := rfl
@[simp] theorem ifO_true {a b : Option Value} : ifO (.bool true) a b = a := rfl
@[simp] theorem ifO_false {a b : Option Value} : ifO (.bool false) a b = b := rfl
@[simp] theorem ptrEq_nil_l {n : Nat} {a : Option Addr} {H : Heap} : ptrEq n (.pointer none) (.pointer a) H = some a.isNone := by cases a <;> rfl
@[simp] theorem ptrEq_nil_r {n : Nat} {a : Option Addr} {H : Heap} : ptrEq n (.pointer a) (.pointer none) H = some a.isNone := by cases a <;> rfl
@[simp] theorem binI_add {k : IntKind} {m n : Int} : binI .add (.int k m) (.int k n) = some (.int k (k.wrap (m + n))) := by simp [binI, intV]
@[simp] theorem binI_sub {k : IntKind} {m n : Int} : binI .sub (.int k m) (.int k n) = some (.int k (k.wrap (m - n))) := by simp [binI, intV]
@[simp] theorem binI_mul {k : IntKind} {m n : Int} : binI .mul (.int k m) (.int k n) = some (.int k (k.wrap (m * n))) := by simp [binI, intV]
@[simp] theorem binI_eql {k : IntKind} {m n : Int} : binI .eql (.int k m) (.int k n) = some (.bool (m == n)) := by simp [binI, intV]
@[simp] theorem binI_neq {k : IntKind} {m n : Int} : binI .neq (.int k m) (.int k n) = some (.bool (m != n)) := by simp [binI, intV]
@[simp] theorem binI_lss {k : IntKind} {m n : Int} : binI .lss (.int k m) (.int k n) = some (.bool (decide (m < n))) := by simp [binI, intV]
@[simp] theorem binI_leq {k : IntKind} {m n : Int} : binI .leq (.int k m) (.int k n) = some (.bool (decide (m ≤ n))) := by simp [binI, intV]
@[simp] theorem binI_gtr {k : IntKind} {m n : Int} : binI .gtr (.int k m) (.int k n) = some (.bool (decide (m > n))) := by simp [binI, intV]
@[simp] theorem binI_geq {k : IntKind} {m n : Int} : binI .geq (.int k m) (.int k n) = some (.bool (decide (m ≥ n))) := by simp [binI, intV]
@[simp] theorem binS_eql {s t : ByteArray} : binS .eql (.string s) (.string t) = some (.bool (s.toList == t.toList)) := rfl
@[simp] theorem binS_neq {s t : ByteArray} : binS .neq (.string s) (.string t) = some (.bool !(s.toList == t.toList)) := rfl

theorem stC_of {H : Heap} {b o : Nat} {c : Array Value} {t : Nat} {vs : List Value} (h : H[b]? = some (.cells c t (0, 0))) (hl : o + vs.length ≤ c.size) (hv : vs.all Value.oneCell' = true) (hn : vs ≠ []) :
    stC H b o vs = some (H.setIfInBounds b (.cells (putL c.toList o vs).toArray t (0, 0))) := by
  cases vs with
  | nil => exact absurd rfl hn
  | cons v vs => simp only [stC, h]; rw [if_pos ⟨hl, hv⟩]

theorem stV_of {n b o t : Nat} {c : Array Value} {v : Value} {H : Heap} (h : H[b]? = some (.cells c t (0, 0))) (hn : v.cells.size = n) (hp : 0 < n) (hl : o + n ≤ c.size) (hv : v.cells.toList.all Value.oneCell' = true) :
    stV n (.pointer (some ⟨b, o, none⟩)) v H = some (H.setIfInBounds b (.cells (putL c.toList o v.cells.toList).toArray t (0, 0))) := by
  unfold stV; dsimp only
  rw [if_pos hn]
  exact stC_of h (by simp only [Array.length_toList]; omega) hv (fun e => by have := congrArg List.length e; simp only [Array.length_toList, List.length_nil] at this; omega)
theorem stV1 {b o t : Nat} {c : Array Value} {v : Value} {H : Heap} (h : H[b]? = some (.cells c t (0, 0))) (ho : o < c.size) (hv : v.cells = #[v]) (h1 : v.oneCell' = true) :
    stV 1 (.pointer (some ⟨b, o, none⟩)) v H = some (H.setIfInBounds b (.cells (c.setIfInBounds o v) t (0, 0))) := by
  rw [stV_of h (by rw [hv]; rfl) (by decide) (by omega) (by rw [hv]; simp [h1])]
  congr 3
  rw [hv]
  apply Array.ext'
  rw [Array.toList_setIfInBounds, List.set_eq_take_append_cons_drop, if_pos (by simpa using ho)]
  simp [putL]
theorem get_push_lt {H : Heap} {o : Obj} {b : Nat} (h : b < H.size) : (H.push o)[b]? = H[b]? := by rw [Array.getElem?_push, if_neg (by omega)]
theorem get_push_eq {H : Heap} {o : Obj} : (H.push o)[H.size]? = some o := by simp
theorem get_set_ne {H : Heap} {o : Obj} {b c : Nat} (h : b ≠ c) : (H.setIfInBounds b o)[c]? = H[c]? := Array.getElem?_setIfInBounds_ne h
theorem get_set_eq {H : Heap} {o : Obj} {b : Nat} (h : b < H.size) : (H.setIfInBounds b o)[b]? = some o := by simp [h]
@[simp] theorem If_if {v : Value} {A B C : Prop} : If v (If v A B) C ↔ If v A C := by
  constructor
  · rintro ⟨b, rfl, t, f⟩
    refine ⟨b, rfl, fun h => ?_, f⟩
    obtain ⟨b', e, t', _⟩ := t h
    cases e; exact t' h
  · rintro ⟨b, rfl, t, f⟩
    exact ⟨b, rfl, fun h => ⟨b, rfl, t, fun h' => by rw [h] at h'; cases h'⟩, f⟩
@[simp] theorem If_or {a b : Bool} {A C : Prop} : If (.bool a) A (If (.bool b) A C) ↔ If (.bool (a || b)) A C := by cases a <;> simp
@[simp] theorem ifO_and {b c : Bool} : ifO (.bool b) (some (.bool c)) (some (.bool false)) = some (.bool (b && c)) := by cases b <;> rfl
@[simp] theorem ifO_or {b c : Bool} : ifO (.bool b) (some (.bool true)) (some (.bool c)) = some (.bool (b || c)) := by cases b <;> rfl
end
end Go.Proofs.YtdoimhpmnmmffaaGreat

/- Memory: what a call leaves as it is; slices that a function owns, and what append does to them. No condition but those in each statement. -/
namespace Go.Proofs.YtdoimhpmnmmffaaGreat
open Go

/-- all that was there, but what M names, is as it was -/
structure Keep (M : Nat → Prop) (H H' : Heap) : Prop where
  size : H.size ≤ H'.size
  get : ∀ b, b < H.size → ¬ M b → H'[b]? = H[b]?
def no (_ : Nat) : Prop := False
theorem Keep.refl {M : Nat → Prop} (H : Heap) : Keep M H H := ⟨Nat.le_refl _, fun _ _ _ => rfl⟩
theorem Keep.trans {M : Nat → Prop} {H H' H'' : Heap} (h : Keep M H H') (h' : Keep M H' H'') : Keep M H H'' :=
  ⟨Nat.le_trans h.size h'.size, fun b hb hm => (h'.get b (Nat.lt_of_lt_of_le hb h.size) hm).trans (h.get b hb hm)⟩
theorem Keep.mono {M M' : Nat → Prop} {H H' : Heap} (h : Keep M H H') (hs : ∀ b, b < H.size → M b → M' b) : Keep M' H H' := ⟨h.size, fun b hb hm => h.get b hb fun hb' => hm (hs b hb hb')⟩
/-- the second step may also change what is new -/
theorem Keep.trans' {M M' : Nat → Prop} {H H' H'' : Heap} (h : Keep M H H') (h' : Keep M' H' H'') (hs : ∀ b, M' b → M b ∨ H.size ≤ b) : Keep M H H'' :=
  ⟨Nat.le_trans h.size h'.size, fun b hb hm => (h'.get b (Nat.lt_of_lt_of_le hb h.size) (fun hb' => by rcases hs b hb' with h1 | h1; exact hm h1; omega)).trans (h.get b hb hm)⟩
theorem Keep.push {M : Nat → Prop} {H : Heap} {o : Obj} : Keep M H (H.push o) := ⟨by simp, fun b hb _ => get_push_lt hb⟩
theorem Keep.set {M : Nat → Prop} {H : Heap} {o : Obj} {b : Nat} (hb : M b) : Keep M H (H.setIfInBounds b o) := ⟨by simp, fun c _ hm => get_set_ne (fun e => hm (e ▸ hb))⟩
theorem Keep.lt {M : Nat → Prop} {H H' : Heap} (h : Keep M H H') {b : Nat} (hb : b < H.size) : b < H'.size := Nat.lt_of_lt_of_le hb h.size
theorem lt_of_get {H : Heap} {b : Nat} {o : Obj} (h : H[b]? = some o) : b < H.size := (Array.getElem?_eq_some_iff.1 h).1
theorem Keep.at {M : Nat → Prop} {H H' : Heap} (h : Keep M H H') {b : Nat} {o : Obj} (hb : H[b]? = some o) (hm : ¬ M b) : H'[b]? = some o := (h.get b (lt_of_get hb) hm).trans hb

theorem rdn_at {H : Heap} {b t : Nat} {m : Nat × Nat} {cs : Array Value} (h : H[b]? = some (.cells cs t m)) : ∀ (n o : Nat), o + n ≤ cs.size → rdn H b o n = some ((cs.toList.drop o).take n)
  | 0, o, _ => by simp [rdn]
  | n + 1, o, hl => by
    simp only [rdn, rdc_of h]
    rw [rdn_at h n (o + 1) (by omega)]
    have ho : o < cs.size := by omega
    have : cs.toList.drop o = cs[o] :: cs.toList.drop (o + 1) := by
      rw [List.drop_eq_getElem_cons (by simpa using ho)]; simp
    simp [ho, this]

/-- the block of a slice -/
def ob (v : Value) (b : Nat) : Prop := ∃ o n c, v = .slice (some ⟨b, o, none⟩) n c
/-- a slice from its block's start, with its cells -/
inductive Own (z size : Nat) (H : Heap) : Value → Nat → List Value → Prop
  | nil : Own z size H (.slice none 0 0) 0 []
  | blk (b n c : Nat) (cs : Array Value) (xs : List Value) (h : H[b]? = some (.cells cs z (0, 0))) (hl : xs.length = n * size) (hn : n ≤ c) (hc : c * size ≤ cs.size) (ht : cs.toList.take (n * size) = xs) :
      Own z size H (.slice (some ⟨b, 0, none⟩) n c) n xs

theorem Own.keep {z size : Nat} {H H' : Heap} {M : Nat → Prop} {v : Value} {n : Nat} {xs : List Value} (h : Own z size H v n xs) (k : Keep M H H') (hm : ∀ b, ob v b → ¬ M b) : Own z size H' v n xs := by
  cases h with
  | nil => exact .nil
  | blk b n c cs xs h hl hn hc ht => exact .blk b n c cs xs (k.at h (hm b ⟨0, n, c, rfl⟩)) hl hn hc ht
theorem Own.lt {z size : Nat} {H : Heap} {v : Value} {n : Nat} {xs : List Value} (h : Own z size H v n xs) {b : Nat} (hb : ob v b) : b < H.size := by
  cases h with
  | nil => obtain ⟨_, _, _, h⟩ := hb; cases h
  | blk b' n c cs xs h => obtain ⟨_, _, _, he⟩ := hb; cases he; exact lt_of_get h
theorem Own.len {z size : Nat} {H : Heap} {v : Value} {n : Nat} {xs : List Value} (h : Own z size H v n xs) : xs.length = n * size := by
  cases h with
  | nil => simp
  | blk b n c cs xs h hl => exact hl
theorem Own.src {z size : Nat} {H : Heap} {v : Value} {n : Nat} {xs : List Value} (h : Own z size H v n xs) : srcC size v H = some (n, xs) := by
  cases h with
  | nil => rfl
  | blk b n c cs xs h hl hn hc ht =>
    have h1 : n * size ≤ c * size := Nat.mul_le_mul_right _ hn
    simp only [srcC, rdn_at h (n * size) 0 (by omega), List.drop_zero, ht, Option.map_some]

theorem ap_own {z size bytes : Nat} {zero s x : Value} {H : Heap} {n m : Nat} {cells xs : List Value} {K : Value → Heap → Prop} (hs : Own z size H s n cells) (hx : srcC size x H = some (m, xs)) (hxl : xs.length = m * size) (hone : xs.all Value.oneCell' = true)
    (hz : zero.cells.size = size) (hfit : (n + m) * bytes ≤ 140737488355328)
    (hK : ∀ v H', Keep (ob s) H H' → (∀ b, ob v b → ob s b ∨ H.size ≤ b) → Own z size H' v (n + m) (cells ++ xs) → K v H') : Ap z size bytes zero s x H K := by
  cases hs with
  | nil =>
    refine ⟨none, 0, 0, m, xs, rfl, hx, fun hr => ?_, fun hg => ?_⟩
    · have : m = 0 := by omega
      subst this
      have : xs = [] := by simpa using hxl
      subst this
      exact ⟨H, rfl, hK _ _ (.refl H) (fun b hb => .inl hb) .nil⟩
    · refine ⟨growslice_fits hg hfit, [], by simp [srcB], fun cap hcap => ?_⟩
      refine hK _ _ .push (fun b hb => ?_) ?_
      · obtain ⟨_, _, _, he⟩ := hb; cases he; exact .inr (Nat.le_refl _)
      · refine .blk _ _ _ _ _ get_push_eq (by simpa using hxl) hcap ?_ ?_
        · simp only [Array.size_append, List.size_toArray, List.length_nil, size_zeroCells, hz, hxl]
          have : cap * size = m * size + (cap - (0 + m)) * size := by rw [← Nat.add_mul]; congr 1; omega
          omega
        · simp [← hxl]
  | blk b n c cs cells h hl hn hc ht =>
    have hnc : n * size ≤ c * size := Nat.mul_le_mul_right _ hn
    refine ⟨some ⟨b, 0, none⟩, n, c, m, xs, rfl, hx, fun hr => ?_, fun hg => ?_⟩
    · have hrc : (n + m) * size ≤ c * size := Nat.mul_le_mul_right _ hr
      rw [Nat.add_mul] at hrc
      by_cases hnil : xs = []
      · subst hnil
        refine ⟨H, by simp [stB, stC], hK _ _ (.refl H) (fun b hb => ?_) ?_⟩
        · obtain ⟨_, _, _, he⟩ := hb; cases he; exact .inl ⟨_, _, _, rfl⟩
        · have hm0 : m * size = 0 := by simpa using hxl.symm
          refine .blk _ _ _ _ _ h ?_ hr hc ?_
          · rw [Nat.add_mul]; simp [hl, hm0]
          · rw [Nat.add_mul, hm0]; simpa using ht
      · refine ⟨H.setIfInBounds b (.cells (putL cs.toList (n * size) xs).toArray z (0, 0)), ?_, hK _ _ (.set (b := b) ⟨0, n, c, rfl⟩) (fun b hb => ?_) ?_⟩
        · simp only [stB, Nat.zero_add]
          exact stC_of h (by omega) hone hnil
        · obtain ⟨_, _, _, he⟩ := hb; cases he; exact .inl ⟨_, _, _, rfl⟩
        · refine .blk _ _ _ _ _ (get_set_eq (lt_of_get h)) ?_ hr ?_ ?_
          · rw [Nat.add_mul]; simp [hl, hxl]
          · simp only [putL, List.size_toArray, List.length_append, List.length_take, List.length_drop, Array.length_toList]
            omega
          · simp only [putL]
            have e1 : (cs.toList.take (n * size)).length = n * size := by simp; omega
            rw [Nat.add_mul, List.append_assoc, List.take_append, e1, ht]
            have : n * size + m * size - n * size = xs.length := by omega
            rw [this, List.take_append]
            have h0 : List.take (n * size + m * size) cells = cells := List.take_of_length_le (by omega)
            rw [h0]; simp
    · refine ⟨growslice_fits hg hfit, cells, ?_, fun cap hcap => ?_⟩
      · simp only [srcB, rdn_at h (n * size) 0 (by omega), List.drop_zero, ht]
      · refine hK _ _ .push (fun b hb => ?_) ?_
        · obtain ⟨_, _, _, he⟩ := hb; cases he; exact .inr (Nat.le_refl _)
        · refine .blk _ _ _ _ _ get_push_eq ?_ hcap ?_ ?_
          · rw [Nat.add_mul]; simp [hl, hxl]
          · simp only [Array.size_append, List.size_toArray, size_zeroCells, hz, hxl, hl]
            have : cap = (n + m) + (cap - (n + m)) := by omega
            conv => lhs; rw [this, Nat.add_mul, Nat.add_mul]
            omega
          · rw [Nat.add_mul]
            simp only [Array.toList_append, List.append_assoc]
            rw [List.take_append, hl, List.take_of_length_le (by omega), List.take_append]
            have : n * size + m * size - n * size = xs.length := by omega
            rw [this]; simp
end Go.Proofs.YtdoimhpmnmmffaaGreat

/- The tables of this seat's program. No condition. -/
namespace Go.Proofs.YtdoimhpmnmmffaaGreat
open Go

/-- methods that are called through an interface -/
def mes (t : Nat) (nm : String) : Option Nat := bif Nat.beq t 55 then (bif nm == "Get" then some 21 else bif nm == "Scan" then some 23 else bif nm == "Horizon" then some 27 else none) else none
noncomputable def tb : Tab := mkTab Tryz.prog mes (fun t => Nat.beq t 44) 3 312

theorem fns_pr : fnsOk Tryz.prog 3 312 = true := by kernel_rfl
theorem mixed : Tryz.prog.follows .mixedOrders = true := by kernel_rfl
theorem meGet : MeOk Tryz.prog 3 312 55 "Get" 21 := fun a w => ⟨by kernel_rfl, by kernel_rfl, by kernel_rfl⟩
theorem meScan : MeOk Tryz.prog 3 312 55 "Scan" 23 := fun a w => ⟨by kernel_rfl, by kernel_rfl, by kernel_rfl⟩
theorem meHorizon : MeOk Tryz.prog 3 312 55 "Horizon" 27 := fun a w => ⟨by kernel_rfl, by kernel_rfl, by kernel_rfl⟩
theorem mesOk : ∀ t nm f, mes t nm = some f → MeOk Tryz.prog 3 312 t nm f := by
  intro t nm f h
  unfold mes at h
  cases ht : Nat.beq t 55 with
  | false => rw [ht] at h; cases h
  | true =>
    rw [ht] at h; simp only [cond_true] at h
    have := Nat.eq_of_beq_eq_true ht; subst this
    cases h1 : nm == "Get" with
    | true =>
      rw [h1] at h; simp only [cond_true, Option.some.injEq] at h; subst h
      have := eq_of_beq h1; subst this
      exact meGet
    | false =>
      rw [h1] at h; simp only [cond_false] at h
      cases h2 : nm == "Scan" with
      | true =>
        rw [h2] at h; simp only [cond_true, Option.some.injEq] at h; subst h
        have := eq_of_beq h2; subst this
        exact meScan
      | false =>
        rw [h2] at h; simp only [cond_false] at h
        cases h3 : nm == "Horizon" with
        | true =>
          rw [h3] at h; simp only [cond_true, Option.some.injEq] at h; subst h
          have := eq_of_beq h3; subst this
          exact meHorizon
        | false => rw [h3] at h; cases h
theorem eqOk44 : EqOk Tryz.prog 44 := ⟨by kernel_rfl, by kernel_rfl, { name := "Life", type := 3, offset := 0, embedded := false, tag := "", pkgPath := "", byteOffset := 0 },
      { name := "Number", type := 3, offset := 1, embedded := false, tag := "", pkgPath := "", byteOffset := 8 }, by kernel_rfl, by decide, by decide, rfl, rfl, ⟨.i64, by kernel_rfl⟩, ⟨.i64, by kernel_rfl⟩⟩
theorem tbOk : TabOk Tryz.prog tb := mkTab_ok fns_pr mesOk (fun t h => by
  have := Nat.eq_of_beq_eq_true h; subst this; exact eqOk44)
end Go.Proofs.YtdoimhpmnmmffaaGreat

/- Zero values of this program's types, printed by wip/tools/formulas.py. -/
namespace Go.Proofs.YtdoimhpmnmmffaaGreat
open Go

def z3 : Value := .int .i64 0
def z5 : Value := .int .u8 0
def z9 : Value := .string ⟨#[]⟩
def z26 : Value := .agg #[.slice none 0 0, .slice none 0 0, .slice none 0 0]
def z35 : Value := .agg #[.slice none 0 0, .slice none 0 0, .slice none 0 0, .int .i64 0, .slice none 0 0, .slice none 0 0]
def z37 : Value := .agg #[.slice none 0 0, .slice none 0 0, .slice none 0 0, .pointer none, .slice none 0 0, .slice none 0 0, .slice none 0 0, .slice none 0 0, .int .i64 0, .slice none 0 0, .slice none 0 0]
def z44 : Value := .agg #[.int .i64 0, .int .i64 0]
def z45 : Value := .slice none 0 0
def z47 : Value := .agg #[.int .i64 0, .int .i64 0, .int .i64 0, .int .i64 0, .string ⟨#[]⟩, .string ⟨#[]⟩, .slice none 0 0, .int .i64 0]
def z49 : Value := .agg #[.int .i64 0, .int .i64 0, .int .i64 0, .int .i64 0, .int .i64 0, .int .i64 0, .string ⟨#[]⟩, .string ⟨#[]⟩, .slice none 0 0, .int .i64 0, .int .i64 0, .string ⟨#[]⟩, .string ⟨#[]⟩, .int .i64 0, .int .i64 0, .bool false, .bool false]
def z51 : Value := .slice none 0 0
def z55 : Value := .pointer none
def z58 : Value := .slice none 0 0
def z59 : Value := .slice none 0 0
def z61 : Value := .agg #[.string ⟨#[]⟩, .slice none 0 0, .bool false]
def z63 : Value := .agg #[.string ⟨#[]⟩, .int .i64 0]
def z67 : Value := .agg #[.int .i64 0, .int .i64 0, .int .i64 0, .int .i64 0, .int .i64 0, .bool false, .slice none 0 0, .slice none 0 0, .bool false, .int .i64 0]
def z79 : Value := .agg #[.int .i64 0, .slice none 0 0]
def z96 : Value := .agg #[.slice none 0 0, .int .i64 0, .int .i64 0, .int .i64 0, .int .i64 0, .int .i64 0, .int .i64 0, .string ⟨#[]⟩, .string ⟨#[]⟩, .slice none 0 0, .int .i64 0, .int .i64 0, .string ⟨#[]⟩, .string ⟨#[]⟩, .int .i64 0, .int .i64 0, .bool false, .bool false, .slice none 0 0, .slice none 0 0]
def z104 : Value := .agg #[.int .i64 0, .int .i64 0, .int .i64 0, .int .i64 0, .int .i64 0]
def z111 : Value := .pointer none
def z116 : Value := .agg #[.slice none 0 0, .slice none 0 0, .slice none 0 0, .int .i64 0, .slice none 0 0, .pointer none, .pointer none, .pointer none, .pointer none, .pointer none]
def z119 : Value := .pointer none
def z121 : Value := .agg #[.int .i64 0, .int .i64 0, .int .i64 0, .int .i64 0, .int .i64 0, .string ⟨#[]⟩, .string ⟨#[]⟩, .slice none 0 0, .int .i64 0, .pointer none, .slice none 0 0]
def z131 : Value := .agg #[.string ⟨#[]⟩, .slice none 0 0]
def z134 : Value := .agg #[.int .i64 0, .slice none 0 0]
def z139 : Value := .agg #[.int .i64 0, .int .i64 0, .int .u8 0]
def z141 : Value := .agg #[.pointer none, .int .i64 0, .int .i64 0, .int .u8 0, .int .i64 0]
def z144 : Value := .agg #[.slice none 0 0, .bool false]
def z154 : Value := .int .u64 0
def z155 : Value := .int .u64 0
def z167 : Value := .agg #[.map none, .int .i64 0]
def z168 : Value := .pointer none
def z174 : Value := .nilFunc
def z179 : Value := .agg #[.pointer none, .int .i64 0]
def z182 : Value := .agg #[.int .i64 0, .int .i64 0, .int .i64 0, .string ⟨#[]⟩, .slice none 0 0, .bool false]
def z190 : Value := .agg #[.string ⟨#[]⟩, .int .i64 0, .slice none 0 0, .bool false]
def z194 : Value := .agg #[.int .i64 0, .slice none 0 0, .bool false]
def z200 : Value := .agg #[.int .i64 0, .int .i64 0, .int .i64 0, .int .i64 0, .int .i64 0]
def z205 : Value := .agg #[.int .i64 0, .int .i64 0]
def z207 : Value := .agg #[.int .i64 0, .slice none 0 0, .int .i64 0]
def z225 : Value := .agg #[.int .i64 0, .int .i64 0, .slice none 0 0, .slice none 0 0, .bool false]
def z236 : Value := .agg #[.slice none 0 0]
def z244 : Value := .agg #[.int .i64 0, .slice none 0 0, .slice none 0 0]
def z246 : Value := .map none
def z290 : Value := .agg #[.int .i64 0, .slice none 0 0, .pointer none, .bool false]
def z317 : Value := .agg #[.pointer none, .int .i64 0, .int .i64 0]
def z322 : Value := .agg #[.map none, .int .i64 0]
def z337 : Value := .agg #[.int .u32 0, .int .u32 0, .int .u32 0, .int .u32 0, .int .u32 0, .int .u32 0, .int .u32 0, .int .u32 0, .int .u32 0, .int .u32 0, .int .u32 0, .int .u32 0, .int .u32 0, .int .u32 0, .int .u32 0, .int .u32 0]
def z359 : Value := .agg #[.slice none 0 0, .bool false]
def z386 : Value := .agg #[.slice none 0 0, .int .i64 0, .int .i64 0]
def z390 : Value := .int .u64 0
end Go.Proofs.YtdoimhpmnmmffaaGreat

/- Bytes: slices and texts that are read; appending. No condition but those in each statement. -/
namespace Go.Proofs.YtdoimhpmnmmffaaGreat
open Go

def bv (u : UInt8) : Value := .int .u8 u.toNat
def bvs (l : List UInt8) : List Value := l.map bv
@[simp] theorem bvs_len {l : List UInt8} : (bvs l).length = l.length := by simp [bvs]
@[simp] theorem bvs_app {l m : List UInt8} : bvs (l ++ m) = bvs l ++ bvs m := by simp [bvs]
@[simp] theorem bvs_nil : bvs [] = [] := rfl
@[simp] theorem bvs_cons {u : UInt8} {l : List UInt8} : bvs (u :: l) = bv u :: bvs l := rfl
theorem bvs_one {l : List UInt8} : (bvs l).all Value.oneCell' = true := by
  induction l with
  | nil => rfl
  | cons u l ih => simpa [bv, Value.oneCell'] using ih
/-- a slice of bytes, or a text, that is read -/
def By (H : Heap) (v : Value) (bs : List UInt8) : Prop := srcC 1 v H = some (bs.length, bvs bs)

theorem rdn_keep {M : Nat → Prop} {H H' : Heap} (k : Keep M H H') {b : Nat} (hm : ¬ M b) : ∀ (n o : Nat) {l : List Value}, rdn H b o n = some l → rdn H' b o n = some l
  | 0, _, _, h => h
  | n + 1, o, l, h => by
    simp only [rdn] at h ⊢
    split at h
    · rename_i v vs hv hvs
      have : H'[b]? = H[b]? := by
        unfold rdc at hv
        split at hv
        · rename_i hb; exact k.get b (lt_of_get hb) hm
        · cases hv
      have hv' : rdc H' b o = some v := by unfold rdc at hv ⊢; rw [this]; exact hv
      rw [hv', rdn_keep k hm n _ hvs]; exact h
    · cases h
theorem srcC_keep {size : Nat} {M : Nat → Prop} {H H' : Heap} {v : Value} {p : Nat × List Value} (h : srcC size v H = some p) (k : Keep M H H') (hm : ∀ b, ob v b → ¬ M b) : srcC size v H' = some p := by
  unfold srcC at h ⊢
  split at h
  · exact h
  · rename_i b o n c
    simp only [Option.map_eq_some_iff] at h ⊢
    obtain ⟨l, hl, rfl⟩ := h
    exact ⟨l, rdn_keep k (hm b ⟨o, n, c, rfl⟩) _ _ hl, rfl⟩
  · exact h
  · cases h
theorem By.keep {M : Nat → Prop} {H H' : Heap} {v : Value} {bs : List UInt8} (h : By H v bs) (k : Keep M H H') (hm : ∀ b, ob v b → ¬ M b) : By H' v bs := srcC_keep h k hm
theorem Own.by {H : Heap} {v : Value} {n : Nat} {bs : List UInt8} (h : Own 5 1 H v n (bvs bs)) : By H v bs := by
  have := h.src
  have hl := h.len
  simp only [bvs_len, Nat.mul_one] at hl
  subst hl
  exact this
theorem By.nil {H : Heap} {c : Nat} : By H (.slice none 0 c) [] := rfl
theorem By.str {H : Heap} {s : ByteArray} : By H (.string s) s.data.toList := by
  simp only [By, srcC]
  have : s.size = s.data.toList.length := Array.length_toList.symm
  rw [this]; rfl

theorem rdn_get {H : Heap} {b : Nat} : ∀ (n o : Nat) {l : List Value}, rdn H b o n = some l → ∀ i, i < n → rdc H b (o + i) = l[i]?
  | 0, _, _, _, i, hi => by omega
  | n + 1, o, l, h, i, hi => by
    simp only [rdn] at h
    split at h
    · rename_i v vs hv hvs
      cases h
      cases i with
      | zero => simpa using hv
      | succ i =>
        have := rdn_get n (o + 1) hvs i (by omega)
        rw [show o + (i + 1) = o + 1 + i by omega, this]; simp
    · cases h
/-- a slice of bytes that is read -/
structure Bs (H : Heap) (v : Value) (bs : List UInt8) : Prop where
  rd : By H v bs
  sl : ∃ a c, v = .slice a bs.length c
theorem Bs.keep {M : Nat → Prop} {H H' : Heap} {v : Value} {bs : List UInt8} (h : Bs H v bs) (k : Keep M H H') (hm : ∀ b, ob v b → ¬ M b) : Bs H' v bs := ⟨h.rd.keep k hm, h.sl⟩
theorem Bs.len {H : Heap} {v : Value} {bs : List UInt8} (h : Bs H v bs) : lnV v = some (.int .i64 bs.length) := by
  obtain ⟨a, c, rfl⟩ := h.sl; rfl
theorem Bs.at {H : Heap} {v : Value} {bs : List UInt8} (h : Bs H v bs) {i : Nat} (hi : i < bs.length) : ∃ p, iaV 1 v (.int .i64 i) = some p ∧ rdv p H = some (bv bs[i]) := by
  obtain ⟨a, c, rfl⟩ := h.sl
  have hb := h.rd
  unfold By srcC at hb
  split at hb
  · rename_i e; cases e
    simp only [Option.some.injEq, Prod.mk.injEq] at hb
    have := congrArg List.length hb.2
    simp only [List.length_nil, bvs_len] at this
    omega
  · rename_i b o n c' e; cases e
    simp only [Option.map_eq_some_iff, Prod.mk.injEq] at hb
    obtain ⟨l, hl, _, rfl⟩ := hb
    refine ⟨.pointer (some ⟨b, o + i, none⟩), ?_, ?_⟩
    · simp only [iaV]; rw [if_pos (by omega)]; simp
    · have := rdn_get _ _ hl i (by omega)
      rw [rdv_ptr, this]; simp [bvs, hi]
  · rename_i e; cases e
  · cases hb
theorem Bs.nil {H : Heap} {c : Nat} : Bs H (.slice none 0 c) [] := ⟨.nil, _, _, rfl⟩
/-- an owned slice of bytes -/
def OB (H : Heap) (v : Value) (bs : List UInt8) : Prop := Own 5 1 H v bs.length (bvs bs)
theorem OB.nil {H : Heap} : OB H (.slice none 0 0) [] := Own.nil
theorem OB.by {H : Heap} {v : Value} {bs : List UInt8} (h : OB H v bs) : By H v bs := Own.by h
theorem OB.bs {H : Heap} {v : Value} {bs : List UInt8} (h : OB H v bs) : Bs H v bs := by
  refine ⟨h.by, ?_⟩
  unfold OB at h
  generalize hn : bs.length = n at h
  generalize hx : bvs bs = xs at h
  cases h with
  | nil => exact ⟨_, _, rfl⟩
  | blk b n c cs xs h => exact ⟨_, _, rfl⟩
theorem OB.keep {M : Nat → Prop} {H H' : Heap} {v : Value} {bs : List UInt8} (h : OB H v bs) (k : Keep M H H') (hm : ∀ b, ob v b → ¬ M b) : OB H' v bs := Own.keep h k hm

theorem ap_bytes {s x : Value} {H : Heap} {cs bs : List UInt8} {K : Value → Heap → Prop} (hs : OB H s cs) (hx : By H x bs) (hfit : cs.length + bs.length ≤ 140737488355328)
    (hK : ∀ v H', Keep (ob s) H H' → (∀ b, ob v b → ob s b ∨ H.size ≤ b) → OB H' v (cs ++ bs) → K v H') : Ap 5 1 1 z5 s x H K := by
  refine ap_own (n := cs.length) (m := bs.length) hs hx (by simp) bvs_one (by rfl) (by omega) fun v H' h1 h2 h3 => hK v H' h1 h2 ?_
  unfold OB
  rw [List.length_append, bvs_app]; exact h3
theorem ob_nil {b n c : Nat} : ¬ ob (.slice none n c) b := fun ⟨_, _, _, h⟩ => by cases h
theorem ob_str {b : Nat} {s : ByteArray} : ¬ ob (.string s) b := fun ⟨_, _, _, h⟩ => by cases h
/-- a copy -/
theorem ap_copy {x : Value} {H : Heap} {bs : List UInt8} {K : Value → Heap → Prop} (hx : By H x bs) (hfit : bs.length ≤ 140737488355328)
    (hK : ∀ v H', Keep no H H' → (∀ b, ob v b → H.size ≤ b) → OB H' v bs → K v H') : Ap 5 1 1 z5 (.slice none 0 0) x H K :=
  ap_bytes OB.nil hx (by simpa using hfit) fun v H' h1 h2 h3 => hK v H' (h1.mono fun b _ h => absurd h ob_nil) (fun b hb => (h2 b hb).resolve_left ob_nil) h3
/-- one byte more, out of a list of one -/
theorem ap_byte {s : Value} {H : Heap} {cs : List UInt8} {u : UInt8} {K : Value → Heap → Prop} {o : Obj} (ho : o = .cells #[bv u] 5 (0, 0)) (hs : OB H s cs) (hfit : cs.length + 1 ≤ 140737488355328)
    (hK : ∀ v H', Keep (ob s) H H' → (∀ b, ob v b → ob s b ∨ H.size ≤ b) → OB H' v (cs ++ [u]) → K v H') : Ap 5 1 1 z5 s (.slice (some ⟨H.size, 0, none⟩) 1 1) (H.push o) K := by
  subst ho
  refine ap_bytes (bs := [u]) (hs.keep (M := no) .push fun _ _ h => h) ?_ (by simpa using hfit) fun v H' h1 h2 h3 => hK v H' ?_ ?_ h3
  · simp [By, srcC, rdn, rdc, bv, bvs]
  · exact ⟨Nat.le_trans (by simp) h1.size, fun b hb hm => (h1.get b (by simp; omega) hm).trans (get_push_lt hb)⟩
  · intro b hb
    rcases h2 b hb with h | h
    · exact .inl h
    · exact .inr (by simp at h; omega)
end Go.Proofs.YtdoimhpmnmmffaaGreat

