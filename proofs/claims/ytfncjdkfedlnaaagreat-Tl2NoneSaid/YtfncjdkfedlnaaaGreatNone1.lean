/- Tl2None: for every deed, every values and number the law returns true, and each argument reads as it did; by an evaluator of the compiled code that is proved sound for the model. Part 1 of 11. -/
import Derived.Defers
import Derived.Orders
import Derived.KernelRfl
set_option linter.unusedSimpArgs false
set_option linter.unusedVariables false

/- The core of an abstract evaluator of the model's code: a heap of blocks with numbers of its own, compiled operations, and a predicate transformer for code. -/
namespace Ev
open Go

abbrev Id := Nat

/-! lists, by place -/
def nth {α : Type} : List α → Nat → Option α
  | [], _ => none
  | x :: _, 0 => some x
  | _ :: l, n + 1 => nth l n

def upd {α : Type} : List α → Nat → α → List α
  | [], _, _ => []
  | _ :: l, 0, v => v :: l
  | x :: l, n + 1, v => x :: upd l n v

def updL {α : Type} : List α → Nat → List α → List α
  | l, _, [] => l
  | l, o, v :: vs => updL (upd l o v) (o + 1) vs

def cut {α : Type} (l : List α) (o n : Nat) : Option (List α) := match n with
  | 0 => some []
  | n + 1 => match nth l o with
    | some v => match cut l (o + 1) n with
      | some vs => some (v :: vs)
      | none => none
    | none => none

/-! a tree by numbers -/
inductive Tr (α : Type) where
  | nil
  | node (l : Tr α) (x : Option α) (r : Tr α)

namespace Tr
variable {α : Type}
def get : Tr α → Nat → Option α
  | .nil, _ => none
  | .node l x r, n => bif Nat.beq n 0 then x else bif Nat.beq (n % 2) 1 then l.get (n / 2) else r.get (n / 2 - 1)

def setF : Nat → Tr α → Nat → Option α → Tr α
  | 0, t, _, _ => t
  | f + 1, .nil, n, v => bif Nat.beq n 0 then .node .nil v .nil else bif Nat.beq (n % 2) 1 then .node (setF f .nil (n / 2) v) none .nil else .node .nil none (setF f .nil (n / 2 - 1) v)
  | f + 1, .node l x r, n, v => bif Nat.beq n 0 then .node l v r else bif Nat.beq (n % 2) 1 then .node (setF f l (n / 2) v) x r else .node l x (setF f r (n / 2 - 1) v)

def set (t : Tr α) (n : Nat) (v : Option α) : Tr α := setF (n + 1) t n v

theorem get_setF : ∀ (f : Nat) (t : Tr α) (n : Nat) (v : Option α) (m : Nat), n < f → (setF f t n v).get m = if m = n then v else t.get m := by
  intro f
  induction f with
  | zero => intro t n v m h; omega
  | succ f ih =>
    intro t n v m h
    have e1 : Nat.beq n 0 = decide (n = 0) := by cases n <;> simp [Nat.beq]
    have e2 : Nat.beq (n % 2) 1 = decide (n % 2 = 1) := by
      rcases Nat.mod_two_eq_zero_or_one n with h | h <;> rw [h] <;> rfl
    have e3 : Nat.beq m 0 = decide (m = 0) := by cases m <;> simp [Nat.beq]
    have e4 : Nat.beq (m % 2) 1 = decide (m % 2 = 1) := by
      rcases Nat.mod_two_eq_zero_or_one m with h | h <;> rw [h] <;> rfl
    cases t with
    | nil =>
      simp only [setF, e1, e2]
      by_cases hn : n = 0
      · subst hn
        simp only [decide_true, cond_true, get, e3, e4]
        by_cases hm : m = 0
        · simp [hm]
        · simp only [hm, decide_false, cond_false, if_false]
          by_cases h2 : m % 2 = 1 <;> simp [h2]
      · simp only [hn, decide_false, cond_false]
        by_cases h2 : n % 2 = 1
        · simp only [h2, decide_true, cond_true, get, e3, e4]
          by_cases hm : m = 0
          · subst hm; simp [Ne.symm hn]
          · simp only [hm, decide_false, cond_false]
            by_cases h3 : m % 2 = 1
            · simp only [h3, decide_true, cond_true]
              rw [ih _ _ _ _ (by omega)]
              by_cases e : m = n
              · subst e; simp
              · rw [if_neg (by omega), if_neg e]; simp [get]
            · simp only [h3, decide_false, cond_false]
              rw [if_neg (by omega)]
        · simp only [h2, decide_false, cond_false, get, e3, e4]
          by_cases hm : m = 0
          · subst hm; simp [Ne.symm hn]
          · simp only [hm, decide_false, cond_false]
            by_cases h3 : m % 2 = 1
            · simp only [h3, decide_true, cond_true]
              rw [if_neg (by omega)]
            · simp only [h3, decide_false, cond_false]
              rw [ih _ _ _ _ (by omega)]
              by_cases e : m = n
              · subst e; simp
              · rw [if_neg (by omega), if_neg e]; simp [get]
    | node l x r =>
      simp only [setF, e1, e2]
      by_cases hn : n = 0
      · subst hn
        simp only [decide_true, cond_true, get, e3, e4]
        by_cases hm : m = 0
        · simp [hm]
        · simp [hm]
      · simp only [hn, decide_false, cond_false]
        by_cases h2 : n % 2 = 1
        · simp only [h2, decide_true, cond_true, get, e3, e4]
          by_cases hm : m = 0
          · subst hm; simp [Ne.symm hn]
          · simp only [hm, decide_false, cond_false]
            by_cases h3 : m % 2 = 1
            · simp only [h3, decide_true, cond_true]
              rw [ih _ _ _ _ (by omega)]
              by_cases e : m = n
              · subst e; simp
              · rw [if_neg (by omega), if_neg e]
            · simp only [h3, decide_false, cond_false]
              rw [if_neg (by omega)]
        · simp only [h2, decide_false, cond_false, get, e3, e4]
          by_cases hm : m = 0
          · subst hm; simp [Ne.symm hn]
          · simp only [hm, decide_false, cond_false]
            by_cases h3 : m % 2 = 1
            · simp only [h3, decide_true, cond_true]
              rw [if_neg (by omega)]
            · simp only [h3, decide_false, cond_false]
              rw [ih _ _ _ _ (by omega)]
              by_cases e : m = n
              · subst e; simp
              · rw [if_neg (by omega), if_neg e]

theorem get_set (t : Tr α) (n : Nat) (v : Option α) (m : Nat) : (t.set n v).get m = if m = n then v else t.get m :=
  get_setF _ _ _ _ _ (by omega)
theorem get_set_same (t : Tr α) (n : Nat) (v : Option α) : (t.set n v).get n = v := by rw [get_set, if_pos rfl]
theorem get_set_ne (t : Tr α) {n m : Nat} (v : Option α) (h : m ≠ n) : (t.set n v).get m = t.get m := by rw [get_set, if_neg h]
end Tr

/-! compiled operations -/

/-- How two values of a type are held against each other. -/
inductive EqK where
  | int | bool | str | ptr | iface | slice | map | func
  | st (fs : List (Nat × Nat × Bool × EqK))

inductive KK where
  | int | str

/-- A compiled operation. -/
inductive MK where
  | mv (x : Operand)
  | pick (c a b : Operand)
  | nilCheck (x : Operand)
  | bin (op : BinOp) (x y : Operand)
  | eq (neg : Bool) (e : EqK) (x y : Operand)
  | un (op : UnOp) (x : Operand)
  | conv (k : IntKind) (x : Operand)
  | convF (k : FloatKind) (x : Operand)
  | same (x : Operand)
  | field (off size : Nat) (agg : Bool) (x : Operand)
  | idxArr (len size : Nat) (agg : Bool) (x ix : Operand)
  | idxStr (x ix : Operand)
  | fieldAddr (off : Nat) (x : Operand)
  | adArr (len size : Nat) (x ix : Operand)
  | adSl (size : Nat) (x ix : Operand)
  | slStr (x : Operand) (lo hi : Option Operand)
  | slSl (size : Nat) (x : Operand) (lo hi mx : Option Operand)
  | slArr (n size : Nat) (x : Operand) (lo hi mx : Option Operand)
  | extract (x : Operand) (i : Nat)
  | build (zero : List Value) (parts : List (Nat × Nat × Operand))
  | func (fn : Fn) (first captured : List Operand)
  | iface (t : TypeId) (x : Operand)
  | assertT (t : TypeId) (zero : Value) (x : Operand)
  | len (str : Bool) (x : Operand)
  | lenC (n : Nat)
  | cap (x : Operand)
  | mm (max : Bool) (x y : Operand)
  -- reads
  | load (n : Nat) (agg : Bool) (a : Operand)
  | lookup (k : KK) (zero : Value) (ok : Bool) (m x : Operand)
  | lenMap (x : Operand)
  | entry (it : Operand)
  | toStr (x : Operand)
  -- makes
  | alloc (zero : List Value) (t : TypeId)
  | box (t : TypeId) (x : Operand)
  | buildSl (t : TypeId) (size len : Nat) (zeros : List Value) (parts : List (Nat × Nat × Operand))
  | makeMap
  | makeSl (t : TypeId) (bytes : Nat) (zero : List Value) (l c : Operand)
  | toBytes (t : TypeId) (x : Operand)
  | rangeStr (x : Operand)
  -- writes
  | store (n : Nat) (a x : Operand)
  | mapSet (k : KK) (m x v : Operand)
  | mapEntry (k : KK) (zero : Value) (m x : Operand)
  | entrySet (m st v : Operand)
  | rangeMap (x : Operand)
  | nextStr (it : Operand)
  | nextMap (it : Operand)
  | append (t : TypeId) (size bytes : Nat) (s x : Operand)
  | copy (size : Nat) (d s : Operand)
  | delete (k : KK) (m x : Operand)
  | clearMap (m : Operand)
  -- control
  | call (f : Operand) (args : List Operand)
  | invoke (x : Operand) (name : String) (args : List Operand)
  | defer (f : Operand) (args : List Operand)
  | recover
  | panic (x : Operand)

/-- An operation in a region: 'at_' is its place among the region's operations (what it makes gets the number 'c + at_'); 're': what must be looked at again behind it (reads, and what was made, that may come up ahead of it or behind it); 'tight': all that stands ahead of it must have come up ahead of it. -/
structure MO where
  dst : Option Nat
  guard : Option (Nat × Bool)
  k : MK
  at_ : Nat
  re : List (Bool × Option Nat × Option (Nat × Bool) × Nat × MK)
  tight : Bool

inductive MC where
  | skip
  | region (n : Nat) (ops : List MO)
  | seq (a b : MC)
  | cond (c : Operand) (a b : MC)
  | block (id : Nat) (a : MC)
  | loop (a : MC)
  | exit (id : Nat)
  | ret
  | rangeF (f : Operand) (ps : List Nat) (asg body : MC)

structure MFn where
  ntmps : Nat
  results : List (Nat × Option (Nat × Bool))
  code : MC

/-! states -/
abbrev Chain := List (Value × Bool)

inductive Ex where
  | normal
  | exit (id : Nat)
  | ret
  | panic (ch : Chain)

inductive AObj where
  | cells (c : List Value) (t : TypeId) (lo hi : Nat)
  | map (es : List MapEntry) (clock : Nat)
  | strIter (s : ByteArray) (pos : Nat)
  | mapIter (m : Option Id) (since : Nat) (seen : List Nat) (last : Nat)
  | loop (st : LoopState) (pend : Option Ex) (t : List Value) (ps : List Nat) (asg body : MC) (dfr : Id)
  | dfr (isOpen : Bool)

abbrev Heap := Tr AObj

structure S where
  h : Heap
  c : Nat

inductive AMode where
  | ret
  | pan (ch : Chain)

inductive ADef where
  | col (b : Id)
  | fn (f : FuncId) (args : List Value)

structure F where
  t : List Value
  d : List ADef
  m : Option AMode
  r : Option Id

/-- A slice whose capacity is not told has 'unk' and its element's size for a capacity: it reaches to its block's end. An empty one of which nothing more is told: 'emp'. -/
def unk : Nat := 18446744073709551616
def emp : Nat := 340282366920938463463374607431768211456

def eval (t : List Value) : Operand → Option Value
  | .tmp n => nth t n
  | .const v => some v
  | .func f => some (.func (.func f) #[] #[])
  | .global _ => none

def evals (t : List Value) : List Operand → Option (List Value)
  | [] => some []
  | x :: xs => match eval t x with
    | some v => match evals t xs with
      | some vs => some (v :: vs)
      | none => none
    | none => none

def evalO (t : List Value) : Option Operand → Option (Option Value)
  | none => some none
  | some x => match eval t x with
    | some v => some (some v)
    | none => none

/-! values -/
def pv (s : Sem Value) : Option Value := match s with
  | .pure v => some v
  | _ => none

def intBin (op : BinOp) (k : IntKind) (a : Int) (k' : IntKind) (b : Int) : Option Value :=
  match op with
  | .shl => pv (Op.shift .shl k a k' b)
  | .shr => pv (Op.shift .shr k a k' b)
  | .add => if k = k' then some (.int k (k.wrap (a + b))) else none
  | .sub => if k = k' then some (.int k (k.wrap (a - b))) else none
  | .mul => if k = k' then some (.int k (k.wrap (a * b))) else none
  | .quo => if k = k' then (if b = 0 then none else some (.int k (k.wrap (a.tdiv b)))) else none
  | .rem => if k = k' then (if b = 0 then none else some (.int k (a.tmod b))) else none
  | .eql => if k = k' then some (.bool (a == b)) else none
  | .neq => if k = k' then some (.bool (a != b)) else none
  | .lss => if k = k' then some (.bool (a < b)) else none
  | .leq => if k = k' then some (.bool (a ≤ b)) else none
  | .gtr => if k = k' then some (.bool (a > b)) else none
  | .geq => if k = k' then some (.bool (a ≥ b)) else none
  | .and => if k = k' then pv (Op.intBits .and k a b) else none
  | .or => if k = k' then pv (Op.intBits .or k a b) else none
  | .xor => if k = k' then pv (Op.intBits .xor k a b) else none
  | .andNot => if k = k' then pv (Op.intBits .andNot k a b) else none

def cmpOp : BinOp → Bool
  | .eql | .neq | .lss | .leq | .gtr | .geq => true
  | _ => false

def binV (op : BinOp) (x y : Value) : Option Value :=
  match x, y with
  | .int k a, .int k' b => intBin op k a k' b
  | .string a, .string b => pv (Op.stringOp op a b)
  | .float k a, .float k' b => if cmpOp op = true then pv (binOp op 0 (.float k a) (.float k' b)) else none
  | _, _ => none

/-- A part of a struct's or an array's cells. -/
def partV (cs : List Value) (off size : Nat) (agg : Bool) : Option Value :=
  match agg with
  | true => match cut cs off size with
    | some l => some (.agg l.toArray)
    | none => none
  | false => nth cs off

mutual
def eqv : EqK → Value → Value → Option Bool
  | .int, .int k a, .int k' b => if k = k' then some (a == b) else none
  | .bool, .bool a, .bool b => some (a == b)
  | .str, .string a, .string b => some (a == b)
  | .ptr, .pointer none, .pointer b => some b.isNone
  | .ptr, .pointer (some _), .pointer none => some false
  | .ptr, .pointer (some a), .pointer (some b) => if a.block = b.block then some (a.off == b.off) else none
  | .iface, .nilIface, .nilIface => some true
  | .iface, .nilIface, .iface _ _ => some false
  | .iface, .iface _ _, .nilIface => some false
  | .slice, .slice none _ c, .slice b _ d => if c < emp ∧ d < emp then some b.isNone else none
  | .slice, .slice (some _) _ _, .slice none _ d => if d < emp then some false else none
  | .map, .map none, .map b => some b.isNone
  | .map, .map (some _), .map none => some false
  | .func, .nilFunc, .nilFunc => some true
  | .func, .nilFunc, .func _ _ _ => some false
  | .func, .func _ _ _, .nilFunc => some false
  | .st fs, .agg xs, .agg ys => eqFs fs xs.toList ys.toList
  | _, _, _ => none
def eqFs : List (Nat × Nat × Bool × EqK) → List Value → List Value → Option Bool
  | [], _, _ => some true
  | (off, size, agg, e) :: fs, xs, ys =>
    match partV xs off size agg, partV ys off size agg with
    | some x, some y => match eqv e x y with
      | some true => eqFs fs xs ys
      | some false => some false
      | none => none
    | _, _ => none
end

def single : Value → Bool
  | .agg _ => false
  | .tuple _ => false
  | _ => true

def cellsOf : Value → List Value
  | .agg cs => cs.toList
  | v => [v]

def fillV (cells : List Value) : List (Nat × Nat × Value) → Option (List Value)
  | [] => some cells
  | (off, size, v) :: rest =>
    let vs := cellsOf v
    if vs.length = size ∧ off + size ≤ cells.length then fillV (updL cells off vs) rest else none

def partsV (t : List Value) : List (Nat × Nat × Operand) → Option (List (Nat × Nat × Value))
  | [] => some []
  | (o, n, x) :: ps => match eval t x with
    | some v => match partsV t ps with
      | some l => some ((o, n, v) :: l)
      | none => none
    | none => none

/-- A bound of a slice expression: 'none' is told where the place has its own. -/
def bnd (x : Option Value) (dflt top : Nat) : Option Nat :=
  match x with
  | none => some dflt
  | some (.int _ i) => if 0 ≤ i ∧ i ≤ (top : Int) then some i.toNat else none
  | some _ => none

def adv (a : Addr) (n : Nat) : Addr := ⟨a.block, a.off + n, none⟩

def slStrV (s : ByteArray) (lo hi : Option Value) : Option Value :=
  match bnd hi s.size s.size with
  | some h => match bnd lo 0 h with
    | some l => some (.string (s.extract l h))
    | none => none
  | none => none

/-- A slice of a slice whose capacity is told. -/
def slExact (size : Nat) (a : Option Addr) (n c : Nat) (lo hi mx : Option Value) : Option Value :=
  match bnd mx c c with
  | some m => match bnd hi n m with
    | some h => match bnd lo 0 h with
      | some l => some (.slice (if m = l then a else a.map (adv · (l * size))) (h - l) (m - l))
      | none => none
    | none => none
  | none => none

/-- A slice of a slice whose capacity is not told (it is 'n' at least). -/
def slUnk (size : Nat) (a : Addr) (n c : Nat) (lo hi mx : Option Value) : Option Value :=
  match mx with
  | none => match bnd hi n n with
    | some h => match bnd lo 0 h with
      | some l => if l = 0 then some (.slice (some a) h c) else if l < n then some (.slice (some (adv a (l * size))) (h - l) c)
        else some (.slice none 0 emp)
      | none => none
    | none => none
  | some _ => match bnd mx 0 n with
    | some m => match bnd hi n m with
      | some h => match bnd lo 0 h with
        | some l => if m < unk then some (.slice (if m = l then some a else some (adv a (l * size))) (h - l) (m - l)) else none
        | none => none
      | none => none
    | none => none

def slSlV (size : Nat) (x : Value) (lo hi mx : Option Value) : Option Value :=
  match x with
  | .slice a n c =>
    bif Nat.blt c unk then slExact size a n c lo hi mx else
    match a with
    | some a => bif Nat.beq c (unk + size) then slUnk size a n c lo hi mx else none
    | none => match bnd mx 0 0, bnd hi 0 0, bnd lo 0 0 with
      | some _, some _, some _ => some (.slice none 0 emp)
      | _, _, _ => none
  | _ => none

def lenV : Bool → Value → Option Value
  | true, .string s => some (.int .i64 s.size)
  | false, .slice _ n _ => some (.int .i64 n)
  | _, _ => none

def mmV (max : Bool) : Value → Value → Option Value
  | .int k x, .int k' y => if k = k' then some (.int k (if max then (if y > x then y else x) else (if y < x then y else x))) else none
  | _, _ => none

/-- What an operation comes to that touches no memory. -/
def evP (k : MK) (t : List Value) : Option Value :=
  match k with
  | .mv x => eval t x
  | .pick c a b => match eval t c with
    | some (.bool true) => eval t a
    | some (.bool false) => eval t b
    | _ => none
  | .nilCheck x => match eval t x with
    | some (.pointer (some a)) => some (.pointer (some a))
    | some (.func (.func f) a b) => some (.func (.func f) a b)
    | some (.func (.yield l) a b) => some (.func (.yield l) a b)
    | _ => none
  | .bin op x y => match eval t x, eval t y with
    | some a, some b => binV op a b
    | _, _ => none
  | .eq neg e x y => match eval t x, eval t y with
    | some a, some b => match eqv e a b with
      | some r => some (.bool (neg != r))
      | none => none
    | _, _ => none
  | .un op x => match eval t x with
    | some (.int k n) => pv (Op.unary op (.int k n))
    | some (.bool b) => pv (Op.unary op (.bool b))
    | _ => none
  | .conv k x => match eval t x with
    | some (.int _ n) => some (.int k (k.wrap n))
    | _ => none
  | .convF k x => match eval t x with
    | some (.int _ n) => some (.float k (k.nearest n))
    | _ => none
  | .same x => match eval t x with
    | some (.string s) => some (.string s)
    | _ => none
  | .field off size agg x => match eval t x with
    | some (.agg cs) => partV cs.toList off size agg
    | _ => none
  | .idxArr len size agg x ix => match eval t x, eval t ix with
    | some (.agg cs), some (.int _ i) => if 0 ≤ i ∧ i < (len : Int) then partV cs.toList (i.toNat * size) size agg else none
    | _, _ => none
  | .idxStr x ix => match eval t x, eval t ix with
    | some (.string s), some (.int _ i) => if 0 ≤ i then (match s[i.toNat]? with | some b => some (.int .u8 b.toNat) | none => none) else none
    | _, _ => none
  | .fieldAddr off x => match eval t x with
    | some (.pointer (some a)) => some (.pointer (some (adv a off)))
    | _ => none
  | .adArr len size x ix => match eval t x, eval t ix with
    | some (.pointer (some a)), some (.int _ i) => if 0 ≤ i ∧ i < (len : Int) then some (.pointer (some (adv a (i.toNat * size)))) else none
    | _, _ => none
  | .adSl size x ix => match eval t x, eval t ix with
    | some (.slice (some a) n _), some (.int _ i) => if 0 ≤ i ∧ i < (n : Int) then some (.pointer (some (adv a (i.toNat * size)))) else none
    | _, _ => none
  | .slStr x lo hi => match eval t x, evalO t lo, evalO t hi with
    | some (.string s), some l, some h => slStrV s l h
    | _, _, _ => none
  | .slSl size x lo hi mx => match eval t x, evalO t lo, evalO t hi, evalO t mx with
    | some v, some l, some h, some m => slSlV size v l h m
    | _, _, _, _ => none
  | .slArr n size x lo hi mx => match eval t x, evalO t lo, evalO t hi, evalO t mx with
    | some (.pointer (some a)), some l, some h, some m => slExact size (some a) n n l h m
    | _, _, _, _ => none
  | .extract x i => match eval t x with
    | some (.tuple vs) => nth vs.toList i
    | _ => none
  | .build zero parts => match partsV t parts with
    | some ps => match fillV zero ps with
      | some cs => some (.agg cs.toArray)
      | none => none
    | none => none
  | .func fn first captured => match evals t first, evals t captured with
    | some a, some b => some (.func fn a.toArray b.toArray)
    | _, _ => none
  | .iface ty x => match eval t x with
    | some v => some (.iface ty v)
    | none => none
  | .assertT ty zero x => match eval t x with
    | some .nilIface => some (.tuple #[zero, .bool false])
    | some (.iface u v) => if u = ty then some (.tuple #[v, .bool true]) else some (.tuple #[zero, .bool false])
    | _ => none
  | .len str x => match eval t x with
    | some v => lenV str v
    | none => none
  | .lenC n => some (.int .i64 n)
  | .cap x => match eval t x with
    | some (.slice _ _ c) => if c < unk then some (.int .i64 c) else none
    | _ => none
  | .mm max x y => match eval t x, eval t y with
    | some a, some b => mmV max a b
    | _, _ => none
  | _ => none

/-! memory -/
def keyEq : KK → Value → Value → Option Bool
  | .int, .int k a, .int k' b => if k = k' then some (a == b) else none
  | .str, .string a, .string b => some (a == b)
  | _, _, _ => none

def find (kk : KK) (k : Value) : List MapEntry → Nat → Option (Option (Nat × MapEntry))
  | [], _ => some none
  | e :: es, i => match keyEq kk k e.key with
    | some true => some (some (i, e))
    | some false => find kk k es (i + 1)
    | none => none

def loadV (h : Heap) (n : Nat) (agg : Bool) (v : Value) : Option Value :=
  match v with
  | .pointer (some a) => match h.get a.block with
    | some (.cells c _ _ _) => partV c a.off n agg
    | _ => none
  | _ => none

/-- The first 'n' elements of a slice, or bytes of a string, as cells. -/
def firstV (h : Heap) (size n : Nat) (v : Value) : Option (List Value) :=
  match v with
  | .slice (some a) _ _ => match h.get a.block with
    | some (.cells c _ _ _) => cut c a.off (n * size)
    | _ => none
  | .slice none _ _ => if n = 0 then some [] else none
  | .string s => if n ≤ s.size ∧ size = 1 then some ((s.data.toList.take n).map fun b => .int .u8 b.toNat) else none
  | _ => none

def bytesOfCells : List Value → Option (List UInt8)
  | [] => some []
  | .int .u8 n :: l => match bytesOfCells l with
    | some bs => some (UInt8.ofNat n.toNat :: bs)
    | none => none
  | _ :: _ => none

def lookupV (h : Heap) (kk : KK) (zero : Value) (ok : Bool) (m x : Value) : Option Value :=
  let put (v : Value) (b : Bool) : Value := if ok then .tuple #[v, .bool b] else v
  match m with
  | .map none => match find kk x [] 0, keyEq kk x x with
    | some _, some _ => some (put zero false)
    | _, _ => none
  | .map (some r) => match h.get r with
    | some (.map es _) => match find kk x es 0, keyEq kk x x with
      | some (some (_, e)), some _ => some (put e.val true)
      | some none, some _ => some (put zero false)
      | _, _ => none
    | _ => none
  | _ => none

/-- What an operation comes to that reads memory. -/
def evR (k : MK) (t : List Value) (h : Heap) : Option Value :=
  match k with
  | .load n agg a => match eval t a with
    | some v => loadV h n agg v
    | none => none
  | .lookup kk zero ok m x => match eval t m, eval t x with
    | some m, some x => lookupV h kk zero ok m x
    | _, _ => none
  | .lenMap x => match eval t x with
    | some (.map none) => some (.int .i64 0)
    | some (.map (some r)) => match h.get r with
      | some (.map es _) => some (.int .i64 es.length)
      | _ => none
    | _ => none
  | .entry it => match eval t it with
    | some (.pointer (some ⟨r, 0, _⟩)) => match h.get r with
      | some (.mapIter (some m) _ seen last) => match h.get m, seen.getLast? with
        | some (.map es clock), some stamp => if clock = last then (match es.find? (·.born == stamp) with
          | some e => some (.tuple #[e.key, e.val])
          | none => none) else none
        | _, _ => none
      | _ => none
    | _ => none
  | .toStr x => match eval t x with
    | some (.slice none _ _) => some (.string .empty)
    | some (.slice (some a) n c) => match firstV h 1 n (.slice (some a) n c) with
      | some l => match bytesOfCells l with
        | some bs => some (.string ⟨bs.toArray⟩)
        | none => none
      | none => none
    | _ => none
  | _ => none

/-- What an operation makes that makes one block; and its value, by the block's number. -/
def evA (k : MK) (t : List Value) : Option (AObj × (Id → Value)) :=
  match k with
  | .alloc zero ty => some (.cells zero ty 0 0, fun i => .pointer (some ⟨i, 0, none⟩))
  | .box ty x => match eval t x with
    | some v => some (.cells (cellsOf v) ty 0 0, fun i => .pointer (some ⟨i, 0, none⟩))
    | none => none
  | .buildSl ty _ len zeros parts => match partsV t parts with
    | some ps => match fillV zeros ps with
      | some cs => some (.cells cs ty 0 0, fun i => .slice (some ⟨i, 0, none⟩) len len)
      | none => none
    | none => none
  | .makeMap => some (.map [] 0, fun i => .map (some i))
  | .makeSl ty bytes zero l c => match eval t l, eval t c with
    | some (.int _ l), some (.int _ c) =>
      if 0 ≤ l ∧ l ≤ c ∧ c ≤ 16777216 ∧ bytes ≤ 65536 then
        some (.cells (List.flatten (List.replicate c.toNat zero)) ty 0 0, fun i => .slice (some ⟨i, 0, none⟩) l.toNat c.toNat)
      else none
    | _, _ => none
  | .toBytes ty x => match eval t x with
    | some (.string s) => some (.cells (s.data.toList.map fun b => .int .u8 b.toNat) ty 0 0, fun i => .slice (some ⟨i, 0, none⟩) s.size (unk + 1))
    | _ => none
  | .rangeStr x => match eval t x with
    | some (.string s) => some (.strIter s 0, fun i => .pointer (some ⟨i, 0, none⟩))
    | _ => none
  | _ => none

/-- A block whose frozen range is told to reach to here is never written. -/
def roHi : Nat := 340282366920938463463374607431768211456
def AObj.ro : AObj → Bool
  | .cells _ _ _ hi => Nat.ble roHi hi
  | _ => false
def free (lo hi o n : Nat) : Bool := Nat.blt hi roHi && (Nat.ble hi lo || Nat.ble (o + n) lo || Nat.ble hi o)

def storeV (h : Heap) (n : Nat) (a x : Value) : Option Heap :=
  match a with
  | .pointer (some a) => match h.get a.block with
    | some (.cells c t lo hi) =>
      let vs := cellsOf x
      if vs.length = n ∧ a.off + n ≤ c.length ∧ vs.all single = true ∧ free lo hi a.off n = true then
        some (h.set a.block (some (.cells (updL c a.off vs) t lo hi)))
      else none
    | _ => none
  | _ => none

/-- An append of cells: 'm' elements, 'new' their cells. -/
def appendV (s : S) (t : TypeId) (size bytes : Nat) (a : Option Addr) (n c m : Nat) (new : List Value) : Option (Value × S) :=
  if ¬ ((n + m) * (bytes + 1) ≤ 1099511627776 ∧ 0 < size) then none else
  bif Nat.blt c unk then
    (if n + m ≤ c then
      match a with
      | none => if m = 0 then some (.slice none n c, s) else none
      | some a => match s.h.get a.block with
        | some (.cells cs ty lo hi) =>
          if a.off + (n + m) * size ≤ cs.length ∧ new.all single = true ∧ free lo hi (a.off + n * size) (m * size) = true then
            some (.slice (some a) (n + m) c, { s with h := s.h.set a.block (some (.cells (updL cs (a.off + n * size) new) ty lo hi)) })
          else none
        | _ => none
    else
      match firstV s.h size n (.slice a n c) with
      | some old => some (.slice (some ⟨s.c, 0, none⟩) (n + m) (unk + size), { h := s.h.set s.c (some (.cells (old ++ new) t 0 0)), c := s.c + 1 })
      | none => none)
  else
    match a with
    | none => none
    | some a =>
      if m = 0 then some (.slice (some a) n c, s) else
      match s.h.get a.block with
      | some (.cells cs ty lo hi) =>
        if a.off = 0 ∧ n * size = cs.length ∧ (Nat.ble hi cs.length && Nat.blt hi roHi) = true ∧ new.all single = true ∧ ty = t ∧ c = unk + size then
          some (.slice (some ⟨s.c, 0, none⟩) (n + m) c, { h := (s.h.set a.block none).set s.c (some (.cells (cs ++ new) ty lo hi)), c := s.c + 1 })
        else none
      | _ => none

def lenOfV : Value → Option Nat
  | .slice _ n _ => some n
  | .string s => some s.size
  | _ => none

/-- What an operation comes to that writes memory. -/
def evS (k : MK) (t : List Value) (s : S) : Option (Value × S) :=
  match k with
  | .store n a x => match eval t a, eval t x with
    | some a, some x => match storeV s.h n a x with
      | some h => some (undef, { s with h := h })
      | none => none
    | _, _ => none
  | .mapSet kk m x v => match eval t m, eval t x, eval t v with
    | some (.map (some r)), some x, some v => match s.h.get r with
      | some (.map es clock) => match find kk x es 0, keyEq kk x x with
        | some (some (i, e)), some _ => some (undef, { s with h := s.h.set r (some (.map (upd es i { e with key := x, val := v }) clock)) })
        | some none, some _ => some (undef, { s with h := s.h.set r (some (.map (es ++ [{ key := x, val := v, born := clock }]) (clock + 1))) })
        | _, _ => none
      | _ => none
    | _, _, _ => none
  | .mapEntry kk zero m x => match eval t m, eval t x with
    | some (.map (some r)), some x => match s.h.get r with
      | some (.map es clock) => match find kk x es 0, keyEq kk x x with
        | some (some (i, e)), some _ => some (.tuple #[e.val, goInt e.born], { s with h := s.h.set r (some (.map (upd es i { e with key := x }) clock)) })
        | some none, some _ => some (.tuple #[zero, goInt clock], { s with h := s.h.set r (some (.map (es ++ [{ key := x, val := zero, born := clock }]) (clock + 1))) })
        | _, _ => none
      | _ => none
    | _, _ => none
  | .entrySet m st v => match eval t m, eval t st, eval t v with
    | some (.map (some r)), some (.int _ born), some v => match s.h.get r with
      | some (.map es clock) => match es.findIdx? (fun e => (e.born : Int) == born), es.find? (fun e => (e.born : Int) == born) with
        | some i, some e => some (undef, { s with h := s.h.set r (some (.map (upd es i { e with val := v }) clock)) })
        | _, _ => none
      | _ => none
    | _, _, _ => none
  | .rangeMap x => match eval t x with
    | some (.map none) => some (.pointer (some ⟨s.c, 0, none⟩), { h := s.h.set s.c (some (.mapIter none 0 [] 0)), c := s.c + 1 })
    | some (.map (some r)) => match s.h.get r with
      | some (.map _ clock) => some (.pointer (some ⟨s.c, 0, none⟩), { h := s.h.set s.c (some (.mapIter (some r) clock [] clock)), c := s.c + 1 })
      | _ => none
    | _ => none
  | .nextStr it => match eval t it with
    | some (.pointer (some ⟨r, 0, _⟩)) => match s.h.get r with
      | some (.strIter b pos) =>
        if pos < b.size then
          some (.tuple #[.bool true, goInt pos, .int .i32 (Utf8.decode b pos).1], { s with h := s.h.set r (some (.strIter b (pos + (Utf8.decode b pos).2))) })
        else some (.tuple #[.bool false], s)
      | _ => none
    | _ => none
  | .append ty size bytes d x => match eval t d, eval t x with
    | some (.slice a n c), some x => match lenOfV x with
      | some m => match firstV s.h size m x with
        | some new => appendV s ty size bytes a n c m new
        | none => none
      | none => none
    | _, _ => none
  | .copy size d x => match eval t d, eval t x with
    | some (.slice a n c), some x => match lenOfV x with
      | some m => match firstV s.h size (min m n) x with
        | some new => match a with
          | none => some (goInt (min m n : Nat), s)
          | some a => match s.h.get a.block with
            | some (.cells cs ty lo hi) =>
              if c < emp ∧ a.off + min m n * size ≤ cs.length ∧ new.all single = true ∧ free lo hi a.off (min m n * size) = true then
                some (goInt (min m n : Nat), { s with h := s.h.set a.block (some (.cells (updL cs a.off new) ty lo hi)) })
              else none
            | _ => none
        | none => none
      | none => none
    | _, _ => none
  | .delete kk m x => match eval t m, eval t x with
    | some (.map none), some x => match keyEq kk x x with
      | some _ => some (.tuple #[], s)
      | none => none
    | some (.map (some r)), some x => match s.h.get r with
      | some (.map es clock) => match find kk x es 0, keyEq kk x x with
        | some (some (i, _)), some _ => some (.tuple #[], { s with h := s.h.set r (some (.map (es.eraseIdx i) clock)) })
        | some none, some _ => some (.tuple #[], s)
        | _, _ => none
      | _ => none
    | _, _ => none
  | .clearMap m => match eval t m with
    | some (.map none) => some (.tuple #[], s)
    | some (.map (some r)) => match s.h.get r with
      | some (.map _ clock) => some (.tuple #[], { s with h := s.h.set r (some (.map [] clock)) })
      | _ => none
    | _ => none
  | _ => none

inductive Cls where
  | p | r | a | w | c
  deriving DecidableEq

def cls : MK → Cls
  | .load .. | .lookup .. | .lenMap .. | .entry .. | .toStr .. => .r
  | .alloc .. | .box .. | .buildSl .. | .makeMap | .makeSl .. | .toBytes .. | .rangeStr .. => .a
  | .store .. | .mapSet .. | .mapEntry .. | .entrySet .. | .rangeMap .. | .nextStr .. | .append .. | .copy .. | .delete .. | .clearMap .. => .w
  | .nextMap .. | .call .. | .invoke .. | .defer .. | .recover | .panic .. => .c
  | _ => .p

end Ev

/- Compiled functions. -/
namespace Ev
open Go

def m2 : MFn := ⟨1, [], (.region 1 [
  ⟨(some 0), none, .call (.func 1) [], 0, [], true⟩])⟩

def m3 : MFn := ⟨85, [(4, none)], (.seq (.region 1 [
  ⟨(some 4), none, .mv (.const (.bool false)), 0, [], true⟩])
 (.seq (.region 3 [
  ⟨(some 13), none, .mv (.tmp 0), 0, [], true⟩,
  ⟨(some 14), none, .call (.func 8) [(.tmp 13)], 1, [], true⟩,
  ⟨(some 5), none, .mv (.tmp 14), 2, [], true⟩])
 (.seq (.seq (.region 6 [
  ⟨(some 15), none, .call (.func 9) [], 0, [], true⟩,
  ⟨(some 16), none, .un .not (.tmp 15), 1, [], true⟩,
  ⟨(some 17), none, .mv (.tmp 16), 2, [], true⟩,
  ⟨(some 18), (some (17, false)), .mv (.tmp 5), 3, [], true⟩,
  ⟨(some 19), (some (17, false)), .eq false .ptr (.tmp 18) (.const (.pointer none)), 4, [], true⟩,
  ⟨(some 20), none, .pick (.tmp 17) (.const (.bool true)) (.tmp 19), 5, [], true⟩])
 (.cond (.tmp 20) (.seq (.region 1 [
  ⟨(some 4), none, .mv (.const (.bool false)), 0, [], true⟩])
 .ret) .skip))
 (.seq (.region 4 [
  ⟨(some 21), none, .mv (.tmp 1), 0, [], true⟩,
  ⟨(some 22), none, .conv .i64 (.tmp 21), 1, [], true⟩,
  ⟨(some 23), none, .bin .rem (.tmp 22) (.const (.int .i64 4)), 2, [], true⟩,
  ⟨(some 6), none, .mv (.tmp 23), 3, [], true⟩])
 (.seq (.region 8 [
  ⟨(some 25), none, .mv (.tmp 5), 0, [], true⟩,
  ⟨(some 26), none, .mv (.tmp 6), 1, [], true⟩,
  ⟨(some 27), none, .call (.func 10) [(.tmp 25), (.tmp 26)], 2, [], true⟩,
  ⟨(some 24), none, .mv (.tmp 27), 3, [], true⟩,
  ⟨(some 28), none, .extract (.tmp 24) 0, 4, [], true⟩,
  ⟨(some 29), none, .extract (.tmp 24) 1, 5, [], true⟩,
  ⟨(some 7), none, .mv (.tmp 28), 6, [], true⟩,
  ⟨(some 8), none, .mv (.tmp 29), 7, [], true⟩])
 (.seq (.region 3 [
  ⟨(some 30), none, .mv (.tmp 5), 0, [], true⟩,
  ⟨(some 31), none, .call (.func 11) [(.tmp 30)], 1, [], true⟩,
  ⟨(some 9), none, .mv (.tmp 31), 2, [], true⟩])
 (.seq (.region 4 [
  ⟨(some 32), none, .mv (.tmp 5), 0, [], true⟩,
  ⟨(some 33), none, .mv (.tmp 6), 1, [], true⟩,
  ⟨(some 34), none, .call (.func 12) [(.tmp 32), (.tmp 33)], 2, [], true⟩,
  ⟨(some 10), none, .mv (.tmp 34), 3, [], true⟩])
 (.seq (.seq (.region 2 [
  ⟨(some 35), none, .mv (.tmp 10), 0, [], true⟩,
  ⟨(some 36), none, .bin .neq (.tmp 35) (.const (.int .i64 0)), 1, [], true⟩])
 (.cond (.tmp 36) (.seq (.region 13 [
  ⟨(some 37), none, .mv (.tmp 10), 0, [], true⟩,
  ⟨(some 38), none, .bin .eql (.tmp 37) (.const (.int .i64 8)), 1, [], true⟩,
  ⟨(some 39), none, .mv (.tmp 38), 2, [], true⟩,
  ⟨(some 40), (some (39, true)), .mv (.tmp 8), 3, [], true⟩,
  ⟨(some 41), (some (39, true)), .un .not (.tmp 40), 4, [], true⟩,
  ⟨(some 42), (some (39, true)), .mv (.tmp 41), 5, [], true⟩,
  ⟨(some 43), (some (42, false)), .mv (.tmp 5), 6, [], true⟩,
  ⟨(some 44), (some (42, false)), .call (.func 14) [(.tmp 43)], 7, [], true⟩,
  ⟨(some 45), (some (42, false)), .mv (.tmp 7), 8, [], true⟩,
  ⟨(some 46), (some (42, false)), .call (.func 13) [(.tmp 44), (.tmp 45)], 9, [], true⟩,
  ⟨(some 47), (some (39, true)), .pick (.tmp 42) (.const (.bool true)) (.tmp 46), 10, [], true⟩,
  ⟨(some 48), none, .pick (.tmp 39) (.tmp 47) (.const (.bool false)), 11, [], true⟩,
  ⟨(some 4), none, .mv (.tmp 48), 12, [], true⟩])
 .ret) .skip))
 (.seq (.region 8 [
  ⟨(some 50), none, .mv (.tmp 5), 0, [], true⟩,
  ⟨(some 51), none, .mv (.tmp 6), 1, [], true⟩,
  ⟨(some 52), none, .call (.func 10) [(.tmp 50), (.tmp 51)], 2, [], true⟩,
  ⟨(some 49), none, .mv (.tmp 52), 3, [], true⟩,
  ⟨(some 53), none, .extract (.tmp 49) 0, 4, [], true⟩,
  ⟨(some 54), none, .extract (.tmp 49) 1, 5, [], true⟩,
  ⟨(some 11), none, .mv (.tmp 53), 6, [], true⟩,
  ⟨(some 12), none, .mv (.tmp 54), 7, [], true⟩])
 (.seq (.region 31 [
  ⟨(some 55), none, .mv (.tmp 8), 0, [], true⟩,
  ⟨(some 56), none, .mv (.tmp 55), 1, [], true⟩,
  ⟨(some 57), (some (56, true)), .mv (.tmp 12), 2, [], true⟩,
  ⟨(some 58), (some (56, true)), .un .not (.tmp 57), 3, [], true⟩,
  ⟨(some 59), none, .pick (.tmp 56) (.tmp 58) (.const (.bool false)), 4, [], true⟩,
  ⟨(some 60), none, .mv (.tmp 59), 5, [], true⟩,
  ⟨(some 61), (some (60, true)), .mv (.tmp 5), 6, [], true⟩,
  ⟨(some 62), (some (60, true)), .mv (.tmp 6), 7, [], true⟩,
  ⟨(some 63), (some (60, true)), .call (.func 15) [(.tmp 61), (.tmp 62)], 8, [], true⟩,
  ⟨(some 64), (some (60, true)), .un .not (.tmp 63), 9, [], true⟩,
  ⟨(some 65), none, .pick (.tmp 60) (.tmp 64) (.const (.bool false)), 10, [], true⟩,
  ⟨(some 66), none, .mv (.tmp 65), 11, [], true⟩,
  ⟨(some 67), (some (66, true)), .mv (.tmp 5), 12, [], true⟩,
  ⟨(some 68), (some (66, true)), .call (.func 11) [(.tmp 67)], 13, [], true⟩,
  ⟨(some 69), (some (66, true)), .mv (.tmp 9), 14, [], true⟩,
  ⟨(some 70), (some (66, true)), .call (.func 16) [(.tmp 68), (.tmp 69)], 15, [], true⟩,
  ⟨(some 71), none, .pick (.tmp 66) (.tmp 70) (.const (.bool false)), 16, [], true⟩,
  ⟨(some 72), none, .mv (.tmp 71), 17, [], true⟩,
  ⟨(some 73), (some (72, true)), .mv (.tmp 5), 18, [], true⟩,
  ⟨(some 74), (some (72, true)), .mv (.tmp 7), 19, [], true⟩,
  ⟨(some 75), (some (72, true)), .call (.func 17) [(.tmp 73), (.tmp 74)], 20, [], true⟩,
  ⟨(some 76), (some (72, true)), .bin .eql (.tmp 75) (.const (.int .u8 3)), 21, [], true⟩,
  ⟨(some 77), none, .pick (.tmp 72) (.tmp 76) (.const (.bool false)), 22, [], true⟩,
  ⟨(some 78), none, .mv (.tmp 77), 23, [], true⟩,
  ⟨(some 79), (some (78, true)), .mv (.tmp 5), 24, [], true⟩,
  ⟨(some 80), (some (78, true)), .mv (.tmp 6), 25, [], true⟩,
  ⟨(some 81), (some (78, true)), .build [(.int .u8 0), (.int .i64 0), (.int .u64 0)] [(0, 1, (.const (.int .u8 6)))], 26, [], true⟩,
  ⟨(some 82), (some (78, true)), .call (.func 18) [(.tmp 79), (.tmp 80), (.tmp 81)], 27, [], true⟩,
  ⟨(some 83), (some (78, true)), .bin .eql (.tmp 82) (.const (.int .i64 8)), 28, [], true⟩,
  ⟨(some 84), none, .pick (.tmp 78) (.tmp 83) (.const (.bool false)), 29, [], true⟩,
  ⟨(some 4), none, .mv (.tmp 84), 30, [], true⟩])
 .ret))))))))))⟩

def m4 : MFn := ⟨27, [(2, none)], (.seq (.region 1 [
  ⟨(some 2), none, .mv (.const (.bool false)), 0, [], true⟩])
 (.seq (.region 3 [
  ⟨(some 6), none, .mv (.tmp 0), 0, [], true⟩,
  ⟨(some 7), none, .call (.func 8) [(.tmp 6)], 1, [], true⟩,
  ⟨(some 3), none, .mv (.tmp 7), 2, [], true⟩])
 (.seq (.seq (.region 6 [
  ⟨(some 8), none, .call (.func 9) [], 0, [], true⟩,
  ⟨(some 9), none, .un .not (.tmp 8), 1, [], true⟩,
  ⟨(some 10), none, .mv (.tmp 9), 2, [], true⟩,
  ⟨(some 11), (some (10, false)), .mv (.tmp 3), 3, [], true⟩,
  ⟨(some 12), (some (10, false)), .eq false .ptr (.tmp 11) (.const (.pointer none)), 4, [], true⟩,
  ⟨(some 13), none, .pick (.tmp 10) (.const (.bool true)) (.tmp 12), 5, [], true⟩])
 (.cond (.tmp 13) (.seq (.region 1 [
  ⟨(some 2), none, .mv (.const (.bool false)), 0, [], true⟩])
 .ret) .skip))
 (.seq (.region 13 [
  ⟨(some 15), none, .mv (.tmp 3), 0, [], true⟩,
  ⟨(some 16), none, .call (.func 20) [(.tmp 15)], 1, [], true⟩,
  ⟨(some 17), none, .call (.func 21) [], 2, [], true⟩,
  ⟨(some 18), none, .mv (.tmp 3), 3, [], true⟩,
  ⟨(some 19), none, .call (.func 22) [(.tmp 18)], 4, [], true⟩,
  ⟨(some 20), none, .mv (.tmp 3), 5, [], true⟩,
  ⟨(some 21), none, .call (.func 14) [(.tmp 20)], 6, [], true⟩,
  ⟨(some 22), none, .call (.func 19) [(.tmp 16), (.tmp 17), (.tmp 19), (.tmp 21)], 7, [], true⟩,
  ⟨(some 14), none, .mv (.tmp 22), 8, [], true⟩,
  ⟨(some 23), none, .extract (.tmp 14) 0, 9, [], true⟩,
  ⟨(some 24), none, .extract (.tmp 14) 1, 10, [], true⟩,
  ⟨(some 4), none, .mv (.tmp 23), 11, [], true⟩,
  ⟨(some 5), none, .mv (.tmp 24), 12, [], true⟩])
 (.seq (.region 3 [
  ⟨(some 25), none, .mv (.tmp 5), 0, [], true⟩,
  ⟨(some 26), none, .bin .eql (.tmp 25) (.const (.int .i64 0)), 1, [], true⟩,
  ⟨(some 2), none, .mv (.tmp 26), 2, [], true⟩])
 .ret)))))⟩

def m5 : MFn := ⟨54, [(2, none)], (.seq (.region 1 [
  ⟨(some 2), none, .mv (.const (.bool false)), 0, [], true⟩])
 (.seq (.region 3 [
  ⟨(some 8), none, .mv (.tmp 0), 0, [], true⟩,
  ⟨(some 9), none, .call (.func 8) [(.tmp 8)], 1, [], true⟩,
  ⟨(some 3), none, .mv (.tmp 9), 2, [], true⟩])
 (.seq (.seq (.region 6 [
  ⟨(some 10), none, .call (.func 9) [], 0, [], true⟩,
  ⟨(some 11), none, .un .not (.tmp 10), 1, [], true⟩,
  ⟨(some 12), none, .mv (.tmp 11), 2, [], true⟩,
  ⟨(some 13), (some (12, false)), .mv (.tmp 3), 3, [], true⟩,
  ⟨(some 14), (some (12, false)), .eq false .ptr (.tmp 13) (.const (.pointer none)), 4, [], true⟩,
  ⟨(some 15), none, .pick (.tmp 12) (.const (.bool true)) (.tmp 14), 5, [], true⟩])
 (.cond (.tmp 15) (.seq (.region 1 [
  ⟨(some 2), none, .mv (.const (.bool false)), 0, [], true⟩])
 .ret) .skip))
 (.seq (.region 13 [
  ⟨(some 17), none, .mv (.tmp 3), 0, [], true⟩,
  ⟨(some 18), none, .call (.func 20) [(.tmp 17)], 1, [], true⟩,
  ⟨(some 19), none, .call (.func 21) [], 2, [], true⟩,
  ⟨(some 20), none, .mv (.tmp 3), 3, [], true⟩,
  ⟨(some 21), none, .call (.func 22) [(.tmp 20)], 4, [], true⟩,
  ⟨(some 22), none, .mv (.tmp 3), 5, [], true⟩,
  ⟨(some 23), none, .call (.func 14) [(.tmp 22)], 6, [], true⟩,
  ⟨(some 24), none, .call (.func 23) [(.tmp 18), (.tmp 19), (.tmp 21), (.tmp 23)], 7, [], true⟩,
  ⟨(some 16), none, .mv (.tmp 24), 8, [], true⟩,
  ⟨(some 25), none, .extract (.tmp 16) 0, 9, [], true⟩,
  ⟨(some 26), none, .extract (.tmp 16) 1, 10, [], true⟩,
  ⟨(some 4), none, .mv (.tmp 25), 11, [], true⟩,
  ⟨(some 5), none, .mv (.tmp 26), 12, [], true⟩])
 (.seq (.seq (.region 10 [
  ⟨(some 27), none, .mv (.tmp 5), 0, [], true⟩,
  ⟨(some 28), none, .bin .neq (.tmp 27) (.const (.int .i64 0)), 1, [], true⟩,
  ⟨(some 29), none, .mv (.tmp 28), 2, [], true⟩,
  ⟨(some 30), (some (29, false)), .mv (.tmp 4), 3, [], true⟩,
  ⟨(some 31), (some (29, false)), .len false (.tmp 30), 4, [], true⟩,
  ⟨(some 32), (some (29, false)), .mv (.tmp 3), 5, [], true⟩,
  ⟨(some 33), (some (29, false)), .call (.func 11) [(.tmp 32)], 6, [], true⟩,
  ⟨(some 34), (some (29, false)), .len false (.tmp 33), 7, [], true⟩,
  ⟨(some 35), (some (29, false)), .bin .neq (.tmp 31) (.tmp 34), 8, [], true⟩,
  ⟨(some 36), none, .pick (.tmp 29) (.const (.bool true)) (.tmp 35), 9, [], true⟩])
 (.cond (.tmp 36) (.seq (.region 1 [
  ⟨(some 2), none, .mv (.const (.bool false)), 0, [], true⟩])
 .ret) .skip))
 (.seq (.region 1 [
  ⟨(some 6), none, .mv (.const (.bool false)), 0, [], true⟩])
 (.seq (.seq (.region 1 [
  ⟨(some 7), none, .mv (.const (.int .i64 0)), 0, [], true⟩])
 (.block 0 (.loop (.seq (.seq (.region 2 [
  ⟨(some 37), none, .mv (.tmp 7), 0, [], true⟩,
  ⟨(some 38), none, .bin .lss (.tmp 37) (.const (.int .i64 4)), 1, [], true⟩])
 (.cond (.tmp 38) .skip (.exit 0)))
 (.seq (.block 1 (.region 7 [
  ⟨(some 41), none, .mv (.tmp 6), 0, [], true⟩,
  ⟨(some 42), none, .mv (.tmp 41), 1, [], true⟩,
  ⟨(some 43), (some (42, false)), .mv (.tmp 3), 2, [], true⟩,
  ⟨(some 44), (some (42, false)), .mv (.tmp 7), 3, [], true⟩,
  ⟨(some 45), (some (42, false)), .call (.func 15) [(.tmp 43), (.tmp 44)], 4, [], true⟩,
  ⟨(some 46), none, .pick (.tmp 42) (.const (.bool true)) (.tmp 45), 5, [], true⟩,
  ⟨(some 6), none, .mv (.tmp 46), 6, [], true⟩]))
 (.region 3 [
  ⟨(some 39), none, .mv (.tmp 7), 0, [], true⟩,
  ⟨(some 40), none, .bin .add (.tmp 39) (.const (.int .i64 1)), 1, [], true⟩,
  ⟨(some 7), none, .mv (.tmp 40), 2, [], true⟩]))))))
 (.seq (.region 8 [
  ⟨(some 47), none, .mv (.tmp 6), 0, [], true⟩,
  ⟨(some 48), none, .mv (.tmp 47), 1, [], true⟩,
  ⟨(some 49), (some (48, false)), .mv (.tmp 4), 2, [], true⟩,
  ⟨(some 50), (some (48, false)), .mv (.tmp 3), 3, [], true⟩,
  ⟨(some 51), (some (48, false)), .call (.func 11) [(.tmp 50)], 4, [], true⟩,
  ⟨(some 52), (some (48, false)), .call (.func 16) [(.tmp 49), (.tmp 51)], 5, [], true⟩,
  ⟨(some 53), none, .pick (.tmp 48) (.const (.bool true)) (.tmp 52), 6, [], true⟩,
  ⟨(some 2), none, .mv (.tmp 53), 7, [], true⟩])
 .ret))))))))⟩

def m6 : MFn := ⟨53, [(4, none)], (.seq (.region 1 [
  ⟨(some 4), none, .mv (.const (.bool false)), 0, [], true⟩])
 (.seq (.region 9 [
  ⟨(some 12), none, .mv (.tmp 0), 0, [], true⟩,
  ⟨(some 13), none, .call (.func 24) [(.tmp 12)], 1, [], true⟩,
  ⟨(some 11), none, .mv (.tmp 13), 2, [], true⟩,
  ⟨(some 14), none, .extract (.tmp 11) 0, 3, [], true⟩,
  ⟨(some 15), none, .extract (.tmp 11) 1, 4, [], true⟩,
  ⟨(some 16), none, .extract (.tmp 11) 2, 5, [], true⟩,
  ⟨(some 5), none, .mv (.tmp 14), 6, [], true⟩,
  ⟨(some 6), none, .mv (.tmp 15), 7, [], true⟩,
  ⟨(some 7), none, .mv (.tmp 16), 8, [], true⟩])
 (.seq (.seq (.region 6 [
  ⟨(some 17), none, .call (.func 9) [], 0, [], true⟩,
  ⟨(some 18), none, .un .not (.tmp 17), 1, [], true⟩,
  ⟨(some 19), none, .mv (.tmp 18), 2, [], true⟩,
  ⟨(some 20), (some (19, false)), .mv (.tmp 7), 3, [], true⟩,
  ⟨(some 21), (some (19, false)), .un .not (.tmp 20), 4, [], true⟩,
  ⟨(some 22), none, .pick (.tmp 19) (.const (.bool true)) (.tmp 21), 5, [], true⟩])
 (.cond (.tmp 22) (.seq (.region 1 [
  ⟨(some 4), none, .mv (.const (.bool false)), 0, [], true⟩])
 .ret) .skip))
 (.seq (.region 6 [
  ⟨(some 23), none, .mv (.tmp 5), 0, [], true⟩,
  ⟨(some 24), none, .call (.func 25) [(.tmp 23)], 1, [], true⟩,
  ⟨(some 25), none, .mv (.tmp 6), 2, [], true⟩,
  ⟨(some 26), none, .call (.func 26) [(.tmp 25)], 3, [], true⟩,
  ⟨(some 8), none, .mv (.tmp 24), 4, [], true⟩,
  ⟨(some 9), none, .mv (.tmp 26), 5, [], true⟩])
 (.seq (.seq (.region 1 [
  ⟨(some 10), none, .mv (.const (.int .i64 0)), 0, [], true⟩])
 (.block 0 (.loop (.seq (.seq (.region 8 [
  ⟨(some 27), none, .mv (.tmp 10), 0, [], true⟩,
  ⟨(some 28), none, .mv (.tmp 1), 1, [], true⟩,
  ⟨(some 29), none, .len false (.tmp 28), 2, [], true⟩,
  ⟨(some 30), none, .bin .lss (.tmp 27) (.tmp 29), 3, [], true⟩,
  ⟨(some 31), none, .mv (.tmp 30), 4, [], true⟩,
  ⟨(some 32), (some (31, true)), .mv (.tmp 10), 5, [], true⟩,
  ⟨(some 33), (some (31, true)), .bin .lss (.tmp 32) (.const (.int .i64 30)), 6, [], true⟩,
  ⟨(some 34), none, .pick (.tmp 31) (.tmp 33) (.const (.bool false)), 7, [], true⟩])
 (.cond (.tmp 34) .skip (.exit 0)))
 (.seq (.block 1 (.seq (.region 8 [
  ⟨(some 37), none, .mv (.tmp 8), 0, [], true⟩,
  ⟨(some 38), none, .mv (.tmp 9), 1, [], true⟩,
  ⟨(some 39), none, .mv (.tmp 1), 2, [], true⟩,
  ⟨(some 40), none, .mv (.tmp 10), 3, [], true⟩,
  ⟨(some 41), none, .adSl 5 (.tmp 39) (.tmp 40), 4, [], true⟩,
  ⟨(some 42), none, .load 5 true (.tmp 41), 5, [], true⟩,
  ⟨(some 43), none, .call (.func 27) [(.tmp 37), (.tmp 38), (.tmp 42)], 6, [], true⟩,
  ⟨(some 44), none, .un .not (.tmp 43), 7, [], true⟩])
 (.cond (.tmp 44) (.seq (.region 1 [
  ⟨(some 4), none, .mv (.const (.bool false)), 0, [], true⟩])
 .ret) .skip)))
 (.region 3 [
  ⟨(some 35), none, .mv (.tmp 10), 0, [], true⟩,
  ⟨(some 36), none, .bin .add (.tmp 35) (.const (.int .i64 1)), 1, [], true⟩,
  ⟨(some 10), none, .mv (.tmp 36), 2, [], true⟩]))))))
 (.seq (.region 9 [
  ⟨(some 45), none, .mv (.tmp 5), 0, [], true⟩,
  ⟨(some 46), none, .mv (.tmp 6), 1, [], true⟩,
  ⟨(some 47), none, .call (.func 28) [(.tmp 45), (.tmp 46)], 2, [], true⟩,
  ⟨(some 48), none, .mv (.tmp 47), 3, [], true⟩,
  ⟨(some 49), (some (48, true)), .mv (.tmp 8), 4, [], true⟩,
  ⟨(some 50), (some (48, true)), .mv (.tmp 9), 5, [], true⟩,
  ⟨(some 51), (some (48, true)), .call (.func 28) [(.tmp 49), (.tmp 50)], 6, [], true⟩,
  ⟨(some 52), none, .pick (.tmp 48) (.tmp 51) (.const (.bool false)), 7, [], true⟩,
  ⟨(some 4), none, .mv (.tmp 52), 8, [], true⟩])
 .ret))))))⟩

def m7 : MFn := ⟨171, [(6, none)], (.seq (.region 2 [
  ⟨(some 3), none, .box 60 (.tmp 0), 0, [], true⟩,
  ⟨(some 6), none, .mv (.const (.bool false)), 1, [], true⟩])
 (.seq (.region 1 [
  ⟨(some 7), none, .mv (.const (.pointer none)), 0, [], true⟩])
 (.seq (.region 9 [
  ⟨(some 16), none, .mv (.tmp 7), 0, [], true⟩,
  ⟨(some 17), none, .fieldAddr 1 (.tmp 3), 1, [], true⟩,
  ⟨(some 18), none, .load 1 false (.tmp 17), 2, [], true⟩,
  ⟨(some 19), none, .call (.func 29) [(.tmp 16), (.tmp 18)], 3, [], true⟩,
  ⟨(some 15), none, .mv (.tmp 19), 4, [], true⟩,
  ⟨(some 20), none, .extract (.tmp 15) 0, 5, [], true⟩,
  ⟨(some 21), none, .extract (.tmp 15) 1, 6, [], true⟩,
  ⟨(some 8), none, .mv (.tmp 20), 7, [], true⟩,
  ⟨(some 9), none, .mv (.tmp 21), 8, [], true⟩])
 (.seq (.region 9 [
  ⟨(some 23), none, .mv (.tmp 7), 0, [], true⟩,
  ⟨(some 24), none, .fieldAddr 1 (.tmp 3), 1, [], true⟩,
  ⟨(some 25), none, .load 1 false (.tmp 24), 2, [], true⟩,
  ⟨(some 26), none, .call (.func 10) [(.tmp 23), (.tmp 25)], 3, [], true⟩,
  ⟨(some 22), none, .mv (.tmp 26), 4, [], true⟩,
  ⟨(some 27), none, .extract (.tmp 22) 0, 5, [], true⟩,
  ⟨(some 28), none, .extract (.tmp 22) 1, 6, [], true⟩,
  ⟨(some 10), none, .mv (.tmp 27), 7, [], true⟩,
  ⟨(some 11), none, .mv (.tmp 28), 8, [], true⟩])
 (.seq (.region 10 [
  ⟨(some 30), none, .mv (.tmp 7), 0, [], true⟩,
  ⟨(some 31), none, .fieldAddr 1 (.tmp 3), 1, [], true⟩,
  ⟨(some 32), none, .load 1 false (.tmp 31), 2, [], true⟩,
  ⟨(some 33), none, .call (.func 30) [(.tmp 30), (.tmp 32)], 3, [], true⟩,
  ⟨(some 29), none, .mv (.tmp 33), 4, [], true⟩,
  ⟨(some 34), none, .extract (.tmp 29) 0, 5, [], true⟩,
  ⟨(some 35), none, .extract (.tmp 29) 1, 6, [], true⟩,
  ⟨(some 12), none, .alloc [(.int .u8 0), (.int .i64 0), (.int .u64 0)] 44, 7, [], true⟩,
  ⟨none, none, .store 3 (.tmp 12) (.tmp 34), 8, [], true⟩,
  ⟨(some 13), none, .mv (.tmp 35), 9, [], true⟩])
 (.seq (.region 8 [
  ⟨(some 36), none, .mv (.tmp 1), 0, [], true⟩,
  ⟨(some 37), none, .call (.func 31) [(.tmp 36)], 1, [], true⟩,
  ⟨(some 38), none, .mv (.tmp 37), 2, [], true⟩,
  ⟨(some 39), (some (38, true)), .mv (.tmp 2), 3, [], true⟩,
  ⟨(some 40), (some (38, true)), .call (.func 32) [(.tmp 39)], 4, [], true⟩,
  ⟨(some 41), (some (38, true)), .eq true .ptr (.tmp 40) (.const (.pointer none)), 5, [], true⟩,
  ⟨(some 42), none, .pick (.tmp 38) (.tmp 41) (.const (.bool false)), 6, [], true⟩,
  ⟨(some 14), none, .mv (.tmp 42), 7, [], true⟩])
 (.seq (.region 129 (
  ⟨(some 43), none, .call (.func 9) [], 0, [], true⟩ ::
  ⟨(some 44), none, .mv (.tmp 43), 1, [], true⟩ ::
  ⟨(some 45), (some (44, true)), .mv (.tmp 8), 2, [], true⟩ ::
  ⟨(some 46), (some (44, true)), .bin .eql (.tmp 45) (.const (.int .i64 0)), 3, [], true⟩ ::
  ⟨(some 47), none, .pick (.tmp 44) (.tmp 46) (.const (.bool false)), 4, [], true⟩ ::
  ⟨(some 48), none, .mv (.tmp 47), 5, [], true⟩ ::
  ⟨(some 49), (some (48, true)), .mv (.tmp 9), 6, [], true⟩ ::
  ⟨(some 50), (some (48, true)), .bin .eql (.tmp 49) (.const (.int .i64 1)), 7, [], true⟩ ::
  ⟨(some 51), none, .pick (.tmp 48) (.tmp 50) (.const (.bool false)), 8, [], true⟩ ::
  ⟨(some 52), none, .mv (.tmp 51), 9, [], true⟩ ::
  ⟨(some 53), (some (52, true)), .mv (.tmp 7), 10, [], true⟩ ::
  ⟨(some 54), (some (52, true)), .fieldAddr 1 (.tmp 3), 11, [], true⟩ ::
  ⟨(some 55), (some (52, true)), .load 1 false (.tmp 54), 12, [], true⟩ ::
  ⟨(some 56), (some (52, true)), .fieldAddr 2 (.tmp 3), 13, [], true⟩ ::
  ⟨(some 57), (some (52, true)), .load 3 true (.tmp 56), 14, [], true⟩ ::
  ⟨(some 58), (some (52, true)), .call (.func 18) [(.tmp 53), (.tmp 55), (.tmp 57)], 15, [], true⟩ ::
  ⟨(some 59), (some (52, true)), .bin .eql (.tmp 58) (.const (.int .i64 1)), 16, [], true⟩ ::
  ⟨(some 60), none, .pick (.tmp 52) (.tmp 59) (.const (.bool false)), 17, [], true⟩ ::
  ⟨(some 61), none, .mv (.tmp 60), 18, [], true⟩ ::
  ⟨(some 62), (some (61, true)), .mv (.tmp 7), 19, [], true⟩ ::
  ⟨(some 63), (some (61, true)), .fieldAddr 1 (.tmp 3), 20, [], true⟩ ::
  ⟨(some 64), (some (61, true)), .load 1 false (.tmp 63), 21, [], true⟩ ::
  ⟨(some 65), (some (61, true)), .call (.func 33) [(.tmp 62), (.tmp 64)], 22, [], true⟩ ::
  ⟨(some 66), (some (61, true)), .build [(.bool false), (.int .u64 0), (.bool false), (.int .i64 0), (.bool false), (.int .u8 0), (.int .i64 0)] [(6, 1, (.const (.int .i64 1)))], 23, [], true⟩ ::
  ⟨(some 67), (some (61, true)), .eq false (.st [(0, 1, false, .bool), (1, 1, false, .int), (2, 1, false, .bool), (3, 1, false, .int), (4, 1, false, .bool), (5, 1, false, .int), (6, 1, false, .int)]) (.tmp 65) (.tmp 66), 24, [], true⟩ ::
  ⟨(some 68), none, .pick (.tmp 61) (.tmp 67) (.const (.bool false)), 25, [], true⟩ ::
  ⟨(some 69), none, .mv (.tmp 68), 26, [], true⟩ ::
  ⟨(some 70), (some (69, true)), .mv (.tmp 7), 27, [], true⟩ ::
  ⟨(some 71), (some (69, true)), .fieldAddr 1 (.tmp 3), 28, [], true⟩ ::
  ⟨(some 72), (some (69, true)), .load 1 false (.tmp 71), 29, [], true⟩ ::
  ⟨(some 73), (some (69, true)), .call (.func 12) [(.tmp 70), (.tmp 72)], 30, [], true⟩ ::
  ⟨(some 74), (some (69, true)), .bin .eql (.tmp 73) (.const (.int .i64 1)), 31, [], true⟩ ::
  ⟨(some 75), none, .pick (.tmp 69) (.tmp 74) (.const (.bool false)), 32, [], true⟩ ::
  ⟨(some 76), none, .mv (.tmp 75), 33, [], true⟩ ::
  ⟨(some 77), (some (76, true)), .mv (.tmp 7), 34, [], true⟩ ::
  ⟨(some 78), (some (76, true)), .call (.func 11) [(.tmp 77)], 35, [], true⟩ ::
  ⟨(some 79), (some (76, true)), .len false (.tmp 78), 36, [], true⟩ ::
  ⟨(some 80), (some (76, true)), .bin .eql (.tmp 79) (.const (.int .i64 0)), 37, [], true⟩ ::
  ⟨(some 81), none, .pick (.tmp 76) (.tmp 80) (.const (.bool false)), 38, [], true⟩ ::
  ⟨(some 82), none, .mv (.tmp 81), 39, [], true⟩ ::
  ⟨(some 83), (some (82, true)), .mv (.tmp 7), 40, [], true⟩ ::
  ⟨(some 84), (some (82, true)), .call (.func 20) [(.tmp 83)], 41, [], true⟩ ::
  ⟨(some 85), (some (82, true)), .len false (.tmp 84), 42, [], true⟩ ::
  ⟨(some 86), (some (82, true)), .bin .eql (.tmp 85) (.const (.int .i64 0)), 43, [], true⟩ ::
  ⟨(some 87), none, .pick (.tmp 82) (.tmp 86) (.const (.bool false)), 44, [], true⟩ ::
  ⟨(some 88), none, .mv (.tmp 87), 45, [], true⟩ ::
  ⟨(some 89), (some (88, true)), .mv (.tmp 7), 46, [], true⟩ ::
  ⟨(some 90), (some (88, true)), .call (.func 22) [(.tmp 89)], 47, [], true⟩ ::
  ⟨(some 91), (some (88, true)), .len false (.tmp 90), 48, [], true⟩ ::
  ⟨(some 92), (some (88, true)), .bin .eql (.tmp 91) (.const (.int .i64 0)), 49, [], true⟩ ::
  ⟨(some 93), none, .pick (.tmp 88) (.tmp 92) (.const (.bool false)), 50, [], true⟩ ::
  ⟨(some 94), none, .mv (.tmp 93), 51, [], true⟩ ::
  ⟨(some 95), (some (94, true)), .mv (.tmp 7), 52, [], true⟩ ::
  ⟨(some 96), (some (94, true)), .call (.func 14) [(.tmp 95)], 53, [], true⟩ ::
  ⟨(some 97), (some (94, true)), .len false (.tmp 96), 54, [], true⟩ ::
  ⟨(some 98), (some (94, true)), .bin .eql (.tmp 97) (.const (.int .i64 0)), 55, [], true⟩ ::
  ⟨(some 99), none, .pick (.tmp 94) (.tmp 98) (.const (.bool false)), 56, [], true⟩ ::
  ⟨(some 100), none, .mv (.tmp 99), 57, [], true⟩ ::
  ⟨(some 101), (some (100, true)), .mv (.tmp 7), 58, [], true⟩ ::
  ⟨(some 102), (some (100, true)), .mv (.tmp 2), 59, [], true⟩ ::
  ⟨(some 103), (some (100, true)), .call (.func 17) [(.tmp 101), (.tmp 102)], 60, [], true⟩ ::
  ⟨(some 104), (some (100, true)), .bin .eql (.tmp 103) (.const (.int .u8 0)), 61, [], true⟩ ::
  ⟨(some 105), none, .pick (.tmp 100) (.tmp 104) (.const (.bool false)), 62, [], true⟩ ::
  ⟨(some 106), none, .mv (.tmp 105), 63, [], true⟩ ::
  ⟨(some 107), (some (106, true)), .mv (.tmp 10), 64, [], true⟩ ::
  ⟨(some 108), (some (106, true)), .bin .eql (.tmp 107) (.const (.int .i64 0)), 65, [], true⟩ ::
  ⟨(some 109), none, .pick (.tmp 106) (.tmp 108) (.const (.bool false)), 66, [], true⟩ ::
  ⟨(some 110), none, .mv (.tmp 109), 67, [], true⟩ ::
  ⟨(some 111), (some (110, true)), .mv (.tmp 11), 68, [], true⟩ ::
  ⟨(some 112), (some (110, true)), .un .not (.tmp 111), 69, [], true⟩ ::
  ⟨(some 113), none, .pick (.tmp 110) (.tmp 112) (.const (.bool false)), 70, [], true⟩ ::
  ⟨(some 114), none, .mv (.tmp 113), 71, [], true⟩ ::
  ⟨(some 115), (some (114, true)), .load 3 true (.tmp 12), 72, [], true⟩ ::
  ⟨(some 116), (some (114, true)), .build [(.int .u8 0), (.int .i64 0), (.int .u64 0)] [], 73, [], true⟩ ::
  ⟨(some 117), (some (114, true)), .eq false (.st [(0, 1, false, .int), (1, 1, false, .int), (2, 1, false, .int)]) (.tmp 115) (.tmp 116), 74, [], true⟩ ::
  ⟨(some 118), none, .pick (.tmp 114) (.tmp 117) (.const (.bool false)), 75, [], true⟩ ::
  ⟨(some 119), none, .mv (.tmp 118), 76, [], true⟩ ::
  ⟨(some 120), (some (119, true)), .mv (.tmp 13), 77, [], true⟩ ::
  ⟨(some 121), (some (119, true)), .un .not (.tmp 120), 78, [], true⟩ ::
  ⟨(some 122), none, .pick (.tmp 119) (.tmp 121) (.const (.bool false)), 79, [], true⟩ ::
  ⟨(some 123), none, .mv (.tmp 122), 80, [], true⟩ ::
  ⟨(some 124), (some (123, true)), .mv (.tmp 7), 81, [], true⟩ ::
  ⟨(some 125), (some (123, true)), .fieldAddr 1 (.tmp 3), 82, [], true⟩ ::
  ⟨(some 126), (some (123, true)), .load 1 false (.tmp 125), 83, [], true⟩ ::
  ⟨(some 127), (some (123, true)), .call (.func 34) [(.tmp 124), (.tmp 126)], 84, [], true⟩ ::
  ⟨(some 128), (some (123, true)), .len false (.tmp 127), 85, [], true⟩ ::
  ⟨(some 129), (some (123, true)), .bin .eql (.tmp 128) (.const (.int .i64 0)), 86, [], true⟩ ::
  ⟨(some 130), none, .pick (.tmp 123) (.tmp 129) (.const (.bool false)), 87, [], true⟩ ::
  ⟨(some 131), none, .mv (.tmp 130), 88, [], true⟩ ::
  ⟨(some 132), (some (131, true)), .mv (.tmp 7), 89, [], true⟩ ::
  ⟨(some 133), (some (131, true)), .fieldAddr 1 (.tmp 3), 90, [], true⟩ ::
  ⟨(some 134), (some (131, true)), .load 1 false (.tmp 133), 91, [], true⟩ ::
  ⟨(some 135), (some (131, true)), .call (.func 35) [(.tmp 132), (.tmp 134)], 92, [], true⟩ ::
  ⟨(some 136), (some (131, true)), .len false (.tmp 135), 93, [], true⟩ ::
  ⟨(some 137), (some (131, true)), .bin .eql (.tmp 136) (.const (.int .i64 0)), 94, [], true⟩ ::
  ⟨(some 138), none, .pick (.tmp 131) (.tmp 137) (.const (.bool false)), 95, [], true⟩ ::
  ⟨(some 139), none, .mv (.tmp 138), 96, [], true⟩ ::
  ⟨(some 140), (some (139, true)), .mv (.tmp 7), 97, [], true⟩ ::
  ⟨(some 141), (some (139, true)), .fieldAddr 1 (.tmp 3), 98, [], true⟩ ::
  ⟨(some 142), (some (139, true)), .load 1 false (.tmp 141), 99, [], true⟩ ::
  ⟨(some 143), (some (139, true)), .call (.func 15) [(.tmp 140), (.tmp 142)], 100, [], true⟩ ::
  ⟨(some 144), (some (139, true)), .un .not (.tmp 143), 101, [], true⟩ ::
  ⟨(some 145), none, .pick (.tmp 139) (.tmp 144) (.const (.bool false)), 102, [], true⟩ ::
  ⟨(some 146), none, .mv (.tmp 145), 103, [], true⟩ ::
  ⟨(some 147), (some (146, true)), .mv (.tmp 7), 104, [], true⟩ ::
  ⟨(some 148), (some (146, true)), .fieldAddr 1 (.tmp 3), 105, [], true⟩ ::
  ⟨(some 149), (some (146, true)), .load 1 false (.tmp 148), 106, [], true⟩ ::
  ⟨(some 150), (some (146, true)), .call (.func 36) [(.tmp 147), (.tmp 149)], 107, [], true⟩ ::
  ⟨(some 151), (some (146, true)), .un .not (.tmp 150), 108, [], true⟩ ::
  ⟨(some 152), none, .pick (.tmp 146) (.tmp 151) (.const (.bool false)), 109, [], true⟩ ::
  ⟨(some 153), none, .mv (.tmp 152), 110, [], true⟩ ::
  ⟨(some 154), (some (153, true)), .mv (.tmp 7), 111, [], true⟩ ::
  ⟨(some 155), (some (153, true)), .call (.func 37) [(.tmp 154)], 112, [], true⟩ ::
  ⟨(some 156), (some (153, true)), .bin .eql (.tmp 155) (.const (.int .u64 0)), 113, [], true⟩ ::
  ⟨(some 157), none, .pick (.tmp 153) (.tmp 156) (.const (.bool false)), 114, [], true⟩ ::
  ⟨(some 158), none, .mv (.tmp 157), 115, [], true⟩ ::
  ⟨(some 159), (some (158, true)), .mv (.tmp 7), 116, [], true⟩ ::
  ⟨(some 160), (some (158, true)), .call (.func 25) [(.tmp 159)], 117, [], true⟩ ::
  ⟨(some 161), (some (158, true)), .eq false .ptr (.tmp 160) (.const (.pointer none)), 118, [], true⟩ ::
  ⟨(some 162), none, .pick (.tmp 158) (.tmp 161) (.const (.bool false)), 119, [], true⟩ ::
  ⟨(some 163), none, .mv (.tmp 162), 120, [], true⟩ ::
  ⟨(some 164), (some (163, true)), .mv (.tmp 1), 121, [], true⟩ ::
  ⟨(some 165), (some (163, true)), .mv (.tmp 2), 122, [], true⟩ ::
  ⟨(some 166), (some (163, true)), .call (.func 38) [(.tmp 164), (.tmp 165)], 123, [], true⟩ ::
  ⟨(some 167), (some (163, true)), .eq true .ptr (.tmp 166) (.const (.pointer none)), 124, [], true⟩ ::
  ⟨(some 168), (some (163, true)), .mv (.tmp 14), 125, [], true⟩ ::
  ⟨(some 169), (some (163, true)), .eq false .bool (.tmp 167) (.tmp 168), 126, [], true⟩ ::
  ⟨(some 170), none, .pick (.tmp 163) (.tmp 169) (.const (.bool false)), 127, [], true⟩ ::
  ⟨(some 6), none, .mv (.tmp 170), 128, [], true⟩ :: []))
 .ret)))))))⟩

def m8 : MFn := ⟨55, [(2, none)], (.seq (.region 1 [
  ⟨(some 2), none, .mv (.const (.pointer none)), 0, [], true⟩])
 (.seq (.region 3 [
  ⟨(some 6), none, .call (.func 21) [], 0, [], true⟩,
  ⟨(some 7), none, .call (.func 38) [(.tmp 6), (.const (.int .i64 3))], 1, [], true⟩,
  ⟨(some 3), none, .mv (.tmp 7), 2, [], true⟩])
 (.seq (.seq (.region 1 [
  ⟨(some 4), none, .mv (.const (.int .i64 0)), 0, [], true⟩])
 (.block 0 (.loop (.seq (.seq (.region 12 [
  ⟨(some 8), none, .mv (.tmp 4), 0, [], true⟩,
  ⟨(some 9), none, .mv (.tmp 0), 1, [], true⟩,
  ⟨(some 10), none, .len false (.tmp 9), 2, [], true⟩,
  ⟨(some 11), none, .bin .lss (.tmp 8) (.tmp 10), 3, [], true⟩,
  ⟨(some 12), none, .mv (.tmp 11), 4, [], true⟩,
  ⟨(some 13), (some (12, true)), .mv (.tmp 4), 5, [], true⟩,
  ⟨(some 14), (some (12, true)), .bin .lss (.tmp 13) (.const (.int .i64 120)), 6, [], true⟩,
  ⟨(some 15), none, .pick (.tmp 12) (.tmp 14) (.const (.bool false)), 7, [], true⟩,
  ⟨(some 16), none, .mv (.tmp 15), 8, [], true⟩,
  ⟨(some 17), (some (16, true)), .mv (.tmp 3), 9, [], true⟩,
  ⟨(some 18), (some (16, true)), .eq true .ptr (.tmp 17) (.const (.pointer none)), 10, [], true⟩,
  ⟨(some 19), none, .pick (.tmp 16) (.tmp 18) (.const (.bool false)), 11, [], true⟩])
 (.cond (.tmp 19) .skip (.exit 0)))
 (.seq (.block 1 (.seq (.region 6 [
  ⟨(some 22), none, .mv (.tmp 0), 0, [], true⟩,
  ⟨(some 23), none, .mv (.tmp 4), 1, [], true⟩,
  ⟨(some 24), none, .adSl 5 (.tmp 22) (.tmp 23), 2, [], true⟩,
  ⟨(some 25), none, .load 5 true (.tmp 24), 3, [], true⟩,
  ⟨(some 5), none, .alloc [(.int .i64 0), (.int .i64 0), (.int .u8 0), (.int .i64 0), (.int .u64 0)] 60, 4, [], true⟩,
  ⟨none, none, .store 5 (.tmp 5) (.tmp 25), 5, [], true⟩])
 (.seq (.region 2 [
  ⟨(some 26), none, .fieldAddr 0 (.tmp 5), 0, [], true⟩,
  ⟨(some 27), none, .load 1 false (.tmp 26), 1, [], true⟩])
 (.block 2 (.seq (.region 2 [
  ⟨(some 29), none, .bin .eql (.tmp 27) (.const (.int .i64 0)), 0, [], true⟩,
  ⟨(some 28), none, .mv (.tmp 29), 1, [], true⟩])
 (.cond (.tmp 28) (.region 4 [
  ⟨(some 30), none, .mv (.tmp 3), 0, [], true⟩,
  ⟨(some 31), none, .fieldAddr 1 (.tmp 5), 1, [], true⟩,
  ⟨(some 32), none, .load 1 false (.tmp 31), 2, [], true⟩,
  ⟨(some 33), none, .call (.func 29) [(.tmp 30), (.tmp 32)], 3, [], true⟩]) (.seq (.region 2 [
  ⟨(some 35), none, .bin .eql (.tmp 27) (.const (.int .i64 1)), 0, [], true⟩,
  ⟨(some 34), none, .mv (.tmp 35), 1, [], true⟩])
 (.cond (.tmp 34) (.region 6 [
  ⟨(some 36), none, .mv (.tmp 3), 0, [], true⟩,
  ⟨(some 37), none, .fieldAddr 1 (.tmp 5), 1, [], true⟩,
  ⟨(some 38), none, .load 1 false (.tmp 37), 2, [], true⟩,
  ⟨(some 39), none, .fieldAddr 2 (.tmp 5), 3, [], true⟩,
  ⟨(some 40), none, .load 3 true (.tmp 39), 4, [], true⟩,
  ⟨(some 41), none, .call (.func 18) [(.tmp 36), (.tmp 38), (.tmp 40)], 5, [], true⟩]) (.seq (.region 2 [
  ⟨(some 43), none, .bin .eql (.tmp 27) (.const (.int .i64 2)), 0, [], true⟩,
  ⟨(some 42), none, .mv (.tmp 43), 1, [], true⟩])
 (.cond (.tmp 42) (.region 4 [
  ⟨(some 44), none, .mv (.tmp 3), 0, [], true⟩,
  ⟨(some 45), none, .fieldAddr 1 (.tmp 5), 1, [], true⟩,
  ⟨(some 46), none, .load 1 false (.tmp 45), 2, [], true⟩,
  ⟨(some 47), none, .call (.func 33) [(.tmp 44), (.tmp 46)], 3, [], true⟩]) (.seq (.region 2 [
  ⟨(some 49), none, .bin .eql (.tmp 27) (.const (.int .i64 3)), 0, [], true⟩,
  ⟨(some 48), none, .mv (.tmp 49), 1, [], true⟩])
 (.cond (.tmp 48) (.region 4 [
  ⟨(some 50), none, .mv (.tmp 3), 0, [], true⟩,
  ⟨(some 51), none, .fieldAddr 1 (.tmp 5), 1, [], true⟩,
  ⟨(some 52), none, .load 1 false (.tmp 51), 2, [], true⟩,
  ⟨(some 53), none, .call (.func 12) [(.tmp 50), (.tmp 52)], 3, [], true⟩]) .skip))))))))))))
 (.region 3 [
  ⟨(some 20), none, .mv (.tmp 4), 0, [], true⟩,
  ⟨(some 21), none, .bin .add (.tmp 20) (.const (.int .i64 1)), 1, [], true⟩,
  ⟨(some 4), none, .mv (.tmp 21), 2, [], true⟩]))))))
 (.seq (.region 2 [
  ⟨(some 54), none, .mv (.tmp 3), 0, [], true⟩,
  ⟨(some 2), none, .mv (.tmp 54), 1, [], true⟩])
 .ret))))⟩

def m9 : MFn := ⟨67, [(0, none)], (.seq (.region 1 [
  ⟨(some 0), none, .mv (.const (.bool false)), 0, [], true⟩])
 (.seq (.region 3 [
  ⟨(some 8), none, .call (.func 21) [], 0, [], true⟩,
  ⟨(some 9), none, .call (.func 38) [(.tmp 8), (.const (.int .i64 3))], 1, [], true⟩,
  ⟨(some 1), none, .mv (.tmp 9), 2, [], true⟩])
 (.seq (.region 7 [
  ⟨(some 11), none, .mv (.tmp 1), 0, [], true⟩,
  ⟨(some 12), none, .call (.func 29) [(.tmp 11), (.const (.int .i64 1))], 1, [], true⟩,
  ⟨(some 10), none, .mv (.tmp 12), 2, [], true⟩,
  ⟨(some 13), none, .extract (.tmp 10) 0, 3, [], true⟩,
  ⟨(some 14), none, .extract (.tmp 10) 1, 4, [], true⟩,
  ⟨(some 2), none, .mv (.tmp 13), 5, [], true⟩,
  ⟨(some 3), none, .mv (.tmp 14), 6, [], true⟩])
 (.seq (.region 4 [
  ⟨(some 15), none, .mv (.tmp 1), 0, [], true⟩,
  ⟨(some 16), none, .build [(.int .u8 0), (.int .i64 0), (.int .u64 0)] [(0, 1, (.const (.int .u8 1))), (1, 1, (.const (.int .i64 1)))], 1, [], true⟩,
  ⟨(some 17), none, .call (.func 18) [(.tmp 15), (.const (.int .i64 1)), (.tmp 16)], 2, [], true⟩,
  ⟨(some 4), none, .mv (.tmp 17), 3, [], true⟩])
 (.seq (.region 2 [
  ⟨(some 18), none, .mv (.tmp 1), 0, [], true⟩,
  ⟨(some 19), none, .call (.func 33) [(.tmp 18), (.const (.int .i64 1))], 1, [], true⟩])
 (.seq (.region 2 [
  ⟨(some 20), none, .mv (.tmp 1), 0, [], true⟩,
  ⟨(some 21), none, .call (.func 33) [(.tmp 20), (.const (.int .i64 1))], 1, [], true⟩])
 (.seq (.region 4 [
  ⟨(some 22), none, .mv (.tmp 1), 0, [], true⟩,
  ⟨(some 23), none, .call (.func 33) [(.tmp 22), (.const (.int .i64 1))], 1, [], true⟩,
  ⟨(some 5), none, .alloc [(.bool false), (.int .u64 0), (.bool false), (.int .i64 0), (.bool false), (.int .u8 0), (.int .i64 0)] 70, 2, [], true⟩,
  ⟨none, none, .store 7 (.tmp 5) (.tmp 23), 3, [], true⟩])
 (.seq (.region 4 [
  ⟨(some 24), none, .mv (.tmp 1), 0, [], true⟩,
  ⟨(some 25), none, .build [(.int .u8 0), (.int .i64 0), (.int .u64 0)] [(0, 1, (.const (.int .u8 6)))], 1, [], true⟩,
  ⟨(some 26), none, .call (.func 18) [(.tmp 24), (.const (.int .i64 1)), (.tmp 25)], 2, [], true⟩,
  ⟨(some 6), none, .mv (.tmp 26), 3, [], true⟩])
 (.seq (.region 4 [
  ⟨(some 27), none, .mv (.tmp 1), 0, [], true⟩,
  ⟨(some 28), none, .call (.func 33) [(.tmp 27), (.const (.int .i64 1))], 1, [], true⟩,
  ⟨(some 7), none, .alloc [(.bool false), (.int .u64 0), (.bool false), (.int .i64 0), (.bool false), (.int .u8 0), (.int .i64 0)] 70, 2, [], true⟩,
  ⟨none, none, .store 7 (.tmp 7) (.tmp 28), 3, [], true⟩])
 (.seq (.region 39 [
  ⟨(some 29), none, .mv (.tmp 2), 0, [], true⟩,
  ⟨(some 30), none, .bin .eql (.tmp 29) (.const (.int .i64 0)), 1, [], true⟩,
  ⟨(some 31), none, .mv (.tmp 30), 2, [], true⟩,
  ⟨(some 32), (some (31, true)), .mv (.tmp 3), 3, [], true⟩,
  ⟨(some 33), (some (31, true)), .bin .eql (.tmp 32) (.const (.int .i64 0)), 4, [], true⟩,
  ⟨(some 34), none, .pick (.tmp 31) (.tmp 33) (.const (.bool false)), 5, [], true⟩,
  ⟨(some 35), none, .mv (.tmp 34), 6, [], true⟩,
  ⟨(some 36), (some (35, true)), .mv (.tmp 4), 7, [], true⟩,
  ⟨(some 37), (some (35, true)), .bin .eql (.tmp 36) (.const (.int .i64 0)), 8, [], true⟩,
  ⟨(some 38), none, .pick (.tmp 35) (.tmp 37) (.const (.bool false)), 9, [], true⟩,
  ⟨(some 39), none, .mv (.tmp 38), 10, [], true⟩,
  ⟨(some 40), (some (39, true)), .mv (.tmp 6), 11, [], true⟩,
  ⟨(some 41), (some (39, true)), .bin .eql (.tmp 40) (.const (.int .i64 0)), 12, [], true⟩,
  ⟨(some 42), none, .pick (.tmp 39) (.tmp 41) (.const (.bool false)), 13, [], true⟩,
  ⟨(some 43), none, .mv (.tmp 42), 14, [], true⟩,
  ⟨(some 44), (some (43, true)), .fieldAddr 0 (.tmp 5), 15, [], true⟩,
  ⟨(some 45), (some (43, true)), .load 1 false (.tmp 44), 16, [], true⟩,
  ⟨(some 46), none, .pick (.tmp 43) (.tmp 45) (.const (.bool false)), 17, [], true⟩,
  ⟨(some 47), none, .mv (.tmp 46), 18, [], true⟩,
  ⟨(some 48), (some (47, true)), .fieldAddr 1 (.tmp 5), 19, [], true⟩,
  ⟨(some 49), (some (47, true)), .load 1 false (.tmp 48), 20, [], true⟩,
  ⟨(some 50), (some (47, true)), .bin .eql (.tmp 49) (.const (.int .u64 4607182418800017408)), 21, [], true⟩,
  ⟨(some 51), none, .pick (.tmp 47) (.tmp 50) (.const (.bool false)), 22, [], true⟩,
  ⟨(some 52), none, .mv (.tmp 51), 23, [], true⟩,
  ⟨(some 53), (some (52, true)), .fieldAddr 4 (.tmp 7), 24, [], true⟩,
  ⟨(some 54), (some (52, true)), .load 1 false (.tmp 53), 25, [], true⟩,
  ⟨(some 55), none, .pick (.tmp 52) (.tmp 54) (.const (.bool false)), 26, [], true⟩,
  ⟨(some 56), none, .mv (.tmp 55), 27, [], true⟩,
  ⟨(some 57), (some (56, true)), .fieldAddr 5 (.tmp 7), 28, [], true⟩,
  ⟨(some 58), (some (56, true)), .load 1 false (.tmp 57), 29, [], true⟩,
  ⟨(some 59), (some (56, true)), .bin .eql (.tmp 58) (.const (.int .u8 0)), 30, [], true⟩,
  ⟨(some 60), none, .pick (.tmp 56) (.tmp 59) (.const (.bool false)), 31, [], true⟩,
  ⟨(some 61), none, .mv (.tmp 60), 32, [], true⟩,
  ⟨(some 62), (some (61, true)), .mv (.tmp 1), 33, [], true⟩,
  ⟨(some 63), (some (61, true)), .call (.func 20) [(.tmp 62)], 34, [], true⟩,
  ⟨(some 64), (some (61, true)), .len false (.tmp 63), 35, [], true⟩,
  ⟨(some 65), (some (61, true)), .bin .eql (.tmp 64) (.const (.int .i64 4)), 36, [], true⟩,
  ⟨(some 66), none, .pick (.tmp 61) (.tmp 65) (.const (.bool false)), 37, [], true⟩,
  ⟨(some 0), none, .mv (.tmp 66), 38, [], true⟩])
 .ret))))))))))⟩

def m10 : MFn := ⟨16, [(4, none), (5, none)], (.seq (.region 2 [
  ⟨(some 4), none, .mv (.const (.int .i64 0)), 0, [], true⟩,
  ⟨(some 5), none, .mv (.const (.bool false)), 1, [], true⟩])
 (.seq (.region 4 [
  ⟨(some 7), none, .mv (.tmp 0), 0, [], true⟩,
  ⟨(some 8), none, .mv (.tmp 1), 1, [], true⟩,
  ⟨(some 9), none, .call (.func 39) [(.tmp 7), (.tmp 8)], 2, [], true⟩,
  ⟨(some 6), none, .mv (.tmp 9), 3, [], true⟩])
 (.seq (.seq (.region 2 [
  ⟨(some 10), none, .mv (.tmp 6), 0, [], true⟩,
  ⟨(some 11), none, .eq false .ptr (.tmp 10) (.const (.pointer none)), 1, [], true⟩])
 (.cond (.tmp 11) (.seq (.region 2 [
  ⟨(some 4), none, .mv (.const (.int .i64 0)), 0, [], true⟩,
  ⟨(some 5), none, .mv (.const (.bool false)), 1, [], true⟩])
 .ret) .skip))
 (.seq (.region 6 [
  ⟨(some 12), none, .mv (.tmp 6), 0, [], true⟩,
  ⟨(some 13), none, .nilCheck (.tmp 12), 1, [], true⟩,
  ⟨(some 14), none, .fieldAddr 2 (.tmp 13), 2, [], true⟩,
  ⟨(some 15), none, .load 1 false (.tmp 14), 3, [], true⟩,
  ⟨(some 4), none, .mv (.tmp 15), 4, [], true⟩,
  ⟨(some 5), none, .mv (.const (.bool true)), 5, [], true⟩])
 .ret))))⟩

def m11 : MFn := ⟨10, [(2, none)], (.seq (.region 1 [
  ⟨(some 2), none, .mv (.const (.slice none 0 0)), 0, [], true⟩])
 (.seq (.seq (.region 2 [
  ⟨(some 3), none, .mv (.tmp 0), 0, [], true⟩,
  ⟨(some 4), none, .eq false .ptr (.tmp 3) (.const (.pointer none)), 1, [], true⟩])
 (.cond (.tmp 4) (.seq (.region 1 [
  ⟨(some 2), none, .mv (.const (.slice none 0 0)), 0, [], true⟩])
 .ret) .skip))
 (.seq (.region 6 [
  ⟨(some 5), none, .mv (.tmp 0), 0, [], true⟩,
  ⟨(some 6), none, .nilCheck (.tmp 5), 1, [], true⟩,
  ⟨(some 7), none, .fieldAddr 1 (.tmp 6), 2, [], true⟩,
  ⟨(some 8), none, .load 1 false (.tmp 7), 3, [], true⟩,
  ⟨(some 9), none, .call (.func 40) [(.tmp 8)], 4, [], true⟩,
  ⟨(some 2), none, .mv (.tmp 9), 5, [], true⟩])
 .ret)))⟩

def m12 : MFn := ⟨30, [(4, none)], (.seq (.region 1 [
  ⟨(some 4), none, .mv (.const (.int .i64 0)), 0, [], true⟩])
 (.seq (.seq (.region 4 [
  ⟨(some 7), none, .mv (.tmp 0), 0, [], true⟩,
  ⟨(some 8), none, .mv (.tmp 1), 1, [], true⟩,
  ⟨(some 9), none, .call (.func 41) [(.tmp 7), (.tmp 8)], 2, [], true⟩,
  ⟨(some 5), none, .mv (.tmp 9), 3, [], true⟩])
 (.seq (.region 2 [
  ⟨(some 10), none, .mv (.tmp 5), 0, [], true⟩,
  ⟨(some 11), none, .bin .neq (.tmp 10) (.const (.int .i64 0)), 1, [], true⟩])
 (.cond (.tmp 11) (.seq (.region 2 [
  ⟨(some 12), none, .mv (.tmp 5), 0, [], true⟩,
  ⟨(some 4), none, .mv (.tmp 12), 1, [], true⟩])
 .ret) .skip)))
 (.seq (.seq (.region 7 [
  ⟨(some 13), none, .mv (.tmp 0), 0, [], true⟩,
  ⟨(some 14), none, .mv (.tmp 1), 1, [], true⟩,
  ⟨(some 15), none, .nilCheck (.tmp 13), 2, [], true⟩,
  ⟨(some 16), none, .fieldAddr 2 (.tmp 15), 3, [], true⟩,
  ⟨(some 17), none, .adArr 4 1 (.tmp 16) (.tmp 14), 4, [], true⟩,
  ⟨(some 18), none, .load 1 false (.tmp 17), 5, [], true⟩,
  ⟨(some 6), none, .mv (.tmp 18), 6, [], true⟩])
 (.seq (.region 8 [
  ⟨(some 19), none, .mv (.tmp 6), 0, [], true⟩,
  ⟨(some 20), none, .eq false .ptr (.tmp 19) (.const (.pointer none)), 1, [], true⟩,
  ⟨(some 21), none, .mv (.tmp 20), 2, [], true⟩,
  ⟨(some 22), (some (21, false)), .mv (.tmp 6), 3, [], true⟩,
  ⟨(some 23), (some (21, false)), .nilCheck (.tmp 22), 4, [], true⟩,
  ⟨(some 24), (some (21, false)), .fieldAddr 13 (.tmp 23), 5, [], true⟩,
  ⟨(some 25), (some (21, false)), .load 1 false (.tmp 24), 6, [], true⟩,
  ⟨(some 26), none, .pick (.tmp 21) (.const (.bool true)) (.tmp 25), 7, [], true⟩])
 (.cond (.tmp 26) (.seq (.region 1 [
  ⟨(some 4), none, .mv (.const (.int .i64 8)), 0, [], true⟩])
 .ret) .skip)))
 (.seq (.region 3 [
  ⟨(some 27), none, .mv (.tmp 0), 0, [], true⟩,
  ⟨(some 28), none, .mv (.tmp 1), 1, [], true⟩,
  ⟨(some 29), none, .call (.func 42) [(.tmp 27), (.tmp 28), (.const (.int .u8 3))], 2, [], true⟩])
 (.seq (.region 1 [
  ⟨(some 4), none, .mv (.const (.int .i64 0)), 0, [], true⟩])
 .ret)))))⟩

def m13 : MFn := ⟨18, [(4, none)], (.seq (.region 1 [
  ⟨(some 4), none, .mv (.const (.bool false)), 0, [], true⟩])
 (.seq (.seq (.region 1 [
  ⟨(some 5), none, .mv (.const (.int .i64 0)), 0, [], true⟩])
 (.block 0 (.loop (.seq (.seq (.region 4 [
  ⟨(some 6), none, .mv (.tmp 5), 0, [], true⟩,
  ⟨(some 7), none, .mv (.tmp 0), 1, [], true⟩,
  ⟨(some 8), none, .len false (.tmp 7), 2, [], true⟩,
  ⟨(some 9), none, .bin .lss (.tmp 6) (.tmp 8), 3, [], true⟩])
 (.cond (.tmp 9) .skip (.exit 0)))
 (.seq (.block 1 (.seq (.region 6 [
  ⟨(some 12), none, .mv (.tmp 0), 0, [], true⟩,
  ⟨(some 13), none, .mv (.tmp 5), 1, [], true⟩,
  ⟨(some 14), none, .adSl 1 (.tmp 12) (.tmp 13), 2, [], true⟩,
  ⟨(some 15), none, .load 1 false (.tmp 14), 3, [], true⟩,
  ⟨(some 16), none, .mv (.tmp 1), 4, [], true⟩,
  ⟨(some 17), none, .bin .eql (.tmp 15) (.tmp 16), 5, [], true⟩])
 (.cond (.tmp 17) (.seq (.region 1 [
  ⟨(some 4), none, .mv (.const (.bool true)), 0, [], true⟩])
 .ret) .skip)))
 (.region 3 [
  ⟨(some 10), none, .mv (.tmp 5), 0, [], true⟩,
  ⟨(some 11), none, .bin .add (.tmp 10) (.const (.int .i64 1)), 1, [], true⟩,
  ⟨(some 5), none, .mv (.tmp 11), 2, [], true⟩]))))))
 (.seq (.region 1 [
  ⟨(some 4), none, .mv (.const (.bool false)), 0, [], true⟩])
 .ret)))⟩

def m14 : MFn := ⟨34, [(2, none)], (.seq (.region 1 [
  ⟨(some 2), none, .mv (.const (.slice none 0 0)), 0, [], true⟩])
 (.seq (.seq (.region 2 [
  ⟨(some 6), none, .mv (.tmp 0), 0, [], true⟩,
  ⟨(some 7), none, .eq false .ptr (.tmp 6) (.const (.pointer none)), 1, [], true⟩])
 (.cond (.tmp 7) (.seq (.region 1 [
  ⟨(some 2), none, .mv (.const (.slice none 0 0)), 0, [], true⟩])
 .ret) .skip))
 (.seq (.region 1 [
  ⟨(some 3), none, .mv (.const (.slice none 0 0)), 0, [], true⟩])
 (.seq (.seq (.region 5 [
  ⟨(some 8), none, .mv (.tmp 0), 0, [], true⟩,
  ⟨(some 9), none, .nilCheck (.tmp 8), 1, [], true⟩,
  ⟨(some 10), none, .fieldAddr 2 (.tmp 9), 2, [], true⟩,
  ⟨(some 11), none, .load 4 true (.tmp 10), 3, [], true⟩,
  ⟨(some 12), none, .mv (.const (.int .i64 0)), 4, [], true⟩])
 (.block 0 (.loop (.seq (.region 1 [
  ⟨(some 13), none, .bin .lss (.tmp 12) (.const (.int .i64 4)), 0, [], true⟩])
 (.seq (.cond (.tmp 13) .skip (.exit 0))
 (.seq (.block 1 (.seq (.region 2 [
  ⟨(some 14), none, .idxArr 4 1 false (.tmp 11) (.tmp 12), 0, [], true⟩,
  ⟨(some 5), none, .mv (.tmp 14), 1, [], true⟩])
 (.seq (.region 8 [
  ⟨(some 15), none, .mv (.tmp 5), 0, [], true⟩,
  ⟨(some 16), none, .eq true .ptr (.tmp 15) (.const (.pointer none)), 1, [], true⟩,
  ⟨(some 17), none, .mv (.tmp 16), 2, [], true⟩,
  ⟨(some 18), (some (17, true)), .mv (.tmp 5), 3, [], true⟩,
  ⟨(some 19), (some (17, true)), .nilCheck (.tmp 18), 4, [], true⟩,
  ⟨(some 20), (some (17, true)), .fieldAddr 13 (.tmp 19), 5, [], true⟩,
  ⟨(some 21), (some (17, true)), .load 1 false (.tmp 20), 6, [], true⟩,
  ⟨(some 22), none, .pick (.tmp 17) (.tmp 21) (.const (.bool false)), 7, [], true⟩])
 (.cond (.tmp 22) (.region 8 [
  ⟨(some 23), none, .mv (.tmp 3), 0, [], true⟩,
  ⟨(some 24), none, .mv (.tmp 5), 1, [], true⟩,
  ⟨(some 25), none, .nilCheck (.tmp 24), 2, [], true⟩,
  ⟨(some 26), none, .fieldAddr 2 (.tmp 25), 3, [], true⟩,
  ⟨(some 27), none, .load 1 false (.tmp 26), 4, [], true⟩,
  ⟨(some 28), none, .buildSl 3 1 1 [(.int .i64 0)] [(0, 1, (.tmp 27))], 5, [], true⟩,
  ⟨(some 29), none, .append 3 1 8 (.tmp 23) (.tmp 28), 6, [], true⟩,
  ⟨(some 3), none, .mv (.tmp 29), 7, [], true⟩]) .skip))))
 (.region 2 [
  ⟨(some 30), none, .bin .add (.tmp 12) (.const (.int .i64 1)), 0, [], true⟩,
  ⟨(some 12), none, .mv (.tmp 30), 1, [], true⟩])))))))
 (.seq (.region 2 [
  ⟨(some 31), none, .mv (.tmp 3), 0, [], true⟩,
  ⟨(some 32), none, .call (.func 43) [(.tmp 31)], 1, [], true⟩])
 (.seq (.region 2 [
  ⟨(some 33), none, .mv (.tmp 3), 0, [], true⟩,
  ⟨(some 2), none, .mv (.tmp 33), 1, [], true⟩])
 .ret))))))⟩

def m15 : MFn := ⟨17, [(4, none)], (.seq (.region 1 [
  ⟨(some 4), none, .mv (.const (.bool false)), 0, [], true⟩])
 (.seq (.region 13 [
  ⟨(some 5), none, .mv (.tmp 0), 0, [], true⟩,
  ⟨(some 6), none, .eq true .ptr (.tmp 5) (.const (.pointer none)), 1, [], true⟩,
  ⟨(some 7), none, .mv (.tmp 6), 2, [], true⟩,
  ⟨(some 8), (some (7, true)), .mv (.tmp 0), 3, [], true⟩,
  ⟨(some 9), (some (7, true)), .nilCheck (.tmp 8), 4, [], true⟩,
  ⟨(some 10), (some (7, true)), .fieldAddr 0 (.tmp 9), 5, [], true⟩,
  ⟨(some 11), (some (7, true)), .load 1 false (.tmp 10), 6, [], true⟩,
  ⟨(some 12), (some (7, true)), .mv (.tmp 1), 7, [], true⟩,
  ⟨(some 13), (some (7, true)), .call (.func 44) [(.tmp 11), (.tmp 12)], 8, [], true⟩,
  ⟨(some 14), (some (7, true)), .len false (.tmp 13), 9, [], true⟩,
  ⟨(some 15), (some (7, true)), .bin .gtr (.tmp 14) (.const (.int .i64 0)), 10, [], true⟩,
  ⟨(some 16), none, .pick (.tmp 7) (.tmp 15) (.const (.bool false)), 11, [], true⟩,
  ⟨(some 4), none, .mv (.tmp 16), 12, [], true⟩])
 .ret))⟩

def m16 : MFn := ⟨26, [(4, none)], (.seq (.region 1 [
  ⟨(some 4), none, .mv (.const (.bool false)), 0, [], true⟩])
 (.seq (.seq (.region 5 [
  ⟨(some 6), none, .mv (.tmp 0), 0, [], true⟩,
  ⟨(some 7), none, .len false (.tmp 6), 1, [], true⟩,
  ⟨(some 8), none, .mv (.tmp 1), 2, [], true⟩,
  ⟨(some 9), none, .len false (.tmp 8), 3, [], true⟩,
  ⟨(some 10), none, .bin .neq (.tmp 7) (.tmp 9), 4, [], true⟩])
 (.cond (.tmp 10) (.seq (.region 1 [
  ⟨(some 4), none, .mv (.const (.bool false)), 0, [], true⟩])
 .ret) .skip))
 (.seq (.seq (.region 1 [
  ⟨(some 5), none, .mv (.const (.int .i64 0)), 0, [], true⟩])
 (.block 0 (.loop (.seq (.seq (.region 4 [
  ⟨(some 11), none, .mv (.tmp 5), 0, [], true⟩,
  ⟨(some 12), none, .mv (.tmp 0), 1, [], true⟩,
  ⟨(some 13), none, .len false (.tmp 12), 2, [], true⟩,
  ⟨(some 14), none, .bin .lss (.tmp 11) (.tmp 13), 3, [], true⟩])
 (.cond (.tmp 14) .skip (.exit 0)))
 (.seq (.block 1 (.seq (.region 9 [
  ⟨(some 17), none, .mv (.tmp 0), 0, [], true⟩,
  ⟨(some 18), none, .mv (.tmp 5), 1, [], false⟩,
  ⟨(some 19), none, .adSl 1 (.tmp 17) (.tmp 18), 2, [], true⟩,
  ⟨(some 20), none, .load 1 false (.tmp 19), 3, [], true⟩,
  ⟨(some 21), none, .mv (.tmp 1), 4, [], false⟩,
  ⟨(some 22), none, .mv (.tmp 5), 5, [], false⟩,
  ⟨(some 23), none, .adSl 1 (.tmp 21) (.tmp 22), 6, [], false⟩,
  ⟨(some 24), none, .load 1 false (.tmp 23), 7, [], false⟩,
  ⟨(some 25), none, .bin .neq (.tmp 20) (.tmp 24), 8, [], true⟩])
 (.cond (.tmp 25) (.seq (.region 1 [
  ⟨(some 4), none, .mv (.const (.bool false)), 0, [], true⟩])
 .ret) .skip)))
 (.region 3 [
  ⟨(some 15), none, .mv (.tmp 5), 0, [], true⟩,
  ⟨(some 16), none, .bin .add (.tmp 15) (.const (.int .i64 1)), 1, [], true⟩,
  ⟨(some 5), none, .mv (.tmp 16), 2, [], true⟩]))))))
 (.seq (.region 1 [
  ⟨(some 4), none, .mv (.const (.bool true)), 0, [], true⟩])
 .ret))))⟩

def m17 : MFn := ⟨28, [(4, none)], (.seq (.region 1 [
  ⟨(some 4), none, .mv (.const (.int .u8 0)), 0, [], true⟩])
 (.seq (.seq (.region 15 [
  ⟨(some 5), none, .mv (.tmp 0), 0, [], true⟩,
  ⟨(some 6), none, .eq false .ptr (.tmp 5) (.const (.pointer none)), 1, [], true⟩,
  ⟨(some 7), none, .mv (.tmp 6), 2, [], true⟩,
  ⟨(some 8), (some (7, false)), .mv (.tmp 1), 3, [], true⟩,
  ⟨(some 9), (some (7, false)), .bin .lss (.tmp 8) (.const (.int .i64 0)), 4, [], true⟩,
  ⟨(some 10), none, .pick (.tmp 7) (.const (.bool true)) (.tmp 9), 5, [], true⟩,
  ⟨(some 11), none, .mv (.tmp 10), 6, [], true⟩,
  ⟨(some 12), (some (11, false)), .mv (.tmp 1), 7, [], true⟩,
  ⟨(some 13), (some (11, false)), .mv (.tmp 0), 8, [], true⟩,
  ⟨(some 14), (some (11, false)), .nilCheck (.tmp 13), 9, [], true⟩,
  ⟨(some 15), (some (11, false)), .fieldAddr 7 (.tmp 14), 10, [], true⟩,
  ⟨(some 16), (some (11, false)), .load 1 false (.tmp 15), 11, [], true⟩,
  ⟨(some 17), (some (11, false)), .len false (.tmp 16), 12, [], true⟩,
  ⟨(some 18), (some (11, false)), .bin .geq (.tmp 12) (.tmp 17), 13, [], true⟩,
  ⟨(some 19), none, .pick (.tmp 11) (.const (.bool true)) (.tmp 18), 14, [], true⟩])
 (.cond (.tmp 19) (.seq (.region 1 [
  ⟨(some 4), none, .mv (.const (.int .u8 0)), 0, [], true⟩])
 .ret) .skip))
 (.seq (.region 9 [
  ⟨(some 20), none, .mv (.tmp 0), 0, [], true⟩,
  ⟨(some 21), none, .nilCheck (.tmp 20), 1, [], true⟩,
  ⟨(some 22), none, .fieldAddr 7 (.tmp 21), 2, [], true⟩,
  ⟨(some 23), none, .load 1 false (.tmp 22), 3, [], true⟩,
  ⟨(some 24), none, .mv (.tmp 1), 4, [], true⟩,
  ⟨(some 25), none, .adSl 3 (.tmp 23) (.tmp 24), 5, [], true⟩,
  ⟨(some 26), none, .fieldAddr 2 (.tmp 25), 6, [], true⟩,
  ⟨(some 27), none, .load 1 false (.tmp 26), 7, [], true⟩,
  ⟨(some 4), none, .mv (.tmp 27), 8, [], true⟩])
 .ret)))⟩

def m18 : MFn := ⟨50, [(6, none)], (.seq (.region 2 [
  ⟨(some 5), none, .box 44 (.tmp 2), 0, [], true⟩,
  ⟨(some 6), none, .mv (.const (.int .i64 0)), 1, [], true⟩])
 (.seq (.seq (.region 4 [
  ⟨(some 10), none, .mv (.tmp 0), 0, [], true⟩,
  ⟨(some 11), none, .mv (.tmp 1), 1, [], true⟩,
  ⟨(some 12), none, .call (.func 41) [(.tmp 10), (.tmp 11)], 2, [], true⟩,
  ⟨(some 7), none, .mv (.tmp 12), 3, [], true⟩])
 (.seq (.region 2 [
  ⟨(some 13), none, .mv (.tmp 7), 0, [], true⟩,
  ⟨(some 14), none, .bin .neq (.tmp 13) (.const (.int .i64 0)), 1, [], true⟩])
 (.cond (.tmp 14) (.seq (.region 2 [
  ⟨(some 15), none, .mv (.tmp 7), 0, [], true⟩,
  ⟨(some 6), none, .mv (.tmp 15), 1, [], true⟩])
 .ret) .skip)))
 (.seq (.region 7 [
  ⟨(some 16), none, .mv (.tmp 0), 0, [], true⟩,
  ⟨(some 17), none, .mv (.tmp 1), 1, [], true⟩,
  ⟨(some 18), none, .nilCheck (.tmp 16), 2, [], true⟩,
  ⟨(some 19), none, .fieldAddr 2 (.tmp 18), 3, [], true⟩,
  ⟨(some 20), none, .adArr 4 1 (.tmp 19) (.tmp 17), 4, [], true⟩,
  ⟨(some 21), none, .load 1 false (.tmp 20), 5, [], true⟩,
  ⟨(some 8), none, .mv (.tmp 21), 6, [], true⟩])
 (.seq (.block 0 (.seq (.region 3 [
  ⟨(some 23), none, .mv (.tmp 8), 0, [], true⟩,
  ⟨(some 24), none, .eq false .ptr (.tmp 23) (.const (.pointer none)), 1, [], true⟩,
  ⟨(some 22), none, .mv (.tmp 24), 2, [], true⟩])
 (.cond (.tmp 22) (.seq (.region 1 [
  ⟨(some 6), none, .mv (.const (.int .i64 8)), 0, [], true⟩])
 .ret) (.seq (.region 4 [
  ⟨(some 26), none, .mv (.tmp 8), 0, [], true⟩,
  ⟨(some 27), none, .call (.func 45) [(.tmp 26)], 1, [], true⟩,
  ⟨(some 28), none, .un .not (.tmp 27), 2, [], true⟩,
  ⟨(some 25), none, .mv (.tmp 28), 3, [], true⟩])
 (.cond (.tmp 25) (.seq (.region 1 [
  ⟨(some 6), none, .mv (.const (.int .i64 7)), 0, [], true⟩])
 .ret) .skip)))))
 (.seq (.seq (.region 5 [
  ⟨(some 29), none, .mv (.tmp 0), 0, [], true⟩,
  ⟨(some 30), none, .mv (.tmp 8), 1, [], true⟩,
  ⟨(some 31), none, .load 3 true (.tmp 5), 2, [], true⟩,
  ⟨(some 32), none, .call (.func 46) [(.tmp 29), (.tmp 30), (.tmp 31)], 3, [], true⟩,
  ⟨(some 9), none, .mv (.tmp 32), 4, [], true⟩])
 (.seq (.region 2 [
  ⟨(some 33), none, .mv (.tmp 9), 0, [], true⟩,
  ⟨(some 34), none, .bin .neq (.tmp 33) (.const (.int .i64 0)), 1, [], true⟩])
 (.cond (.tmp 34) (.seq (.region 2 [
  ⟨(some 35), none, .mv (.tmp 9), 0, [], true⟩,
  ⟨(some 6), none, .mv (.tmp 35), 1, [], true⟩])
 .ret) .skip)))
 (.seq (.region 18 [
  ⟨(some 36), none, .mv (.tmp 8), 0, [], true⟩,
  ⟨(some 37), none, .mv (.tmp 8), 1, [], true⟩,
  ⟨(some 38), none, .mv (.tmp 8), 2, [], true⟩,
  ⟨(some 39), none, .mv (.tmp 8), 3, [], true⟩,
  ⟨(some 40), none, .load 3 true (.tmp 5), 4, [], true⟩,
  ⟨(some 41), none, .build [(.int .u64 0), (.int .u64 0), (.int .i64 0)] [], 5, [], true⟩,
  ⟨(some 42), none, .nilCheck (.tmp 36), 6, [], true⟩,
  ⟨(some 43), none, .fieldAddr 5 (.tmp 42), 7, [], true⟩,
  ⟨none, none, .store 3 (.tmp 43) (.tmp 40), 8, [], true⟩,
  ⟨(some 44), none, .nilCheck (.tmp 37), 9, [], true⟩,
  ⟨(some 45), none, .fieldAddr 8 (.tmp 44), 10, [], true⟩,
  ⟨none, none, .store 1 (.tmp 45) (.const (.int .i64 0)), 11, [], true⟩,
  ⟨(some 46), none, .nilCheck (.tmp 38), 12, [], true⟩,
  ⟨(some 47), none, .fieldAddr 9 (.tmp 46), 13, [], true⟩,
  ⟨none, none, .store 1 (.tmp 47) (.const (.int .i64 0)), 14, [], true⟩,
  ⟨(some 48), none, .nilCheck (.tmp 39), 15, [], true⟩,
  ⟨(some 49), none, .fieldAddr 10 (.tmp 48), 16, [], true⟩,
  ⟨none, none, .store 3 (.tmp 49) (.tmp 41), 17, [], true⟩])
 (.seq (.region 1 [
  ⟨(some 6), none, .mv (.const (.int .i64 0)), 0, [], true⟩])
 .ret)))))))⟩

def m19 : MFn := ⟨66, [(8, none), (9, none)], (.seq (.region 2 [
  ⟨(some 8), none, .mv (.const (.int .i64 0)), 0, [], true⟩,
  ⟨(some 9), none, .mv (.const (.int .i64 0)), 1, [], true⟩])
 (.seq (.seq (.region 4 [
  ⟨(some 17), none, .mv (.tmp 0), 0, [], true⟩,
  ⟨(some 18), none, .mv (.tmp 1), 1, [], true⟩,
  ⟨(some 19), none, .call (.func 47) [(.tmp 17), (.tmp 18), (.const (.slice none 0 0))], 2, [], true⟩,
  ⟨(some 10), none, .mv (.tmp 19), 3, [], true⟩])
 (.seq (.region 2 [
  ⟨(some 20), none, .mv (.tmp 10), 0, [], true⟩,
  ⟨(some 21), none, .bin .neq (.tmp 20) (.const (.int .i64 0)), 1, [], true⟩])
 (.cond (.tmp 21) (.seq (.region 3 [
  ⟨(some 22), none, .mv (.tmp 10), 0, [], true⟩,
  ⟨(some 8), none, .mv (.const (.int .i64 0)), 1, [], true⟩,
  ⟨(some 9), none, .mv (.tmp 22), 2, [], true⟩])
 .ret) .skip)))
 (.seq (.region 3 [
  ⟨(some 23), none, .mv (.tmp 0), 0, [], true⟩,
  ⟨(some 24), none, .call (.func 48) [(.tmp 23)], 1, [], true⟩,
  ⟨(some 11), none, .mv (.tmp 24), 2, [], true⟩])
 (.seq (.seq (.region 10 [
  ⟨(some 25), none, .mv (.tmp 2), 0, [], true⟩,
  ⟨(some 26), none, .len false (.tmp 25), 1, [], true⟩,
  ⟨(some 27), none, .mv (.tmp 11), 2, [], true⟩,
  ⟨(some 28), none, .len false (.tmp 27), 3, [], true⟩,
  ⟨(some 29), none, .bin .neq (.tmp 26) (.tmp 28), 4, [], true⟩,
  ⟨(some 30), none, .mv (.tmp 29), 5, [], true⟩,
  ⟨(some 31), (some (30, false)), .mv (.tmp 2), 6, [], true⟩,
  ⟨(some 32), (some (30, false)), .call (.func 49) [(.tmp 31)], 7, [], true⟩,
  ⟨(some 33), (some (30, false)), .un .not (.tmp 32), 8, [], true⟩,
  ⟨(some 34), none, .pick (.tmp 30) (.const (.bool true)) (.tmp 33), 9, [], true⟩])
 (.cond (.tmp 34) (.seq (.region 2 [
  ⟨(some 8), none, .mv (.const (.int .i64 0)), 0, [], true⟩,
  ⟨(some 9), none, .mv (.const (.int .i64 2)), 1, [], true⟩])
 .ret) .skip))
 (.seq (.seq (.region 1 [
  ⟨(some 12), none, .mv (.const (.int .i64 0)), 0, [], true⟩])
 (.block 0 (.loop (.seq (.seq (.region 4 [
  ⟨(some 35), none, .mv (.tmp 12), 0, [], true⟩,
  ⟨(some 36), none, .mv (.tmp 2), 1, [], true⟩,
  ⟨(some 37), none, .len false (.tmp 36), 2, [], true⟩,
  ⟨(some 38), none, .bin .lss (.tmp 35) (.tmp 37), 3, [], true⟩])
 (.cond (.tmp 38) .skip (.exit 0)))
 (.seq (.block 1 (.seq (.region 7 [
  ⟨(some 41), none, .mv (.tmp 11), 0, [], true⟩,
  ⟨(some 42), none, .mv (.tmp 2), 1, [], true⟩,
  ⟨(some 43), none, .mv (.tmp 12), 2, [], true⟩,
  ⟨(some 44), none, .adSl 1 (.tmp 42) (.tmp 43), 3, [], true⟩,
  ⟨(some 45), none, .load 1 false (.tmp 44), 4, [], true⟩,
  ⟨(some 46), none, .call (.func 50) [(.tmp 41), (.tmp 45)], 5, [], true⟩,
  ⟨(some 47), none, .un .not (.tmp 46), 6, [], true⟩])
 (.cond (.tmp 47) (.seq (.region 2 [
  ⟨(some 8), none, .mv (.const (.int .i64 0)), 0, [], true⟩,
  ⟨(some 9), none, .mv (.const (.int .i64 2)), 1, [], true⟩])
 .ret) .skip)))
 (.region 3 [
  ⟨(some 39), none, .mv (.tmp 12), 0, [], true⟩,
  ⟨(some 40), none, .bin .add (.tmp 39) (.const (.int .i64 1)), 1, [], true⟩,
  ⟨(some 12), none, .mv (.tmp 40), 2, [], true⟩]))))))
 (.seq (.seq (.region 5 [
  ⟨(some 48), none, .mv (.tmp 0), 0, [], true⟩,
  ⟨(some 49), none, .mv (.tmp 1), 1, [], true⟩,
  ⟨(some 50), none, .mv (.tmp 3), 2, [], true⟩,
  ⟨(some 51), none, .call (.func 47) [(.tmp 48), (.tmp 49), (.tmp 50)], 3, [], true⟩,
  ⟨(some 13), none, .mv (.tmp 51), 4, [], true⟩])
 (.seq (.region 2 [
  ⟨(some 52), none, .mv (.tmp 13), 0, [], true⟩,
  ⟨(some 53), none, .bin .neq (.tmp 52) (.const (.int .i64 0)), 1, [], true⟩])
 (.cond (.tmp 53) (.seq (.region 3 [
  ⟨(some 54), none, .mv (.tmp 13), 0, [], true⟩,
  ⟨(some 8), none, .mv (.const (.int .i64 0)), 1, [], true⟩,
  ⟨(some 9), none, .mv (.tmp 54), 2, [], true⟩])
 .ret) .skip)))
 (.seq (.region 12 [
  ⟨(some 56), none, .mv (.tmp 0), 0, [], true⟩,
  ⟨(some 57), none, .mv (.tmp 1), 1, [], true⟩,
  ⟨(some 58), none, .mv (.tmp 2), 2, [], true⟩,
  ⟨(some 59), none, .mv (.tmp 3), 3, [], true⟩,
  ⟨(some 60), none, .call (.func 51) [(.tmp 56), (.tmp 57), (.tmp 58), (.tmp 59)], 4, [], true⟩,
  ⟨(some 55), none, .mv (.tmp 60), 5, [], true⟩,
  ⟨(some 61), none, .extract (.tmp 55) 0, 6, [], true⟩,
  ⟨(some 62), none, .extract (.tmp 55) 1, 7, [], true⟩,
  ⟨(some 63), none, .extract (.tmp 55) 2, 8, [], true⟩,
  ⟨(some 14), none, .mv (.tmp 61), 9, [], true⟩,
  ⟨(some 15), none, .mv (.tmp 62), 10, [], true⟩,
  ⟨(some 16), none, .mv (.tmp 63), 11, [], true⟩])
 (.seq (.region 4 [
  ⟨(some 64), none, .mv (.tmp 14), 0, [], true⟩,
  ⟨(some 65), none, .mv (.tmp 15), 1, [], true⟩,
  ⟨(some 8), none, .mv (.tmp 64), 2, [], true⟩,
  ⟨(some 9), none, .mv (.tmp 65), 3, [], true⟩])
 .ret))))))))⟩

def m20 : MFn := ⟨10, [(2, none)], (.seq (.region 1 [
  ⟨(some 2), none, .mv (.const (.slice none 0 0)), 0, [], true⟩])
 (.seq (.seq (.region 2 [
  ⟨(some 3), none, .mv (.tmp 0), 0, [], true⟩,
  ⟨(some 4), none, .eq false .ptr (.tmp 3) (.const (.pointer none)), 1, [], true⟩])
 (.cond (.tmp 4) (.seq (.region 1 [
  ⟨(some 2), none, .mv (.const (.slice none 0 0)), 0, [], true⟩])
 .ret) .skip))
 (.seq (.region 6 [
  ⟨(some 5), none, .mv (.tmp 0), 0, [], true⟩,
  ⟨(some 6), none, .nilCheck (.tmp 5), 1, [], true⟩,
  ⟨(some 7), none, .fieldAddr 6 (.tmp 6), 2, [], true⟩,
  ⟨(some 8), none, .load 1 false (.tmp 7), 3, [], true⟩,
  ⟨(some 9), none, .call (.func 52) [(.tmp 8)], 4, [], true⟩,
  ⟨(some 2), none, .mv (.tmp 9), 5, [], true⟩])
 .ret)))⟩

def m21 : MFn := ⟨2, [(0, none)], (.seq (.region 1 [
  ⟨(some 0), none, .mv (.const (.slice none 0 0)), 0, [], true⟩])
 (.seq (.region 2 [
  ⟨(some 1), none, .buildSl 42 1 5 [(.int .u64 0), (.int .u64 0), (.int .u64 0), (.int .u64 0), (.int .u64 0)] [(0, 1, (.const (.int .u64 0))), (1, 1, (.const (.int .u64 4607182418800017408))), (2, 1, (.const (.int .u64 9221120237041090560))), (3, 1, (.const (.int .u64 9223372036854775808))), (4, 1, (.const (.int .u64 0)))], 0, [], true⟩,
  ⟨(some 0), none, .mv (.tmp 1), 1, [], true⟩])
 .ret))⟩

def m22 : MFn := ⟨26, [(2, none)], (.seq (.region 1 [
  ⟨(some 2), none, .mv (.const (.slice none 0 0)), 0, [], true⟩])
 (.seq (.seq (.region 2 [
  ⟨(some 6), none, .mv (.tmp 0), 0, [], true⟩,
  ⟨(some 7), none, .eq false .ptr (.tmp 6) (.const (.pointer none)), 1, [], true⟩])
 (.cond (.tmp 7) (.seq (.region 1 [
  ⟨(some 2), none, .mv (.const (.slice none 0 0)), 0, [], true⟩])
 .ret) .skip))
 (.seq (.region 1 [
  ⟨(some 3), none, .mv (.const (.slice none 0 0)), 0, [], true⟩])
 (.seq (.seq (.region 8 [
  ⟨(some 8), none, .mv (.tmp 0), 0, [], true⟩,
  ⟨(some 9), none, .nilCheck (.tmp 8), 1, [], true⟩,
  ⟨(some 10), none, .fieldAddr 7 (.tmp 9), 2, [], true⟩,
  ⟨(some 11), none, .load 1 false (.tmp 10), 3, [], true⟩,
  ⟨(some 12), none, .call (.func 54) [(.tmp 11)], 4, [], true⟩,
  ⟨(some 13), none, .call (.func 53) [(.tmp 12), (.func 55)], 5, [], true⟩,
  ⟨(some 14), none, .len false (.tmp 13), 6, [], true⟩,
  ⟨(some 15), none, .mv (.const (.int .i64 0)), 7, [], true⟩])
 (.block 0 (.loop (.seq (.region 1 [
  ⟨(some 16), none, .bin .lss (.tmp 15) (.tmp 14), 0, [], true⟩])
 (.seq (.cond (.tmp 16) .skip (.exit 0))
 (.seq (.block 1 (.seq (.region 4 [
  ⟨(some 17), none, .adSl 3 (.tmp 13) (.tmp 15), 0, [], true⟩,
  ⟨(some 18), none, .load 3 true (.tmp 17), 1, [], true⟩,
  ⟨(some 5), none, .alloc [(.int .i64 0), (.int .u64 0), (.int .u8 0)] 98, 2, [], true⟩,
  ⟨none, none, .store 3 (.tmp 5) (.tmp 18), 3, [], true⟩])
 (.region 6 [
  ⟨(some 19), none, .mv (.tmp 3), 0, [], true⟩,
  ⟨(some 20), none, .fieldAddr 0 (.tmp 5), 1, [], true⟩,
  ⟨(some 21), none, .load 1 false (.tmp 20), 2, [], true⟩,
  ⟨(some 22), none, .buildSl 3 1 1 [(.int .i64 0)] [(0, 1, (.tmp 21))], 3, [], true⟩,
  ⟨(some 23), none, .append 3 1 8 (.tmp 19) (.tmp 22), 4, [], true⟩,
  ⟨(some 3), none, .mv (.tmp 23), 5, [], true⟩])))
 (.region 2 [
  ⟨(some 24), none, .bin .add (.tmp 15) (.const (.int .i64 1)), 0, [], true⟩,
  ⟨(some 15), none, .mv (.tmp 24), 1, [], true⟩])))))))
 (.seq (.region 2 [
  ⟨(some 25), none, .mv (.tmp 3), 0, [], true⟩,
  ⟨(some 2), none, .mv (.tmp 25), 1, [], true⟩])
 .ret)))))⟩

def m23 : MFn := ⟨36, [(8, none), (9, none)], (.seq (.region 2 [
  ⟨(some 8), none, .mv (.const (.slice none 0 0)), 0, [], true⟩,
  ⟨(some 9), none, .mv (.const (.int .i64 0)), 1, [], true⟩])
 (.seq (.seq (.region 10 [
  ⟨(some 16), none, .mv (.tmp 0), 0, [], true⟩,
  ⟨(some 17), none, .mv (.tmp 1), 1, [], true⟩,
  ⟨(some 18), none, .mv (.tmp 2), 2, [], true⟩,
  ⟨(some 19), none, .mv (.tmp 3), 3, [], true⟩,
  ⟨(some 20), none, .call (.func 19) [(.tmp 16), (.tmp 17), (.tmp 18), (.tmp 19)], 4, [], true⟩,
  ⟨(some 15), none, .mv (.tmp 20), 5, [], true⟩,
  ⟨(some 21), none, .extract (.tmp 15) 0, 6, [], true⟩,
  ⟨(some 22), none, .extract (.tmp 15) 1, 7, [], true⟩,
  ⟨(some 10), none, .mv (.tmp 21), 8, [], true⟩,
  ⟨(some 11), none, .mv (.tmp 22), 9, [], true⟩])
 (.seq (.region 2 [
  ⟨(some 23), none, .mv (.tmp 11), 0, [], true⟩,
  ⟨(some 24), none, .bin .neq (.tmp 23) (.const (.int .i64 0)), 1, [], true⟩])
 (.cond (.tmp 24) (.seq (.region 3 [
  ⟨(some 25), none, .mv (.tmp 11), 0, [], true⟩,
  ⟨(some 8), none, .mv (.const (.slice none 0 0)), 1, [], true⟩,
  ⟨(some 9), none, .mv (.tmp 25), 2, [], true⟩])
 .ret) .skip)))
 (.seq (.region 12 [
  ⟨(some 27), none, .mv (.tmp 0), 0, [], true⟩,
  ⟨(some 28), none, .mv (.tmp 1), 1, [], true⟩,
  ⟨(some 29), none, .mv (.tmp 2), 2, [], true⟩,
  ⟨(some 30), none, .mv (.tmp 3), 3, [], true⟩,
  ⟨(some 31), none, .call (.func 51) [(.tmp 27), (.tmp 28), (.tmp 29), (.tmp 30)], 4, [], true⟩,
  ⟨(some 26), none, .mv (.tmp 31), 5, [], true⟩,
  ⟨(some 32), none, .extract (.tmp 26) 0, 6, [], true⟩,
  ⟨(some 33), none, .extract (.tmp 26) 1, 7, [], true⟩,
  ⟨(some 34), none, .extract (.tmp 26) 2, 8, [], true⟩,
  ⟨(some 12), none, .mv (.tmp 32), 9, [], true⟩,
  ⟨(some 13), none, .mv (.tmp 33), 10, [], true⟩,
  ⟨(some 14), none, .mv (.tmp 34), 11, [], true⟩])
 (.seq (.region 3 [
  ⟨(some 35), none, .mv (.tmp 14), 0, [], true⟩,
  ⟨(some 8), none, .mv (.tmp 35), 1, [], true⟩,
  ⟨(some 9), none, .mv (.const (.int .i64 0)), 2, [], true⟩])
 .ret))))⟩

def m24 : MFn := ⟨40, [(2, none), (3, none), (4, none)], (.seq (.region 3 [
  ⟨(some 2), none, .mv (.const (.pointer none)), 0, [], true⟩,
  ⟨(some 3), none, .mv (.const (.pointer none)), 1, [], true⟩,
  ⟨(some 4), none, .mv (.const (.bool false)), 2, [], true⟩])
 (.seq (.region 6 [
  ⟨(some 8), none, .call (.func 21) [], 0, [], true⟩,
  ⟨(some 9), none, .call (.func 38) [(.tmp 8), (.const (.int .i64 3))], 1, [], true⟩,
  ⟨(some 10), none, .call (.func 21) [], 2, [], true⟩,
  ⟨(some 11), none, .call (.func 57) [(.tmp 10), (.const (.int .i64 3))], 3, [], true⟩,
  ⟨(some 5), none, .mv (.tmp 9), 4, [], true⟩,
  ⟨(some 6), none, .mv (.tmp 11), 5, [], true⟩])
 (.seq (.seq (.region 6 [
  ⟨(some 12), none, .mv (.tmp 5), 0, [], true⟩,
  ⟨(some 13), none, .eq false .ptr (.tmp 12) (.const (.pointer none)), 1, [], true⟩,
  ⟨(some 14), none, .mv (.tmp 13), 2, [], true⟩,
  ⟨(some 15), (some (14, false)), .mv (.tmp 6), 3, [], true⟩,
  ⟨(some 16), (some (14, false)), .eq false .ptr (.tmp 15) (.const (.pointer none)), 4, [], true⟩,
  ⟨(some 17), none, .pick (.tmp 14) (.const (.bool true)) (.tmp 16), 5, [], true⟩])
 (.cond (.tmp 17) (.seq (.region 3 [
  ⟨(some 2), none, .mv (.const (.pointer none)), 0, [], true⟩,
  ⟨(some 3), none, .mv (.const (.pointer none)), 1, [], true⟩,
  ⟨(some 4), none, .mv (.const (.bool false)), 2, [], true⟩])
 .ret) .skip))
 (.seq (.seq (.region 1 [
  ⟨(some 7), none, .mv (.const (.int .i64 0)), 0, [], true⟩])
 (.block 0 (.loop (.seq (.seq (.region 8 [
  ⟨(some 18), none, .mv (.tmp 7), 0, [], true⟩,
  ⟨(some 19), none, .mv (.tmp 0), 1, [], true⟩,
  ⟨(some 20), none, .len false (.tmp 19), 2, [], true⟩,
  ⟨(some 21), none, .bin .lss (.tmp 18) (.tmp 20), 3, [], true⟩,
  ⟨(some 22), none, .mv (.tmp 21), 4, [], true⟩,
  ⟨(some 23), (some (22, true)), .mv (.tmp 7), 5, [], true⟩,
  ⟨(some 24), (some (22, true)), .bin .lss (.tmp 23) (.const (.int .i64 120)), 6, [], true⟩,
  ⟨(some 25), none, .pick (.tmp 22) (.tmp 24) (.const (.bool false)), 7, [], true⟩])
 (.cond (.tmp 25) .skip (.exit 0)))
 (.seq (.block 1 (.seq (.region 8 [
  ⟨(some 28), none, .mv (.tmp 5), 0, [], true⟩,
  ⟨(some 29), none, .mv (.tmp 6), 1, [], true⟩,
  ⟨(some 30), none, .mv (.tmp 0), 2, [], true⟩,
  ⟨(some 31), none, .mv (.tmp 7), 3, [], true⟩,
  ⟨(some 32), none, .adSl 5 (.tmp 30) (.tmp 31), 4, [], true⟩,
  ⟨(some 33), none, .load 5 true (.tmp 32), 5, [], true⟩,
  ⟨(some 34), none, .call (.func 27) [(.tmp 28), (.tmp 29), (.tmp 33)], 6, [], true⟩,
  ⟨(some 35), none, .un .not (.tmp 34), 7, [], true⟩])
 (.cond (.tmp 35) (.seq (.region 5 [
  ⟨(some 36), none, .mv (.tmp 5), 0, [], true⟩,
  ⟨(some 37), none, .mv (.tmp 6), 1, [], true⟩,
  ⟨(some 2), none, .mv (.tmp 36), 2, [], true⟩,
  ⟨(some 3), none, .mv (.tmp 37), 3, [], true⟩,
  ⟨(some 4), none, .mv (.const (.bool false)), 4, [], true⟩])
 .ret) .skip)))
 (.region 3 [
  ⟨(some 26), none, .mv (.tmp 7), 0, [], true⟩,
  ⟨(some 27), none, .bin .add (.tmp 26) (.const (.int .i64 1)), 1, [], true⟩,
  ⟨(some 7), none, .mv (.tmp 27), 2, [], true⟩]))))))
 (.seq (.region 5 [
  ⟨(some 38), none, .mv (.tmp 5), 0, [], true⟩,
  ⟨(some 39), none, .mv (.tmp 6), 1, [], true⟩,
  ⟨(some 2), none, .mv (.tmp 38), 2, [], true⟩,
  ⟨(some 3), none, .mv (.tmp 39), 3, [], true⟩,
  ⟨(some 4), none, .mv (.const (.bool true)), 4, [], true⟩])
 .ret)))))⟩

def m25 : MFn := ⟨63, [(2, none)], (.seq (.region 1 [
  ⟨(some 2), none, .mv (.const (.pointer none)), 0, [], true⟩])
 (.seq (.seq (.region 2 [
  ⟨(some 7), none, .mv (.tmp 0), 0, [], true⟩,
  ⟨(some 8), none, .eq false .ptr (.tmp 7) (.const (.pointer none)), 1, [], true⟩])
 (.cond (.tmp 8) (.seq (.region 1 [
  ⟨(some 2), none, .mv (.const (.pointer none)), 0, [], true⟩])
 .ret) .skip))
 (.seq (.region 23 [
  ⟨(some 9), none, .mv (.tmp 0), 0, [], true⟩,
  ⟨(some 10), none, .nilCheck (.tmp 9), 1, [], true⟩,
  ⟨(some 11), none, .fieldAddr 0 (.tmp 10), 2, [], true⟩,
  ⟨(some 12), none, .load 1 false (.tmp 11), 3, [], true⟩,
  ⟨(some 14), none, .mv (.tmp 0), 5, [], false⟩,
  ⟨(some 15), none, .nilCheck (.tmp 14), 6, [], false⟩,
  ⟨(some 16), none, .fieldAddr 1 (.tmp 15), 7, [], false⟩,
  ⟨(some 17), none, .load 1 false (.tmp 16), 8, [], false⟩,
  ⟨(some 19), none, .mv (.tmp 0), 10, [], false⟩,
  ⟨(some 20), none, .nilCheck (.tmp 19), 11, [], false⟩,
  ⟨(some 21), none, .fieldAddr 6 (.tmp 20), 12, [], false⟩,
  ⟨(some 22), none, .load 1 false (.tmp 21), 13, [], false⟩,
  ⟨(some 24), none, .mv (.tmp 0), 15, [], false⟩,
  ⟨(some 25), none, .nilCheck (.tmp 24), 16, [], false⟩,
  ⟨(some 26), none, .fieldAddr 7 (.tmp 25), 17, [], false⟩,
  ⟨(some 27), none, .load 1 false (.tmp 26), 18, [], false⟩,
  ⟨(some 13), none, .call (.func 58) [(.tmp 12)], 4, [(false, none, none, 8, .load 1 false (.tmp 16)), (false, none, none, 13, .load 1 false (.tmp 21)), (false, none, none, 18, .load 1 false (.tmp 26))], false⟩,
  ⟨(some 18), none, .call (.func 40) [(.tmp 17)], 9, [(false, none, none, 13, .load 1 false (.tmp 21)), (false, none, none, 18, .load 1 false (.tmp 26))], false⟩,
  ⟨(some 23), none, .call (.func 52) [(.tmp 22)], 14, [(false, none, none, 18, .load 1 false (.tmp 26))], false⟩,
  ⟨(some 28), none, .call (.func 59) [(.tmp 27)], 19, [], true⟩,
  ⟨(some 29), none, .build [(.pointer none), (.slice none 0 0), (.pointer none), (.pointer none), (.pointer none), (.pointer none), (.slice none 0 0), (.slice none 0 0)] [(0, 1, (.tmp 13)), (1, 1, (.tmp 18)), (6, 1, (.tmp 23)), (7, 1, (.tmp 28))], 20, [], true⟩,
  ⟨(some 30), none, .box 93 (.tmp 29), 21, [], true⟩,
  ⟨(some 3), none, .mv (.tmp 30), 22, [], true⟩])
 (.seq (.seq (.region 5 [
  ⟨(some 31), none, .mv (.tmp 0), 0, [], true⟩,
  ⟨(some 32), none, .nilCheck (.tmp 31), 1, [], true⟩,
  ⟨(some 33), none, .fieldAddr 2 (.tmp 32), 2, [], true⟩,
  ⟨(some 34), none, .load 4 true (.tmp 33), 3, [], true⟩,
  ⟨(some 35), none, .mv (.const (.int .i64 0)), 4, [], true⟩])
 (.block 0 (.loop (.seq (.region 1 [
  ⟨(some 36), none, .bin .lss (.tmp 35) (.const (.int .i64 4)), 0, [], true⟩])
 (.seq (.cond (.tmp 36) .skip (.exit 0))
 (.seq (.block 1 (.seq (.region 4 [
  ⟨(some 37), none, .mv (.tmp 35), 0, [], true⟩,
  ⟨(some 38), none, .idxArr 4 1 false (.tmp 34) (.tmp 35), 1, [], true⟩,
  ⟨(some 4), none, .mv (.tmp 37), 2, [], true⟩,
  ⟨(some 5), none, .mv (.tmp 38), 3, [], true⟩])
 (.seq (.region 2 [
  ⟨(some 39), none, .mv (.tmp 5), 0, [], true⟩,
  ⟨(some 40), none, .eq true .ptr (.tmp 39) (.const (.pointer none)), 1, [], true⟩])
 (.cond (.tmp 40) (.seq (.region 5 [
  ⟨(some 41), none, .mv (.tmp 5), 0, [], true⟩,
  ⟨(some 42), none, .nilCheck (.tmp 41), 1, [], true⟩,
  ⟨(some 43), none, .load 14 true (.tmp 42), 2, [], true⟩,
  ⟨(some 6), none, .alloc [(.pointer none), (.pointer none), (.int .i64 0), (.int .u64 0), (.int .u64 0), (.int .u8 0), (.int .i64 0), (.int .u64 0), (.int .i64 0), (.int .i64 0), (.int .u64 0), (.int .u64 0), (.int .i64 0), (.bool false)] 87, 3, [], true⟩,
  ⟨none, none, .store 14 (.tmp 6) (.tmp 43), 4, [], true⟩])
 (.seq (.region 14 [
  ⟨(some 44), none, .mv (.tmp 5), 0, [], true⟩,
  ⟨(some 45), none, .nilCheck (.tmp 44), 1, [], true⟩,
  ⟨(some 46), none, .fieldAddr 0 (.tmp 45), 2, [], true⟩,
  ⟨(some 47), none, .load 1 false (.tmp 46), 3, [], true⟩,
  ⟨(some 49), none, .mv (.tmp 5), 5, [], false⟩,
  ⟨(some 50), none, .nilCheck (.tmp 49), 6, [], false⟩,
  ⟨(some 51), none, .fieldAddr 1 (.tmp 50), 7, [], false⟩,
  ⟨(some 52), none, .load 1 false (.tmp 51), 8, [], false⟩,
  ⟨(some 48), none, .call (.func 60) [(.tmp 47)], 4, [(false, none, none, 8, .load 1 false (.tmp 51))], false⟩,
  ⟨(some 53), none, .call (.func 61) [(.tmp 52)], 9, [], true⟩,
  ⟨(some 54), none, .fieldAddr 0 (.tmp 6), 10, [], true⟩,
  ⟨none, none, .store 1 (.tmp 54) (.tmp 48), 11, [], true⟩,
  ⟨(some 55), none, .fieldAddr 1 (.tmp 6), 12, [], true⟩,
  ⟨none, none, .store 1 (.tmp 55) (.tmp 53), 13, [], true⟩])
 (.region 6 [
  ⟨(some 56), none, .mv (.tmp 3), 0, [], true⟩,
  ⟨(some 57), none, .mv (.tmp 4), 1, [], true⟩,
  ⟨(some 58), none, .nilCheck (.tmp 56), 2, [], true⟩,
  ⟨(some 59), none, .fieldAddr 2 (.tmp 58), 3, [], true⟩,
  ⟨(some 60), none, .adArr 4 1 (.tmp 59) (.tmp 57), 4, [], true⟩,
  ⟨none, none, .store 1 (.tmp 60) (.tmp 6), 5, [], true⟩]))) .skip))))
 (.region 2 [
  ⟨(some 61), none, .bin .add (.tmp 35) (.const (.int .i64 1)), 0, [], true⟩,
  ⟨(some 35), none, .mv (.tmp 61), 1, [], true⟩])))))))
 (.seq (.region 2 [
  ⟨(some 62), none, .mv (.tmp 3), 0, [], true⟩,
  ⟨(some 2), none, .mv (.tmp 62), 1, [], true⟩])
 .ret)))))⟩

def m26 : MFn := ⟨72, [(2, none)], (.seq (.region 1 [
  ⟨(some 2), none, .mv (.const (.pointer none)), 0, [], true⟩])
 (.seq (.seq (.region 2 [
  ⟨(some 6), none, .mv (.tmp 0), 0, [], true⟩,
  ⟨(some 7), none, .eq false .ptr (.tmp 6) (.const (.pointer none)), 1, [], true⟩])
 (.cond (.tmp 7) (.seq (.region 1 [
  ⟨(some 2), none, .mv (.const (.pointer none)), 0, [], true⟩])
 .ret) .skip))
 (.seq (.region 18 [
  ⟨(some 8), none, .mv (.tmp 0), 0, [], true⟩,
  ⟨(some 10), none, .mv (.tmp 0), 2, [], false⟩,
  ⟨(some 11), none, .nilCheck (.tmp 10), 3, [], false⟩,
  ⟨(some 12), none, .fieldAddr 1 (.tmp 11), 4, [], false⟩,
  ⟨(some 13), none, .load 1 false (.tmp 12), 5, [], false⟩,
  ⟨(some 15), none, .mv (.tmp 0), 7, [], false⟩,
  ⟨(some 17), none, .buildSl 192 2 0 [] [], 9, [], false⟩,
  ⟨(some 18), none, .mv (.tmp 0), 10, [], false⟩,
  ⟨(some 19), none, .nilCheck (.tmp 18), 11, [], false⟩,
  ⟨(some 20), none, .fieldAddr 7 (.tmp 19), 12, [], false⟩,
  ⟨(some 21), none, .load 1 false (.tmp 20), 13, [], false⟩,
  ⟨(some 9), none, .call (.func 62) [(.tmp 8)], 1, [(false, none, none, 5, .load 1 false (.tmp 12)), (true, none, none, 9, .buildSl 192 2 0 [] []), (false, none, none, 13, .load 1 false (.tmp 20))], false⟩,
  ⟨(some 14), none, .call (.func 63) [(.tmp 13)], 6, [(true, none, none, 9, .buildSl 192 2 0 [] []), (false, none, none, 13, .load 1 false (.tmp 20))], false⟩,
  ⟨(some 16), none, .call (.func 64) [(.tmp 15)], 8, [(true, none, none, 9, .buildSl 192 2 0 [] []), (false, none, none, 13, .load 1 false (.tmp 20))], false⟩,
  ⟨(some 22), none, .append 192 2 16 (.tmp 17) (.tmp 21), 14, [], true⟩,
  ⟨(some 23), none, .build [(.slice none 0 0), (.pointer none), (.pointer none), (.pointer none), (.pointer none), (.pointer none), (.slice none 0 0), (.slice none 0 0)] [(0, 1, (.tmp 9)), (1, 1, (.tmp 14)), (6, 1, (.tmp 16)), (7, 1, (.tmp 22))], 15, [], true⟩,
  ⟨(some 24), none, .box 124 (.tmp 23), 16, [], true⟩,
  ⟨(some 3), none, .mv (.tmp 24), 17, [], true⟩])
 (.seq (.seq (.region 1 [
  ⟨(some 4), none, .mv (.const (.int .i64 0)), 0, [], true⟩])
 (.block 0 (.loop (.seq (.seq (.region 2 [
  ⟨(some 25), none, .mv (.tmp 4), 0, [], true⟩,
  ⟨(some 26), none, .bin .lss (.tmp 25) (.const (.int .i64 4)), 1, [], true⟩])
 (.cond (.tmp 26) .skip (.exit 0)))
 (.seq (.block 1 (.seq (.region 7 [
  ⟨(some 29), none, .mv (.tmp 0), 0, [], true⟩,
  ⟨(some 30), none, .mv (.tmp 4), 1, [], true⟩,
  ⟨(some 31), none, .nilCheck (.tmp 29), 2, [], true⟩,
  ⟨(some 32), none, .fieldAddr 2 (.tmp 31), 3, [], true⟩,
  ⟨(some 33), none, .adArr 4 1 (.tmp 32) (.tmp 30), 4, [], true⟩,
  ⟨(some 34), none, .load 1 false (.tmp 33), 5, [], true⟩,
  ⟨(some 35), none, .eq true .ptr (.tmp 34) (.const (.pointer none)), 6, [], true⟩])
 (.cond (.tmp 35) (.seq (.region 10 [
  ⟨(some 36), none, .mv (.tmp 0), 0, [], true⟩,
  ⟨(some 37), none, .mv (.tmp 4), 1, [], true⟩,
  ⟨(some 38), none, .nilCheck (.tmp 36), 2, [], true⟩,
  ⟨(some 39), none, .fieldAddr 2 (.tmp 38), 3, [], true⟩,
  ⟨(some 40), none, .adArr 4 1 (.tmp 39) (.tmp 37), 4, [], true⟩,
  ⟨(some 41), none, .load 1 false (.tmp 40), 5, [], true⟩,
  ⟨(some 42), none, .nilCheck (.tmp 41), 6, [], true⟩,
  ⟨(some 43), none, .load 14 true (.tmp 42), 7, [], true⟩,
  ⟨(some 5), none, .alloc [(.int .i64 0), (.int .u64 0), (.int .u64 0), (.pointer none), (.pointer none), (.bool false), (.int .u8 0), (.int .i64 0), (.int .u64 0), (.int .i64 0), (.int .i64 0), (.int .u64 0), (.int .u64 0), (.bool false)] 129, 8, [], true⟩,
  ⟨none, none, .store 14 (.tmp 5) (.tmp 43), 9, [], true⟩])
 (.seq (.region 24 [
  ⟨(some 44), none, .mv (.tmp 0), 0, [], true⟩,
  ⟨(some 45), none, .mv (.tmp 4), 1, [], false⟩,
  ⟨(some 46), none, .nilCheck (.tmp 44), 2, [], false⟩,
  ⟨(some 47), none, .fieldAddr 2 (.tmp 46), 3, [], false⟩,
  ⟨(some 48), none, .adArr 4 1 (.tmp 47) (.tmp 45), 4, [], true⟩,
  ⟨(some 49), none, .load 1 false (.tmp 48), 5, [], true⟩,
  ⟨(some 50), none, .nilCheck (.tmp 49), 6, [], true⟩,
  ⟨(some 51), none, .fieldAddr 3 (.tmp 50), 7, [], true⟩,
  ⟨(some 52), none, .load 1 false (.tmp 51), 8, [], true⟩,
  ⟨(some 54), none, .mv (.tmp 0), 10, [], false⟩,
  ⟨(some 55), none, .mv (.tmp 4), 11, [], false⟩,
  ⟨(some 56), none, .nilCheck (.tmp 54), 12, [], false⟩,
  ⟨(some 57), none, .fieldAddr 2 (.tmp 56), 13, [], false⟩,
  ⟨(some 58), none, .adArr 4 1 (.tmp 57) (.tmp 55), 14, [], false⟩,
  ⟨(some 59), none, .load 1 false (.tmp 58), 15, [], false⟩,
  ⟨(some 60), none, .nilCheck (.tmp 59), 16, [], false⟩,
  ⟨(some 61), none, .fieldAddr 4 (.tmp 60), 17, [], false⟩,
  ⟨(some 62), none, .load 1 false (.tmp 61), 18, [], false⟩,
  ⟨(some 53), none, .call (.func 65) [(.tmp 52)], 9, [(false, none, none, 15, .load 1 false (.tmp 58)), (false, none, none, 18, .load 1 false (.tmp 61))], false⟩,
  ⟨(some 63), none, .call (.func 66) [(.tmp 62)], 19, [], true⟩,
  ⟨(some 64), none, .fieldAddr 3 (.tmp 5), 20, [], true⟩,
  ⟨none, none, .store 1 (.tmp 64) (.tmp 53), 21, [], true⟩,
  ⟨(some 65), none, .fieldAddr 4 (.tmp 5), 22, [], true⟩,
  ⟨none, none, .store 1 (.tmp 65) (.tmp 63), 23, [], true⟩])
 (.region 6 [
  ⟨(some 66), none, .mv (.tmp 3), 0, [], true⟩,
  ⟨(some 67), none, .mv (.tmp 4), 1, [], true⟩,
  ⟨(some 68), none, .nilCheck (.tmp 66), 2, [], true⟩,
  ⟨(some 69), none, .fieldAddr 2 (.tmp 68), 3, [], true⟩,
  ⟨(some 70), none, .adArr 4 1 (.tmp 69) (.tmp 67), 4, [], true⟩,
  ⟨none, none, .store 1 (.tmp 70) (.tmp 5), 5, [], true⟩]))) .skip)))
 (.region 3 [
  ⟨(some 27), none, .mv (.tmp 4), 0, [], true⟩,
  ⟨(some 28), none, .bin .add (.tmp 27) (.const (.int .i64 1)), 1, [], true⟩,
  ⟨(some 4), none, .mv (.tmp 28), 2, [], true⟩]))))))
 (.seq (.region 2 [
  ⟨(some 71), none, .mv (.tmp 3), 0, [], true⟩,
  ⟨(some 2), none, .mv (.tmp 71), 1, [], true⟩])
 .ret)))))⟩

def m27 : MFn := ⟨74, [(6, none)], (.seq (.region 2 [
  ⟨(some 5), none, .box 60 (.tmp 2), 0, [], true⟩,
  ⟨(some 6), none, .mv (.const (.bool false)), 1, [], true⟩])
 (.seq (.seq (.region 2 [
  ⟨(some 11), none, .fieldAddr 0 (.tmp 5), 0, [], true⟩,
  ⟨(some 12), none, .load 1 false (.tmp 11), 1, [], true⟩])
 (.block 0 (.seq (.region 2 [
  ⟨(some 14), none, .bin .eql (.tmp 12) (.const (.int .i64 0)), 0, [], true⟩,
  ⟨(some 13), none, .mv (.tmp 14), 1, [], true⟩])
 (.cond (.tmp 13) (.seq (.region 9 [
  ⟨(some 16), none, .mv (.tmp 0), 0, [], true⟩,
  ⟨(some 17), none, .fieldAddr 1 (.tmp 5), 1, [], true⟩,
  ⟨(some 18), none, .load 1 false (.tmp 17), 2, [], true⟩,
  ⟨(some 19), none, .call (.func 29) [(.tmp 16), (.tmp 18)], 3, [], true⟩,
  ⟨(some 15), none, .mv (.tmp 19), 4, [], true⟩,
  ⟨(some 20), none, .extract (.tmp 15) 0, 5, [], true⟩,
  ⟨(some 21), none, .extract (.tmp 15) 1, 6, [], true⟩,
  ⟨(some 7), none, .mv (.tmp 20), 7, [], true⟩,
  ⟨(some 8), none, .mv (.tmp 21), 8, [], true⟩])
 (.seq (.region 9 [
  ⟨(some 23), none, .mv (.tmp 1), 0, [], true⟩,
  ⟨(some 24), none, .fieldAddr 1 (.tmp 5), 1, [], true⟩,
  ⟨(some 25), none, .load 1 false (.tmp 24), 2, [], true⟩,
  ⟨(some 26), none, .call (.func 67) [(.tmp 23), (.tmp 25)], 3, [], true⟩,
  ⟨(some 22), none, .mv (.tmp 26), 4, [], true⟩,
  ⟨(some 27), none, .extract (.tmp 22) 0, 5, [], true⟩,
  ⟨(some 28), none, .extract (.tmp 22) 1, 6, [], true⟩,
  ⟨(some 9), none, .mv (.tmp 27), 7, [], true⟩,
  ⟨(some 10), none, .mv (.tmp 28), 8, [], true⟩])
 (.seq (.region 9 [
  ⟨(some 29), none, .mv (.tmp 7), 0, [], true⟩,
  ⟨(some 30), none, .mv (.tmp 9), 1, [], true⟩,
  ⟨(some 31), none, .bin .eql (.tmp 29) (.tmp 30), 2, [], true⟩,
  ⟨(some 32), none, .mv (.tmp 31), 3, [], true⟩,
  ⟨(some 33), (some (32, true)), .mv (.tmp 8), 4, [], true⟩,
  ⟨(some 34), (some (32, true)), .mv (.tmp 10), 5, [], true⟩,
  ⟨(some 35), (some (32, true)), .bin .eql (.tmp 33) (.tmp 34), 6, [], true⟩,
  ⟨(some 36), none, .pick (.tmp 32) (.tmp 35) (.const (.bool false)), 7, [], true⟩,
  ⟨(some 6), none, .mv (.tmp 36), 8, [], true⟩])
 .ret))) (.seq (.region 2 [
  ⟨(some 38), none, .bin .eql (.tmp 12) (.const (.int .i64 1)), 0, [], true⟩,
  ⟨(some 37), none, .mv (.tmp 38), 1, [], true⟩])
 (.cond (.tmp 37) (.seq (.region 14 [
  ⟨(some 39), none, .mv (.tmp 0), 0, [], true⟩,
  ⟨(some 40), none, .fieldAddr 1 (.tmp 5), 1, [], false⟩,
  ⟨(some 41), none, .load 1 false (.tmp 40), 2, [], false⟩,
  ⟨(some 42), none, .fieldAddr 2 (.tmp 5), 3, [], false⟩,
  ⟨(some 43), none, .load 3 true (.tmp 42), 4, [], false⟩,
  ⟨(some 45), none, .mv (.tmp 1), 6, [], false⟩,
  ⟨(some 46), none, .fieldAddr 1 (.tmp 5), 7, [], false⟩,
  ⟨(some 47), none, .load 1 false (.tmp 46), 8, [], false⟩,
  ⟨(some 48), none, .fieldAddr 2 (.tmp 5), 9, [], false⟩,
  ⟨(some 49), none, .load 3 true (.tmp 48), 10, [], false⟩,
  ⟨(some 44), none, .call (.func 18) [(.tmp 39), (.tmp 41), (.tmp 43)], 5, [(false, none, none, 8, .load 1 false (.tmp 46)), (false, none, none, 10, .load 3 true (.tmp 48))], false⟩,
  ⟨(some 50), none, .call (.func 68) [(.tmp 45), (.tmp 47), (.tmp 49)], 11, [], true⟩,
  ⟨(some 51), none, .bin .eql (.tmp 44) (.tmp 50), 12, [], true⟩,
  ⟨(some 6), none, .mv (.tmp 51), 13, [], true⟩])
 .ret) (.seq (.region 2 [
  ⟨(some 53), none, .bin .eql (.tmp 12) (.const (.int .i64 2)), 0, [], true⟩,
  ⟨(some 52), none, .mv (.tmp 53), 1, [], true⟩])
 (.cond (.tmp 52) (.seq (.region 10 [
  ⟨(some 54), none, .mv (.tmp 0), 0, [], true⟩,
  ⟨(some 55), none, .fieldAddr 1 (.tmp 5), 1, [], false⟩,
  ⟨(some 56), none, .load 1 false (.tmp 55), 2, [], false⟩,
  ⟨(some 58), none, .mv (.tmp 1), 4, [], false⟩,
  ⟨(some 59), none, .fieldAddr 1 (.tmp 5), 5, [], false⟩,
  ⟨(some 60), none, .load 1 false (.tmp 59), 6, [], false⟩,
  ⟨(some 57), none, .call (.func 33) [(.tmp 54), (.tmp 56)], 3, [(false, none, none, 6, .load 1 false (.tmp 59))], false⟩,
  ⟨(some 61), none, .call (.func 69) [(.tmp 58), (.tmp 60)], 7, [], true⟩,
  ⟨(some 62), none, .eq false (.st [(0, 1, false, .bool), (1, 1, false, .int), (2, 1, false, .bool), (3, 1, false, .int), (4, 1, false, .bool), (5, 1, false, .int), (6, 1, false, .int)]) (.tmp 57) (.tmp 61), 8, [], true⟩,
  ⟨(some 6), none, .mv (.tmp 62), 9, [], true⟩])
 .ret) (.seq (.region 2 [
  ⟨(some 64), none, .bin .eql (.tmp 12) (.const (.int .i64 3)), 0, [], true⟩,
  ⟨(some 63), none, .mv (.tmp 64), 1, [], true⟩])
 (.cond (.tmp 63) (.seq (.region 10 [
  ⟨(some 65), none, .mv (.tmp 0), 0, [], true⟩,
  ⟨(some 66), none, .fieldAddr 1 (.tmp 5), 1, [], false⟩,
  ⟨(some 67), none, .load 1 false (.tmp 66), 2, [], false⟩,
  ⟨(some 69), none, .mv (.tmp 1), 4, [], false⟩,
  ⟨(some 70), none, .fieldAddr 1 (.tmp 5), 5, [], false⟩,
  ⟨(some 71), none, .load 1 false (.tmp 70), 6, [], false⟩,
  ⟨(some 68), none, .call (.func 12) [(.tmp 65), (.tmp 67)], 3, [(false, none, none, 6, .load 1 false (.tmp 70))], false⟩,
  ⟨(some 72), none, .call (.func 70) [(.tmp 69), (.tmp 71)], 7, [], true⟩,
  ⟨(some 73), none, .bin .eql (.tmp 68) (.tmp 72), 8, [], true⟩,
  ⟨(some 6), none, .mv (.tmp 73), 9, [], true⟩])
 .ret) .skip))))))))))
 (.seq (.region 1 [
  ⟨(some 6), none, .mv (.const (.bool true)), 0, [], true⟩])
 .ret)))⟩

def m28 : MFn := ⟨143, [(4, none)], (.seq (.region 1 [
  ⟨(some 4), none, .mv (.const (.bool false)), 0, [], true⟩])
 (.seq (.seq (.region 1 [
  ⟨(some 5), none, .mv (.const (.int .i64 (-1))), 0, [], true⟩])
 (.block 0 (.loop (.seq (.seq (.region 2 [
  ⟨(some 15), none, .mv (.tmp 5), 0, [], true⟩,
  ⟨(some 16), none, .bin .leq (.tmp 15) (.const (.int .i64 4)), 1, [], true⟩])
 (.cond (.tmp 16) .skip (.exit 0)))
 (.seq (.block 1 (.seq (.region 8 [
  ⟨(some 20), none, .mv (.tmp 0), 0, [], true⟩,
  ⟨(some 21), none, .mv (.tmp 5), 1, [], true⟩,
  ⟨(some 22), none, .call (.func 10) [(.tmp 20), (.tmp 21)], 2, [], true⟩,
  ⟨(some 19), none, .mv (.tmp 22), 3, [], true⟩,
  ⟨(some 23), none, .extract (.tmp 19) 0, 4, [], true⟩,
  ⟨(some 24), none, .extract (.tmp 19) 1, 5, [], true⟩,
  ⟨(some 6), none, .mv (.tmp 23), 6, [], true⟩,
  ⟨(some 7), none, .mv (.tmp 24), 7, [], true⟩])
 (.seq (.region 8 [
  ⟨(some 26), none, .mv (.tmp 1), 0, [], true⟩,
  ⟨(some 27), none, .mv (.tmp 5), 1, [], true⟩,
  ⟨(some 28), none, .call (.func 71) [(.tmp 26), (.tmp 27)], 2, [], true⟩,
  ⟨(some 25), none, .mv (.tmp 28), 3, [], true⟩,
  ⟨(some 29), none, .extract (.tmp 25) 0, 4, [], true⟩,
  ⟨(some 30), none, .extract (.tmp 25) 1, 5, [], true⟩,
  ⟨(some 8), none, .mv (.tmp 29), 6, [], true⟩,
  ⟨(some 9), none, .mv (.tmp 30), 7, [], true⟩])
 (.seq (.region 9 [
  ⟨(some 32), none, .mv (.tmp 0), 0, [], true⟩,
  ⟨(some 33), none, .mv (.tmp 5), 1, [], true⟩,
  ⟨(some 34), none, .call (.func 30) [(.tmp 32), (.tmp 33)], 2, [], true⟩,
  ⟨(some 31), none, .mv (.tmp 34), 3, [], true⟩,
  ⟨(some 35), none, .extract (.tmp 31) 0, 4, [], true⟩,
  ⟨(some 36), none, .extract (.tmp 31) 1, 5, [], true⟩,
  ⟨(some 10), none, .alloc [(.int .u8 0), (.int .i64 0), (.int .u64 0)] 44, 6, [], true⟩,
  ⟨none, none, .store 3 (.tmp 10) (.tmp 35), 7, [], true⟩,
  ⟨(some 11), none, .mv (.tmp 36), 8, [], true⟩])
 (.seq (.region 9 [
  ⟨(some 38), none, .mv (.tmp 1), 0, [], true⟩,
  ⟨(some 39), none, .mv (.tmp 5), 1, [], true⟩,
  ⟨(some 40), none, .call (.func 72) [(.tmp 38), (.tmp 39)], 2, [], true⟩,
  ⟨(some 37), none, .mv (.tmp 40), 3, [], true⟩,
  ⟨(some 41), none, .extract (.tmp 37) 0, 4, [], true⟩,
  ⟨(some 42), none, .extract (.tmp 37) 1, 5, [], true⟩,
  ⟨(some 12), none, .alloc [(.int .u8 0), (.int .i64 0), (.int .u64 0)] 44, 6, [], true⟩,
  ⟨none, none, .store 3 (.tmp 12) (.tmp 41), 7, [], true⟩,
  ⟨(some 13), none, .mv (.tmp 42), 8, [], true⟩])
 (.seq (.region 56 (
  ⟨(some 43), none, .mv (.tmp 6), 0, [], true⟩ ::
  ⟨(some 44), none, .mv (.tmp 8), 1, [], true⟩ ::
  ⟨(some 45), none, .bin .neq (.tmp 43) (.tmp 44), 2, [], true⟩ ::
  ⟨(some 46), none, .mv (.tmp 45), 3, [], true⟩ ::
  ⟨(some 47), (some (46, false)), .mv (.tmp 7), 4, [], true⟩ ::
  ⟨(some 48), (some (46, false)), .mv (.tmp 9), 5, [], true⟩ ::
  ⟨(some 49), (some (46, false)), .eq true .bool (.tmp 47) (.tmp 48), 6, [], true⟩ ::
  ⟨(some 50), none, .pick (.tmp 46) (.const (.bool true)) (.tmp 49), 7, [], true⟩ ::
  ⟨(some 51), none, .mv (.tmp 50), 8, [], true⟩ ::
  ⟨(some 52), (some (51, false)), .load 3 true (.tmp 10), 9, [], true⟩ ::
  ⟨(some 53), (some (51, false)), .load 3 true (.tmp 12), 10, [], true⟩ ::
  ⟨(some 54), (some (51, false)), .eq true (.st [(0, 1, false, .int), (1, 1, false, .int), (2, 1, false, .int)]) (.tmp 52) (.tmp 53), 11, [], true⟩ ::
  ⟨(some 55), none, .pick (.tmp 51) (.const (.bool true)) (.tmp 54), 12, [], true⟩ ::
  ⟨(some 56), none, .mv (.tmp 55), 13, [], true⟩ ::
  ⟨(some 57), (some (56, false)), .mv (.tmp 11), 14, [], true⟩ ::
  ⟨(some 58), (some (56, false)), .mv (.tmp 13), 15, [], true⟩ ::
  ⟨(some 59), (some (56, false)), .eq true .bool (.tmp 57) (.tmp 58), 16, [], true⟩ ::
  ⟨(some 60), none, .pick (.tmp 56) (.const (.bool true)) (.tmp 59), 17, [], true⟩ ::
  ⟨(some 61), none, .mv (.tmp 60), 18, [], true⟩ ::
  ⟨(some 62), (some (61, false)), .mv (.tmp 0), 19, [], true⟩ ::
  ⟨(some 63), (some (61, false)), .mv (.tmp 5), 20, [], true⟩ ::
  ⟨(some 64), (some (61, false)), .call (.func 34) [(.tmp 62), (.tmp 63)], 21, [], true⟩ ::
  ⟨(some 65), (some (61, false)), .mv (.tmp 1), 22, [], true⟩ ::
  ⟨(some 66), (some (61, false)), .mv (.tmp 5), 23, [], true⟩ ::
  ⟨(some 67), (some (61, false)), .call (.func 74) [(.tmp 65), (.tmp 66)], 24, [], true⟩ ::
  ⟨(some 68), (some (61, false)), .call (.func 73) [(.tmp 64), (.tmp 67)], 25, [], true⟩ ::
  ⟨(some 69), (some (61, false)), .un .not (.tmp 68), 26, [], true⟩ ::
  ⟨(some 70), none, .pick (.tmp 61) (.const (.bool true)) (.tmp 69), 27, [], true⟩ ::
  ⟨(some 71), none, .mv (.tmp 70), 28, [], true⟩ ::
  ⟨(some 72), (some (71, false)), .mv (.tmp 0), 29, [], true⟩ ::
  ⟨(some 73), (some (71, false)), .mv (.tmp 5), 30, [], true⟩ ::
  ⟨(some 74), (some (71, false)), .call (.func 35) [(.tmp 72), (.tmp 73)], 31, [], true⟩ ::
  ⟨(some 75), (some (71, false)), .mv (.tmp 1), 32, [], true⟩ ::
  ⟨(some 76), (some (71, false)), .mv (.tmp 5), 33, [], true⟩ ::
  ⟨(some 77), (some (71, false)), .call (.func 76) [(.tmp 75), (.tmp 76)], 34, [], true⟩ ::
  ⟨(some 78), (some (71, false)), .call (.func 75) [(.tmp 74), (.tmp 77)], 35, [], true⟩ ::
  ⟨(some 79), (some (71, false)), .un .not (.tmp 78), 36, [], true⟩ ::
  ⟨(some 80), none, .pick (.tmp 71) (.const (.bool true)) (.tmp 79), 37, [], true⟩ ::
  ⟨(some 81), none, .mv (.tmp 80), 38, [], true⟩ ::
  ⟨(some 82), (some (81, false)), .mv (.tmp 0), 39, [], true⟩ ::
  ⟨(some 83), (some (81, false)), .mv (.tmp 5), 40, [], true⟩ ::
  ⟨(some 84), (some (81, false)), .call (.func 15) [(.tmp 82), (.tmp 83)], 41, [], true⟩ ::
  ⟨(some 85), (some (81, false)), .mv (.tmp 1), 42, [], true⟩ ::
  ⟨(some 86), (some (81, false)), .mv (.tmp 5), 43, [], true⟩ ::
  ⟨(some 87), (some (81, false)), .call (.func 77) [(.tmp 85), (.tmp 86)], 44, [], true⟩ ::
  ⟨(some 88), (some (81, false)), .eq true .bool (.tmp 84) (.tmp 87), 45, [], true⟩ ::
  ⟨(some 89), none, .pick (.tmp 81) (.const (.bool true)) (.tmp 88), 46, [], true⟩ ::
  ⟨(some 90), none, .mv (.tmp 89), 47, [], true⟩ ::
  ⟨(some 91), (some (90, false)), .mv (.tmp 0), 48, [], true⟩ ::
  ⟨(some 92), (some (90, false)), .mv (.tmp 5), 49, [], true⟩ ::
  ⟨(some 93), (some (90, false)), .call (.func 36) [(.tmp 91), (.tmp 92)], 50, [], true⟩ ::
  ⟨(some 94), (some (90, false)), .mv (.tmp 1), 51, [], true⟩ ::
  ⟨(some 95), (some (90, false)), .mv (.tmp 5), 52, [], true⟩ ::
  ⟨(some 96), (some (90, false)), .call (.func 78) [(.tmp 94), (.tmp 95)], 53, [], true⟩ ::
  ⟨(some 97), (some (90, false)), .eq true .bool (.tmp 93) (.tmp 96), 54, [], true⟩ ::
  ⟨(some 98), none, .pick (.tmp 90) (.const (.bool true)) (.tmp 97), 55, [], true⟩ :: []))
 (.cond (.tmp 98) (.seq (.region 1 [
  ⟨(some 4), none, .mv (.const (.bool false)), 0, [], true⟩])
 .ret) .skip)))))))
 (.region 3 [
  ⟨(some 17), none, .mv (.tmp 5), 0, [], true⟩,
  ⟨(some 18), none, .bin .add (.tmp 17) (.const (.int .i64 1)), 1, [], true⟩,
  ⟨(some 5), none, .mv (.tmp 18), 2, [], true⟩]))))))
 (.seq (.seq (.region 1 [
  ⟨(some 14), none, .mv (.const (.int .i64 (-1))), 0, [], true⟩])
 (.block 2 (.loop (.seq (.seq (.region 2 [
  ⟨(some 99), none, .mv (.tmp 14), 0, [], true⟩,
  ⟨(some 100), none, .bin .lss (.tmp 99) (.const (.int .i64 20)), 1, [], true⟩])
 (.cond (.tmp 100) .skip (.exit 2)))
 (.seq (.block 3 (.seq (.region 7 [
  ⟨(some 103), none, .mv (.tmp 0), 0, [], true⟩,
  ⟨(some 104), none, .mv (.tmp 14), 1, [], true⟩,
  ⟨(some 105), none, .call (.func 17) [(.tmp 103), (.tmp 104)], 2, [], true⟩,
  ⟨(some 106), none, .mv (.tmp 1), 3, [], true⟩,
  ⟨(some 107), none, .mv (.tmp 14), 4, [], true⟩,
  ⟨(some 108), none, .call (.func 79) [(.tmp 106), (.tmp 107)], 5, [], true⟩,
  ⟨(some 109), none, .bin .neq (.tmp 105) (.tmp 108), 6, [], true⟩])
 (.cond (.tmp 109) (.seq (.region 1 [
  ⟨(some 4), none, .mv (.const (.bool false)), 0, [], true⟩])
 .ret) .skip)))
 (.region 3 [
  ⟨(some 101), none, .mv (.tmp 14), 0, [], true⟩,
  ⟨(some 102), none, .bin .add (.tmp 101) (.const (.int .i64 1)), 1, [], true⟩,
  ⟨(some 14), none, .mv (.tmp 102), 2, [], true⟩]))))))
 (.seq (.region 34 [
  ⟨(some 110), none, .mv (.tmp 0), 0, [], true⟩,
  ⟨(some 111), none, .call (.func 11) [(.tmp 110)], 1, [], true⟩,
  ⟨(some 112), none, .mv (.tmp 1), 2, [], true⟩,
  ⟨(some 113), none, .call (.func 62) [(.tmp 112)], 3, [], true⟩,
  ⟨(some 114), none, .call (.func 16) [(.tmp 111), (.tmp 113)], 4, [], true⟩,
  ⟨(some 115), none, .mv (.tmp 114), 5, [], true⟩,
  ⟨(some 116), (some (115, true)), .mv (.tmp 0), 6, [], true⟩,
  ⟨(some 117), (some (115, true)), .call (.func 20) [(.tmp 116)], 7, [], true⟩,
  ⟨(some 118), (some (115, true)), .mv (.tmp 1), 8, [], true⟩,
  ⟨(some 119), (some (115, true)), .call (.func 64) [(.tmp 118)], 9, [], true⟩,
  ⟨(some 120), (some (115, true)), .call (.func 80) [(.tmp 117), (.tmp 119)], 10, [], true⟩,
  ⟨(some 121), none, .pick (.tmp 115) (.tmp 120) (.const (.bool false)), 11, [], true⟩,
  ⟨(some 122), none, .mv (.tmp 121), 12, [], true⟩,
  ⟨(some 123), (some (122, true)), .mv (.tmp 0), 13, [], true⟩,
  ⟨(some 124), (some (122, true)), .call (.func 22) [(.tmp 123)], 14, [], true⟩,
  ⟨(some 125), (some (122, true)), .mv (.tmp 1), 15, [], true⟩,
  ⟨(some 126), (some (122, true)), .call (.func 82) [(.tmp 125)], 16, [], true⟩,
  ⟨(some 127), (some (122, true)), .call (.func 81) [(.tmp 124), (.tmp 126)], 17, [], true⟩,
  ⟨(some 128), none, .pick (.tmp 122) (.tmp 127) (.const (.bool false)), 18, [], true⟩,
  ⟨(some 129), none, .mv (.tmp 128), 19, [], true⟩,
  ⟨(some 130), (some (129, true)), .mv (.tmp 0), 20, [], true⟩,
  ⟨(some 131), (some (129, true)), .call (.func 14) [(.tmp 130)], 21, [], true⟩,
  ⟨(some 132), (some (129, true)), .mv (.tmp 1), 22, [], true⟩,
  ⟨(some 133), (some (129, true)), .call (.func 83) [(.tmp 132)], 23, [], true⟩,
  ⟨(some 134), (some (129, true)), .call (.func 81) [(.tmp 131), (.tmp 133)], 24, [], true⟩,
  ⟨(some 135), none, .pick (.tmp 129) (.tmp 134) (.const (.bool false)), 25, [], true⟩,
  ⟨(some 136), none, .mv (.tmp 135), 26, [], true⟩,
  ⟨(some 137), (some (136, true)), .mv (.tmp 0), 27, [], true⟩,
  ⟨(some 138), (some (136, true)), .call (.func 37) [(.tmp 137)], 28, [], true⟩,
  ⟨(some 139), (some (136, true)), .mv (.tmp 1), 29, [], true⟩,
  ⟨(some 140), (some (136, true)), .call (.func 84) [(.tmp 139)], 30, [], true⟩,
  ⟨(some 141), (some (136, true)), .bin .eql (.tmp 138) (.tmp 140), 31, [], true⟩,
  ⟨(some 142), none, .pick (.tmp 136) (.tmp 141) (.const (.bool false)), 32, [], true⟩,
  ⟨(some 4), none, .mv (.tmp 142), 33, [], true⟩])
 .ret))))⟩

def m29 : MFn := ⟨67, [(4, none), (5, none)], (.seq (.region 2 [
  ⟨(some 4), none, .mv (.const (.int .i64 0)), 0, [], true⟩,
  ⟨(some 5), none, .mv (.const (.int .i64 0)), 1, [], true⟩])
 (.seq (.seq (.region 4 [
  ⟨(some 9), none, .mv (.tmp 0), 0, [], true⟩,
  ⟨(some 10), none, .mv (.tmp 1), 1, [], true⟩,
  ⟨(some 11), none, .call (.func 41) [(.tmp 9), (.tmp 10)], 2, [], true⟩,
  ⟨(some 6), none, .mv (.tmp 11), 3, [], true⟩])
 (.seq (.region 2 [
  ⟨(some 12), none, .mv (.tmp 6), 0, [], true⟩,
  ⟨(some 13), none, .bin .neq (.tmp 12) (.const (.int .i64 0)), 1, [], true⟩])
 (.cond (.tmp 13) (.seq (.region 3 [
  ⟨(some 14), none, .mv (.tmp 6), 0, [], true⟩,
  ⟨(some 4), none, .mv (.const (.int .i64 0)), 1, [], true⟩,
  ⟨(some 5), none, .mv (.tmp 14), 2, [], true⟩])
 .ret) .skip)))
 (.seq (.seq (.region 7 [
  ⟨(some 15), none, .mv (.tmp 0), 0, [], true⟩,
  ⟨(some 16), none, .mv (.tmp 1), 1, [], true⟩,
  ⟨(some 17), none, .nilCheck (.tmp 15), 2, [], true⟩,
  ⟨(some 18), none, .fieldAddr 2 (.tmp 17), 3, [], true⟩,
  ⟨(some 19), none, .adArr 4 1 (.tmp 18) (.tmp 16), 4, [], true⟩,
  ⟨(some 20), none, .load 1 false (.tmp 19), 5, [], true⟩,
  ⟨(some 21), none, .eq true .ptr (.tmp 20) (.const (.pointer none)), 6, [], true⟩])
 (.cond (.tmp 21) (.seq (.region 2 [
  ⟨(some 4), none, .mv (.const (.int .i64 0)), 0, [], true⟩,
  ⟨(some 5), none, .mv (.const (.int .i64 8)), 1, [], true⟩])
 .ret) .skip))
 (.seq (.region 6 [
  ⟨(some 22), none, .mv (.tmp 0), 0, [], true⟩,
  ⟨(some 23), none, .nilCheck (.tmp 22), 1, [], true⟩,
  ⟨(some 24), none, .fieldAddr 7 (.tmp 23), 2, [], true⟩,
  ⟨(some 25), none, .load 1 false (.tmp 24), 3, [], true⟩,
  ⟨(some 26), none, .len false (.tmp 25), 4, [], true⟩,
  ⟨(some 7), none, .mv (.tmp 26), 5, [], true⟩])
 (.seq (.seq (.region 2 [
  ⟨(some 27), none, .mv (.tmp 7), 0, [], true⟩,
  ⟨(some 28), none, .bin .geq (.tmp 27) (.const (.int .i64 64)), 1, [], true⟩])
 (.cond (.tmp 28) (.seq (.region 2 [
  ⟨(some 4), none, .mv (.const (.int .i64 0)), 0, [], true⟩,
  ⟨(some 5), none, .mv (.const (.int .i64 4)), 1, [], true⟩])
 .ret) .skip))
 (.seq (.region 11 [
  ⟨(some 31), none, .mv (.tmp 7), 2, [], true⟩,
  ⟨(some 32), none, .mv (.tmp 0), 3, [], false⟩,
  ⟨(some 33), none, .nilCheck (.tmp 32), 4, [], false⟩,
  ⟨(some 34), none, .fieldAddr 0 (.tmp 33), 5, [], false⟩,
  ⟨(some 35), none, .load 1 false (.tmp 34), 6, [], false⟩,
  ⟨(some 29), none, .call (.func 85) [], 0, [(false, none, none, 6, .load 1 false (.tmp 34))], false⟩,
  ⟨(some 30), none, .call (.func 86) [], 1, [(false, none, none, 6, .load 1 false (.tmp 34))], false⟩,
  ⟨(some 36), none, .call (.func 87) [(.tmp 35)], 7, [], false⟩,
  ⟨(some 37), none, .build [(.pointer none), (.pointer none), (.int .i64 0), (.int .u64 0), (.int .u64 0), (.int .u8 0), (.int .i64 0), (.int .u64 0), (.int .i64 0), (.int .i64 0), (.int .u64 0), (.int .u64 0), (.int .i64 0), (.bool false)] [(0, 1, (.tmp 29)), (1, 1, (.tmp 30)), (2, 1, (.tmp 31)), (3, 1, (.tmp 36))], 8, [], true⟩,
  ⟨(some 38), none, .box 87 (.tmp 37), 9, [], true⟩,
  ⟨(some 8), none, .mv (.tmp 38), 10, [], true⟩])
 (.seq (.region 7 [
  ⟨(some 39), none, .mv (.tmp 0), 0, [], true⟩,
  ⟨(some 40), none, .mv (.tmp 1), 1, [], true⟩,
  ⟨(some 41), none, .mv (.tmp 8), 2, [], true⟩,
  ⟨(some 42), none, .nilCheck (.tmp 39), 3, [], true⟩,
  ⟨(some 43), none, .fieldAddr 2 (.tmp 42), 4, [], true⟩,
  ⟨(some 44), none, .adArr 4 1 (.tmp 43) (.tmp 40), 5, [], true⟩,
  ⟨none, none, .store 1 (.tmp 44) (.tmp 41), 6, [], true⟩])
 (.seq (.region 18 [
  ⟨(some 45), none, .mv (.tmp 0), 0, [], true⟩,
  ⟨(some 46), none, .mv (.tmp 0), 1, [], false⟩,
  ⟨(some 47), none, .nilCheck (.tmp 46), 2, [], false⟩,
  ⟨(some 48), none, .fieldAddr 7 (.tmp 47), 3, [], false⟩,
  ⟨(some 49), none, .load 1 false (.tmp 48), 4, [], false⟩,
  ⟨(some 50), none, .mv (.tmp 7), 5, [], false⟩,
  ⟨(some 51), none, .mv (.tmp 8), 6, [], false⟩,
  ⟨(some 52), none, .nilCheck (.tmp 51), 7, [], false⟩,
  ⟨(some 53), none, .fieldAddr 3 (.tmp 52), 8, [], false⟩,
  ⟨(some 54), none, .load 1 false (.tmp 53), 9, [], false⟩,
  ⟨(some 55), none, .bin .mul (.const (.int .u64 2)) (.tmp 54), 10, [], false⟩,
  ⟨(some 56), none, .bin .add (.tmp 55) (.const (.int .u64 1)), 11, [], false⟩,
  ⟨(some 57), none, .build [(.int .i64 0), (.int .u64 0), (.int .u8 0)] [(0, 1, (.tmp 50)), (1, 1, (.tmp 56))], 12, [], false⟩,
  ⟨(some 58), none, .buildSl 98 3 1 [(.int .i64 0), (.int .u64 0), (.int .u8 0)] [(0, 3, (.tmp 57))], 13, [], false⟩,
  ⟨(some 59), none, .append 98 3 24 (.tmp 49) (.tmp 58), 14, [], false⟩,
  ⟨(some 60), none, .nilCheck (.tmp 45), 15, [], true⟩,
  ⟨(some 61), none, .fieldAddr 7 (.tmp 60), 16, [], true⟩,
  ⟨none, none, .store 1 (.tmp 61) (.tmp 59), 17, [], true⟩])
 (.seq (.region 4 [
  ⟨(some 62), none, .mv (.tmp 0), 0, [], true⟩,
  ⟨(some 63), none, .mv (.tmp 8), 1, [], true⟩,
  ⟨(some 64), none, .build [(.int .i64 0), (.int .u64 0)] [], 2, [], true⟩,
  ⟨(some 65), none, .call (.func 88) [(.tmp 62), (.const (.int .u8 1)), (.tmp 63), (.tmp 64)], 3, [], true⟩])
 (.seq (.region 3 [
  ⟨(some 66), none, .mv (.tmp 7), 0, [], true⟩,
  ⟨(some 4), none, .mv (.tmp 66), 1, [], true⟩,
  ⟨(some 5), none, .mv (.const (.int .i64 0)), 2, [], true⟩])
 .ret))))))))))⟩

def m30 : MFn := ⟨21, [(4, (some (3, true))), (5, none)], (.seq (.region 2 [
  ⟨(some 4), none, .alloc [(.int .u8 0), (.int .i64 0), (.int .u64 0)] 44, 0, [], true⟩,
  ⟨(some 5), none, .mv (.const (.bool false)), 1, [], true⟩])
 (.seq (.region 4 [
  ⟨(some 7), none, .mv (.tmp 0), 0, [], true⟩,
  ⟨(some 8), none, .mv (.tmp 1), 1, [], true⟩,
  ⟨(some 9), none, .call (.func 39) [(.tmp 7), (.tmp 8)], 2, [], true⟩,
  ⟨(some 6), none, .mv (.tmp 9), 3, [], true⟩])
 (.seq (.seq (.region 6 [
  ⟨(some 10), none, .mv (.tmp 6), 0, [], true⟩,
  ⟨(some 11), none, .eq false .ptr (.tmp 10) (.const (.pointer none)), 1, [], true⟩,
  ⟨(some 12), none, .mv (.tmp 11), 2, [], true⟩,
  ⟨(some 13), (some (12, false)), .mv (.tmp 6), 3, [], true⟩,
  ⟨(some 14), (some (12, false)), .call (.func 45) [(.tmp 13)], 4, [], true⟩,
  ⟨(some 15), none, .pick (.tmp 12) (.const (.bool true)) (.tmp 14), 5, [], true⟩])
 (.cond (.tmp 15) (.seq (.region 3 [
  ⟨(some 16), none, .build [(.int .u8 0), (.int .i64 0), (.int .u64 0)] [], 0, [], true⟩,
  ⟨none, none, .store 3 (.tmp 4) (.tmp 16), 1, [], true⟩,
  ⟨(some 5), none, .mv (.const (.bool false)), 2, [], true⟩])
 .ret) .skip))
 (.seq (.region 6 [
  ⟨(some 17), none, .mv (.tmp 6), 0, [], true⟩,
  ⟨(some 18), none, .nilCheck (.tmp 17), 1, [], true⟩,
  ⟨(some 19), none, .fieldAddr 5 (.tmp 18), 2, [], true⟩,
  ⟨(some 20), none, .load 3 true (.tmp 19), 3, [], true⟩,
  ⟨none, none, .store 3 (.tmp 4) (.tmp 20), 4, [], true⟩,
  ⟨(some 5), none, .mv (.const (.bool true)), 5, [], true⟩])
 .ret))))⟩

end Ev
