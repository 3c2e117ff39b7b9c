/- NorecNone: for every deed, every values and number the law returns true, and each argument reads as it did; by an evaluator of the compiled code that is proved sound for the model. Part 5 of 8. -/
import Derived.Test.YtmdkdjoifafifaaGreatNone4
import Derived.Laws.Sem
set_option linter.unusedSimpArgs false
set_option linter.unusedVariables false

/- From the model's code to compiled code, with the checks on which the soundness of a region leans. -/
namespace Ev
open Go

def closedF : Nat → Value → Bool
  | 0, _ => false
  | n + 1, v => match v with
    | .bool _ | .int _ _ | .float _ _ | .string _ | .pointer none | .map none | .nilFunc | .nilIface => true
    | .slice none _ c => Nat.blt c unk
    | .iface _ v => closedF n v
    | .agg cs => cs.toList.all (closedF n)
    | .tuple cs => cs.toList.all (closedF n)
    | .func (.func _) a b => a.toList.all (closedF n) && b.toList.all (closedF n)
    | _ => false

def closed (v : Value) : Bool := closedF 6 v

def okOpd : Operand → Bool
  | .const v => closed v
  | .global _ => false
  | _ => true

section
variable (P : Program)

def sizeT (t : TypeId) : Option Nat := (P.info? t).map (·.size)

def aggT (t : TypeId) : Option Bool := match P.underlying t with
  | some (.struct _) => some true
  | some (.array _ _) => some true
  | some _ => some false
  | none => none

def zeroT (t : TypeId) : Option Value := (P.info? t).bind (·.zero)

/-- Size, and whether it is a struct or an array: what 'loadVar' and 'part' ask. (Of no aggregate the size is 1.) -/
def shapeT (t : TypeId) : Option (Nat × Bool) := match aggT P t, sizeT P t with
  | some true, some n => some (n, true)
  | some false, some 1 => some (1, false)
  | _, _ => none

def cEqFs (r : TypeId → Option EqK) : List Field → Option (List (Nat × Nat × Bool × EqK))
  | [] => some []
  | f :: fs => if f.name = "_" then none else match shapeT P f.type, r f.type, cEqFs r fs with
    | some (n, g), some e, some l => some ((f.offset, n, g, e) :: l)
    | _, _, _ => none

def cEq : Nat → TypeId → Option EqK
  | 0, _ => none
  | d + 1, t => match P.underlying t with
    | some .bool => some .bool
    | some (.int _) => some .int
    | some .string => some .str
    | some (.pointer e) => match sizeT P e with
      | some (_ + 1) => some .ptr
      | _ => none
    | some (.interface _) => some .iface
    | some (.slice _) => some .slice
    | some (.map _ _) => some .map
    | some (.func _ _ _) => some .func
    | some (.struct fields) => if P.stoodInHeld t then none else match cEqFs P (cEq d) fields.toList with
      | some l => some (.st l)
      | none => none
    | _ => none

def isConstO : Operand → Bool
  | .const _ => true
  | _ => false

/-- '==' and '!=' on what is neither an integer, nor a float, nor a string. -/
def cEqOp (neg : Bool) (t : TypeId) (x y : Operand) : Option MK := match cEq P 4 t with
  | some .iface => if isConstO x || isConstO y then some (.eq neg .iface x y) else none
  | some (.st fs) => if P.eqGuardType P.depth t then none else some (.eq neg (.st fs) x y)
  | some e => some (.eq neg e x y)
  | none => none

def cBin (op : BinOp) (t : TypeId) (x y : Operand) : Option MK := match P.underlying t with
  | some (.int _) => some (.bin op x y)
  | some (.float _) => match op with
    | .eql | .neq | .lss | .leq | .gtr | .geq => some (.bin op x y)
    | _ => none
  | some .string => some (.bin op x y)
  | _ => match op with
    | .eql => cEqOp P false t x y
    | .neq => cEqOp P true t x y
    | _ => none

def cKey (t : TypeId) : Option KK := match P.underlying t with
  | some (.int _) => some .int
  | some .string => some .str
  | _ => none

def cParts (place : Nat → Option (Nat × Nat)) : List (Nat × Operand) → Option (List (Nat × Nat × Operand))
  | [] => some []
  | (i, x) :: ps => match place i, cParts place ps with
    | some (o, n), some l => some ((o, n, x) :: l)
    | _, _ => none

def placesOf (fields : List Field) : Option (List (Nat × Nat)) := match fields with
  | [] => some []
  | f :: fs => match sizeT P f.type, placesOf fs with
    | some n, some l => some ((f.offset, n) :: l)
    | _, _ => none

def cCall (c : Call) : Option MK := match c.callee with
  | .value f => some (.call f c.args.toList)
  | .invoke r name => some (.invoke r name c.args.toList)
  | .builtin b => match b, c.argTypes.toList, c.args.toList with
    | .len, [t], [x] => match P.underlying t with
      | some .string => some (.len true x)
      | some (.slice _) => some (.len false x)
      | some (.array n _) => some (.lenC n)
      | some (.map _ _) => some (.lenMap x)
      | _ => none
    | .cap, [t], [x] => match P.underlying t with
      | some (.slice _) => some (.cap x)
      | _ => none
    | .append, [t, u], [s, x] => match P.underlying t, P.underlying u with
      | some (.slice e), some (.slice _) => match P.info? e with
        | some i => match i.zero with
          | some z => if z.cells.size = i.size then some (.append e i.size i.bytes s x) else none
          | none => none
        | none => none
      | some (.slice e), some .string => match P.info? e with
        | some i => match i.zero with
          | some z => if z.cells.size = i.size then some (.append e i.size i.bytes s x) else none
          | none => none
        | none => none
      | _, _ => none
    | .copy, [t, _], [d, x] => match P.underlying t with
      | some (.slice e) => match sizeT P e with
        | some n => some (.copy n d x)
        | none => none
      | _ => none
    | .delete, t :: _, [m, x] => match P.underlying t with
      | some (.map k _) => match cKey P k with
        | some kk => some (.delete kk m x)
        | none => none
      | _ => none
    | .clear, [t], [m] => match P.underlying t with
      | some (.map _ _) => some (.clearMap m)
      | _ => none
    | .recover, _, [] => some .recover
    | .min, _, [x, y] => some (.mm false x y)
    | .max, _, [x, y] => some (.mm true x y)
    | _, _, _ => none

def cOp0 (o : Oper) : Option MK := match o.op with
  | .move x | .assign x => some (.mv x)
  | .pick c a b => some (.pick c a b)
  | .alloc t => match zeroT P t with
    | some z => some (.alloc z.cells.toList t)
    | none => none
  | .box t x => some (.box t x)
  | .build t parts => match zeroT P t, P.underlying t with
    | some z, some (.struct fields) => match placesOf P fields.toList with
      | some pl => match cParts (nth pl) parts.toList with
        | some ps => some (.build z.cells.toList ps)
        | none => none
      | none => none
    | some z, some (.array _ e) => match sizeT P e with
      | some n => match cParts (fun i => some (i * n, n)) parts.toList with
        | some ps => some (.build z.cells.toList ps)
        | none => none
      | none => none
    | _, _ => none
  | .buildSlice t len parts => match P.underlying t with
    | some (.slice e) => match sizeT P e with
      | some n => if len * n > 16777216 ∨ len > 16777216 then none else
        match (if len * n = 0 then some #[] else (zeroT P e).map (·.cells)) with
        | some z => match cParts (fun i => some (i * n, n)) parts.toList with
          | some ps => some (.buildSl e n len ((Array.range (len * n)).map (z[· % z.size]!)).toList ps)
          | none => none
        | none => none
      | none => none
    | _ => none
  | .load t a => match shapeT P t with
    | some (n, g) => some (.load n g a)
    | none => none
  | .store t a x => match sizeT P t with
    | some n => some (.store n a x)
    | none => none
  | .nilCheck x => some (.nilCheck x)
  | .binOp op t x y _ => cBin P op t x y
  | .unOp op _ x => some (.un op x)
  | .convert src dst x => match P.underlying src, P.underlying dst with
    | some (.int _), some (.int k) => some (.conv k x)
    | some (.int _), some (.float k) => some (.convF k x)
    | some .string, some .string => some (.same x)
    | some (.slice e), some .string => match P.underlying e with
      | some (.int .u8) => some (.toStr x)
      | _ => none
    | some .string, some (.slice e) => match P.underlying e with
      | some (.int .u8) => some (.toBytes e x)
      | _ => none
    | _, _ => none
  | .makeInterface t x => match P.underlying t with
    | some (.interface _) => none
    | some _ => some (.iface t x)
    | none => none
  | .makeFunc (.func f) first captured => some (.func (.func f) first.toList captured.toList)
  | .makeMap _ none => some .makeMap
  | .makeSlice t l c => match P.underlying t with
    | some (.slice e) => match P.info? e with
      | some i => match i.zero with
        | some z => if z.cells.size = i.size ∧ 0 < i.size then some (.makeSl e i.bytes z.cells.toList l c) else none
        | none => none
      | none => none
    | _ => none
  | .slice t x lo hi mx => if mx.isSome && hi.isNone then none else match P.underlying t with
    | some .string => match mx with
      | none => some (.slStr x lo hi)
      | some _ => none
    | some (.slice e) => match sizeT P e with
      | some n => some (.slSl n x lo hi mx)
      | none => none
    | some (.array m e) => match sizeT P e with
      | some n => if m < unk then some (.slArr m n x lo hi mx) else none
      | none => none
    | _ => none
  | .fieldAddr s x f => match P.underlying s with
    | some (.struct fields) => match fields[f]? with
      | some fd => match sizeT P fd.type with
        | some (_ + 1) => some (.fieldAddr fd.offset x)
        | _ => none
      | none => none
    | _ => none
  | .field t x f => match P.underlying t with
    | some (.struct fields) => match fields[f]? with
      | some fd => match shapeT P fd.type with
        | some (n, g) => some (.field fd.offset n g x)
        | none => none
      | none => none
    | _ => none
  | .indexAddr t x ix => match P.underlying t with
    | some (.array len e) => match sizeT P e with
      | some n => some (.adArr len n x ix)
      | none => none
    | some (.slice e) => match sizeT P e with
      | some n => some (.adSl n x ix)
      | none => none
    | _ => none
  | .index t x ix => match P.underlying t with
    | some (.array len e) => match shapeT P e with
      | some (n, g) => some (.idxArr len n g x ix)
      | none => none
    | some .string => some (.idxStr x ix)
    | _ => none
  | .lookup t m ix ok => match P.underlying t with
    | some (.map k e) => match cKey P k, zeroT P e with
      | some kk, some z => if closed z then some (.lookup kk z ok m ix) else none
      | _, _ => none
    | _ => none
  | .mapUpdate t m k x => match P.underlying t with
    | some (.map kt _) => match cKey P kt with
      | some kk => some (.mapSet kk m k x)
      | none => none
    | _ => none
  | .mapEntry t m k => match P.underlying t with
    | some (.map kt e) => match cKey P kt, zeroT P e with
      | some kk, some z => if closed z then some (.mapEntry kk z m k) else none
      | _, _ => none
    | _ => none
  | .entryStore _ m s x => some (.entrySet m s x)
  | .range t x => match P.underlying t with
    | some .string => some (.rangeStr x)
    | some (.map _ _) => some (.rangeMap x)
    | _ => none
  | .next it isStr => if isStr then some (.nextStr it) else some (.nextMap it)
  | .entry it => some (.entry it)
  | .typeAssert x _ u ok => match ok, P.underlying u, zeroT P u with
    | true, some (.interface _), _ => none
    | true, some _, some z => if closed z then some (.assertT u z x) else none
    | _, _, _ => none
  | .extract t i => some (.extract t i)
  | .call c => cCall P c
  | .defer c => match c.callee with
    | .value f => some (.defer f c.args.toList)
    | _ => none
  | .panic x => some (.panic x)
  | _ => none

def opds (o : Oper) : List Operand := o.op.operands.toList

def closedAll (k : MK) : Bool := match k with
  | .alloc z _ => z.all closed
  | .build z _ => z.all closed
  | .buildSl _ _ _ z _ => z.all closed
  | .makeSl _ _ z _ _ => z.all closed
  | _ => true

def cOp (o : Oper) : Option MK := if (opds o).all okOpd then (match cOp0 P o with
  | some k => if closedAll k then some k else none
  | none => none) else none

def guardOf (ops : Array Oper) (o : Oper) : Option (Option (Nat × Bool)) := match o.guard with
  | none => some none
  | some (j, want) => match (ops[j]?).bind (·.dst) with
    | some d => some (some (d, want))
    | none => none

/-- Kinds and guards of a region's operations. -/
def cKinds (ops : Array Oper) : List Oper → Option (List (MK × Option (Nat × Bool)))
  | [] => some []
  | o :: os => match cOp P o, guardOf ops o, cKinds ops os with
    | some k, some g, some l => some ((k, g) :: l)
    | _, _, _ => none

def plainMOs : List Oper → List (MK × Option (Nat × Bool)) → Nat → List MO
  | o :: os, (k, g) :: ks, i => { dst := o.dst, guard := g, k := k, at_ := i, re := [], tight := true } :: plainMOs os ks (i + 1)
  | _, _, _ => []
end

/-! a region that draws its order -/
def osl : Operand → List Nat
  | .tmp n => [n]
  | _ => []

def osls (xs : List Operand) : List Nat := xs.flatMap osl
def oslo (x : Option Operand) : List Nat := match x with
  | some x => osl x
  | none => []
def oslp (ps : List (Nat × Nat × Operand)) : List Nat := ps.flatMap fun p => osl p.2.2

/-- The slots that an operation reads. -/
def ksl : MK → List Nat
  | .mv x | .nilCheck x | .un _ x | .conv _ x | .convF _ x | .same x | .field _ _ _ x | .fieldAddr _ x | .extract x _ | .iface _ x | .assertT _ _ x | .len _ x | .cap x
  | .load _ _ x | .lenMap x | .entry x | .toStr x | .box _ x | .toBytes _ x | .rangeStr x | .rangeMap x | .nextStr x | .nextMap x | .clearMap x | .panic x => osl x
  | .bin _ x y | .eq _ _ x y | .idxArr _ _ _ x y | .idxStr x y | .adArr _ _ x y | .adSl _ x y | .mm _ x y | .lookup _ _ _ x y | .makeSl _ _ _ x y | .store _ x y | .mapEntry _ _ x y
  | .append _ _ _ x y | .copy _ x y | .delete _ x y => osl x ++ osl y
  | .pick x y z | .mapSet _ x y z | .entrySet x y z => osl x ++ osl y ++ osl z
  | .slStr x lo hi => osl x ++ oslo lo ++ oslo hi
  | .slSl _ x lo hi mx | .slArr _ _ x lo hi mx => osl x ++ oslo lo ++ oslo hi ++ oslo mx
  | .build _ ps | .buildSl _ _ _ _ ps => oslp ps
  | .func _ a b => osls a ++ osls b
  | .call f xs | .defer f xs | .invoke f _ xs => osl f ++ osls xs
  | .lenC _ | .alloc _ _ | .makeMap | .recover => []

/-- The slots that an operation and its guard read. -/
def slotsK (kg : MK × Option (Nat × Bool)) : List Nat := ksl kg.1 ++ (match kg.2 with
  | some (n, _) => [n]
  | none => [])

def actor (k : MK) : Bool := match cls k with
  | .w | .c => true
  | _ => false

def holder (k : MK) : Bool := match cls k with
  | .r | .a => true
  | _ => false

def ready (anc : List Nat) (n done : Nat) : List Nat :=
  (List.range n).filter fun i => !done.testBit i && Nat.beq ((nth anc i).getD 0 &&& done) ((nth anc i).getD 0)

def orderF (anc : List Nat) (act : List Bool) (n : Nat) : Nat → Nat → List Nat
  | 0, _ => []
  | f + 1, done =>
    let rs := ready anc n done
    match (match rs.find? (fun i => !((nth act i).getD true)) with | some i => some i | none => rs.head?) with
    | some i => i :: orderF anc act n f (done ||| 2 ^ i)
    | none => []

def directs (o : Oper) : List Nat := (o.after.toList.filter (Region.binds .any ·)).map (·.on)

def ancOf (anc : List Nat) (i : Nat) : Nat := (nth anc i).getD 0

def dstOf (ops : Array Oper) (i : Nat) : Option Nat := (ops[i]?).bind (·.dst)

/-- What must be looked at again behind an operation. -/
def reOf (ks : List (MK × Option (Nat × Bool))) (a : Nat) (pre : List Nat) : List (Bool × Option Nat × Option (Nat × Bool) × Nat × MK) :=
  (pre.reverse.filter fun j => !a.testBit j).filterMap fun j => match nth ks j with
    | some (kj, gj) => if holder kj then some (cls kj == .a, none, gj, j, kj) else none
    | none => none

/-- Nothing that has come up has written what a pending operation reads. -/
def okPend (ops : Array Oper) (ks : List (MK × Option (Nat × Bool))) (anc : List Nat) (a : Nat) (pre : List Nat) : Bool :=
  pre.all fun i => a.testBit i || (match nth ks i with
    | some kg => !holder kg.1 || pre.all (fun j => (ancOf anc i).testBit j || (match dstOf ops j with
      | some n => !(slotsK kg).contains n
      | none => true))
    | none => false)

/-- The checks on an order: 'pre' has come up. -/
def okOrder (ops : Array Oper) (ks : List (MK × Option (Nat × Bool))) (anc : List Nat) : List Nat → List Nat → Bool
  | _, [] => true
  | pre, i :: rest =>
    (match ops[i]?, nth ks i with
      | some o, some (k, _) =>
        !pre.contains i &&
        (directs o).all pre.contains &&
        pre.all (fun j => (match nth ks j with | some (kj, _) => !actor kj | none => false) || (ancOf anc i).testBit j) &&
        (!actor k || okPend ops ks anc (ancOf anc i) pre)
      | _, _ => false) && okOrder ops ks anc (i :: pre) rest

def okAnc (ops : Array Oper) (anc : List Nat) : Bool :=
  ops.toList.zipIdx.all fun (o, i) => (List.range ops.size).all fun j =>
    !(ancOf anc i).testBit j || (directs o).any fun e => e == j || (ancOf anc e).testBit j

def okSlots (ops : Array Oper) (ks : List (MK × Option (Nat × Bool))) (anc : List Nat) : Bool :=
  (List.range ops.size).all fun i => match dstOf ops i with
    | none => true
    | some d => (List.range ops.size).all fun j => i == j ||
      (dstOf ops j != some d && (match nth ks j with
        | some kg => !(slotsK kg).contains d || (ancOf anc j).testBit i || (ancOf anc i).testBit j
        | none => false))

/-- No predecessor beyond the region, and none of an operation itself. -/
def okBits (ops : Array Oper) (anc : List Nat) : Bool :=
  (List.range ops.size).all fun i => decide (ancOf anc i < 2 ^ ops.size)

def drawMOs (ops : Array Oper) (ks : List (MK × Option (Nat × Bool))) (anc : List Nat) : List Nat → List Nat → List MO
  | _, [] => []
  | pre, i :: rest =>
    match nth ks i with
    | some (k, g) =>
      { dst := dstOf ops i, guard := g, k := k, at_ := i, re := if actor k then reOf ks (ancOf anc i) pre else [], tight := pre.all fun j => (ancOf anc i).testBit j } ::
        drawMOs ops ks anc (i :: pre) rest
    | none => []

section
variable (P : Program)
def cRegion (ops : Array Oper) (draw : Bool) : Option MC :=
  match cKinds P ops ops.toList with
  | none => none
  | some ks =>
    if draw then
      let anc := (Region.before ops).toList
      let order := orderF anc (ks.map fun x => actor x.1) ops.size ops.size 0
      if Nat.beq order.length ops.size && okOrder ops ks anc [] order && okAnc ops anc && okSlots ops ks anc && okBits ops anc && (List.range ops.size).all order.contains then
        some (.region ops.size (drawMOs ops ks anc [] order))
      else none
    else some (.region ops.size (plainMOs ops.toList ks 0))

def cCode : Code → Option MC
  | .skip => some .skip
  | .label _ => some .skip
  | .region _ ops draw => cRegion P ops draw
  | .seq a b => match cCode a, cCode b with
    | some x, some y => some (.seq x y)
    | _, _ => none
  | .cond c a b => if okOpd c then (match cCode a, cCode b with
    | some x, some y => some (.cond c x y)
    | _, _ => none) else none
  | .block id a => match cCode a with
    | some x => some (.block id x)
    | none => none
  | .loop a => match cCode a with
    | some x => some (.loop x)
    | none => none
  | .scope a => cCode a
  | .exit id => some (.exit id)
  | .ret => some .ret
  | .rangeFunc f ps a b => if okOpd f then (match cCode a, cCode b with
    | some x, some y => some (.rangeF f ps.toList x y)
    | _, _ => none) else none
  | _ => none

def cResults : List ResultVar → Option (List (Nat × Option (Nat × Bool)))
  | [] => some []
  | .tmp t :: rs => match cResults rs with
    | some l => some ((t, none) :: l)
    | none => none
  | .cell a t :: rs => match shapeT P t, cResults rs with
    | some (n, g), some l => some ((a, some (n, g)) :: l)
    | _, _ => none

def cFn (f : Func) : Option MFn :=
  if f.name == "runtime.NumGoroutine" then none else
  match f.body with
  | none => none
  | some c => match cCode P c, cResults P f.results.toList with
    | some m, some rs => some { ntmps := f.ntmps, results := rs, code := m }
    | _, _ => none
end
end Ev

/- The relation between abstract values, blocks, states and the model's own. -/
namespace Ev
open Go

/-- Of an abstract block's number: the real block's, and how many cells it has. -/
abbrev Rho := Nat → Option (Nat × Nat)

inductive L2 {α β : Type} (R : α → β → Prop) : List α → List β → Prop where
  | nil : L2 R [] []
  | cons {a : α} {b : β} {l : List α} {m : List β} : R a b → L2 R l m → L2 R (a :: l) (b :: m)

/-- Values that may stand behind one of which nothing is known. -/
def topOk : Value → Bool
  | .agg _ | .tuple _ | .bool _ => false
  | _ => true

mutual
inductive VR (ρ : Rho) : Value → Value → Prop where
  | top {v' : Value} (h : topOk v' = true) : VR ρ (.chan none) v'
  | bool (b : Bool) : VR ρ (.bool b) (.bool b)
  | int (k : IntKind) (n : Int) : VR ρ (.int k n) (.int k n)
  | float (k : FloatKind) (b : Nat) : VR ρ (.float k b) (.float k b)
  | string (s : ByteArray) : VR ρ (.string s) (.string s)
  | ptrN : VR ρ (.pointer none) (.pointer none)
  | ptr {b o b' r : Nat} {sp : Option Nat} (h : ρ b = some (b', r)) : VR ρ (.pointer (some ⟨b, o, sp⟩)) (.pointer (some ⟨b', o, none⟩))
  | sliceN (n c : Nat) (h : c < unk) : VR ρ (.slice none n c) (.slice none n c)
  | slice {b o b' r n c : Nat} {sp : Option Nat} (h : ρ b = some (b', r)) (hc : c < unk) : VR ρ (.slice (some ⟨b, o, sp⟩) n c) (.slice (some ⟨b', o, none⟩) n c)
  | sliceU {b o b' r n c e : Nat} {sp : Option Nat} (h : ρ b = some (b', r)) (hc : n ≤ c) (hr : o + c * e ≤ r) (he : 0 < e) :
      VR ρ (.slice (some ⟨b, o, sp⟩) n (unk + e)) (.slice (some ⟨b', o, none⟩) n c)
  | sliceE (a : Option Addr) (c : Nat) : VR ρ (.slice none 0 emp) (.slice a 0 c)
  | mapN : VR ρ (.map none) (.map none)
  | map {m m' r : Nat} (h : ρ m = some (m', r)) : VR ρ (.map (some m)) (.map (some m'))
  | func (f : FuncId) {a a' c c' : Array Value} (ha : VRL ρ a.toList a'.toList) (hc : VRL ρ c.toList c'.toList) : VR ρ (.func (.func f) a c) (.func (.func f) a' c')
  | yield {l l' r : Nat} (h : ρ l = some (l', r)) {a a' c c' : Array Value} (ha : VRL ρ a.toList a'.toList) (hc : VRL ρ c.toList c'.toList) :
      VR ρ (.func (.yield l) a c) (.func (.yield l') a' c')
  | nilFunc : VR ρ .nilFunc .nilFunc
  | nilIface : VR ρ .nilIface .nilIface
  | iface (t : TypeId) {v v' : Value} (h : VR ρ v v') : VR ρ (.iface t v) (.iface t v')
  | agg {a a' : Array Value} (h : VRL ρ a.toList a'.toList) : VR ρ (.agg a) (.agg a')
  | tuple {a a' : Array Value} (h : VRL ρ a.toList a'.toList) : VR ρ (.tuple a) (.tuple a')
inductive VRL (ρ : Rho) : List Value → List Value → Prop where
  | nil : VRL ρ [] []
  | cons {v v' : Value} {l l' : List Value} (h : VR ρ v v') (t : VRL ρ l l') : VRL ρ (v :: l) (v' :: l')
end

def Sub (ρ ρ' : Rho) : Prop := ∀ i x, ρ i = some x → ρ' i = some x

theorem Sub.refl (ρ : Rho) : Sub ρ ρ := fun _ _ h => h
theorem Sub.trans {ρ ρ' ρ'' : Rho} (h : Sub ρ ρ') (h' : Sub ρ' ρ'') : Sub ρ ρ'' := fun i x hx => h' i x (h i x hx)

mutual
theorem VR.mono {ρ ρ' : Rho} (hs : Sub ρ ρ') {v v' : Value} : VR ρ v v' → VR ρ' v v'
  | .top h => .top h
  | .bool b => .bool b
  | .int k n => .int k n
  | .float k b => .float k b
  | .string s => .string s
  | .ptrN => .ptrN
  | .ptr h => .ptr (hs _ _ h)
  | .sliceN n c h => .sliceN n c h
  | .slice h hc => .slice (hs _ _ h) hc
  | .sliceU h hc hr he => .sliceU (hs _ _ h) hc hr he
  | .sliceE a c => .sliceE a c
  | .mapN => .mapN
  | .map h => .map (hs _ _ h)
  | .func f ha hc => .func f (VRL.mono hs ha) (VRL.mono hs hc)
  | .yield h ha hc => .yield (hs _ _ h) (VRL.mono hs ha) (VRL.mono hs hc)
  | .nilFunc => .nilFunc
  | .nilIface => .nilIface
  | .iface t h => .iface t (VR.mono hs h)
  | .agg h => .agg (VRL.mono hs h)
  | .tuple h => .tuple (VRL.mono hs h)
theorem VRL.mono {ρ ρ' : Rho} (hs : Sub ρ ρ') {l l' : List Value} : VRL ρ l l' → VRL ρ' l l'
  | .nil => .nil
  | .cons h t => .cons (VR.mono hs h) (VRL.mono hs t)
end

section
variable {ρ : Rho}
theorem VRL.length {l l' : List Value} (h : VRL ρ l l') : l.length = l'.length := by
  induction l generalizing l' with
  | nil => cases h; rfl
  | cons a l ih => cases h with | cons h t => simp [ih t]

theorem VRL.nth {l l' : List Value} (h : VRL ρ l l') {i : Nat} {v : Value} (hv : Ev.nth l i = some v) : ∃ v', l'[i]? = some v' ∧ VR ρ v v' := by
  induction l generalizing l' i with
  | nil => simp [Ev.nth] at hv
  | cons a l ih =>
    cases h with
    | cons h t =>
      cases i with
      | zero => simp [Ev.nth] at hv; subst hv; exact ⟨_, rfl, h⟩
      | succ i => simp only [Ev.nth] at hv; obtain ⟨v', h1, h2⟩ := ih t hv; exact ⟨v', by simpa using h1, h2⟩

theorem VRL.append {l l' m m' : List Value} (h : VRL ρ l l') (h' : VRL ρ m m') : VRL ρ (l ++ m) (l' ++ m') := by
  induction l generalizing l' with
  | nil => cases h; exact h'
  | cons a l ih => cases h with | cons h t => exact .cons h (ih t)

theorem VRL.upd {l l' : List Value} (h : VRL ρ l l') (i : Nat) {v v' : Value} (hv : VR ρ v v') : VRL ρ (Ev.upd l i v) (l'.set i v') := by
  induction l generalizing l' i with
  | nil => cases h; simpa [Ev.upd] using VRL.nil
  | cons a l ih =>
    cases h with
    | cons h t =>
      cases i with
      | zero => exact .cons hv t
      | succ i => exact .cons h (ih t i)

theorem VRL.replicate (n : Nat) {v v' : Value} (h : VR ρ v v') : VRL ρ (List.replicate n v) (List.replicate n v') := by
  induction n with
  | zero => exact .nil
  | succ n ih => exact .cons h ih

theorem VRL.of_nth {l l' : List Value} (hl : l.length = l'.length) (h : ∀ i v, Ev.nth l i = some v → ∃ v', l'[i]? = some v' ∧ VR ρ v v') : VRL ρ l l' := by
  induction l generalizing l' with
  | nil => cases l' with | nil => exact .nil | cons _ _ => simp at hl
  | cons a l ih =>
    cases l' with
    | nil => simp at hl
    | cons a' l' =>
      obtain ⟨v', h1, h2⟩ := h 0 a rfl
      simp at h1; subst h1
      exact .cons h2 (ih (by simpa using hl) fun i v hv => by simpa using h (i + 1) v hv)

theorem nth_eq {α : Type} (l : List α) (i : Nat) : Ev.nth l i = l[i]? := by
  induction l generalizing i with
  | nil => rfl
  | cons a l ih => cases i with | zero => rfl | succ i => simpa [Ev.nth] using ih i

theorem upd_eq {α : Type} (l : List α) (i : Nat) (v : α) : Ev.upd l i v = l.set i v := by
  induction l generalizing i with
  | nil => rfl
  | cons a l ih => cases i with | zero => rfl | succ i => simp [Ev.upd, ih]

theorem closedF_VR : ∀ (n : Nat) (v : Value), closedF n v = true → VR ρ v v := by
  intro n
  induction n with
  | zero => intro v h; simp [closedF] at h
  | succ n ih =>
    have hl : ∀ l : List Value, l.all (closedF n) = true → VRL ρ l l := by
      intro l h
      induction l with
      | nil => exact .nil
      | cons a l ihl => simp only [List.all_cons, Bool.and_eq_true] at h; exact .cons (ih a h.1) (ihl h.2)
    intro v h
    cases v with
    | bool b => exact .bool b
    | int k n => exact .int k n
    | float k b => exact .float k b
    | string s => exact .string s
    | pointer a => cases a with | none => exact .ptrN | some a => simp [closedF] at h
    | slice a m c => cases a with
      | none => simp only [closedF] at h; exact .sliceN m c (by simpa [Nat.blt_eq] using h)
      | some a => simp [closedF] at h
    | map r => cases r with | none => exact .mapN | some r => simp [closedF] at h
    | chan r => simp [closedF] at h
    | complex k a b => simp [closedF] at h
    | func fn a b =>
      cases fn <;> simp [closedF] at h
      exact .func _ (hl _ (by simpa using h.1)) (hl _ (by simpa using h.2))
    | nilFunc => exact .nilFunc
    | nilIface => exact .nilIface
    | iface t v => exact .iface t (ih v h)
    | agg cs => exact .agg (hl _ h)
    | tuple cs => exact .tuple (hl _ h)

theorem closed_VR {v : Value} (h : closed v = true) : VR ρ v v := closedF_VR 6 v h
theorem closed_VRL : ∀ {l : List Value}, l.all closed = true → VRL ρ l l
  | [], _ => .nil
  | a :: l, h => by simp only [List.all_cons, Bool.and_eq_true] at h; exact .cons (closed_VR h.1) (closed_VRL h.2)
end

/-! blocks -/
def PR (ρ : Rho) (x : Value × Bool) (y : PanicEntry) : Prop := VR ρ x.1 y.v ∧ y.recovered = x.2 ∧ y.goexit = false

inductive MR (ρ : Rho) : AMode → FrameMode → Prop where
  | ret : MR ρ .ret .returning
  | pan {ch : Chain} {ch' : List PanicEntry} (h : L2 (PR ρ) ch ch') : MR ρ (.pan ch) (.panicking ch')

/-- Where a round of a loop over a function wants to go. -/
inductive JR : Option Ex → Option Code → Prop where
  | none : JR none none
  | exit (id : Nat) : JR (some (.exit id)) (some (.exit id))
  | ret : JR (some .ret) (some .ret)

def ER (ρ : Rho) (e e' : MapEntry) : Prop := VR ρ e.key e'.key ∧ VR ρ e.val e'.val ∧ e'.born = e.born

inductive OR (P : Program) (ρ : Rho) (r : Nat) : AObj → Obj → Prop where
  | cells {c : List Value} {c' : Array Value} {t : TypeId} {lo hi : Nat} {f : Nat × Nat} (hr : r = c'.size) (hl : c.length ≤ c'.size)
      (hv : ∀ i v, nth c i = some v → ∃ v', c'[i]? = some v' ∧ VR ρ v v') (hf : ∀ i, f.1 ≤ i → i < f.2 → i < c'.size → lo ≤ i ∧ i < hi) :
      OR P ρ r (.cells c t lo hi) (.cells c' t f)
  | map {es : List MapEntry} {es' : Array MapEntry} {clock : Nat} (h : L2 (ER ρ) es es'.toList) : OR P ρ r (.map es clock) (.map es' clock)
  | strIter (s : ByteArray) (pos : Nat) : OR P ρ r (.strIter s pos) (.stringIter s pos)
  | mapIterN (a : Nat) (l : List Nat) (b : Nat) : OR P ρ r (.mapIter none a l b) (.mapIter none a l.toArray b)
  | mapIter {m m' x : Nat} (h : ρ m = some (m', x)) (a : Nat) (l : List Nat) (b : Nat) : OR P ρ r (.mapIter (some m) a l b) (.mapIter (some m') a l.toArray b)
  | loop {st : LoopState} {pend : Option Ex} {t : List Value} {ps : List Nat} {asg body : MC} {d d' x : Nat} {pend' : Option Code} {fn : FuncId}
      {g : Func} {t' : Array Value} {ps' : Array Tmp} {asg' body' : Code} (hj : JR pend pend') (ht : VRL ρ t t'.toList) (hp : ps'.toList = ps)
      (ha : cCode P asg' = some asg) (hb : cCode P body' = some body) (hd : ρ d = some (d', x)) (hg : P.funcs[fn]? = some g) :
      OR P ρ r (.loop st pend t ps asg body d) (.loop { state := st, pending := pend', fn := fn, tmps := t', params := ps', assign := asg', body := body', defers := d' })
  | dfrO : OR P ρ r (.dfr true) (.deferred (some []))
  | dfrC : OR P ρ r (.dfr false) (.deferred none)

theorem L2.mono {α β : Type} {R R' : α → β → Prop} (h : ∀ a b, R a b → R' a b) {l : List α} {m : List β} (hl : L2 R l m) : L2 R' l m := by
  induction hl with
  | nil => exact .nil
  | cons a _ ih => exact .cons (h _ _ a) ih

theorem PR.mono {ρ ρ' : Rho} (hs : Sub ρ ρ') {x : Value × Bool} {y : PanicEntry} (h : PR ρ x y) : PR ρ' x y := ⟨h.1.mono hs, h.2⟩
theorem MR.mono {ρ ρ' : Rho} (hs : Sub ρ ρ') {x : AMode} {y : FrameMode} (h : MR ρ x y) : MR ρ' x y := by
  cases h with
  | ret => exact .ret
  | pan h => exact .pan (h.mono fun _ _ h => h.mono hs)
theorem ER.mono {ρ ρ' : Rho} (hs : Sub ρ ρ') {x y : MapEntry} (h : ER ρ x y) : ER ρ' x y := ⟨h.1.mono hs, h.2.1.mono hs, h.2.2⟩

theorem OR.mono {P : Program} {ρ ρ' : Rho} (hs : Sub ρ ρ') {r : Nat} {o : AObj} {o' : Obj} (h : OR P ρ r o o') : OR P ρ' r o o' := by
  cases h with
  | cells hr hl hv hf => exact .cells hr hl (fun i v h => let ⟨v', h1, h2⟩ := hv i v h; ⟨v', h1, h2.mono hs⟩) hf
  | map h => exact .map (h.mono fun _ _ h => h.mono hs)
  | strIter s pos => exact .strIter s pos
  | mapIterN a l b => exact .mapIterN a l b
  | mapIter h a l b => exact .mapIter (hs _ _ h) a l b
  | loop hj ht hp ha hb hd hg => exact .loop hj (ht.mono hs) hp ha hb (hs _ _ hd) hg
  | dfrO => exact .dfrO
  | dfrC => exact .dfrC

/-! states -/
structure Rel (P : Program) (ρ : Rho) (s : S) (w : World) : Prop where
  obj : ∀ i o b r, s.h.get i = some o → ρ i = some (b, r) → ∃ o', w.heap[b]? = some o' ∧ OR P ρ r o o'
  inj : ∀ i j o o' b r r', s.h.get i = some o → s.h.get j = some o' → ρ i = some (b, r) → ρ j = some (b, r') → i = j
  fresh : ∀ i, s.c ≤ i → ρ i = none
  blk : ∀ i b r, ρ i = some (b, r) → b < w.heap.size
  wf : ∀ i, s.c ≤ i → s.h.get i = none

/-- Cells keep their type, their frozen range and their number; nothing is frozen anew. -/
structure Keep (w w' : World) : Prop where
  cells : ∀ (b : Nat) (c : Array Value) (t : TypeId) (f : Nat × Nat), w.heap[b]? = some (.cells c t f) → ∃ c', w'.heap[b]? = some (.cells c' t f) ∧ c'.size = c.size
  size : w.heap.size ≤ w'.heap.size
  fz : ∀ a, a.block < w.heap.size → w'.frozen? a = w.frozen? a

theorem Keep.refl (w : World) : Keep w w := ⟨fun b c t f h => ⟨c, h, rfl⟩, Nat.le_refl _, fun _ _ => rfl⟩
theorem Keep.trans {w w1 w2 : World} (h : Keep w w1) (h' : Keep w1 w2) : Keep w w2 :=
  ⟨fun b c t f e => by
    obtain ⟨c1, h1, h2⟩ := h.cells b c t f e
    obtain ⟨c2, h3, h4⟩ := h'.cells b c1 t f h1
    exact ⟨c2, h3, h4.trans h2⟩, Nat.le_trans h.size h'.size, fun a ha => (h'.fz a (Nat.lt_of_lt_of_le ha h.size)).trans (h.fz a ha)⟩
theorem Keep.heap {w w' : World} (h : w'.heap = w.heap) : Keep w w' :=
  ⟨fun b c t f e => ⟨c, by rw [h]; exact e, rfl⟩, by rw [h]; exact Nat.le_refl _, fun a _ => by simp only [World.frozen?, h]⟩

/-- From one state to a later one: nothing else has changed; what is new has a number of 'N', or one that was not given out yet. -/
structure Ext (N : Nat → Prop) (ρ : Rho) (s : S) (w : World) (ρ' : Rho) (s' : S) (w' : World) : Prop where
  sub : Sub ρ ρ'
  new : ∀ i, ρ i = none → ρ' i ≠ none → (N i ∨ s.c ≤ i) ∧ i < s'.c
  dead : ∀ i, i < s.c → ¬ N i → s.h.get i = none → s'.h.get i = none
  cle : s.c ≤ s'.c
  size : w.heap.size ≤ w'.heap.size
  frame : ∀ b, b < w.heap.size → (∀ i o r, s.h.get i = some o → ρ i = some (b, r) → o.ro = true) → w'.heap[b]? = w.heap[b]?
  img : ∀ i o b r, s'.h.get i = some o → ρ' i = some (b, r) → b < w.heap.size → ∃ j o' r', s.h.get j = some o' ∧ ρ j = some (b, r') ∧ (o'.ro = true → o.ro = true)
  tape : w'.tape = w.tape
  os : w'.os = w.os
  output : w'.output = w.output
  keep : Keep w w'

def No : Nat → Prop := fun _ => False

theorem Ext.refl (N : Nat → Prop) (ρ : Rho) (s : S) (w : World) : Ext N ρ s w ρ s w where
  sub := Sub.refl ρ
  new := fun _ h h' => absurd h h'
  dead := fun _ _ _ h => h
  cle := Nat.le_refl _
  size := Nat.le_refl _
  frame := fun _ _ _ => rfl
  img := fun i o b r h h' _ => ⟨i, o, r, h, h', id⟩
  tape := rfl
  os := rfl
  output := rfl
  keep := Keep.refl w

theorem Ext.trans {N N' : Nat → Prop} {ρ ρ' ρ'' : Rho} {s s' s'' : S} {w w' w'' : World} (h : Ext N ρ s w ρ' s' w') (h' : Ext N' ρ' s' w' ρ'' s'' w'')
    (hl : ∀ i, N' i → N i ∨ s.c ≤ i) : Ext N ρ s w ρ'' s'' w'' where
  sub := h.sub.trans h'.sub
  new := fun i h0 h2 => by
    cases h1 : ρ' i with
    | none =>
      have := h'.new i h1 h2
      exact ⟨this.1.elim (hl i) (fun h3 => .inr (Nat.le_trans h.cle h3)), this.2⟩
    | some x => have := h.new i h0 (by simp [h1]); exact ⟨this.1, by have := h'.cle; omega⟩
  dead := fun i h1 h2 h3 => h'.dead i (Nat.lt_of_lt_of_le h1 h.cle) (fun h4 => (hl i h4).elim h2 (fun h5 => absurd h1 (by omega))) (h.dead i h1 h2 h3)
  cle := Nat.le_trans h.cle h'.cle
  size := Nat.le_trans h.size h'.size
  frame := fun b hb hn => by
    rw [h'.frame b (Nat.lt_of_lt_of_le hb h.size) fun i o r ho hr => ?_, h.frame b hb hn]
    obtain ⟨j, o', r', hj, hr', hq⟩ := h.img i o b r ho hr hb
    exact hq (hn j o' r' hj hr')
  img := fun i o b r ho hr hb => by
    obtain ⟨j, o', r', hj, hr', hq⟩ := h'.img i o b r ho hr (Nat.lt_of_lt_of_le hb h.size)
    obtain ⟨j2, o2, r2, hj2, hr2, hq2⟩ := h.img j o' b r' hj hr' hb
    exact ⟨j2, o2, r2, hj2, hr2, fun h => hq (hq2 h)⟩
  tape := h'.tape.trans h.tape
  os := h'.os.trans h.os
  output := h'.output.trans h.output
  keep := h.keep.trans h'.keep
end Ev

/- Soundness of the operations that touch no memory. -/
namespace Ev
open Go

section runs
variable {P : Program} {w : World}
theorem run_pure {α : Type} (a : α) : (pure a : Sem α).run P w = .ok a w := rfl
theorem run_pure' {α : Type} (a : α) : (Sem.pure a : Sem α).run P w = .ok a w := rfl
theorem run_bind {α β : Type} (x : Sem α) (f : α → Sem β) : (x >>= f).run P w = match x.run P w with
    | .ok a w' => (f a).run P w'
    | .halt h w' => .halt h w' := by
  show (Sem.bind x f).run P w = _
  induction x generalizing w with
  | pure a => rfl
  | load m a k ih => simp only [Sem.bind, Sem.run]; (repeat' split) <;> simp_all
  | store m a v k ih =>
    cases v <;> simp only [Sem.bind, Sem.run] <;> first
      | rfl
      | ((repeat' split) <;> simp_all)
  | new o k ih => simp only [Sem.bind, Sem.run]; exact ih _
  | shape r k ih => simp only [Sem.bind, Sem.run]; exact ih _
  | freeze a n k ih => simp only [Sem.bind, Sem.run]; exact ih
  | frozen a k ih => simp only [Sem.bind, Sem.run]; exact ih _
  | getObj r k ih => simp only [Sem.bind, Sem.run]; split <;> first | rfl | exact ih _
  | setObj r o k ih => simp only [Sem.bind, Sem.run]; split <;> first | rfl | exact ih
  | choose q k ih => simp only [Sem.bind, Sem.run]; split <;> exact ih _
  | sys c k ih => simp only [Sem.bind, Sem.run]; exact ih _
  | program k ih => simp only [Sem.bind, Sem.run]; exact ih _
  | mark m k ih => simp only [Sem.bind, Sem.run]; exact ih
  | halt h => rfl

theorem run_bind_ok {α β : Type} {x : Sem α} {f : α → Sem β} {a : α} {w' : World} (h : x.run P w = .ok a w') : (x >>= f).run P w = (f a).run P w' := by
  rw [run_bind, h]

theorem run_under {t : TypeId} {d : TypeDesc} (h : P.underlying t = some d) : (underlying t).run P w = .ok d w := by
  simp [underlying, program, run_bind, Sem.run, h, run_pure]
theorem run_info {t : TypeId} {i : TypeInfo} (h : P.info? t = some i) : (typeInfo t).run P w = .ok i w := by
  simp [typeInfo, program, run_bind, Sem.run, h, run_pure]
theorem run_size {t : TypeId} {n : Nat} (h : sizeT P t = some n) : (Go.sizeOf t).run P w = .ok n w := by
  unfold sizeT at h
  cases hi : P.info? t with
  | none => simp [hi] at h
  | some i => simp [hi] at h; simp [Go.sizeOf, run_bind, run_info hi, run_pure, h]
theorem run_zero {t : TypeId} {z : Value} (h : zeroT P t = some z) : (zeroValue t).run P w = .ok z w := by
  unfold zeroT at h
  cases hi : P.info? t with
  | none => simp [hi] at h
  | some i => simp [hi] at h; simp [zeroValue, run_bind, run_info hi, run_pure, h]
theorem run_isAgg {t : TypeId} {b : Bool} (h : aggT P t = some b) : (isAgg t).run P w = .ok b w := by
  unfold aggT at h
  cases hu : P.underlying t with
  | none => simp [hu] at h
  | some d => simp only [isAgg, run_bind, run_under hu]; cases d <;> simp_all [run_pure]
theorem shapeT_some {t : TypeId} {n : Nat} {g : Bool} (h : shapeT P t = some (n, g)) : aggT P t = some g ∧ sizeT P t = some n ∧ (g = false → n = 1) := by
  unfold shapeT at h
  split at h <;> simp_all
end runs

section
variable {P : Program} {ρ : Rho} {t : List Value} {a : Act} {w : World} (hT : VRL ρ t a.tmps.toList)
include hT

theorem eval_sound {x : Operand} {v : Value} (hx : okOpd x = true) (h : eval t x = some v) : VR ρ v (a.eval x) := by
  cases x with
  | tmp n =>
    obtain ⟨v', h1, h2⟩ := hT.nth h
    have : a.tmps.getD n undef = v' := by
      have h1' : a.tmps[n]? = some v' := by simpa using h1
      simp [h1']
    simp only [Act.eval]; rw [this]; exact h2
  | const c => simp only [eval, Option.some.injEq] at h; subst h; exact closed_VR hx
  | global g => simp [eval] at h
  | func f => simp only [eval, Option.some.injEq] at h; subst h; exact .func f .nil .nil

theorem evals_sound {xs : List Operand} {vs : List Value} (hx : xs.all okOpd = true) (h : evals t xs = some vs) : VRL ρ vs (xs.map a.eval) := by
  induction xs generalizing vs with
  | nil => simp [evals] at h; subst h; exact .nil
  | cons x xs ih =>
    simp only [List.all_cons, Bool.and_eq_true] at hx
    simp only [evals] at h
    split at h <;> first | simp at h; done | skip
    rename_i v hv
    split at h <;> first | simp at h; done | skip
    rename_i vs' hvs
    simp only [Option.some.injEq] at h; subst h
    exact .cons (eval_sound hT hx.1 hv) (ih hx.2 hvs)

theorem evalO_sound {x : Option Operand} {v : Option Value} (hx : ∀ y, x = some y → okOpd y = true) (h : evalO t x = some v) :
    match v with
    | none => x = none
    | some v => ∃ y, x = some y ∧ VR ρ v (a.eval y) := by
  cases x with
  | none => simp [evalO] at h; subst h; rfl
  | some y =>
    simp only [evalO] at h
    split at h <;> first | simp at h; done | skip
    rename_i v' hv
    simp only [Option.some.injEq] at h; subst h
    exact ⟨y, rfl, eval_sound hT (hx y rfl) hv⟩
end

/-! values -/
theorem pv_run {P : Program} {w : World} {s : Sem Value} {v : Value} (h : pv s = some v) : s.run P w = .ok v w := by
  cases s <;> simp [pv] at h
  subst h; rfl

/-- A value with no number of a block in it. -/
def Plain : Value → Prop
  | .bool _ | .int _ _ | .float _ _ | .string _ => True
  | _ => False

theorem intBin_run {P : Program} {w : World} {op : BinOp} {k k' : IntKind} {x y : Int} {v : Value} (t : TypeId) (h : intBin op k x k' y = some v) :
    (binOp op t (.int k x) (.int k' y)).run P w = .ok v w ∧ Plain v := by
  cases op <;> simp only [intBin] at h
  case shl =>
    have h0 := h
    simp only [Op.shift] at h
    split at h
    · simp [runtimePanic, pv, bind, Sem.bind, program] at h
    · simp [pv, pure] at h; subst h
      exact ⟨pv_run (s := Op.shift .shl k x k' y) h0, trivial⟩
  case shr =>
    have h0 := h
    simp only [Op.shift] at h
    split at h
    · simp [runtimePanic, pv, bind, Sem.bind, program] at h
    · simp [pv, pure] at h; subst h
      exact ⟨pv_run (s := Op.shift .shr k x k' y) h0, trivial⟩
  all_goals
    split at h <;> first | simp at h; done | skip
    rename_i hk
    subst hk
  case quo =>
    split at h <;> first | simp at h; done | skip
    rename_i h0
    simp only [Option.some.injEq] at h; subst h
    simp [binOp, Op.intDiv, h0, run_pure, Plain]
  case rem =>
    split at h <;> first | simp at h; done | skip
    rename_i h0
    simp only [Option.some.injEq] at h; subst h
    simp [binOp, Op.intDiv, h0, run_pure, Plain]
  all_goals
    first
      | (simp only [Option.some.injEq] at h; subst h; simp [binOp, Op.intArith, Op.intCmp, run_pure, Plain]; done)
      | (have h0 := h
         simp only [Op.intBits, pv, pure, Option.some.injEq] at h; subst h
         exact ⟨by simp only [binOp]; simpa using pv_run h0, trivial⟩)

theorem Plain.VR {ρ : Rho} {v : Value} (h : Plain v) : VR ρ v v := by
  cases v <;> simp [Plain] at h
  · exact .bool _
  · exact .int _ _
  · exact .float _ _
  · exact .string _

theorem strOp_plain {op : BinOp} {x y : ByteArray} {v : Value} (h : pv (Op.stringOp op x y) = some v) : Plain v := by
  cases op <;> simp only [Op.stringOp] at h <;> first
    | (simp [pv, stuck] at h; done)
    | (simp only [pv, pure, Option.some.injEq] at h; subst h; trivial)
    | (split at h <;> simp [pv, pure, unsupported] at h; subst h; trivial)

theorem binV_run {P : Program} {ρ : Rho} {w : World} {op : BinOp} {x y x' y' v : Value} (t : TypeId) (hx : VR ρ x x') (hy : VR ρ y y')
    (h : binV op x y = some v) : (binOp op t x' y').run P w = .ok v w ∧ Plain v ∧ Plain x' := by
  unfold binV at h
  split at h <;> first | simp at h; done | skip
  · cases hx; cases hy; exact ⟨(intBin_run t h).1, (intBin_run (P := P) (w := w) t h).2, trivial⟩
  · cases hx; cases hy
    refine ⟨?_, strOp_plain h, trivial⟩
    have := pv_run (P := P) (w := w) h
    cases op <;> simpa [binOp] using this
  · rename_i k b k' b'
    cases hx; cases hy
    split at h <;> first | simp at h; done | skip
    rename_i hc
    have h0 := pv_run (P := P) (w := w) h
    cases op <;> simp [cmpOp] at hc <;> simp only [binOp] at h h0 ⊢ <;> (split at h <;> first | (simp [pv, stuck] at h; done) | skip) <;>
      (rename_i hk; simp only [hk, if_false, not_true_eq_false] at h0 ⊢; simp only [Op.floatCmp, pv, pure, Option.some.injEq] at h; subst h; exact ⟨h0, trivial, trivial⟩)
end Ev

/- Soundness of the operations that touch no memory: parts, comparisons, slices, and all of them together. -/
namespace Ev
open Go

section
variable {ρ : Rho}

theorem cut_length {α : Type} : ∀ (n : Nat) (l : List α) (o : Nat) (m : List α), cut l o n = some m → m.length = n := by
  intro n
  induction n with
  | zero => intro l o m h; simp [cut] at h; subst h; rfl
  | succ n ih =>
    intro l o m h
    simp only [cut] at h
    split at h <;> first | simp at h; done | skip
    split at h <;> first | simp at h; done | skip
    rename_i h2
    simp only [Option.some.injEq] at h; subst h
    simp [ih _ _ _ h2]

theorem cut_nth {α : Type} : ∀ (n : Nat) (l : List α) (o : Nat) (m : List α), cut l o n = some m → ∀ i, i < n → m[i]? = l[o + i]? ∧ (l[o + i]?).isSome := by
  intro n
  induction n with
  | zero => intro l o m h i hi; omega
  | succ n ih =>
    intro l o m h i hi
    simp only [cut] at h
    split at h <;> first | simp at h; done | skip
    rename_i v h1
    split at h <;> first | simp at h; done | skip
    rename_i vs h2
    simp only [Option.some.injEq] at h; subst h
    rw [nth_eq] at h1
    cases i with
    | zero => simp [h1]
    | succ i => have := ih _ _ _ h2 i (by omega); rw [show o + (i + 1) = o + 1 + i from by omega]; simpa using this

/-- A piece of a list whose elements are related where the first list has any. -/
theorem cut_rel {c : List Value} {c' : Array Value} (hv : ∀ i v, nth c i = some v → ∃ v', c'[i]? = some v' ∧ VR ρ v v') :
    ∀ (n o : Nat) (m : List Value), cut c o n = some m → o + n ≤ c'.size ∧ VRL ρ m (c'.extract o (o + n)).toList ∨ n = 0 ∧ m = [] := by
  intro n
  induction n with
  | zero => intro o m h; simp [cut] at h; exact .inr ⟨rfl, h⟩
  | succ n ih =>
    intro o m h
    simp only [cut] at h
    split at h <;> first | simp at h; done | skip
    rename_i v h1
    split at h <;> first | simp at h; done | skip
    rename_i vs h2
    simp only [Option.some.injEq] at h; subst h
    obtain ⟨v', h3, h4⟩ := hv _ _ h1
    have hlt : o < c'.size := (Array.getElem?_eq_some_iff.1 h3).1
    have hge : c'[o] = v' := (Array.getElem?_eq_some_iff.1 h3).2
    left
    have hex : (c'.extract o (o + (n + 1))).toList = v' :: (c'.extract (o + 1) (o + 1 + n)).toList := by
      simp only [Array.toList_extract, List.extract_eq_take_drop]
      rw [show o + (n + 1) - o = n + 1 from by omega, show o + 1 + n - (o + 1) = n from by omega]
      rw [List.drop_eq_getElem_cons (by simpa using hlt)]
      simp [hge]
    rw [hex]
    rcases ih _ _ h2 with ⟨h5, h6⟩ | ⟨rfl, rfl⟩
    · exact ⟨by omega, .cons h4 h6⟩
    · exact ⟨by omega, .cons h4 (by simp; exact .nil)⟩

theorem extract_nil {c' : Array Value} (o : Nat) : (c'.extract o (o + 0)).toList = [] := by simp

theorem part_run {P : Program} {w : World} {t : TypeId} {n : Nat} {g : Bool} {c : List Value} {c' : Array Value} {o : Nat} {v : Value}
    (hs : shapeT P t = some (n, g)) (hv : VRL ρ c c'.toList) (h : partV c o n g = some v) :
    ∃ v', (part t c' o).run P w = .ok v' w ∧ VR ρ v v' := by
  obtain ⟨ha, hz, h1⟩ := shapeT_some hs
  have hn : ∀ i v, nth c i = some v → ∃ v', c'[i]? = some v' ∧ VR ρ v v' := fun i v h => by simpa using hv.nth h
  unfold part
  cases g with
  | true =>
    simp only [partV] at h
    split at h <;> first | simp at h; done | skip
    rename_i m hm
    simp only [Option.some.injEq] at h; subst h
    refine ⟨.agg (c'.extract o (o + n)), ?_, .agg ?_⟩
    · simp [run_bind, run_isAgg ha, run_size hz, run_pure]
    · rcases cut_rel hn _ _ _ hm with ⟨_, h2⟩ | ⟨rfl, rfl⟩
      · exact h2
      · simp; exact .nil
  | false =>
    simp only [partV] at h
    obtain ⟨v', h2, h3⟩ := hn _ _ h
    exact ⟨v', by simp [run_bind, run_isAgg ha, h2, run_pure], h3⟩

theorem cellsOf_rel {v v' : Value} (h : VR ρ v v') : VRL ρ (cellsOf v) v'.cells.toList := by
  cases h <;> first
    | (simp only [cellsOf, Value.cells]; assumption)
    | (rename_i hs; cases v' <;> simp only [topOk, Bool.false_eq_true] at hs <;> exact .cons (.top rfl) .nil)
    | (simp only [cellsOf, Value.cells]; exact .cons (by first | exact .bool _ | exact .int _ _ | exact .float _ _ | exact .string _ | exact .ptrN | exact .ptr ‹_› | exact .sliceN _ _ ‹_› | exact .slice ‹_› ‹_› | exact .sliceU ‹_› ‹_› ‹_› ‹_› | exact .sliceE _ _ | exact .mapN | exact .map ‹_› | exact .func _ ‹_› ‹_› | exact .yield ‹_› ‹_› ‹_› | exact .nilFunc | exact .nilIface | exact .iface _ ‹_› | exact .tuple ‹_›) .nil)

theorem single_rel {v v' : Value} (h : VR ρ v v') : single v = true → single v' = true := by
  intro hs
  cases h <;> first
    | (rename_i h; cases v' <;> simp [topOk, single] at h ⊢; done)
    | (simp [single] at hs; done)
    | (simp [single]; done)

theorem updL_rel {vs : List Value} {l : List Value} {l' : Array Value} {vs' : List Value} : ∀ (o : Nat), VRL ρ l l'.toList → VRL ρ vs vs' →
    VRL ρ (updL l o vs) ((vs'.zipIdx o).foldl (fun (cs : Array Value) (c : Value × Nat) => cs.setIfInBounds c.2 c.1) l').toList := by
  induction vs generalizing l l' vs' with
  | nil => intro o h hv; cases hv; simpa [updL] using h
  | cons v vs ih =>
    intro o h hv
    cases hv with
    | cons h1 h2 =>
      simp only [updL, List.zipIdx_cons, List.foldl_cons]
      exact ih _ (by simpa using h.upd o h1) h2

theorem fill_rel {place : Nat → Option (Nat × Nat)} {ps : List (Nat × Operand)} {qs : List (Nat × Nat × Operand)} {t : List Value} {a : Act}
    (hT : VRL ρ t a.tmps.toList) (hq : cParts place ps = some qs) (hok : ps.all (fun p => okOpd p.2) = true) :
    ∀ {vs : List (Nat × Nat × Value)} {z cs : List Value} {z' : Array Value}, partsV t qs = some vs → fillV z vs = some cs → VRL ρ z z'.toList →
      ∃ cs', Instr.fill place z' (ps.map fun p => (p.1, a.eval p.2)) = some cs' ∧ VRL ρ cs cs'.toList := by
  induction ps generalizing qs with
  | nil =>
    intro vs z cs z' hv hf hz
    simp [cParts] at hq; subst hq
    simp [partsV] at hv; subst hv
    simp [fillV] at hf; subst hf
    exact ⟨z', rfl, hz⟩
  | cons p ps ih =>
    obtain ⟨i, x⟩ := p
    intro vs z cs z' hv hf hz
    simp only [List.all_cons, Bool.and_eq_true] at hok
    simp only [cParts] at hq
    split at hq <;> first | simp at hq; done | skip
    rename_i o n l hp hl
    simp only [Option.some.injEq] at hq; subst hq
    simp only [partsV] at hv
    split at hv <;> first | simp at hv; done | skip
    rename_i v hev
    split at hv <;> first | simp at hv; done | skip
    rename_i l' hl'
    simp only [Option.some.injEq] at hv; subst hv
    simp only [fillV] at hf
    split at hf <;> first | simp at hf; done | skip
    rename_i hc
    have hvr := eval_sound hT hok.1 hev
    have hcl := cellsOf_rel hvr
    have h1 : (a.eval x).cells.size = n := by have := hcl.length; simp at this; omega
    have h2 : ¬ (n > z'.size - o ∧ False) := by simp
    have h3 : o + n ≤ z'.size := by have := hz.length; simp at this; omega
    obtain ⟨cs', h4, h5⟩ := ih hl hok.2 (z := updL z o (cellsOf v)) (z' := ((a.eval x).cells.toList.zipIdx o).foldl (fun (cs : Array Value) (c : Value × Nat) => cs.setIfInBounds c.2 c.1) z') hl' hf (updL_rel _ hz hcl)
    refine ⟨cs', ?_, h5⟩
    simp only [List.map_cons, Instr.fill, hp]
    rw [if_neg (by simp only [h1, ne_eq, not_true_eq_false, false_or, Bool.or_eq_true, decide_eq_true_eq]; omega)]
    rw [← h4]
    congr 1
    rw [← Array.foldl_toList]
    simp only [Array.toList_zipIdx]
    generalize (a.eval x).cells.toList = q
    clear h4 h5 hcl h1
    have key : ∀ (q : List Value) (k : Nat) (z' : Array Value), List.foldl (fun (cs : Array Value) (c : Value × Nat) => cs.setIfInBounds (o + c.2) c.1) z' (q.zipIdx k) =
        List.foldl (fun (cs : Array Value) (c : Value × Nat) => cs.setIfInBounds c.2 c.1) z' (q.zipIdx (o + k)) := by
      intro q
      induction q with
      | nil => intro k z'; rfl
      | cons b q ihq => intro k z'; simp only [List.zipIdx_cons, List.foldl_cons]; rw [ihq]; rfl
    simpa using key q 0 z'
end
end Ev

/- Soundness of comparisons. -/
namespace Ev
open Go

section
variable {P : Program} {ρ : Rho} {w : World}

theorem run_program : (program).run P w = .ok P w := rfl

mutual
theorem eqv_run : ∀ (d : Nat) (t : TypeId) (e : EqK), cEq P d t = some e → ∀ (x y x' y' : Value) (b : Bool), eqv e x y = some b → VR ρ x x' → VR ρ y y' →
    ∀ D, d ≤ D → (Op.equalIn D t x' y').run P w = .ok b w
  | 0, _, _, h => by simp [cEq] at h
  | d + 1, t, e, h => by
    intro x y x' y' b hb hx hy D hD
    obtain ⟨D, rfl⟩ : ∃ m, D = m + 1 := ⟨D - 1, by omega⟩
    have hD' : d ≤ D := by omega
    clear hD
    simp only [cEq] at h
    cases hu : P.underlying t with
    | none => simp [hu] at h
    | some u =>
      simp only [Op.equalIn]
      rw [run_bind_ok (run_under hu)]
      simp only [hu] at h
      cases u with
      | bool =>
        simp only [Option.some.injEq] at h; subst h
        cases x <;> cases y <;> simp only [eqv] at hb <;> first | simp at hb; done | skip
        cases hx; cases hy
        simp only [Option.some.injEq] at hb; subst hb
        rfl
      | int k =>
        simp only [Option.some.injEq] at h; subst h
        cases x <;> cases y <;> simp only [eqv] at hb <;> first | simp at hb; done | skip
        cases hx; cases hy
        split at hb <;> first | simp at hb; done | skip
        rename_i hk
        simp only [Option.some.injEq] at hb; subst hb
        simp only [hk, if_true]
        rfl
      | string =>
        simp only [Option.some.injEq] at h; subst h
        cases x <;> cases y <;> simp only [eqv] at hb <;> first | simp at hb; done | skip
        cases hx; cases hy
        simp only [Option.some.injEq] at hb; subst hb
        rfl
      | pointer el =>
        simp only [] at h
        split at h <;> first | simp at h; done | skip
        rename_i k hk
        simp only [Option.some.injEq] at h; subst h
        cases x with
        | pointer a => cases y with
          | pointer a2 => cases a with
            | none =>
              cases hx
              simp only [eqv, Option.some.injEq] at hb; subst hb
              cases hy <;> rfl
            | some a => cases a2 with
              | none =>
                simp only [eqv, Option.some.injEq] at hb; subst hb
                cases hx; cases hy; rfl
              | some a2 =>
                simp only [eqv] at hb
                split at hb <;> first | simp at hb; done | skip
                rename_i hbl
                simp only [Option.some.injEq] at hb; subst hb
                cases hx with
                | ptr h1 => cases hy with
                  | ptr h2 =>
                    rename_i b1 o1 b1' r1 s1 b2 o2 b2' r2 s2
                    have hbl' : b1 = b2 := hbl
                    subst hbl'
                    rw [h1] at h2
                    simp only [Option.some.injEq, Prod.mk.injEq] at h2
                    obtain ⟨rfl, rfl⟩ := h2
                    rw [run_bind_ok (run_size hk)]
                    simp only [ne_eq, Nat.add_eq_zero_iff, Nat.succ_ne_self, and_false, not_false_eq_true, if_true, sameAddr, beq_self_eq_true]
                    have : ((⟨b1', o1, none⟩ : Addr) == ⟨b1', o2, none⟩) = (o1 == o2) := by
                      by_cases h : o1 = o2
                      · rw [h, beq_self_eq_true, beq_self_eq_true]
                      · rw [beq_eq_false_iff_ne.2 h, beq_eq_false_iff_ne]
                        intro he; injection he; exact h ‹_›
                    rw [this]; rfl
          | _ => cases a <;> simp [eqv] at hb
        | _ => cases y <;> simp [eqv] at hb
      | interface ms =>
        simp only [Option.some.injEq] at h; subst h
        cases x <;> cases y <;> simp only [eqv] at hb <;> first | simp at hb; done | skip
        all_goals
          simp only [Option.some.injEq] at hb; subst hb
          cases hx; cases hy; rfl
      | slice el =>
        simp only [Option.some.injEq] at h; subst h
        cases x with
        | slice a n c => cases y with
          | slice a2 n2 c2 => cases a with
            | none =>
              simp only [eqv] at hb
              split at hb <;> first | simp at hb; done | skip
              rename_i hc
              simp only [Option.some.injEq] at hb; subst hb
              cases hx with
              | sliceN _ _ h1 => cases hy <;> first | rfl | (exfalso; exact Nat.lt_irrefl _ hc.2)
              | sliceE a' c' => exact absurd hc.1 (Nat.lt_irrefl _)
            | some a => cases a2 with
              | none =>
                simp only [eqv] at hb
                split at hb <;> first | simp at hb; done | skip
                rename_i hc
                simp only [Option.some.injEq] at hb; subst hb
                cases hy with
                | sliceN _ _ h1 => cases hx <;> rfl
                | sliceE a' c' => exact absurd hc (Nat.lt_irrefl _)
              | some a2 => simp [eqv] at hb
          | _ => cases a <;> simp [eqv] at hb
        | _ => cases y <;> simp [eqv] at hb
      | map k el =>
        simp only [Option.some.injEq] at h; subst h
        cases x with
        | map a => cases y with
          | map a2 => cases a with
            | none =>
              simp only [eqv, Option.some.injEq] at hb; subst hb
              cases hx; cases hy <;> rfl
            | some a => cases a2 with
              | none =>
                simp only [eqv, Option.some.injEq] at hb; subst hb
                cases hx; cases hy; rfl
              | some a2 => simp [eqv] at hb
          | _ => cases a <;> simp [eqv] at hb
        | _ => cases y <;> simp [eqv] at hb
      | func ps rs v =>
        simp only [Option.some.injEq] at h; subst h
        cases x <;> cases y <;> simp only [eqv] at hb <;> first | simp at hb; done | skip
        all_goals
          simp only [Option.some.injEq] at hb; subst hb
          cases hx <;> cases hy <;> rfl
      | struct fields =>
        simp only [] at h
        split at h <;> first | simp at h; done | skip
        rename_i hst
        split at h <;> first | simp at h; done | skip
        rename_i l hl
        simp only [Option.some.injEq] at h; subst h
        cases x <;> cases y <;> simp only [eqv] at hb <;> first | simp at hb; done | skip
        cases hx with
        | agg hx => cases hy with
          | agg hy =>
            simp only []
            rw [run_bind_ok run_program]
            have hst' : P.stoodInHeld t = false := by simpa using hst
            simp only [hst', Bool.false_eq_true, if_false, ← Array.forIn_toList]
            have := eqFs_run d fields.toList l hl _ _ _ _ b hb hx hy D hD'
            rw [run_bind_ok this]
            cases b <;> rfl
      | _ => simp at h
  termination_by d => (d, 0)
theorem eqFs_run : ∀ (d : Nat) (fs : List Field) (l : List (Nat × Nat × Bool × EqK)), cEqFs P (cEq P d) fs = some l →
    ∀ (xs ys : List Value) (xs' ys' : Array Value) (b : Bool), eqFs l xs ys = some b → VRL ρ xs xs'.toList → VRL ρ ys ys'.toList → ∀ D, d ≤ D →
      (forIn (m := Sem) fs ((none : Option Bool), ()) fun f _ =>
        if f.name ≠ "_" then do
          let x ← part f.type xs' f.offset
          let y ← part f.type ys' f.offset
          let b ← Op.equalIn D f.type x y
          if (!b) = true then pure (ForInStep.done (some false, ())) else pure (ForInStep.yield (none, ()))
        else pure (ForInStep.yield (none, ()))).run P w = .ok (if b then none else some false, ()) w
  | d, [], l, h => by
    intro xs ys xs' ys' b hb hx hy D hD
    simp only [cEqFs, Option.some.injEq] at h; subst h
    simp only [eqFs, Option.some.injEq] at hb; subst hb
    rfl
  | d, f :: fs, l, h => by
    intro xs ys xs' ys' b hb hx hy D hD
    simp only [cEqFs] at h
    split at h <;> first | simp at h; done | skip
    rename_i hn
    split at h <;> first | simp at h; done | skip
    rename_i n g e l' hs he hl
    simp only [Option.some.injEq] at h; subst h
    simp only [eqFs] at hb
    split at hb <;> first | simp at hb; done | skip
    rename_i x y hpx hpy
    obtain ⟨x', hx1, hx2⟩ := part_run (w := w) hs hx hpx
    obtain ⟨y', hy1, hy2⟩ := part_run (w := w) hs hy hpy
    simp only [List.forIn_cons, ne_eq, hn, not_false_eq_true, if_true]
    rw [run_bind, run_bind_ok hx1, run_bind_ok hy1]
    split at hb
    · rename_i hev
      rw [run_bind_ok (eqv_run d f.type e he x y x' y' true hev hx2 hy2 D hD)]
      exact eqFs_run d fs l' hl xs ys xs' ys' b hb hx hy D hD
    · rename_i hev
      simp only [Option.some.injEq] at hb; subst hb
      rw [run_bind_ok (eqv_run d f.type e he x y x' y' false hev hx2 hy2 D hD)]
      rfl
    · simp at hb
  termination_by d fs => (d, fs.length + 1)
end
end
end Ev

/- Soundness of all operations that touch no memory. -/
namespace Ev
open Go

section
variable {P : Program} {ρ : Rho} {w : World}

theorem val_run {s : Sem Value} {v : Value} {w' : World} (h : s.run P w = .ok v w') : (do pure (Next.value (← s)) : Sem Next).run P w = .ok (.value v) w' := by
  rw [run_bind_ok h]; rfl

theorem unit_run {s : Sem Unit} {w' : World} (h : s.run P w = .ok () w') : (do s; pure Next.skip : Sem Next).run P w = .ok .skip w' := by
  rw [run_bind_ok h]; rfl

theorem ptr_add {b o b' r : Nat} (n : Nat) (h : ρ b = some (b', r)) : VR ρ (.pointer (some (adv ⟨b, o, none⟩ n))) (.pointer (some (Addr.add ⟨b', o, none⟩ n))) := by
  unfold adv Addr.add
  split
  · rename_i h0; subst h0; exact .ptr h
  · exact .ptr h

theorem add_eq (b o n : Nat) : Addr.add ⟨b, o, none⟩ n = ⟨b, o + n, none⟩ := by
  unfold Addr.add; split
  · rename_i h; subst h; rfl
  · rfl

theorem bound_run {v v' : Value} {top n : Nat} {d : Nat} (code : BoundsCode) (h : bnd (some v) d top = some n) (hv : VR ρ v v') :
    (Instr.sliceBound v' top code).run P w = .ok n w ∧ n ≤ top := by
  cases v <;> simp only [bnd] at h <;> first | simp at h; done | skip
  rename_i k i
  split at h <;> first | simp at h; done | skip
  rename_i hi
  simp only [Option.some.injEq] at h
  subst h
  cases hv
  refine ⟨?_, by omega⟩
  simp [Instr.sliceBound, asIntOf, hi]

theorem slStr_sound {s : ByteArray} {lo hi : Option Value} {lo' hi' : Option Value} {v : Value} (hl : ∀ x, lo = some x → ∃ x', lo' = some x' ∧ VR ρ x x') (hl0 : lo = none → lo' = none)
    (hh : ∀ x, hi = some x → ∃ x', hi' = some x' ∧ VR ρ x x') (hh0 : hi = none → hi' = none) (h : slStrV s lo hi = some v) :
    (Instr.sliceBounds false s.size s.size lo' hi' none).run P w = .ok ((match bnd lo 0 ((bnd hi s.size s.size).getD 0) with | some l => l | none => 0), (bnd hi s.size s.size).getD 0, s.size) w ∧
      v = .string (s.extract (match bnd lo 0 ((bnd hi s.size s.size).getD 0) with | some l => l | none => 0) ((bnd hi s.size s.size).getD 0)) := by
  unfold slStrV at h
  cases hb : bnd hi s.size s.size with
  | none => simp [hb] at h
  | some hn =>
    simp only [hb] at h
    cases hb2 : bnd lo 0 hn with
    | none => simp [hb2] at h
    | some ln =>
      simp only [hb2, Option.some.injEq] at h
      subst h
      simp only [Option.getD_some, hb2, and_true]
      cases hi with
      | none =>
        have e := hh0 rfl; subst e
        simp only [bnd, Option.some.injEq] at hb; subst hb
        cases lo with
        | none => have e := hl0 rfl; subst e; simp only [bnd, Option.some.injEq] at hb2; subst hb2; simp [Instr.sliceBounds]
        | some l => obtain ⟨l', rfl, hl'⟩ := hl _ rfl; have := bound_run (P := P) (w := w) .sliceB hb2 hl'; simp [Instr.sliceBounds, this.1]
      | some hv =>
        obtain ⟨hv', rfl, hhv⟩ := hh _ rfl
        have h1 := bound_run (P := P) (w := w) .sliceAlen hb hhv
        cases lo with
        | none => have e := hl0 rfl; subst e; simp only [bnd, Option.some.injEq] at hb2; subst hb2; simp [Instr.sliceBounds, h1.1]
        | some l => obtain ⟨l', rfl, hl'⟩ := hl _ rfl; have := bound_run (P := P) (w := w) .sliceB hb2 hl'; simp [Instr.sliceBounds, h1.1, this.1]

/-- An optional operand's values. -/
def OV (ρ : Rho) (x x' : Option Value) : Prop := (∀ v, x = some v → ∃ v', x' = some v' ∧ VR ρ v v') ∧ (x = none → x' = none)

/-- The bounds of a slice expression over a slice or an array, whose place ends at 'c', and which has 'n' elements. -/
theorem bounds_run {isSlice : Bool} {n c m h l : Nat} {lo hi mx lo' hi' mx' : Option Value} (hlo : OV ρ lo lo') (hhi : OV ρ hi hi') (hmx : OV ρ mx mx')
    (hno : ¬ (mx'.isSome ∧ hi'.isNone)) (h1 : bnd mx c c = some m) (h2 : bnd hi n m = some h) (h3 : bnd lo 0 h = some l) :
    (Instr.sliceBounds isSlice n c lo' hi' mx').run P w = .ok (l, h, m) w := by
  have hl : ∀ (code : BoundsCode) (hh mm : Nat), Sem.run P (match lo' with
      | some v => (fun a => (a, hh, mm)) <$> Instr.sliceBound v h code
      | none => pure (0, hh, mm)) w = Result.ok (l, hh, mm) w := by
    intro code hh mm
    cases lo with
    | none => have e := hlo.2 rfl; subst e; simp only [bnd, Option.some.injEq] at h3; subst h3; rfl
    | some v => obtain ⟨v', rfl, hv⟩ := hlo.1 _ rfl; simp [(bound_run (P := P) (w := w) code h3 hv).1]
  cases mx with
  | none =>
    have e := hmx.2 rfl; subst e
    simp only [bnd, Option.some.injEq] at h1; subst h1
    cases hi with
    | none => have e := hhi.2 rfl; subst e; simp only [bnd, Option.some.injEq] at h2; subst h2; simp [Instr.sliceBounds]; exact hl _ _ _
    | some v => obtain ⟨v', rfl, hv⟩ := hhi.1 _ rfl; simp [Instr.sliceBounds, (bound_run (P := P) (w := w) _ h2 hv).1]; exact hl _ _ _
  | some mv =>
    obtain ⟨mv', rfl, hmv⟩ := hmx.1 _ rfl
    cases hi with
    | none => have e := hhi.2 rfl; subst e; simp at hno
    | some v => obtain ⟨v', rfl, hv⟩ := hhi.1 _ rfl; simp [Instr.sliceBounds, (bound_run (P := P) (w := w) _ h1 hmv).1, (bound_run (P := P) (w := w) _ h2 hv).1]; exact hl _ _ _

theorem bnd_le {v : Option Value} {d top n : Nat} (h : bnd v d top = some n) (hd : d ≤ top) : n ≤ top := by
  unfold bnd at h
  split at h
  · simp at h; omega
  · split at h <;> simp at h; omega
  · simp at h

theorem slExact_sound {size n c : Nat} {a a' : Option Addr} {lo hi mx lo' hi' mx' : Option Value} {v : Value} {t : Bool} (hlo : OV ρ lo lo') (hhi : OV ρ hi hi') (hmx : OV ρ mx mx')
    (hno : ¬ (mx'.isSome ∧ hi'.isNone)) (hc : c < unk) (ha : VR ρ (.pointer a) (.pointer a')) (h : slExact size a n c lo hi mx = some v) :
    ∃ l h m, (Instr.sliceBounds t n c lo' hi' mx').run P w = .ok (l, h, m) w ∧ VR ρ v (.slice (if m = l then a' else a'.map (·.add (l * size))) (h - l) (m - l)) := by
  unfold slExact at h
  split at h <;> first | simp at h; done | skip
  rename_i m hm
  split at h <;> first | simp at h; done | skip
  rename_i hn hh
  split at h <;> first | simp at h; done | skip
  rename_i l hl
  simp only [Option.some.injEq] at h; subst h
  have hmc := bnd_le hm (Nat.le_refl _)
  refine ⟨l, hn, m, bounds_run hlo hhi hmx hno hm hh hl, ?_⟩
  cases ha with
  | ptrN => simp only [Option.map_none, ite_self]; exact .sliceN _ _ (by omega)
  | ptr hb =>
    split
    · exact .slice hb (by omega)
    · simp only [Option.map_some, add_eq, adv]; exact .slice hb (by omega)

theorem slSl_sound {size : Nat} {x x' : Value} {lo hi mx lo' hi' mx' : Option Value} {v : Value} {el t : TypeId} (ht : P.underlying t = some (.slice el)) (hs : sizeT P el = some size)
    (hlo : OV ρ lo lo') (hhi : OV ρ hi hi') (hmx : OV ρ mx mx') (hno : ¬ (mx'.isSome ∧ hi'.isNone)) (hx : VR ρ x x') (h : slSlV size x lo hi mx = some v) :
    ∃ v', (Instr.slice t x' lo' hi' mx').run P w = .ok v' w ∧ VR ρ v v' := by
  unfold slSlV at h
  split at h <;> first | simp at h; done | skip
  rename_i a n c
  cases hb : Nat.blt c unk with
  | true =>
    simp only [hb, cond_true] at h
    have hc : c < unk := by simpa [Nat.blt_eq] using hb
    have key : ∀ a', VR ρ (.pointer a) (.pointer a') → x' = .slice a' n c → ∃ v', (Instr.slice t x' lo' hi' mx').run P w = .ok v' w ∧ VR ρ v v' := by
      intro a' ha hx'
      subst hx'
      obtain ⟨l, hn, m, h1, h2⟩ := slExact_sound (P := P) (w := w) (t := true) hlo hhi hmx hno hc ha h
      refine ⟨_, ?_, h2⟩
      simp only [Instr.slice]
      rw [run_bind_ok (run_under ht)]
      simp only []
      rw [run_bind_ok h1]
      simp only []
      rw [run_bind_ok (run_size hs)]
      rfl
    cases hx with
    | sliceN _ _ _ => exact key none .ptrN rfl
    | slice h1 _ => exact key _ (.ptr h1) rfl
    | sliceU => exfalso; omega
    | sliceE => exact absurd hc (by decide)
  | false =>
    simp only [hb, cond_false] at h
    have hc : ¬ c < unk := by intro h'; have : Nat.blt c unk = true := by simpa [Nat.blt_eq] using h'
                              rw [hb] at this; cases this
    cases hx with
    | sliceN _ _ h1 => exact absurd h1 hc
    | slice _ h1 => exact absurd h1 hc
    | sliceE a' c' =>
      simp only [] at h
      split at h <;> first | simp at h; done | skip
      rename_i i1 i2 i3 hm hh hl
      simp only [Option.some.injEq] at h; subst h
      have e1 := bnd_le hm (Nat.le_refl _)
      have e2 := bnd_le hh (Nat.le_refl _)
      have e3 := bnd_le hl (Nat.le_refl _)
      have z1 : i1 = 0 := by omega
      have z2 : i2 = 0 := by omega
      have z3 : i3 = 0 := by omega
      subst z1; subst z2; subst z3
      have hm' : ∃ m, bnd mx c' c' = some m := by
        cases mx with
        | none => exact ⟨c', rfl⟩
        | some v =>
          cases v <;> simp only [bnd] at hm <;> first | simp at hm; done | skip
          rename_i k i
          split at hm <;> first | simp at hm; done | skip
          rename_i hi0
          exact ⟨i.toNat, by simp only [bnd]; rw [if_pos (by omega)]⟩
      obtain ⟨m, hm'⟩ := hm'
      have hh' : bnd hi 0 m = some 0 := by
        cases hi with
        | none => rfl
        | some v =>
          cases v <;> simp only [bnd] at hh <;> first | simp at hh; done | skip
          split at hh <;> first | simp at hh; done | skip
          simp only [bnd]; rw [if_pos (by omega)]; exact hh
      have h1 := bounds_run (P := P) (w := w) (isSlice := true) hlo hhi hmx hno hm' hh' hl
      refine ⟨.slice (if m = 0 then a' else a'.map (·.add (0 * size))) 0 (m - 0), ?_, .sliceE _ _⟩
      · simp only [Instr.slice]
        rw [run_bind_ok (run_under ht)]
        simp only []
        rw [run_bind_ok h1]
        simp only []
        rw [run_bind_ok (run_size hs)]
        simp only [Nat.sub_self]
        rfl
    | @sliceU b o b' r n' c' e sp hρ hn hr he =>
      simp only [] at h
      cases hq : Nat.beq (unk + e) (unk + size) with
      | false => simp [hq] at h
      | true =>
        have hes : e = size := by have := Nat.eq_of_beq_eq_true hq; omega
        subst hes
        simp only [hq, cond_true] at h
        have fin : ∀ l hn m, (Instr.sliceBounds true n c' lo' hi' mx').run P w = .ok (l, hn, m) w →
            (Instr.slice t (.slice (some ⟨b', o, none⟩) n c') lo' hi' mx').run P w = .ok (.slice (if m = l then some ⟨b', o, none⟩ else (some ⟨b', o, none⟩ : Option Addr).map (·.add (l * e))) (hn - l) (m - l)) w := by
          intro l hn m h1
          simp only [Instr.slice]
          rw [run_bind_ok (run_under ht)]
          simp only []
          rw [run_bind_ok h1]
          simp only []
          rw [run_bind_ok (run_size hs)]
          rfl
        unfold slUnk at h
        cases mx with
        | none =>
          simp only [] at h
          split at h <;> first | simp at h; done | skip
          rename_i hn' hh
          split at h <;> first | simp at h; done | skip
          rename_i l hl
          have e1 := bnd_le hh (Nat.le_refl _)
          have e2 := bnd_le hl (Nat.zero_le _)
          have hh' : bnd hi n c' = some hn' := by
            cases hi with
            | none => exact hh
            | some v =>
              cases v <;> simp only [bnd] at hh <;> first | simp at hh; done | skip
              split at hh <;> first | simp at hh; done | skip
              simp only [bnd]; rw [if_pos (by omega)]; exact hh
          have h1 := bounds_run (P := P) (w := w) (isSlice := true) (n := n) (c := c') hlo hhi hmx hno rfl hh' hl
          refine ⟨_, fin _ _ _ h1, ?_⟩
          split at h
          · rename_i hl0; subst hl0
            simp only [Option.some.injEq] at h; subst h
            simp only [Nat.zero_mul, Option.map_some, add_eq, Nat.add_zero, ite_self, Nat.sub_zero]
            exact .sliceU hρ (by omega) hr he
          · split at h
            · simp only [Option.some.injEq] at h; subst h
              rw [if_neg (by omega)]
              simp only [Option.map_some, add_eq, adv]
              refine .sliceU hρ (by omega) ?_ he
              have : l * e + (c' - l) * e = c' * e := by rw [← Nat.add_mul]; congr 1; omega
              omega
            · simp only [Option.some.injEq] at h; subst h
              rw [show hn' - l = 0 from by omega]
              exact .sliceE _ _
        | some mv =>
          simp only [] at h
          split at h <;> first | simp at h; done | skip
          rename_i m hm
          split at h <;> first | simp at h; done | skip
          rename_i hn' hh
          split at h <;> first | simp at h; done | skip
          rename_i l hl
          split at h <;> first | simp at h; done | skip
          rename_i hmu
          simp only [Option.some.injEq] at h; subst h
          have e0 := bnd_le hm (Nat.zero_le _)
          have hm' : bnd (some mv) c' c' = some m := by
            cases mv <;> simp only [bnd] at hm <;> first | simp at hm; done | skip
            split at hm <;> first | simp at hm; done | skip
            simp only [bnd]; rw [if_pos (by omega)]; exact hm
          have h1 := bounds_run (P := P) (w := w) (isSlice := true) (n := n) (c := c') hlo hhi hmx hno hm' hh hl
          refine ⟨_, fin _ _ _ h1, ?_⟩
          split
          · exact .slice hρ (by omega)
          · simp only [Option.map_some, add_eq, adv]; exact .slice hρ (by omega)
end
end Ev

/- Soundness of all operations that touch no memory, together. -/
namespace Ev
open Go

section
variable {P : Program} {ρ : Rho} {w : World} {t : List Value} {a : Act}

theorem eqGuard_skip {op : BinOp} {ty : TypeId} {x y : Operand} {u v : Value} (h1 : u = .nilIface → v = .nilIface → isConstO x = true ∨ isConstO y = true)
    (h2 : ∀ cs ds, u = .agg cs → v = .agg ds → P.eqGuardType P.depth ty = false) : (eqGuard op ty x y u v).run P w = .ok () w := by
  have go : ∀ op', (op' = .eql ∨ op' = .neq) → (eqGuard op' ty x y u v).run P w = .ok () w := by
    intro op' hop
    cases u <;> cases v <;> first
      | (rcases hop with rfl | rfl <;> rfl)
      | skip
    case nilIface.nilIface =>
      have h := h1 rfl rfl
      clear h1 h2
      rcases hop with rfl | rfl <;> cases x <;> cases y <;> simp [isConstO] at h <;> rfl
    case agg.agg cs ds =>
      have h := h2 cs ds rfl rfl
      rcases hop with rfl | rfl <;> simp [eqGuard, h]
  cases op <;> first
    | exact go _ (.inl rfl)
    | exact go _ (.inr rfl)
    | rfl

theorem binOp_eql (ty : TypeId) (x y : Value) (b : Bool) (h : (Op.equalIn Op.maxDepth ty x y).run P w = .ok b w) (hi : ∀ k n k' n', x = .int k n → y ≠ .int k' n')
    (hf : ∀ k n k' n', x = .float k n → y ≠ .float k' n') (hs : ∀ s s', x = .string s → y ≠ .string s') (hc : ∀ k a b k' c d, x = .complex k a b → y ≠ .complex k' c d) :
    (binOp .eql ty x y).run P w = .ok (.bool b) w ∧ (binOp .neq ty x y).run P w = .ok (.bool (!b)) w := by
  have e1 : binOp .eql ty x y = (do pure (.bool (← Op.equal ty x y))) := by
    cases x <;> cases y <;> first
      | rfl
      | exact absurd rfl (hi _ _ _ _ rfl)
      | exact absurd rfl (hf _ _ _ _ rfl)
      | exact absurd rfl (hs _ _ rfl)
      | exact absurd rfl (hc _ _ _ _ _ _ rfl)
  have e2 : binOp .neq ty x y = (do pure (.bool (!(← Op.equal ty x y)))) := by
    cases x <;> cases y <;> first
      | rfl
      | exact absurd rfl (hi _ _ _ _ rfl)
      | exact absurd rfl (hf _ _ _ _ rfl)
      | exact absurd rfl (hs _ _ rfl)
      | exact absurd rfl (hc _ _ _ _ _ _ rfl)
  rw [e1, e2]
  have h' : (Op.equal ty x y).run P w = .ok b w := h
  exact ⟨by rw [run_bind_ok h']; rfl, by rw [run_bind_ok h']; rfl⟩

/-- What 'eqv' takes is no pair of integers, floats or strings, unless its kind says so. -/
def EqK.num : EqK → Bool
  | .int | .str => true
  | _ => false

theorem eqv_shape {e : EqK} {x y : Value} {b : Bool} (h : eqv e x y = some b) (hn : e.num = false) :
    (∀ k n, x ≠ .int k n) ∧ (∀ k n, x ≠ .float k n) ∧ (∀ s, x ≠ .string s) ∧ (∀ k a b, x ≠ .complex k a b) := by
  cases e <;> simp [EqK.num] at hn <;> cases x <;> simp [eqv] at h ⊢

theorem eqv_chan {e : EqK} {x y : Value} {b : Bool} (h : eqv e x y = some b) : (∀ r, x ≠ .chan r) ∧ (∀ r, y ≠ .chan r) := by
  unfold eqv at h
  split at h <;> first
    | (refine ⟨fun _ h => ?_, fun _ h => ?_⟩ <;> cases h; done)
    | (simp at h; done)

theorem cEq_num : ∀ {d : Nat} {ty : TypeId} {e : EqK}, cEq P d ty = some e → (∀ k, P.underlying ty ≠ some (.int k)) → P.underlying ty ≠ some .string → e.num = false := by
  intro d ty e h h1 h2
  cases d with
  | zero => simp [cEq] at h
  | succ d =>
    simp only [cEq] at h
    split at h <;> first
      | (simp only [Option.some.injEq] at h; subst h; rfl)
      | (exact absurd ‹_› (h1 _))
      | (exact absurd ‹_› h2)
      | (split at h <;> first | (simp at h; done) | (simp only [Option.some.injEq] at h; subst h; rfl) | (split at h <;> first | (simp at h; done) | (simp only [Option.some.injEq] at h; subst h; rfl)))
      | (simp at h; done)

theorem eqOp_sound {neg : Bool} {ty : TypeId} {x y : Operand} {k : MK} {v : Value} (hT : VRL ρ t a.tmps.toList) (hx : okOpd x = true) (hy : okOpd y = true)
    (h1 : ∀ k, P.underlying ty ≠ some (.int k)) (h2 : P.underlying ty ≠ some .string)
    (hc : cEqOp P neg ty x y = some k) (hv : evP k t = some v) :
    (do eqGuard (if neg then .neq else .eql) ty x y (a.eval x) (a.eval y); binOp (if neg then .neq else .eql) ty (a.eval x) (a.eval y) : Sem Value).run P w = .ok v w ∧ VR ρ v v := by
  have main : ∀ e, cEq P 4 ty = some e → k = .eq neg e x y → (∀ u v, eval t x = some u → eval t y = some v → (u = .nilIface → v = .nilIface → isConstO x = true ∨ isConstO y = true)) →
      (∀ fs, e = .st fs → P.eqGuardType P.depth ty = false) →
      (do eqGuard (if neg then .neq else .eql) ty x y (a.eval x) (a.eval y); binOp (if neg then .neq else .eql) ty (a.eval x) (a.eval y) : Sem Value).run P w = .ok v w ∧ VR ρ v v := by
    intro e he hk hg hst
    subst hk
    simp only [evP] at hv
    split at hv <;> first | simp at hv; done | skip
    rename_i u u2 hu hu2
    split at hv <;> first | simp at hv; done | skip
    rename_i r hr
    simp only [Option.some.injEq] at hv; subst hv
    have vx := eval_sound hT hx hu
    have vy := eval_sound hT hy hu2
    have hn := cEq_num he h1 h2
    obtain ⟨s1, s2, s3, s4⟩ := eqv_shape hr hn
    obtain ⟨s5, s6⟩ := eqv_chan hr
    have hrun := eqv_run (P := P) (w := w) 4 ty e he u u2 (a.eval x) (a.eval y) r hr vx vy Op.maxDepth (by decide)
    have t1 : ∀ k n, a.eval x ≠ .int k n := by intro k n hh; rw [hh] at vx; cases vx <;> first | exact s1 _ _ rfl | exact s5 _ rfl
    have t2 : ∀ k n, a.eval x ≠ .float k n := by intro k n hh; rw [hh] at vx; cases vx <;> first | exact s2 _ _ rfl | exact s5 _ rfl
    have t3 : ∀ s, a.eval x ≠ .string s := by intro k hh; rw [hh] at vx; cases vx <;> first | exact s3 _ rfl | exact s5 _ rfl
    have t4 : ∀ k c d, a.eval x ≠ .complex k c d := by intro k c d hh; rw [hh] at vx; cases vx; exact s5 _ rfl
    have hb := binOp_eql ty _ _ r hrun (fun k n _ _ h => absurd h (t1 k n)) (fun k n _ _ h => absurd h (t2 k n)) (fun s _ h => absurd h (t3 s)) (fun k c d _ _ _ h => absurd h (t4 k c d))
    have hgu : (eqGuard (if neg then .neq else .eql) ty x y (a.eval x) (a.eval y)).run P w = .ok () w := by
      refine eqGuard_skip (fun e1 e2 => hg _ _ hu hu2 ?_ ?_) (fun cs ds e1 e2 => ?_)
      · rw [e1] at vx; cases vx <;> first | rfl | exact absurd rfl (s5 _)
      · rw [e2] at vy; cases vy <;> first | rfl | exact absurd rfl (s6 _)
      · rw [e1] at vx; cases vx with
        | top _ => exact absurd rfl (s5 _)
        | agg hh =>
          cases e <;> simp [eqv] at hr
          exact hst _ rfl
    rw [run_bind_ok hgu]
    cases neg
    · exact ⟨by rw [if_neg (by decide)]; simpa using hb.1, .bool _⟩
    · refine ⟨by rw [if_pos rfl]; simpa using hb.2, .bool _⟩
  unfold cEqOp at hc
  split at hc
  · rename_i he
    split at hc <;> first | simp at hc; done | skip
    rename_i hcst
    simp only [Option.some.injEq] at hc
    exact main _ he hc.symm (fun _ _ _ _ _ _ => by simpa using hcst) (fun fs h => by cases h)
  · rename_i fs he
    split at hc <;> first | simp at hc; done | skip
    rename_i hgt
    simp only [Option.some.injEq] at hc
    refine main _ he hc.symm (fun u v hu hv' e1 e2 => ?_) (fun _ _ => by simpa using hgt)
    subst e1
    exfalso
    subst hc
    simp only [evP, hu, hv'] at hv
    simp [eqv] at hv
  · rename_i e hne hne2 he
    simp only [Option.some.injEq] at hc
    refine main _ he hc.symm (fun u v hu hv' e1 e2 => ?_) (fun fs h => absurd h (fun h => hne2 fs (by rw [← h])))
    subst e1
    exfalso
    subst hc
    simp only [evP, hu, hv', e2] at hv
    cases e <;> simp [eqv] at hv
    exact hne rfl
  · simp at hc
end
end Ev

/- Soundness of all operations that touch no memory, together. -/
namespace Ev
open Go

section
variable {P : Program} {ρ : Rho} {w : World} {t : List Value} {a : Act}

/-- What an operation yields. -/
def Gives (P : Program) (ρ : Rho) (w : World) (v : Value) (s : Sem Next) : Prop := ∃ v', s.run P w = .ok (.value v') w ∧ VR ρ v v'

theorem Gives.of {s : Sem Value} {v v' : Value} (h : s.run P w = .ok v' w) (hv : VR ρ v v') : Gives P ρ w v (do pure (.value (← s))) := ⟨v', val_run h, hv⟩

theorem P_nilCheck {x : Operand} {v : Value} (hT : VRL ρ t a.tmps.toList) (hx : okOpd x = true) (hv : evP (.nilCheck x) t = some v) :
    Gives P ρ w v (match a.eval x with
    | .pointer none | .nilIface | .nilFunc => runtimePanic .nilDeref
    | .func (.method name) first captured =>
      match (first[0]? : Option Value) with
      | some .nilIface => runtimePanic .nilDeref
      | some (.iface t w) => do
        if (← nilAhead ((← program).types.size + Made.depth) t w name) != some false then
          unsupported (.noEntry "op/nilCheck.the method's receiver behind this interface value is a nil pointer, or cannot be seen to be none, and the arguments act or may panic (ledger 612)")
        pure (.value (.func (.method name) first captured))
      | _ => pure (.value (.func (.method name) first captured))
    | x => pure (.value x)) := by
  simp only [evP] at hv
  split at hv <;> first | simp at hv; done | skip
  all_goals
    rename_i hu
    simp only [Option.some.injEq] at hv; subst hv
    have vx := eval_sound hT hx hu
    generalize a.eval x = x' at vx
    cases vx
    refine ⟨_, rfl, ?_⟩
  · exact .ptr ‹_›
  · exact .func _ ‹_› ‹_›
  · exact .yield ‹_› ‹_› ‹_›

theorem P_un {op : UnOp} {x : Operand} {v : Value} (hT : VRL ρ t a.tmps.toList) (hx : okOpd x = true) (hv : evP (.un op x) t = some v) :
    (Op.unary op (a.eval x)).run P w = .ok v w ∧ VR ρ v v := by
  simp only [evP] at hv
  split at hv <;> first | simp at hv; done | skip
  · rename_i k n hu
    have vx := eval_sound hT hx hu
    generalize a.eval x = x' at vx
    cases vx
    refine ⟨pv_run hv, ?_⟩
    cases op <;> simp only [Op.unary, Op.intArith, Op.intBits, pv, pure, stuck, Option.some.injEq] at hv <;> first | (simp at hv; done) | (subst hv; exact .int _ _)
  · rename_i b hu
    have vx := eval_sound hT hx hu
    generalize a.eval x = x' at vx
    cases vx
    refine ⟨pv_run hv, ?_⟩
    cases op <;> simp only [Op.unary, pv, pure, stuck, Option.some.injEq] at hv <;> first | (simp at hv; done) | (subst hv; exact .bool _)

theorem P_field {n : Nat} {g : Bool} {x : Operand} {v : Value} {ty : TypeId} {fields : Array Field} {f : Nat} {fd : Field} (hT : VRL ρ t a.tmps.toList) (hx : okOpd x = true)
    (hu : P.underlying ty = some (.struct fields)) (hf : fields[f]? = some fd) (hs : shapeT P fd.type = some (n, g)) (hv : evP (.field fd.offset n g x) t = some v) :
    ∃ v', (Instr.field ty (a.eval x) f).run P w = .ok v' w ∧ VR ρ v v' := by
  simp only [evP] at hv
  split at hv <;> first | simp at hv; done | skip
  rename_i cs hcs
  have vx := eval_sound hT hx hcs
  generalize a.eval x = x' at vx
  cases vx with
  | agg h =>
    obtain ⟨v', h1, h2⟩ := part_run (w := w) hs h hv
    refine ⟨v', ?_, h2⟩
    simp only [Instr.field]
    rw [run_bind_ok (run_under hu)]
    simp only [hf]
    exact h1

theorem P_index {len n : Nat} {g : Bool} {x ix : Operand} {v : Value} {ty e : TypeId} (hT : VRL ρ t a.tmps.toList) (hx : okOpd x = true) (hi : okOpd ix = true)
    (hu : P.underlying ty = some (.array len e)) (hs : shapeT P e = some (n, g)) (hv : evP (.idxArr len n g x ix) t = some v) :
    ∃ v', (Instr.index ty (a.eval x) (a.eval ix)).run P w = .ok v' w ∧ VR ρ v v' := by
  simp only [evP] at hv
  split at hv <;> first | simp at hv; done | skip
  rename_i cs k i hcs hix
  have vx := eval_sound hT hx hcs
  have vi := eval_sound hT hi hix
  generalize a.eval x = x' at vx
  generalize a.eval ix = i' at vi
  split at hv <;> first | simp at hv; done | skip
  rename_i hlt
  cases vi
  cases vx with
  | agg h =>
    obtain ⟨v', h1, h2⟩ := part_run (w := w) hs h hv
    refine ⟨v', ?_, h2⟩
    simp only [Instr.index, asIntOf]
    rw [run_bind_ok (run_pure _)]
    simp only []
    rw [run_bind_ok (run_under hu)]
    simp only [if_pos hlt]
    rw [run_bind_ok (run_size (shapeT_some hs).2.1)]
    exact h1

theorem P_indexStr {x ix : Operand} {v : Value} {ty : TypeId} (hT : VRL ρ t a.tmps.toList) (hx : okOpd x = true) (hi : okOpd ix = true)
    (hu : P.underlying ty = some .string) (hv : evP (.idxStr x ix) t = some v) : (Instr.index ty (a.eval x) (a.eval ix)).run P w = .ok v w ∧ VR ρ v v := by
  simp only [evP] at hv
  split at hv <;> first | simp at hv; done | skip
  rename_i s k i hcs hix
  have vx := eval_sound hT hx hcs
  have vi := eval_sound hT hi hix
  generalize a.eval x = x' at vx
  generalize a.eval ix = i' at vi
  split at hv <;> first | simp at hv; done | skip
  rename_i h0
  split at hv <;> first | simp at hv; done | skip
  rename_i b hb
  simp only [Option.some.injEq] at hv; subst hv
  cases vi; cases vx
  refine ⟨?_, .int _ _⟩
  simp only [Instr.index, asIntOf]
  rw [run_bind_ok (run_pure _)]
  simp only []
  rw [run_bind_ok (run_under hu)]
  simp only [if_pos h0, hb]
  rfl

theorem P_fieldAddr {x : Operand} {v : Value} {ty : TypeId} {fields : Array Field} {f k : Nat} {fd : Field} (hT : VRL ρ t a.tmps.toList) (hx : okOpd x = true)
    (hu : P.underlying ty = some (.struct fields)) (hf : fields[f]? = some fd) (hs : sizeT P fd.type = some (k + 1)) (hv : evP (.fieldAddr fd.offset x) t = some v) :
    ∃ v', (Instr.fieldAt ty (a.eval x) f).run P w = .ok v' w ∧ VR ρ v v' := by
  simp only [evP] at hv
  split at hv <;> first | simp at hv; done | skip
  rename_i ad hcs
  simp only [Option.some.injEq] at hv; subst hv
  have vx := eval_sound hT hx hcs
  generalize a.eval x = x' at vx
  cases vx with
  | ptr h =>
    refine ⟨_, ?_, ptr_add fd.offset h⟩
    simp only [Instr.fieldAt]
    rw [run_bind_ok (run_under hu)]
    simp only [hf, Instr.sureAddr]
    rw [run_bind_ok (run_pure _)]
    simp only [fieldPlace]
    rw [run_bind, run_bind_ok (run_size hs)]
    simp only [Nat.add_eq_zero_iff, Nat.succ_ne_self, and_false, if_false]
    rfl

theorem P_adArr {len n : Nat} {x ix : Operand} {v : Value} {ty e : TypeId} (hT : VRL ρ t a.tmps.toList) (hx : okOpd x = true) (hi : okOpd ix = true)
    (hu : P.underlying ty = some (.array len e)) (hs : sizeT P e = some n) (hv : evP (.adArr len n x ix) t = some v) :
    ∃ v', (Instr.indexAt ty (a.eval x) (a.eval ix)).run P w = .ok v' w ∧ VR ρ v v' := by
  simp only [evP] at hv
  split at hv <;> first | simp at hv; done | skip
  rename_i ad k i hcs hix
  have vx := eval_sound hT hx hcs
  have vi := eval_sound hT hi hix
  generalize a.eval x = x' at vx
  generalize a.eval ix = i' at vi
  split at hv <;> first | simp at hv; done | skip
  rename_i hlt
  simp only [Option.some.injEq] at hv; subst hv
  cases vi
  cases vx with
  | ptr h =>
    refine ⟨_, ?_, ptr_add (i.toNat * n) h⟩
    simp [Instr.indexAt, asIntOf, run_under hu, Instr.sureAddr, hlt, run_size hs]

theorem P_adSl {n : Nat} {x ix : Operand} {v : Value} {ty e : TypeId} (hT : VRL ρ t a.tmps.toList) (hx : okOpd x = true) (hi : okOpd ix = true)
    (hu : P.underlying ty = some (.slice e)) (hs : sizeT P e = some n) (hv : evP (.adSl n x ix) t = some v) :
    ∃ v', (Instr.indexAt ty (a.eval x) (a.eval ix)).run P w = .ok v' w ∧ VR ρ v v' := by
  simp only [evP] at hv
  split at hv <;> first | simp at hv; done | skip
  rename_i ad m c k i hcs hix
  have vx := eval_sound hT hx hcs
  have vi := eval_sound hT hi hix
  generalize a.eval x = x' at vx
  generalize a.eval ix = i' at vi
  split at hv <;> first | simp at hv; done | skip
  rename_i hlt
  simp only [Option.some.injEq] at hv; subst hv
  cases vi
  cases vx with
  | slice h _ =>
    refine ⟨_, ?_, ptr_add (i.toNat * n) h⟩
    simp [Instr.indexAt, asIntOf, run_under hu, hlt, run_size hs]
  | sliceU h _ _ _ =>
    refine ⟨_, ?_, ptr_add (i.toNat * n) h⟩
    simp [Instr.indexAt, asIntOf, run_under hu, hlt, run_size hs]

theorem OV_of {x : Option Operand} {v : Option Value} (hT : VRL ρ t a.tmps.toList) (hx : ∀ y, x = some y → okOpd y = true) (h : evalO t x = some v) : OV ρ v (x.map a.eval) := by
  have := evalO_sound hT hx h
  cases v with
  | none => simp only at this; subst this; exact ⟨(fun v h => by cases h), fun _ => rfl⟩
  | some v =>
    obtain ⟨y, rfl, hy⟩ := this
    exact ⟨(fun v' h => by cases h; exact ⟨_, rfl, hy⟩), (fun h => by cases h)⟩

theorem P_slStr {x : Operand} {lo hi : Option Operand} {v : Value} {ty : TypeId} (hT : VRL ρ t a.tmps.toList) (hx : okOpd x = true)
    (hl : ∀ y, lo = some y → okOpd y = true) (hh : ∀ y, hi = some y → okOpd y = true)
    (hu : P.underlying ty = some .string) (hv : evP (.slStr x lo hi) t = some v) :
    (Instr.sliceAt ty (a.eval x) (lo.map a.eval) (hi.map a.eval) none).run P w = .ok v w ∧ VR ρ v v := by
  simp only [evP] at hv
  split at hv <;> first | simp at hv; done | skip
  rename_i s l h hcs hlo hhi
  have vx := eval_sound hT hx hcs
  generalize a.eval x = x' at vx
  have ol := OV_of hT hl hlo
  have oh := OV_of hT hh hhi
  cases vx
  obtain ⟨h1, h2⟩ := slStr_sound (P := P) (w := w) ol.1 ol.2 oh.1 oh.2 hv
  subst h2
  refine ⟨?_, .string _⟩
  simp only [Instr.sliceAt]
  rw [run_bind_ok (run_under hu)]
  simp only [Instr.slice]
  rw [run_bind_ok (run_under hu)]
  simp only [Option.isSome_none, Bool.false_eq_true, if_false]
  show Sem.run P (do let (l, h, _) ← Instr.sliceBounds false s.size s.size (lo.map a.eval) (hi.map a.eval) none; pure (Value.string (s.extract l h))) w = _
  rw [run_bind_ok h1]
  rfl

theorem P_slSl {size : Nat} {x : Operand} {lo hi mx : Option Operand} {v : Value} {ty e : TypeId} (hT : VRL ρ t a.tmps.toList) (hx : okOpd x = true)
    (hl : ∀ y, lo = some y → okOpd y = true) (hh : ∀ y, hi = some y → okOpd y = true) (hm : ∀ y, mx = some y → okOpd y = true) (hno : ¬ (mx.isSome ∧ hi.isNone))
    (hu : P.underlying ty = some (.slice e)) (hs : sizeT P e = some size) (hv : evP (.slSl size x lo hi mx) t = some v) :
    ∃ v', (Instr.sliceAt ty (a.eval x) (lo.map a.eval) (hi.map a.eval) (mx.map a.eval)).run P w = .ok v' w ∧ VR ρ v v' := by
  simp only [evP] at hv
  split at hv <;> first | simp at hv; done | skip
  rename_i u l h m hcs hlo hhi hmx
  have vx := eval_sound hT hx hcs
  obtain ⟨v', h1, h2⟩ := slSl_sound (w := w) hu hs (OV_of hT hl hlo) (OV_of hT hh hhi) (OV_of hT hm hmx) (by simpa using hno) vx hv
  refine ⟨v', ?_, h2⟩
  simp only [Instr.sliceAt]
  rw [run_bind_ok (run_under hu)]
  exact h1

theorem P_slArr {n size : Nat} {x : Operand} {lo hi mx : Option Operand} {v : Value} {ty e : TypeId} (hT : VRL ρ t a.tmps.toList) (hx : okOpd x = true)
    (hl : ∀ y, lo = some y → okOpd y = true) (hh : ∀ y, hi = some y → okOpd y = true) (hm : ∀ y, mx = some y → okOpd y = true) (hno : ¬ (mx.isSome ∧ hi.isNone))
    (hu : P.underlying ty = some (.array n e)) (hs : sizeT P e = some size) (hn : n < unk) (hv : evP (.slArr n size x lo hi mx) t = some v) :
    ∃ v', (Instr.sliceAt ty (a.eval x) (lo.map a.eval) (hi.map a.eval) (mx.map a.eval)).run P w = .ok v' w ∧ VR ρ v v' := by
  simp only [evP] at hv
  split at hv <;> first | simp at hv; done | skip
  rename_i u l h m hcs hlo hhi hmx
  have vx := eval_sound hT hx hcs
  generalize a.eval x = x' at vx
  cases vx with
  | ptr h0 =>
    obtain ⟨l', h', m', h1, h2⟩ := slExact_sound (P := P) (w := w) (t := false) (OV_of hT hl hlo) (OV_of hT hh hhi) (OV_of hT hm hmx) (by simpa using hno) hn (.ptr h0) hv
    refine ⟨_, ?_, h2⟩
    simp only [Instr.sliceAt]
    rw [run_bind_ok (run_under hu)]
    simp only [Instr.sureAddr]
    rw [run_bind_ok (run_pure _), run_bind_ok h1]
    simp only []
    rw [run_bind_ok (run_size hs)]
    simp only [run_pure]
    split <;> rfl

theorem P_extract {x : Operand} {i : Nat} {v : Value} (hT : VRL ρ t a.tmps.toList) (hx : okOpd x = true) (hv : evP (.extract x i) t = some v) :
    ∃ v', (Instr.extract (a.eval x) i).run P w = .ok v' w ∧ VR ρ v v' := by
  simp only [evP] at hv
  split at hv <;> first | simp at hv; done | skip
  rename_i vs hcs
  have vx := eval_sound hT hx hcs
  generalize a.eval x = x' at vx
  cases vx with
  | @tuple a1 a2 h =>
    obtain ⟨v', h1, h2⟩ := h.nth hv
    refine ⟨v', ?_, h2⟩
    have h1' : a2[i]? = some v' := by simpa using h1
    simp [Instr.extract, h1']

theorem places_run {fields : List Field} {pl : List (Nat × Nat)} (h : placesOf P fields = some pl) :
    (fields.mapM fun f => do pure (f.offset, ← Go.sizeOf f.type) : Sem (List (Nat × Nat))).run P w = .ok pl w := by
  induction fields generalizing pl with
  | nil => simp only [placesOf, Option.some.injEq] at h; subst h; simp
  | cons f fs ih =>
    simp only [placesOf] at h
    split at h <;> first | simp at h; done | skip
    rename_i n l h1 h2
    simp only [Option.some.injEq] at h; subst h
    rw [List.mapM_cons, run_bind, run_bind_ok (run_size h1)]
    simp only [run_pure]
    rw [run_bind_ok (ih h2)]
    rfl

theorem P_build {parts : Array (Nat × Operand)} {z : Value} {ps : List (Nat × Nat × Operand)} {v : Value} {ty : TypeId} (hT : VRL ρ t a.tmps.toList)
    (hok : parts.toList.all (fun p => okOpd p.2) = true) (hz : zeroT P ty = some z) (hcl : z.cells.toList.all closed = true)
    (hc : (∃ fields pl, P.underlying ty = some (.struct fields) ∧ placesOf P fields.toList = some pl ∧ cParts (nth pl) parts.toList = some ps) ∨
      (∃ len e n, P.underlying ty = some (.array len e) ∧ sizeT P e = some n ∧ cParts (fun i => some (i * n, n)) parts.toList = some ps))
    (hv : evP (.build z.cells.toList ps) t = some v) :
    ∃ v', (Instr.build ty (parts.map fun (i, x) => (i, a.eval x))).run P w = .ok v' w ∧ VR ρ v v' := by
  simp only [evP] at hv
  split at hv <;> first | simp at hv; done | skip
  rename_i vs hvs
  split at hv <;> first | simp at hv; done | skip
  rename_i cs hf
  simp only [Option.some.injEq] at hv; subst hv
  have hz' : VRL ρ z.cells.toList z.cells.toList := closed_VRL hcl
  rcases hc with ⟨fields, pl, hu, hp, hq⟩ | ⟨len, e, n, hu, hs, hq⟩
  · obtain ⟨cs', h1, h2⟩ := fill_rel hT hq hok hvs hf hz'
    refine ⟨.agg cs', ?_, .agg (by simpa using h2)⟩
    simp only [Instr.build]
    rw [run_bind_ok (run_zero hz), run_bind_ok (run_under hu)]
    simp only []
    have hm : (fields.mapM fun f => do pure (f.offset, ← Go.sizeOf f.type) : Sem (Array (Nat × Nat))).run P w = .ok pl.toArray w := by
      rw [Array.mapM_eq_mapM_toList]
      rw [Sem.run_map, places_run hp]
      rfl
    rw [run_bind_ok hm]
    have : Instr.fill (fun x => pl.toArray[x]?) z.cells (parts.map fun (i, x) => (i, a.eval x)).toList = some cs' := by
      rw [← h1]
      congr 1
      · funext i; simp [nth_eq]
      · simp
    rw [this]
    rfl
  · obtain ⟨cs', h1, h2⟩ := fill_rel hT hq hok hvs hf hz'
    refine ⟨.agg cs', ?_, .agg (by simpa using h2)⟩
    simp only [Instr.build]
    rw [run_bind_ok (run_zero hz), run_bind_ok (run_under hu)]
    simp only []
    rw [run_bind_ok (run_size hs)]
    have : Instr.fill (fun i => some (i * n, n)) z.cells (parts.map fun (i, x) => (i, a.eval x)).toList = some cs' := by
      rw [← h1]
      congr 1
      simp
    rw [this]
    rfl

theorem P_assertT {x : Operand} {z v : Value} {xt u : TypeId} {d : TypeDesc} (hT : VRL ρ t a.tmps.toList) (hx : okOpd x = true) (hu : P.underlying u = some d)
    (hni : ∀ ms, d ≠ .interface ms) (hz : zeroT P u = some z) (hcl : closed z = true) (hv : evP (.assertT u z x) t = some v) :
    ∃ v', (Instr.typeAssert (a.eval x) xt u true).run P w = .ok v' w ∧ VR ρ v v' := by
  simp only [evP] at hv
  split at hv <;> first | simp at hv; done | skip
  · rename_i hcs
    simp only [Option.some.injEq] at hv; subst hv
    have vx := eval_sound hT hx hcs
    generalize a.eval x = x' at vx
    cases vx
    refine ⟨_, ?_, .tuple (.cons (closed_VR hcl) (.cons (.bool _) .nil))⟩
    simp only [Instr.typeAssert]
    rw [run_bind_ok (run_under hu)]
    cases d <;> first
      | exact absurd rfl (hni _)
      | (simp [run_zero hz]; done)
  · rename_i ty' v0 hcs
    have vx := eval_sound hT hx hcs
    generalize a.eval x = x' at vx
    cases vx with
    | iface _ h =>
      split at hv
      · rename_i he
        simp only [Option.some.injEq] at hv; subst hv
        refine ⟨_, ?_, .tuple (.cons h (.cons (.bool _) .nil))⟩
        simp only [Instr.typeAssert]
        rw [run_bind_ok (run_under hu)]
        cases d <;> first
          | exact absurd rfl (hni _)
          | (simp [he]; done)
      · rename_i he
        simp only [Option.some.injEq] at hv; subst hv
        refine ⟨_, ?_, .tuple (.cons (closed_VR hcl) (.cons (.bool _) .nil))⟩
        simp only [Instr.typeAssert]
        rw [run_bind_ok (run_under hu)]
        cases d <;> first
          | exact absurd rfl (hni _)
          | (simp [he, run_zero hz]; done)

theorem P_call {c : Call} {o : Oper} {b : Builtin} {v : Value} {s : Sem Value} (hc : c.callee = .builtin b)
    (hb : builtin b c.argTypes o.type (c.args.map fun | .const _ => true | _ => false) (c.args.map a.eval) = (do pure (.value (← s)))) (h : Gives P ρ w v (do pure (.value (← s)))) :
    Gives P ρ w v (do let d ← resolve a.eval c o.type; invoke d.target d.args) := by
  obtain ⟨v', h1, h2⟩ := h
  refine ⟨v', ?_, h2⟩
  rw [← h1, ← hb]
  unfold resolve
  simp only [hc]
  rfl

theorem okOpd_of {o : Oper} (h : (opds o).all okOpd = true) {x : Operand} (hx : x ∈ o.op.operands.toList) : okOpd x = true := by
  simp only [opds, List.all_eq_true] at h
  exact h x hx

theorem P_sound {o : Oper} {k : MK} {v : Value} (hT : VRL ρ t a.tmps.toList) (hc : cOp P o = some k) (hk : cls k = .p) (hv : evP k t = some v) :
    Gives P ρ w v (execOp a.eval o) := by
  unfold cOp at hc
  split at hc <;> first | simp at hc; done | skip
  rename_i hok
  split at hc <;> first | simp at hc; done | skip
  rename_i k' hc0
  split at hc <;> first | simp at hc; done | skip
  rename_i hcl
  simp only [Option.some.injEq] at hc; subst hc
  have ok : ∀ x, x ∈ o.op.operands.toList → okOpd x = true := fun x hx => okOpd_of hok hx
  clear hok
  obtain ⟨dst, op, type, pos, after, guard⟩ := o
  simp only at ok
  unfold cOp0 at hc0
  simp only at hc0
  have hlen : ∀ (c : Call), op = .call c → ∀ x, x ∈ c.args.toList → okOpd x = true := by
    intro c e x hx
    subst e
    exact ok x (by simp only [Op.operands, Call.operands]; cases c.callee <;> simp [hx])
  cases op <;> try (simp at hc0; done)
  case move x => simp only [Option.some.injEq] at hc0; subst hc0; exact ⟨_, rfl, eval_sound hT (ok x (by simp [Op.operands])) hv⟩
  case assign x => simp only [Option.some.injEq] at hc0; subst hc0; exact ⟨_, rfl, eval_sound hT (ok x (by simp [Op.operands])) hv⟩
  case pick c x y =>
    simp only [Option.some.injEq] at hc0; subst hc0
    simp only [evP] at hv
    split at hv <;> first | simp at hv; done | skip
    all_goals
      rename_i hb
      have vc := eval_sound hT (ok c (by simp [Op.operands])) hb
      simp only [execOp]
      generalize a.eval c = c' at vc
      cases vc
    · exact ⟨_, rfl, eval_sound hT (ok x (by simp [Op.operands])) hv⟩
    · exact ⟨_, rfl, eval_sound hT (ok y (by simp [Op.operands])) hv⟩
  case nilCheck x => simp only [Option.some.injEq] at hc0; subst hc0; exact P_nilCheck hT (ok x (by simp [Op.operands])) hv
  case binOp op ty x y yt =>
    have hx := ok x (by simp [Op.operands])
    have hy := ok y (by simp [Op.operands])
    have bin : k' = .bin op x y → Gives P ρ w v (execOp a.eval ⟨dst, .binOp op ty x y yt, type, pos, after, guard⟩) := by
      intro hk'
      subst hk'
      simp only [evP] at hv
      split at hv <;> first | simp at hv; done | skip
      rename_i u u2 hu hu2
      have vx := eval_sound hT hx hu
      have vy := eval_sound hT hy hu2
      have hr := binV_run (P := P) (w := w) ty vx vy hv
      refine Gives.of (v' := v) ?_ hr.2.1.VR
      have hg : (eqGuard op ty x y (a.eval x) (a.eval y)).run P w = .ok () w :=
        eqGuard_skip (fun e1 _ => by have := hr.2.2; rw [e1] at this; exact this.elim) (fun cs _ e1 _ => by have := hr.2.2; rw [e1] at this; exact this.elim)
      rw [run_bind_ok hg]
      exact hr.1
    have eqc : (∀ k, P.underlying ty ≠ some (.int k)) → P.underlying ty ≠ some .string →
        ∀ neg, op = (if neg then .neq else .eql) → cEqOp P neg ty x y = some k' → Gives P ρ w v (execOp a.eval ⟨dst, .binOp op ty x y yt, type, pos, after, guard⟩) := by
      intro h1 h2 neg hop h
      have := eqOp_sound (w := w) hT hx hy h1 h2 h hv
      subst hop
      exact Gives.of this.1 this.2
    simp only at hc0
    unfold cBin at hc0
    split at hc0
    · simp only [Option.some.injEq] at hc0; exact bin hc0.symm
    · split at hc0 <;> first | (simp only [Option.some.injEq] at hc0; exact bin hc0.symm) | (simp at hc0; done)
    · simp only [Option.some.injEq] at hc0; exact bin hc0.symm
    · rename_i h1 h2 h3
      split at hc0
      · exact eqc h1 h3 false rfl hc0
      · exact eqc h1 h3 true rfl hc0
      · simp at hc0
  case unOp op ty x =>
    simp only [Option.some.injEq] at hc0; subst hc0
    have := P_un (P := P) (w := w) hT (ok x (by simp [Op.operands])) hv
    exact Gives.of this.1 this.2
  case convert src dst' x =>
    have hx := ok x (by simp [Op.operands])
    have conv : ∀ (h : (convert src dst' (a.eval x)).run P w = .ok v w) (h2 : VR ρ v v), Gives P ρ w v (execOp a.eval ⟨dst, .convert src dst' x, type, pos, after, guard⟩) :=
      fun h h2 => Gives.of h h2
    simp only at hc0
    split at hc0
    · rename_i hs hd
      simp only [Option.some.injEq] at hc0; subst hc0
      simp only [evP] at hv
      split at hv <;> first | simp at hv; done | skip
      rename_i hu
      simp only [Option.some.injEq] at hv; subst hv
      have vx := eval_sound hT hx hu
      generalize hxx : a.eval x = x' at vx
      cases vx
      refine conv ?_ (.int _ _)
      simp [convert, hxx, run_under hs, run_under hd, Conv.intToInt]
    · rename_i hs hd
      simp only [Option.some.injEq] at hc0; subst hc0
      simp only [evP] at hv
      split at hv <;> first | simp at hv; done | skip
      rename_i hu
      simp only [Option.some.injEq] at hv; subst hv
      have vx := eval_sound hT hx hu
      generalize hxx : a.eval x = x' at vx
      cases vx
      refine conv ?_ (.float _ _)
      simp [convert, hxx, run_under hs, run_under hd, Conv.intToFloat]
    · rename_i hs hd
      simp only [Option.some.injEq] at hc0; subst hc0
      simp only [evP] at hv
      split at hv <;> first | simp at hv; done | skip
      rename_i hu
      simp only [Option.some.injEq] at hv; subst hv
      have vx := eval_sound hT hx hu
      generalize hxx : a.eval x = x' at vx
      cases vx
      refine conv ?_ (.string _)
      simp [convert, hxx, run_under hs, run_under hd]
    · split at hc0 <;> simp at hc0; subst hc0; simp [cls] at hk
    · split at hc0 <;> simp at hc0; subst hc0; simp [cls] at hk
    · simp at hc0
  case makeInterface ty x =>
    simp only at hc0
    split at hc0 <;> first | simp at hc0; done | skip
    rename_i d hne hu
    simp only [Option.some.injEq] at hc0; subst hc0
    simp only [evP] at hv
    split at hv <;> first | simp at hv; done | skip
    rename_i u hu'
    simp only [Option.some.injEq] at hv; subst hv
    refine Gives.of (v' := .iface ty (a.eval x)) ?_ (.iface _ (eval_sound hT (ok x (by simp [Op.operands])) hu'))
    simp only [Instr.makeInterface]
    rw [run_bind_ok (run_under hu)]
    cases d <;> first
      | exact absurd rfl (hne _)
      | rfl
  case makeFunc fn first captured =>
    cases fn <;> simp at hc0
    subst hc0
    simp only [evP] at hv
    split at hv <;> first | simp at hv; done | skip
    rename_i f' c' hf hc
    simp only [Option.some.injEq] at hv; subst hv
    have h1 := evals_sound hT (xs := first.toList) (by simp only [List.all_eq_true]; exact fun x hx => ok x (by simp [Op.operands]; exact .inl (by simpa using hx))) hf
    have h2 := evals_sound hT (xs := captured.toList) (by simp only [List.all_eq_true]; exact fun x hx => ok x (by simp [Op.operands]; exact .inr (by simpa using hx))) hc
    exact ⟨_, rfl, .func _ (by simpa using h1) (by simpa using h2)⟩
  case slice ty x lo hi mx =>
    have hx := ok x (by simp [Op.operands])
    have hl : ∀ y, lo = some y → okOpd y = true := fun y e => ok y (by subst e; simp [Op.operands])
    have hh : ∀ y, hi = some y → okOpd y = true := fun y e => ok y (by subst e; simp [Op.operands])
    have hm : ∀ y, mx = some y → okOpd y = true := fun y e => ok y (by subst e; simp [Op.operands])
    simp only at hc0
    split at hc0 <;> first | simp at hc0; done | skip
    rename_i hno
    split at hc0 <;> first | simp at hc0; done | skip
    · rename_i hu
      split at hc0 <;> first | simp at hc0; done | skip
      simp only [Option.some.injEq] at hc0; subst hc0
      have := P_slStr (P := P) (w := w) hT hx hl hh hu hv
      exact Gives.of this.1 this.2
    · rename_i e hu
      split at hc0 <;> first | simp at hc0; done | skip
      rename_i n hs
      simp only [Option.some.injEq] at hc0; subst hc0
      obtain ⟨v', h1, h2⟩ := P_slSl (w := w) hT hx hl hh hm (by simpa using hno) hu hs hv
      exact Gives.of h1 h2
    · rename_i m e hu
      split at hc0 <;> first | simp at hc0; done | skip
      rename_i n hs
      split at hc0 <;> first | simp at hc0; done | skip
      rename_i hmu
      simp only [Option.some.injEq] at hc0; subst hc0
      obtain ⟨v', h1, h2⟩ := P_slArr (w := w) hT hx hl hh hm (by simpa using hno) hu hs hmu hv
      exact Gives.of h1 h2
  case fieldAddr ty x f =>
    have hx := ok x (by simp [Op.operands])
    simp only at hc0
    split at hc0 <;> first | simp at hc0; done | skip
    rename_i fields hu
    split at hc0 <;> first | simp at hc0; done | skip
    rename_i fd hf
    split at hc0 <;> first | simp at hc0; done | skip
    rename_i n hs
    simp only [Option.some.injEq] at hc0; subst hc0
    obtain ⟨v', h1, h2⟩ := P_fieldAddr (w := w) hT hx hu hf hs hv
    exact Gives.of h1 h2
  case field ty x f =>
    have hx := ok x (by simp [Op.operands])
    simp only at hc0
    split at hc0 <;> first | simp at hc0; done | skip
    rename_i fields hu
    split at hc0 <;> first | simp at hc0; done | skip
    rename_i fd hf
    split at hc0 <;> first | simp at hc0; done | skip
    rename_i n g hs
    simp only [Option.some.injEq] at hc0; subst hc0
    obtain ⟨v', h1, h2⟩ := P_field (w := w) hT hx hu hf hs hv
    exact Gives.of h1 h2
  case indexAddr ty x ix =>
    have hx := ok x (by simp [Op.operands])
    have hi := ok ix (by simp [Op.operands])
    simp only at hc0
    split at hc0 <;> first | simp at hc0; done | skip
    · rename_i len e hu
      split at hc0 <;> first | simp at hc0; done | skip
      rename_i n hs
      simp only [Option.some.injEq] at hc0; subst hc0
      obtain ⟨v', h1, h2⟩ := P_adArr (w := w) hT hx hi hu hs hv
      exact Gives.of h1 h2
    · rename_i e hu
      split at hc0 <;> first | simp at hc0; done | skip
      rename_i n hs
      simp only [Option.some.injEq] at hc0; subst hc0
      obtain ⟨v', h1, h2⟩ := P_adSl (w := w) hT hx hi hu hs hv
      exact Gives.of h1 h2
  case index ty x ix =>
    have hx := ok x (by simp [Op.operands])
    have hi := ok ix (by simp [Op.operands])
    simp only at hc0
    split at hc0 <;> first | simp at hc0; done | skip
    · rename_i len e hu
      split at hc0 <;> first | simp at hc0; done | skip
      rename_i n g hs
      simp only [Option.some.injEq] at hc0; subst hc0
      obtain ⟨v', h1, h2⟩ := P_index (w := w) hT hx hi hu hs hv
      exact Gives.of h1 h2
    · rename_i hu
      simp only [Option.some.injEq] at hc0; subst hc0
      have := P_indexStr (P := P) (w := w) hT hx hi hu hv
      exact Gives.of this.1 this.2
  case extract x i =>
    simp only [Option.some.injEq] at hc0; subst hc0
    obtain ⟨v', h1, h2⟩ := P_extract (P := P) (w := w) hT (ok x (by simp [Op.operands])) hv
    exact Gives.of h1 h2
  case build ty parts =>
    have hok : parts.toList.all (fun p => okOpd p.2) = true := by
      simp only [List.all_eq_true]
      exact fun p hp => ok p.2 (by simp only [Op.operands, List.mem_toArray]; simpa using ⟨p.1, by simpa using hp⟩)
    simp only at hc0
    split at hc0 <;> first | simp at hc0; done | skip
    · rename_i z fields hz hu
      split at hc0 <;> first | simp at hc0; done | skip
      rename_i pl hp
      split at hc0 <;> first | simp at hc0; done | skip
      rename_i ps hq
      simp only [Option.some.injEq] at hc0; subst hc0
      obtain ⟨v', h1, h2⟩ := P_build (w := w) hT hok hz (by simpa [closedAll] using hcl) (.inl ⟨_, _, hu, hp, hq⟩) hv
      exact Gives.of h1 h2
    · rename_i z len e hz hu
      split at hc0 <;> first | simp at hc0; done | skip
      rename_i n hs
      split at hc0 <;> first | simp at hc0; done | skip
      rename_i ps hq
      simp only [Option.some.injEq] at hc0; subst hc0
      obtain ⟨v', h1, h2⟩ := P_build (w := w) hT hok hz (by simpa [closedAll] using hcl) (.inr ⟨_, _, _, hu, hs, hq⟩) hv
      exact Gives.of h1 h2
  case typeAssert x xt u okb =>
    have hx := ok x (by simp [Op.operands])
    simp only at hc0
    split at hc0 <;> first | simp at hc0; done | skip
    rename_i d z hni hu hz
    split at hc0 <;> first | simp at hc0; done | skip
    rename_i hcz
    simp only [Option.some.injEq] at hc0; subst hc0
    obtain ⟨v', h1, h2⟩ := P_assertT (w := w) (xt := xt) hT hx hu (fun ms e => hni ms (by rw [e])) hz hcz hv
    exact Gives.of h1 h2
  case makeMap ty r => cases r <;> simp at hc0; subst hc0; simp [cls] at hk
  case call c =>
    simp only [cCall] at hc0
    split at hc0
    · simp only [Option.some.injEq] at hc0; subst hc0; simp [cls] at hk
    · simp only [Option.some.injEq] at hc0; subst hc0; simp [cls] at hk
    rename_i b hb
    have ha := hlen c rfl
    have arr : ∀ {α : Type} {xs : Array α} {l : List α}, xs.toList = l → xs = ⟨l⟩ := fun h => by rw [← h]
    split at hc0
    · rename_i ty x hty hax
      have e1 := arr hty
      have e2 := arr hax
      have hx := ha x (by rw [hax]; simp)
      refine P_call hb (s := Builtin.len_ c.argTypes type (c.args.map a.eval)) rfl ?_
      rw [e1, e2]
      have lens : ∀ str, (if str then P.underlying ty = some .string else ∃ e, P.underlying ty = some (.slice e)) → k' = .len str x → Gives P ρ w v (do pure (.value (← Builtin.len_ #[ty] type (Array.map a.eval #[x])))) := by
        intro str hu hk'
        subst hk'
        simp only [evP] at hv
        split at hv <;> first | (simp at hv; done) | skip
        rename_i u hu'
        have vx := eval_sound hT hx hu'
        refine Gives.of (v' := v) ?_ ?_
        · simp only [List.map_toArray, List.map_cons, List.map_nil]
          generalize a.eval x = x' at vx
          cases str with
          | true =>
            cases u <;> simp only [lenV] at hv <;> first | (simp at hv; done) | skip
            simp only [Option.some.injEq] at hv; subst hv
            cases vx
            simp only [if_true] at hu
            simp [Builtin.len_, run_under hu, goInt]
          | false =>
            cases u <;> simp only [lenV] at hv <;> first | (simp at hv; done) | skip
            simp only [Option.some.injEq] at hv; subst hv
            simp only [Bool.false_eq_true, if_false] at hu
            obtain ⟨e, hu⟩ := hu
            cases vx <;> simp [Builtin.len_, run_under hu, goInt]
        · cases str <;> cases u <;> simp only [lenV] at hv <;> first | (simp at hv; done) | (simp only [Option.some.injEq] at hv; subst hv; exact .int _ _)
      split at hc0 <;> first | (simp at hc0; done) | skip
      · rename_i hu; simp only [Option.some.injEq] at hc0; exact lens true hu hc0.symm
      · rename_i e hu; simp only [Option.some.injEq] at hc0; exact lens false ⟨e, hu⟩ hc0.symm
      · rename_i n e hu
        simp only [Option.some.injEq] at hc0; subst hc0
        simp only [evP, Option.some.injEq] at hv; subst hv
        exact Gives.of (v' := goInt n) (by simp [Builtin.len_, run_under hu]) (.int _ _)
      · simp only [Option.some.injEq] at hc0; subst hc0; simp [cls] at hk
    · rename_i ty x hty hax
      have e1 := arr hty
      have e2 := arr hax
      have hx := ha x (by rw [hax]; simp)
      refine P_call hb (s := Builtin.cap_ c.argTypes type (c.args.map a.eval)) rfl ?_
      rw [e1, e2]
      split at hc0 <;> first | (simp at hc0; done) | skip
      rename_i e hu
      simp only [Option.some.injEq] at hc0; subst hc0
      simp only [evP] at hv
      split at hv <;> first | (simp at hv; done) | skip
      rename_i b n cc hu'
      have vx := eval_sound hT hx hu'
      split at hv <;> first | (simp at hv; done) | skip
      rename_i hlt
      simp only [Option.some.injEq] at hv; subst hv
      refine Gives.of (v' := goInt cc) ?_ (.int _ _)
      simp only [List.map_toArray, List.map_cons, List.map_nil]
      generalize a.eval x = x' at vx
      cases vx with
      | sliceN => simp [Builtin.cap_, run_under hu]
      | slice => simp [Builtin.cap_, run_under hu]
      | sliceU => exfalso; omega
      | sliceE => exact absurd hlt (by decide)
    · (repeat' (split at hc0)) <;> first | (simp at hc0; done) | (simp only [Option.some.injEq] at hc0; subst hc0; simp [cls] at hk; done)
    · (repeat' (split at hc0)) <;> first | (simp at hc0; done) | (simp only [Option.some.injEq] at hc0; subst hc0; simp [cls] at hk; done)
    · (repeat' (split at hc0)) <;> first | (simp at hc0; done) | (simp only [Option.some.injEq] at hc0; subst hc0; simp [cls] at hk; done)
    · (repeat' (split at hc0)) <;> first | (simp at hc0; done) | (simp only [Option.some.injEq] at hc0; subst hc0; simp [cls] at hk; done)
    · simp only [Option.some.injEq] at hc0; subst hc0; simp [cls] at hk
    · rename_i x y hax
      have e2 := arr hax
      have hx := ha x (by rw [hax]; simp)
      have hy := ha y (by rw [hax]; simp)
      refine P_call hb (s := Builtin.min_ c.argTypes type (c.args.map a.eval)) rfl ?_
      rw [e2]
      simp only [Option.some.injEq] at hc0; subst hc0
      simp only [evP] at hv
      split at hv <;> first | (simp at hv; done) | skip
      rename_i u u2 hu hu2
      have vx := eval_sound hT hx hu
      have vy := eval_sound hT hy hu2
      cases u <;> cases u2 <;> simp only [mmV] at hv <;> first | (simp at hv; done) | skip
      split at hv <;> first | (simp at hv; done) | skip
      rename_i hkk
      subst hkk
      simp only [Option.some.injEq, Bool.false_eq_true, if_false] at hv; subst hv
      refine Gives.of ?_ (.int _ _)
      simp only [List.map_toArray, List.map_cons, List.map_nil]
      generalize a.eval x = x' at vx
      generalize a.eval y = y' at vy
      cases vx; cases vy
      simp [Builtin.min_, Builtin.min2]
    · rename_i x y hax
      have e2 := arr hax
      have hx := ha x (by rw [hax]; simp)
      have hy := ha y (by rw [hax]; simp)
      refine P_call hb (s := Builtin.max_ c.argTypes type (c.args.map a.eval)) rfl ?_
      rw [e2]
      simp only [Option.some.injEq] at hc0; subst hc0
      simp only [evP] at hv
      split at hv <;> first | (simp at hv; done) | skip
      rename_i u u2 hu hu2
      have vx := eval_sound hT hx hu
      have vy := eval_sound hT hy hu2
      cases u <;> cases u2 <;> simp only [mmV] at hv <;> first | (simp at hv; done) | skip
      split at hv <;> first | (simp at hv; done) | skip
      rename_i hkk
      subst hkk
      simp only [Option.some.injEq, if_true] at hv; subst hv
      refine Gives.of ?_ (.int _ _)
      simp only [List.map_toArray, List.map_cons, List.map_nil]
      generalize a.eval x = x' at vx
      generalize a.eval y = y' at vy
      cases vx; cases vy
      simp [Builtin.max_, Builtin.max2]
    · simp at hc0
  all_goals
    (try simp only at hc0)
    (repeat' (split at hc0)) <;> first
      | (simp at hc0; done)
      | (simp only [Option.some.injEq] at hc0; subst hc0; simp [cls] at hk; done)
end
end Ev

/- Soundness of the operations that read memory. -/
namespace Ev
open Go

section
variable {P : Program} {ρ : Rho} {s : S} {w : World} {t : List Value} {a : Act}

theorem cells_of (hR : Rel P ρ s w) {b b' r : Nat} {c : List Value} {ty : TypeId} {lo hi : Nat} (hb : ρ b = some (b', r)) (hg : s.h.get b = some (.cells c ty lo hi)) :
    ∃ c' f, w.heap[b']? = some (.cells c' ty f) ∧ r = c'.size ∧ c.length ≤ c'.size ∧ (∀ i v, nth c i = some v → ∃ v', c'[i]? = some v' ∧ VR ρ v v') ∧
      (∀ i, f.1 ≤ i → i < f.2 → i < c'.size → lo ≤ i ∧ i < hi) := by
  obtain ⟨o', h1, h2⟩ := hR.obj _ _ _ _ hg hb
  cases h2 with
  | cells hr hl hv hf => exact ⟨_, _, h1, hr, hl, hv, hf⟩

theorem cell_of {b' : Nat} {c' : Array Value} {ty : TypeId} {f : Nat × Nat} (h : w.heap[b']? = some (.cells c' ty f)) (o : Nat) : w.cell? ⟨b', o, none⟩ = c'[o]? := by
  simp [World.cell?, h]

theorem load_run {ad : Addr} {v : Value} (h : w.cell? ad = some v) : (load ad).run P w = .ok v w := by simp [h]

theorem loadCells_run {b' o : Nat} {c' : Array Value} {ty : TypeId} {f : Nat × Nat} (h : w.heap[b']? = some (.cells c' ty f)) :
    ∀ (n i : Nat) (acc : Array Value), o + i + n ≤ c'.size → (loadCellsFrom ⟨b', o, none⟩ i n acc).run P w = .ok (acc ++ c'.extract (o + i) (o + i + n)) w := by
  intro n
  induction n with
  | zero => intro i acc hn; simp [loadCellsFrom]; omega
  | succ n ih =>
    intro i acc hn
    have hlt : o + i < c'.size := by omega
    simp only [loadCellsFrom, add_eq]
    rw [run_bind_ok (load_run (by rw [cell_of h]; exact Array.getElem?_eq_getElem hlt)), ih (i + 1) _ (by omega)]
    congr 1
    rw [← Array.toList_inj]
    simp only [Array.toList_append, Array.toList_push, Array.toList_extract, List.extract_eq_take_drop, List.append_assoc]
    congr 1
    rw [show o + i + (n + 1) - (o + i) = n + 1 from by omega, show o + (i + 1) + n - (o + (i + 1)) = n from by omega]
    rw [List.drop_eq_getElem_cons (i := o + i) (l := c'.toList) (by simpa using hlt)]
    simp [Nat.add_assoc]

theorem loadV_sound (hR : Rel P ρ s w) {ty : TypeId} {n : Nat} {g : Bool} {x x' v : Value} (hs : shapeT P ty = some (n, g)) (hx : VR ρ x x') (h : loadV s.h n g x = some v) :
    ∃ ad v', x' = .pointer (some ad) ∧ (loadVar ty ad).run P w = .ok v' w ∧ VR ρ v v' := by
  unfold loadV at h
  split at h <;> first | (simp at h; done) | skip
  split at h <;> first | (simp at h; done) | skip
  rename_i c ty0 lo hi hg
  cases hx with
  | @ptr b o b' r sp hb =>
    obtain ⟨c', f, h1, _, _, hv, _⟩ := cells_of hR hb hg
    obtain ⟨ha, hz, hone⟩ := shapeT_some hs
    refine ⟨⟨b', o, none⟩, ?_⟩
    unfold loadVar
    cases g with
    | true =>
      simp only [partV] at h
      split at h <;> first | (simp at h; done) | skip
      rename_i m hm
      simp only [Option.some.injEq] at h; subst h
      refine ⟨.agg (c'.extract o (o + n)), rfl, ?_, .agg ?_⟩
      · rw [run_bind_ok (run_isAgg ha)]
        simp only [if_true]
        rw [run_bind_ok (run_size hz)]
        rcases cut_rel hv _ _ _ hm with ⟨h2, _⟩ | ⟨rfl, _⟩
        · unfold loadCells
          have := loadCells_run (P := P) h1 n 0 #[] (by omega)
          rw [run_bind_ok this]
          simp
        · simp [loadCells, loadCellsFrom]; omega
      · rcases cut_rel hv _ _ _ hm with ⟨_, h2⟩ | ⟨rfl, rfl⟩
        · exact h2
        · simp; exact .nil
    | false =>
      simp only [partV] at h
      obtain ⟨v', h2, h3⟩ := hv _ _ h
      refine ⟨v', rfl, ?_, h3⟩
      rw [run_bind_ok (run_isAgg ha)]
      simp only [Bool.false_eq_true, if_false]
      exact load_run (by rw [cell_of h1]; exact h2)

/-! maps -/
theorem keyEq_now {kk : KK} {d : TypeDesc} {x x' y y' : Value} {b : Bool} (hd : kk = .int ∧ (∃ k, d = .int k) ∨ kk = .str ∧ d = .string) (hx : VR ρ x x') (hy : VR ρ y y') (h : keyEq kk x y = some b) :
    Instr.sameNow d x' y' = some b := by
  rcases hd with ⟨rfl, k, rfl⟩ | ⟨rfl, rfl⟩ <;> cases x <;> cases y <;> simp only [keyEq] at h <;> first | (simp at h; done) | skip
  · cases hx; cases hy; exact h
  · cases hx; cases hy; exact h

theorem find_now {kk : KK} {d : TypeDesc} {x x' : Value} (hd : kk = .int ∧ (∃ k, d = .int k) ∨ kk = .str ∧ d = .string) (hx : VR ρ x x') :
    ∀ {es es' : List MapEntry} {i : Nat} {r : Option (Nat × MapEntry)}, L2 (ER ρ) es es' → find kk x es i = some r →
      match r with
      | none => Instr.findNow d x' es' i = some none
      | some (j, e) => ∃ e', Instr.findNow d x' es' i = some (some (j, e'.val)) ∧ ER ρ e e' ∧ i ≤ j ∧ nth es (j - i) = some e ∧ es'[j - i]? = some e' ∧ keyEq kk x e.key = some true := by
  intro es es' i r hl
  induction hl generalizing i r with
  | nil => intro h; simp only [find, Option.some.injEq] at h; subst h; rfl
  | @cons e e' es es' he _ ih =>
    intro h
    simp only [find] at h
    split at h
    · rename_i hk
      simp only [Option.some.injEq] at h; subst h
      refine ⟨e', ?_, he, Nat.le_refl _, by simp [nth], by simp, hk⟩
      simp only [Instr.findNow, keyEq_now hd hx he.1 hk]
    · rename_i hk
      have := ih h
      cases r with
      | none =>
        simp only at this ⊢
        simp only [Instr.findNow, keyEq_now hd hx he.1 hk]
        exact this
      | some je =>
        obtain ⟨j, e0⟩ := je
        obtain ⟨e0', h1, h2, h3, h4, h5, h6⟩ := this
        refine ⟨e0', ?_, h2, by omega, ?_, ?_, h6⟩
        · simp only [Instr.findNow, keyEq_now hd hx he.1 hk]; exact h1
        · rw [show j - i = (j - (i + 1)) + 1 from by omega]; exact h4
        · rw [show j - i = (j - (i + 1)) + 1 from by omega]; simpa using h5
    · simp at h

theorem cKey_desc {kt : TypeId} {kk : KK} (h : cKey P kt = some kk) : ∃ d, P.underlying kt = some d ∧ (kk = .int ∧ (∃ k, d = .int k) ∨ kk = .str ∧ d = .string) := by
  unfold cKey at h
  split at h <;> simp at h <;> subst h
  · exact ⟨_, ‹_›, .inl ⟨rfl, _, rfl⟩⟩
  · exact ⟨_, ‹_›, .inr ⟨rfl, rfl⟩⟩

theorem checkKey_run {kt : TypeId} {d : TypeDesc} {b : Bool} {n : Nat} (hu : P.underlying kt = some d) (hd : (∃ k, d = .int k) ∨ d = .string) (x : Value) :
    (Instr.checkKey b (n + 1) kt x).run P w = .ok () w := by
  simp only [Instr.checkKey]
  rw [run_bind_ok (run_under hu)]
  rcases hd with ⟨k, rfl⟩ | rfl <;> cases x <;> rfl

theorem findKey_run {kt : TypeId} {kk : KK} {x x' : Value} {es es' : List MapEntry} {r : Option (Nat × MapEntry)} (hc : cKey P kt = some kk) (hx : VR ρ x x') (hl : L2 (ER ρ) es es')
    (h : find kk x es 0 = some r) :
    match r with
    | none => (Instr.findKey kt x' es').run P w = .ok none w
    | some (j, e) => ∃ e', (Instr.findKey kt x' es').run P w = .ok (some (j, e'.val)) w ∧ ER ρ e e' ∧ nth es j = some e ∧ es'[j]? = some e' ∧ keyEq kk x e.key = some true := by
  obtain ⟨d, hu, hd⟩ := cKey_desc hc
  have := find_now hd hx hl h
  cases r with
  | none =>
    simp only at this ⊢
    simp only [Instr.findKey]
    rw [run_bind_ok (run_under hu)]
    simp only [this]
    rfl
  | some je =>
    obtain ⟨j, e⟩ := je
    obtain ⟨e', h1, h2, _, h3, h4, h5⟩ := this
    refine ⟨e', ?_, h2, by simpa using h3, by simpa using h4, h5⟩
    simp only [Instr.findKey]
    rw [run_bind_ok (run_under hu)]
    simp only [h1]
    rfl

theorem map_of (hR : Rel P ρ s w) {b b' r : Nat} {es : List MapEntry} {clock : Nat} (hb : ρ b = some (b', r)) (hg : s.h.get b = some (.map es clock)) :
    ∃ es', w.heap[b']? = some (.map es' clock) ∧ L2 (ER ρ) es es'.toList := by
  obtain ⟨o', h1, h2⟩ := hR.obj _ _ _ _ hg hb
  cases h2 with
  | map h => exact ⟨_, h1, h⟩

theorem getObj_run {r : Nat} {o : Obj} (h : w.heap[r]? = some o) (hc : ∀ c t f, o ≠ .cells c t f) : (getObj r).run P w = .ok o w := by
  simp only [getObj, Sem.run, h]

theorem R_lookup (hR : Rel P ρ s w) {ty key el : TypeId} {kk : KK} {z m m' x x' v : Value} {ok : Bool} (hu : P.underlying ty = some (.map key el)) (hk : cKey P key = some kk)
    (hz : zeroT P el = some z) (hcl : closed z = true) (hm : VR ρ m m') (hx : VR ρ x x') (h : lookupV s.h kk z ok m x = some v) :
    ∃ v', (Instr.lookup ty m' x' ok).run P w = .ok v' w ∧ VR ρ v v' := by
  obtain ⟨d, hd, hd'⟩ := cKey_desc hk
  have hck : ∀ b, (Instr.checkKey b 10000 key x').run P w = .ok () w := fun b => checkKey_run hd (hd'.elim (fun h => .inl h.2) (fun h => .inr h.2)) x'
  have hzz : VR ρ z z := closed_VR hcl
  have fin : ∀ (v v' : Value) (b : Bool), VR ρ v v' → VR ρ (if ok then .tuple #[v, .bool b] else v) (if ok then .tuple #[v', .bool b] else v') := by
    intro v v' b hv
    cases ok
    · exact hv
    · exact .tuple (.cons hv (.cons (.bool _) .nil))
  simp only [lookupV] at h
  split at h <;> first | (simp at h; done) | skip
  · split at h <;> first | (simp at h; done) | skip
    rename_i r b hf hb
    simp only [find, Option.some.injEq] at hf
    subst hf
    simp only [Option.some.injEq] at h; subst h
    cases hm
    refine ⟨_, ?_, fin z z false hzz⟩
    simp only [Instr.lookup]
    rw [run_bind_ok (run_under hu)]
    simp only []
    rw [run_bind_ok (run_pure _), run_bind_ok (hck _)]
    have := findKey_run (w := w) hk hx (L2.nil (R := ER ρ)) (r := none) (by simp [find])
    rw [run_bind_ok this]
    simp [run_zero hz]
  · split at h <;> first | (simp at h; done) | skip
    rename_i r es clock hg
    cases hm with
    | @map _ m0 r0 hb =>
      obtain ⟨es', h1, h2⟩ := map_of hR hb hg
      have hgo := getObj_run (P := P) h1 (by simp)
      split at h <;> first | (simp at h; done) | skip
      · rename_i i e b hf hbb
        simp only [Option.some.injEq] at h; subst h
        obtain ⟨e', h3, h4, _⟩ := findKey_run (w := w) hk hx h2 hf
        refine ⟨_, ?_, fin e.val e'.val true h4.2.1⟩
        simp only [Instr.lookup]
        rw [run_bind_ok (run_under hu)]
        simp [hgo, hck, h3]
      · rename_i b hf hbb
        simp only [Option.some.injEq] at h; subst h
        have h3 := findKey_run (w := w) hk hx h2 hf
        refine ⟨_, ?_, fin z z false hzz⟩
        simp only [Instr.lookup]
        rw [run_bind_ok (run_under hu)]
        simp [hgo, hck, h3, run_zero hz]

theorem L2.length {α β : Type} {R : α → β → Prop} {l : List α} {m : List β} (h : L2 R l m) : l.length = m.length := by
  induction h with
  | nil => rfl
  | cons _ _ ih => simp [ih]

theorem bytes_run : ∀ {l : List Value} {l' : List Value} {bs : List UInt8} {acc : ByteArray}, bytesOfCells l = some bs → VRL ρ l l' →
    (forIn (m := Sem) l' acc fun c s => do
      let .int .u8 n := c | stuck "bytesToString: byte expected"
      pure (ForInStep.yield (s.push (UInt8.ofNat n.toNat)))).run P w = .ok ⟨(acc.data.toList ++ bs).toArray⟩ w := by
  intro l
  induction l with
  | nil => intro l' bs acc h hl; cases hl; simp only [bytesOfCells, Option.some.injEq] at h; subst h; simp
  | cons v l ih =>
    intro l' bs acc h hl
    cases hl with
    | cons hv ht =>
      cases v <;> (try simp only [bytesOfCells] at h) <;> first | (simp at h; done) | skip
      rename_i k n
      cases k <;> (try simp only [bytesOfCells] at h) <;> first | (simp at h; done) | skip
      split at h <;> first | (simp at h; done) | skip
      rename_i bs' hbs
      simp only [Option.some.injEq] at h; subst h
      cases hv
      simp only [List.forIn_cons]
      have := ih (acc := acc.push (UInt8.ofNat n.toNat)) hbs ht
      rw [run_bind_ok (a := ForInStep.yield (acc.push (UInt8.ofNat n.toNat))) (w' := w) rfl]
      refine this.trans ?_
      congr 1
      simp [ByteArray.push]

theorem first_run (hR : Rel P ρ s w) {size n : Nat} {x x' : Value} {l : List Value} (hx : VR ρ x x') (h : firstV s.h size n x = some l)
    (hn : ∀ a m c, x = .slice a m c → n ≤ m) (hs : ∀ b, x = .string b → n ≤ b.size) :
    ∃ l', (Builtin.firstCells size n x').run P w = .ok l' w ∧ VRL ρ l l'.toList := by
  unfold firstV at h
  split at h <;> first | (simp at h; done) | skip
  · split at h <;> first | (simp at h; done) | skip
    rename_i ad m0 c0 _ c ty lo hi hg
    have key : ∀ b o b' r sp c1, ad = ⟨b, o, sp⟩ → ρ b = some (b', r) → x' = .slice (some ⟨b', o, none⟩) m0 c1 →
        ∃ l', (Builtin.firstCells size n x').run P w = .ok l' w ∧ VRL ρ l l'.toList := by
      intro b o b' r sp c1 e1 hb e2
      subst e1; subst e2
      obtain ⟨c', f, h1, _, _, hv, _⟩ := cells_of hR hb hg
      refine ⟨c'.extract o (o + n * size), ?_, ?_⟩
      · simp only [Builtin.firstCells, loadCells]
        rcases cut_rel hv _ _ _ h with ⟨h2, _⟩ | ⟨h0, _⟩
        · have := loadCells_run (P := P) h1 (n * size) 0 #[] (by omega)
          rw [this]; simp
        · rw [h0]; simp [loadCellsFrom]; omega
      · rcases cut_rel hv _ _ _ h with ⟨_, h2⟩ | ⟨h0, rfl⟩
        · exact h2
        · rw [h0]; simp; exact .nil
    cases hx with
    | slice hb _ => exact key _ _ _ _ _ _ rfl hb rfl
    | sliceU hb _ _ _ => exact key _ _ _ _ _ _ rfl hb rfl
  · split at h <;> first | (simp at h; done) | skip
    rename_i m c h0
    simp only [Option.some.injEq] at h; subst h; subst h0
    cases hx with
    | sliceN => exact ⟨#[], rfl, .nil⟩
    | sliceE a' c' =>
      cases a' with
      | none => exact ⟨#[], rfl, .nil⟩
      | some a' => refine ⟨#[], ?_, .nil⟩; simp [Builtin.firstCells, loadCells, loadCellsFrom]
  · split at h <;> first | (simp at h; done) | skip
    rename_i b hc
    simp only [Option.some.injEq] at h; subst h
    cases hx
    refine ⟨_, rfl, ?_⟩
    have : ((b.extract 0 n).data.map fun b => Value.int .u8 b.toNat).toList = (b.data.toList.take n).map fun b => Value.int .u8 b.toNat := by
      simp [ByteArray.extract, ByteArray.copySlice]
    rw [this]
    generalize b.data.toList.take n = l
    induction l with
    | nil => exact .nil
    | cons a l ih => exact .cons (.int _ _) ih
end
end Ev

/- Soundness of the operations that read memory, together. -/
namespace Ev
open Go

section
variable {P : Program} {ρ : Rho} {s : S} {w : World} {t : List Value} {a : Act}

theorem find_born {es es' : List MapEntry} (h : L2 (ER ρ) es es') {b : Nat} {e : MapEntry} (hf : es.find? (·.born == b) = some e) :
    ∃ e', es'.find? (·.born == b) = some e' ∧ ER ρ e e' := by
  induction h with
  | nil => simp at hf
  | @cons x y l m hxy _ ih =>
    simp only [List.find?_cons] at hf ⊢
    rw [hxy.2.2]
    cases hb : (x.born == b) with
    | true => simp only [hb] at hf ⊢; simp only [Option.some.injEq] at hf; subst hf; exact ⟨y, rfl, hxy⟩
    | false => simp only [hb] at hf ⊢; exact ih hf

theorem iter_of (hR : Rel P ρ s w) {b b' r : Nat} {m : Option Id} {since last : Nat} {seen : List Nat} (hb : ρ b = some (b', r)) (hg : s.h.get b = some (.mapIter m since seen last)) :
    ∃ m', w.heap[b']? = some (.mapIter m' since seen.toArray last) ∧ (m = none → m' = none) ∧ (∀ x, m = some x → ∃ x' y, m' = some x' ∧ ρ x = some (x', y)) := by
  obtain ⟨o', h1, h2⟩ := hR.obj _ _ _ _ hg hb
  cases h2 with
  | mapIterN => exact ⟨none, h1, (fun _ => rfl), (fun x h => by cases h)⟩
  | mapIter hm => exact ⟨_, h1, (fun h => by cases h), (fun x h => by cases h; exact ⟨_, _, rfl, hm⟩)⟩

theorem toStr_run {x' : Value} {l : List Value} {bs : List UInt8} {ad : Addr} {n c : Nat} {l' : Array Value} (hx : x' = .slice (some ad) n c) (h1 : (Builtin.firstCells 1 n x').run P w = .ok l' w)
    (h2 : VRL ρ l l'.toList) (hb : bytesOfCells l = some bs) : (Conv.bytesToString x').run P w = .ok (.string ⟨bs.toArray⟩) w := by
  subst hx
  simp only [Builtin.firstCells, Nat.mul_one] at h1
  simp only [Conv.bytesToString]
  rw [run_bind_ok h1]
  simp only [← Array.forIn_toList]
  have hb' := bytes_run (P := P) (w := w) (acc := ByteArray.empty) hb h2
  refine (run_bind_ok (a := ⟨bs.toArray⟩) (w' := w) ?_).trans rfl
  exact hb'

theorem R_sound {o : Oper} {k : MK} {v : Value} (hR : Rel P ρ s w) (hT : VRL ρ t a.tmps.toList) (hc : cOp P o = some k) (hk : cls k = .r) (hv : evR k t s.h = some v) :
    Gives P ρ w v (execOp a.eval o) := by
  unfold cOp at hc
  split at hc <;> first | simp at hc; done | skip
  rename_i hok
  split at hc <;> first | simp at hc; done | skip
  rename_i k' hc0
  split at hc <;> first | simp at hc; done | skip
  rename_i hcl
  simp only [Option.some.injEq] at hc; subst hc
  have ok : ∀ x, x ∈ o.op.operands.toList → okOpd x = true := fun x hx => okOpd_of hok hx
  clear hok
  obtain ⟨dst, op, type, pos, after, guard⟩ := o
  simp only at ok
  unfold cOp0 at hc0
  have hlen : ∀ (c : Call), op = .call c → ∀ x, x ∈ c.args.toList → okOpd x = true := by
    intro c e x hx
    subst e
    exact ok x (by simp only [Op.operands, Call.operands]; cases c.callee <;> simp [hx])
  cases op <;> try (simp at hc0; done)
  case load ty x =>
    simp only at hc0
    split at hc0 <;> first | simp at hc0; done | skip
    rename_i n g hs
    simp only [Option.some.injEq] at hc0; subst hc0
    simp only [evR] at hv
    split at hv <;> first | (simp at hv; done) | skip
    rename_i u hu
    have vx := eval_sound hT (ok x (by simp [Op.operands])) hu
    obtain ⟨ad, v', h1, h2, h3⟩ := loadV_sound hR hs vx hv
    refine Gives.of (v' := v') ?_ h3
    simp only [Instr.loadAt, h1, Instr.sureAddr]
    rw [run_bind_ok (run_pure _)]
    exact h2
  case lookup ty m x okb =>
    simp only at hc0
    split at hc0 <;> first | simp at hc0; done | skip
    rename_i key el hu
    split at hc0 <;> first | simp at hc0; done | skip
    rename_i kk z hkk hz
    split at hc0 <;> first | simp at hc0; done | skip
    rename_i hcz
    simp only [Option.some.injEq] at hc0; subst hc0
    simp only [evR] at hv
    split at hv <;> first | (simp at hv; done) | skip
    rename_i u u2 hu1 hu2
    obtain ⟨v', h1, h2⟩ := R_lookup hR hu hkk hz hcz (eval_sound hT (ok m (by simp [Op.operands])) hu1) (eval_sound hT (ok x (by simp [Op.operands])) hu2) hv
    exact Gives.of h1 h2
  case entry it =>
    simp only [Option.some.injEq] at hc0; subst hc0
    simp only [evR] at hv
    split at hv <;> first | (simp at hv; done) | skip
    rename_i r sp hu
    split at hv <;> first | (simp at hv; done) | skip
    rename_i m since seen last hg
    split at hv <;> first | (simp at hv; done) | skip
    rename_i es clock stamp hgm hlast
    split at hv <;> first | (simp at hv; done) | skip
    rename_i hcl2
    split at hv <;> first | (simp at hv; done) | skip
    rename_i e he
    simp only [Option.some.injEq] at hv; subst hv
    have vx := eval_sound hT (ok it (by simp [Op.operands])) hu
    cases hxx : a.eval it <;> rw [hxx] at vx <;> cases vx
    rename_i b' rr hb
    obtain ⟨m', h1, _, h3⟩ := iter_of hR hb hg
    obtain ⟨x', y, rfl, hm⟩ := h3 m rfl
    obtain ⟨es', h4, h5⟩ := map_of hR hm hgm
    obtain ⟨e', h6, h7⟩ := find_born h5 he
    refine Gives.of (v' := .tuple #[e'.key, e'.val]) ?_ (.tuple (.cons h7.1 (.cons h7.2.1 .nil)))
    rw [hxx]
    simp only [Instr.entry]
    rw [run_bind_ok (getObj_run h1 (by simp))]
    simp only []
    have hb : seen.toArray.back? = some stamp := by rw [← hlast]; simp [Array.back?_eq_getElem?, List.getLast?_eq_getElem?]
    simp only [hb]
    rw [run_bind_ok (getObj_run h4 (by simp))]
    subst hcl2
    have h6' : Array.find? (fun x => x.born == stamp) es' = some e' := by rw [← h6, Array.find?_toList]
    simp [h6']
  case convert src dst' x =>
    have hx := ok x (by simp [Op.operands])
    simp only at hc0
    split at hc0
    · simp only [Option.some.injEq] at hc0; subst hc0; simp [cls] at hk
    · simp only [Option.some.injEq] at hc0; subst hc0; simp [cls] at hk
    · simp only [Option.some.injEq] at hc0; subst hc0; simp [cls] at hk
    · rename_i e hs hd
      split at hc0 <;> first | (simp at hc0; done) | skip
      rename_i he
      simp only [Option.some.injEq] at hc0; subst hc0
      have fin : ∀ r b n c, a.eval x = .slice b n c → (Conv.bytesToString (.slice b n c)).run P w = .ok r w → (convert src dst' (a.eval x)).run P w = .ok r w := by
        intro r b n c e1 e2
        rw [e1]
        simp only [convert]
        rw [run_bind_ok (run_under hs), run_bind_ok (run_under hd)]
        simp only []
        rw [run_bind_ok (run_under he)]
        exact e2
      simp only [evR] at hv
      split at hv <;> first | (simp at hv; done) | skip
      · rename_i n c hu
        simp only [Option.some.injEq] at hv; subst hv
        have vx := eval_sound hT hx hu
        refine Gives.of (v' := .string .empty) ?_ (.string _)
        cases hxx : a.eval x <;> rw [hxx] at vx <;> cases vx
        · rw [← hxx]; exact fin _ _ _ _ hxx rfl
        · rw [← hxx]
          have emp0 : ∀ (a0 : Option Addr) (c : Nat), (Conv.bytesToString (.slice a0 0 c)).run P w = .ok (.string .empty) w := by
            intro a0 c
            cases a0 with
            | none => rfl
            | some a0 => simp [Conv.bytesToString, loadCells, loadCellsFrom]
          exact fin _ _ _ _ hxx (emp0 _ _)
      · rename_i ad n c hu
        split at hv <;> first | (simp at hv; done) | skip
        rename_i l hl
        split at hv <;> first | (simp at hv; done) | skip
        rename_i bs hbs
        simp only [Option.some.injEq] at hv; subst hv
        have vx := eval_sound hT hx hu
        obtain ⟨l', h1, h2⟩ := first_run hR vx hl (fun a m c e => by cases e; exact Nat.le_refl _) (fun b e => by cases e)
        refine Gives.of (v' := .string ⟨bs.toArray⟩) ?_ (.string _)
        cases hxx : a.eval x <;> rw [hxx] at vx h1 <;> cases vx
        · rw [← hxx]; exact fin _ _ _ _ hxx (toStr_run rfl h1 h2 hbs)
        · rw [← hxx]; exact fin _ _ _ _ hxx (toStr_run rfl h1 h2 hbs)
    · split at hc0 <;> simp at hc0; subst hc0; simp [cls] at hk
    · simp at hc0
  case makeMap ty r => cases r <;> simp at hc0; subst hc0; simp [cls] at hk
  case makeFunc fn first captured => cases fn <;> simp at hc0; subst hc0; simp [cls] at hk
  case binOp op ty x y yt =>
    simp only at hc0
    unfold cBin cEqOp at hc0
    (repeat' (split at hc0)) <;> first
      | (simp at hc0; done)
      | (simp only [Option.some.injEq] at hc0; subst hc0; simp [cls] at hk; done)
  case call c =>
    simp only [cCall] at hc0
    split at hc0
    · simp only [Option.some.injEq] at hc0; subst hc0; simp [cls] at hk
    · simp only [Option.some.injEq] at hc0; subst hc0; simp [cls] at hk
    rename_i b hb
    have ha := hlen c rfl
    have arr : ∀ {α : Type} {xs : Array α} {l : List α}, xs.toList = l → xs = ⟨l⟩ := fun h => by rw [← h]
    split at hc0
    · rename_i ty x hty hax
      have e1 := arr hty
      have e2 := arr hax
      have hx := ha x (by rw [hax]; simp)
      split at hc0 <;> first | (simp at hc0; done) | (simp only [Option.some.injEq] at hc0; subst hc0; simp [cls] at hk; done) | skip
      rename_i kt et hu
      simp only [Option.some.injEq] at hc0; subst hc0
      refine P_call hb (s := Builtin.len_ c.argTypes type (c.args.map a.eval)) rfl ?_
      rw [e1, e2]
      simp only [List.map_toArray, List.map_cons, List.map_nil]
      simp only [evR] at hv
      split at hv <;> first | (simp at hv; done) | skip
      · rename_i hu'
        simp only [Option.some.injEq] at hv; subst hv
        have vx := eval_sound hT hx hu'
        refine Gives.of (v' := goInt 0) ?_ (.int _ _)
        generalize a.eval x = x' at vx
        cases vx
        simp [Builtin.len_, run_under hu]
      · rename_i r hu'
        split at hv <;> first | (simp at hv; done) | skip
        rename_i es clock hg
        simp only [Option.some.injEq] at hv; subst hv
        have vx := eval_sound hT hx hu'
        refine Gives.of (v' := goInt es.length) ?_ (.int _ _)
        generalize a.eval x = x' at vx
        cases vx with
        | map hb =>
          obtain ⟨es', h1, h2⟩ := map_of hR hb hg
          have hl := h2.length
          simp only [Builtin.len_]
          simp only [List.getElem?_toArray, List.getElem?_cons_zero]
          rw [run_bind_ok (run_under hu)]
          simp only []
          rw [run_bind_ok (getObj_run h1 (by simp))]
          simp only []
          rw [hl]; simp
    all_goals
      (repeat' (split at hc0)) <;> first
        | (simp at hc0; done)
        | (simp only [Option.some.injEq] at hc0; subst hc0; simp [cls] at hk; done)
  all_goals
    (try simp only at hc0)
    (repeat' (split at hc0)) <;> first
      | (simp at hc0; done)
      | (simp only [Option.some.injEq] at hc0; subst hc0; simp [cls] at hk; done)
end
end Ev

/- Soundness of the operations that make a block; how states go on when a block is made, changed, or moved. -/
namespace Ev
open Go

def Rho.put (ρ : Rho) (i : Nat) (x : Nat × Nat) : Rho := fun j => if j = i then some x else ρ j

theorem Rho.sub_put {ρ : Rho} {i : Nat} {x : Nat × Nat} (h : ρ i = none) : Sub ρ (ρ.put i x) := by
  intro j y hy
  unfold Rho.put
  split
  · rename_i e; subst e; rw [h] at hy; cases hy
  · exact hy

theorem Rho.put_same {ρ : Rho} {i : Nat} {x : Nat × Nat} : ρ.put i x i = some x := by simp [Rho.put]
theorem Rho.put_ne {ρ : Rho} {i j : Nat} {x : Nat × Nat} (h : j ≠ i) : ρ.put i x j = ρ j := by simp [Rho.put, h]

/-- 'w'' is 'w' with one block more. -/
structure Push (w : World) (o : Obj) (w' : World) : Prop where
  heap : w'.heap = w.heap.push o
  tape : w'.tape = w.tape
  os : w'.os = w.os
  output : w'.output = w.output

/-- What may become of a block: cells stay cells, of the same type, frozen range and number. -/
def Kd (o o2 : Obj) : Prop := (∃ c c' t f, o = .cells c t f ∧ o2 = .cells c' t f ∧ c'.size = c.size) ∨ ((∀ c t f, o ≠ .cells c t f) ∧ (∀ c t f, o2 ≠ .cells c t f))

theorem Kd.refl (o : Obj) : Kd o o := by
  by_cases h : ∃ c t f, o = .cells c t f
  · obtain ⟨c, t, f, rfl⟩ := h; exact .inl ⟨c, c, t, f, rfl, rfl, rfl⟩
  · exact .inr ⟨fun c t f e => h ⟨c, t, f, e⟩, fun c t f e => h ⟨c, t, f, e⟩⟩

theorem Kd.trans {o o1 o2 : Obj} (h : Kd o o1) (h' : Kd o1 o2) : Kd o o2 := by
  rcases h with ⟨c, c', t, f, rfl, rfl, h1⟩ | ⟨h1, h2⟩
  · rcases h' with ⟨d, d', t', f', e, rfl, h3⟩ | ⟨h3, _⟩
    · simp only [Obj.cells.injEq] at e
      obtain ⟨rfl, rfl, rfl⟩ := e
      exact .inl ⟨c, d', t, f, rfl, rfl, h3.trans h1⟩
    · exact absurd rfl (h3 _ _ _)
  · rcases h' with ⟨d, d', t', f', rfl, rfl, h3⟩ | ⟨h3, h4⟩
    · exact absurd rfl (h2 _ _ _)
    · exact .inr ⟨h1, h4⟩

/-- 'w'' is 'w' but for one block. -/
structure Upd (w : World) (b : Nat) (o : Obj) (w' : World) : Prop where
  size : w'.heap.size = w.heap.size
  at_ : w'.heap[b]? = some o
  ne : ∀ i, i ≠ b → w'.heap[i]? = w.heap[i]?
  tape : w'.tape = w.tape
  os : w'.os = w.os
  output : w'.output = w.output
  kd : ∃ o0, w.heap[b]? = some o0 ∧ Kd o0 o

theorem Push.keep {w w' : World} {o : Obj} (h : Push w o w') : Keep w w' where
  cells := fun b c t f e => ⟨c, by
    have := (Array.getElem?_eq_some_iff.1 e).1
    rw [h.heap, Array.getElem?_push, if_neg (by omega)]; exact e, rfl⟩
  size := by rw [h.heap, Array.size_push]; omega
  fz := fun a ha => by
    simp only [World.frozen?, h.heap, Array.getElem?_push]
    rw [if_neg (by omega)]

theorem Upd.keep {w w' : World} {b : Nat} {o : Obj} (h : Upd w b o w') : Keep w w' where
  cells := fun i c t f e => by
    by_cases hi : i = b
    · subst hi
      obtain ⟨o0, h1, h2⟩ := h.kd
      rw [h1] at e
      simp only [Option.some.injEq] at e; subst e
      rcases h2 with ⟨d, d', t', f', e1, rfl, h3⟩ | ⟨h3, _⟩
      · simp only [Obj.cells.injEq] at e1
        obtain ⟨rfl, rfl, rfl⟩ := e1
        exact ⟨d', h.at_, h3⟩
      · exact absurd rfl (h3 _ _ _)
    · exact ⟨c, by rw [h.ne i hi]; exact e, rfl⟩
  size := by rw [h.size]; exact Nat.le_refl _
  fz := fun a _ => by
    by_cases hi : a.block = b
    · obtain ⟨o0, h1, h2⟩ := h.kd
      simp only [World.frozen?, hi, h1, h.at_]
      rcases h2 with ⟨d, d', t', f', rfl, rfl, h3⟩ | ⟨h3, h4⟩
      · rfl
      · cases o <;> cases o0 <;> first | rfl | exact absurd rfl (h3 _ _ _) | exact absurd rfl (h4 _ _ _)
    · simp only [World.frozen?, h.ne _ hi]

section
variable {P : Program} {ρ : Rho} {s : S} {w : World} {t : List Value} {a : Act}

theorem rel_new (hR : Rel P ρ s w) {i r c' : Nat} {o : AObj} {o' : Obj} {w' : World} (hi : ρ i = none) (hle : s.c ≤ c') (hic : i < c') (hw : Push w o' w')
    (ho : OR P (ρ.put i (w.heap.size, r)) r o o') : Rel P (ρ.put i (w.heap.size, r)) { h := s.h.set i (some o), c := c' } w' where
  obj := fun j o1 b r1 hg hb => by
    simp only [Tr.get_set] at hg
    split at hg
    · rename_i e; subst e
      simp only [Option.some.injEq] at hg; subst hg
      rw [Rho.put_same] at hb
      simp only [Option.some.injEq, Prod.mk.injEq] at hb
      obtain ⟨rfl, rfl⟩ := hb
      exact ⟨o', by rw [hw.heap]; simp, ho⟩
    · rename_i e
      rw [Rho.put_ne e] at hb
      obtain ⟨o1', h1, h2⟩ := hR.obj j o1 b r1 hg hb
      have hlt := hR.blk _ _ _ hb
      exact ⟨o1', by rw [hw.heap, Array.getElem?_push, if_neg (by omega)]; exact h1, h2.mono (Rho.sub_put hi)⟩
  inj := fun j k o1 o2 b r1 r2 hj hk hbj hbk => by
    simp only [Tr.get_set] at hj hk
    by_cases ej : j = i
    · subst ej
      rw [Rho.put_same] at hbj
      simp only [Option.some.injEq, Prod.mk.injEq] at hbj
      by_cases ek : k = j
      · exact ek.symm
      · rw [Rho.put_ne ek] at hbk; have := hR.blk _ _ _ hbk; omega
    · rw [if_neg ej] at hj
      rw [Rho.put_ne ej] at hbj
      by_cases ek : k = i
      · subst ek
        rw [Rho.put_same] at hbk
        simp only [Option.some.injEq, Prod.mk.injEq] at hbk
        have := hR.blk _ _ _ hbj; omega
      · rw [if_neg ek] at hk
        rw [Rho.put_ne ek] at hbk
        exact hR.inj j k _ _ _ _ _ hj hk hbj hbk
  fresh := fun j hj => by
    rw [Rho.put_ne (by simp only at hj; omega)]
    exact hR.fresh j (by simp only at hj; omega)
  blk := fun j b r1 hb => by
    rw [hw.heap, Array.size_push]
    by_cases e : j = i
    · subst e; rw [Rho.put_same] at hb; simp only [Option.some.injEq, Prod.mk.injEq] at hb; omega
    · rw [Rho.put_ne e] at hb; have := hR.blk _ _ _ hb; omega
  wf := fun j hj => by
    simp only at hj
    simp only [Tr.get_set]
    rw [if_neg (by omega)]
    exact hR.wf j (by omega)

theorem ext_new (hR : Rel P ρ s w) {N : Nat → Prop} {i r c' : Nat} {o : AObj} {o' : Obj} {w' : World} (hi : ρ i = none) (hle : s.c ≤ c') (hic : i < c') (hlo : N i ∨ s.c ≤ i) (hw : Push w o' w') :
    Ext N ρ s w (ρ.put i (w.heap.size, r)) { h := s.h.set i (some o), c := c' } w' where
  sub := Rho.sub_put hi
  new := fun j h1 h2 => by
    by_cases e : j = i
    · subst e; exact ⟨hlo, hic⟩
    · rw [Rho.put_ne e] at h2; exact absurd h1 h2
  dead := fun j h1 h2 h3 => by
    simp only [Tr.get_set]
    rw [if_neg (fun e => by subst e; exact hlo.elim h2 (fun h => by omega))]
    exact h3
  cle := hle
  size := by rw [hw.heap, Array.size_push]; omega
  frame := fun b hb _ => by rw [hw.heap, Array.getElem?_push, if_neg (by omega)]
  img := fun j o1 b r1 hg hb hlt => by
    simp only [Tr.get_set] at hg
    by_cases e : j = i
    · subst e; rw [Rho.put_same] at hb; simp only [Option.some.injEq, Prod.mk.injEq] at hb; omega
    · rw [if_neg e] at hg; rw [Rho.put_ne e] at hb; exact ⟨j, o1, r1, hg, hb, id⟩
  tape := hw.tape
  os := hw.os
  output := hw.output
  keep := hw.keep

theorem rel_upd (hR : Rel P ρ s w) {i b r : Nat} {o o2 : AObj} {o2' : Obj} {w' : World} (hg : s.h.get i = some o) (hb : ρ i = some (b, r)) (hw : Upd w b o2' w')
    (ho : OR P ρ r o2 o2') : Rel P ρ { s with h := s.h.set i (some o2) } w' where
  obj := fun j o1 b1 r1 hgj hbj => by
    simp only [Tr.get_set] at hgj
    by_cases e : j = i
    · subst e
      rw [if_pos rfl] at hgj
      simp only [Option.some.injEq] at hgj; subst hgj
      rw [hb] at hbj
      simp only [Option.some.injEq, Prod.mk.injEq] at hbj
      obtain ⟨rfl, rfl⟩ := hbj
      exact ⟨o2', hw.at_, ho⟩
    · rw [if_neg e] at hgj
      obtain ⟨o1', h1, h2⟩ := hR.obj j o1 b1 r1 hgj hbj
      refine ⟨o1', ?_, h2⟩
      rw [hw.ne _ fun eb => e (by subst eb; exact hR.inj j i _ _ _ _ _ hgj hg hbj hb)]
      exact h1
  inj := fun j k o1 o3 b1 r1 r2 hj hk hbj hbk => by
    simp only [Tr.get_set] at hj hk
    have live : ∀ {j o1}, (if j = i then some o2 else s.h.get j) = some o1 → ∃ o, s.h.get j = some o := by
      intro j o1 h
      split at h
      · rename_i e; subst e; exact ⟨_, hg⟩
      · exact ⟨_, h⟩
    obtain ⟨_, h1⟩ := live hj
    obtain ⟨_, h2⟩ := live hk
    exact hR.inj j k _ _ _ _ _ h1 h2 hbj hbk
  fresh := fun j hj => hR.fresh j hj
  blk := fun j b1 r1 h => by rw [hw.size]; exact hR.blk _ _ _ h
  wf := fun j hj => by
    simp only [Tr.get_set]
    rw [if_neg (fun e => by subst e; have := hR.wf j hj; rw [hg] at this; cases this)]
    exact hR.wf j hj

theorem ext_upd (N : Nat → Prop) {i b r : Nat} {o o2 : AObj} {o2' : Obj} {w' : World} (hg : s.h.get i = some o) (hb : ρ i = some (b, r)) (hw : Upd w b o2' w') (hro : o.ro = false := by rfl) :
    Ext N ρ s w ρ { s with h := s.h.set i (some o2) } w' where
  sub := Sub.refl ρ
  new := fun j h1 h2 => absurd h1 h2
  dead := fun j _ _ h3 => by
    simp only [Tr.get_set]
    rw [if_neg (fun e => by subst e; rw [hg] at h3; cases h3)]
    exact h3
  cle := Nat.le_refl _
  size := by rw [hw.size]; exact Nat.le_refl _
  frame := fun b1 _ hn => hw.ne b1 fun e => by subst e; have := hn i o r hg hb; rw [hro] at this; cases this
  img := fun j o1 b1 r1 hgj hbj _ => by
    simp only [Tr.get_set] at hgj
    split at hgj
    · rename_i e; subst e; exact ⟨j, o, r1, hg, hbj, fun h => by rw [hro] at h; cases h⟩
    · exact ⟨j, o1, r1, hgj, hbj, id⟩
  tape := hw.tape
  os := hw.os
  output := hw.output
  keep := hw.keep

/-- A block that moves to a new number, in its place. -/
theorem rel_move (hR : Rel P ρ s w) {i b r : Nat} {o o2 : AObj} {o2' : Obj} {w' : World} (hg : s.h.get i = some o) (hb : ρ i = some (b, r)) (hw : Upd w b o2' w')
    (ho : OR P (ρ.put s.c (b, r)) r o2 o2') : Rel P (ρ.put s.c (b, r)) { h := (s.h.set i none).set s.c (some o2), c := s.c + 1 } w' := by
  have hf := hR.fresh s.c (Nat.le_refl _)
  have hne : ∀ {j b r}, ρ j = some (b, r) → j ≠ s.c := by intro j b r h e; subst e; rw [hf] at h; cases h
  refine ⟨fun j o1 b1 r1 hgj hbj => ?_, fun j k o1 o3 b1 r1 r2 hj hk hbj hbk => ?_, fun j hj => ?_, fun j b1 r1 h => ?_, fun j hj => ?_⟩
  · simp only [Tr.get_set] at hgj
    by_cases e : j = s.c
    · subst e
      rw [if_pos rfl] at hgj
      simp only [Option.some.injEq] at hgj; subst hgj
      rw [Rho.put_same] at hbj
      simp only [Option.some.injEq, Prod.mk.injEq] at hbj
      obtain ⟨rfl, rfl⟩ := hbj
      exact ⟨o2', hw.at_, ho⟩
    · rw [if_neg e] at hgj
      rw [Rho.put_ne e] at hbj
      split at hgj
      · cases hgj
      · rename_i e2
        obtain ⟨o1', h1, h2⟩ := hR.obj j o1 b1 r1 hgj hbj
        refine ⟨o1', ?_, h2.mono (Rho.sub_put hf)⟩
        rw [hw.ne _ fun eb => e2 (by subst eb; exact hR.inj j i _ _ _ _ _ hgj hg hbj hb)]
        exact h1
  · simp only [Tr.get_set] at hj hk
    have old : ∀ {j o1 b1 r1}, j ≠ s.c → (if j = s.c then some o2 else if j = i then none else s.h.get j) = some o1 → ρ.put s.c (b, r) j = some (b1, r1) →
        s.h.get j = some o1 ∧ j ≠ i ∧ ρ j = some (b1, r1) := by
      intro j o1 b1 r1 e h h'
      rw [if_neg e] at h
      rw [Rho.put_ne e] at h'
      split at h
      · cases h
      · exact ⟨h, ‹_›, h'⟩
    have new : ∀ {j b1 r1}, j = s.c → ρ.put s.c (b, r) j = some (b1, r1) → b1 = b := by
      intro j b1 r1 e h
      subst e; rw [Rho.put_same] at h; simp only [Option.some.injEq, Prod.mk.injEq] at h; exact h.1.symm
    by_cases ej : j = s.c
    · by_cases ek : k = s.c
      · rw [ej, ek]
      · obtain ⟨h1, h2, h3⟩ := old ek hk hbk
        have := new ej hbj
        subst this
        exact absurd (hR.inj k i _ _ _ _ _ h1 hg h3 hb) h2
    · obtain ⟨h1, h2, h3⟩ := old ej hj hbj
      by_cases ek : k = s.c
      · have := new ek hbk
        subst this
        exact absurd (hR.inj j i _ _ _ _ _ h1 hg h3 hb) h2
      · obtain ⟨h4, h5, h6⟩ := old ek hk hbk
        exact hR.inj j k _ _ _ _ _ h1 h4 h3 h6
  · rw [Rho.put_ne (by simp only at hj; omega)]; exact hR.fresh j (by simp only at hj; omega)
  · rw [hw.size]
    by_cases e : j = s.c
    · subst e; rw [Rho.put_same] at h; simp only [Option.some.injEq, Prod.mk.injEq] at h; have := hR.blk _ _ _ hb; omega
    · rw [Rho.put_ne e] at h; exact hR.blk _ _ _ h
  · simp only at hj
    simp only [Tr.get_set]
    rw [if_neg (by omega)]
    split
    · rfl
    · exact hR.wf j (by omega)

theorem ext_move (hR : Rel P ρ s w) {i b r : Nat} {o o2 : AObj} {o2' : Obj} {w' : World} (hg : s.h.get i = some o) (hb : ρ i = some (b, r)) (hw : Upd w b o2' w') (hro : o.ro = false := by rfl) :
    Ext No ρ s w (ρ.put s.c (b, r)) { h := (s.h.set i none).set s.c (some o2), c := s.c + 1 } w' where
  sub := Rho.sub_put (hR.fresh s.c (Nat.le_refl _))
  new := fun j h1 h2 => by
    by_cases e : j = s.c
    · subst e; exact ⟨.inr (Nat.le_refl _), Nat.lt_succ_self _⟩
    · rw [Rho.put_ne e] at h2; exact absurd h1 h2
  dead := fun j h1 _ h3 => by
    simp only [Tr.get_set]
    rw [if_neg (by omega)]
    split
    · rfl
    · exact h3
  cle := Nat.le_succ _
  size := by rw [hw.size]; exact Nat.le_refl _
  frame := fun b1 _ hn => hw.ne b1 fun e => by subst e; have := hn i o r hg hb; rw [hro] at this; cases this
  img := fun j o1 b1 r1 hgj hbj _ => by
    simp only [Tr.get_set] at hgj
    by_cases e : j = s.c
    · subst e; rw [Rho.put_same] at hbj; simp only [Option.some.injEq, Prod.mk.injEq] at hbj
      obtain ⟨rfl, rfl⟩ := hbj
      exact ⟨i, o, r, hg, hb, fun h => by rw [hro] at h; cases h⟩
    · rw [if_neg e] at hgj
      rw [Rho.put_ne e] at hbj
      split at hgj
      · cases hgj
      · exact ⟨j, o1, r1, hgj, hbj, id⟩
  tape := hw.tape
  os := hw.os
  output := hw.output
  keep := hw.keep

/-- A block that is left, and one that is made. -/
theorem rel_drop (hR : Rel P ρ s w) (i : Nat) : Rel P ρ { s with h := s.h.set i none } w where
  obj := fun j o1 b r1 hg hb => by
    simp only [Tr.get_set] at hg
    split at hg
    · cases hg
    · exact hR.obj j o1 b r1 hg hb
  inj := fun j k o1 o2 b r1 r2 hj hk hbj hbk => by
    simp only [Tr.get_set] at hj hk
    split at hj
    · cases hj
    · split at hk
      · cases hk
      · exact hR.inj j k _ _ _ _ _ hj hk hbj hbk
  fresh := hR.fresh
  blk := hR.blk
  wf := fun j hj => by
    simp only [Tr.get_set]
    split
    · rfl
    · exact hR.wf j hj

theorem ext_drop (N : Nat → Prop) (i : Nat) : Ext N ρ s w ρ { s with h := s.h.set i none } w where
  sub := Sub.refl ρ
  new := fun j h1 h2 => absurd h1 h2
  dead := fun j _ _ h3 => by
    simp only [Tr.get_set]
    split
    · rfl
    · exact h3
  cle := Nat.le_refl _
  size := Nat.le_refl _
  frame := fun _ _ _ => rfl
  img := fun j o1 b r1 hg hb _ => by
    simp only [Tr.get_set] at hg
    split at hg
    · cases hg
    · exact ⟨j, o1, r1, hg, hb, id⟩
  tape := rfl
  os := rfl
  output := rfl
  keep := Keep.refl w

/-! what makes a block -/
theorem newRow_run (ty : TypeId) (c : Array Value) : (newRow ty c).run P w = .ok ⟨w.heap.size, 0, none⟩ { w with heap := w.heap.push (.cells c ty) } := by
  simp [newRow]

theorem OR_cells {c : List Value} {c' : Array Value} {ty : TypeId} (h : VRL ρ c c'.toList) : OR P ρ c'.size (.cells c ty 0 0) (.cells c' ty (0, 0)) :=
  .cells rfl (by have := h.length; simp at this; omega) (fun i v hv => by simpa using h.nth hv) (fun i h1 h2 => by simp at h2)

/-- What an operation makes. -/
def Makes (P : Program) (ρ : Rho) (w : World) (slot : Nat) (o : AObj) (v : Value) (n : Sem Next) : Prop :=
  ∃ v' w' o' r, n.run P w = .ok (.value v') w' ∧ Push w o' w' ∧ OR P (ρ.put slot (w.heap.size, r)) r o o' ∧ VR (ρ.put slot (w.heap.size, r)) v v'

theorem Makes.of {slot : Nat} {o : AObj} {v v' : Value} {w' : World} {o' : Obj} {r : Nat} {n : Sem Value} (h : n.run P w = .ok v' w') (hp : Push w o' w')
    (ho : OR P (ρ.put slot (w.heap.size, r)) r o o') (hv : VR (ρ.put slot (w.heap.size, r)) v v') : Makes P ρ w slot o v (do pure (.value (← n))) :=
  ⟨v', w', o', r, val_run h, hp, ho, hv⟩

theorem flatten_replicate_rel {z : List Value} (hz : VRL ρ z z) (n : Nat) : VRL ρ (List.flatten (List.replicate n z)) (List.flatten (List.replicate n z)) := by
  induction n with
  | zero => exact .nil
  | succ n ih => simp only [List.replicate_succ, List.flatten_cons]; exact hz.append ih

theorem flatten_get {α : Type} (l : List α) (hl : 0 < l.length) : ∀ (n i : Nat), (List.flatten (List.replicate n l))[i]? = if i < n * l.length then l[i % l.length]? else none := by
  intro n
  induction n with
  | zero => intro i; simp
  | succ n ih =>
    intro i
    simp only [List.replicate_succ, List.flatten_cons]
    rw [List.getElem?_append]
    have e : (n + 1) * l.length = n * l.length + l.length := Nat.succ_mul _ _
    split
    · rename_i h
      rw [if_pos (by omega), Nat.mod_eq_of_lt h]
    · rename_i h
      rw [ih]
      by_cases h2 : i - l.length < n * l.length
      · rw [if_pos h2, if_pos (by omega)]
        rw [Nat.mod_eq_sub_mod (a := i) (by omega)]
      · rw [if_neg h2, if_neg (by omega)]

theorem range_mod {z : Array Value} (hz : 0 < z.size) (n : Nat) : ((Array.range (n * z.size)).map (z[· % z.size]!)).toList = List.flatten (List.replicate n z.toList) := by
  apply List.ext_getElem?
  intro i
  rw [flatten_get z.toList (by simpa using hz)]
  have e : z.toList.length = z.size := by simp
  rw [e]
  by_cases h : i < n * z.size
  · rw [if_pos h]
    have h2 : i % z.size < z.size := Nat.mod_lt _ hz
    simp [h, h2]
  · rw [if_neg h]
    simp [h]

theorem A_sound {o : Oper} {k : MK} {ob : AObj} {g : Id → Value} {slot : Nat} (hT : VRL ρ t a.tmps.toList) (hslot : ρ slot = none) (hc : cOp P o = some k) (hk : cls k = .a)
    (hv : evA k t = some (ob, g)) : Makes P ρ w slot ob (g slot) (execOp a.eval o) := by
  unfold cOp at hc
  split at hc <;> first | simp at hc; done | skip
  rename_i hok
  split at hc <;> first | simp at hc; done | skip
  rename_i k' hc0
  split at hc <;> first | simp at hc; done | skip
  rename_i hcl
  simp only [Option.some.injEq] at hc; subst hc
  have ok : ∀ x, x ∈ o.op.operands.toList → okOpd x = true := fun x hx => okOpd_of hok hx
  clear hok
  obtain ⟨dst, op, type, pos, after, guard⟩ := o
  simp only at ok
  have hsub : Sub ρ (ρ.put slot (w.heap.size, 0)) := Rho.sub_put hslot
  have up : ∀ {x : Nat × Nat} {l l' : List Value}, VRL ρ l l' → VRL (ρ.put slot x) l l' := fun h => h.mono (Rho.sub_put hslot)
  unfold cOp0 at hc0
  cases op <;> try (simp at hc0; done)
  case alloc ty =>
    simp only at hc0
    split at hc0 <;> first | simp at hc0; done | skip
    rename_i z hz
    simp only [Option.some.injEq] at hc0; subst hc0
    simp only [evA, Option.some.injEq, Prod.mk.injEq] at hv
    obtain ⟨rfl, rfl⟩ := hv
    refine Makes.of (w' := { w with heap := w.heap.push (.cells z.cells ty) }) ?_ ⟨rfl, rfl, rfl, rfl⟩ (OR_cells (closed_VRL (by simpa [closedAll] using hcl))) (.ptr Rho.put_same)
    simp only [Instr.alloc]
    rw [run_bind_ok (run_zero hz)]
    simp only [newVar]
    rw [run_bind_ok (newRow_run _ _)]
    rfl
  case box ty x =>
    simp only [Option.some.injEq] at hc0; subst hc0
    simp only [evA] at hv
    split at hv <;> first | (simp at hv; done) | skip
    rename_i u hu
    simp only [Option.some.injEq, Prod.mk.injEq] at hv
    obtain ⟨rfl, rfl⟩ := hv
    have vx := eval_sound hT (ok x (by simp [Op.operands])) hu
    refine Makes.of (w' := { w with heap := w.heap.push (.cells (a.eval x).cells ty) }) ?_ ⟨rfl, rfl, rfl, rfl⟩ (OR_cells (up (cellsOf_rel vx))) (.ptr Rho.put_same)
    simp only [Instr.box, newVar]
    rw [run_bind_ok (newRow_run _ _)]
    rfl
  case buildSlice ty len parts =>
    have hok : parts.toList.all (fun p => okOpd p.2) = true := by
      simp only [List.all_eq_true]
      exact fun p hp => ok p.2 (by simp only [Op.operands, List.mem_toArray]; simpa using ⟨p.1, by simpa using hp⟩)
    simp only at hc0
    split at hc0 <;> first | simp at hc0; done | skip
    rename_i e hu
    split at hc0 <;> first | simp at hc0; done | skip
    rename_i n hs
    split at hc0 <;> first | simp at hc0; done | skip
    rename_i hsm
    split at hc0 <;> first | simp at hc0; done | skip
    rename_i z hz
    split at hc0 <;> first | simp at hc0; done | skip
    rename_i ps hq
    simp only [Option.some.injEq] at hc0; subst hc0
    simp only [evA] at hv
    split at hv <;> first | (simp at hv; done) | skip
    rename_i vs hvs
    split at hv <;> first | (simp at hv; done) | skip
    rename_i cs hf
    simp only [Option.some.injEq, Prod.mk.injEq] at hv
    obtain ⟨rfl, rfl⟩ := hv
    obtain ⟨cs', h1, h2⟩ := fill_rel hT hq hok hvs hf (z' := (Array.range (len * n)).map (z[· % z.size]!)) (closed_VRL (by simpa [closedAll] using hcl))
    have hlen : len < unk := by unfold unk; omega
    refine Makes.of (w' := { w with heap := w.heap.push (.cells cs' e) }) ?_ ⟨rfl, rfl, rfl, rfl⟩ (OR_cells (up h2)) (.slice Rho.put_same hlen)
    simp only [Instr.buildSlice]
    rw [run_bind_ok (run_under hu)]
    simp only []
    rw [run_bind_ok (run_size hs)]
    rw [if_neg (by simp at hsm ⊢; omega)]
    have hfill : Instr.fill (fun i => some (i * n, n)) ((Array.range (len * n)).map (z[· % z.size]!)) (Array.map (fun x => (x.fst, a.eval x.snd)) parts).toList = some cs' := by
      rw [← h1]
      congr 1
      simp
    split at hz
    · rename_i h0
      simp only [Option.some.injEq] at hz; subst hz
      rw [if_pos h0, run_bind_ok (run_pure _), hfill]
      simp only []
      rw [run_bind_ok (newRow_run _ _)]
      rfl
    · rename_i h0
      cases hze : zeroT P e with
      | none => simp [hze] at hz
      | some z0 =>
        simp only [hze, Option.map_some, Option.some.injEq] at hz; subst hz
        rw [if_neg h0, run_bind_ok (run_zero hze), run_bind_ok (run_pure _), hfill]
        simp only []
        rw [run_bind_ok (newRow_run _ _)]
        rfl
  case makeMap ty r =>
    cases r <;> simp at hc0
    subst hc0
    simp only [evA, Option.some.injEq, Prod.mk.injEq] at hv
    obtain ⟨rfl, rfl⟩ := hv
    refine Makes.of (w' := { w with heap := w.heap.push (.map #[] 0) }) (r := 0) ?_ ⟨rfl, rfl, rfl, rfl⟩ (.map .nil) (.map Rho.put_same)
    simp [Instr.makeMap]
  case makeSlice ty l c =>
    simp only at hc0
    split at hc0 <;> first | simp at hc0; done | skip
    rename_i e hu
    split at hc0 <;> first | simp at hc0; done | skip
    rename_i i hi
    split at hc0 <;> first | simp at hc0; done | skip
    rename_i z hz
    split at hc0 <;> first | simp at hc0; done | skip
    rename_i hzs
    simp only [Option.some.injEq] at hc0; subst hc0
    simp only [evA] at hv
    split at hv <;> first | (simp at hv; done) | skip
    rename_i kl lv kc cv hl hc
    split at hv <;> first | (simp at hv; done) | skip
    rename_i hb
    simp only [Option.some.injEq, Prod.mk.injEq] at hv
    obtain ⟨rfl, rfl⟩ := hv
    have vl := eval_sound hT (ok l (by simp [Op.operands])) hl
    have vc := eval_sound hT (ok c (by simp [Op.operands])) hc
    have hzr : VRL ρ z.cells.toList z.cells.toList := closed_VRL (by simpa [closedAll] using hcl)
    have hsz : z.cells.size = i.size := hzs.1
    have hr := range_mod (z := z.cells) (by omega) cv.toNat
    refine Makes.of (w' := { w with heap := w.heap.push (.cells ((Array.range (cv.toNat * z.cells.size)).map (z.cells[· % z.cells.size]!)) e) }) ?_ ⟨rfl, rfl, rfl, rfl⟩
      (OR_cells (up (by rw [hr]; exact flatten_replicate_rel hzr _))) (.slice Rho.put_same (by unfold unk; omega))
    generalize a.eval l = l' at vl
    generalize a.eval c = c' at vc
    cases vl; cases vc
    simp only [Instr.makeSlice]
    rw [run_bind_ok (run_under hu)]
    simp only [asInt, asIntOf, pure_bind]
    rw [run_bind_ok (run_info hi)]
    have wl : IntKind.i64.wrap lv = lv := by simp [IntKind.wrap, IntKind.bits, IntKind.signed]; omega
    have wc : IntKind.i64.wrap cv = cv := by simp [IntKind.wrap, IntKind.bits, IntKind.signed]; omega
    rw [wl, wc]
    have hbytes : (i.bytes : Int) * cv ≤ 2 ^ 48 := by
      have h1 : (i.bytes : Int) * cv ≤ 65536 * 16777216 := Int.mul_le_mul (by omega) (by omega) (by omega) (by omega)
      omega
    have hcond : ((decide (cv < 0) || decide ((i.bytes : Int) * cv > 2 ^ 48)) || decide (lv < 0) || decide (lv > cv)) = false := by
      simp only [Bool.or_eq_false_iff, decide_eq_false_iff_not]
      omega
    rw [if_neg (by rw [hcond]; decide)]
    have hs : sizeT P e = some i.size := by simp [sizeT, hi]
    rw [run_bind_ok (run_askRoom P w _), run_bind_ok (run_size hs)]
    by_cases h0 : cv.toNat * i.size = 0
    · have hc0 : cv.toNat = 0 := by
        rcases Nat.mul_eq_zero.1 h0 with h | h
        · exact h
        · omega
      rw [if_pos h0, run_bind_ok (newRow_run _ _), hc0]
      have e0 : Array.range 0 = #[] := rfl
      simp [e0]
    · rw [if_neg h0, run_bind_ok (run_zero (show zeroT P e = some z by simp [zeroT, hi, hz])), run_bind_ok (newRow_run _ _), hsz]
      rfl
  case convert src dst' x =>
    have hx := ok x (by simp [Op.operands])
    simp only at hc0
    split at hc0
    · simp only [Option.some.injEq] at hc0; subst hc0; simp [evA] at hv
    · simp only [Option.some.injEq] at hc0; subst hc0; simp [evA] at hv
    · simp only [Option.some.injEq] at hc0; subst hc0; simp [evA] at hv
    · split at hc0 <;> simp at hc0; subst hc0; simp [evA] at hv
    · rename_i e hs hd
      split at hc0 <;> first | (simp at hc0; done) | skip
      rename_i he
      simp only [Option.some.injEq] at hc0; subst hc0
      simp only [evA] at hv
      split at hv <;> first | (simp at hv; done) | skip
      rename_i b hu
      simp only [Option.some.injEq, Prod.mk.injEq] at hv
      obtain ⟨rfl, rfl⟩ := hv
      have vx := eval_sound hT hx hu
      generalize hcap : (Question.appendCap b.size 0 e).cut (w.tape w.drawn (Question.appendCap b.size 0 e)) = cap
      have hge : b.size ≤ cap := by rw [← hcap]; simp [Question.cut]
      generalize hc' : (b.data.map fun b => Value.int .u8 b.toNat) ++ Array.replicate (cap - b.size) (Value.int .u8 0) = c'
      have hcs : c'.size = cap := by rw [← hc']; simp; have : b.data.size = b.size := rfl; omega
      refine Makes.of (v' := .slice (some ⟨w.heap.size, 0, none⟩) b.size cap) (w' := { w with heap := w.heap.push (.cells c' e (cap, cap + 1)), drawn := w.drawn + 1 }) (r := c'.size) ?_ ⟨rfl, rfl, rfl, rfl⟩
        (.cells rfl ?_ (fun i v h => ?_) (fun i h1 h2 h3 => by simp at h1 h2; omega)) ?_
      · generalize a.eval x = x' at vx
        cases vx
        simp only [convert]
        rw [run_bind_ok (run_under hs), run_bind_ok (run_under hd)]
        simp only []
        rw [run_bind_ok (run_under he)]
        simp only [Conv.stringToBytes]
        rw [run_bind_ok (a := cap) (w' := { w with drawn := w.drawn + 1 }) (by simp only [choose, Sem.run, Question.forced, Bool.false_eq_true, if_false, hcap])]
        rw [hc', run_bind_ok (newRow_run _ _)]
        have hm : (markStringish ⟨w.heap.size, 0, none⟩).run P { w with heap := w.heap.push (.cells c' e), drawn := w.drawn + 1 } = .ok () { w with heap := w.heap.push (.cells c' e (cap, cap + 1)), drawn := w.drawn + 1 } := by
          simp only [markStringish]
          rw [run_bind_ok (run_shape _ _ _)]
          simp only [World.shape?, Array.getElem?_push, if_true, run_freeze, World.freeze, hcs, Nat.one_ne_zero, if_false, beq_self_eq_true]
          congr 2
          apply Array.ext_getElem?
          intro i
          simp only [Array.getElem?_modify, Array.getElem?_push]
          by_cases hi : w.heap.size = i
          · subst hi; simp
          · simp [hi, Ne.symm hi]
        rw [run_bind_ok hm]
        rfl
      · rw [hcs]; simp; have : b.data.size = b.size := rfl; omega
      · rw [nth_eq] at h
        refine ⟨v, ?_, ?_⟩
        · rw [← hc', Array.getElem?_append]
          have hlt : i < b.data.size := by have := (List.getElem?_eq_some_iff.1 h).1; simpa using this
          rw [if_pos (by simpa using hlt)]
          simpa using h
        · obtain ⟨hl, h⟩ := List.getElem?_eq_some_iff.1 h
          subst h
          simp only [List.getElem_map]
          exact .int _ _
      · exact .sliceU Rho.put_same hge (by omega) (by omega)
    · simp at hc0
  case range ty x =>
    have hx := ok x (by simp [Op.operands])
    simp only at hc0
    split at hc0 <;> first | simp at hc0; done | skip
    · rename_i hu
      simp only [Option.some.injEq] at hc0; subst hc0
      simp only [evA] at hv
      split at hv <;> first | (simp at hv; done) | skip
      rename_i b hub
      simp only [Option.some.injEq, Prod.mk.injEq] at hv
      obtain ⟨rfl, rfl⟩ := hv
      have vx := eval_sound hT hx hub
      refine Makes.of (w' := { w with heap := w.heap.push (.stringIter b 0) }) (r := 0) ?_ ⟨rfl, rfl, rfl, rfl⟩ (.strIter b 0) (.ptr Rho.put_same)
      generalize a.eval x = x' at vx
      cases vx
      simp only [Instr.range]
      rw [run_bind_ok (run_under hu)]
      simp
    · simp only [Option.some.injEq] at hc0; subst hc0; simp [cls] at hk
  case makeFunc fn first captured => cases fn <;> simp at hc0; subst hc0; simp [cls] at hk
  case binOp op ty x y yt =>
    simp only at hc0
    unfold cBin cEqOp at hc0
    (repeat' (split at hc0)) <;> first
      | (simp at hc0; done)
      | (simp only [Option.some.injEq] at hc0; subst hc0; simp [cls] at hk; done)
  case call c =>
    simp only [cCall] at hc0
    (repeat' (split at hc0)) <;> first
      | (simp at hc0; done)
      | (simp only [Option.some.injEq] at hc0; subst hc0; simp [cls] at hk; done)
  all_goals
    (try simp only at hc0)
    (repeat' (split at hc0)) <;> first
      | (simp at hc0; done)
      | (simp only [Option.some.injEq] at hc0; subst hc0; simp [cls] at hk; done)
end
end Ev

/- Soundness of the operations that write memory. -/
namespace Ev
open Go

theorem Upd.refl {w : World} {b : Nat} {o : Obj} (h : w.heap[b]? = some o) : Upd w b o w := ⟨rfl, h, fun _ _ => rfl, rfl, rfl, rfl, o, h, Kd.refl o⟩
theorem Upd.trans {w w1 w2 : World} {b : Nat} {o1 o2 : Obj} (h : Upd w b o1 w1) (h' : Upd w1 b o2 w2) : Upd w b o2 w2 :=
  ⟨h'.size.trans h.size, h'.at_, fun i hi => (h'.ne i hi).trans (h.ne i hi), h'.tape.trans h.tape, h'.os.trans h.os, h'.output.trans h.output, by
    obtain ⟨o0, h1, h2⟩ := h.kd
    obtain ⟨o1', h3, h4⟩ := h'.kd
    rw [h.at_] at h3
    simp only [Option.some.injEq] at h3; subst h3
    exact ⟨o0, h1, h2.trans h4⟩⟩

section
variable {P : Program} {ρ : Rho} {s : S} {w : World} {t : List Value} {a : Act}

theorem upd_setCell {b o : Nat} {c : Array Value} {ty : TypeId} {f : Nat × Nat} (v : Value) (h : w.heap[b]? = some (.cells c ty f)) :
    Upd w b (.cells (c.setIfInBounds o v) ty f) (w.setCell ⟨b, o, none⟩ v) := by
  refine ⟨by simp [World.setCell], ?_, fun i hi => ?_, rfl, rfl, rfl, _, h, .inl ⟨_, _, _, _, rfl, rfl, by simp⟩⟩
  · simp [World.setCell, Array.getElem?_modify, h]
  · simp [World.setCell, Array.getElem?_modify, Ne.symm hi]

theorem upd_setObj {b : Nat} {o o2 : Obj} (h : w.heap[b]? = some o) (hk : Kd o o2 := by exact .inr ⟨(fun _ _ _ e => by cases e), (fun _ _ _ e => by cases e)⟩) : Upd w b o2 { w with heap := w.heap.setIfInBounds b o2 } := by
  have hlt : b < w.heap.size := (Array.getElem?_eq_some_iff.1 h).1
  refine ⟨by simp, ?_, fun i hi => ?_, rfl, rfl, rfl, _, h, hk⟩
  · simp [hlt]
  · simp [Array.getElem?_setIfInBounds_ne (Ne.symm hi)]

theorem setObj_run {b : Nat} {o o2 : Obj} (h : w.heap[b]? = some o) (hc : ∀ c t f, o ≠ .cells c t f) : (setObj b o2).run P w = .ok () { w with heap := w.heap.setIfInBounds b o2 } := by
  simp only [setObj, Sem.run, h]

theorem store_run {b o : Nat} {c : Array Value} {ty : TypeId} {f : Nat × Nat} {v : Value} (h : w.heap[b]? = some (.cells c ty f)) (ho : o < c.size) (hs : single v = true)
    (hf : ¬ (f.1 ≤ o ∧ o < f.2)) : (store ⟨b, o, none⟩ v).run P w = .ok () (w.setCell ⟨b, o, none⟩ v) := by
  have hc : w.cell? ⟨b, o, none⟩ = some c[o] := by simp [World.cell?, h, ho]
  have hz : w.frozen? ⟨b, o, none⟩ = false := by
    obtain ⟨f1, f2⟩ := f
    simp only [World.frozen?, h]
    simp only at hf
    simpa using hf
  unfold store
  cases v <;> simp [single] at hs <;> simp [Sem.run, hc, hz]

theorem storeCells_run {b o : Nat} {ty : TypeId} {f : Nat × Nat} : ∀ (vs : List Value) (i : Nat) (c : Array Value) (w : World), w.heap[b]? = some (.cells c ty f) → o + i + vs.length ≤ c.size →
    vs.all single = true → (∀ k, o + i ≤ k → k < o + i + vs.length → ¬ (f.1 ≤ k ∧ k < f.2)) →
    ∃ w', (storeCells ⟨b, o, none⟩ vs i).run P w = .ok () w' ∧ Upd w b (.cells ((vs.zipIdx (o + i)).foldl (fun (cs : Array Value) (c : Value × Nat) => cs.setIfInBounds c.2 c.1) c) ty f) w' := by
  intro vs
  induction vs with
  | nil => intro i c w h _ _ _; exact ⟨w, rfl, Upd.refl h⟩
  | cons v vs ih =>
    intro i c w h hl hs hf
    simp only [List.all_cons, Bool.and_eq_true] at hs
    simp only [List.length_cons] at hl hf
    have h1 := store_run (P := P) (v := v) h (o := o + i) (by omega) hs.1 (hf _ (by omega) (by omega))
    have hu := upd_setCell (o := o + i) v h
    obtain ⟨w', h2, h3⟩ := ih (i + 1) _ _ hu.at_ (by simp; omega) hs.2 (fun k h1 h2 => hf k (by omega) (by omega))
    refine ⟨w', ?_, hu.trans h3⟩
    simp only [storeCells, add_eq]
    rw [run_bind_ok h1]
    exact h2

/-- What an operation that writes comes to. -/
def Writes (P : Program) (ρ : Rho) (s : S) (w : World) (v : Value) (s' : S) (n : Sem Next) : Prop :=
  ∃ n' w' ρ', n.run P w = .ok n' w' ∧ ((∃ v', n' = .value v' ∧ VR ρ' v v') ∨ (n' = .skip ∧ v = undef)) ∧ Rel P ρ' s' w' ∧ Ext No ρ s w ρ' s' w'

theorem Writes.unit {s' : S} {w' : World} {ρ' : Rho} {n : Sem Unit} (h : n.run P w = .ok () w') (hR : Rel P ρ' s' w') (hE : Ext No ρ s w ρ' s' w') :
    Writes P ρ s w undef s' (do n; pure .skip) := ⟨_, w', ρ', unit_run h, .inr ⟨rfl, rfl⟩, hR, hE⟩

theorem Writes.val {s' : S} {w' : World} {ρ' : Rho} {v v' : Value} {n : Sem Value} (h : n.run P w = .ok v' w') (hv : VR ρ' v v') (hR : Rel P ρ' s' w') (hE : Ext No ρ s w ρ' s' w') :
    Writes P ρ s w v s' (do pure (.value (← n))) := ⟨_, w', ρ', val_run h, .inl ⟨v', rfl, hv⟩, hR, hE⟩

theorem single_all {l l' : List Value} (h : VRL ρ l l') (hs : l.all single = true) : l'.all single = true := by
  induction l generalizing l' with
  | nil => cases h; rfl
  | cons a l ih =>
    cases h with
    | cons h1 h2 =>
      simp only [List.all_cons, Bool.and_eq_true] at hs ⊢
      exact ⟨single_rel h1 hs.1, ih h2 hs.2⟩

theorem free_spec {lo hi o n : Nat} (h : free lo hi o n = true) : hi ≤ lo ∨ o + n ≤ lo ∨ hi ≤ o := by
  unfold free at h
  simp only [Bool.and_eq_true, Bool.or_eq_true, Nat.ble_eq] at h
  omega

theorem ro_of_lt {c : List Value} {t lo hi : Nat} (h : Nat.blt hi roHi = true) : (AObj.cells c t lo hi).ro = false := by
  simp only [Nat.blt_eq] at h
  simp only [AObj.ro]
  cases hb : Nat.ble roHi hi with
  | false => rfl
  | true => have := Nat.le_of_ble_eq_true hb; omega

theorem free_ro {c : List Value} {t lo hi o n : Nat} (h : free lo hi o n = true) : (AObj.cells c t lo hi).ro = false := by
  unfold free at h
  simp only [Bool.and_eq_true] at h
  exact ro_of_lt h.1

theorem updL_length {α : Type} : ∀ (vs : List α) (l : List α) (o : Nat), (updL l o vs).length = l.length := by
  intro vs
  induction vs with
  | nil => intro l o; rfl
  | cons v vs ih => intro l o; simp only [updL]; rw [ih, upd_eq, List.length_set]

theorem foldl_set_size (vs : List (Value × Nat)) : ∀ (c : Array Value), (vs.foldl (fun (cs : Array Value) (c : Value × Nat) => cs.setIfInBounds c.2 c.1) c).size = c.size := by
  induction vs with
  | nil => intro c; rfl
  | cons v vs ih => intro c; simp only [List.foldl_cons]; rw [ih]; simp

theorem foldl_set_get (vs : List Value) : ∀ (o : Nat) (c : Array Value) (i : Nat), (i < o ∨ o + vs.length ≤ i) →
    ((vs.zipIdx o).foldl (fun (cs : Array Value) (c : Value × Nat) => cs.setIfInBounds c.2 c.1) c)[i]? = c[i]? := by
  induction vs with
  | nil => intro o c i _; rfl
  | cons v vs ih =>
    intro o c i h
    simp only [List.length_cons] at h
    simp only [List.zipIdx_cons, List.foldl_cons]
    rw [ih (o + 1) _ i (by omega), Array.getElem?_setIfInBounds_ne (by omega)]

/-- Cells are written where the abstract block has some. -/
theorem cells_upd {c vs : List Value} {c' : Array Value} {vs' : List Value} (hl : c.length ≤ c'.size) (hv : ∀ i v, nth c i = some v → ∃ v', c'[i]? = some v' ∧ VR ρ v v') (hvs : VRL ρ vs vs') :
    ∀ (o : Nat), o + vs.length ≤ c.length → ∀ i v, nth (updL c o vs) i = some v →
      ∃ v', ((vs'.zipIdx o).foldl (fun (cs : Array Value) (c : Value × Nat) => cs.setIfInBounds c.2 c.1) c')[i]? = some v' ∧ VR ρ v v' := by
  induction vs generalizing c c' vs' with
  | nil => intro o _ i v h; cases hvs; exact hv i v h
  | cons x vs ih =>
    intro o ho i v h
    simp only [List.length_cons] at ho
    cases hvs with
    | @cons _ x' _ vs' h1 h2 =>
      simp only [List.zipIdx_cons, List.foldl_cons]
      simp only [updL] at h
      refine ih (c := upd c o x) (c' := c'.setIfInBounds o x') (by rw [upd_eq]; simpa using hl) (fun j y hy => ?_) h2 (o + 1) (by rw [upd_eq, List.length_set]; omega) i v h
      rw [upd_eq, nth_eq, List.getElem?_set] at hy
      split at hy
      · rename_i e; subst e
        rw [if_pos (by omega)] at hy
        simp only [Option.some.injEq] at hy; subst hy
        exact ⟨x', (by rw [Array.getElem?_setIfInBounds_self, if_pos (by omega)]), h1⟩
      · rename_i e
        rw [← nth_eq] at hy
        obtain ⟨y', h3, h4⟩ := hv j y hy
        exact ⟨y', by rw [Array.getElem?_setIfInBounds_ne e]; exact h3, h4⟩

/-- Cells behind the abstract block's end are written too. -/
theorem cells_grow {c vs : List Value} {c' : Array Value} {vs' : List Value} (hl : c.length + vs.length ≤ c'.size) (hv : ∀ i v, nth c i = some v → ∃ v', c'[i]? = some v' ∧ VR ρ v v') (hvs : VRL ρ vs vs') :
    ∀ i v, nth (c ++ vs) i = some v → ∃ v', ((vs'.zipIdx c.length).foldl (fun (cs : Array Value) (c : Value × Nat) => cs.setIfInBounds c.2 c.1) c')[i]? = some v' ∧ VR ρ v v' := by
  induction vs generalizing c c' vs' with
  | nil => intro i v h; cases hvs; rw [List.append_nil] at h; exact hv i v h
  | cons x vs ih =>
    intro i v h
    simp only [List.length_cons] at hl
    cases hvs with
    | @cons _ x' _ vs' h1 h2 =>
      simp only [List.zipIdx_cons, List.foldl_cons]
      have := ih (c := c ++ [x]) (c' := c'.setIfInBounds c.length x') (by simp; omega) (fun j y hy => by
        rw [nth_eq, List.getElem?_append] at hy
        split at hy
        · rename_i hlt
          rw [← nth_eq] at hy
          obtain ⟨y', h3, h4⟩ := hv j y hy
          exact ⟨y', by rw [Array.getElem?_setIfInBounds_ne (by omega)]; exact h3, h4⟩
        · rename_i hge
          have hj : j = c.length := by
            have := (List.getElem?_eq_some_iff.1 hy).1
            simp at this; omega
          subst hj
          simp at hy; subst hy
          exact ⟨x', (by rw [Array.getElem?_setIfInBounds_self, if_pos (by omega)]), h1⟩) h2 i v (by simpa using h)
      simpa using this

theorem storeV_sound (hR : Rel P ρ s w) {ty : TypeId} {n : Nat} {x x' y y' : Value} {h' : Heap} (hs : sizeT P ty = some n) (hx : VR ρ x x') (hy : VR ρ y y') (h : storeV s.h n x y = some h') :
    ∃ ad w', x' = .pointer (some ad) ∧ (storeVar ty ad y').run P w = .ok () w' ∧ Rel P ρ { s with h := h' } w' ∧ Ext No ρ s w ρ { s with h := h' } w' := by
  unfold storeV at h
  split at h <;> first | (simp at h; done) | skip
  split at h <;> first | (simp at h; done) | skip
  rename_i c ty0 lo hi hg
  simp only at h
  split at h <;> first | (simp at h; done) | skip
  rename_i hcond
  obtain ⟨h1, h2, h3, h4⟩ := hcond
  simp only [Option.some.injEq] at h; subst h
  cases hx with
  | @ptr b o b' r sp hb =>
    simp only at h2 h4 hg
    obtain ⟨c', f, g1, g2, g3, g4, g5⟩ := cells_of hR hb hg
    have hcl := cellsOf_rel hy
    have hlen := hcl.length
    have hsz : y'.cells.size = n := by simp at hlen; omega
    have hfree := free_spec h4
    obtain ⟨w', h5, h6⟩ := storeCells_run (P := P) (o := o) (f := f) y'.cells.toList 0 c' w g1 (by simp; omega) (single_all hcl h3) (fun k k1 k2 ⟨k3, k4⟩ => by
      have := g5 k k3 k4 (by simp at k2; omega)
      simp at k2
      omega)
    have ho : OR P ρ r (.cells (updL c o (cellsOf y)) ty0 lo hi) (.cells ((y'.cells.toList.zipIdx (o + 0)).foldl (fun (cs : Array Value) (c : Value × Nat) => cs.setIfInBounds c.2 c.1) c') ty0 f) :=
      .cells (by rw [foldl_set_size]; exact g2) (by rw [foldl_set_size, updL_length]; exact g3) (cells_upd g3 g4 hcl o (by omega)) (by rw [foldl_set_size]; exact g5)
    refine ⟨⟨b', o, none⟩, w', rfl, ?_, rel_upd hR hg hb h6 ho, ext_upd No hg hb h6 (free_ro h4)⟩
    unfold storeVar
    rw [run_bind_ok (run_size hs), if_neg (by simp [hsz])]
    exact h5
end
end Ev

/- Soundness of the operations that write memory: maps, iterators, append, copy. -/
namespace Ev
open Go

section
variable {P : Program} {ρ : Rho} {s : S} {w : World} {t : List Value} {a : Act}

theorem L2.append {α β : Type} {R : α → β → Prop} {l l' : List α} {m m' : List β} (h : L2 R l m) (h' : L2 R l' m') : L2 R (l ++ l') (m ++ m') := by
  induction h with
  | nil => exact h'
  | cons a _ ih => exact .cons a ih

theorem L2.set {α β : Type} {R : α → β → Prop} {l : List α} {m : List β} (h : L2 R l m) (i : Nat) {x : α} {y : β} (hx : R x y) : L2 R (upd l i x) (m.set i y) := by
  induction h generalizing i with
  | nil => simpa [upd] using L2.nil
  | cons a _ ih => cases i with
    | zero => exact .cons hx ‹_›
    | succ i => exact .cons a (ih i)

theorem L2.erase {α β : Type} {R : α → β → Prop} {l : List α} {m : List β} (h : L2 R l m) (i : Nat) : L2 R (l.eraseIdx i) (m.eraseIdx i) := by
  induction h generalizing i with
  | nil => simpa using L2.nil
  | cons a _ ih => cases i with
    | zero => assumption
    | succ i => exact .cons a (ih i)

theorem ba_beq (a b : ByteArray) : (a == b) = (a.data == b.data) := rfl
theorem ba_eq {a b : ByteArray} (h : (a == b) = true) : a = b := by
  have h2 : a.data = b.data := by rw [ba_beq] at h; simpa using h
  cases a; cases b; simp at h2; rw [h2]
theorem ba_refl (a : ByteArray) : (a == a) = true := by rw [ba_beq]; simp

theorem key_stays {kk : KK} {x x' y y' : Value} (hx : VR ρ x x') (hy : VR ρ y y') (h : keyEq kk x y = some true) : (Instr.keyThatStays y' x').run P w = .ok x' w := by
  cases kk <;> cases x <;> cases y <;> simp only [keyEq] at h <;> first | (simp at h; done) | skip
  · split at h <;> simp at h
    subst h
    rename_i hk
    cases hx; cases hy
    simp [Instr.keyThatStays, Instr.sameBits, hk]
  · simp only [Option.some.injEq] at h
    have h := ba_eq h
    subst h
    cases hx; cases hy
    simp [Instr.keyThatStays, Instr.sameBits, ba_refl]

theorem arr_modify {es' : Array MapEntry} {i : Nat} {e' : MapEntry} (h : es'[i]? = some e') (f : MapEntry → MapEntry) : (es'.modify i f).toList = es'.toList.set i (f e') := by
  apply List.ext_getElem?
  intro j
  rw [Array.getElem?_toList, Array.getElem?_modify, List.getElem?_set]
  by_cases hij : i = j
  · subst hij
    obtain ⟨hlt, he⟩ := Array.getElem?_eq_some_iff.1 h
    subst he
    simp [hlt]
  · simp [hij]

theorem mapSet_sound (hR : Rel P ρ s w) {ty key el : TypeId} {kk : KK} {x x' v v' : Value} {r r' b : Nat} {es : List MapEntry} {clock : Nat} {s' : S} {u : Value}
    (hu : P.underlying ty = some (.map key el)) (hk : cKey P key = some kk) (hb : ρ r = some (r', b)) (hg : s.h.get r = some (.map es clock)) (hx : VR ρ x x') (hv : VR ρ v v')
    (h : (match find kk x es 0, keyEq kk x x with
        | some (some (i, e)), some _ => some (undef, ({ s with h := s.h.set r (some (.map (upd es i { e with key := x, val := v }) clock)) } : S))
        | some none, some _ => some (undef, { s with h := s.h.set r (some (.map (es ++ [{ key := x, val := v, born := clock }]) (clock + 1))) })
        | _, _ => none) = some (u, s')) :
    u = undef ∧ ∃ w', (Instr.mapUpdate ty (.map (some r')) x' v').run P w = .ok () w' ∧ Rel P ρ s' w' ∧ Ext No ρ s w ρ s' w' := by
  obtain ⟨d, hd, hd'⟩ := cKey_desc hk
  have hck : ∀ b, (Instr.checkKey b 10000 key x').run P w = .ok () w := fun b => checkKey_run hd (hd'.elim (fun h => .inl h.2) (fun h => .inr h.2)) x'
  obtain ⟨es', h1, h2⟩ := map_of hR hb hg
  have hgo := getObj_run (P := P) h1 (by simp)
  split at h <;> first | (simp at h; done) | skip
  · rename_i i e _ hf _
    simp only [Option.some.injEq, Prod.mk.injEq] at h
    obtain ⟨rfl, rfl⟩ := h
    obtain ⟨e', h3, h4, h5, h6, h7⟩ := findKey_run (w := w) hk hx h2 hf
    have h6' : es'[i]? = some e' := by simpa using h6
    have hs := key_stays (P := P) (w := w) hx h4.1 h7
    have hu2 := upd_setObj (w := w) (o2 := .map (es'.modify i fun e => { e with key := x', val := v' }) clock) h1
    refine ⟨rfl, _, ?_, rel_upd hR hg hb hu2 (.map ?_), ext_upd _ hg hb hu2⟩
    · simp only [Instr.mapUpdate]
      rw [run_bind_ok (run_under hu)]
      simp only []
      rw [run_bind_ok hgo]
      simp only []
      rw [run_bind_ok (hck _), run_bind_ok h3]
      simp only [h6', Option.map_some, Option.getD_some]
      rw [run_bind_ok hs]
      exact setObj_run h1 (by simp)
    · rw [arr_modify h6']
      exact h2.set i ⟨hx, hv, h4.2.2⟩
  · rename_i hf _
    simp only [Option.some.injEq, Prod.mk.injEq] at h
    obtain ⟨rfl, rfl⟩ := h
    have h3 := findKey_run (w := w) hk hx h2 hf
    have hu2 := upd_setObj (w := w) (o2 := .map (es'.push { key := x', val := v', born := clock }) (clock + 1)) h1
    refine ⟨rfl, _, ?_, rel_upd hR hg hb hu2 (.map ?_), ext_upd _ hg hb hu2⟩
    · simp only [Instr.mapUpdate]
      rw [run_bind_ok (run_under hu)]
      simp only []
      rw [run_bind_ok hgo]
      simp only []
      rw [run_bind_ok (hck _), run_bind_ok h3]
      exact setObj_run h1 (by simp)
    · rw [Array.toList_push]
      exact h2.append (.cons ⟨hx, hv, rfl⟩ .nil)

theorem mapEntry_sound (hR : Rel P ρ s w) {ty key el : TypeId} {kk : KK} {x x' z : Value} {r r' b : Nat} {es : List MapEntry} {clock : Nat} {s' : S} {u : Value}
    (hu : P.underlying ty = some (.map key el)) (hk : cKey P key = some kk) (hz : zeroT P el = some z) (hcl : closed z = true) (hb : ρ r = some (r', b)) (hg : s.h.get r = some (.map es clock)) (hx : VR ρ x x')
    (h : (match find kk x es 0, keyEq kk x x with
        | some (some (i, e)), some _ => some (.tuple #[e.val, goInt e.born], ({ s with h := s.h.set r (some (.map (upd es i { e with key := x }) clock)) } : S))
        | some none, some _ => some (.tuple #[z, goInt clock], { s with h := s.h.set r (some (.map (es ++ [{ key := x, val := z, born := clock }]) (clock + 1))) })
        | _, _ => none) = some (u, s')) :
    ∃ u' w', (Instr.mapEntry ty (.map (some r')) x').run P w = .ok u' w' ∧ VR ρ u u' ∧ Rel P ρ s' w' ∧ Ext No ρ s w ρ s' w' := by
  obtain ⟨d, hd, hd'⟩ := cKey_desc hk
  have hck : ∀ b, (Instr.checkKey b 10000 key x').run P w = .ok () w := fun b => checkKey_run hd (hd'.elim (fun h => .inl h.2) (fun h => .inr h.2)) x'
  obtain ⟨es', h1, h2⟩ := map_of hR hb hg
  have hgo := getObj_run (P := P) h1 (by simp)
  split at h <;> first | (simp at h; done) | skip
  · rename_i i e _ hf _
    simp only [Option.some.injEq, Prod.mk.injEq] at h
    obtain ⟨rfl, rfl⟩ := h
    obtain ⟨e', h3, h4, h5, h6, h7⟩ := findKey_run (w := w) hk hx h2 hf
    have h6' : es'[i]? = some e' := by simpa using h6
    have hs := key_stays (P := P) (w := w) hx h4.1 h7
    have hu2 := upd_setObj (w := w) (o2 := .map (es'.modify i fun e => { e with key := x' }) clock) h1
    refine ⟨.tuple #[e'.val, goInt e'.born], _, ?_, .tuple (.cons h4.2.1 (.cons (by rw [h4.2.2]; exact .int _ _) .nil)), rel_upd hR hg hb hu2 (.map ?_), ext_upd _ hg hb hu2⟩
    · simp only [Instr.mapEntry]
      rw [run_bind_ok (run_under hu)]
      simp only []
      rw [run_bind_ok hgo]
      simp only []
      rw [run_bind_ok (hck _), run_bind_ok h3]
      simp only [h6', Option.map_some, Option.getD_some]
      rw [run_bind_ok hs, run_bind_ok (setObj_run h1 (by simp))]
      rfl
    · rw [arr_modify h6']
      exact h2.set i ⟨hx, h4.2.1, h4.2.2⟩
  · rename_i hf _
    simp only [Option.some.injEq, Prod.mk.injEq] at h
    obtain ⟨rfl, rfl⟩ := h
    have h3 := findKey_run (w := w) hk hx h2 hf
    have hu2 := upd_setObj (w := w) (o2 := .map (es'.push { key := x', val := z, born := clock }) (clock + 1)) h1
    refine ⟨.tuple #[z, goInt clock], _, ?_, .tuple (.cons (closed_VR hcl) (.cons (.int _ _) .nil)), rel_upd hR hg hb hu2 (.map ?_), ext_upd _ hg hb hu2⟩
    · simp only [Instr.mapEntry]
      rw [run_bind_ok (run_under hu)]
      simp only []
      rw [run_bind_ok hgo]
      simp only []
      rw [run_bind_ok (hck _), run_bind_ok h3]
      simp only []
      rw [run_bind_ok (run_zero hz), run_bind_ok (setObj_run h1 (by simp))]
      rfl
    · rw [Array.toList_push]
      exact h2.append (.cons ⟨hx, closed_VR hcl, rfl⟩ .nil)

theorem find_idx {es es' : List MapEntry} (h : L2 (ER ρ) es es') (p : Nat → Bool) : ∀ {i : Nat} {e : MapEntry}, es.findIdx? (fun e => p e.born) = some i → es.find? (fun e => p e.born) = some e →
    ∃ e', es'.findIdx? (fun e => p e.born) = some i ∧ ER ρ e e' ∧ es'[i]? = some e' := by
  induction h with
  | nil => intro i e hi; simp at hi
  | @cons x y l m hxy _ ih =>
    intro i e hi he
    rw [List.findIdx?_cons] at hi
    rw [List.find?_cons] at he
    rw [List.findIdx?_cons, hxy.2.2]
    cases hb : p x.born with
    | true =>
      simp only [hb, if_true, Option.some.injEq] at hi he ⊢
      subst hi; subst he
      exact ⟨y, rfl, hxy, rfl⟩
    | false =>
      simp only [hb, Bool.false_eq_true, if_false] at hi he ⊢
      cases hj : l.findIdx? (fun e => p e.born) with
      | none => simp [hj] at hi
      | some j =>
        simp [hj] at hi
        subst hi
        obtain ⟨e', h1, h2, h3⟩ := ih hj he
        exact ⟨e', by simp [h1], h2, by simpa using h3⟩

theorem entrySet_sound (hR : Rel P ρ s w) {ty : TypeId} {v v' st' : Value} {k : IntKind} {born : Int} {r r' b : Nat} {es : List MapEntry} {clock : Nat} {s' : S} {u : Value}
    (hb : ρ r = some (r', b)) (hg : s.h.get r = some (.map es clock)) (hst : VR ρ (.int k born) st') (hv : VR ρ v v')
    (h : (match es.findIdx? (fun e => (e.born : Int) == born), es.find? (fun e => (e.born : Int) == born) with
        | some i, some e => some (undef, ({ s with h := s.h.set r (some (.map (upd es i { e with val := v }) clock)) } : S))
        | _, _ => none) = some (u, s')) :
    u = undef ∧ ∃ w', (Instr.entryStore ty (.map (some r')) st' v').run P w = .ok () w' ∧ Rel P ρ s' w' ∧ Ext No ρ s w ρ s' w' := by
  obtain ⟨es', h1, h2⟩ := map_of hR hb hg
  split at h <;> first | (simp at h; done) | skip
  rename_i i e hi he
  simp only [Option.some.injEq, Prod.mk.injEq] at h
  obtain ⟨rfl, rfl⟩ := h
  obtain ⟨e', h3, h4, h5⟩ := find_idx h2 (fun n => (n : Int) == born) hi he
  have h5' : es'[i]? = some e' := by simpa using h5
  have h3' : es'.findIdx? (fun e => (e.born : Int) == born) = some i := by rw [← h3, ← List.findIdx?_toArray]
  have hu2 := upd_setObj (w := w) (o2 := .map (es'.modify i fun e => { e with val := v' }) clock) h1
  refine ⟨rfl, _, ?_, rel_upd hR hg hb hu2 (.map ?_), ext_upd _ hg hb hu2⟩
  · cases hst
    simp only [Instr.entryStore]
    rw [run_bind_ok (getObj_run h1 (by simp))]
    simp only [asInt, asIntOf, pure_bind]
    simp only [h3']
    exact setObj_run h1 (by simp)
  · rw [arr_modify h5']
    exact h2.set i ⟨h4.1, hv, h4.2.2⟩

theorem delete_sound (hR : Rel P ρ s w) {ty key el rt : TypeId} {ts : List TypeId} {kk : KK} {x x' : Value} {r r' b : Nat} {es : List MapEntry} {clock : Nat} {s' : S} {u : Value}
    (hu : P.underlying ty = some (.map key el)) (hk : cKey P key = some kk) (hb : ρ r = some (r', b)) (hg : s.h.get r = some (.map es clock)) (hx : VR ρ x x')
    (h : (match find kk x es 0, keyEq kk x x with
        | some (some (i, _)), some _ => some (.tuple #[], ({ s with h := s.h.set r (some (.map (es.eraseIdx i) clock)) } : S))
        | some none, some _ => some (.tuple #[], s)
        | _, _ => none) = some (u, s')) :
    u = .tuple #[] ∧ ∃ w', (Builtin.delete_ ⟨ty :: ts⟩ rt #[.map (some r'), x']).run P w = .ok (.tuple #[]) w' ∧ Rel P ρ s' w' ∧ Ext No ρ s w ρ s' w' := by
  obtain ⟨d, hd, hd'⟩ := cKey_desc hk
  have hck : ∀ b, (Instr.checkKey b 10000 key x').run P w = .ok () w := fun b => checkKey_run hd (hd'.elim (fun h => .inl h.2) (fun h => .inr h.2)) x'
  obtain ⟨es', h1, h2⟩ := map_of hR hb hg
  have hgo := getObj_run (P := P) h1 (by simp)
  have start : ∀ r : Result Value, (do
      match ← Instr.findKey key x' es'.toList with
      | some (i, _) => setObj r' (.map (es'.eraseIdxIfInBounds i) clock)
      | none => setObj r' (.map es' clock)
      pure (.tuple #[]) : Sem Value).run P w = r → (Builtin.delete_ ⟨ty :: ts⟩ rt #[.map (some r'), x']).run P w = r := by
    intro r hr
    rw [← hr]
    simp only [Builtin.delete_, List.getElem?_toArray, List.getElem?_cons_zero, List.getElem?_cons_succ]
    rw [run_bind_ok (run_under hu)]
    simp only []
    rw [run_bind_ok hgo]
    simp only []
    rw [run_bind_ok (hck _), run_bind, run_bind]
    generalize (Instr.findKey key x' es'.toList).run P w = q
    cases q with
    | ok v w1 => cases v with
      | none => simp [Sem.run_bind]
      | some v => simp [Sem.run_bind]
    | halt h w1 => rfl
  split at h <;> first | (simp at h; done) | skip
  · rename_i i e _ hf _
    simp only [Option.some.injEq, Prod.mk.injEq] at h
    obtain ⟨rfl, rfl⟩ := h
    obtain ⟨e', h3, h4, h5, h6, h7⟩ := findKey_run (w := w) hk hx h2 hf
    have h6' : i < es'.size := by have := (List.getElem?_eq_some_iff.1 h6).1; simpa using this
    have hu2 := upd_setObj (w := w) (o2 := .map (es'.eraseIdxIfInBounds i) clock) h1
    refine ⟨rfl, _, start _ ?_, rel_upd hR hg hb hu2 (.map ?_), ext_upd _ hg hb hu2⟩
    · rw [run_bind_ok h3]
      simp only []
      rw [run_bind_ok (setObj_run h1 (by simp))]
      rfl
    · have : (es'.eraseIdxIfInBounds i).toList = es'.toList.eraseIdx i := by simp [Array.eraseIdxIfInBounds, h6']
      rw [this]
      exact h2.erase i
  · rename_i hf _
    simp only [Option.some.injEq, Prod.mk.injEq] at h
    obtain ⟨rfl, rfl⟩ := h
    have h3 := findKey_run (w := w) hk hx h2 hf
    have hu2 := upd_setObj (w := w) (o2 := .map es' clock) h1
    have hsame : Rel P ρ s { w with heap := w.heap.setIfInBounds r' (.map es' clock) } ∧ Ext No ρ s w ρ s { w with heap := w.heap.setIfInBounds r' (.map es' clock) } := by
      have e : w.heap.setIfInBounds r' (.map es' clock) = w.heap := by
        apply Array.ext_getElem?
        intro i
        by_cases hi : i = r'
        · subst hi
          have := hu2.at_
          simp only at this
          rw [this, h1]
        · rw [Array.getElem?_setIfInBounds_ne (Ne.symm hi)]
      rw [e]
      exact ⟨hR, Ext.refl _ _ _ _⟩
    refine ⟨rfl, _, start _ ?_, hsame.1, hsame.2⟩
    rw [run_bind_ok h3]
    simp only []
    rw [run_bind_ok (setObj_run h1 (by simp))]
    rfl
end
end Ev
