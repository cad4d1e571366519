/- Parts of the proof: The engine, part 1: a function from the model's code to a plain predicate over worlds ('cexec'), and the words that such predicates are made of. The engine, part 2: what one operation comes to ('resolve', 'Prim'), regions, and whole bodies ('cexec'). The engine, part 3: regions and bodies. The engine, part 4: what an operation comes to is what the model does. The engine, part 5: each operation. The engine, part 6: arithmetic, composite values, slices of slices. The engine, part 7: new memory, stores, slices, append, copy, calls. The engine, part 8: slices, append, copy, texts, calls. The engine, part 9: builtins, conversions, calls; every operation. The engine, part 10: the operations of a region, in an order. The engine, part 11: regions in the text's order. The engine, part 12: a region that draws its order: one walk serves every order. The engine, part 13: a region that draws its order, and the orders. The engine, part 14: every order of a region that draws. The engine, part 15: bodies. The engine, part 16: bodies, and calls. The engine, part 17: bodies, soundly. The engine, part 18: calls. Some words of the printed predicates. Conditions: none. -/
import Derived.Calls
import Derived.Orders
import Derived.Scope
import Derived.Laws.World
import Derived.Laws.Entries
import Derived.Laws.Cells
import Derived.Laws.IdiomStrings
import Derived.KernelRfl
import Derived.Laws.IdiomCopy
import Derived.Laws.Build
import Derived.WalkSpells
import Derived.Laws.Unary
import Derived.Conc.LoneSelect
namespace Go.Eng
open Go

abbrev F := World → Prop

/-- Shapes of one cell. -/
inductive Sh where
  | i (k : IntKind) | bo | po | sl | tx | mp | ch | va | ad
  deriving DecidableEq
structure Sl where
  a : Option Addr
  len : Nat
  cap : Nat
@[reducible] def Sh.T : Sh → Type
  | .i _ => Int
  | .bo => Bool
  | .po => Option Addr
  | .sl => Sl
  | .tx => ByteArray
  | .mp => Option Nat
  | .ch => Option Nat
  | .va => Value
  | .ad => Nat × Nat
def Sh.mk : (s : Sh) → s.T → Value
  | .i k, n => .int k n
  | .bo, x => .bool x
  | .po, x => .pointer x
  | .sl, x => .slice x.a x.len x.cap
  | .tx, x => .string x
  | .mp, x => .map x
  | .ch, x => .chan x
  | .va, x => x
  | .ad, x => .pointer (some ⟨x.1, x.2, none⟩)
def Sh.un : (s : Sh) → Value → Option s.T
  | .i k, .int j n => bif (decide (j = k)) then some n else none
  | .bo, .bool x => some x
  | .po, .pointer x => some x
  | .sl, .slice a l c => some ⟨a, l, c⟩
  | .tx, .string x => some x
  | .mp, .map x => some x
  | .ch, .chan x => some x
  | .va, x => some x
  | .ad, .pointer (some ⟨b, o, none⟩) => some (b, o)
  | _, _ => none
theorem Sh.un_mk {s : Sh} {v : Value} {x : s.T} (h : s.un v = some x) : v = s.mk x := by
  cases s with
  | i k =>
    cases v with
    | int j n =>
      simp only [Sh.un] at h
      by_cases hd : j = k
      · subst hd; simp at h; subst h; rfl
      · simp [hd] at h
    | _ => cases h
  | ad =>
    cases v with
    | pointer q =>
      cases q with
      | none => cases h
      | some q =>
        obtain ⟨b, o, s⟩ := q
        cases s with
        | none => simp only [Sh.un, Option.some.injEq] at h; subst h; rfl
        | some s => cases h
    | _ => cases h
  | _ => cases v <;> simp only [Sh.un, Sh.mk] at h ⊢ <;> first | (cases h; rfl) | cases h

/-- An address in its plain form. -/
abbrev A (b o : Nat) : Addr := ⟨b, o, none⟩

/-! ### The words -/
def br (c : Bool) (x y : F) : F := match c with | true => x | false => y
def chk (c : Prop) (k : F) : F := fun w => c ∧ k w
def no : F := fun _ => False
def ld (s : Sh) (a : Addr) (k : s.T → F) : F := fun w => ∃ x, w.cell? a = some (s.mk x) ∧ k x w
def nn (p : Option Addr) (k : Nat → Nat → F) : F := fun w => ∃ b o, p = some (A b o) ∧ k b o w
def ix (base : Option Addr) (len : Nat) (i : Int) (k : Nat → Nat → F) : F :=
  fun w => ∃ b o, base = some (A b o) ∧ 0 ≤ i ∧ i < len ∧ k b o w
def setRow (w : World) (b o : Nat) : List Value → World
  | [] => w
  | v :: vs => setRow (w.setCell (A b o) v) b (o + 1) vs
def rowOk (w : World) (b o n : Nat) : Prop := ∀ j, j < n → (w.cell? (A b (o + j))).isSome = true ∧ w.frozen? (A b (o + j)) = false
def sts (b o : Nat) (vs : List Value) (k : F) : F := fun w => rowOk w b o vs.length ∧ (∀ v ∈ vs, v.oneCell' = true) ∧ k (setRow w b o vs)
def nw (cells : List Value) (ty : Nat) (k : Nat → F) : F := fun w => k w.heap.size (w.alloc (.cells cells.toArray ty))
def dr (k : F) : F := fun w => k w.drew
/-- What is in a row of cells. -/
def cellsAt (w : World) (b o : Nat) (vs : List Value) : Prop := ∀ j v, vs[j]? = some v → w.cell? (A b (o + j)) = some v
/-- Result types: is it an aggregate, its cells. -/
abbrev RT := Bool × List Sh
def HL : List Sh → Type
  | [] => Unit
  | s :: l => s.T × HL l
def Arr : List Sh → Type → Type
  | [], X => X
  | s :: l, X => s.T → Arr l X
def lam {X : Type} : (l : List Sh) → (HL l → X) → Arr l X
  | [], f => f ()
  | _ :: l, f => fun x => lam l fun y => f (x, y)
def ap {X : Type} : (l : List Sh) → Arr l X → HL l → X
  | [], f, _ => f
  | _ :: l, f, x => ap l (f x.1) x.2
theorem ap_lam {X : Type} : ∀ (l : List Sh) (f : HL l → X) (x : HL l), ap l (lam l f) x = f x
  | [], _, () => rfl
  | _ :: l, f, (a, y) => ap_lam l (fun y => f (a, y)) y
def vals : (l : List Sh) → HL l → List Value
  | [], _ => []
  | s :: l, x => s.mk x.1 :: vals l x.2
def allSh (rs : List RT) : List Sh := rs.flatMap (·.2)
/-- The result values, cut out of their cells. -/
def cutR : List RT → List Value → List Value
  | [], _ => []
  | (true, l) :: rs, vs => .agg (vs.take l.length).toArray :: cutR rs (vs.drop l.length)
  | (false, l) :: rs, vs => vs.headD undef :: cutR rs (vs.drop l.length)
def tup : List Value → Value
  | [v] => v
  | vs => .tuple vs.toArray
def resV (rs : List RT) (x : HL (allSh rs)) : Value := tup (cutR rs (vals (allSh rs) x))
/-- A call: what it returns, cell by cell. -/
def call (P : Program) (f : Nat) (args : List Value) (rs : List RT) (k : Arr (allSh rs) F) : F :=
  fun w => Calls P f args.toArray w fun e w' => ∃ x, e = .returned (resV rs x) ∧ ap (allSh rs) k x w'
def callv (P : Program) (fv : Value) (args : List Value) (rs : List RT) (k : Arr (allSh rs) F) : F :=
  fun w => ∃ f first cap, fv = .func (.func f) first cap ∧ (∃ fn, P.funcs[f]? = some fn ∧ (fn.name == "runtime.NumGoroutine") = false ∧ fn.body.isNone = false) ∧
    Calls P f (first ++ args.toArray ++ cap) w fun e w' => ∃ x, e = .returned (resV rs x) ∧ ap (allSh rs) k x w'
def joinC (l : List Sh) (x : Arr l F → F) (y : Arr l F) : F :=
  fun w => ∃ J : HL l → World → Prop, x (lam l J) w ∧ ∀ z w', J z w' → ap l y z w'
def loopC (l : List Sh) (body : Arr l F → Arr l F) : Arr l F :=
  lam l fun x0 w => ∃ (I : HL l → World → Prop) (μ : HL l → World → Nat), I x0 w ∧
    ∀ x w, I x w → ap l (body (lam l fun x' w' => I x' w' ∧ μ x' w' < μ x w)) x w
def ret (R : Ending → World → Prop) (v : Value) : F := fun w => R (.returned v) w
/-- append: the source's cells are read; there is room, or there is not. -/
def apd (size bytes ty : Nat) (zero : List Value) (s src : Sl) (k : Sl → F) : F := fun w =>
  ∃ new : List Value, new.length = src.len * size ∧ (∀ v ∈ new, v.oneCell' = true) ∧ (src.len * size ≠ 0 → ∃ b o, src.a = some (A b o) ∧ cellsAt w b o new) ∧
    ((s.len + src.len ≤ s.cap ∧ ((s.a = none ∧ k ⟨none, s.len + src.len, s.cap⟩ w) ∨ ∃ b o, s.a = some (A b o) ∧
        rowOk w b (o + s.len * size) new.length ∧ k ⟨some (A b o), s.len + src.len, s.cap⟩ (setRow w b (o + s.len * size) new))) ∨
     (s.cap < s.len + src.len ∧ Builtin.nextslicecap (s.len + src.len) s.cap * bytes ≤ 2 ^ 48 ∧ s.len + src.len < 2 ^ 63 ∧
      ∃ old : List Value, old.length = s.len * size ∧ (s.len * size ≠ 0 → ∃ b o, s.a = some (A b o) ∧ cellsAt w b o old) ∧
        ∀ cap, s.len + src.len ≤ cap → k ⟨some (A w.heap.size 0), s.len + src.len, cap⟩
          (w.drew.alloc (.cells (old ++ new ++ (Builtin.zeroCells zero.toArray (cap - (s.len + src.len))).toList).toArray ty))))
/-- append of zeros. -/
def apz (size bytes ty : Nat) (zero : List Value) (s : Sl) (n : Int) (k : Sl → F) : F := fun w =>
  0 ≤ n ∧ n * bytes ≤ 2 ^ 48 ∧ n < 2 ^ 63 ∧
    ((s.len + n.toNat ≤ s.cap ∧ ((s.a = none ∧ k ⟨none, s.len + n.toNat, s.cap⟩ w) ∨ ∃ b o, s.a = some (A b o) ∧
        (∀ v ∈ zero, v.oneCell' = true) ∧ zero.length = size ∧
        rowOk w b (o + s.len * size) (n.toNat * size) ∧ k ⟨some (A b o), s.len + n.toNat, s.cap⟩ (setRow w b (o + s.len * size) (if n.toNat * size = 0 then [] else (Builtin.zeroCells zero.toArray n.toNat).toList)))) ∨
     (s.cap < s.len + n.toNat ∧ Builtin.nextslicecap (s.len + n.toNat) s.cap * bytes ≤ 2 ^ 48 ∧ s.len + n.toNat < 2 ^ 63 ∧
      ∃ old : List Value, old.length = s.len * size ∧ (s.len * size ≠ 0 → ∃ b o, s.a = some (A b o) ∧ cellsAt w b o old) ∧
        ∀ cap, s.len + n.toNat ≤ cap → k ⟨some (A w.heap.size 0), s.len + n.toNat, cap⟩
          (w.drew.alloc (.cells (old ++ (if n.toNat * size = 0 then [] else (Builtin.zeroCells zero.toArray n.toNat).toList) ++ (Builtin.zeroCells zero.toArray (cap - (s.len + n.toNat))).toList).toArray ty))))
def cpy (size : Nat) (d src : Sl) (k : Int → F) : F := fun w =>
  ∃ new : List Value, new.length = min src.len d.len * size ∧ (∀ v ∈ new, v.oneCell' = true) ∧ (new.length ≠ 0 → ∃ b o, src.a = some (A b o) ∧ cellsAt w b o new) ∧
    ((d.a = none ∧ k (min src.len d.len : Nat) w) ∨ ∃ b o, d.a = some (A b o) ∧
      rowOk w b o new.length ∧ k (min src.len d.len : Nat) (setRow w b o new))
/-- make of a slice. -/
def mks (size bytes ty : Nat) (zero : List Value) (n c : Int) (k : Sl → F) : F := fun w =>
  0 ≤ n ∧ n ≤ c ∧ bytes * c ≤ 2 ^ 48 ∧ c < 2 ^ 63 ∧ k ⟨some (A w.heap.size 0), n.toNat, c.toNat⟩ (w.alloc (.cells ((Array.range (c.toNat * size)).map (zero.toArray[· % zero.toArray.size]!)) ty))
/-- the text that bytes are. -/
def bstr (s : Sl) (k : ByteArray → F) : F := fun w =>
  ∃ x : ByteArray, x.size = s.len ∧ (s.len ≠ 0 → ∃ b o, s.a = some (A b o) ∧ cellsAt w b o (x.data.toList.map fun c => .int .u8 c.toNat)) ∧ k x w
/-- the bytes of a text. -/
def sbts (ty : Nat) (x : ByteArray) (k : Sl → F) : F := fun w =>
  ∀ cap, x.size ≤ cap → k ⟨some (A w.heap.size 0), x.size, cap⟩ (w.drew.alloc (.cells (bytesRow x cap) ty ((bytesRow x cap).size, (bytesRow x cap).size + 1)))
def obj (r : Option Nat) (k : Nat → Obj → F) : F := fun w => ∃ b o, r = some b ∧ w.heap[b]? = some o ∧ k b o w
def seto (b : Nat) (o : Obj) (k : F) : F := fun w => k { w with heap := w.heap.setIfInBounds b o }
def nwo (o : Obj) (k : Nat → F) : F := fun w => k w.heap.size (w.alloc o)
end Go.Eng
namespace Go.Eng
open Go

/-- A type as the engine sees it. -/
inductive U where
  | bo | int (k : IntKind) | tx | po (e : Nat) | sl (e : Nat) | arr (n e : Nat) | mp (k e : Nat) | ch (e : Nat) | st (fs : List (Nat × Nat)) | fn | ifc | other
def U.of : TypeDesc → U
  | .bool => .bo
  | .int k => .int k
  | .string => .tx
  | .pointer e => .po e
  | .slice e => .sl e
  | .array n e => .arr n e
  | .map k e => .mp k e
  | .chan _ e => .ch e
  | .struct fs => .st (fs.toList.map fun f => (f.type, f.offset))
  | .func .. => .fn
  | .interface _ => .ifc
  | _ => .other
def U.agg : U → Bool
  | .st _ | .arr _ _ => true
  | _ => false
structure TI where
  und : U
  size : Nat
  bytes : Nat
  zero : List Value
  lvs : List Sh
structure Tab where
  P : Program
  ti : Nat → Option TI
  fr : Nat → Option (List RT)

abbrev Env := Nat → Option Value
def ev (ρ : Env) : Operand → Option Value
  | .tmp t => ρ t
  | .const v => some v
  | .global g => some (.pointer (some ⟨g, 0, none⟩))
  | .func f => some (.func (.func f) #[] #[])
def evs (ρ : Env) : List Operand → Option (List Value)
  | [] => some []
  | x :: l => match ev ρ x with
    | some v => match evs ρ l with
      | some vs => some (v :: vs)
      | none => none
    | none => none
def put (ρ : Env) (d : Nat) (v : Option Value) : Env := fun t => bif Nat.beq t d then v else ρ t
def putd (ρ : Env) (d : Option Nat) (v : Option Value) : Env := match d with
  | some d => put ρ d v
  | none => ρ

/-- What an operation comes to, its operands being known. -/
inductive Prim where
  | val (v : Value)
  | chk (c : Prop) (v : Value)
  | pick (c : Bool) (x y : Option Value)
  | nn (p : Option Addr)
  | ix (base : Option Addr) (len : Nat) (i : Int) (size : Nat)
  | rd (agg : Bool) (l : List Sh) (b o : Nat)
  | bstr (s : Sl)
  | sts (b o : Nat) (vs : List Value)
  | nw (cells : List Value) (ty : Nat)
  | nws (cells : List Value) (ty n : Nat)
  | mks (size bytes ty : Nat) (zero : List Value) (n c : Int)
  | sbts (ty : Nat) (x : ByteArray)
  | apd (size bytes ty : Nat) (zero : List Value) (s src : Sl)
  | apz (size bytes ty : Nat) (zero : List Value) (s : Sl) (n : Int)
  | cpy (size : Nat) (d src : Sl)
  | call (f : Nat) (args : List Value) (rs : List RT)
  | callv (fv : Value) (args : List Value) (rs : List RT)
  | raw (m : Sem Value) (tupled : Bool) (l : List Sh)
  | rawu (m : Sem Unit)
  | next (m : Sem Value) (l : List Sh)
  | selR (r : Option Nat)
  | selS (r : Option Nat) (v : Value)

def Prim.eff : Prim → Bool
  | .val _ | .chk _ _ | .pick _ _ _ | .nn _ | .ix _ _ _ _ | .rd _ _ _ _ | .bstr _ => false
  | _ => true

def ldn (b o : Nat) : List Sh → List Value → (List Value → F) → F
  | [], acc, k => k acc.reverse
  | s :: l, acc, k => ld s (A b o) fun x => ldn b (o + 1) l (s.mk x :: acc) k
def optF (v : Option Value) (k : Value → F) : F := match v with
  | some v => k v
  | none => no
def rawC (P : Program) (m : Sem Value) (tupled : Bool) (l : List Sh) (k : Arr l F) : F := fun w =>
  ∃ x w', m.run P w = .ok (bif tupled then .tuple (vals l x).toArray else (vals l x).headD undef) w' ∧ ap l k x w'
def rawU (P : Program) (m : Sem Unit) (k : F) : F := fun w => ∃ w', m.run P w = .ok () w' ∧ k w'
def nextC (P : Program) (m : Sem Value) (l : List Sh) (over : F) (k : Arr l F) : F := fun w =>
  (∃ w', m.run P w = .ok (.tuple #[.bool false]) w' ∧ over w') ∨ ∃ x w', m.run P w = .ok (.tuple (.bool true :: vals l x).toArray) w' ∧ ap l k x w'

/-- Is it the nil function value? -/
def isNilFn : Value → Bool
  | .nilFunc => true
  | _ => false
def isFn : Value → Prop
  | .nilFunc => True
  | .func _ _ _ => True
  | _ => False
/-- A select of one receive (of an int) and a default. -/
def selR (r : Option Nat) (dflt : F) (k : Int → F) : F := fun w => ∃ b cap buf s c, r = some b ∧ w.heap[b]? = some (.chan cap buf false s c false) ∧
  ((buf = #[] ∧ dflt w) ∨ ∃ x rest, buf = (.int .i64 x :: rest).toArray ∧ k x { w with heap := w.heap.setIfInBounds b (.chan cap rest.toArray false s (c + 1) false) })
/-- A select of one send and a default. -/
def selS (r : Option Nat) (v : Value) (dflt k : F) : F := fun w => ∃ b cap buf s c, r = some b ∧ w.heap[b]? = some (.chan cap buf false s c false) ∧
  ((cap ≤ buf.size ∧ dflt w) ∨ (buf.size < cap ∧ k { w with heap := w.heap.setIfInBounds b (.chan cap (buf.push v) false (s + 1) c false) }))
/-- A primitive, and what is done with its value. -/
def Prim.f (P : Program) : Prim → (Value → F) → F
  | .val v, k => k v
  | .chk c v, k => Eng.chk c (k v)
  | .pick c x y, k => br c (optF x k) (optF y k)
  | .nn p, k => Eng.nn p fun b o => k (.pointer (some (A b o)))
  | .ix base len i size, k => Eng.ix base len i fun b o => k (.pointer (some (A b (o + i.toNat * size))))
  | .rd true l b o, k => ldn b o l [] fun vs => k (.agg vs.toArray)
  | .rd false l b o, k => match l with
    | [s] => ld s (A b o) fun x => k (s.mk x)
    | _ => no
  | .bstr s, k => Eng.bstr s fun x => k (.string x)
  | .sts b o vs, k => Eng.sts b o vs (k undef)
  | .nw cells ty, k => Eng.nw cells ty fun b => k (.pointer (some (A b 0)))
  | .nws cells ty n, k => Eng.nw cells ty fun b => k (.slice (some (A b 0)) n n)
  | .mks size bytes ty zero n c, k => Eng.mks size bytes ty zero n c fun s => k (.slice s.a s.len s.cap)
  | .sbts ty x, k => Eng.sbts ty x fun s => k (.slice s.a s.len s.cap)
  | .apd size bytes ty zero s src, k => Eng.apd size bytes ty zero s src fun s => k (.slice s.a s.len s.cap)
  | .apz size bytes ty zero s n, k => Eng.apz size bytes ty zero s n fun s => k (.slice s.a s.len s.cap)
  | .cpy size d src, k => Eng.cpy size d src fun n => k (.int .i64 n)
  | .call f args rs, k => Eng.call P f args rs (lam (allSh rs) fun x => k (resV rs x))
  | .callv fv args rs, k => Eng.callv P fv args rs (lam (allSh rs) fun x => k (resV rs x))
  | .raw m tupled l, k => rawC P m tupled l (lam l fun x => k (bif tupled then .tuple (vals l x).toArray else (vals l x).headD undef))
  | .rawu m, k => rawU P m (k undef)
  | .next m l, k => nextC P m l (k (.tuple #[.bool false])) (lam l fun x => k (.tuple (.bool true :: vals l x).toArray))
  | .selR r, k => Eng.selR r (k (.tuple #[.int .i64 (-1), .bool false, .int .i64 0])) fun x => k (.tuple #[.int .i64 0, .bool true, .int .i64 x])
  | .selS r v, k => Eng.selS r v (k (.tuple #[.int .i64 (-1), .bool false])) (k (.tuple #[.int .i64 0, .bool false]))

/-! ### The operations -/
def binN (u : U) (op : BinOp) (x : Value) : Option Prim := match u, op with
  | .fn, .eql => some (.chk (isFn x) (.bool (isNilFn x)))
  | .fn, .neq => some (.chk (isFn x) (.bool (!isNilFn x)))
  | _, _ => none
def binR (u : U) : BinOp → Value → Value → Option Prim
  | .shl, .int k a, .int _ b => some (.chk (0 ≤ b) (.int k (k.wrap (a * 2 ^ (min b.toNat k.bits)))))
  | .shr, .int k a, .int _ b => some (.chk (0 ≤ b) (.int k (a.fdiv (2 ^ (min b.toNat k.bits)))))
  | op, .int k a, .int j b => bif decide (j = k) then
      match op with
      | .add => some (.val (.int k (k.wrap (a + b))))
      | .sub => some (.val (.int k (k.wrap (a - b))))
      | .mul => some (.val (.int k (k.wrap (a * b))))
      | .quo => some (.chk (b ≠ 0) (.int k (k.wrap (a.tdiv b))))
      | .rem => some (.chk (b ≠ 0) (.int k (a.tmod b)))
      | .and => some (.val (.int k (k.wrap (BitVec.ofInt k.bits a &&& BitVec.ofInt k.bits b).toNat)))
      | .or => some (.val (.int k (k.wrap (BitVec.ofInt k.bits a ||| BitVec.ofInt k.bits b).toNat)))
      | .xor => some (.val (.int k (k.wrap (BitVec.ofInt k.bits a ^^^ BitVec.ofInt k.bits b).toNat)))
      | .andNot => none
      | .eql => some (.val (.bool (a == b)))
      | .neq => some (.val (.bool (a != b)))
      | .lss => some (.val (.bool (decide (a < b))))
      | .leq => some (.val (.bool (decide (a ≤ b))))
      | .gtr => some (.val (.bool (decide (a > b))))
      | .geq => some (.val (.bool (decide (a ≥ b))))
      | _ => none
    else none
  | op, .string a, .string b => match op with
      | .add => some (.chk (((a.size + b.size : Nat) : Int) ≤ 9223372036854775807) (.string (a ++ b)))
      | .eql => some (.val (.bool (a.toList == b.toList)))
      | .neq => some (.val (.bool (!(a.toList == b.toList))))
      | _ => none
  | op, .pointer p, .pointer none => match u, op with
      | .po _, .eql => some (.val (.bool p.isNone))
      | .po _, .neq => some (.val (.bool (!p.isNone)))
      | _, _ => none
  | op, .slice a _ _, .slice none _ _ => match u, op with
      | .sl _, .eql => some (.val (.bool a.isNone))
      | .sl _, .neq => some (.val (.bool (!a.isNone)))
      | _, _ => none
  | op, .bool a, .bool b => match u, op with
      | .bo, .eql => some (.val (.bool (a == b)))
      | .bo, .neq => some (.val (.bool (!(a == b))))
      | _, _ => none
  | _, _, _ => none
def unR : UnOp → Value → Option Prim
  | .neg, .int k n => some (.val (.int k (k.wrap (0 - n))))
  | .not, .bool b => some (.val (.bool !b))
  | .xor, .int k n => some (.val (.int k (k.wrap (BitVec.ofInt k.bits (if k.signed then -1 else k.max) ^^^ BitVec.ofInt k.bits n).toNat)))
  | _, _ => none
def nthF (fs : List (Nat × Nat)) (i : Nat) : Option (Nat × Nat) := fs[i]?
/-- The cells of a composite value. -/
def fillL (place : Nat → Option (Nat × Nat)) (cells : List Value) : List (Nat × Value) → Option (List Value)
  | [] => some cells
  | (i, v) :: rest => match place i with
    | none => none
    | some (off, size) => let vs := v.cells.toList
      bif Nat.beq vs.length size && Nat.ble (off + vs.length) cells.length then fillL place (cells.take off ++ vs ++ cells.drop (off + vs.length)) rest else none
def evp (ρ : Env) : List (Nat × Operand) → Option (List (Nat × Value))
  | [] => some []
  | (i, x) :: l => match ev ρ x with
    | some v => match evp ρ l with
      | some vs => some ((i, v) :: vs)
      | none => none
    | none => none
def sizes (T : Tab) : List (Nat × Nat) → Option (List (Nat × Nat))
  | [] => some []
  | (t, off) :: l => match T.ti t with
    | some i => match sizes T l with
      | some r => some ((off, i.size) :: r)
      | none => none
    | none => none
def rep (z : List Value) : Nat → List Value
  | 0 => []
  | n + 1 => z ++ rep z n
/-- Bounds of s[low:high]. -/
def subR (a : Option Addr) (len cap size : Nat) : Option Value → Option Value → Option Prim
  | none, none => some (.val (.slice a len cap))
  | some (.int _ l), none => some (.chk (0 ≤ l ∧ l ≤ (len : Int)) (.slice (if cap = l.toNat then a else a.map (·.add (l.toNat * size))) (len - l.toNat) (cap - l.toNat)))
  | none, some (.int _ h) => some (.chk (0 ≤ h ∧ h ≤ (cap : Int)) (.slice a h.toNat cap))
  | some (.int _ l), some (.int _ h) => some (.chk ((0 ≤ h ∧ h ≤ (cap : Int)) ∧ 0 ≤ l ∧ l ≤ (h.toNat : Int)) (.slice (if cap = l.toNat then a else a.map (·.add (l.toNat * size))) (h.toNat - l.toNat) (cap - l.toNat)))
  | _, _ => none
def subS (x : ByteArray) : Option Value → Option Value → Option Prim
  | some (.int _ l), none => some (.chk (0 ≤ l ∧ l ≤ (x.size : Int)) (.string (x.extract l.toNat x.size)))
  | none, some (.int _ h) => some (.chk (0 ≤ h ∧ h ≤ (x.size : Int)) (.string (x.extract 0 h.toNat)))
  | some (.int _ l), some (.int _ h) => some (.chk ((0 ≤ h ∧ h ≤ (x.size : Int)) ∧ 0 ≤ l ∧ l ≤ (h.toNat : Int)) (.string (x.extract l.toNat h.toNat)))
  | _, _ => none
def evo (ρ : Env) : Option Operand → Option (Option Value)
  | none => some none
  | some x => match ev ρ x with
    | some v => some (some v)
    | none => none
def builtinR (T : Tab) (b : Builtin) (ats : List Nat) (args : List Value) : Option Prim :=
  match b, ats, args with
  | .append, [st, xt], [.slice a l c, .slice a' l' c'] => match T.ti st, T.ti xt with
    | some ⟨.sl e, _, _, _, _⟩, some ⟨.sl _, _, _, _, _⟩ => match T.ti e with
      | some i => some (.apd i.size i.bytes e i.zero ⟨a, l, c⟩ ⟨a', l', c'⟩)
      | none => none
    | _, _ => none
  | .append, [st, xt], [.slice a l c, .int _ n] => match T.ti st, T.ti xt with
    | some ⟨.sl e, _, _, _, _⟩, some ⟨.int _, _, _, _, _⟩ => match T.ti e with
      | some i => some (.apz i.size i.bytes e i.zero ⟨a, l, c⟩ n)
      | none => none
    | _, _ => none
  | .copy, [st, _], [.slice a l c, .slice a' l' c'] => match T.ti st with
    | some ⟨.sl e, _, _, _, _⟩ => match T.ti e with
      | some i => some (.cpy i.size ⟨a, l, c⟩ ⟨a', l', c'⟩)
      | none => none
    | _ => none
  | .len, [t], [x] => match T.ti t, x with
    | some ⟨.sl _, _, _, _, _⟩, .slice _ l _ => some (.val (.int .i64 l))
    | some ⟨.tx, _, _, _, _⟩, .string s => some (.val (.int .i64 s.size))
    | some ⟨.ch _, _, _, _, _⟩, .chan r => some (.raw (Builtin.len_ #[t] 0 #[.chan r]) false [.i .i64])
    | some ⟨.mp _ _, _, _, _, _⟩, .map r => some (.raw (Builtin.len_ #[t] 0 #[.map r]) false [.i .i64])
    | _, _ => none
  | .cap, [t], [.slice _ _ c] => match T.ti t with
    | some ⟨.sl _, _, _, _, _⟩ => some (.val (.int .i64 c))
    | _ => none
  | .min, _, [.int k x, .int _ y] => some (.val (.int k (if y < x then y else x)))
  | .max, _, [.int k x, .int _ y] => some (.val (.int k (if x < y then y else x)))
  | .clear, [t], [x] => some (.raw (Builtin.clear_ #[t] 0 #[x]) true [])
  | .delete, [t, u], [x, y] => some (.raw (Builtin.delete_ #[t, u] 0 #[x, y]) true [])
  | _, _, _ => none
def resolve (T : Tab) (ρ : Env) (ty : Nat) : Op → Option Prim
  | .move x | .assign x => match ev ρ x with
    | some v => some (.val v)
    | none => none
  | .pick c a b => match ev ρ c with
    | some (.bool c) => some (.pick c (ev ρ a) (ev ρ b))
    | _ => none
  | .alloc t => match T.ti t with
    | some i => some (.nw i.zero t)
    | none => none
  | .box t x => match ev ρ x with
    | some v => some (.nw v.cells.toList t)
    | none => none
  | .build t ps => match T.ti t with
    | some ⟨.st fs, _, _, z, _⟩ => match sizes T fs, evp ρ ps.toList with
      | some pl, some vs => match fillL (fun i => pl[i]?) z vs with
        | some cs => some (.val (.agg cs.toArray))
        | none => none
      | _, _ => none
    | _ => none
  | .buildSlice t n ps => match T.ti t with
    | some ⟨.sl e, _, _, _, _⟩ => match T.ti e, evp ρ ps.toList with
      | some i, some vs => bif Nat.ble (n * i.size) 16777216 && Nat.beq i.zero.length i.size then
          match fillL (fun j => some (j * i.size, i.size)) (rep i.zero n) vs with
          | some cs => some (.nws cs e n)
          | none => none
        else none
      | _, _ => none
    | _ => none
  | .load t a => match ev ρ a, T.ti t with
    | some (.pointer (some ⟨b, o, none⟩)), some i => bif Nat.beq i.lvs.length i.size then some (.rd i.und.agg i.lvs b o) else none
    | _, _ => none
  | .store t a x => match ev ρ a, ev ρ x, T.ti t with
    | some (.pointer (some ⟨b, o, none⟩)), some v, some i => bif Nat.beq v.cells.toList.length i.size then some (.sts b o v.cells.toList) else none
    | _, _, _ => none
  | .nilCheck x => match ev ρ x with
    | some (.pointer p) => some (.nn p)
    | _ => none
  | .binOp op t x y _ => match ev ρ x, ev ρ y, T.ti t with
    | some a, some b, some i => match b with
      | .nilFunc => binN i.und op a
      | b => binR i.und op a b
    | _, _, _ => none
  | .unOp op _ x => match ev ρ x with
    | some a => unR op a
    | none => none
  | .convert s d x => match T.ti s, T.ti d, ev ρ x with
    | some ⟨.int _, _, _, _, _⟩, some ⟨.int k, _, _, _, _⟩, some (.int _ n) => some (.val (.int k (k.wrap n)))
    | some ⟨.sl e, _, _, _, _⟩, some ⟨.tx, _, _, _, _⟩, some (.slice a l c) => match T.ti e with
      | some ⟨.int .u8, _, _, _, _⟩ => some (.bstr ⟨a, l, c⟩)
      | _ => none
    | some ⟨.tx, _, _, _, _⟩, some ⟨.sl e, _, _, _, _⟩, some (.string x) => match T.ti e with
      | some ⟨.int .u8, _, _, _, _⟩ => some (.sbts e x)
      | _ => none
    | some ⟨.sl _, _, _, _, _⟩, some ⟨.sl _, _, _, _, _⟩, some v => some (.raw (convert s d v) false [.sl])
    | _, _, _ => none
  | .makeFunc fn first cap => match evs ρ first.toList, evs ρ cap.toList with
    | some a, some b => some (.val (.func fn a.toArray b.toArray))
    | _, _ => none
  | .makeInterface t x => match ev ρ x with
    | some v => some (.raw (Instr.makeInterface t v) false [.va])
    | none => none
  | .makeMap t none => some (.raw (Instr.makeMap t none) false [.mp])
  | .makeChan t x => match ev ρ x with
    | some v => some (.raw (Instr.makeChan t v) false [.ch])
    | none => none
  | .makeSlice t l c => match T.ti t, ev ρ l, ev ρ c with
    | some ⟨.sl e, _, _, _, _⟩, some (.int .i64 n), some (.int .i64 m) => match T.ti e with
      | some i => some (.mks i.size i.bytes e i.zero n m)
      | none => none
    | _, _, _ => none
  | .slice t x lo hi none => match T.ti t, ev ρ x, evo ρ lo, evo ρ hi with
    | some ⟨.sl e, _, _, _, _⟩, some (.slice a l c), some lo, some hi => match T.ti e with
      | some i => subR a l c i.size lo hi
      | none => none
    | some ⟨.tx, _, _, _, _⟩, some (.string s), some lo, some hi => subS s lo hi
    | _, _, _, _ => none
  | .fieldAddr t x f => match T.ti t, ev ρ x with
    | some ⟨.st fs, _, _, _, _⟩, some (.pointer (some ⟨b, o, none⟩)) => match fs[f]? with
      | some (ft, off) => match T.ti ft with
        | some i => bif Nat.beq i.size 0 then none else some (.val (.pointer (some (A b (o + off)))))
        | none => none
      | none => none
    | _, _ => none
  | .field t x f => match T.ti t, ev ρ x with
    | some ⟨.st fs, _, _, _, _⟩, some (.agg cs) => match fs[f]? with
      | some (ft, off) => match T.ti ft with
        | some i => bif i.und.agg then some (.val (.agg (cs.toList.take (off + i.size) |>.drop off).toArray)) else match cs.toList[off]? with
          | some v => some (.val v)
          | none => none
        | none => none
      | none => none
    | _, _ => none
  | .indexAddr t x i => match T.ti t, ev ρ x, ev ρ i with
    | some ⟨.sl e, _, _, _, _⟩, some (.slice a l _), some (.int _ n) => match T.ti e with
      | some j => some (.ix a l n j.size)
      | none => none
    | _, _, _ => none
  | .index t x i => match T.ti t, ev ρ x, ev ρ i with
    | some ⟨.tx, _, _, _, _⟩, some (.string s), some (.int _ n) => some (.chk (0 ≤ n ∧ n < (s.size : Int)) (.int .u8 (s.data.getD n.toNat 0).toNat))
    | _, _, _ => none
  | .lookup t x i ok => match T.ti t, ev ρ x, ev ρ i with
    | some ⟨.mp _ e, _, _, _, _⟩, some m, some key => match T.ti e with
      | some j => some (.raw (Instr.lookup t m key ok) ok (j.lvs ++ (bif ok then [.bo] else [])))
      | none => none
    | _, _, _ => none
  | .mapUpdate t m k v => match ev ρ m, ev ρ k, ev ρ v with
    | some m, some k, some v => some (.rawu (Instr.mapUpdate t m k v))
    | _, _, _ => none
  | .mapEntry t m k => match T.ti t, ev ρ m, ev ρ k with
    | some ⟨.mp _ e, _, _, _, _⟩, some m, some k => match T.ti e with
      | some j => some (.raw (Instr.mapEntry t m k) true (j.lvs ++ [.i .i64]))
      | none => none
    | _, _, _ => none
  | .entryStore t m s v => match ev ρ m, ev ρ s, ev ρ v with
    | some m, some s, some v => some (.rawu (Instr.entryStore t m s v))
    | _, _, _ => none
  | .range t x => match ev ρ x with
    | some m => some (.raw (Instr.range t m) false [.po])
    | none => none
  | .next it false => match ev ρ it with
    | some v => some (.next (Instr.next v false ty) [.i .i64, .sl])
    | none => none
  | .entry it => match ev ρ it with
    | some v => some (.raw (Instr.entry v) true [.i .i64, .sl])
    | none => none
  | .extract t n => match ev ρ t with
    | some (.tuple vs) => match vs.toList[n]? with
      | some v => some (.val v)
      | none => none
    | _ => none
  | .call c => match c.callee, evs ρ c.args.toList with
    | .builtin b, some args => builtinR T b c.argTypes.toList args
    | .value (.func f), some args => match T.fr f with
      | some rs => some (.call f args rs)
      | none => none
    | .value x, some args => match ev ρ x, T.ti ty with
      | some fv, some i => some (.callv fv args (match i.lvs with | [] => [] | l => [(i.und.agg, l)]))
      | _, _ => none
    | _, _ => none
  | .select cs false => match cs.toList with
    | [c] => match T.ti c.elem with
      | some ⟨.int .i64, _, _, [.int .i64 0], _⟩ => match ev ρ c.chan, c.send with
        | some (.chan r), none => some (.selR r)
        | some (.chan r), some x => match ev ρ x with
          | some v => some (.selS r v)
          | none => none
        | _, _ => none
      | _ => none
    | _ => none
  | _ => none
end Go.Eng
namespace Go.Eng
open Go

abbrev Slot := Nat × RT
inductive Ann where
  | e
  | s (j : Option (List Slot × List Nat)) (a b : Ann)
  | c (a b : Ann)
  | b (a : Ann)
  | l (sl : List Slot) (kept : List Nat) (a : Ann)
/-- For a region that draws: of each operation those that must come ahead of it; the orders that are walked. -/
abbrev Draws := List (Nat × List Nat × List (List Nat))

def dstOf (ops : List Oper) (j : Nat) : Option Nat := match ops[j]? with
  | some o => o.dst
  | none => none
def splitB (k : Value → F) : Value → F
  | .bool c => br c (k (.bool true)) (k (.bool false))
  | v => k v
/-- That a read yields its value again. -/
def Prim.again : Prim → Value → Option F
  | .rd true _ b o, .agg cs => some fun w => cellsAt w b o cs.toList
  | .rd false _ b o, v => some fun w => w.cell? (A b o) = some v
  | .bstr s, .string x => some (Eng.bstr s fun y _ => y = x)
  | _, _ => none
def guarded (ops : List Oper) (i : Nat) : Bool := ops.any fun o => match o.guard with
  | some (j, _) => Nat.beq j i
  | none => false
def okDst (n : Nat) : Option Nat → Bool
  | some d => Nat.blt d n
  | none => true
/-- One operation, its guard apart. -/
def goF (T : Tab) (n : Nat) (ops : List Oper) (i : Nat) (o : Oper) (ρ : Env) (quiet : Bool) (k : Value → Option F → F) : F := match resolve T ρ o.type o.op with
  | some p => bif okDst n o.dst && !(quiet && p.eff) then
      p.f T.P (bif guarded ops i then splitB (fun v => k v (p.again v)) else fun v => k v (p.again v))
    else no
  | none => no
/-- One operation. -/
def opF (T : Tab) (n : Nat) (ops : List Oper) (i : Nat) (o : Oper) (ρ : Env) (quiet : Bool) (k : Value → Option F → F) : F := match o.guard with
  | none => goF T n ops i o ρ quiet k
  | some (j, want) => match dstOf ops j with
    | some d => match ρ d with
      | some (.bool c) => br (c == want) (goF T n ops i o ρ quiet k) (k undef none)
      | some (.tuple _) => k undef none
      | _ => no
    | none => no
/-- Operations in the text's order. -/
def runOps (T : Tab) (n : Nat) (ops : List Oper) : List Oper → Nat → Env → (Env → F) → F
  | [], _, ρ, K => K ρ
  | o :: l, i, ρ, K => opF T n ops i o ρ false fun v _ => runOps T n ops l (i + 1) (putd ρ o.dst (some v)) K
def effOp : Op → Bool
  | .move _ | .assign _ | .pick .. | .build .. | .load .. | .nilCheck _ | .binOp .. | .unOp .. | .makeFunc .. | .slice .. | .fieldAddr .. | .field .. | .indexAddr .. | .index .. | .extract .. => false
  | .convert .. => true
  | .call c => match c.callee with
    | .builtin .min | .builtin .max | .builtin .cap | .builtin .len => false
    | _ => true
  | _ => true
def isSel : Op → Bool
  | .select .. => true
  | _ => false
def rck (l : List F) (k : F) : F := fun w => (∀ f ∈ l, f w) ∧ k w
def both (x y : F) : F := fun w => x w ∧ y w
def floating (m : Nat) : List (Nat × F) → List (Nat × F)
  | [] => []
  | (r, f) :: l => bif Nat.testBit m r then floating m l else (r, f) :: floating m l
def rcks (l : List (Nat × F)) (k : F) : F := match l with
  | [] => k
  | l => rck (l.map (·.2)) k
def flo (ag : Option F) (i : Nat) (fl : List (Nat × F)) : List (Nat × F) := match ag with
  | some f => (i, f) :: fl
  | none => fl
/-- Operations in an order, reads that may come later read again behind each effect. -/
def runD (T : Tab) (n : Nat) (ops : List Oper) (masks : List Nat) : List Nat → List (Nat × F) → Env → (Env → F) → F
  | [], _, ρ, K => K ρ
  | i :: l, fl, ρ, K => match ops[i]? with
    | some o => bif effOp o.op then
          opF T n ops i o ρ false fun v _ => rcks (floating (masks.getD i 0) fl) (runD T n ops masks l (floating (masks.getD i 0) fl) (putd ρ o.dst (some v)) K)
        else opF T n ops i o ρ true fun v ag => runD T n ops masks l (flo ag i fl) (putd ρ o.dst (some v)) K
    | none => no
/-! When such a walk stands for every order. -/
def tmpsOf : List Operand → List Nat
  | [] => []
  | .tmp t :: l => t :: tmpsOf l
  | _ :: l => tmpsOf l
def looks (ops : List Oper) (o : Oper) : List Nat := (match o.guard with
  | some (j, _) => (dstOf ops j).toList
  | none => []) ++ tmpsOf o.op.operands.toList
def memN (t : Nat) : List Nat → Bool
  | [] => false
  | x :: l => bif Nat.beq t x then true else memN t l
def notIn (d : Option Nat) (l : List Nat) : Bool := match d with
  | some d => !memN d l
  | none => true
def unlike (d e : Option Nat) : Bool := match d, e with
  | some d, some e => !Nat.beq d e
  | _, _ => true
def apartB (ops : List Oper) (x y : Oper) : Bool := notIn x.dst (looks ops y) && notIn y.dst (looks ops x) && unlike x.dst y.dst
def effAt (ops : List Oper) (i : Nat) : Bool := match ops[i]? with
  | some o => effOp o.op
  | none => false
def allPairs (f : Nat → Nat → Bool) : List Nat → Bool
  | [] => true
  | x :: l => l.all (f x) && allPairs f l
def edgesOk (masks : List Nat) : List Oper → Nat → Bool
  | [], _ => true
  | o :: l, i => o.after.toList.all (fun e => !Region.binds .any e || Nat.blt e.on i) &&
      Nat.beq (masks.getD i 0) (o.after.toList.foldl (fun s e => bif Region.binds .any e then s ||| 2 ^ e.on ||| masks.getD e.on 0 else s) 0) && edgesOk masks l (i + 1)
def lexts (masks : List Nat) : Nat → List Nat → List (List Nat)
  | 0, _ => [[]]
  | k + 1, l => match l with
    | [] => [[]]
    | l => (l.filter fun e => l.all fun x => !Nat.testBit (masks.getD e 0) x).flatMap fun e => (lexts masks k (l.filter fun x => !Nat.beq x e)).map (e :: ·)
def eqL : List Nat → List Nat → Bool
  | [], [] => true
  | x :: l, y :: m => Nat.beq x y && eqL l m
  | _, _ => false
def opAt (ops : List Oper) (i : Nat) (f : Oper → Bool) : Bool := match ops[i]? with
  | some o => f o
  | none => false
/-- What reads stands as soon as it may. -/
def asapB (ops : List Oper) (masks : List Nat) : Option Nat → List Nat → Bool
  | _, [] => true
  | last, x :: l => bif effAt ops x then asapB ops masks (some x) l else
      (match last with | none => true | some e => Nat.testBit (masks.getD x 0) e) && asapB ops masks last l
def drawOk (ops : List Oper) (masks : List Nat) (ords : List (List Nat)) : Bool :=
  edgesOk masks ops 0 && ops.all (fun o => !isSel o.op) &&
  allPairs (fun i j => Nat.testBit (masks.getD i 0) j || Nat.testBit (masks.getD j 0) i || opAt ops i fun x => opAt ops j fun y => apartB ops x y) (List.range ops.length) &&
  ords.all (fun π => Nat.beq π.length ops.length && (List.range ops.length).all (fun i => memN i π) &&
    allPairs (fun x y => !Nat.testBit (masks.getD x 0) y) π && asapB ops masks none π) &&
  (lexts masks ops.length ((List.range ops.length).filter (effAt ops))).all fun e => ords.any fun π => eqL (π.filter (effAt ops)) e
def allOrd : List (List Nat) → (List Nat → F) → F
  | [], _ => no
  | [π], f => f π
  | π :: r, f => both (f π) (allOrd r f)
def onNormal (f : Env → F) (K : Exit → Env → F) : Exit → Env → F
  | .normal, ρ => f ρ
  | e, ρ => K e ρ
def unL : (l : List Sh) → List Value → Option (HL l)
  | [], _ => some ()
  | s :: l, v :: vs => match s.un v with
    | some x => match unL l vs with
      | some y => some (x, y)
      | none => none
    | none => none
  | _ :: _, [] => none
def slotSh (sl : List Slot) : List Sh := sl.flatMap fun s => s.2.2
/-- The cells of the named slots. -/
def slotVs (ρ : Env) : List Slot → Option (List Value)
  | [] => some []
  | (t, g, l) :: r => match ρ t with
    | some v => match slotVs ρ r with
      | some vs => bif g then (match v with
          | .agg cs => bif Nat.beq cs.toList.length l.length then some (cs.toList ++ vs) else none
          | _ => none)
        else some (v :: vs)
      | none => none
    | none => none
def withSlots {X : Type} (ρ : Env) (sl : List Slot) (bad : X) (k : Arr (slotSh sl) X) : X := match slotVs ρ sl with
  | some vs => match unL (slotSh sl) vs with
    | some x => ap (slotSh sl) k x
    | none => bad
  | none => bad
def setSlots (ρ : Env) : List Slot → List Value → Env
  | [], _ => ρ
  | (t, true, l) :: r, vs => put (setSlots ρ r (vs.drop l.length)) t (some (.agg (vs.take l.length).toArray))
  | (t, false, l) :: r, vs => put (setSlots ρ r (vs.drop l.length)) t (some (vs.headD undef))
def after (ρ : Env) (sl : List Slot) (kept : List Nat) (x : HL (slotSh sl)) : Env :=
  setSlots (fun t => bif memN t kept then ρ t else none) sl (vals (slotSh sl) x)
/-- None of these slots is written. -/
def keeps (kept : List Nat) : Code → Bool
  | .region _ ops _ => ops.toList.all fun o => match o.dst with
    | some d => !(memN d kept)
    | none => true
  | .seq a b => keeps kept a && keeps kept b
  | .cond _ a b => keeps kept a && keeps kept b
  | .block _ a => keeps kept a
  | .loop a => keeps kept a
  | .scope a => keeps kept a
  | .rangeFunc .. => false
  | _ => true
/-- Every plain slot is of one cell. -/
def slotsOk (sl : List Slot) : Bool := sl.all fun s => s.2.1 || Nat.beq s.2.2.length 1
def exitB (id : Nat) (K : Exit → Env → F) : Exit → Env → F
  | .exit j, ρ => bif Nat.beq j id then K .normal ρ else K (.exit j) ρ
  | e, ρ => K e ρ
def noGotoK (K : Exit → Env → F) : Exit → Env → F
  | .goto _, _ => no
  | e, ρ => K e ρ
def drawsOf (id : Nat) : Draws → Option (List Nat × List (List Nat))
  | [] => none
  | (j, x) :: l => bif Nat.beq j id then some x else drawsOf id l
/-- What a body comes to. -/
def cexec (T : Tab) (n : Nat) (D : Draws) : Code → Ann → Env → (Exit → Env → F) → F
  | .skip, _, ρ, K => K .normal ρ
  | .label _, _, ρ, K => K .normal ρ
  | .region _ ops false, _, ρ, K => runOps T n ops.toList ops.toList 0 ρ (K .normal)
  | .region id ops true, _, ρ, K => match drawsOf id D with
    | some (masks, ords) => bif drawOk ops.toList masks ords then dr (allOrd ords fun π => runD T n ops.toList masks π [] ρ (K .normal)) else no
    | none => no
  | .seq x y, .s none a b, ρ, K => cexec T n D x a ρ (onNormal (fun ρ' => cexec T n D y b ρ' K) K)
  | .seq x y, .s (some (sl, kept)) a b, ρ, K => bif keeps kept x && slotsOk sl then
      joinC (slotSh sl) (fun k => cexec T n D x a ρ (onNormal (fun ρ' => withSlots ρ' sl no k) K))
        (lam (slotSh sl) fun z => cexec T n D y b (after ρ sl kept z) K)
    else no
  | .seq x y, _, ρ, K => cexec T n D x .e ρ (onNormal (fun ρ' => cexec T n D y .e ρ' K) K)
  | .cond c x y, ann, ρ, K => match ev ρ c with
    | some (.bool t) => br t (cexec T n D x (match ann with | .c a _ => a | _ => .e) ρ K) (cexec T n D y (match ann with | .c _ b => b | _ => .e) ρ K)
    | _ => no
  | .block id x, ann, ρ, K => cexec T n D x (match ann with | .b a => a | _ => .e) ρ (exitB id K)
  | .scope x, ann, ρ, K => cexec T n D x (match ann with | .b a => a | _ => .e) ρ (noGotoK K)
  | .loop x, .l sl kept a, ρ, K => bif keeps kept x && slotsOk sl then
      withSlots ρ sl no (loopC (slotSh sl) fun again => lam (slotSh sl) fun z =>
        cexec T n D x a (after ρ sl kept z) (onNormal (fun ρ' => withSlots ρ' sl no again) K))
    else no
  | .exit id, _, ρ, K => K (.exit id) ρ
  | .ret, _, ρ, K => K .ret ρ
  | _, _, _, _ => no
/-- What a function returns. -/
def retVs (T : Tab) (ρ : Env) : List ResultVar → List Value → (List Value → F) → F
  | [], acc, k => k acc.reverse
  | .tmp t :: l, acc, k => match ρ t with
    | some v => retVs T ρ l (v :: acc) k
    | none => no
  | .cell t ty :: l, acc, k => match ρ t, T.ti ty with
    | some (.pointer (some ⟨b, o, none⟩)), some i => bif Nat.beq i.lvs.length i.size then (Prim.rd i.und.agg i.lvs b o).f T.P fun v => retVs T ρ l (v :: acc) k else no
    | _, _ => no
def retF (T : Tab) (rs : List ResultVar) (R : Ending → World → Prop) (ρ : Env) : F := retVs T ρ rs [] fun vs => ret R (tup vs)
def env0 : List Value → Nat → Env
  | [], _ => fun _ => none
  | v :: l, i => put (env0 l (i + 1)) i (some v)
def cfun (T : Tab) (D : Draws) (fn : Func) (c : Code) (ann : Ann) (args : List Value) (R : Ending → World → Prop) : F :=
  cexec T fn.ntmps D c ann (env0 args 0) fun e ρ => match e with
    | .normal => retF T fn.results.toList R ρ
    | .ret => retF T fn.results.toList R ρ
    | _ => no
end Go.Eng
namespace Go.Eng
open Go

def callable (P : Program) (f : Nat) : Prop := ∃ fn, P.funcs[f]? = some fn ∧ (fn.name == "runtime.NumGoroutine") = false ∧ fn.body.isNone = false
structure TabOk (T : Tab) : Prop where
  ti : ∀ t i, T.ti t = some i → ∃ info d, T.P.info? t = some info ∧ T.P.underlying t = some d ∧ U.of d = i.und ∧ info.size = i.size ∧ info.bytes = i.bytes ∧
    ∃ z, info.zero = some z ∧ z.cells.toList = i.zero
  fr : ∀ f rs, T.fr f = some rs → callable T.P f
  nz : ∀ t i info z, T.ti t = some i → T.P.info? t = some info → info.zero = some z → i.und.agg = false → z.cells = #[z]
  mixed : T.P.follows .mixedOrders = true
structure Agr (n : Nat) (a : Act) (ρ : Env) : Prop where
  size : a.tmps.size = n
  defers : a.defers = []
  val : ∀ t v, ρ t = some v → a.tmps.getD t undef = v

variable {P : Program} {T : Tab} {n : Nat} {a : Act} {ρ : Env} {w : World}

theorem ev_ok (h : Agr n a ρ) {x : Operand} {v : Value} (hx : ev ρ x = some v) : a.eval x = v := by
  cases x with
  | tmp t => exact h.val t v hx
  | const u => simpa [ev, Act.eval] using hx
  | global g => simpa [ev, Act.eval] using hx
  | func f => simpa [ev, Act.eval] using hx
theorem evs_ok (h : Agr n a ρ) : ∀ {l : List Operand} {vs : List Value}, evs ρ l = some vs → l.map a.eval = vs
  | [], vs, hx => by simpa [evs] using hx
  | x :: l, vs, hx => by
    unfold evs at hx
    split at hx
    · rename_i v hv
      split at hx
      · rename_i us hu
        cases hx
        simp [ev_ok h hv, evs_ok h hu]
      · cases hx
    · cases hx
theorem evp_ok (h : Agr n a ρ) : ∀ {l : List (Nat × Operand)} {vs : List (Nat × Value)}, evp ρ l = some vs → l.map (fun (i, x) => (i, a.eval x)) = vs
  | [], vs, hx => by simpa [evp] using hx
  | (i, x) :: l, vs, hx => by
    unfold evp at hx
    split at hx
    · rename_i v hv
      split at hx
      · rename_i us hu
        cases hx
        have := evp_ok h hu
        simp only at this
        simp [ev_ok h hv, this]
      · cases hx
    · cases hx

/-! ### The tables -/
theorem TabOk.und (hT : TabOk T) {t i} (h : T.ti t = some i) : ∃ d, T.P.underlying t = some d ∧ U.of d = i.und := by
  obtain ⟨_, d, _, hd, hu, _⟩ := hT.ti t i h
  exact ⟨d, hd, hu⟩
theorem run_und (hT : TabOk T) {t i} (h : T.ti t = some i) (w : World) : ∃ d, (underlying t).run T.P w = .ok d w ∧ U.of d = i.und := by
  obtain ⟨d, hd, hu⟩ := hT.und h
  exact ⟨d, run_underlying hd w, hu⟩
theorem run_info (hT : TabOk T) {t i} (h : T.ti t = some i) (w : World) : ∃ info, (typeInfo t).run T.P w = .ok info w ∧ info.size = i.size ∧ info.bytes = i.bytes ∧
    ∃ z, info.zero = some z ∧ z.cells.toList = i.zero := by
  obtain ⟨info, d, hi, _, _, h1, h2, h3⟩ := hT.ti t i h
  exact ⟨info, by simp [typeInfo, hi], h1, h2, h3⟩
theorem run_size (hT : TabOk T) {t i} (h : T.ti t = some i) (w : World) : (sizeOf t).run T.P w = .ok i.size w := by
  obtain ⟨info, h0, h1, _⟩ := run_info hT h w
  simp [sizeOf, h0, h1]
theorem run_zero (hT : TabOk T) {t i} (h : T.ti t = some i) (w : World) : ∃ z, (zeroValue t).run T.P w = .ok z w ∧ z.cells.toList = i.zero := by
  obtain ⟨info, h0, _, _, z, h3, h4⟩ := run_info hT h w
  exact ⟨z, by simp [zeroValue, h0, h3], h4⟩
theorem run_agg (hT : TabOk T) {t i} (h : T.ti t = some i) (w : World) : (isAgg t).run T.P w = .ok i.und.agg w := by
  obtain ⟨d, h0, h1⟩ := run_und hT h w
  simp only [isAgg, Sem.run_bind, h0, Result.andThen_ok]
  rw [← h1]
  cases d <;> simp [U.of, U.agg]
theorem of_sl {d : TypeDesc} {e : Nat} (h : U.of d = .sl e) : d = .slice e := by cases d <;> simp [U.of] at h; rw [h]
theorem of_st {d : TypeDesc} {fs : List (Nat × Nat)} (h : U.of d = .st fs) : ∃ gs, d = .struct gs ∧ gs.toList.map (fun f => (f.type, f.offset)) = fs := by
  cases d <;> simp [U.of] at h; exact ⟨_, rfl, h⟩
theorem of_tx {d : TypeDesc} (h : U.of d = .tx) : d = .string := by cases d <;> simp [U.of] at h; rfl
theorem of_int {d : TypeDesc} {k : IntKind} (h : U.of d = .int k) : d = .int k := by cases d <;> simp [U.of] at h; rw [h]
theorem of_po {d : TypeDesc} {e : Nat} (h : U.of d = .po e) : d = .pointer e := by cases d <;> simp [U.of] at h; rw [h]
theorem of_bo {d : TypeDesc} (h : U.of d = .bo) : d = .bool := by cases d <;> simp [U.of] at h; rfl
theorem of_fn {d : TypeDesc} (h : U.of d = .fn) : ∃ a b c, d = .func a b c := by cases d <;> simp [U.of] at h; exact ⟨_, _, _, rfl⟩

/-! ### Addresses and rows -/
theorem A_add (b o i : Nat) : (A b o).add i = A b (o + i) := by
  unfold Addr.add; split
  · rename_i h; subst h; rfl
  · rfl
theorem run_cells {b o : Nat} {vs : List Value} (h : cellsAt w b o vs) : (loadCells (A b o) vs.length).run P w = .ok vs.toArray w := by
  refine run_loadCells_list _ (A b o) vs (fun j v hj => ?_)
  rw [A_add]; exact h j v hj
theorem rowOk_step {b o : Nat} {v : Value} {k : Nat} (h : rowOk w b o (k + 1)) : rowOk (w.setCell (A b o) v) b (o + 1) k := by
  intro j hj
  obtain ⟨h1, h2⟩ := h (j + 1) (by omega)
  have e : o + 1 + j = o + (j + 1) := by omega
  rw [e]
  refine ⟨?_, by simpa using h2⟩
  by_cases hne : A b o = A b (o + (j + 1))
  · exact absurd (congrArg Addr.off hne) (by simp)
  · rw [World.cell?_setCell_other _ _ _ _ hne]; exact h1
theorem run_st {b o : Nat} {v : Value} (h : rowOk w b o 1) (hv : v.oneCell' = true) : (store (A b o) v).run P w = .ok () (w.setCell (A b o) v) := by
  obtain ⟨h1, h2⟩ := h 0 (by omega)
  simp only [Nat.add_zero] at h1 h2
  rw [run_store P w _ v _ hv]
  obtain ⟨u, hu⟩ := Option.isSome_iff_exists.1 h1
  simp [hu, h2]
theorem run_row {b : Nat} : ∀ (vs : List Value) (o i : Nat) (w : World), rowOk w b (o + i) vs.length → (∀ v ∈ vs, v.oneCell' = true) →
    (storeCells (A b o) vs i).run P w = .ok () (setRow w b (o + i) vs)
  | [], _, _, _, _, _ => by simp [storeCells, setRow]
  | v :: vs, o, i, w, h, hv => by
    have h1 : rowOk w b (o + i) 1 := fun j hj => h j (by simp; omega)
    have := run_row vs o (i + 1) (w.setCell (A b (o + i)) v) (rowOk_step h) (fun u hu => hv u (List.mem_cons_of_mem _ hu))
    simp only [storeCells, Sem.run_bind, A_add, run_st h1 (hv v (by simp)), Result.andThen_ok, this, setRow]
    rfl
end Go.Eng
namespace Go.Eng
open Go

def OpRes (P : Program) (r : Result Next) (k : Value → F) : Prop :=
  (∃ v w', r = .ok (.value v) w' ∧ k v w') ∨ (∃ w', r = .ok .skip w' ∧ k undef w') ∨
  (∃ f args w', r = .ok (.enter f args) w' ∧ Calls P f args w' fun e w'' => ∃ v, e = .returned v ∧ k v w'')

variable {P : Program} {T : Tab} {n : Nat} {a : Act} {ρ : Env} {w : World} {o : Oper} {k : Value → F} {p : Prim}

theorem OpRes.wp {next : Act → World → Prop} {Q : Exit → Act → World → Prop} (h : OpRes P ((execOp a.eval o).run P w) k)
    (hk : ∀ v w', k v w' → next (a.put o.dst v) w') : o.wp P a w next Q := by
  unfold Oper.wp
  rcases h with ⟨v, w', h, hv⟩ | ⟨w', h, hv⟩ | ⟨f, args, w', h, hv⟩
  · rw [h]; exact hk v w' hv
  · rw [h]; exact hk undef w' hv
  · rw [h, Oper.upon_enter]
    refine hv.mono ?_
    rintro e w'' ⟨v, rfl, hkv⟩
    exact hk v w'' hkv
theorem OpRes.mono {r : Result Next} {k' : Value → F} (h : OpRes P r k) (hk : ∀ v w', k v w' → k' v w') : OpRes P r k' := by
  rcases h with ⟨v, w', h, hv⟩ | ⟨w', h, hv⟩ | ⟨f, args, w', h, hv⟩
  · exact .inl ⟨v, w', h, hk _ _ hv⟩
  · exact .inr (.inl ⟨w', h, hk _ _ hv⟩)
  · exact .inr (.inr ⟨f, args, w', h, hv.mono fun e w'' ⟨v, he, h⟩ => ⟨v, he, hk _ _ h⟩⟩)
theorem res_v {s : Sem Value} {v : Value} {w' : World} (h : s.run P w = .ok v w') (hk : k v w') :
    OpRes P ((do pure (Next.value (← s)) : Sem Next).run P w) k := .inl ⟨v, w', by simp [h], hk⟩
theorem res_u {s : Sem Unit} {w' : World} (h : s.run P w = .ok () w') (hk : k undef w') :
    OpRes P ((do s; pure Next.skip : Sem Next).run P w) k := .inr (.inl ⟨w', by simp [h], hk⟩)
theorem res_p {v : Value} (hk : k v w) : OpRes P ((pure (Next.value v) : Sem Next).run P w) k := .inl ⟨v, w, rfl, hk⟩

/-! ### Reads -/
theorem ldn_ok : ∀ (l : List Sh) (b o : Nat) (acc : List Value) (k : List Value → F) (w : World), ldn b o l acc k w →
    ∃ vs, vs.length = l.length ∧ cellsAt w b o vs ∧ k (acc.reverse ++ vs) w
  | [], _, _, acc, k, w, h => ⟨[], rfl, fun j v hj => by simp at hj, by simpa [ldn] using h⟩
  | s :: l, b, o, acc, k, w, ⟨x, hx, h⟩ => by
    obtain ⟨vs, h1, h2, h3⟩ := ldn_ok l b (o + 1) _ k w h
    refine ⟨s.mk x :: vs, by simp [h1], ?_, by simpa using h3⟩
    intro j v hj
    cases j with
    | zero => simp at hj; subst hj; simpa using hx
    | succ j =>
      have e : o + (j + 1) = o + 1 + j := by omega
      rw [e]; exact h2 j v (by simpa using hj)
theorem cellsAt_nil {b o : Nat} : cellsAt w b o [] := fun j v hj => by simp at hj
theorem rd_ok (hT : TabOk T) {t : Nat} {i : TI} (hi : T.ti t = some i) {b oo : Nat} (hf : (Prim.rd i.und.agg i.lvs b oo).f T.P k w) (hl : i.lvs.length = i.size) :
    ∃ v, (loadVar t (A b oo)).run T.P w = .ok v w ∧ k v w := by
  unfold loadVar
  simp only [Sem.run_bind, run_agg hT hi, Result.andThen_ok]
  cases hag : i.und.agg with
  | true =>
    rw [hag] at hf
    obtain ⟨vs, h1, h2, h3⟩ := ldn_ok _ _ _ _ _ _ hf
    refine ⟨.agg vs.toArray, ?_, by simpa using h3⟩
    have := run_cells (P := T.P) h2
    rw [h1, hl] at this
    simp [run_size hT hi, this]
  | false =>
    rw [hag] at hf
    cases hl' : i.lvs with
    | nil => rw [hl'] at hf; exact hf.elim
    | cons s l =>
      rw [hl'] at hf
      cases l with
      | nil =>
        obtain ⟨x, hx, h⟩ := hf
        exact ⟨_, by simp [hx], h⟩
      | cons _ _ => exact hf.elim

/-! ### The operations that read or reckon -/
theorem op_move {x : Operand} (ho : o.op = .move x ∨ o.op = .assign x) (hr : resolve T ρ o.type o.op = some p) (hA : Agr n a ρ) (hf : p.f T.P k w) : OpRes T.P ((execOp a.eval o).run T.P w) k := by
  have e : execOp a.eval o = pure (.value (a.eval x)) := by rcases ho with ho | ho <;> simp only [execOp, ho]
  have e2 : resolve T ρ o.type o.op = match ev ρ x with | some v => some (.val v) | none => none := by rcases ho with ho | ho <;> simp only [resolve, ho] <;> cases ev ρ x <;> rfl
  rw [e2] at hr
  cases hx : ev ρ x with
  | none => simp [hx] at hr
  | some v => simp [hx] at hr; subst hr; rw [e, ev_ok hA hx]; exact res_p hf
theorem br_ok {c : Bool} {x y : F} (h : br c x y w) : (c = true ∧ x w) ∨ (c = false ∧ y w) := by
  cases c
  · exact .inr ⟨rfl, h⟩
  · exact .inl ⟨rfl, h⟩
theorem optF_ok {v : Option Value} {k : Value → F} (h : optF v k w) : ∃ x, v = some x ∧ k x w := by
  cases v with
  | none => exact h.elim
  | some x => exact ⟨x, rfl, h⟩
theorem op_pick {c x y : Operand} (ho : o.op = .pick c x y) (hr : resolve T ρ o.type o.op = some p) (hA : Agr n a ρ) (hf : p.f T.P k w) : OpRes T.P ((execOp a.eval o).run T.P w) k := by
  simp only [resolve, ho] at hr
  split at hr
  · rename_i b hb
    cases hr
    simp only [execOp, ho]
    have hb' := ev_ok hA hb
    rcases br_ok hf with ⟨rfl, h⟩ | ⟨rfl, h⟩
    · obtain ⟨v, hv, hk⟩ := optF_ok h
      exact .inl ⟨v, w, by simp [hb', asBool, ev_ok hA hv], hk⟩
    · obtain ⟨v, hv, hk⟩ := optF_ok h
      exact .inl ⟨v, w, by simp [hb', asBool, ev_ok hA hv], hk⟩
  · cases hr
theorem op_load (hT : TabOk T) {t : Nat} {x : Operand} (ho : o.op = .load t x) (hr : resolve T ρ o.type o.op = some p) (hA : Agr n a ρ) (hf : p.f T.P k w) : OpRes T.P ((execOp a.eval o).run T.P w) k := by
  simp only [resolve, ho] at hr
  split at hr
  · rename_i b oo i hb hi
    cases hl : Nat.beq i.lvs.length i.size with
    | false => rw [hl] at hr; cases hr
    | true =>
      rw [hl] at hr
      cases hr
      obtain ⟨v, h1, h2⟩ := rd_ok hT hi hf (Nat.eq_of_beq_eq_true hl)
      simp only [execOp, ho]
      exact res_v (by simp [Instr.loadAt, ev_ok hA hb, Instr.sureAddr]; exact h1) h2
  · cases hr
theorem op_nilCheck {x : Operand} (ho : o.op = .nilCheck x) (hr : resolve T ρ o.type o.op = some p) (hA : Agr n a ρ) (hf : p.f T.P k w) : OpRes T.P ((execOp a.eval o).run T.P w) k := by
  simp only [resolve, ho] at hr
  split at hr
  · rename_i q hq
    cases hr
    obtain ⟨b, oo, rfl, h⟩ := hf
    simp only [execOp, ho, ev_ok hA hq]
    exact res_p h
  · cases hr
theorem op_fieldAddr (hT : TabOk T) {t : Nat} {x : Operand} {f : Nat} (ho : o.op = .fieldAddr t x f) (hr : resolve T ρ o.type o.op = some p) (hA : Agr n a ρ) (hf : p.f T.P k w) : OpRes T.P ((execOp a.eval o).run T.P w) k := by
  simp only [resolve, ho] at hr
  split at hr
  · rename_i fs _ _ _ _ b oo hi hx
    split at hr
    · rename_i ft off hfs
      split at hr
      · rename_i j hj
        cases hz : Nat.beq j.size 0 with
        | true => rw [hz] at hr; cases hr
        | false =>
          rw [hz] at hr
          cases hr
          have hne : j.size ≠ 0 := fun h => by rw [h] at hz; cases hz
          obtain ⟨d, hd, hu⟩ := run_und hT hi w
          obtain ⟨gs, rfl, hg⟩ := of_st hu
          have hgf : ∃ g : Field, gs[f]? = some g ∧ g.type = ft ∧ g.offset = off := by
            rw [← hg] at hfs
            simp only [List.getElem?_map, Array.getElem?_toList, Option.map_eq_some_iff] at hfs
            obtain ⟨g, h1, h2⟩ := hfs
            cases h2
            exact ⟨g, h1, rfl, rfl⟩
          obtain ⟨g, hgf, rfl, rfl⟩ := hgf
          simp only [execOp, ho]
          refine res_v (v := .pointer (some (A b (oo + g.offset)))) ?_ hf
          simp [Instr.fieldAt, hd, hgf, ev_ok hA hx, Instr.sureAddr, fieldPlace, run_size hT hj, hne, A_add]
      · cases hr
    · cases hr
  · cases hr
theorem take_drop_extract {α : Type} (xs : List α) (i j : Nat) : ((xs.take j).drop i).toArray = xs.toArray.extract i j := by
  simp [List.extract_toArray, List.extract_eq_take_drop, List.drop_take]
theorem op_field (hT : TabOk T) {t : Nat} {x : Operand} {f : Nat} (ho : o.op = .field t x f) (hr : resolve T ρ o.type o.op = some p) (hA : Agr n a ρ) (hf : p.f T.P k w) : OpRes T.P ((execOp a.eval o).run T.P w) k := by
  simp only [resolve, ho] at hr
  split at hr
  · rename_i fs _ _ _ _ cs hi hx
    split at hr
    · rename_i ft off hfs
      split at hr
      · rename_i j hj
        obtain ⟨d, hd, hu⟩ := run_und hT hi w
        obtain ⟨gs, rfl, hg⟩ := of_st hu
        have hgf : ∃ g : Field, gs[f]? = some g ∧ g.type = ft ∧ g.offset = off := by
          rw [← hg] at hfs
          simp only [List.getElem?_map, Array.getElem?_toList, Option.map_eq_some_iff] at hfs
          obtain ⟨g, h1, h2⟩ := hfs
          cases h2
          exact ⟨g, h1, rfl, rfl⟩
        obtain ⟨g, hgf, rfl, rfl⟩ := hgf
        simp only [execOp, ho]
        cases hz : j.und.agg with
        | true =>
          rw [hz] at hr
          cases hr
          refine res_v (v := _) ?_ hf
          simp [Instr.field, hd, hgf, ev_ok hA hx, asAgg, part, run_agg hT hj, hz, run_size hT hj, take_drop_extract]
        | false =>
          rw [hz] at hr
          simp only [cond_false] at hr
          split at hr
          · rename_i v hv
            cases hr
            refine res_v (v := v) ?_ hf
            simp only [Array.getElem?_toList] at hv
            simp [Instr.field, hd, hgf, ev_ok hA hx, asAgg, part, run_agg hT hj, hz, hv]
          · cases hr
      · cases hr
    · cases hr
  · cases hr
theorem op_extract {x : Operand} {i : Nat} (ho : o.op = .extract x i) (hr : resolve T ρ o.type o.op = some p) (hA : Agr n a ρ) (hf : p.f T.P k w) : OpRes T.P ((execOp a.eval o).run T.P w) k := by
  simp only [resolve, ho] at hr
  split at hr
  · rename_i vs hx
    split at hr
    · rename_i v hv
      cases hr
      simp only [Array.getElem?_toList] at hv
      simp only [execOp, ho]
      exact res_v (v := v) (by simp [Instr.extract, ev_ok hA hx, hv]) hf
    · cases hr
  · cases hr
theorem op_indexAddr (hT : TabOk T) {t : Nat} {x i : Operand} (ho : o.op = .indexAddr t x i) (hr : resolve T ρ o.type o.op = some p) (hA : Agr n a ρ) (hf : p.f T.P k w) : OpRes T.P ((execOp a.eval o).run T.P w) k := by
  simp only [resolve, ho] at hr
  split at hr
  · rename_i e _ _ _ _ aa l c kk m hi hx hm
    split at hr
    · rename_i j hj
      cases hr
      obtain ⟨b, oo, rfl, h0, h1, h⟩ := hf
      obtain ⟨d, hd, hu⟩ := run_und hT hi w
      obtain rfl := of_sl hu
      simp only [execOp, ho]
      refine res_v (v := _) ?_ h
      simp [Instr.indexAt, hd, ev_ok hA hx, ev_ok hA hm, asIntOf, h0, h1, run_size hT hj, A_add]
    · cases hr
  · cases hr
theorem op_index (hT : TabOk T) {t : Nat} {x i : Operand} (ho : o.op = .index t x i) (hr : resolve T ρ o.type o.op = some p) (hA : Agr n a ρ) (hf : p.f T.P k w) : OpRes T.P ((execOp a.eval o).run T.P w) k := by
  simp only [resolve, ho] at hr
  split at hr
  · rename_i _ _ _ _ s kk m hi hx hm
    cases hr
    obtain ⟨⟨h0, h1⟩, h⟩ := hf
    obtain ⟨d, hd, hu⟩ := run_und hT hi w
    obtain rfl := of_tx hu
    simp only [execOp, ho]
    refine res_v (v := _) ?_ h
    have hlt : m.toNat < s.size := by omega
    have hs : s[m.toNat]? = some s[m.toNat] := by simp [hlt]
    simp [Instr.index, hd, ev_ok hA hx, ev_ok hA hm, asIntOf, h0, hlt]
    rfl
  · cases hr
theorem op_makeFunc {fn : Fn} {fs cs : Array Operand} (ho : o.op = .makeFunc fn fs cs) (hr : resolve T ρ o.type o.op = some p) (hA : Agr n a ρ) (hf : p.f T.P k w) : OpRes T.P ((execOp a.eval o).run T.P w) k := by
  simp only [resolve, ho] at hr
  split at hr
  · rename_i x y hx hy
    cases hr
    simp only [execOp, ho]
    refine res_v (v := _) ?_ hf
    have h1 := evs_ok hA hx
    have h2 := evs_ok hA hy
    have e1 : fs.map a.eval = x.toArray := by rw [← h1, ← Array.toList_map]
    have e2 : cs.map a.eval = y.toArray := by rw [← h2, ← Array.toList_map]
    simp only [Instr.makeFunc, e1, e2]
    rfl
  · cases hr
end Go.Eng
namespace Go.Eng
open Go
variable {P : Program} {T : Tab} {n : Nat} {a : Act} {ρ : Env} {w : World} {o : Oper} {k : Value → F} {p : Prim}

theorem guard_int {op : BinOp} {t : Nat} {x y : Operand} {j l : IntKind} {u v : Int} : (eqGuard op t x y (.int j u) (.int l v)).run P w = .ok () w := by
  cases op <;> simp [eqGuard]
theorem bin_val {op : BinOp} {t u : Nat} {x y : Operand} {v : Value} (ho : o.op = .binOp op t x y u) (hg : (eqGuard op t x y (a.eval x) (a.eval y)).run P w = .ok () w)
    (hb : (binOp op t (a.eval x) (a.eval y)).run P w = .ok v w) (hk : k v w) : OpRes P ((execOp a.eval o).run P w) k := by
  simp only [execOp, ho]
  exact res_v (v := v) (by simp [hg, hb]) hk
theorem eq_fn {d t : Nat} {q r s} (h : P.underlying t = some (.func q r s)) {v : Value} (hv : isFn v) : (Op.equalIn (d + 1) t v .nilFunc).run P w = .ok (isNilFn v) w := by
  cases v <;> simp [isFn] at hv <;> simp [Op.equalIn, run_underlying h, isNilFn]
theorem eq_po {d t : Nat} {e} (h : P.underlying t = some (.pointer e)) (q : Option Addr) : (Op.equalIn (d + 1) t (.pointer q) (.pointer none)).run P w = .ok q.isNone w := by
  cases q <;> simp [Op.equalIn, run_underlying h]
theorem eq_sl {d t : Nat} {e} (h : P.underlying t = some (.slice e)) (q : Option Addr) (l c l' c' : Nat) : (Op.equalIn (d + 1) t (.slice q l c) (.slice none l' c')).run P w = .ok q.isNone w := by
  cases q <;> simp [Op.equalIn, run_underlying h]
theorem eq_bo {d t : Nat} (h : P.underlying t = some .bool) (x y : Bool) : (Op.equalIn (d + 1) t (.bool x) (.bool y)).run P w = .ok (x == y) w := by
  simp [Op.equalIn, run_underlying h]
theorem eql_of {t : Nat} {x y : Value} {r : Bool} (hb : binOp .eql t x y = do pure (.bool (← Op.equal t x y))) (h : (Op.equalIn (9999 + 1) t x y).run P w = .ok r w) : (binOp .eql t x y).run P w = .ok (.bool r) w := by
  have h' : (Op.equal t x y).run P w = .ok r w := h
  rw [hb]; simp [h']
theorem neq_of {t : Nat} {x y : Value} {r : Bool} (hb : binOp .neq t x y = do pure (.bool (!(← Op.equal t x y)))) (h : (Op.equalIn (9999 + 1) t x y).run P w = .ok r w) : (binOp .neq t x y).run P w = .ok (.bool !r) w := by
  have h' : (Op.equal t x y).run P w = .ok r w := h
  rw [hb]; simp [h']
theorem op_binOp (hT : TabOk T) {op : BinOp} {t u : Nat} {x y : Operand} (ho : o.op = .binOp op t x y u) (hr : resolve T ρ o.type o.op = some p) (hA : Agr n a ρ) (hf : p.f T.P k w) : OpRes T.P ((execOp a.eval o).run T.P w) k := by
  simp only [resolve, ho] at hr
  split at hr
  · rename_i va vb i ha hb hi
    have ea := ev_ok hA ha
    have eb := ev_ok hA hb
    obtain ⟨d, hd, hu⟩ := hT.und hi
    split at hr
    · -- against nil, a function
      unfold binN at hr
      split at hr
      · rename_i hfn
        cases hr
        obtain ⟨q, r, s, rfl⟩ := of_fn (hu.trans hfn)
        obtain ⟨hv, hk⟩ := hf
        refine bin_val ho ?_ ?_ hk
        · rw [ea, eb]; cases va <;> simp [isFn] at hv <;> simp [eqGuard]
        · rw [ea, eb]; exact eql_of (by cases va <;> first | rfl | simp [isFn] at hv) (eq_fn hd hv)
      · rename_i hfn
        cases hr
        obtain ⟨q, r, s, rfl⟩ := of_fn (hu.trans hfn)
        obtain ⟨hv, hk⟩ := hf
        refine bin_val ho ?_ ?_ hk
        · rw [ea, eb]; cases va <;> simp [isFn] at hv <;> simp [eqGuard]
        · rw [ea, eb]; exact neq_of (by cases va <;> first | rfl | simp [isFn] at hv) (eq_fn hd hv)
      · cases hr
    · unfold binR at hr
      split at hr
      · -- shl
        cases hr
        obtain ⟨h0, hk⟩ := hf
        refine bin_val ho (by rw [ea, eb]; exact guard_int) ?_ hk
        rw [ea, eb]; simp [binOp, Op.shift, Int.not_lt.2 h0]
      · cases hr
        obtain ⟨h0, hk⟩ := hf
        refine bin_val ho (by rw [ea, eb]; exact guard_int) ?_ hk
        rw [ea, eb]; simp [binOp, Op.shift, Int.not_lt.2 h0]
      · rename_i kk av j bv hs1 hs2 hs3
        cases hj : decide (j = kk) with
        | false => rw [hj] at hr; cases hr
        | true =>
          rw [hj] at hr
          obtain rfl := of_decide_eq_true hj
          simp only [cond_true] at hr
          have hgd : (eqGuard op t x y (a.eval x) (a.eval y)).run T.P w = .ok () w := by rw [ea, eb]; exact guard_int
          split at hr
          all_goals first
            | (cases hr
               first
                 | exact bin_val ho hgd (by rw [ea, eb]; simp [binOp, Op.intArith, Op.intCmp, Op.intBits]) hf
                 | (obtain ⟨h0, hk⟩ := hf
                    exact bin_val ho hgd (by rw [ea, eb]; simp [binOp, Op.intDiv, h0]) hk))
            | cases hr
      · -- strings
        split at hr
        · cases hr
          obtain ⟨h0, hk⟩ := hf
          refine bin_val ho (by rw [ea, eb]; simp [eqGuard]) ?_ hk
          rw [ea, eb]
          have hm : IntKind.i64.max = 9223372036854775807 := by decide
          simp only [binOp, Op.stringOp]
          rw [if_neg (by rw [hm]; exact Int.not_lt.2 h0)]
          rfl
        · cases hr
          exact bin_val ho (by rw [ea, eb]; simp [eqGuard]) (by rw [ea, eb]; simp [binOp, Op.stringOp]) hf
        · cases hr
          exact bin_val ho (by rw [ea, eb]; simp [eqGuard]) (by rw [ea, eb]; simp [binOp, Op.stringOp]) hf
        · cases hr
      · -- pointers against nil
        split at hr
        · rename_i q hp
          cases hr
          obtain rfl := of_po (hu.trans hp)
          refine bin_val ho (by rw [ea, eb]; simp [eqGuard]) ?_ hf
          rw [ea, eb]
          exact eql_of rfl (eq_po hd _)
        · rename_i q hp
          cases hr
          obtain rfl := of_po (hu.trans hp)
          refine bin_val ho (by rw [ea, eb]; simp [eqGuard]) ?_ hf
          rw [ea, eb]
          exact neq_of rfl (eq_po hd _)
        · cases hr
      · split at hr
        · rename_i q hp
          cases hr
          obtain rfl := of_sl (hu.trans hp)
          refine bin_val ho (by rw [ea, eb]; simp [eqGuard]) ?_ hf
          rw [ea, eb]
          exact eql_of rfl (eq_sl hd _ _ _ _ _)
        · rename_i q hp
          cases hr
          obtain rfl := of_sl (hu.trans hp)
          refine bin_val ho (by rw [ea, eb]; simp [eqGuard]) ?_ hf
          rw [ea, eb]
          exact neq_of rfl (eq_sl hd _ _ _ _ _)
        · cases hr
      · split at hr
        · rename_i hp
          cases hr
          obtain rfl := of_bo (hu.trans hp)
          refine bin_val ho (by rw [ea, eb]; simp [eqGuard]) ?_ hf
          rw [ea, eb]; exact eql_of rfl (eq_bo hd _ _)
        · rename_i hp
          cases hr
          obtain rfl := of_bo (hu.trans hp)
          refine bin_val ho (by rw [ea, eb]; simp [eqGuard]) ?_ hf
          rw [ea, eb]; exact neq_of rfl (eq_bo hd _ _)
        · cases hr
      · cases hr
  · cases hr
theorem op_unOp {op : UnOp} {t : Nat} {x : Operand} (ho : o.op = .unOp op t x) (hr : resolve T ρ o.type o.op = some p) (hA : Agr n a ρ) (hf : p.f T.P k w) : OpRes T.P ((execOp a.eval o).run T.P w) k := by
  simp only [resolve, ho] at hr
  split at hr
  · rename_i v hv
    simp only [execOp, ho]
    rw [ev_ok hA hv]
    unfold unR at hr
    split at hr
    · cases hr; exact res_v (v := _) (by simp [Op.unary, Op.intArith]) hf
    · cases hr; exact res_v (v := _) (by simp [Op.unary]) hf
    · cases hr; exact res_v (v := _) (by simp [Op.unary, Op.intBits]) hf
    · cases hr
  · cases hr
end Go.Eng
namespace Go.Eng
open Go
variable {P : Program} {T : Tab} {n : Nat} {a : Act} {ρ : Env} {w : World} {o : Oper} {k : Value → F} {p : Prim}

theorem op_alloc (hT : TabOk T) {t : Nat} (ho : o.op = .alloc t) (hr : resolve T ρ o.type o.op = some p) (hf : p.f T.P k w) : OpRes T.P ((execOp a.eval o).run T.P w) k := by
  simp only [resolve, ho] at hr
  split at hr
  · rename_i i hi
    cases hr
    obtain ⟨z, h1, h2⟩ := run_zero hT hi w
    simp only [execOp, ho]
    refine res_v (v := .pointer (some (A w.heap.size 0))) ?_ hf
    simp [Instr.alloc, h1, newVar, newRow, ← h2]
  · cases hr
theorem op_box {t : Nat} {x : Operand} (ho : o.op = .box t x) (hr : resolve T ρ o.type o.op = some p) (hA : Agr n a ρ) (hf : p.f T.P k w) : OpRes T.P ((execOp a.eval o).run T.P w) k := by
  simp only [resolve, ho] at hr
  split at hr
  · rename_i v hv
    cases hr
    simp only [execOp, ho]
    refine res_v (v := .pointer (some (A w.heap.size 0))) ?_ hf
    simp [Instr.box, ev_ok hA hv, newVar, newRow]
  · cases hr
theorem op_store (hT : TabOk T) {t : Nat} {x y : Operand} (ho : o.op = .store t x y) (hr : resolve T ρ o.type o.op = some p) (hA : Agr n a ρ) (hf : p.f T.P k w) : OpRes T.P ((execOp a.eval o).run T.P w) k := by
  simp only [resolve, ho] at hr
  split at hr
  · rename_i b oo v i hb hv hi
    cases hl : Nat.beq v.cells.toList.length i.size with
    | false => rw [hl] at hr; cases hr
    | true =>
      rw [hl] at hr
      cases hr
      obtain ⟨h1, h2, h3⟩ := hf
      have hs : v.cells.size = i.size := by have := Nat.eq_of_beq_eq_true hl; simpa using this
      have hrow := run_row (P := T.P) v.cells.toList oo 0 w (by simpa using h1) h2
      simp only [execOp, ho]
      refine res_u ?_ h3
      simp [Instr.storeAt, ev_ok hA hb, ev_ok hA hv, Instr.sureAddr, storeVar, run_size hT hi, hs]
      simpa using hrow
  · cases hr

theorem sizes_ok (hT : TabOk T) : ∀ (gs : List Field) {pl : List (Nat × Nat)} {w : World}, sizes T (gs.map fun f => (f.type, f.offset)) = some pl →
    (gs.mapM (m := Sem) fun f => do pure (f.offset, ← sizeOf f.type)).run T.P w = .ok pl w
  | [], pl, w, h => by simp [sizes] at h; subst h; rfl
  | g :: gs, pl, w, h => by
    simp only [List.map_cons, sizes] at h
    split at h
    · rename_i i hi
      split at h
      · rename_i r hr
        cases h
        have := sizes_ok hT gs (w := w) hr
        simp only [List.mapM_cons, Sem.run_bind, run_size hT hi, Result.andThen_ok, Sem.run_pure, this]
      · cases h
    · cases h
theorem fill_step (off : Nat) : ∀ (vs : List Value) (j : Nat) (c : List Value), off + j + vs.length ≤ c.length →
    (vs.zipIdx j).foldl (fun cs (x, j) => cs.setIfInBounds (off + j) x) c.toArray = (c.take (off + j) ++ vs ++ c.drop (off + j + vs.length)).toArray
  | [], j, c, _ => by simp
  | v :: vs, j, c, h => by
    simp only [List.length_cons] at h
    have ih := fill_step off vs (j + 1) (c.set (off + j) v) (by simp; omega)
    simp only [List.zipIdx_cons, List.foldl_cons, List.setIfInBounds_toArray]
    rw [ih]
    congr 1
    have e1 : (c.set (off + j) v).take (off + (j + 1)) = c.take (off + j) ++ [v] := by
      rw [show off + (j + 1) = off + j + 1 from by omega, List.take_set, List.take_succ_eq_append_getElem (by omega)]
      rw [List.set_append_right _ _ (by simp; omega)]
      simp [show min (off + j) c.length = off + j from by omega]
    have e2 : (c.set (off + j) v).drop (off + (j + 1) + vs.length) = c.drop (off + j + (v :: vs).length) := by
      rw [List.drop_set_of_lt (by omega)]
      congr 1
      simp; omega
    rw [e1, e2]; simp
theorem fill_ok (place : Nat → Option (Nat × Nat)) : ∀ (ps : List (Nat × Value)) (c : List Value) {cs : List Value}, fillL place c ps = some cs →
    Instr.fill place c.toArray ps = some cs.toArray
  | [], c, cs, h => by simp [fillL] at h; subst h; rfl
  | (i, v) :: ps, c, cs, h => by
    simp only [fillL] at h
    split at h
    · cases h
    · rename_i off size hp
      cases h1 : Nat.beq v.cells.toList.length size with
      | false => rw [h1] at h; cases h
      | true =>
        cases h2 : Nat.ble (off + v.cells.toList.length) c.length with
        | false => rw [h1, h2] at h; cases h
        | true =>
          rw [h1, h2] at h
          simp only [Bool.and_self, cond_true] at h
          have e1 : v.cells.size = size := by simpa using Nat.eq_of_beq_eq_true h1
          have e2 : off + v.cells.size ≤ c.length := by simpa using Nat.le_of_ble_eq_true h2
          simp only [Instr.fill, hp]
          rw [if_neg (by simp [e1]; rw [← e1]; exact e2)]
          have := fill_ok place ps _ h
          have e3 := fill_step off v.cells.toList 0 c (by simpa using e2)
          simp only [Nat.add_zero] at e3
          rw [← Array.foldl_toList, Array.toList_zipIdx, e3]
          exact this
theorem op_build (hT : TabOk T) {t : Nat} {ps : Array (Nat × Operand)} (ho : o.op = .build t ps) (hr : resolve T ρ o.type o.op = some p) (hA : Agr n a ρ) (hf : p.f T.P k w) : OpRes T.P ((execOp a.eval o).run T.P w) k := by
  simp only [resolve, ho] at hr
  split at hr
  · rename_i fs _ _ z _ hi
    split at hr
    · rename_i pl vs hpl hvs
      split at hr
      · rename_i cs hcs
        cases hr
        obtain ⟨d, hd, hu⟩ := run_und hT hi w
        obtain ⟨gs, rfl, hg⟩ := of_st hu
        obtain ⟨zv, hz1, hz2⟩ := run_zero hT hi w
        rw [← hg] at hpl
        have h1 := sizes_ok hT gs.toList (w := w) hpl
        have h2 : (gs.mapM (m := Sem) fun f => do pure (f.offset, ← sizeOf f.type)).run T.P w = .ok pl.toArray w := by
          rw [Array.mapM_eq_mapM_toList]
          simp only [Sem.run_map, h1, Result.andThen_ok]
        have h3 := evp_ok hA hvs
        have h4 := fill_ok _ _ _ hcs
        simp only [execOp, ho]
        refine res_v (v := _) ?_ hf
        have e5 : (ps.map fun x => (x.1, a.eval x.2)).toList = vs := by rw [Array.toList_map]; exact h3
        have e6 : zv.cells = z.toArray := by have hz2 : zv.cells.toList = z := hz2; rw [← hz2]
        simp only [Instr.build, Sem.run_bind, hz1, hd, Result.andThen_ok, h2, e5, e6]
        simp [h4]
      · cases hr
    · cases hr
  · cases hr
theorem rep_len (z : List Value) : ∀ n, (rep z n).length = n * z.length
  | 0 => by simp [rep]
  | n + 1 => by simp [rep, rep_len z n, Nat.succ_mul, Nat.add_comm]
theorem rep_get (z : List Value) : ∀ (n i : Nat), i < n * z.length → (rep z n)[i]? = z[i % z.length]?
  | 0, i, h => by simp at h
  | n + 1, i, h => by
    simp only [rep]
    by_cases hi : i < z.length
    · rw [List.getElem?_append_left hi, Nat.mod_eq_of_lt hi]
    · rw [List.getElem?_append_right (by omega), rep_get z n (i - z.length) (by rw [Nat.succ_mul] at h; omega)]
      rw [← Nat.mod_eq_sub_mod (by omega)]
theorem rep_arr (z : List Value) (n m : Nat) (hm : m = z.length) : (Array.range (n * m)).map (z.toArray[· % z.toArray.size]!) = (rep z n).toArray := by
  subst hm
  apply Array.ext
  · simp [rep_len]
  · intro i h1 h2
    simp only [Array.size_map, Array.size_range] at h1
    have h3 := rep_get z n i h1
    have hz : i % z.length < z.length := Nat.mod_lt _ (by rcases Nat.eq_zero_or_pos z.length with h | h; · simp [h] at h1
                                                          · exact h)
    rw [List.getElem?_eq_getElem hz] at h3
    have h4 : (rep z n)[i]'(by rw [rep_len]; exact h1) = z[i % z.length] := by
      have := List.getElem?_eq_some_iff.1 h3
      exact this.2
    simp [h4, hz]
theorem op_buildSlice (hT : TabOk T) {t m : Nat} {ps : Array (Nat × Operand)} (ho : o.op = .buildSlice t m ps) (hr : resolve T ρ o.type o.op = some p) (hA : Agr n a ρ) (hf : p.f T.P k w) : OpRes T.P ((execOp a.eval o).run T.P w) k := by
  simp only [resolve, ho] at hr
  split at hr
  · rename_i e _ _ _ _ hi
    split at hr
    · rename_i i vs hj hvs
      cases hb1 : Nat.ble (m * i.size) 16777216 with
      | false => rw [hb1] at hr; cases hr
      | true =>
        cases hb2 : Nat.beq i.zero.length i.size with
        | false => rw [hb1, hb2] at hr; cases hr
        | true =>
          rw [hb1, hb2] at hr
          simp only [Bool.and_self, cond_true] at hr
          split at hr
          · rename_i cs hcs
            cases hr
            obtain ⟨d, hd, hu⟩ := run_und hT hi w
            obtain rfl := of_sl hu
            obtain ⟨zv, hz1, hz2⟩ := run_zero hT hj w
            have h3 := evp_ok hA hvs
            have h4 := fill_ok _ _ _ hcs
            have e5 : (ps.map fun x => (x.1, a.eval x.2)).toList = vs := by rw [Array.toList_map]; exact h3
            have hle : ¬ m * i.size > 2 ^ 24 := by have := Nat.le_of_ble_eq_true hb1; omega
            have hzl : i.size = i.zero.length := (Nat.eq_of_beq_eq_true hb2).symm
            have e6 : zv.cells = i.zero.toArray := by rw [← hz2]
            simp only [execOp, ho]
            refine res_v (v := .slice (some (A w.heap.size 0)) m m) ?_ hf
            have hrep : (Array.range (m * i.size)).map ((if m * i.size = 0 then #[] else i.zero.toArray)[· % (if m * i.size = 0 then #[] else i.zero.toArray : Array Value).size]!) = (rep i.zero m).toArray := by
              by_cases h0 : m * i.size = 0
              · have : rep i.zero m = [] := by
                  apply List.eq_nil_of_length_eq_zero; rw [rep_len, ← hzl]; exact h0
                simp [h0, this]
              · simp only [h0, if_false]; exact rep_arr _ _ _ hzl
            simp only [Instr.buildSlice, Sem.run_bind, hd, Result.andThen_ok, run_size hT hj, Sem.run_ite, if_neg hle, Sem.run_pure, e5]
            by_cases h0 : m * i.size = 0
            · simp only [h0, if_true] at hrep ⊢
              rw [hrep, h4]; simp [newRow]
            · simp only [h0, if_false] at hrep ⊢
              rw [hz1]; simp only [Result.andThen_ok]
              rw [e6, hrep, h4]; simp [newRow]
          · cases hr
    · cases hr
  · cases hr
end Go.Eng
namespace Go.Eng
open Go
variable {P : Program} {T : Tab} {n : Nat} {a : Act} {ρ : Env} {w : World} {o : Oper} {k : Value → F} {p : Prim}

theorem wrap64_id {x : Int} (h0 : 0 ≤ x) (h1 : x < 2 ^ 63) : IntKind.i64.wrap x = x := by
  unfold IntKind.wrap
  have hb : IntKind.i64.bits = 64 := rfl
  have e : x % 2 ^ 64 = x := Int.emod_eq_of_lt h0 (by omega)
  simp only [hb, e]
  rw [if_neg (by simp; intro _; omega)]
theorem map_range0 (f : Nat → Value) : (Array.range 0).map f = #[] := Array.eq_empty_of_size_eq_zero (by simp)
theorem op_makeSlice (hT : TabOk T) {t : Nat} {x y : Operand} (ho : o.op = .makeSlice t x y) (hr : resolve T ρ o.type o.op = some p) (hA : Agr n a ρ) (hf : p.f T.P k w) : OpRes T.P ((execOp a.eval o).run T.P w) k := by
  simp only [resolve, ho] at hr
  split at hr
  · rename_i e _ _ _ _ m c hi hx hy
    split at hr
    · rename_i j hj
      cases hr
      obtain ⟨h0, h1, h2, h3, h4⟩ := hf
      obtain ⟨d, hd, hu⟩ := run_und hT hi w
      obtain rfl := of_sl hu
      obtain ⟨info, hi1, hi2, hi3, z, hz1, hz2⟩ := run_info hT hj w
      have hzz : (zeroValue e).run T.P w = .ok z w := by simp [zeroValue, hi1, hz1]
      have hsz : (sizeOf e).run T.P w = .ok info.size w := by simp [sizeOf, hi1]
      simp only [execOp, ho]
      refine res_v (v := _) ?_ h4
      have hw1 : IntKind.i64.wrap c = c := wrap64_id (Int.le_trans h0 h1) h3
      have hw2 : IntKind.i64.wrap m = m := wrap64_id h0 (Int.lt_of_le_of_lt h1 h3)
      have e6 : z.cells = j.zero.toArray := by rw [← hz2]
      simp [Instr.makeSlice, hd, ev_ok hA hx, ev_ok hA hy, asInt, asIntOf, hi1, hw1, hw2]
      rw [if_neg (by rw [hi3]; omega)]
      simp only [hsz, Result.andThen_ok, hi2]
      by_cases hz0 : c.toNat * j.size = 0
      · simp only [hz0, if_true, Result.andThen_ok, newRow, Sem.run_bind, Sem.run_pure, run_newObj, map_range0]; rfl
      · simp [hz0, hzz, e6, newRow]
    · cases hr
  · cases hr
theorem evo_ok (hA : Agr n a ρ) {x : Option Operand} {v : Option Value} (h : evo ρ x = some v) : x.map a.eval = v := by
  cases x with
  | none => simp [evo] at h; subst h; rfl
  | some x =>
    simp only [evo] at h
    split at h
    · rename_i u hu
      cases h
      simp [ev_ok hA hu]
    · cases h
theorem bound_ok {kk : IntKind} {i : Int} {y : Nat} {c : BoundsCode} (h0 : 0 ≤ i) (h1 : i ≤ (y : Int)) : (Instr.sliceBound (.int kk i) y c).run P w = .ok i.toNat w := by
  simp [Instr.sliceBound, asIntOf, h0, h1]
theorem op_slice (hT : TabOk T) {t : Nat} {x : Operand} {lo hi : Option Operand} (ho : o.op = .slice t x lo hi none) (hr : resolve T ρ o.type o.op = some p) (hA : Agr n a ρ) (hf : p.f T.P k w) : OpRes T.P ((execOp a.eval o).run T.P w) k := by
  simp only [resolve, ho] at hr
  split at hr
  · rename_i e _ _ _ _ aa l c l' h' hti hx hlo hhi
    split at hr
    · rename_i j hj
      obtain ⟨d, hd, hu⟩ := run_und hT hti w
      obtain rfl := of_sl hu
      simp only [execOp, ho]
      have e1 := evo_ok hA hlo
      have e2 := evo_ok hA hhi
      unfold subR at hr
      split at hr
      · cases hr
        refine res_v (v := _) ?_ hf
        simp [Instr.sliceAt, Instr.slice, hd, ev_ok hA hx, e1, e2, Instr.sliceBounds, run_size hT hj]
        cases aa <;> simp [Addr.add]
      · cases hr
        obtain ⟨⟨h0, h1⟩, h⟩ := hf
        refine res_v (v := _) ?_ h
        simp [Instr.sliceAt, Instr.slice, hd, ev_ok hA hx, e1, e2, Instr.sliceBounds, run_size hT hj, bound_ok h0 h1]
      · cases hr
        obtain ⟨⟨h0, h1⟩, h⟩ := hf
        refine res_v (v := _) ?_ h
        simp [Instr.sliceAt, Instr.slice, hd, ev_ok hA hx, e1, e2, Instr.sliceBounds, run_size hT hj, bound_ok h0 h1]
        cases aa <;> simp [Addr.add]
      · cases hr
        obtain ⟨⟨⟨h0, h1⟩, h2, h3⟩, h⟩ := hf
        refine res_v (v := _) ?_ h
        simp [Instr.sliceAt, Instr.slice, hd, ev_ok hA hx, e1, e2, Instr.sliceBounds, run_size hT hj, bound_ok h0 h1, bound_ok h2 h3]
      · cases hr
    · cases hr
  · rename_i _ _ _ _ s l' h' hti hx hlo hhi
    obtain ⟨d, hd, hu⟩ := run_und hT hti w
    obtain rfl := of_tx hu
    simp only [execOp, ho]
    have e1 := evo_ok hA hlo
    have e2 := evo_ok hA hhi
    unfold subS at hr
    split at hr
    · cases hr
      obtain ⟨⟨h0, h1⟩, h⟩ := hf
      refine res_v (v := _) ?_ h
      simp [Instr.sliceAt, Instr.slice, hd, ev_ok hA hx, e1, e2, Instr.sliceBounds, bound_ok h0 h1]
    · cases hr
      obtain ⟨⟨h0, h1⟩, h⟩ := hf
      refine res_v (v := _) ?_ h
      simp [Instr.sliceAt, Instr.slice, hd, ev_ok hA hx, e1, e2, Instr.sliceBounds, bound_ok h0 h1]
    · cases hr
      obtain ⟨⟨⟨h0, h1⟩, h2, h3⟩, h⟩ := hf
      refine res_v (v := _) ?_ h
      simp [Instr.sliceAt, Instr.slice, hd, ev_ok hA hx, e1, e2, Instr.sliceBounds, bound_ok h0 h1, bound_ok h2 h3]
    · cases hr
  · cases hr
/-! ### append, copy -/
theorem cells_of (hsz : Nat) {s : Sl} {vs : List Value} (hl : vs.length = s.len * hsz) (h : s.len * hsz ≠ 0 → ∃ b o, s.a = some (A b o) ∧ cellsAt w b o vs) :
    (Builtin.firstCells hsz s.len (.slice s.a s.len s.cap)).run P w = .ok vs.toArray w := by
  cases ha : s.a with
  | none =>
    have : s.len * hsz = 0 := by
      by_cases h0 : s.len * hsz = 0
      · exact h0
      · obtain ⟨b, o, h1, _⟩ := h h0; rw [ha] at h1; cases h1
    rw [this] at hl
    have : vs = [] := List.eq_nil_of_length_eq_zero hl
    subst this
    rfl
  | some ad =>
    simp only [Builtin.firstCells]
    by_cases h0 : s.len * hsz = 0
    · rw [h0] at hl ⊢
      have : vs = [] := List.eq_nil_of_length_eq_zero hl
      subst this
      rfl
    · obtain ⟨b, o, h1, h2⟩ := h h0
      rw [ha] at h1
      cases h1
      have := run_cells (P := P) h2
      rw [hl] at this
      exact this
theorem cellsAt_drew {b o : Nat} {vs : List Value} (h : cellsAt w b o vs) : cellsAt w.drew b o vs := fun j v hj => h j v hj
theorem run_row0 {b o : Nat} {vs : List Value} (h1 : rowOk w b o vs.length) (h2 : ∀ v ∈ vs, v.oneCell' = true) : (storeCells (A b o) vs).run P w = .ok () (setRow w b o vs) := by
  have := run_row (P := P) vs o 0 w (by simpa using h1) h2
  simpa using this
theorem not_int_of_sl {d : TypeDesc} {e : Nat} (h : U.of d = .sl e) : (d matches .int _) = false := by obtain rfl := of_sl h; rfl
theorem apd_ok (hT : TabOk T) {st xt e : Nat} {i i2 j : TI} {e2 : Nat} (hi : T.ti st = some i) (hiu : i.und = .sl e) (hi2 : T.ti xt = some i2) (hiu2 : i2.und = .sl e2) (hj : T.ti e = some j)
    {s src : Sl} {kk : Sl → F} {ty : Nat} (hf : apd j.size j.bytes e j.zero s src kk w) :
    ∃ r w', (Builtin.append_ #[st, xt] ty #[.slice s.a s.len s.cap, .slice src.a src.len src.cap]).run T.P w = .ok (.slice r.a r.len r.cap) w' ∧ kk r w' := by
  obtain ⟨new, hl, hv, hc, hrest⟩ := hf
  obtain ⟨d, hd, hu⟩ := run_und hT hi w
  rw [hiu] at hu
  obtain rfl := of_sl hu
  obtain ⟨d2, hd2, hu2⟩ := run_und hT hi2 w
  rw [hiu2] at hu2
  obtain rfl := of_sl hu2
  obtain ⟨info, hi1, hi2', hi3, z, hz1, hz2⟩ := run_info hT hj w
  have hz : ∀ w, (zeroValue e).run T.P w = .ok z w := fun w => by
    have := (hT.ti e j hj)
    obtain ⟨info', _, a1, _⟩ := this
    have e1 : (typeInfo e).run T.P w = .ok info' w := by simp [typeInfo, a1]
    have e2 : (typeInfo e).run T.P w = .ok info w := by
      have h0 := hi1; simp [typeInfo, a1] at h0; rw [← h0]; exact e1
    simp [zeroValue, e2, hz1]
  have hty : ∀ w, (typeInfo e).run T.P w = .ok info w := fun w => by
    obtain ⟨info', _, a1, _⟩ := hT.ti e j hj
    have h0 := hi1; simp [typeInfo, a1] at h0; simp [typeInfo, a1, h0]
  have e6 : z.cells = j.zero.toArray := by rw [← hz2]
  have hsrc := cells_of (P := T.P) j.size hl hc
  rcases hrest with ⟨hle, hrest⟩ | ⟨hgt, hcap, hmax, old, hol, hoc, hk⟩
  · rcases hrest with ⟨hn, hk⟩ | ⟨b, oo, hb, hrow, hk⟩
    · refine ⟨_, w, ?_, hk⟩
      simp [Builtin.append_, hd, hd2, run_size hT hj, Builtin.lenOf, hle, hsrc, hn]
    · refine ⟨_, _, ?_, hk⟩
      have hst := run_row0 (P := T.P) hrow hv
      simp [Builtin.append_, hd, hd2, run_size hT hj, Builtin.lenOf, hle, hsrc, hb, A_add, hst]
  · have hnle : ¬ s.len + src.len ≤ s.cap := by omega
    have hsrc' := cells_of (P := T.P) (w := w.drew) j.size hl (fun h => let ⟨b, o, h1, h2⟩ := hc h; ⟨b, o, h1, cellsAt_drew h2⟩)
    have hold' := cells_of (P := T.P) (w := w.drew) j.size (s := s) hol (fun h => let ⟨b, o, h1, h2⟩ := hoc h; ⟨b, o, h1, cellsAt_drew h2⟩)
    refine ⟨_, _, ?_, hk ((s.len + src.len) + w.tape w.drawn (.appendCap (s.len + src.len) s.cap e) % (2 ^ 63 - (s.len + src.len))) (by omega)⟩
    have hm : ¬ ((s.len + src.len : Nat) : Int) > IntKind.i64.max := by
      have : IntKind.i64.max = 9223372036854775807 := by decide
      rw [this]; omega
    have hnc : ¬ Builtin.nextslicecap (s.len + src.len) s.cap * info.bytes > 2 ^ 48 := by rw [hi3]; omega
    have hm' : ¬ (IntKind.i64.max < (s.len : Int) + (src.len : Int)) := by have := hm; simp only [gt_iff_lt] at this; push_cast at this; exact this
    have hnc' : ¬ (281474976710656 < Builtin.nextslicecap (s.len + src.len) s.cap * info.bytes) := by omega
    simp [Builtin.append_, hd, hd2, run_size hT hj, Builtin.lenOf, hnle, hty, hnc', Question.forced, Question.cut, hold', hsrc', hz, newRow, e6, Builtin.zeroCells]
    rw [if_neg (by omega)]
    congr 3
    apply Array.ext'
    simp [Array.toList_range]
theorem apz_ok (hT : TabOk T) {st xt e : Nat} {i j : TI} {ix : TI} {kx : IntKind} (hi : T.ti st = some i) (hiu : i.und = .sl e) (hx : T.ti xt = some ix) (hxu : ix.und = .int kx) (hj : T.ti e = some j)
    {s : Sl} {m : Int} {kk : Sl → F} {ty : Nat} {k2 : IntKind} (hf : apz j.size j.bytes e j.zero s m kk w) :
    ∃ r w', (Builtin.append_ #[st, xt] ty #[.slice s.a s.len s.cap, .int k2 m]).run T.P w = .ok (.slice r.a r.len r.cap) w' ∧ kk r w' := by
  obtain ⟨h0, hb, hm2, hrest⟩ := hf
  obtain ⟨d, hd, hu⟩ := run_und hT hi w
  rw [hiu] at hu
  obtain rfl := of_sl hu
  obtain ⟨d2, hd2, hu2⟩ := run_und hT hx w
  rw [hxu] at hu2
  obtain rfl := of_int hu2
  obtain ⟨info, hi1, hi2', hi3, z, hz1, hz2⟩ := run_info hT hj w
  have hty : ∀ w, (typeInfo e).run T.P w = .ok info w := fun w => by
    obtain ⟨info', _, a1, _⟩ := hT.ti e j hj
    have h0 := hi1; simp [typeInfo, a1] at h0; simp [typeInfo, a1, h0]
  have hz : ∀ w, (zeroValue e).run T.P w = .ok z w := fun w => by simp [zeroValue, hty, hz1]
  have e6 : z.cells = j.zero.toArray := by rw [← hz2]
  have hw : IntKind.i64.wrap m = m := wrap64_id h0 hm2
  have hn0 : ¬ m < 0 := Int.not_lt.2 h0
  have hnb : ¬ 281474976710656 < m * (info.bytes : Int) := by rw [hi3]; omega
  rcases hrest with ⟨hle, hrest⟩ | ⟨hgt, hcap, hmax, old, hol, hoc, hk⟩
  · rcases hrest with ⟨hn, hk⟩ | ⟨b, oo, hbb, hv, hzl, hrow, hk⟩
    · refine ⟨_, w, ?_, hk⟩
      simp [Builtin.append_, hd, hd2, run_size hT hj, asInt, asIntOf, hw, hn0, hty, hnb, hle, hn]
      intro _
      simp [hz]
    · refine ⟨_, _, ?_, hk⟩
      have hlen : (if m.toNat * j.size = 0 then [] else (Builtin.zeroCells j.zero.toArray m.toNat).toList).length = m.toNat * j.size := by
        split
        · rename_i h; simp [h]
        · simp [Builtin.zeroCells, hzl]
      have hvv : ∀ v ∈ (if m.toNat * j.size = 0 then [] else (Builtin.zeroCells j.zero.toArray m.toNat).toList), v.oneCell' = true := by
        intro v hvm
        split at hvm
        · cases hvm
        · rename_i hne
          simp only [Builtin.zeroCells, Array.toList_map, List.mem_map] at hvm
          obtain ⟨q, _, rfl⟩ := hvm
          have hpos : 0 < j.zero.length := by rw [hzl]; exact Nat.pos_of_ne_zero fun h => hne (by rw [h]; rfl)
          have hlt : q % j.zero.length < j.zero.length := Nat.mod_lt _ hpos
          have : j.zero.toArray[q % j.zero.toArray.size]! = j.zero[q % j.zero.length] := by simp [hlt]
          rw [this]
          exact hv _ (List.getElem_mem _)
      have hst := run_row0 (P := T.P) (by rw [hlen]; exact hrow) hvv
      simp [Builtin.append_, hd, hd2, run_size hT hj, asInt, asIntOf, hw, hn0, hty, hnb, hle, hbb, A_add]
      by_cases hz0 : m.toNat * j.size = 0
      · simp only [hz0, if_true] at hst ⊢
        simp [hst]
      · simp only [hz0, if_false] at hst ⊢
        simp [hz, e6, hst]
  · have hnle : ¬ s.len + m.toNat ≤ s.cap := by omega
    have hold' := cells_of (P := T.P) (w := w.drew) j.size (s := s) hol (fun h => let ⟨b, o, h1, h2⟩ := hoc h; ⟨b, o, h1, cellsAt_drew h2⟩)
    refine ⟨_, _, ?_, hk ((s.len + m.toNat) + w.tape w.drawn (.appendCap (s.len + m.toNat) s.cap e) % (2 ^ 63 - (s.len + m.toNat))) (by omega)⟩
    have hnc' : ¬ (281474976710656 < Builtin.nextslicecap (s.len + m.toNat) s.cap * info.bytes) := by rw [hi3]; omega
    have hmm : IntKind.i64.max = 9223372036854775807 := by decide
    have hmx : ¬ (9223372036854775807 < (s.len : Int) + m) := by omega
    have hmt : max m 0 = m := by omega
    simp [Builtin.append_, hd, hd2, run_size hT hj, asInt, asIntOf, hw, hn0, hty, hnb, hnle, hnc', hmm, hmt, hmx, Question.forced, Question.cut, hold', hz, newRow, e6]
    by_cases hz0 : m.toNat * j.size = 0
    · simp only [hz0, if_true]
      congr 3
      apply Array.ext'
      simp [Builtin.zeroCells, Array.toList_range]
    · simp only [hz0, if_false]
      congr 3
      apply Array.ext'
      simp [Builtin.zeroCells, Array.toList_range]
theorem cpy_ok (hT : TabOk T) {st xt e : Nat} {i j : TI} (hi : T.ti st = some i) (hiu : i.und = .sl e) (hj : T.ti e = some j)
    {s src : Sl} {kk : Int → F} {ty : Nat} (hf : cpy j.size s src kk w) :
    ∃ r w', (Builtin.copy_ #[st, xt] ty #[.slice s.a s.len s.cap, .slice src.a src.len src.cap]).run T.P w = .ok (.int .i64 r) w' ∧ kk r w' := by
  obtain ⟨new, hl, hv, hc, hrest⟩ := hf
  obtain ⟨d, hd, hu⟩ := run_und hT hi w
  rw [hiu] at hu
  obtain rfl := of_sl hu
  have hsrc := cells_of (P := T.P) (w := w) (s := ⟨src.a, min src.len s.len, src.cap⟩) j.size hl (fun h => hc (by rw [hl]; exact h))
  have hsrc' : (Builtin.firstCells j.size (min src.len s.len) (.slice src.a src.len src.cap)).run T.P w = .ok new.toArray w := by
    cases ha : src.a <;> rw [ha] at hsrc <;> exact hsrc
  rcases hrest with ⟨hn, hk⟩ | ⟨b, oo, hb, hrow, hk⟩
  · refine ⟨_, w, ?_, hk⟩
    simp [Builtin.copy_, hd, run_size hT hj, Builtin.lenOf, hsrc', hn, goInt]
  · refine ⟨_, _, ?_, hk⟩
    have hst := run_row0 (P := T.P) hrow hv
    simp [Builtin.copy_, hd, run_size hT hj, Builtin.lenOf, hsrc', hb, hst, goInt]
end Go.Eng
namespace Go.Eng
open Go
variable {P : Program} {T : Tab} {n : Nat} {a : Act} {ρ : Env} {w : World} {o : Oper} {k : Value → F} {p : Prim}

theorem raw_ok {m : Sem Value} {tp : Bool} {l : List Sh} {kk : Value → F} (hf : (Prim.raw m tp l).f P kk w) : ∃ v w', m.run P w = .ok v w' ∧ kk v w' := by
  obtain ⟨x, w', h1, h2⟩ := hf
  rw [ap_lam] at h2
  exact ⟨_, w', h1, h2⟩
theorem res_b {s : Sem Value} (h : ∃ v w', s.run P w = .ok v w' ∧ k v w') : OpRes P ((do pure (Next.value (← s)) : Sem Next).run P w) k := by
  obtain ⟨v, w', h1, h2⟩ := h
  exact res_v h1 h2
theorem exec_builtin {b : Builtin} {args : Array Operand} {ats : Array Nat} (ho : o.op = .call { callee := .builtin b, args := args, argTypes := ats }) :
    (execOp a.eval o).run P w = (builtin b ats o.type (args.map fun | .const _ => true | _ => false) (args.map a.eval)).run P w := by
  simp [execOp, ho, Go.resolve, invoke]
  rfl
theorem op_builtin (hT : TabOk T) {b : Builtin} {args : Array Operand} {ats : Array Nat} {vs : List Value} (ho : o.op = .call { callee := .builtin b, args := args, argTypes := ats })
    (hv : args.map a.eval = vs.toArray) (hr : builtinR T b ats.toList vs = some p) (hf : p.f T.P k w) : OpRes T.P ((execOp a.eval o).run T.P w) k := by
  rw [exec_builtin ho, hv]
  unfold builtinR at hr
  split at hr
  · rename_i st xt aa l c aa' l' c' e0
    have e0 : ats = #[st, xt] := by rw [← Array.toArray_toList (xs := ats), e0]
    subst e0
    split at hr
    · rename_i e _ _ _ _ e' _ _ _ _ h1 h2
      split at hr
      · rename_i j hj
        cases hr
        obtain ⟨r, w', h3, h4⟩ := apd_ok (s := ⟨aa, l, c⟩) (src := ⟨aa', l', c'⟩) (kk := fun s => k (.slice s.a s.len s.cap)) (ty := o.type) hT h1 rfl h2 rfl hj hf
        change OpRes T.P ((do pure (Next.value (← Builtin.append_ #[st, xt] o.type #[.slice aa l c, .slice aa' l' c'])) : Sem Next).run T.P w) k
        exact res_b ⟨_, w', h3, h4⟩
      · cases hr
    · cases hr
  · rename_i st xt aa l c kx m e0
    have e0 : ats = #[st, xt] := by rw [← Array.toArray_toList (xs := ats), e0]
    subst e0
    split at hr
    · rename_i e _ _ _ _ ke _ _ _ _ h1 h2
      split at hr
      · rename_i j hj
        cases hr
        obtain ⟨r, w', h3, h4⟩ := apz_ok (s := ⟨aa, l, c⟩) (kk := fun s => k (.slice s.a s.len s.cap)) (ty := o.type) (k2 := kx) hT h1 rfl h2 rfl hj hf
        change OpRes T.P ((do pure (Next.value (← Builtin.append_ #[st, xt] o.type #[.slice aa l c, .int kx m])) : Sem Next).run T.P w) k
        exact res_b ⟨_, w', h3, h4⟩
      · cases hr
    · cases hr
  · rename_i st xt aa l c aa' l' c' e0
    have e0 : ats = #[st, xt] := by rw [← Array.toArray_toList (xs := ats), e0]
    subst e0
    split at hr
    · rename_i e _ _ _ _ h1
      split at hr
      · rename_i j hj
        cases hr
        obtain ⟨r, w', h3, h4⟩ := cpy_ok (s := ⟨aa, l, c⟩) (src := ⟨aa', l', c'⟩) (kk := fun n => k (.int .i64 n)) (xt := xt) (ty := o.type) hT h1 rfl hj hf
        change OpRes T.P ((do pure (Next.value (← Builtin.copy_ #[st, xt] o.type #[.slice aa l c, .slice aa' l' c'])) : Sem Next).run T.P w) k
        exact res_b ⟨_, w', h3, h4⟩
      · cases hr
    · cases hr
  · rename_i t x e0
    have e0 : ats = #[t] := by rw [← Array.toArray_toList (xs := ats), e0]
    subst e0
    split at hr
    · rename_i e _ _ _ _ aa l c h1
      cases hr
      obtain ⟨d, hd, hu⟩ := run_und hT h1 w
      obtain rfl := of_sl hu
      change OpRes T.P ((do pure (Next.value (← Builtin.len_ #[t] o.type #[.slice aa l c])) : Sem Next).run T.P w) k
      exact res_v (v := .int .i64 l) (by simp [Builtin.len_, hd, goInt]) hf
    · rename_i _ _ _ _ s h1
      cases hr
      obtain ⟨d, hd, hu⟩ := run_und hT h1 w
      obtain rfl := of_tx hu
      change OpRes T.P ((do pure (Next.value (← Builtin.len_ #[t] o.type #[.string s])) : Sem Next).run T.P w) k
      exact res_v (v := .int .i64 s.size) (by simp [Builtin.len_, hd, goInt]) hf
    · rename_i r h1
      cases hr
      obtain ⟨v, w', h1, h2⟩ := raw_ok hf
      change OpRes T.P ((do pure (Next.value (← Builtin.len_ #[t] 0 #[.chan r])) : Sem Next).run T.P w) k
      exact res_b ⟨v, w', h1, h2⟩
    · rename_i r h1
      cases hr
      obtain ⟨v, w', h1, h2⟩ := raw_ok hf
      change OpRes T.P ((do pure (Next.value (← Builtin.len_ #[t] 0 #[.map r])) : Sem Next).run T.P w) k
      exact res_b ⟨v, w', h1, h2⟩
    · cases hr
  · rename_i t aa l c e0
    have e0 : ats = #[t] := by rw [← Array.toArray_toList (xs := ats), e0]
    subst e0
    split at hr
    · rename_i e _ _ _ _ h1
      cases hr
      obtain ⟨d, hd, hu⟩ := run_und hT h1 w
      obtain rfl := of_sl hu
      change OpRes T.P ((do pure (Next.value (← Builtin.cap_ #[t] o.type #[.slice aa l c])) : Sem Next).run T.P w) k
      exact res_v (v := .int .i64 c) (by simp [Builtin.cap_, hd, goInt]) hf
    · cases hr
  · rename_i kx x ky y
    cases hr
    change OpRes T.P ((do pure (Next.value (← Builtin.min_ ats o.type #[.int kx x, .int ky y])) : Sem Next).run T.P w) k
    exact res_v (v := _) (by simp [Builtin.min_, Builtin.min2]) hf
  · rename_i kx x ky y
    cases hr
    change OpRes T.P ((do pure (Next.value (← Builtin.max_ ats o.type #[.int kx x, .int ky y])) : Sem Next).run T.P w) k
    exact res_v (v := _) (by simp [Builtin.max_, Builtin.max2]) hf
  · rename_i t x e0
    have e0 : ats = #[t] := by rw [← Array.toArray_toList (xs := ats), e0]
    subst e0
    cases hr
    obtain ⟨v, w', h1, h2⟩ := raw_ok hf
    change OpRes T.P ((do pure (Next.value (← Builtin.clear_ #[t] 0 #[x])) : Sem Next).run T.P w) k
    exact res_b ⟨v, w', h1, h2⟩
  · rename_i t u x y e0
    have e0 : ats = #[t, u] := by rw [← Array.toArray_toList (xs := ats), e0]
    subst e0
    cases hr
    obtain ⟨v, w', h1, h2⟩ := raw_ok hf
    change OpRes T.P ((do pure (Next.value (← Builtin.delete_ #[t, u] 0 #[x, y])) : Sem Next).run T.P w) k
    exact res_b ⟨v, w', h1, h2⟩
  · cases hr

theorem call_res {f : Nat} {args : List Value} {rs : List RT} {kk : Value → F} {first cap : Array Value} (hc : callable P f)
    (h : Calls P f (first ++ args.toArray ++ cap) w fun e w' => ∃ x, e = .returned (resV rs x) ∧ ap (allSh rs) (lam (allSh rs) fun x => kk (resV rs x)) x w')
    {ar : Array Operand} {x : Operand} {ats : Array Nat} (ho : o.op = .call { callee := .value x, args := ar, argTypes := ats }) (hx : a.eval x = .func (.func f) first cap) (hv : ar.map a.eval = args.toArray) :
    OpRes P ((execOp a.eval o).run P w) kk := by
  obtain ⟨fn, hfn, hn, hb⟩ := hc
  refine .inr (.inr ⟨f, first ++ args.toArray ++ cap, w, ?_, h.mono ?_⟩)
  · have hn' : ¬ fn.name = "runtime.NumGoroutine" := by simpa using hn
    have hb' : ¬ fn.body = none := by cases h : fn.body <;> simp [h] at hb ⊢
    simp [execOp, ho, Go.resolve, hx, Deferred.ofValue, invoke, callFunc, hfn, hn', hb', hv]
  · rintro e w' ⟨y, rfl, hk⟩
    rw [ap_lam] at hk
    exact ⟨_, rfl, hk⟩
theorem map_evs (hA : Agr n a ρ) {args : Array Operand} {vs : List Value} (h : evs ρ args.toList = some vs) : args.map a.eval = vs.toArray := by
  rw [← evs_ok hA h, ← Array.toList_map]
theorem op_call (hT : TabOk T) {c : Call} (ho : o.op = .call c) (hr : resolve T ρ o.type o.op = some p) (hA : Agr n a ρ) (hf : p.f T.P k w) : OpRes T.P ((execOp a.eval o).run T.P w) k := by
  obtain ⟨cal, args, ats⟩ := c
  simp only [resolve, ho] at hr
  split at hr
  · rename_i b vs hvs
    exact op_builtin hT ho (map_evs hA hvs) hr hf
  · rename_i f vs hvs
    split at hr
    · rename_i rs hrs
      cases hr
      have h : Calls T.P f (#[] ++ vs.toArray ++ #[]) w fun e w' => ∃ x, e = .returned (resV rs x) ∧ ap (allSh rs) (lam (allSh rs) fun x => k (resV rs x)) x w' := by
        simp only [List.append_toArray, List.nil_append, List.append_nil]
        exact hf
      exact call_res (hT.fr f rs hrs) h ho rfl (map_evs hA hvs)
    · cases hr
  · rename_i x vs hh hvs
    split at hr
    · rename_i fv i hfv hi
      cases hr
      obtain ⟨f, first, cap, rfl, hcal, h⟩ := hf
      exact call_res hcal h ho (ev_ok hA hfv) (map_evs hA hvs)
    · cases hr
  · cases hr

/-! ### Conversions, and what is left to the model -/
theorem op_convert (hT : TabOk T) {s d : Nat} {x : Operand} (ho : o.op = .convert s d x) (hr : resolve T ρ o.type o.op = some p) (hA : Agr n a ρ) (hf : p.f T.P k w) : OpRes T.P ((execOp a.eval o).run T.P w) k := by
  simp only [resolve, ho] at hr
  have e : execOp a.eval o = (do pure (Next.value (← convert s d (a.eval x)))) := by simp only [execOp, ho]
  rw [e]
  split at hr
  · rename_i ks _ _ _ _ kd _ _ _ _ kx m h1 h2 hx
    cases hr
    obtain ⟨d1, hd1, hu1⟩ := hT.und h1
    obtain ⟨d2, hd2, hu2⟩ := hT.und h2
    obtain rfl := of_int hu1
    obtain rfl := of_int hu2
    refine res_v (v := _) ?_ hf
    rw [ev_ok hA hx]
    simp [convert, run_underlying hd1, run_underlying hd2, Conv.intToInt]
  · rename_i e _ _ _ _ _ _ _ _ aa l c h1 h2 hx
    split at hr
    · rename_i h3
      cases hr
      obtain ⟨d1, hd1, hu1⟩ := hT.und h1
      obtain ⟨d2, hd2, hu2⟩ := hT.und h2
      obtain ⟨d3, hd3, hu3⟩ := hT.und h3
      obtain rfl := of_sl hu1
      obtain rfl := of_tx hu2
      obtain rfl := of_int hu3
      obtain ⟨y, hy, hc, hk⟩ := hf
      refine res_v (v := _) ?_ hk
      rw [ev_ok hA hx]
      by_cases h0 : l = 0
      · subst h0
        have hy0 : y = ByteArray.empty := ByteArray.ext (Array.eq_empty_of_size_eq_zero hy)
        subst hy0
        cases aa with
        | none => exact run_convert_bytes_nil _ _ _ hd1 hd3 _ _ _ hd2
        | some ad => exact run_convert_bytes_back w _ _ _ ad c [] hd1 hd3 hd2 (fun j hj => by simp at hj)
      · obtain ⟨b, oo, hb, hcc⟩ := hc h0
        have hb' : aa = some (A b oo) := hb
        subst hb'
        have hlen : y.data.toList.length = l := by simpa using hy
        have := run_convert_bytes_back w _ _ _ (A b oo) c y.data.toList hd1 hd3 hd2 (fun j hj => by
          rw [A_add]
          exact hcc j _ (by simp [List.getElem?_eq_getElem hj]))
        rw [hlen] at this
        exact this
    · cases hr
  · rename_i _ _ _ _ e _ _ _ _ y h1 h2 hx
    split at hr
    · rename_i h3
      cases hr
      obtain ⟨d1, hd1, hu1⟩ := hT.und h1
      obtain ⟨d2, hd2, hu2⟩ := hT.und h2
      obtain ⟨d3, hd3, hu3⟩ := hT.und h3
      obtain rfl := of_tx hu1
      obtain rfl := of_sl hu2
      obtain rfl := of_int hu3
      rw [ev_ok hA hx]
      exact res_v (run_bytes_of_string w _ _ _ y hd1 hd2 hd3) (hf _ (Nat.le_add_right _ _))
    · cases hr
  · rename_i v h1 h2 hx
    cases hr
    rw [ev_ok hA hx]
    exact res_b (raw_ok hf)
  · cases hr
theorem rawu_ok {m : Sem Unit} {kk : Value → F} (hf : (Prim.rawu m).f P kk w) : ∃ w', m.run P w = .ok () w' ∧ kk undef w' := hf

theorem op_ok (hT : TabOk T) (hs : isSel o.op = false) (hr : resolve T ρ o.type o.op = some p) (hA : Agr n a ρ) (hf : p.f T.P k w) : OpRes T.P ((execOp a.eval o).run T.P w) k := by
  cases ho : o.op with
  | move x => exact op_move (.inl ho) hr hA hf
  | assign x => exact op_move (.inr ho) hr hA hf
  | pick c x y => exact op_pick ho hr hA hf
  | alloc t => exact op_alloc hT ho hr hf
  | box t x => exact op_box ho hr hA hf
  | build t ps => exact op_build hT ho hr hA hf
  | buildSlice t m ps => exact op_buildSlice hT ho hr hA hf
  | load t x => exact op_load hT ho hr hA hf
  | store t x y => exact op_store hT ho hr hA hf
  | nilCheck x => exact op_nilCheck ho hr hA hf
  | binOp op t x y u => exact op_binOp hT ho hr hA hf
  | unOp op t x => exact op_unOp ho hr hA hf
  | convert s d x => exact op_convert hT ho hr hA hf
  | makeFunc fn fs cs => exact op_makeFunc ho hr hA hf
  | makeInterface t x =>
    simp only [resolve, ho] at hr
    split at hr
    · rename_i v hv
      cases hr
      simp only [execOp, ho, ev_ok hA hv]
      exact res_b (raw_ok hf)
    · cases hr
  | makeMap t r =>
    cases r with
    | none =>
      simp only [resolve, ho] at hr
      cases hr
      simp only [execOp, ho]
      exact res_b (raw_ok hf)
    | some x => simp only [resolve, ho] at hr; cases hr
  | makeChan t x =>
    simp only [resolve, ho] at hr
    split at hr
    · rename_i v hv
      cases hr
      simp only [execOp, ho, ev_ok hA hv]
      exact res_b (raw_ok hf)
    · cases hr
  | makeSlice t l c => exact op_makeSlice hT ho hr hA hf
  | slice t x lo hi mx =>
    cases mx with
    | none => exact op_slice hT ho hr hA hf
    | some m => simp only [resolve, ho] at hr; cases hr
  | fieldAddr t x f => exact op_fieldAddr hT ho hr hA hf
  | field t x f => exact op_field hT ho hr hA hf
  | indexAddr t x i => exact op_indexAddr hT ho hr hA hf
  | index t x i => exact op_index hT ho hr hA hf
  | extract x i => exact op_extract ho hr hA hf
  | lookup t x i ok =>
    simp only [resolve, ho] at hr
    split at hr
    · rename_i h1 hx hi
      split at hr
      · cases hr
        simp only [execOp, ho, ev_ok hA hx, ev_ok hA hi]
        exact res_b (raw_ok hf)
      · cases hr
    · cases hr
  | mapUpdate t m x y =>
    simp only [resolve, ho] at hr
    split at hr
    · rename_i h1 h2 h3
      cases hr
      simp only [execOp, ho, ev_ok hA h1, ev_ok hA h2, ev_ok hA h3]
      obtain ⟨w', h4, h5⟩ := rawu_ok hf
      exact res_u h4 h5
    · cases hr
  | mapEntry t m x =>
    simp only [resolve, ho] at hr
    split at hr
    · rename_i h1 hx hi
      split at hr
      · cases hr
        simp only [execOp, ho, ev_ok hA hx, ev_ok hA hi]
        exact res_b (raw_ok hf)
      · cases hr
    · cases hr
  | entryStore t m x y =>
    simp only [resolve, ho] at hr
    split at hr
    · rename_i h1 h2 h3
      cases hr
      simp only [execOp, ho, ev_ok hA h1, ev_ok hA h2, ev_ok hA h3]
      obtain ⟨w', h4, h5⟩ := rawu_ok hf
      exact res_u h4 h5
    · cases hr
  | range t x =>
    simp only [resolve, ho] at hr
    split at hr
    · rename_i v hv
      cases hr
      simp only [execOp, ho, ev_ok hA hv]
      exact res_b (raw_ok hf)
    · cases hr
  | next it b =>
    cases b with
    | false =>
      simp only [resolve, ho] at hr
      split at hr
      · rename_i v hv
        cases hr
        simp only [execOp, ho, ev_ok hA hv]
        rcases hf with ⟨w', h1, h2⟩ | ⟨x, w', h1, h2⟩
        · exact res_v h1 h2
        · rw [ap_lam] at h2
          exact res_v h1 h2
      · cases hr
    | true => simp only [resolve, ho] at hr; cases hr
  | entry it =>
    simp only [resolve, ho] at hr
    split at hr
    · rename_i v hv
      cases hr
      simp only [execOp, ho, ev_ok hA hv]
      exact res_b (raw_ok hf)
    · cases hr
  | call c => exact op_call hT ho hr hA hf
  | select cs b => rw [ho] at hs; cases hs
  | _ => simp only [resolve, ho] at hr; cases hr
end Go.Eng
namespace Go.Eng
open Go
variable {P : Program} {T : Tab} {n : Nat} {a : Act} {ρ : Env} {w : World} {o : Oper} {k : Value → F} {p : Prim}

/-- From here the frame's region comes to an end at one of these. -/
def Ops (P : Program) (ops : Array Oper) (Q : Act → World → Prop) (l : List Nat) (a : Act) (w : World) : Prop :=
  ∀ (b : Frame) (k : List Item) (cs : List Frame), b.kind = .normal → ∃ a' w', Q a' w' ∧ Steps P (lone (b.at a (.inRegion ops l :: k)) cs w) (lone (b.at a' k) cs w')
variable {ops : Array Oper} {Q : Act → World → Prop} {i : Nat} {rest : List Nat}

theorem ops_nil (h : Q a w) : Ops P ops Q [] a w := fun _ _ _ _ => ⟨a, w, h, .one step_region_end⟩
theorem ops_to {a' : Act} {w' : World} (h : Ops P ops Q rest a' w')
    (hs : ∀ (b : Frame) (k : List Item) (cs : List Frame), b.kind = .normal → Steps P (lone (b.at a (.inRegion ops (i :: rest) :: k)) cs w) (lone (b.at a' (.inRegion ops rest :: k)) cs w')) :
    Ops P ops Q (i :: rest) a w := by
  intro b k cs hb
  obtain ⟨a2, w2, hq, h2⟩ := h b k cs hb
  exact ⟨a2, w2, hq, (hs b k cs hb).trans h2⟩
theorem ops_skip (ho : ops[i]? = some o) (hw : Region.wanted o (yielded ops a.tmps) = false) (h : Ops P ops Q rest (a.put o.dst undef) w) : Ops P ops Q (i :: rest) a w := by
  refine ops_to h (fun b k cs _ => ?_)
  have := step_op_skip (P := P) (b := b) (a := a) (k := k) (cs := cs) (w := w) (ops := ops) (i := i) (rest := rest) (by simp [ho, hw])
  simp only [ho, Option.bind_some] at this
  exact .one this
theorem ops_step (ho : ops[i]? = some o) (hw : Region.wanted o (yielded ops a.tmps) = true) (hr : OpRes P ((execOp a.eval o).run P w) k)
    (h : ∀ v w', k v w' → Ops P ops Q rest (a.put o.dst v) w') : Ops P ops Q (i :: rest) a w := by
  have hfin : ∀ (b : Frame) (kk : List Item) v, (b.at a (.inRegion ops (i :: rest) :: kk)).finish v = b.at (a.put o.dst v) (.inRegion ops rest :: kk) := by
    intro b kk v; rw [Frame.finish_at, ho]; rfl
  rcases hr with ⟨v, w', hr, hk⟩ | ⟨w', hr, hk⟩ | ⟨f, args, w', hr, hc⟩
  · refine ops_to (h v w' hk) (fun b kk cs _ => .one (step_lone_go ?_))
    rw [stepG_op ho hw, ← hfin]; simp [stepG.apply, hr]
  · refine ops_to (h undef w' hk) (fun b kk cs _ => .one (step_lone_go ?_))
    rw [stepG_op ho hw, ← hfin]; simp [stepG.apply, hr]
  · intro b kk cs hb
    obtain ⟨e, w2, fr, ⟨v, rfl, hkv⟩, hcome, _, hleave⟩ := hc (b.at a (.inRegion ops (i :: rest) :: kk) :: cs)
    obtain ⟨a3, w3, hq, h3⟩ := h v w2 hkv b kk cs hb
    refine ⟨a3, w3, hq, .head ?_ (hcome.trans (.head (step_leave_returned hleave) ?_))⟩
    · exact step_lone_go (by rw [stepG_op ho hw]; simp [stepG.apply, hr, Frame.at])
    · rw [hfin]; exact h3

/-- What no operation of the region writes is as it was. -/
def KeepO (ops : Array Oper) (a0 a : Act) : Prop := ∀ t, (∀ o ∈ ops.toList, o.dst ≠ some t) → a.tmps.getD t undef = a0.tmps.getD t undef
theorem keep_put {a0 : Act} {v : Value} (ho : ops[i]? = some o) (h : KeepO ops a0 a) : KeepO ops a0 (a.put o.dst v) := by
  intro t ht
  rw [← h t ht]
  have hne := ht o (List.mem_of_getElem? (i := i) (by simpa using ho))
  unfold Act.put
  cases hd : o.dst with
  | none => rfl
  | some d =>
    have : d ≠ t := fun e => hne (by rw [hd, e])
    simp only [Array.getD_eq_getD_getElem?]
    rw [Array.getElem?_setIfInBounds_ne this]
/-! ### Guards -/
theorem get_of_getD {xs : Array Value} {t : Nat} {v : Value} (h : xs.getD t undef = v) (hv : v ≠ undef ∨ t < xs.size) : xs[t]? = some v := by
  rw [← h]
  by_cases ht : t < xs.size
  · simp [ht]
  · rcases hv with hv | hv
    · exact absurd (by rw [← h]; simp [ht]) hv
    · exact absurd hv ht
theorem yield_bool (hA : Agr n a ρ) {j d : Nat} {c : Bool} (hd : dstOf ops.toList j = some d) (hv : ρ d = some (.bool c)) : yielded ops a.tmps j = some c := by
  have h1 := get_of_getD (hA.val d _ hv) (.inl (by simp [undef]))
  unfold dstOf at hd
  simp only [Array.getElem?_toList] at hd
  split at hd
  · rename_i o2 ho2
    simp [yielded, ho2, hd, h1]
  · cases hd
theorem yield_tuple (hA : Agr n a ρ) {j d : Nat} {vs : Array Value} (hd : dstOf ops.toList j = some d) (hv : ρ d = some (.tuple vs)) : yielded ops a.tmps j = none := by
  have h1 := hA.val d _ hv
  unfold dstOf at hd
  simp only [Array.getElem?_toList] at hd
  split at hd
  · rename_i o2 ho2
    simp only [yielded, ho2, Option.bind_some, hd]
    by_cases ht : d < a.tmps.size
    · have : a.tmps[d]? = some (.tuple vs) := by rw [← h1]; simp [ht]
      simp [this]
    · simp [ht]
  · cases hd
theorem splitB_ok {k : Value → F} {v : Value} (h : splitB k v w) : k v w := by
  cases v <;> simp only [splitB] at h <;> try exact h
  rename_i c
  cases c <;> exact h
theorem agr_put (hA : Agr n a ρ) {dst : Option Nat} {v : Value} (h : okDst n dst = true ∨ v = undef) : Agr n (a.put dst v) (putd ρ dst (some v)) := by
  cases dst with
  | none => exact hA
  | some d =>
    refine ⟨by simp [Act.put, hA.size], by simp [Act.put, hA.defers], ?_⟩
    intro t u hu
    simp only [putd, put] at hu
    simp only [Act.put]
    by_cases htd : t = d
    · subst htd
      simp at hu
      subst hu
      by_cases ht : t < a.tmps.size
      · simp [Array.getD_eq_getD_getElem?, ht]
      · rcases h with h | h
        · simp [okDst, Nat.blt] at h
          rw [hA.size] at ht
          omega
        · subst h
          simp [Array.getD_eq_getD_getElem?, ht]
    · have : Nat.beq t d = false := by
        cases hb : Nat.beq t d with
        | false => rfl
        | true => exact absurd (Nat.eq_of_beq_eq_true hb) htd
      rw [this] at hu
      have := hA.val t u hu
      simp only [Array.getD_eq_getD_getElem?] at this ⊢
      rw [Array.getElem?_setIfInBounds_ne (Ne.symm htd)]
      exact this
/-- What one operation's formula gives. -/
theorem opF_ok {q : Bool} {k : Value → Option F → F} (hA : Agr n a ρ) (hf : opF T n ops.toList i o ρ q k w) :
    (Region.wanted o (yielded ops a.tmps) = true ∧ okDst n o.dst = true ∧
      ∃ p, resolve T ρ o.type o.op = some p ∧ p.f T.P (bif guarded ops.toList i then splitB (fun v => k v (p.again v)) else fun v => k v (p.again v)) w) ∨
    (Region.wanted o (yielded ops a.tmps) = false ∧ k undef none w) := by
  have hgo : goF T n ops.toList i o ρ q k w → okDst n o.dst = true ∧
      ∃ p, resolve T ρ o.type o.op = some p ∧ p.f T.P (bif guarded ops.toList i then splitB (fun v => k v (p.again v)) else fun v => k v (p.again v)) w := by
    intro h
    unfold goF at h
    cases hp : resolve T ρ o.type o.op with
    | some p =>
      rw [hp] at h
      cases hd : okDst n o.dst with
      | true =>
        cases hq : (q && p.eff) with
        | true => simp only [hd, hq] at h; exact h.elim
        | false => simp only [hd, hq] at h; exact ⟨rfl, p, rfl, h⟩
      | false => simp only [hd, Bool.false_and] at h; exact h.elim
    | none => rw [hp] at h; exact h.elim
  unfold opF at hf
  cases hg : o.guard with
  | none =>
    rw [hg] at hf
    exact .inl ⟨by simp [Region.wanted, hg], hgo hf⟩
  | some g =>
    obtain ⟨j, want⟩ := g
    rw [hg] at hf
    simp only at hf
    cases hd : dstOf ops.toList j with
    | none => rw [hd] at hf; exact hf.elim
    | some d =>
      rw [hd] at hf
      simp only at hf
      cases hc : ρ d with
      | none => rw [hc] at hf; exact hf.elim
      | some v =>
        rw [hc] at hf
        cases v with
        | bool c =>
          have hy := yield_bool hA hd hc
          cases hcw : (c == want) with
          | true => simp only [hcw] at hf; exact .inl ⟨by simp [Region.wanted, hg, hy]; simpa using hcw, hgo hf⟩
          | false => simp only [hcw] at hf; exact .inr ⟨by simp [Region.wanted, hg, hy]; simpa using hcw, hf⟩
        | tuple vs => exact .inr ⟨by simp [Region.wanted, hg, yield_tuple hA hd hc], hf⟩
        | _ => exact hf.elim
end Go.Eng
namespace Go.Eng
open Go Go.Conc
variable {P : Program} {T : Tab} {n : Nat} {a : Act} {ρ : Env} {w : World} {o : Oper} {k : Value → F} {p : Prim}
variable {ops : Array Oper} {i : Nat} {rest : List Nat}

def rcase' (r : Option Nat) : CommCase := { chan := .chan r, send := none, zero := .int .i64 0 }
def scase' (r : Option Nat) (v : Value) : CommCase := { chan := .chan r, send := some v, zero := .int .i64 0 }
theorem bifSplit {g : Bool} {k : Value → F} {v : Value} (h : (bif g then splitB k else k) v w) : k v w := by
  cases g
  · exact h
  · exact splitB_ok h
/-- A select of one case and a default. -/
theorem ops_sel (hT : TabOk T) {Q : Act → World → Prop} (ho : ops[i]? = some o) (hsel : isSel o.op = true) (hw : Region.wanted o (yielded ops a.tmps) = true)
    (hr : resolve T ρ o.type o.op = some p) (hA : Agr n a ρ) (hf : p.f T.P k w) (h : ∀ v w', k v w' → Ops T.P ops Q rest (a.put o.dst v) w') : Ops T.P ops Q (i :: rest) a w := by
  cases hop : o.op with
  | select cases' bl =>
    cases bl with
    | true => simp only [resolve, hop] at hr; cases hr
    | false =>
      simp only [resolve, hop] at hr
      split at hr
      · rename_i c hc
        have hcs : cases' = #[c] := by rw [← Array.toArray_toList (xs := cases'), hc]
        subst hcs
        split at hr
        · rename_i hti
          have hz : ∀ w, (zeroValue c.elem).run T.P w = .ok (.int .i64 0) w := fun w => by
            obtain ⟨info, d, hi, _, _, _, _, z, hz1, hz2⟩ := hT.ti _ _ hti
            have h1 := hT.nz _ _ _ _ hti hi hz1 rfl
            rw [h1] at hz2
            have : z = .int .i64 0 := by simpa using hz2
            simp [zeroValue, typeInfo, hi, hz1, this]
          have hfin : ∀ (b : Frame) (kk : List Item) v, (b.at a (.inRegion ops (i :: rest) :: kk)).finish v = b.at (a.put o.dst v) (.inRegion ops rest :: kk) := by
            intro b kk v; rw [Frame.finish_at, ho]; rfl
          split at hr
          · rename_i r hch hsd
            cases hr
            have hrun : (execOp a.eval o).run T.P w = .ok (.comm #[rcase' r] false .select) w := by
              simp [execOp, hop, ev_ok hA hch, hsd, hz, rcase']
            obtain ⟨b0, cap, buf, s, cc, rfl, hh, hrest⟩ := hf
            rcases hrest with ⟨rfl, hk⟩ | ⟨x, rest', rfl, hk⟩
            · refine ops_to (h _ _ hk) (fun b kk cs hb => .one ?_)
              have hg := Go.Conc.stepG_comm (main := true) (rest := rest) (b := b) (k := kk) (cs := cs) ho hw (by rw [hb]; decide) hrun
              have := step_lone_select_default hg hh
              rw [hfin] at this
              exact this
            · refine ops_to (h _ _ hk) (fun b kk cs hb => .one ?_)
              have hg := Go.Conc.stepG_comm (main := true) (rest := rest) (b := b) (k := kk) (cs := cs) ho hw (by rw [hb]; decide) hrun
              have := step_lone_select_recv_buf hg hh (by simp)
              rw [hfin] at this
              simp [World.setChan, goInt] at this
              exact this
          · rename_i r x hch hsd
            split at hr
            · rename_i v hv
              cases hr
              have hrun : (execOp a.eval o).run T.P w = .ok (.comm #[scase' r v] false .select) w := by
                simp [execOp, hop, ev_ok hA hch, hsd, ev_ok hA hv, hz, scase']
              obtain ⟨b0, cap, buf, s, cc, rfl, hh, hrest⟩ := hf
              rcases hrest with ⟨hfull, hk⟩ | ⟨hroom, hk⟩
              · refine ops_to (h _ _ hk) (fun b kk cs hb => .one ?_)
                have hg := Go.Conc.stepG_comm (main := true) (rest := rest) (b := b) (k := kk) (cs := cs) ho hw (by rw [hb]; decide) hrun
                have := step_lone_select_send_full hg hh hfull
                rw [hfin] at this
                exact this
              · refine ops_to (h _ _ hk) (fun b kk cs hb => .one ?_)
                have hg := Go.Conc.stepG_comm (main := true) (rest := rest) (b := b) (k := kk) (cs := cs) ho hw (by rw [hb]; decide) hrun
                have := step_lone_select_send_room hg hh hroom
                rw [hfin] at this
                exact this
            · cases hr
          · cases hr
        · cases hr
      · cases hr
  | _ => rw [hop] at hsel; cases hsel
theorem runOps_ok (hT : TabOk T) {K : Env → F} {a0 : Act} : ∀ (l : List Oper) (i : Nat) (ρ : Env) (a : Act) (w : World), (∀ j, l[j]? = ops[i + j]?) →
    runOps T n ops.toList l i ρ K w → Agr n a ρ → KeepO ops a0 a → Ops T.P ops (fun a' w' => (∃ ρ', K ρ' w' ∧ Agr n a' ρ') ∧ KeepO ops a0 a') (List.range' i l.length) a w
  | [], _, ρ, _, _, _, h, hA, hK => ops_nil ⟨⟨ρ, h, hA⟩, hK⟩
  | o :: l, i, ρ, a, w, hl, h, hA, hK => by
    have ho : ops[i]? = some o := by simpa using (hl 0).symm
    have hl' : ∀ j, l[j]? = ops[i + 1 + j]? := fun j => by have := hl (j + 1); simpa [Nat.add_assoc, Nat.add_comm 1 j] using this
    simp only [List.length_cons, List.range'_succ]
    rcases opF_ok hA h with ⟨hw, hd, p, hp, hf⟩ | ⟨hw, hk⟩
    · cases hs : isSel o.op with
      | false =>
        refine ops_step ho hw (op_ok hT hs hp hA hf) (fun v w' hv => ?_)
        exact runOps_ok hT l (i + 1) _ _ _ hl' (bifSplit hv) (agr_put hA (.inl hd)) (keep_put ho hK)
      | true =>
        refine ops_sel hT ho hs hw hp hA hf (fun v w' hv => ?_)
        exact runOps_ok hT l (i + 1) _ _ _ hl' (bifSplit hv) (agr_put hA (.inl hd)) (keep_put ho hK)
    · exact ops_skip ho hw (runOps_ok hT l (i + 1) _ _ _ hl' hk (agr_put hA (.inr rfl)) (keep_put ho hK))
theorem region_ok (hT : TabOk T) {id : Nat} {K : Env → F} (h : runOps T n ops.toList ops.toList 0 ρ K w) (hA : Agr n a ρ) (b : Frame) (k : List Item) (cs : List Frame) (hb : b.kind = .normal) :
    ∃ a' w', ((∃ ρ', K ρ' w' ∧ Agr n a' ρ') ∧ KeepO ops a a') ∧ Steps T.P (lone (b.at a (.code (.region id ops false) :: k)) cs w) (lone (b.at a' k) cs w') := by
  have := runOps_ok hT ops.toList 0 ρ a w (fun j => by simp) h hA (fun _ _ => rfl)
  rw [Array.length_toList, ← List.range_eq_range'] at this
  obtain ⟨a', w', hq, hs⟩ := this b k cs hb
  exact ⟨a', w', hq, .head step_region hs⟩
end Go.Eng
namespace Go.Eng
open Go
variable {P : Program} {T : Tab} {n : Nat} {a : Act} {ρ ρ' : Env} {w : World} {o : Oper} {k : Value → F} {p : Prim}
variable {ops : Array Oper} {i : Nat}

/-! ### A primitive that only reads, and what follows it -/
theorem br_mono {c : Bool} {x y x' y' : F} (h : br c x y w) (hx : x w → x' w) (hy : y w → y' w) : br c x' y' w := by
  cases c
  · exact hy h
  · exact hx h
theorem ldn_mono {k k' : List Value → F} (hk : ∀ vs w, k vs w → k' vs w) : ∀ (l : List Sh) (b o : Nat) (acc : List Value) (w : World), ldn b o l acc k w → ldn b o l acc k' w
  | [], _, _, _, _, h => hk _ _ h
  | _ :: l, b, o, _, w, ⟨x, hx, h⟩ => ⟨x, hx, ldn_mono hk l b (o + 1) _ w h⟩
theorem ap_mono {w : World} : ∀ (l : List Sh) (f g : HL l → F) (x : HL l), (∀ x, f x w → g x w) → ap l (lam l f) x w → ap l (lam l g) x w := by
  intro l f g x h hx
  rw [ap_lam] at hx ⊢
  exact h x hx
theorem Prim.mono {k k' : Value → F} (hk : ∀ v w, k v w → k' v w) (h : p.f P k w) : p.f P k' w := by
  cases p with
  | val v => exact hk _ _ h
  | chk c v => exact ⟨h.1, hk _ _ h.2⟩
  | pick c x y =>
    refine br_mono h ?_ ?_
    · cases x <;> first | exact hk _ _ | exact id
    · cases y <;> first | exact hk _ _ | exact id
  | nn q => obtain ⟨b, o, h1, h2⟩ := h; exact ⟨b, o, h1, hk _ _ h2⟩
  | ix base len i size => obtain ⟨b, o, h1, h2, h3, h4⟩ := h; exact ⟨b, o, h1, h2, h3, hk _ _ h4⟩
  | rd g l b o =>
    cases g with
    | true => exact ldn_mono (fun vs w => hk _ w) l b o [] w h
    | false =>
      cases l with
      | nil => exact h.elim
      | cons s l =>
        cases l with
        | nil => obtain ⟨x, h1, h2⟩ := h; exact ⟨x, h1, hk _ _ h2⟩
        | cons _ _ => exact h.elim
  | bstr s => obtain ⟨x, h1, h2, h3⟩ := h; exact ⟨x, h1, h2, hk _ _ h3⟩
  | sts b o vs => exact ⟨h.1, h.2.1, hk _ _ h.2.2⟩
  | nw cells ty => exact hk _ _ h
  | nws cells ty m => exact hk _ _ h
  | mks size bytes ty zero m c => obtain ⟨h1, h2, h3, h4, h5⟩ := h; exact ⟨h1, h2, h3, h4, hk _ _ h5⟩
  | sbts ty x => exact fun c hc => hk _ _ (h c hc)
  | apd size bytes ty zero s src =>
    obtain ⟨new, h1, h2, h3, h4⟩ := h
    refine ⟨new, h1, h2, h3, ?_⟩
    rcases h4 with ⟨h5, h6⟩ | ⟨h5, h6, h7, old, h8, h9, h10⟩
    · refine .inl ⟨h5, ?_⟩
      rcases h6 with ⟨h6, h7⟩ | ⟨b, o, h6, h7, h8⟩
      · exact .inl ⟨h6, hk _ _ h7⟩
      · exact .inr ⟨b, o, h6, h7, hk _ _ h8⟩
    · exact .inr ⟨h5, h6, h7, old, h8, h9, fun c hc => hk _ _ (h10 c hc)⟩
  | apz size bytes ty zero s m =>
    obtain ⟨h1, h2, h3, h4⟩ := h
    refine ⟨h1, h2, h3, ?_⟩
    rcases h4 with ⟨h5, h6⟩ | ⟨h5, h6, h7, old, h8, h9, h10⟩
    · refine .inl ⟨h5, ?_⟩
      rcases h6 with ⟨h6, h7⟩ | ⟨b, o, h6, h7, h8, h9, h10⟩
      · exact .inl ⟨h6, hk _ _ h7⟩
      · exact .inr ⟨b, o, h6, h7, h8, h9, hk _ _ h10⟩
    · exact .inr ⟨h5, h6, h7, old, h8, h9, fun c hc => hk _ _ (h10 c hc)⟩
  | cpy size d src =>
    obtain ⟨new, h1, h2, h3, h4⟩ := h
    refine ⟨new, h1, h2, h3, ?_⟩
    rcases h4 with ⟨h5, h6⟩ | ⟨b, o, h5, h6, h7⟩
    · exact .inl ⟨h5, hk _ _ h6⟩
    · exact .inr ⟨b, o, h5, h6, hk _ _ h7⟩
  | call f args rs =>
    refine Calls.mono h ?_
    rintro e w' ⟨x, h1, h2⟩
    exact ⟨x, h1, ap_mono _ _ _ _ (fun x => hk _ w') h2⟩
  | callv fv args rs =>
    obtain ⟨f, first, cap, h1, h2, h3⟩ := h
    refine ⟨f, first, cap, h1, h2, h3.mono ?_⟩
    rintro e w' ⟨x, h1, h2⟩
    exact ⟨x, h1, ap_mono _ _ _ _ (fun x => hk _ w') h2⟩
  | raw m t l => obtain ⟨x, w', h1, h2⟩ := h; exact ⟨x, w', h1, ap_mono _ _ _ _ (fun x => hk _ w') h2⟩
  | rawu m => obtain ⟨w', h1, h2⟩ := h; exact ⟨w', h1, hk _ _ h2⟩
  | next m l =>
    rcases h with ⟨w', h1, h2⟩ | ⟨x, w', h1, h2⟩
    · exact .inl ⟨w', h1, hk _ _ h2⟩
    · exact .inr ⟨x, w', h1, ap_mono _ _ _ _ (fun x => hk _ w') h2⟩
  | selR r =>
    obtain ⟨b, c, buf, s, cc, h1, h2, h3⟩ := h
    refine ⟨b, c, buf, s, cc, h1, h2, ?_⟩
    rcases h3 with ⟨h3, h4⟩ | ⟨x, rest, h3, h4⟩
    · exact .inl ⟨h3, hk _ _ h4⟩
    · exact .inr ⟨x, rest, h3, hk _ _ h4⟩
  | selS r v =>
    obtain ⟨b, c, buf, s, cc, h1, h2, h3⟩ := h
    refine ⟨b, c, buf, s, cc, h1, h2, ?_⟩
    rcases h3 with ⟨h3, h4⟩ | ⟨h3, h4⟩
    · exact .inl ⟨h3, hk _ _ h4⟩
    · exact .inr ⟨h3, hk _ _ h4⟩
theorem ldn_ne : ∀ (l : List Sh) (b o : Nat) (acc : List Value) (k : List Value → F) (w : World), ldn b o l acc k w →
    ∃ vs, k (acc.reverse ++ vs) w ∧ cellsAt w b o vs ∧ ∀ (w' : World) (k' : List Value → F), cellsAt w' b o vs → k' (acc.reverse ++ vs) w' → ldn b o l acc k' w'
  | [], b, o, acc, k, w, h => ⟨[], by simpa [ldn] using h, cellsAt_nil, fun w' k' _ h' => by simpa [ldn] using h'⟩
  | s :: l, b, o, acc, k, w, ⟨x, hx, h⟩ => by
    obtain ⟨vs, h1, h0, h2⟩ := ldn_ne l b (o + 1) (s.mk x :: acc) k w h
    refine ⟨s.mk x :: vs, by simpa using h1, ?_, fun w' k' hc hk' => ⟨x, ?_, h2 w' k' ?_ (by simpa using hk')⟩⟩
    · intro j v hj
      cases j with
      | zero => simp at hj; subst hj; simpa using hx
      | succ j => rw [show o + (j + 1) = o + 1 + j from by omega]; exact h0 j v (by simpa using hj)
    · have := hc 0 (s.mk x) rfl; simpa using this
    · intro j v hj
      have := hc (j + 1) v (by simpa using hj)
      rw [show o + 1 + j = o + (j + 1) from by omega]; exact this
/-- What a reading primitive yields it yields again, wherever its cells are as they were. -/
theorem Prim.ne (he : p.eff = false) (h : p.f P k w) : ∃ v, k v w ∧ (∀ f, p.again v = some f → f w) ∧ ∀ (w' : World) (k' : Value → F), (∀ f, p.again v = some f → f w') → k' v w' → p.f P k' w' := by
  cases p with
  | val v => exact ⟨v, h, nofun, fun w' k' _ h' => h'⟩
  | chk c v => exact ⟨v, h.2, nofun, fun w' k' _ h' => ⟨h.1, h'⟩⟩
  | pick c x y =>
    rcases br_ok h with ⟨rfl, h⟩ | ⟨rfl, h⟩
    · obtain ⟨v, rfl, hv⟩ := optF_ok h
      exact ⟨v, hv, nofun, fun w' k' _ h' => h'⟩
    · obtain ⟨v, rfl, hv⟩ := optF_ok h
      exact ⟨v, hv, nofun, fun w' k' _ h' => h'⟩
  | nn q => obtain ⟨b, o, h1, h2⟩ := h; exact ⟨_, h2, nofun, fun w' k' _ h' => ⟨b, o, h1, h'⟩⟩
  | ix base len i size => obtain ⟨b, o, h1, h2, h3, h4⟩ := h; exact ⟨_, h4, nofun, fun w' k' _ h' => ⟨b, o, h1, h2, h3, h'⟩⟩
  | rd g l b o =>
    cases g with
    | true =>
      obtain ⟨vs, h1, h0, h2⟩ := ldn_ne _ _ _ _ _ _ h
      refine ⟨.agg vs.toArray, by simpa using h1, fun f hf => by cases hf; exact h0, fun w' k' ha h' => h2 w' _ (ha _ rfl) (by simpa using h')⟩
    | false =>
      cases l with
      | nil => exact h.elim
      | cons s l =>
        cases l with
        | nil =>
          obtain ⟨x, h1, h2⟩ := h
          exact ⟨s.mk x, h2, fun f hf => by cases hf; exact h1, fun w' k' ha h' => ⟨x, ha _ rfl, h'⟩⟩
        | cons _ _ => exact h.elim
  | bstr s =>
    obtain ⟨x, h1, h2, h3⟩ := h
    refine ⟨.string x, h3, fun f hf => by cases hf; exact ⟨x, h1, h2, rfl⟩, fun w' k' ha h' => ?_⟩
    obtain ⟨y, g1, g2, g3⟩ := ha _ rfl
    have g3 : y = x := g3
    subst g3
    exact ⟨y, g1, g2, h'⟩
  | _ => cases he

/-! ### Environments -/
theorem mem_tmpsOf {t : Nat} : ∀ {l : List Operand}, Operand.tmp t ∈ l → t ∈ tmpsOf l
  | x :: l, h => by
    rcases List.mem_cons.1 h with h | h
    · subst h; simp [tmpsOf]
    · have := mem_tmpsOf h
      cases x <;> simp [tmpsOf, this]
theorem ev_eq {l : List Operand} (h : ∀ t ∈ tmpsOf l, ρ t = ρ' t) {x : Operand} (hx : x ∈ l) : ev ρ x = ev ρ' x := by
  cases x with
  | tmp t => exact h t (mem_tmpsOf hx)
  | _ => rfl
theorem evs_eq : ∀ {l : List Operand}, (∀ x ∈ l, ev ρ x = ev ρ' x) → evs ρ l = evs ρ' l
  | [], _ => rfl
  | x :: l, h => by simp only [evs]; rw [h x (by simp), evs_eq fun y hy => h y (List.mem_cons_of_mem _ hy)]
theorem evp_eq : ∀ {l : List (Nat × Operand)}, (∀ x ∈ l, ev ρ x.2 = ev ρ' x.2) → evp ρ l = evp ρ' l
  | [], _ => rfl
  | (i, x) :: l, h => by simp only [evp]; rw [h (i, x) (by simp), evp_eq fun y hy => h y (List.mem_cons_of_mem _ hy)]
theorem resolve_eq {ty : Nat} {op : Op} (h : ∀ t ∈ tmpsOf op.operands.toList, ρ t = ρ' t) : resolve T ρ ty op = resolve T ρ' ty op := by
  have he : ∀ x ∈ op.operands.toList, ev ρ x = ev ρ' x := fun x hx => ev_eq h hx
  cases op with
  | build t ps =>
    have : evp ρ ps.toList = evp ρ' ps.toList := evp_eq fun x hx => he x.2 (by simp [Op.operands]; exact ⟨x.1, by simpa using hx⟩)
    simp only [resolve, this]
  | buildSlice t m ps =>
    have : evp ρ ps.toList = evp ρ' ps.toList := evp_eq fun x hx => he x.2 (by simp [Op.operands]; exact ⟨x.1, by simpa using hx⟩)
    simp only [resolve, this]
  | makeFunc fn fs cs =>
    have h1 : evs ρ fs.toList = evs ρ' fs.toList := evs_eq fun x hx => he x (by simp [Op.operands]; exact .inl (by simpa using hx))
    have h2 : evs ρ cs.toList = evs ρ' cs.toList := evs_eq fun x hx => he x (by simp [Op.operands]; exact .inr (by simpa using hx))
    simp only [resolve, h1, h2]
  | call c =>
    obtain ⟨cal, args, ats⟩ := c
    have h1 : evs ρ args.toList = evs ρ' args.toList := evs_eq fun x hx => he x (by simp [Op.operands, Call.operands]; exact .inr (by simpa using hx))
    cases cal with
    | value f =>
      have h2 : ev ρ f = ev ρ' f := he f (by simp [Op.operands, Call.operands])
      cases f <;> simp only [resolve, h1] <;> cases evs ρ' args.toList <;> first | rfl | simp only [h2]
    | invoke r m => simp only [resolve]
    | builtin b => simp only [resolve, h1]; cases evs ρ' args.toList <;> rfl
  | slice t x lo hi mx =>
    have h1 : ev ρ x = ev ρ' x := he x (by simp [Op.operands])
    have h2 : evo ρ lo = evo ρ' lo := by
      cases lo with
      | none => rfl
      | some y => simp only [evo]; rw [he y (by simp [Op.operands])]
    have h3 : evo ρ hi = evo ρ' hi := by
      cases hi with
      | none => rfl
      | some y => simp only [evo]; rw [he y (by simp [Op.operands])]
    cases mx <;> simp only [resolve, h1, h2, h3]
  | select cs b =>
    cases b with
    | true => simp only [resolve]
    | false =>
      simp only [resolve]
      cases hcs : cs.toList with
      | nil => rfl
      | cons c l =>
        cases l with
        | cons _ _ => rfl
        | nil =>
          have hcs' : cs = #[c] := by rw [← Array.toArray_toList (xs := cs), hcs]
          subst hcs'
          have h1 : ev ρ c.chan = ev ρ' c.chan := he _ (by simp [Op.operands])
          simp only [h1]
          cases hsd : c.send with
          | none =>
            split
            · cases ev ρ' c.chan with
              | none => rfl
              | some v => cases v <;> rfl
            · rfl
          | some y =>
            have h2 : ev ρ y = ev ρ' y := he _ (by simp [Op.operands, hsd])
            split
            · cases ev ρ' c.chan with
              | none => rfl
              | some v => cases v <;> first | rfl | simp only [h2]
            · rfl
  | makeMap t r => cases r <;> simp only [resolve]
  | next it b =>
    have h1 : ev ρ it = ev ρ' it := he it (by simp [Op.operands])
    cases b <;> simp only [resolve, h1]
  | pick c x y => simp only [resolve, he c (by simp [Op.operands]), he x (by simp [Op.operands]), he y (by simp [Op.operands])]
  | store t x y => simp only [resolve, he x (by simp [Op.operands]), he y (by simp [Op.operands])]
  | binOp op t x y u => simp only [resolve, he x (by simp [Op.operands]), he y (by simp [Op.operands])]
  | makeSlice t x y => simp only [resolve, he x (by simp [Op.operands]), he y (by simp [Op.operands])]
  | indexAddr t x y => simp only [resolve, he x (by simp [Op.operands]), he y (by simp [Op.operands])]
  | index t x y => simp only [resolve, he x (by simp [Op.operands]), he y (by simp [Op.operands])]
  | lookup t x y ok => simp only [resolve, he x (by simp [Op.operands]), he y (by simp [Op.operands])]
  | mapUpdate t m x y => simp only [resolve, he m (by simp [Op.operands]), he x (by simp [Op.operands]), he y (by simp [Op.operands])]
  | mapEntry t m x => simp only [resolve, he m (by simp [Op.operands]), he x (by simp [Op.operands])]
  | entryStore t m x y => simp only [resolve, he m (by simp [Op.operands]), he x (by simp [Op.operands]), he y (by simp [Op.operands])]
  | move x => simp only [resolve, he x (by simp [Op.operands])]
  | assign x => simp only [resolve, he x (by simp [Op.operands])]
  | box t x => simp only [resolve, he x (by simp [Op.operands])]
  | load t x => simp only [resolve, he x (by simp [Op.operands])]
  | nilCheck x => simp only [resolve, he x (by simp [Op.operands])]
  | unOp op t x => simp only [resolve, he x (by simp [Op.operands])]
  | convert s d x => simp only [resolve, he x (by simp [Op.operands])]
  | makeInterface t x => simp only [resolve, he x (by simp [Op.operands])]
  | makeChan t x => simp only [resolve, he x (by simp [Op.operands])]
  | fieldAddr t x f => simp only [resolve, he x (by simp [Op.operands])]
  | field t x f => simp only [resolve, he x (by simp [Op.operands])]
  | range t x => simp only [resolve, he x (by simp [Op.operands])]
  | entry x => simp only [resolve, he x (by simp [Op.operands])]
  | extract x i => simp only [resolve, he x (by simp [Op.operands])]
  | _ => simp only [resolve]

/-! ### One operation of a region -/
theorem splitB_mono {k k' : Value → F} {v : Value} (hk : ∀ v, k v w → k' v w) (h : splitB k v w) : splitB k' v w := by
  cases v with
  | bool c => exact br_mono h (hk _) (hk _)
  | _ => exact hk _ h
variable {q : Bool} {K K' : Value → Option F → F}
theorem goF_mono (hk : ∀ v ag w, K v ag w → K' v ag w) (h : goF T n ops.toList i o ρ q K w) : goF T n ops.toList i o ρ q K' w := by
  unfold goF at h ⊢
  cases hp : resolve T ρ o.type o.op with
  | none => rw [hp] at h; exact h.elim
  | some p =>
    rw [hp] at h
    simp only at h ⊢
    cases hc : (okDst n o.dst && !(q && p.eff)) with
    | false => rw [hc] at h; exact h.elim
    | true =>
      rw [hc] at h
      refine Prim.mono (fun v w hv => ?_) h
      cases hg : guarded ops.toList i with
      | false => rw [hg] at hv; exact hk _ _ _ hv
      | true => rw [hg] at hv; exact splitB_mono (fun v => hk v _ w) hv
theorem opF_mono (hk : ∀ v ag w, K v ag w → K' v ag w) (h : opF T n ops.toList i o ρ q K w) : opF T n ops.toList i o ρ q K' w := by
  unfold opF at h ⊢
  cases hg : o.guard with
  | none => rw [hg] at h; exact goF_mono hk h
  | some g =>
    obtain ⟨j, want⟩ := g
    rw [hg] at h
    simp only at h ⊢
    cases hd : dstOf ops.toList j with
    | none => rw [hd] at h; exact h.elim
    | some d =>
      rw [hd] at h
      simp only at h ⊢
      cases hc : ρ d with
      | none => rw [hc] at h; exact h.elim
      | some v =>
        rw [hc] at h
        cases v with
        | bool c => exact br_mono h (goF_mono hk) (hk _ _ _)
        | tuple vs => exact hk _ _ _ h
        | _ => exact h.elim
theorem mem_looks {t : Nat} (h : t ∈ tmpsOf o.op.operands.toList) : t ∈ looks ops.toList o := List.mem_append_right _ h
theorem opF_eq (h : ∀ t ∈ looks ops.toList o, ρ t = ρ' t) : opF T n ops.toList i o ρ q K = opF T n ops.toList i o ρ' q K := by
  have hr : resolve T ρ o.type o.op = resolve T ρ' o.type o.op := resolve_eq fun t ht => h t (mem_looks ht)
  have hgo : goF T n ops.toList i o ρ q K = goF T n ops.toList i o ρ' q K := by unfold goF; rw [hr]
  unfold opF
  cases hg : o.guard with
  | none => exact hgo
  | some g =>
    obtain ⟨j, want⟩ := g
    simp only
    cases hd : dstOf ops.toList j with
    | none => rfl
    | some d =>
      have : ρ d = ρ' d := h d (List.mem_append_left _ (by simp [hg, hd]))
      simp only [this, hgo]
theorem goF_ne (h : goF T n ops.toList i o ρ true K w) : ∃ v ag, K v ag w ∧ (∀ f, ag = some f → f w) ∧ ∀ (w' : World) (K' : Value → Option F → F), (∀ f, ag = some f → f w') → K' v ag w' → goF T n ops.toList i o ρ true K' w' := by
  unfold goF at h
  cases hp : resolve T ρ o.type o.op with
  | none => rw [hp] at h; exact h.elim
  | some p =>
    rw [hp] at h
    simp only at h
    cases hc : (okDst n o.dst && !(true && p.eff)) with
    | false => rw [hc] at h; exact h.elim
    | true =>
      rw [hc] at h
      have he : p.eff = false := by
        cases hpe : p.eff with
        | false => rfl
        | true => rw [hpe] at hc; simp at hc
      obtain ⟨v, hv, h0, hn⟩ := Prim.ne he h
      refine ⟨v, p.again v, bifSplit hv, h0, fun w' K' ha hK' => ?_⟩
      unfold goF
      rw [hp]
      simp only [hc, cond_true]
      refine hn w' _ ha ?_
      cases hg : guarded ops.toList i with
      | false => exact hK'
      | true =>
        simp only [cond_true]
        cases v with
        | bool c => cases c <;> exact hK'
        | _ => exact hK'
theorem opF_ne (h : opF T n ops.toList i o ρ true K w) : ∃ v ag, K v ag w ∧ (∀ f, ag = some f → f w) ∧ ∀ (w' : World) (K' : Value → Option F → F), (∀ f, ag = some f → f w') → K' v ag w' → opF T n ops.toList i o ρ true K' w' := by
  unfold opF at h
  cases hg : o.guard with
  | none =>
    rw [hg] at h
    obtain ⟨v, ag, h1, h0, h2⟩ := goF_ne h
    exact ⟨v, ag, h1, h0, fun w' K' ha hk => by unfold opF; rw [hg]; exact h2 w' K' ha hk⟩
  | some g =>
    obtain ⟨j, want⟩ := g
    rw [hg] at h
    simp only at h
    cases hd : dstOf ops.toList j with
    | none => rw [hd] at h; exact h.elim
    | some d =>
      rw [hd] at h
      simp only at h
      cases hc : ρ d with
      | none => rw [hc] at h; exact h.elim
      | some v =>
        rw [hc] at h
        cases v with
        | bool c =>
          rcases br_ok h with ⟨hcw, h⟩ | ⟨hcw, h⟩
          · obtain ⟨v, ag, h1, h0, h2⟩ := goF_ne h
            refine ⟨v, ag, h1, h0, fun w' K' ha hk => ?_⟩
            unfold opF; rw [hg]; simp only [hd, hc, hcw]; exact h2 w' K' ha hk
          · refine ⟨undef, none, h, nofun, fun w' K' _ hk => ?_⟩
            unfold opF; rw [hg]; simp only [hd, hc, hcw]; exact hk
        | tuple vs =>
          refine ⟨undef, none, h, nofun, fun w' K' _ hk => ?_⟩
          unfold opF; rw [hg]; simp only [hd, hc]; exact hk
        | _ => exact h.elim
end Go.Eng
namespace Go.Eng
open Go
variable {P : Program} {T : Tab} {n : Nat} {a : Act} {ρ ρ' : Env} {w : World} {o : Oper}
variable {ops : Array Oper} {i : Nat} {masks : List Nat} {K : Env → F}

theorem rcks_iff {l : List (Nat × F)} {k : F} : rcks l k w ↔ (∀ x ∈ l, x.2 w) ∧ k w := by
  cases l with
  | nil => simp [rcks]
  | cons x l =>
    show ((∀ f ∈ (x :: l).map (·.2), f w) ∧ k w) ↔ _
    simp only [List.mem_map, forall_exists_index, and_imp, forall_apply_eq_imp_iff₂]
theorem mem_floating {m : Nat} {x : Nat × F} : ∀ {l : List (Nat × F)}, x ∈ floating m l ↔ x ∈ l ∧ Nat.testBit m x.1 = false
  | [] => by simp [floating]
  | (r, f) :: l => by
    simp only [floating]
    cases hb : Nat.testBit m r with
    | true =>
      simp only [cond_true, mem_floating (l := l), List.mem_cons]
      constructor
      · rintro ⟨h1, h2⟩; exact ⟨.inr h1, h2⟩
      · rintro ⟨rfl | h1, h2⟩
        · rw [hb] at h2; cases h2
        · exact ⟨h1, h2⟩
    | false =>
      simp only [cond_false, List.mem_cons, mem_floating (l := l)]
      constructor
      · rintro (rfl | ⟨h1, h2⟩)
        · exact ⟨.inl rfl, hb⟩
        · exact ⟨.inr h1, h2⟩
      · rintro ⟨rfl | h1, h2⟩
        · exact .inl rfl
        · exact .inr ⟨h1, h2⟩
theorem flo_sub {ag : Option F} {i : Nat} {fl fl' : List (Nat × F)} (h : ∀ x ∈ fl', x ∈ fl) : ∀ x ∈ flo ag i fl', x ∈ flo ag i fl := by
  cases ag with
  | none => exact h
  | some f =>
    intro x hx
    rcases List.mem_cons.1 hx with rfl | hx
    · exact List.mem_cons_self
    · exact List.mem_cons_of_mem _ (h x hx)
theorem floating_sub {m : Nat} {fl fl' : List (Nat × F)} (h : ∀ x ∈ fl', x ∈ fl) : ∀ x ∈ floating m fl', x ∈ floating m fl := fun x hx => by
  rw [mem_floating] at hx ⊢
  exact ⟨h x hx.1, hx.2⟩
theorem runD_eff {π : List Nat} {fl : List (Nat × F)} (ho : ops[i]? = some o) (he : effOp o.op = true) :
    runD T n ops.toList masks (i :: π) fl ρ K = opF T n ops.toList i o ρ false fun v _ => rcks (floating (masks.getD i 0) fl) (runD T n ops.toList masks π (floating (masks.getD i 0) fl) (putd ρ o.dst (some v)) K) := by
  have : ops.toList[i]? = some o := by simpa using ho
  simp only [runD, this, he, cond_true]
theorem runD_non {π : List Nat} {fl : List (Nat × F)} (ho : ops[i]? = some o) (he : effOp o.op = false) :
    runD T n ops.toList masks (i :: π) fl ρ K = opF T n ops.toList i o ρ true fun v ag => runD T n ops.toList masks π (flo ag i fl) (putd ρ o.dst (some v)) K := by
  have : ops.toList[i]? = some o := by simpa using ho
  simp only [runD, this, he, cond_false]
theorem runD_none {π : List Nat} {fl : List (Nat × F)} (ho : ops[i]? = none) : ¬ runD T n ops.toList masks (i :: π) fl ρ K w := by
  have : ops.toList[i]? = none := by simpa using ho
  simp only [runD, this]
  exact id
theorem runD_sub : ∀ (π : List Nat) {fl fl' : List (Nat × F)} {ρ : Env} {w : World}, (∀ x ∈ fl', x ∈ fl) → runD T n ops.toList masks π fl ρ K w → runD T n ops.toList masks π fl' ρ K w
  | [], _, _, _, _, _, h => h
  | i :: π, fl, fl', ρ, w, hs, h => by
    cases ho : ops[i]? with
    | none => exact absurd h (runD_none ho)
    | some o =>
      cases he : effOp o.op with
      | true =>
        rw [runD_eff ho he] at h ⊢
        refine opF_mono (fun v ag w' h' => ?_) h
        rw [rcks_iff] at h' ⊢
        exact ⟨fun x hx => h'.1 x (floating_sub hs x hx), runD_sub π (floating_sub hs) h'.2⟩
      | false =>
        rw [runD_non ho he] at h ⊢
        exact opF_mono (fun v ag w' h' => runD_sub π (flo_sub hs) h') h
theorem putd_comm {d e : Option Nat} {u v : Option Value} (h : unlike d e = true) : putd (putd ρ d u) e v = putd (putd ρ e v) d u := by
  cases d with
  | none => rfl
  | some d =>
    cases e with
    | none => rfl
    | some e =>
      funext t
      simp only [putd, put]
      cases h1 : Nat.beq t e with
      | true =>
        cases h2 : Nat.beq t d with
        | true =>
          obtain rfl := Nat.eq_of_beq_eq_true h1
          obtain rfl := Nat.eq_of_beq_eq_true h2
          simp [unlike] at h
        | false => rfl
      | false => cases Nat.beq t d <;> rfl
theorem memN_iff {t : Nat} : ∀ {l : List Nat}, memN t l = true ↔ t ∈ l
  | [] => by simp [memN]
  | x :: l => by
    simp only [memN, List.mem_cons]
    cases hb : Nat.beq t x with
    | true => simp [Nat.eq_of_beq_eq_true hb]
    | false =>
      have : t ≠ x := fun h => by subst h; simp at hb
      simp [memN_iff (l := l), this]
theorem putd_looks {d : Option Nat} {v : Option Value} {l : List Nat} (h : notIn d l = true) : ∀ t ∈ l, putd ρ d v t = ρ t := by
  intro t ht
  cases d with
  | none => rfl
  | some d =>
    simp only [putd, put]
    cases hb : Nat.beq t d with
    | false => rfl
    | true =>
      obtain rfl := Nat.eq_of_beq_eq_true hb
      have := memN_iff.2 ht
      simp [notIn, this] at h
theorem apart_swap {x y : Oper} (h : apartB ops.toList x y = true) : apartB ops.toList y x = true := by
  simp only [apartB, Bool.and_eq_true] at h ⊢
  refine ⟨⟨h.1.2, h.1.1⟩, ?_⟩
  have := h.2
  revert this
  cases x.dst with
  | none => intro _; cases y.dst <;> rfl
  | some d =>
    cases y.dst with
    | none => intro _; rfl
    | some e =>
      intro this
      simp only [unlike] at this ⊢
      cases hb : Nat.beq e d with
      | false => rfl
      | true =>
        obtain rfl := Nat.eq_of_beq_eq_true hb
        simp at this
theorem runD_swap {r e : Nat} {x y : Oper} {π : List Nat} {fl : List (Nat × F)} (hx : ops[r]? = some x) (hy : ops[e]? = some y) (hxe : effOp x.op = false) (hap : apartB ops.toList x y = true)
    (hanc : effOp y.op = true → Nat.testBit (masks.getD e 0) r = false) (h : runD T n ops.toList masks (r :: e :: π) fl ρ K w) : runD T n ops.toList masks (e :: r :: π) fl ρ K w := by
  simp only [apartB, Bool.and_eq_true] at hap
  obtain ⟨⟨ha1, ha2⟩, ha3⟩ := hap
  rw [runD_non hx hxe] at h
  obtain ⟨v, ag, h1, h0, hn⟩ := opF_ne h
  cases hye : effOp y.op with
  | true =>
    rw [runD_eff hy hye] at h1 ⊢
    rw [opF_eq (fun t ht => putd_looks ha1 t ht)] at h1
    refine opF_mono (fun v' ag' w' h' => ?_) h1
    rw [rcks_iff] at h' ⊢
    obtain ⟨hf, hK⟩ := h'
    have hsame : floating (masks.getD e 0) (flo ag r fl) = flo ag r (floating (masks.getD e 0) fl) := by
      cases ag with
      | none => rfl
      | some f => simp only [flo, floating, hanc hye, cond_false]
    refine ⟨fun z hz => hf z ?_, ?_⟩
    · rw [hsame]
      cases ag with
      | none => exact hz
      | some f => exact List.mem_cons_of_mem _ hz
    · rw [runD_non hx hxe]
      rw [opF_eq (ρ' := ρ) (fun t ht => putd_looks ha2 t ht)]
      refine hn w' _ (fun f hag => hf (r, f) ?_) ?_
      · subst hag; rw [hsame]; exact List.mem_cons_self
      · rw [hsame, putd_comm ha3] at hK
        exact hK
  | false =>
    rw [runD_non hy hye] at h1 ⊢
    rw [opF_eq (fun t ht => putd_looks ha1 t ht)] at h1
    obtain ⟨v', ag', h2, h0', hn'⟩ := opF_ne h1
    refine hn' w _ h0' ?_
    rw [runD_non hx hxe]
    rw [opF_eq (ρ' := ρ) (fun t ht => putd_looks ha2 t ht)]
    refine hn w _ h0 ?_
    rw [putd_comm ha3] at h2
    refine runD_sub π (fun z hz => ?_) h2
    cases ag <;> cases ag' <;> simp only [flo, List.mem_cons] at hz ⊢ <;> grind
/-- What stands behind operations that only read may be brought to the front. -/
theorem runD_front {y : Oper} {e : Nat} {p2 : List Nat} (hy : ops[e]? = some y) : ∀ (p1 : List Nat) {fl : List (Nat × F)} {ρ : Env} {w : World},
    (∀ r ∈ p1, ∃ x, ops[r]? = some x ∧ effOp x.op = false ∧ apartB ops.toList x y = true ∧ (effOp y.op = true → Nat.testBit (masks.getD e 0) r = false)) →
    runD T n ops.toList masks (p1 ++ e :: p2) fl ρ K w → runD T n ops.toList masks (e :: (p1 ++ p2)) fl ρ K w
  | [], _, _, _, _, h => h
  | r :: p1, fl, ρ, w, hp, h => by
    obtain ⟨x, hx, hxe, hap, hanc⟩ := hp r (by simp)
    refine runD_swap hx hy hxe hap hanc ?_
    simp only [List.cons_append] at h
    rw [runD_non hx hxe] at h ⊢
    exact opF_mono (fun v ag w' h' => runD_front hy p1 (fun z hz => hp z (List.mem_cons_of_mem _ hz)) h') h

/-- Orders: nobody ahead of whom she waits for. -/
def Ahead (masks : List Nat) (l : List Nat) : Prop := l.Pairwise fun x y => Nat.testBit (masks.getD x 0) y = false
theorem asap_none : ∀ {l : List Nat} {e : Option Nat}, asapB ops.toList masks e l = true → asapB ops.toList masks none l = true
  | [], _, _ => rfl
  | x :: l, e, h => by
    simp only [asapB] at h ⊢
    cases hx : effAt ops.toList x with
    | true => rw [hx] at h; simpa using h
    | false =>
      rw [hx] at h
      simp only [cond_false, Bool.and_eq_true] at h ⊢
      exact ⟨trivial, asap_none h.2⟩
theorem asap_last {r : Nat} (hr : effAt ops.toList r = false) : ∀ {p1 p2 : List Nat} {e : Option Nat}, asapB ops.toList masks e (p1 ++ r :: p2) = true →
    (∃ x ∈ p1, effAt ops.toList x = true) → ∃ x ∈ p1, Nat.testBit (masks.getD r 0) x = true
  | [], _, _, _, h => by obtain ⟨_, h, _⟩ := h; cases h
  | x :: p1, p2, e, h, hex => by
    simp only [List.cons_append, asapB] at h
    cases hx : effAt ops.toList x with
    | true =>
      rw [hx] at h
      simp only [cond_true] at h
      by_cases hm : ∃ z ∈ p1, effAt ops.toList z = true
      · obtain ⟨z, h1, h2⟩ := asap_last hr h hm
        exact ⟨z, List.mem_cons_of_mem _ h1, h2⟩
      · refine ⟨x, by simp, ?_⟩
        clear hex
        induction p1 with
        | nil =>
          simp only [List.nil_append, asapB, hr, cond_false, Bool.and_eq_true] at h
          exact h.1
        | cons z p1 ih =>
          have hz : effAt ops.toList z = false := by
            cases hz : effAt ops.toList z with
            | false => rfl
            | true => exact absurd ⟨z, by simp, hz⟩ hm
          simp only [List.cons_append, asapB, hz, cond_false, Bool.and_eq_true] at h
          exact ih h.2 (fun ⟨y, h1, h2⟩ => hm ⟨y, List.mem_cons_of_mem _ h1, h2⟩)
    | false =>
      rw [hx] at h
      simp only [cond_false, Bool.and_eq_true] at h
      obtain ⟨z, h1, h2⟩ := hex
      rcases List.mem_cons.1 h1 with rfl | h1
      · rw [hx] at h2; cases h2
      · obtain ⟨y, h3, h4⟩ := asap_last hr h.2 ⟨z, h1, h2⟩
        exact ⟨y, List.mem_cons_of_mem _ h3, h4⟩
theorem asap_tail : ∀ {p1 p2 : List Nat}, (∀ x ∈ p1, effAt ops.toList x = false) → asapB ops.toList masks none (p1 ++ p2) = asapB ops.toList masks none p2
  | [], _, _ => rfl
  | x :: p1, p2, h => by
    simp only [List.cons_append, asapB, h x (by simp), cond_false, Bool.true_and]
    exact asap_tail fun y hy => h y (List.mem_cons_of_mem _ hy)
end Go.Eng
namespace Go.Eng
open Go
variable {P : Program} {T : Tab} {n : Nat} {a : Act} {ρ ρ' : Env} {w : World} {o : Oper}
variable {ops : Array Oper} {i : Nat} {masks : List Nat} {K : Env → F}

theorem effAt_of (ho : ops[i]? = some o) : effAt ops.toList i = effOp o.op := by
  have : ops.toList[i]? = some o := by simpa using ho
  simp [effAt, this]
theorem runD_ok (hT : TabOk T) {a0 : Act}
    (hap : ∀ i j x y, i ≠ j → ops[i]? = some x → ops[j]? = some y → Nat.testBit (masks.getD i 0) j = true ∨ Nat.testBit (masks.getD j 0) i = true ∨ apartB ops.toList x y = true) :
    ∀ (l π : List Nat) (fl : List (Nat × F)) (ρ : Env) (a : Act) (w : World), l.Perm π → π.Nodup → (∀ x ∈ π, x < ops.size) → Ahead masks l → Ahead masks π → asapB ops.toList masks none π = true →
      l.filter (effAt ops.toList) = π.filter (effAt ops.toList) → runD T n ops.toList masks π fl ρ K w → Agr n a ρ → KeepO ops a0 a →
      Ops T.P ops (fun a' w' => (∃ ρ', K ρ' w' ∧ Agr n a' ρ') ∧ KeepO ops a0 a') l a w
  | [], π, _, ρ, a, w, hp, _, _, _, _, _, _, h, hA, hK => by
    have : π = [] := List.Perm.nil_eq hp ▸ rfl
    subst this
    exact ops_nil ⟨⟨ρ, h, hA⟩, hK⟩
  | i :: l, π, fl, ρ, a, w, hp, hnd, hlt, hal, hap', has, hfe, h, hA, hK => by
    have hi : i ∈ π := hp.mem_iff.1 (by simp)
    obtain ⟨p1, p2, rfl⟩ := List.append_of_mem hi
    have hlti : i < ops.size := hlt i (by simp)
    have ho : ops[i]? = some ops[i] := by simp [hlti]
    have hni : i ∉ p1 := fun hm => by
      have := List.nodup_append.1 hnd
      exact this.2.2 i hm i (by simp) rfl
    -- nobody in l waits ahead of i
    have hfree : ∀ r ∈ p1, Nat.testBit (masks.getD i 0) r = false := fun r hr => by
      have hrl : r ∈ i :: l := hp.mem_iff.2 (by simp [hr])
      rcases List.mem_cons.1 hrl with rfl | hrl
      · exact absurd hr hni
      · exact (List.pairwise_cons.1 hal).1 r hrl
    have hbehind : ∀ r ∈ p1, Nat.testBit (masks.getD r 0) i = false := fun r hr => (List.pairwise_append.1 hap').2.2 r hr i (by simp)
    have hquiet : ∀ r ∈ p1, effAt ops.toList r = false := by
      cases hie : effAt ops.toList i with
      | true =>
        intro r hr
        cases hre : effAt ops.toList r with
        | false => rfl
        | true =>
          exfalso
          have h1 : (i :: l).filter (effAt ops.toList) = i :: l.filter (effAt ops.toList) := by simp [hie]
          rw [h1, List.filter_append] at hfe
          cases hf1 : p1.filter (effAt ops.toList) with
          | nil => have := List.mem_filter.2 ⟨hr, hre⟩; rw [hf1] at this; cases this
          | cons y ys =>
            rw [hf1] at hfe
            simp only [List.cons_append, List.cons.injEq] at hfe
            have hy : y ∈ p1 := (List.mem_filter.1 (by rw [hf1]; simp : y ∈ p1.filter (effAt ops.toList))).1
            rw [← hfe.1] at hy
            exact hni hy
      | false =>
        intro r hr
        cases hre : effAt ops.toList r with
        | false => rfl
        | true =>
          obtain ⟨z, h1, h2⟩ := asap_last hie has ⟨r, hr, hre⟩
          rw [hfree z h1] at h2
          cases h2
    have hfront : runD T n ops.toList masks (i :: (p1 ++ p2)) fl ρ K w := by
      refine runD_front ho p1 (fun r hr => ?_) h
      have hltr : r < ops.size := hlt r (by simp [hr])
      have hor : ops[r]? = some ops[r] := by simp [hltr]
      refine ⟨ops[r], hor, by rw [← effAt_of hor]; exact hquiet r hr, ?_, fun _ => hfree r hr⟩
      rcases hap r i _ _ (fun e => hni (e ▸ hr)) hor ho with h1 | h1 | h1
      · rw [hbehind r hr] at h1; cases h1
      · rw [hfree r hr] at h1; cases h1
      · exact h1
    -- what is left
    have hp' : l.Perm (p1 ++ p2) := (hp.trans List.perm_middle).cons_inv
    have hsub : (p1 ++ p2).Sublist (p1 ++ i :: p2) := List.Sublist.append (List.Sublist.refl _) (List.sublist_cons_self _ _)
    have hnd' := hnd.sublist hsub
    have hlt' : ∀ x ∈ p1 ++ p2, x < ops.size := fun x hx => hlt x (hsub.subset hx)
    have hal' : Ahead masks l := (List.pairwise_cons.1 hal).2
    have hap'' : Ahead masks (p1 ++ p2) := List.Pairwise.sublist hsub hap'
    have has' : asapB ops.toList masks none (p1 ++ p2) = true := by
      rw [asap_tail hquiet] at has ⊢
      simp only [asapB] at has
      cases hie : effAt ops.toList i with
      | true => rw [hie] at has; exact asap_none (by simpa using has)
      | false => rw [hie] at has; simp only [cond_false, Bool.and_eq_true] at has; exact has.2
    have hfe' : l.filter (effAt ops.toList) = (p1 ++ p2).filter (effAt ops.toList) := by
      have h1 : p1.filter (effAt ops.toList) = [] := by
        rw [List.filter_eq_nil_iff]; intro r hr; rw [hquiet r hr]; simp
      rw [List.filter_append, h1] at hfe ⊢
      cases hie : effAt ops.toList i with
      | true => simpa [hie] using hfe
      | false => simpa [hie] using hfe
    have hnext : ∀ fl' ρ1 a1 w1, runD T n ops.toList masks (p1 ++ p2) fl' ρ1 K w1 → Agr n a1 ρ1 → KeepO ops a0 a1 → Ops T.P ops (fun a' w' => (∃ ρ', K ρ' w' ∧ Agr n a' ρ') ∧ KeepO ops a0 a') l a1 w1 :=
      fun fl' ρ1 a1 w1 h1 hA1 hK1 => runD_ok hT hap l _ fl' ρ1 a1 w1 hp' hnd' hlt' hal' hap'' has' hfe' h1 hA1 hK1
    -- the step
    have hopF : ∃ q fl1, opF T n ops.toList i ops[i] ρ q (fun v ag w1 => ∃ fl', runD T n ops.toList masks (p1 ++ p2) fl' (putd ρ ops[i].dst (some v)) K w1) w ∧ fl1 = fl := by
      cases hie : effOp ops[i].op with
      | true =>
        rw [runD_eff ho hie] at hfront
        exact ⟨_, fl, opF_mono (fun v ag w' h' => ⟨_, (rcks_iff.1 h').2⟩) hfront, rfl⟩
      | false =>
        rw [runD_non ho hie] at hfront
        exact ⟨_, fl, opF_mono (fun v ag w' h' => ⟨_, h'⟩) hfront, rfl⟩
    obtain ⟨q, _, hopF, _⟩ := hopF
    rcases opF_ok hA hopF with ⟨hw, hd, p, hpr, hf⟩ | ⟨hw, fl', hk⟩
    · cases hs : isSel ops[i].op with
      | false =>
        refine ops_step ho hw (op_ok hT hs hpr hA hf) (fun v w' hv => ?_)
        obtain ⟨fl', hv⟩ := bifSplit hv
        exact hnext _ _ _ _ hv (agr_put hA (.inl hd)) (keep_put ho hK)
      | true =>
        refine ops_sel hT ho hs hw hpr hA hf (fun v w' hv => ?_)
        obtain ⟨fl', hv⟩ := bifSplit hv
        exact hnext _ _ _ _ hv (agr_put hA (.inl hd)) (keep_put ho hK)
    · exact ops_skip ho hw (hnext _ _ _ _ hk (agr_put hA (.inr rfl)) (keep_put ho hK))

/-! ### The orders that the model draws -/
theorem edges_at : ∀ (l : List Oper) (k : Nat), edgesOk masks l k = true → ∀ (i : Nat) (o : Oper), l[i]? = some o →
    (∀ e ∈ o.after.toList, Region.binds .any e = true → e.on < k + i) ∧
    masks.getD (k + i) 0 = o.after.toList.foldl (fun s e => bif Region.binds .any e then s ||| 2 ^ e.on ||| masks.getD e.on 0 else s) 0
  | [], _, _, i, o, ho => by simp at ho
  | x :: l, k, h, i, o, ho => by
    simp only [edgesOk, Bool.and_eq_true] at h
    obtain ⟨⟨h1, h2⟩, h3⟩ := h
    cases i with
    | zero =>
      simp only [List.getElem?_cons_zero, Option.some.injEq] at ho
      subst ho
      refine ⟨fun e he hb => ?_, Nat.eq_of_beq_eq_true h2⟩
      have := List.all_eq_true.1 h1 e he
      rw [hb] at this
      have : e.on + 1 ≤ k := by simpa [Nat.blt] using this
      omega
    | succ i =>
      have := edges_at l (k + 1) h3 i o (by simpa using ho)
      rw [show k + (i + 1) = k + 1 + i from by omega]
      exact this
theorem fold_bits (l : List Edge) (s r : Nat) (h : Nat.testBit (l.foldl (fun s e => bif Region.binds .any e then s ||| 2 ^ e.on ||| masks.getD e.on 0 else s) s) r = true) :
    Nat.testBit s r = true ∨ ∃ e ∈ l, Region.binds .any e = true ∧ (e.on = r ∨ Nat.testBit (masks.getD e.on 0) r = true) := by
  induction l generalizing s with
  | nil => exact .inl h
  | cons e l ih =>
    simp only [List.foldl_cons] at h
    rcases ih _ h with h | ⟨x, hx, h⟩
    · cases hb : Region.binds .any e with
      | false => rw [hb] at h; exact .inl h
      | true =>
        rw [hb] at h
        simp only [cond_true, Nat.testBit_or, Bool.or_eq_true, Nat.testBit_two_pow, decide_eq_true_eq] at h
        rcases h with (h | h) | h
        · exact .inl h
        · exact .inr ⟨e, by simp, hb, .inl h⟩
        · exact .inr ⟨e, by simp, hb, .inr h⟩
    · exact .inr ⟨x, List.mem_cons_of_mem _ hx, h⟩
def unl (ops : Array Oper) (listed : Array Bool) : List Nat := (List.range ops.size).filter fun i => !listed.getD i true
def Closed (masks : List Nat) (listed : Array Bool) : Prop := ∀ j r, listed.getD j false = true → Nat.testBit (masks.getD j 0) r = true → listed.getD r false = true
theorem getD_true {listed : Array Bool} {j : Nat} : listed.getD j false = true ↔ j < listed.size ∧ listed.getD j true = true := by
  simp only [Array.getD_eq_getD_getElem?]
  by_cases h : j < listed.size
  · simp [h]
  · simp [h]
theorem getD_set {listed : Array Bool} {i j : Nat} {b : Bool} (hi : i < listed.size) : (listed.setIfInBounds i true).getD j b = if j = i then true else listed.getD j b := by
  simp only [Array.getD_eq_getD_getElem?]
  by_cases h : j = i
  · subst h; simp [hi]
  · rw [Array.getElem?_setIfInBounds_ne (Ne.symm h)]; simp [h]
theorem unl_set {listed : Array Bool} (hs : listed.size = ops.size) (hi : i < ops.size) (hu : listed.getD i true = false) : (unl ops listed).Perm (i :: unl ops (listed.setIfInBounds i true)) := by
  have h1 : i ∈ unl ops listed := by simp only [unl, List.mem_filter, List.mem_range]; exact ⟨hi, by simp [hu]⟩
  have h2 : unl ops (listed.setIfInBounds i true) = (unl ops listed).erase i := by
    have hnd : (unl ops listed).Nodup := List.nodup_range.sublist List.filter_sublist
    rw [hnd.erase_eq_filter]
    simp only [unl, List.filter_filter]
    apply List.filter_congr
    intro j _
    rw [getD_set (by rw [hs]; exact hi)]
    by_cases h : j = i
    · simp [h]
    · simp [h]
  rw [h2]
  exact List.perm_cons_erase h1
theorem go_ok (hed : edgesOk masks ops.toList 0 = true) : ∀ (fuel t : Nat) (listed : Array Bool), listed.size = ops.size → (unl ops listed).length = fuel → Closed masks listed →
    (Region.linearise.go .any ops fuel t listed []).Perm (unl ops listed) ∧ Ahead masks (Region.linearise.go .any ops fuel t listed [])
  | 0, t, listed, _, hl, _ => by
    rw [List.eq_nil_of_length_eq_zero hl]
    exact ⟨List.Perm.refl _, List.Pairwise.nil⟩
  | fuel + 1, t, listed, hs, hl, hc => by
    simp only [Region.linearise.go]
    change (match (Region.ready .any ops listed)[t % (Region.ready .any ops listed).length]? with
      | some i => Region.linearise.go .any ops fuel (t / (Region.ready .any ops listed).length) (listed.setIfInBounds i true) [i]
      | none => [].reverse).Perm _ ∧ Ahead masks (match (Region.ready .any ops listed)[t % (Region.ready .any ops listed).length]? with
      | some i => Region.linearise.go .any ops fuel (t / (Region.ready .any ops listed).length) (listed.setIfInBounds i true) [i]
      | none => [].reverse)
    have hne : Region.ready .any ops listed ≠ [] := by
      -- the least that has not come up may come up
      have hex : ∃ i, i < ops.size ∧ listed.getD i true = false := by
        cases hu : unl ops listed with
        | nil => rw [hu] at hl; cases hl
        | cons x l =>
          have : x ∈ unl ops listed := by rw [hu]; simp
          simp only [unl, List.mem_filter, List.mem_range, Bool.not_eq_true'] at this
          exact ⟨x, this⟩
      have hmin : ∃ i, (i < ops.size ∧ listed.getD i true = false) ∧ ∀ j, j < i → ¬(j < ops.size ∧ listed.getD j true = false) := by
        obtain ⟨i, hi⟩ := hex
        induction i using Nat.strongRecOn with
        | _ i ih =>
          by_cases h : ∃ j, j < i ∧ (j < ops.size ∧ listed.getD j true = false)
          · obtain ⟨j, hj, hj2⟩ := h; exact ih j hj hj2
          · exact ⟨i, hi, fun j hj hj2 => h ⟨j, hj, hj2⟩⟩
      obtain ⟨i, ⟨hi, hu⟩, hless⟩ := hmin
      have ho : ops[i]? = some ops[i] := by simp [hi]
      have hmem : i ∈ Region.ready .any ops listed := by
        refine mem_ready.2 ⟨hu, ops[i], ho, fun e he hb => ?_⟩
        have hlt := (edges_at ops.toList 0 hed i ops[i] (by simp [hi])).1 e (by simpa using he) hb
        rw [Nat.zero_add] at hlt
        have hsz : e.on < listed.size := by omega
        refine getD_true.2 ⟨hsz, ?_⟩
        cases hb2 : listed.getD e.on true with
        | true => rfl
        | false => exact absurd ⟨by omega, hb2⟩ (hless e.on hlt)
      intro h0
      rw [h0] at hmem
      cases hmem
    have hlt : t % (Region.ready .any ops listed).length < (Region.ready .any ops listed).length := Nat.mod_lt _ (List.length_pos_iff.2 hne)
    rw [List.getElem?_eq_getElem hlt]
    simp only
    generalize hgi : (Region.ready .any ops listed)[t % (Region.ready .any ops listed).length] = i
    have hir : i ∈ Region.ready .any ops listed := by rw [← hgi]; exact List.getElem_mem _
    obtain ⟨hu, o, ho, hall⟩ := mem_ready.1 hir
    have hi : i < ops.size := by
      have := (Array.getElem?_eq_some_iff.1 ho).1
      exact this
    have hmask : ∀ r, Nat.testBit (masks.getD i 0) r = true → listed.getD r false = true := by
      intro r hr
      have := (edges_at ops.toList 0 hed i o (by simpa using ho)).2
      rw [Nat.zero_add] at this
      rw [this] at hr
      rcases fold_bits _ _ _ hr with h | ⟨e, he, hb, h⟩
      · simp at h
      · have hlo := hall e (by simpa using he) hb
        rcases h with rfl | h
        · exact hlo
        · exact hc _ _ hlo h
    have hperm := unl_set (ops := ops) hs hi hu
    have hlen : (unl ops (listed.setIfInBounds i true)).length = fuel := by
      have := hperm.length_eq
      rw [hl] at this
      simpa using this.symm
    have hc' : Closed masks (listed.setIfInBounds i true) := by
      intro j r hj hr
      rw [getD_set (by rw [hs]; exact hi)] at hj ⊢
      by_cases hji : j = i
      · subst hji
        by_cases hri : r = j
        · simp [hri]
        · simp [hri]; have := hmask r hr; simpa using this
      · simp only [hji, if_false] at hj
        by_cases hri : r = i
        · simp [hri]
        · simp only [hri, if_false]; exact hc j r hj hr
    obtain ⟨h1, h2⟩ := go_ok hed fuel (t / (Region.ready .any ops listed).length) (listed.setIfInBounds i true) (by simpa using hs) hlen hc'
    rw [linearise_go_acc]
    simp only [List.reverse_singleton, List.singleton_append]
    refine ⟨(List.Perm.cons i h1).trans hperm.symm, List.pairwise_cons.2 ⟨fun y hy => ?_, h2⟩⟩
    have hyu := h1.mem_iff.1 hy
    simp only [unl, List.mem_filter, List.mem_range, Bool.not_eq_true'] at hyu
    rw [getD_set (by rw [hs]; exact hi)] at hyu
    cases hb : Nat.testBit (masks.getD i 0) y with
    | false => rfl
    | true =>
      have := (getD_true.1 (hmask y hb)).2
      obtain ⟨_, h3⟩ := hyu
      split at h3
      · cases h3
      · rw [this] at h3; cases h3
end Go.Eng
namespace Go.Eng
open Go
variable {P : Program} {T : Tab} {n : Nat} {a : Act} {ρ ρ' : Env} {w : World} {o : Oper}
variable {ops : Array Oper} {i : Nat} {masks : List Nat}

theorem allPairs_ok {f : Nat → Nat → Bool} : ∀ {l : List Nat}, allPairs f l = true → l.Pairwise fun x y => f x y = true
  | [], _ => List.Pairwise.nil
  | x :: l, h => by
    simp only [allPairs, Bool.and_eq_true, List.all_eq_true] at h
    exact List.pairwise_cons.2 ⟨h.1, allPairs_ok h.2⟩
theorem eqL_ok : ∀ {l m : List Nat}, eqL l m = true → l = m
  | [], [], _ => rfl
  | x :: l, y :: m, h => by
    simp only [eqL, Bool.and_eq_true] at h
    rw [Nat.eq_of_beq_eq_true h.1, eqL_ok h.2]
theorem lexts_ok : ∀ (k : Nat) (l m : List Nat), m.length ≤ k → m.Perm l → l.Nodup → Ahead masks m → (∀ x ∈ m, Nat.testBit (masks.getD x 0) x = false) → m ∈ lexts masks k l
  | 0, l, m, hk, _, _, _, _ => by
    have : m = [] := List.eq_nil_of_length_eq_zero (by omega)
    subst this
    simp [lexts]
  | k + 1, l, m, hk, hp, hnd, ha, hself => by
    cases m with
    | nil =>
      have : l = [] := List.Perm.nil_eq hp ▸ rfl
      subst this
      simp [lexts]
    | cons e m =>
      cases l with
      | nil => exact absurd hp.length_eq (by simp)
      | cons y ys =>
        simp only [lexts, List.mem_flatMap, List.mem_map]
        refine ⟨e, ?_, m, ?_, rfl⟩
        · rw [List.mem_filter]
          refine ⟨hp.mem_iff.1 (by simp), ?_⟩
          rw [List.all_eq_true]
          intro x hx
          have hx' := hp.mem_iff.2 hx
          rcases List.mem_cons.1 hx' with rfl | hx'
          · rw [hself x (by simp)]; rfl
          · rw [(List.pairwise_cons.1 ha).1 x hx']; rfl
        · have hmnd : (e :: m).Nodup := hp.nodup_iff.2 hnd
          refine lexts_ok k _ m (by simpa using hk) ?_ (hnd.sublist List.filter_sublist) (List.pairwise_cons.1 ha).2 (fun x hx => hself x (List.mem_cons_of_mem _ hx))
          have h1 := hp.filter (fun x => !Nat.beq x e)
          have h2 : (e :: m).filter (fun x => !Nat.beq x e) = m := by
            rw [List.filter_cons]
            have he : Nat.beq e e = true := by simp
            simp only [he, Bool.not_true, Bool.false_eq_true, if_false]
            rw [List.filter_eq_self]
            intro x hx
            have : x ≠ e := fun h => (List.nodup_cons.1 hmnd).1 (h ▸ hx)
            cases hb : Nat.beq x e with
            | false => rfl
            | true => exact absurd (Nat.eq_of_beq_eq_true hb) this
          rw [h2] at h1
          exact h1
theorem allOrd_ok {f : List Nat → F} : ∀ {l : List (List Nat)} {π : List Nat}, π ∈ l → allOrd l f w → f π w
  | [x], π, h, hf => by
    rcases List.mem_cons.1 h with rfl | h
    · exact hf
    · cases h
  | x :: y :: l, π, h, hf => by
    rcases List.mem_cons.1 h with rfl | h
    · exact hf.1
    · exact allOrd_ok h hf.2
theorem perm_sub : ∀ (s π : List Nat), s.Nodup → (∀ x ∈ s, x ∈ π) → π.length = s.length → π.Perm s
  | [], π, _, _, h => by rw [List.eq_nil_of_length_eq_zero h]
  | x :: s, π, hnd, hs, h => by
    obtain ⟨p1, p2, rfl⟩ := List.append_of_mem (hs x (by simp))
    have := perm_sub s (p1 ++ p2) (List.nodup_cons.1 hnd).2 (fun y hy => by
      have hne : y ≠ x := fun e => (List.nodup_cons.1 hnd).1 (e ▸ hy)
      have := hs y (List.mem_cons_of_mem _ hy)
      simp only [List.mem_append, List.mem_cons] at this ⊢
      rcases this with h | h | h
      · exact .inl h
      · exact absurd h hne
      · exact .inr h) (by simp at h ⊢; omega)
    exact List.perm_middle.trans (List.Perm.cons x this)
theorem perm_range {π : List Nat} {m : Nat} (hl : π.length = m) (hm : ∀ i, i < m → i ∈ π) : π.Perm (List.range m) ∧ π.Nodup := by
  have h2 := perm_sub (List.range m) π List.nodup_range (fun x hx => hm x (List.mem_range.1 hx)) (by simpa using hl)
  exact ⟨h2, h2.nodup_iff.2 List.nodup_range⟩
theorem draw_region (hT : TabOk T) {id : Nat} {ords : List (List Nat)} {K : Env → F} (hd : drawOk ops.toList masks ords = true)
    (h : dr (allOrd ords fun π => runD T n ops.toList masks π [] ρ K) w) (hA : Agr n a ρ) (b : Frame) (k : List Item) (cs : List Frame) (hb : b.kind = .normal) :
    ∃ a' w', ((∃ ρ', K ρ' w' ∧ Agr n a' ρ') ∧ KeepO ops a a') ∧ Steps T.P (lone (b.at a (.code (.region id ops true) :: k)) cs w) (lone (b.at a' k) cs w') := by
  simp only [drawOk, Bool.and_eq_true, List.all_eq_true, Array.length_toList] at hd
  obtain ⟨⟨⟨⟨hed, _⟩, hap⟩, hord⟩, hlex⟩ := hd
  have hsch : step T.P (lone (b.at a (.code (.region id ops true) :: k)) cs w) = _ := step_region_draw
  simp only [Region.schedule, hT.mixed, Bool.true_or, if_true] at hsch
  generalize w.tape w.drawn (.order b.fn id) = t at hsch
  have hunl : unl ops (Array.replicate ops.size false) = List.range ops.size := by
    rw [unl, List.filter_eq_self]
    intro x hx
    simp [Array.getD_eq_getD_getElem?, List.mem_range.1 hx]
  obtain ⟨hp, ha⟩ := go_ok (masks := masks) hed ops.size t (Array.replicate ops.size false) (by simp) (by rw [hunl]; simp) (fun j r hj => by
    simp only [Array.getD_eq_getD_getElem?, Array.getElem?_replicate] at hj
    split at hj <;> simp at hj)
  rw [hunl] at hp
  change step T.P _ = .next (lone (b.at a (.inRegion ops (Region.linearise.go .any ops ops.size t (Array.replicate ops.size false) []) :: k)) cs w.drew) at hsch
  generalize Region.linearise.go .any ops ops.size t (Array.replicate ops.size false) [] = l at hp ha hsch
  have hself : ∀ x, x < ops.size → Nat.testBit (masks.getD x 0) x = false := by
    -- whom an operation waits for stands ahead of it in the text
    have key : ∀ x, x < ops.size → ∀ r, Nat.testBit (masks.getD x 0) r = true → r < x := by
      intro x
      induction x using Nat.strongRecOn with
      | _ x ih =>
        intro hx r hr
        have he := edges_at ops.toList 0 hed x ops[x] (by simp [hx])
        rw [Nat.zero_add] at he
        rw [he.2] at hr
        rcases fold_bits _ _ _ hr with h | ⟨e, hm, hb, h⟩
        · simp at h
        · have hlt := he.1 e hm hb
          rcases h with rfl | h
          · exact hlt
          · exact Nat.lt_trans (ih e.on hlt (by omega) r h) hlt
    intro x hx
    cases hb : Nat.testBit (masks.getD x 0) x with
    | false => rfl
    | true => exact absurd (key x hx x hb) (Nat.lt_irrefl x)
  have hfl : l.filter (effAt ops.toList) ∈ lexts masks ops.size ((List.range ops.size).filter (effAt ops.toList)) := by
    refine lexts_ok _ _ _ ?_ (hp.filter _) (List.nodup_range.sublist List.filter_sublist) (List.Pairwise.sublist List.filter_sublist ha) (fun x hx => ?_)
    · have := List.length_filter_le (effAt ops.toList) l
      have h2 := hp.length_eq
      simp at h2
      omega
    · exact hself x (List.mem_range.1 (hp.mem_iff.1 (List.mem_filter.1 hx).1))
  have hany := hlex _ hfl
  rw [List.any_eq_true] at hany
  obtain ⟨π, hπ, heq⟩ := hany
  have heq := eqL_ok heq
  have this := hord π hπ
  obtain ⟨⟨⟨hlen, hall⟩, hpair⟩, hasap⟩ := this
  have hlen' := Nat.eq_of_beq_eq_true hlen
  obtain ⟨hpp, hnd⟩ := perm_range hlen' (fun i hi => memN_iff.1 (hall i (List.mem_range.2 hi)))
  have hpa : Ahead masks π := List.Pairwise.imp (fun {x y} h => by simpa using h) (allPairs_ok hpair)
  have hrun := allOrd_ok hπ h
  have := runD_ok (a0 := a) hT (fun i j x y hij hx hy => ?_) l π [] ρ a w.drew (hp.trans hpp.symm) hnd (fun x hx => List.mem_range.1 (hpp.mem_iff.1 hx)) ha hpa hasap heq.symm hrun hA (fun _ _ => rfl)
  · obtain ⟨a', w', hq, hs⟩ := this b k cs hb
    exact ⟨a', w', hq, .head hsch hs⟩
  · have hi : i < ops.size := (Array.getElem?_eq_some_iff.1 hx).1
    have hj : j < ops.size := (Array.getElem?_eq_some_iff.1 hy).1
    have hpw := allPairs_ok hap
    have hgen : ∀ i j x y, i < j → j < ops.size → ops[i]? = some x → ops[j]? = some y → Nat.testBit (masks.getD i 0) j = true ∨ Nat.testBit (masks.getD j 0) i = true ∨ apartB ops.toList x y = true := by
      intro i j x y hij hj hx hy
      have h1 := List.pairwise_iff_getElem.1 hpw i j (by simp; omega) (by simpa using hj) hij
      simp only [List.getElem_range, Bool.or_eq_true] at h1
      have hx' : ops.toList[i]? = some x := by simpa using hx
      have hy' : ops.toList[j]? = some y := by simpa using hy
      simp only [opAt, hx', hy'] at h1
      rcases h1 with (h1 | h1) | h1
      · exact .inl h1
      · exact .inr (.inl h1)
      · exact .inr (.inr h1)
    rcases Nat.lt_or_gt_of_ne hij with hlt | hgt
    · exact hgen i j x y hlt hj hx hy
    · rcases hgen j i y x hgt hi hy hx with h1 | h1 | h1
      · exact .inr (.inl h1)
      · exact .inl h1
      · exact .inr (.inr (apart_swap h1))
end Go.Eng
namespace Go.Eng
open Go
variable {P : Program} {T : Tab} {n : Nat} {D : Draws}

/-- The run from here comes to an exit of the formula's. -/
def Ends (P : Program) (n : Nat) (K : Exit → Env → F) (m : Machine) (b : Frame) (k : List Item) (cs : List Frame) : Prop :=
  ∃ e a' ρ' w', K e ρ' w' ∧ Agr n a' ρ' ∧ Arrives P m b k cs e a' w'
theorem Ends.steps {K : Exit → Env → F} {m m' : Machine} {b : Frame} {k : List Item} {cs : List Frame} (hs : Steps P m m') (h : Ends P n K m' b k cs) : Ends P n K m b k cs := by
  obtain ⟨e, a', ρ', w', h1, h2, h3⟩ := h
  exact ⟨e, a', ρ', w', h1, h2, h3.of_steps hs⟩
theorem vals_len : ∀ (l : List Sh) (x : HL l), (vals l x).length = l.length
  | [], _ => rfl
  | _ :: l, x => by simp [vals, vals_len l x.2]
theorem unL_vals : ∀ (l : List Sh) (vs : List Value) (x : HL l), vs.length = l.length → unL l vs = some x → vals l x = vs
  | [], vs, _, hl, _ => by rw [List.eq_nil_of_length_eq_zero hl]; rfl
  | s :: l, [], _, hl, _ => by cases hl
  | s :: l, v :: vs, x, hl, h => by
    simp only [unL] at h
    cases hv : s.un v with
    | none => rw [hv] at h; cases h
    | some y =>
      rw [hv] at h
      simp only at h
      cases hu : unL l vs with
      | none => rw [hu] at h; cases h
      | some z =>
        rw [hu] at h
        cases h
        simp only [vals]
        rw [unL_vals l vs z (by simpa using hl) hu, ← Sh.un_mk hv]
theorem slotVs_len {ρ : Env} : ∀ (sl : List Slot) (vs : List Value), (∀ s ∈ sl, s.2.1 = false → s.2.2.length = 1) → slotVs ρ sl = some vs → vs.length = (slotSh sl).length
  | [], vs, _, h => by simp [slotVs] at h; subst h; rfl
  | (t, g, l) :: r, vs, hs, h => by
    simp only [slotVs] at h
    cases hv : ρ t with
    | none => rw [hv] at h; cases h
    | some v =>
      rw [hv] at h
      simp only at h
      cases hr : slotVs ρ r with
      | none => rw [hr] at h; cases h
      | some us =>
        rw [hr] at h
        simp only at h
        have ih := slotVs_len r us (fun s hs' => hs s (List.mem_cons_of_mem _ hs')) hr
        simp only [slotSh, List.flatMap_cons, List.length_append] at ih ⊢
        cases g with
        | false =>
          simp only [cond_false, Option.some.injEq] at h
          subst h
          have := hs (t, false, l) (by simp) rfl
          simp only at this
          simp [ih, this, Nat.add_comm]
        | true =>
          simp only [cond_true] at h
          cases v with
          | agg cs =>
            simp only at h
            cases hb : Nat.beq cs.toList.length l.length with
            | false => rw [hb] at h; cases h
            | true =>
              rw [hb] at h
              simp only [cond_true, Option.some.injEq] at h
              subst h
              have := Nat.eq_of_beq_eq_true hb
              simp only [List.length_append, this, ih]
          | _ => cases h
theorem slotsOk_spec {sl : List Slot} (h : slotsOk sl = true) : ∀ s ∈ sl, s.2.1 = false → s.2.2.length = 1 := by
  intro s hs hg
  have := List.all_eq_true.1 h s hs
  rw [hg] at this
  exact Nat.eq_of_beq_eq_true (by simpa using this)
/-- Reading the slots back gives what they held. -/
theorem set_slots {a : Act} {ρ ρ0 : Env} : ∀ (sl : List Slot) (vs : List Value), (∀ s ∈ sl, s.2.1 = false → s.2.2.length = 1) → slotVs ρ sl = some vs → Agr n a ρ → (∀ t v, ρ0 t = some v → a.tmps.getD t undef = v) →
    ∀ t v, setSlots ρ0 sl vs t = some v → a.tmps.getD t undef = v
  | [], vs, _, _, _, h0, t, v, h => h0 t v h
  | (t0, g, l) :: r, vs, hs, h, hA, h0, t, v, hv => by
    simp only [slotVs] at h
    cases hv0 : ρ t0 with
    | none => rw [hv0] at h; cases h
    | some u =>
      rw [hv0] at h
      simp only at h
      cases hr : slotVs ρ r with
      | none => rw [hr] at h; cases h
      | some us =>
        rw [hr] at h
        simp only at h
        have ih := set_slots r us (fun s hs' => hs s (List.mem_cons_of_mem _ hs')) hr hA h0 t v
        cases g with
        | false =>
          simp only [cond_false, Option.some.injEq] at h
          subst h
          have h1 := hs (t0, false, l) (by simp) rfl
          simp only at h1
          simp only [setSlots, put, h1, List.drop_succ_cons, List.drop_zero, List.headD_cons] at hv
          cases hb : Nat.beq t t0 with
          | true =>
            rw [hb] at hv
            simp only [cond_true, Option.some.injEq] at hv
            subst hv
            rw [Nat.eq_of_beq_eq_true hb]
            exact hA.val _ _ hv0
          | false => rw [hb] at hv; exact ih hv
        | true =>
          simp only [cond_true] at h
          cases u with
          | agg cs =>
            simp only at h
            cases hb1 : Nat.beq cs.toList.length l.length with
            | false => rw [hb1] at h; cases h
            | true =>
              rw [hb1] at h
              simp only [cond_true, Option.some.injEq] at h
              subst h
              have hlen := Nat.eq_of_beq_eq_true hb1
              simp only [setSlots, put, ← hlen, List.take_left, List.drop_left] at hv
              cases hb : Nat.beq t t0 with
              | true =>
                rw [hb] at hv
                simp only [cond_true, Option.some.injEq] at hv
                subst hv
                rw [Nat.eq_of_beq_eq_true hb, hA.val _ _ hv0]
              | false => rw [hb] at hv; exact ih hv
          | _ => cases h
theorem withSlots_ok {a : Act} {ρ ρk : Env} {w : World} {sl : List Slot} {kept : List Nat} {g : HL (slotSh sl) → F} (hsl : slotsOk sl = true) (hA : Agr n a ρ)
    (hk : ∀ t v, memN t kept = true → ρk t = some v → a.tmps.getD t undef = v) (h : withSlots ρ sl no (lam (slotSh sl) g) w) :
    ∃ x, g x w ∧ Agr n a (after ρk sl kept x) := by
  unfold withSlots at h
  cases hv : slotVs ρ sl with
  | none => rw [hv] at h; exact h.elim
  | some vs =>
    rw [hv] at h
    simp only at h
    cases hu : unL (slotSh sl) vs with
    | none => rw [hu] at h; exact h.elim
    | some x =>
      rw [hu] at h
      simp only [ap_lam] at h
      refine ⟨x, h, hA.size, hA.defers, ?_⟩
      have hspec := slotsOk_spec hsl
      have hvx := unL_vals _ _ x (slotVs_len sl vs hspec hv) hu
      unfold after
      rw [hvx]
      refine set_slots sl vs hspec hv hA (fun t v ht => ?_)
      cases hm : memN t kept with
      | false => rw [hm] at ht; cases ht
      | true => rw [hm] at ht; exact hk t v hm ht
end Go.Eng
namespace Go.Eng
open Go
variable {P : Program} {T : Tab} {n : Nat} {D : Draws}

/-- What is not written stays. -/
def KeepC (c : Code) (a a' : Act) : Prop := ∀ kept, keeps kept c = true → ∀ t, memN t kept = true → a'.tmps.getD t undef = a.tmps.getD t undef
def EndsK (P : Program) (n : Nat) (c : Code) (a : Act) (K : Exit → Env → F) (m : Machine) (b : Frame) (k : List Item) (cs : List Frame) : Prop :=
  ∃ e a' ρ' w', K e ρ' w' ∧ Agr n a' ρ' ∧ KeepC c a a' ∧ Arrives P m b k cs e a' w'
theorem keepC_of {ops : Array Oper} {a a' : Act} {id : Nat} {d : Bool} (h : KeepO ops a a') : KeepC (.region id ops d) a a' := by
  intro kept hk t ht
  refine h t (fun o ho hd => ?_)
  have := List.all_eq_true.1 hk o ho
  rw [hd] at this
  simp only [ht] at this
  cases this
def SoundC (T : Tab) (n : Nat) (D : Draws) (c : Code) : Prop :=
  ∀ ann ρ K a w, cexec T n D c ann ρ K w → Agr n a ρ → ∀ b k cs, b.kind = .normal → EndsK T.P n c a K (lone (b.at a (.code c :: k)) cs w) b k cs

theorem sound_seq {x y : Code} (hx : SoundC T n D x) {annx : Ann} {ρ : Env} {K : Exit → Env → F} {a : Act} {w : World} {f : Env → F}
    (h : cexec T n D x annx ρ (onNormal f K) w) (hA : Agr n a ρ) (b : Frame) (k : List Item) (cs : List Frame) (hb : b.kind = .normal)
    (hy : ∀ ρ' a' w', f ρ' w' → Agr n a' ρ' → KeepC x a a' → EndsK T.P n y a' K (lone (b.at a' (.code y :: k)) cs w') b k cs) :
    EndsK T.P n (.seq x y) a K (lone (b.at a (.code (.seq x y) :: k)) cs w) b k cs := by
  obtain ⟨e, a1, ρ1, w1, hk, hA1, hkp, harr⟩ := hx annx ρ _ a w h hA b (.code y :: k) cs hb
  cases e with
  | normal =>
    obtain ⟨e2, a2, ρ2, w2, hk2, hA2, hkp2, harr2⟩ := hy ρ1 a1 w1 hk hA1 hkp
    refine ⟨e2, a2, ρ2, w2, hk2, hA2, fun kept hkt t ht => ?_, .of_steps (.head step_seq harr) harr2⟩
    simp only [keeps, Bool.and_eq_true] at hkt
    rw [hkp2 kept hkt.2 t ht, hkp kept hkt.1 t ht]
  | exit id => exact ⟨_, a1, ρ1, w1, hk, hA1, fun kept hkt t ht => hkp kept (by simp only [keeps, Bool.and_eq_true] at hkt; exact hkt.1) t ht, .of_steps (.one step_seq) (.pass (x := .code y) rfl (fun _ _ => .inl (by simp)) harr)⟩
  | goto l => exact ⟨_, a1, ρ1, w1, hk, hA1, fun kept hkt t ht => hkp kept (by simp only [keeps, Bool.and_eq_true] at hkt; exact hkt.1) t ht, .of_steps (.one step_seq) (.pass (x := .code y) rfl (fun _ _ => .inl (by simp)) harr)⟩
  | ret => exact ⟨_, a1, ρ1, w1, hk, hA1, fun kept hkt t ht => hkp kept (by simp only [keeps, Bool.and_eq_true] at hkt; exact hkt.1) t ht, .of_steps (.one step_seq) (.pass (x := .code y) rfl (fun _ _ => .inl (by simp)) harr)⟩
  | panic ch => exact ⟨_, a1, ρ1, w1, hk, hA1, fun kept hkt t ht => hkp kept (by simp only [keeps, Bool.and_eq_true] at hkt; exact hkt.1) t ht, .of_steps (.one step_seq) (.pass (x := .code y) rfl (fun _ _ => .inl (by simp)) harr)⟩
  | outgrown => exact ⟨_, a1, ρ1, w1, hk, hA1, fun kept hkt t ht => hkp kept (by simp only [keeps, Bool.and_eq_true] at hkt; exact hkt.1) t ht, .of_steps (.one step_seq) (.pass (x := .code y) rfl (fun _ _ => .inl (by simp)) harr)⟩

theorem sound_join {x y : Code} (hx : SoundC T n D x) (hy : SoundC T n D y) {sl : List Slot} {kept : List Nat} {u v : Ann} {ρ : Env} {K : Exit → Env → F} {a : Act} {w : World}
    (h : cexec T n D (.seq x y) (.s (some (sl, kept)) u v) ρ K w) (hA : Agr n a ρ) (b : Frame) (k : List Item) (cs : List Frame) (hb : b.kind = .normal) :
    EndsK T.P n (.seq x y) a K (lone (b.at a (.code (.seq x y) :: k)) cs w) b k cs := by
  simp only [cexec] at h
  cases hok : keeps kept x && slotsOk sl with
  | false => rw [hok] at h; exact h.elim
  | true =>
    rw [hok] at h
    simp only [cond_true] at h
    simp only [Bool.and_eq_true] at hok
    obtain ⟨J, hJ, hJy⟩ := h
    refine sound_seq hx hJ hA b k cs hb (fun ρ' a' w' hf hA' hkp => ?_)
    obtain ⟨z, hz, hAz⟩ := withSlots_ok hok.2 hA' (ρk := ρ) (kept := kept) (fun t v ht hv => by rw [hkp kept hok.1 t ht]; exact hA.val t v hv) hf
    have := hJy z w' hz
    rw [ap_lam] at this
    exact hy v _ K a' w' this hAz b k cs hb

theorem sound_loop {x : Code} (hx : SoundC T n D x) {sl : List Slot} {kept : List Nat} {u : Ann} {ρ : Env} {K : Exit → Env → F} {a : Act} {w : World}
    (h : cexec T n D (.loop x) (.l sl kept u) ρ K w) (hA : Agr n a ρ) (b : Frame) (k : List Item) (cs : List Frame) (hb : b.kind = .normal) :
    EndsK T.P n (.loop x) a K (lone (b.at a (.code (.loop x) :: k)) cs w) b k cs := by
  simp only [cexec] at h
  cases hok : keeps kept x && slotsOk sl with
  | false => rw [hok] at h; exact h.elim
  | true =>
    rw [hok] at h
    simp only [cond_true] at h
    simp only [Bool.and_eq_true] at hok
    unfold loopC at h
    obtain ⟨z0, hz0, hA0⟩ := withSlots_ok hok.2 hA (ρk := ρ) (kept := kept) (fun t v _ hv => hA.val t v hv) h
    obtain ⟨I, μ, hI0, hround⟩ := hz0
    have key : ∀ m z a1 w1, μ z w1 = m → I z w1 → Agr n a1 (after ρ sl kept z) → KeepC x a a1 →
        ∃ e a' ρ' w', K e ρ' w' ∧ Agr n a' ρ' ∧ KeepC x a a' ∧ Arrives T.P (lone (b.at a1 (.code x :: .inLoop x :: k)) cs w1) b k cs e a' w' := by
      intro m
      induction m using Nat.strongRecOn with
      | _ m ih =>
        intro z a1 w1 hm hI hA1 hk1
        have hr := hround z w1 hI
        rw [ap_lam] at hr
        obtain ⟨e, a2, ρ2, w2, hq, hA2, hkp, harr⟩ := hx u _ _ a1 w1 hr hA1 b (.inLoop x :: k) cs hb
        have hk2 : KeepC x a a2 := fun kept hkt t ht => by rw [hkp kept hkt t ht, hk1 kept hkt t ht]
        cases e with
        | normal =>
          obtain ⟨z', hz', hA'⟩ := withSlots_ok hok.2 hA2 (ρk := ρ) (kept := kept) (fun t v ht hv => by rw [hk2 kept hok.1 t ht]; exact hA.val t v hv) hq
          obtain ⟨e3, a3, ρ3, w3, hq3, hA3, hk3, harr3⟩ := ih (μ z' w2) (hm ▸ hz'.2) z' a2 w2 rfl hz'.1 hA' hk2
          exact ⟨e3, a3, ρ3, w3, hq3, hA3, hk3, .of_steps (Steps.trans harr (.one step_inLoop)) harr3⟩
        | exit id => exact ⟨_, a2, ρ2, w2, hq, hA2, hk2, .pass (x := .inLoop x) rfl (fun _ _ => .inl (by simp)) harr⟩
        | goto l => exact ⟨_, a2, ρ2, w2, hq, hA2, hk2, .pass (x := .inLoop x) rfl (fun _ _ => .inl (by simp)) harr⟩
        | ret => exact ⟨_, a2, ρ2, w2, hq, hA2, hk2, .pass (x := .inLoop x) rfl (fun _ _ => .inl (by simp)) harr⟩
        | panic ch => exact ⟨_, a2, ρ2, w2, hq, hA2, hk2, .pass (x := .inLoop x) rfl (fun _ _ => .inl (by simp)) harr⟩
        | outgrown => exact ⟨_, a2, ρ2, w2, hq, hA2, hk2, .pass (x := .inLoop x) rfl (fun _ _ => .inl (by simp)) harr⟩
    obtain ⟨e, a', ρ', w', hq, hA', hk', harr⟩ := key _ z0 a w rfl hI0 hA0 (fun _ _ _ _ => rfl)
    exact ⟨e, a', ρ', w', hq, hA', hk', .of_steps (.one step_loop) harr⟩

theorem csound (hT : TabOk T) : ∀ c : Code, SoundC T n D c := by
  intro c
  induction c with
  | skip => intro ann ρ K a w h hA b k cs hb; exact ⟨.normal, a, ρ, w, by simpa [cexec] using h, hA, fun _ _ _ _ => rfl, .one step_skip⟩
  | label l => intro ann ρ K a w h hA b k cs hb; exact ⟨.normal, a, ρ, w, by simpa [cexec] using h, hA, fun _ _ _ _ => rfl, .one step_label⟩
  | region id ops d =>
    intro ann ρ K a w h hA b k cs hb
    cases d with
    | false =>
      simp only [cexec] at h
      obtain ⟨a', w', ⟨⟨ρ', hk, hA'⟩, hkp⟩, hs⟩ := region_ok hT h hA b k cs hb
      exact ⟨.normal, a', ρ', w', hk, hA', keepC_of hkp, hs⟩
    | true =>
      simp only [cexec] at h
      cases hd : drawsOf id D with
      | none => rw [hd] at h; exact h.elim
      | some mo =>
        rw [hd] at h
        obtain ⟨masks, ords⟩ := mo
        simp only at h
        cases hok : drawOk ops.toList masks ords with
        | false => rw [hok] at h; exact h.elim
        | true =>
          rw [hok] at h
          simp only [cond_true] at h
          obtain ⟨a', w', ⟨⟨ρ', hk, hA'⟩, hkp⟩, hs⟩ := draw_region hT hok h hA b k cs hb
          exact ⟨.normal, a', ρ', w', hk, hA', keepC_of hkp, hs⟩
  | seq x y hx hy =>
    intro ann ρ K a w h hA b k cs hb
    have hplain : ∀ ax ay, cexec T n D x ax ρ (onNormal (fun ρ' => cexec T n D y ay ρ' K) K) w → EndsK T.P n (.seq x y) a K (lone (b.at a (.code (.seq x y) :: k)) cs w) b k cs :=
      fun ax ay h => sound_seq hx h hA b k cs hb (fun ρ' a' w' hf hA' _ => hy ay ρ' K a' w' hf hA' b k cs hb)
    cases ann with
    | s j u v =>
      cases j with
      | none => simp only [cexec] at h; exact hplain _ _ h
      | some sk => obtain ⟨sl, kept⟩ := sk; exact sound_join hx hy h hA b k cs hb
    | e => simp only [cexec] at h; exact hplain _ _ h
    | c _ _ => simp only [cexec] at h; exact hplain _ _ h
    | b _ => simp only [cexec] at h; exact hplain _ _ h
    | l _ _ _ => simp only [cexec] at h; exact hplain _ _ h
  | cond c x y hx hy =>
    intro ann ρ K a w h hA b k cs hb
    simp only [cexec] at h
    cases hev : ev ρ c with
    | none => rw [hev] at h; exact h.elim
    | some v =>
      rw [hev] at h
      have hc := ev_ok hA hev
      cases v with
      | bool t =>
        simp only at h
        cases t with
        | true =>
          obtain ⟨e, a', ρ', w', hq, hA', hk, harr⟩ := hx _ ρ K a w h hA b k cs hb
          exact ⟨e, a', ρ', w', hq, hA', fun kept hkt t ht => hk kept (by simp only [keeps, Bool.and_eq_true] at hkt; exact hkt.1) t ht, .of_steps (.one (step_cond hc)) harr⟩
        | false =>
          obtain ⟨e, a', ρ', w', hq, hA', hk, harr⟩ := hy _ ρ K a w h hA b k cs hb
          exact ⟨e, a', ρ', w', hq, hA', fun kept hkt t ht => hk kept (by simp only [keeps, Bool.and_eq_true] at hkt; exact hkt.2) t ht, .of_steps (.one (step_cond hc)) harr⟩
      | _ => exact h.elim
  | block id x hx =>
    intro ann ρ K a w h hA b k cs hb
    simp only [cexec] at h
    obtain ⟨e, a1, ρ1, w1, hq, hA1, hk, harr⟩ := hx _ ρ _ a w h hA b (.inBlock id :: k) cs hb
    cases e with
    | normal => exact ⟨.normal, a1, ρ1, w1, hq, hA1, hk, .head step_block (Steps.trans harr (.one step_inBlock))⟩
    | exit id' =>
      simp only [exitB] at hq
      cases hid : Nat.beq id' id with
      | true =>
        rw [hid] at hq
        have hid' := Nat.eq_of_beq_eq_true hid
        exact ⟨.normal, a1, ρ1, w1, hq, hA1, hk, .head step_block (harr k (by simp [exitTo, hid']))⟩
      | false =>
        rw [hid] at hq
        have hid' := Nat.ne_of_beq_eq_false hid
        refine ⟨.exit id', a1, ρ1, w1, hq, hA1, hk, fun k' hk' => .head step_block (harr k' ?_)⟩
        have : (id == id') = false := by simpa using fun h => hid' h.symm
        simp [exitTo, this, hk']
    | goto l => exact ⟨_, a1, ρ1, w1, hq, hA1, hk, fun k' hk' => .head step_block (harr k' (by simp [gotoIn, hk']))⟩
    | ret => exact ⟨_, a1, ρ1, w1, hq, hA1, hk, .of_steps (.one step_block) harr⟩
    | panic ch => exact ⟨_, a1, ρ1, w1, hq, hA1, hk, .of_steps (.one step_block) harr⟩
    | outgrown => exact ⟨_, a1, ρ1, w1, hq, hA1, hk, .of_steps (b := b) (k := k) (cs := cs) (e := .outgrown) (.one step_block) harr⟩
  | loop x hx =>
    intro ann ρ K a w h hA b k cs hb
    cases ann with
    | l sl kept u => exact sound_loop hx h hA b k cs hb
    | e => simp only [cexec] at h; exact h.elim
    | c _ _ => simp only [cexec] at h; exact h.elim
    | b _ => simp only [cexec] at h; exact h.elim
    | s _ _ _ => simp only [cexec] at h; exact h.elim
  | scope x hx =>
    intro ann ρ K a w h hA b k cs hb
    simp only [cexec] at h
    obtain ⟨e, a1, ρ1, w1, hq, hA1, hk, harr⟩ := hx _ ρ _ a w h hA b (.inScope x :: k) cs hb
    cases e with
    | normal => exact ⟨.normal, a1, ρ1, w1, hq, hA1, hk, .head step_scope (Steps.trans harr (.one step_inScope))⟩
    | exit id => exact ⟨.exit id, a1, ρ1, w1, hq, hA1, hk, fun k' hk' => .head step_scope (harr k' (by simp [exitTo, hk']))⟩
    | goto l => exact hq.elim
    | ret => exact ⟨_, a1, ρ1, w1, hq, hA1, hk, .of_steps (.one step_scope) harr⟩
    | panic ch => exact ⟨_, a1, ρ1, w1, hq, hA1, hk, .of_steps (.one step_scope) harr⟩
    | outgrown => exact ⟨_, a1, ρ1, w1, hq, hA1, hk, .of_steps (.one step_scope) harr⟩
  | exit id => intro ann ρ K a w h hA b k cs hb; exact ⟨.exit id, a, ρ, w, by simpa [cexec] using h, hA, fun _ _ _ _ => rfl, fun _ hk => .one (step_exit hk)⟩
  | ret => intro ann ρ K a w h hA b k cs hb; exact ⟨.ret, a, ρ, w, by simpa [cexec] using h, hA, fun _ _ _ _ => rfl, _, .one step_ret⟩
  | _ => intro ann ρ K a w h; simp only [cexec] at h; exact h.elim
end Go.Eng
namespace Go.Eng
open Go
variable {P : Program} {T : Tab} {n : Nat} {D : Draws}

def resOne (tmps : Array Value) : ResultVar → Sem Value
  | .tmp t => pure (tmps.getD t undef)
  | .cell a t => do loadVar t (← asAddr (tmps.getD a undef))
theorem retVs_ok (hT : TabOk T) {a : Act} {ρ : Env} {w : World} (hA : Agr n a ρ) : ∀ (l : List ResultVar) (acc : List Value) (k : List Value → F), retVs T ρ l acc k w →
    ∃ vs, (l.mapM (resOne a.tmps)).run T.P w = .ok vs w ∧ k (acc.reverse ++ vs) w
  | [], acc, k, h => ⟨[], by simp, by simpa [retVs] using h⟩
  | .tmp t :: l, acc, k, h => by
    simp only [retVs] at h
    cases hv : ρ t with
    | none => rw [hv] at h; exact h.elim
    | some v =>
      rw [hv] at h
      obtain ⟨vs, h1, h2⟩ := retVs_ok hT hA l _ k h
      refine ⟨v :: vs, ?_, by simpa using h2⟩
      simp [List.mapM_cons, resOne, h1, hA.val t v hv]
  | .cell t ty :: l, acc, k, h => by
    simp only [retVs] at h
    cases hv : ρ t with
    | none => rw [hv] at h; exact h.elim
    | some v =>
      rw [hv] at h
      cases v with
      | pointer q =>
        cases q with
        | none => exact h.elim
        | some q =>
          obtain ⟨b, o, sub⟩ := q
          cases sub with
          | some _ => exact h.elim
          | none =>
            cases hi : T.ti ty with
            | none => rw [hi] at h; exact h.elim
            | some i =>
              rw [hi] at h
              simp only at h
              cases hl : Nat.beq i.lvs.length i.size with
              | false => rw [hl] at h; exact h.elim
              | true =>
                rw [hl] at h
                simp only [cond_true] at h
                obtain ⟨v, hv1, hv2⟩ := rd_ok hT hi h (Nat.eq_of_beq_eq_true hl)
                obtain ⟨vs, h1, h2⟩ := retVs_ok hT hA l _ k hv2
                refine ⟨v :: vs, ?_, by simpa using h2⟩
                simp [List.mapM_cons, resOne, h1, hA.val t _ hv, asAddr, hv1]
      | _ => exact h.elim
theorem results_ok (hT : TabOk T) {a : Act} {ρ : Env} {w : World} {fn : Func} {R : Ending → World → Prop} (hA : Agr n a ρ) (h : retF T fn.results.toList R ρ w) :
    ∃ v, (results fn a.tmps).run T.P w = .ok v w ∧ R (.returned v) w := by
  obtain ⟨vs, h1, h2⟩ := retVs_ok hT hA fn.results.toList [] _ h
  refine ⟨tup vs, ?_, by simpa [ret] using h2⟩
  have hm : results fn a.tmps = (fn.results.mapM (resOne a.tmps)) >>= fun vs => pure (if h : vs.size = 1 then vs[0] else .tuple vs) := by
    unfold results
    congr 1
  rw [hm, Array.mapM_eq_mapM_toList]
  simp only [Sem.run_bind, Sem.run_map, h1, Result.andThen_ok, Sem.run_pure]
  cases vs with
  | nil => simp [tup]
  | cons v vs =>
    cases vs with
    | nil => simp [tup]
    | cons u vs => simp [tup]
theorem env0_at : ∀ (args : List Value) (i t : Nat) (v : Value), env0 args i t = some v → i ≤ t ∧ args[t - i]? = some v
  | [], _, _, _, h => by cases h
  | x :: l, i, t, v, h => by
    simp only [env0, put] at h
    cases hb : Nat.beq t i with
    | true =>
      rw [hb] at h
      have := Nat.eq_of_beq_eq_true hb
      subst this
      exact ⟨Nat.le_refl _, by simpa using h⟩
    | false =>
      rw [hb] at h
      have hne := Nat.ne_of_beq_eq_false hb
      obtain ⟨h1, h2⟩ := env0_at l (i + 1) t v h
      refine ⟨by omega, ?_⟩
      rw [show t - i = (t - (i + 1)) + 1 from by omega]
      simpa using h2
theorem cfun_ok (hT : TabOk T) {f : FuncId} {fn : Func} {c : Code} {ann : Ann} {args : List Value} {R : Ending → World → Prop} {w : World}
    (hf : T.P.funcs[f]? = some fn) (hb : fn.body = some c) (hlen : args.length ≤ fn.ntmps) (h : cfun T D fn c ann args R w) :
    Calls T.P f args.toArray w R := by
  intro cs
  let b : Frame := { (default : Frame) with fn := f, kind := .normal }
  have henter : Frame.enter T.P f args.toArray .normal =
      b.at { tmps := args.toArray ++ Array.replicate (fn.ntmps - args.toArray.size) undef, defers := [] } [.code c] := by
    simp [Frame.enter, Frame.at, hf, hb, b]
  have hA : Agr fn.ntmps { tmps := args.toArray ++ Array.replicate (fn.ntmps - args.toArray.size) undef, defers := [] } (env0 args 0) := by
    refine ⟨by simp; omega, rfl, fun t v ht => ?_⟩
    have := (env0_at args 0 t v ht).2
    rw [Nat.sub_zero] at this
    have hlt : t < args.length := by
      rcases Nat.lt_or_ge t args.length with h | h
      · exact h
      · rw [List.getElem?_eq_none h] at this; cases this
    simp only [Array.getD_eq_getD_getElem?]
    rw [Array.getElem?_append_left (by simpa using hlt)]
    simp [this]
  obtain ⟨e, a', ρ', w', hq, hA', _, harr⟩ := csound hT c ann _ _ _ w h hA b [] cs rfl
  rw [← henter] at harr
  cases e with
  | normal =>
    obtain ⟨v, hr, hR⟩ := results_ok hT hA' hq
    exact ⟨.returned v, w', _, hR, Steps.trans harr (.one step_end), rfl, rfl, hA'.defers, rfl, fn, hf, hr⟩
  | ret =>
    obtain ⟨v, hr, hR⟩ := results_ok hT hA' hq
    obtain ⟨todo, hs⟩ := harr
    exact ⟨.returned v, w', _, hR, hs, rfl, rfl, hA'.defers, rfl, fn, hf, hr⟩
  | panic chain => exact hq.elim
  | exit id => exact hq.elim
  | goto l => exact hq.elim
  | outgrown => exact hq.elim
/-- From the printed formula to the call. -/
theorem cfun_sound (hT : TabOk T) {f : FuncId} {fn : Func} {c : Code} (ann : Ann) {args : List Value} {R : Ending → World → Prop} {w : World} {G : F}
    (hf : T.P.funcs[f]? = some fn) (hb : fn.body = some c) (hlen : Nat.ble args.length fn.ntmps = true) (he : cfun T D fn c ann args R = G) (h : G w) :
    Calls T.P f args.toArray w R := cfun_ok (D := D) (ann := ann) hT hf hb (Nat.le_of_ble_eq_true hlen) (he ▸ h)
end Go.Eng
namespace Go.Eng
open Go
noncomputable def bodyOf (fn : Func) : Code := match fn.body with | some c => c | none => .skip
abbrev reL (b o : Nat) (v : Value) : F := fun w => w.cell? (A b o) = some v
abbrev reR (b o : Nat) (vs : List Value) : F := fun w => cellsAt w b o vs
end Go.Eng
