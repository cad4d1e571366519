/- Parts of the proof: An executor of closed runs over a memory of its own: what it does. The executor of closed runs, part 2: how its memory stands to a world. The executor of closed runs, part 3: its memory and a world, step by step. The executor of closed runs, part 4: what one step does, it does in the world. The executor of closed runs, part 5: what one step does, it does in the world (more of them). The executor of closed runs, part 6: appends, copies, calls. The executor of closed runs, part 7: copies, calls, channels. The executor of closed runs, part 8: what an operation comes to, here and there. The executor of closed runs, part 9: what an operation comes to, here and there (the operations). Conditions: none. -/
import Derived.Test.YtaihkmfihgaegaaGreatEngA
import Derived.Below
import Derived.Laws.IdiomCopy
namespace Go.Eng
open Go

/-! ### Tables by numbers -/
inductive Tr (α : Type) where
  | lf
  | nd (l : Tr α) (v : Option α) (r : Tr α)
def Tr.get {α : Type} : Tr α → Nat → Option α
  | .lf, _ => none
  | .nd l v r, k => match k with
    | 0 => v
    | j + 1 => bif Nat.beq (j % 2) 0 then l.get (j / 2) else r.get (j / 2)
def Tr.setF {α : Type} : Nat → Tr α → Nat → α → Tr α
  | 0, t, _, _ => t
  | f + 1, .lf, k, x => match k with
    | 0 => .nd .lf (some x) .lf
    | j + 1 => bif Nat.beq (j % 2) 0 then .nd (Tr.setF f .lf (j / 2) x) none .lf else .nd .lf none (Tr.setF f .lf (j / 2) x)
  | f + 1, .nd l v r, k, x => match k with
    | 0 => .nd l (some x) r
    | j + 1 => bif Nat.beq (j % 2) 0 then .nd (Tr.setF f l (j / 2) x) v r else .nd l v (Tr.setF f r (j / 2) x)
def Tr.set {α : Type} (t : Tr α) (k : Nat) (x : α) : Tr α := Tr.setF (k + 1) t k x

/-! ### The memory: blocks have numbers of its own -/
inductive AO where
  | row (g : Option Nat) (vs : List Value)
  | mp (es : List (Int × Value))
  | ch (cap : Nat) (buf : List Value)
  | dead
structure Mem where
  next : Nat
  t : Tr AO
abbrev X (α : Type) := Option (α × Mem)
def Mem.put (m : Mem) (i : Nat) (o : AO) : Mem := ⟨m.next, m.t.set i o⟩
def Mem.new (m : Mem) (o : AO) (k : Nat → Mem → X Value) : X Value := match m.t.get m.next with
  | none => k m.next ⟨m.next + 1, m.t.set m.next o⟩
  | some _ => none
def takeX (n : Nat) (l : List Value) : Option (List Value) := match n with
  | 0 => some []
  | n + 1 => match l with
    | [] => none
    | v :: l => match takeX n l with
      | some r => some (v :: r)
      | none => none
def setAt : List Value → Nat → List Value → Option (List Value)
  | l, 0, vs => match vs with
    | [] => some l
    | v :: vs => match l with
      | [] => none
      | _ :: l => match setAt l 0 vs with
        | some r => some (v :: r)
        | none => none
  | [], _ + 1, _ => none
  | x :: l, o + 1, vs => match setAt l o vs with
    | some r => some (x :: r)
    | none => none
def Mem.cells (m : Mem) (b o n : Nat) : Option (List Value) := match m.t.get b with
  | some (.row _ vs) => takeX n (vs.drop o)
  | _ => none
/-- The cells of a slice. -/
def Mem.sl (m : Mem) (s : Sl) (size : Nat) : Option (List Value) := match s.len * size with
  | 0 => some []
  | n => match s.a with
    | some ⟨b, o, none⟩ => m.cells b o n
    | _ => none
def shOk : List Sh → List Value → Bool
  | [], [] => true
  | s :: l, v :: vs => (s.un v).isSome && shOk l vs
  | _, _ => false
def bytesOf : List Value → Option (List UInt8)
  | [] => some []
  | .int .u8 n :: l => bif decide (0 ≤ n) && decide (n < 256) then (match bytesOf l with
    | some r => some (UInt8.ofNat n.toNat :: r)
    | none => none) else none
  | _ :: _ => none
def oneAll : List Value → Bool
  | [] => true
  | v :: l => v.oneCell' && oneAll l
/-- Of a call's result: are its cells as the table says. -/
def resOk : List RT → List Value → Bool
  | [], [] => true
  | (true, l) :: rs, .agg cs :: vs => shOk l cs.toList && resOk rs vs
  | (false, [s]) :: rs, v :: vs => v.oneCell' && (s.un v).isSome && resOk rs vs
  | _, _ => false
def resOk1 (rs : List RT) (v : Value) : Bool := match rs, v with
  | [r], v => resOk [r] [v]
  | rs, .tuple vs => resOk rs vs.toList
  | _, _ => false
def mapGet (k : Int) : List (Int × Value) → Option Value
  | [] => none
  | (j, v) :: l => bif decide (j = k) then some v else mapGet k l
def fits (bytes need : Nat) : Bool := Nat.ble (need * bytes) 140737488355328 && Nat.blt need 9223372036854775808
def slv (s : Sl) : Value := .slice s.a s.len s.cap
def xapd (size bytes : Nat) (s src : Sl) (m : Mem) : X Value := match m.sl src size with
  | none => none
  | some new => bif !oneAll new then none else match s.a with
    | none => bif Nat.beq s.len 0 && Nat.beq s.cap 0 then
        bif Nat.beq src.len 0 then some (.slice none 0 0, m)
        else bif fits bytes src.len then m.new (.row (some size) new) fun j m => some (.slice (some (A j 0)) src.len src.len, m) else none
      else none
    | some ⟨b, o, none⟩ => match m.t.get b with
      | some (.row none vs) => bif Nat.ble (s.len + src.len) s.cap then
          match setAt vs (o + s.len * size) new with
          | some vs' => some (.slice s.a (s.len + src.len) s.cap, m.put b (.row none vs'))
          | none => none
        else bif fits bytes (s.len + src.len) then
          match takeX (s.len * size) (vs.drop o) with
          | some old => m.new (.row (some size) (old ++ new)) fun j m => some (.slice (some (A j 0)) (s.len + src.len) (s.len + src.len), m)
          | none => none
        else none
      | some (.row (some z) vs) => bif Nat.beq src.len 0 then some (slv s, m)
        else bif Nat.beq z size && Nat.beq (o + s.len * size) vs.length && Nat.blt 0 size && fits bytes (s.len + src.len) then
          (m.put b .dead).new (.row (some size) (vs.drop o ++ new)) fun j m => some (.slice (some (A j 0)) (s.len + src.len) (s.len + src.len), m)
        else none
      | _ => none
    | _ => none
def xcpy (size : Nat) (d src : Sl) (m : Mem) : X Value :=
  let n := min src.len d.len
  match m.sl ⟨src.a, n, n⟩ size with
  | none => none
  | some new => bif !oneAll new then none else match new with
    | [] => some (.int .i64 n, m)
    | new => match d.a with
      | some ⟨b, o, none⟩ => match m.t.get b with
        | some (.row g vs) => match setAt vs o new with
          | some vs' => some (.int .i64 n, m.put b (.row g vs'))
          | none => none
        | _ => none
      | _ => none
abbrev CallX := Nat → List Value → Mem → X Value
def argsOk : List Value → Bool
  | [] => true
  | .tuple _ :: _ => false
  | _ :: l => argsOk l
def xcall (C : CallX) (f : Nat) (args : List Value) (rs : List RT) (m : Mem) : X Value := bif argsOk args then (match C f args m with
  | some (v, m) => bif resOk1 rs v then some (v, m) else none
  | none => none) else none
def plainV : Value → Bool
  | .func _ _ _ | .agg _ | .tuple _ => false
  | _ => true
def plainVs : List Value → Bool
  | [] => true
  | v :: l => plainV v && plainVs l
/-- Is a value put together well. -/
def valOk : Value → Bool
  | .agg cs => oneAll cs.toList
  | .func _ a b => plainVs a.toList && plainVs b.toList
  | _ => true
/-- A primitive. -/
def xprim (C : CallX) (p : Prim) (m : Mem) : X Value := match p with
  | .val v => bif valOk v then some (v, m) else none
  | .chk _ v => some (v, m)
  | .pick c x y => match (bif c then x else y) with
    | some v => some (v, m)
    | none => none
  | .nn (some ⟨b, o, none⟩) => some (.pointer (some ⟨b, o, none⟩), m)
  | .ix (some ⟨b, o, none⟩) len i size => bif decide (0 ≤ i) && decide (i < len) then some (.pointer (some (A b (o + i.toNat * size))), m) else none
  | .rd g l b o => match m.cells b o l.length with
    | some vs => bif shOk l vs then (bif g then some (.agg vs.toArray, m) else match vs with
      | [v] => some (v, m)
      | _ => none) else none
    | none => none
  | .bstr s => match m.sl s 1 with
    | some vs => match bytesOf vs with
      | some l => some (.string ⟨l.toArray⟩, m)
      | none => none
    | none => none
  | .sts b o vs => bif oneAll vs then (match m.t.get b with
      | some (.row g us) => match setAt us o vs with
        | some us' => some (undef, m.put b (.row g us'))
        | none => none
      | _ => none) else none
  | .nw cells _ => bif oneAll cells then m.new (.row none cells) fun j m => some (.pointer (some (A j 0)), m) else none
  | .nws cells _ n => bif oneAll cells then m.new (.row none cells) fun j m => some (.slice (some (A j 0)) n n, m) else none
  | .mks size bytes _ zero n c => bif decide (0 ≤ n) && decide (n ≤ c) && Nat.ble (bytes * c.toNat) 281474976710656 && Nat.blt c.toNat 9223372036854775808 && Nat.beq zero.length size && Nat.blt 0 size then
      m.new (.row none (rep zero c.toNat)) fun j m => some (.slice (some (A j 0)) n.toNat c.toNat, m) else none
  | .sbts _ x => m.new (.row (some 1) (x.data.toList.map fun c => .int .u8 c.toNat)) fun j m => some (.slice (some (A j 0)) x.size x.size, m)
  | .apd size bytes _ zero s src => bif Nat.beq zero.length size && Nat.blt 0 size then xapd size bytes s src m else none
  | .cpy size d src => xcpy size d src m
  | .call f args rs => xcall C f args rs m
  | .callv (.func (.func f) first cap) args rs => xcall C f (first.toList ++ args ++ cap.toList) rs m
  | .selR (some r) => match m.t.get r with
    | some (.ch c buf) => match buf with
      | [] => some (.tuple #[.int .i64 (-1), .bool false, .int .i64 0], m)
      | .int .i64 x :: rest => some (.tuple #[.int .i64 0, .bool true, .int .i64 x], m.put r (.ch c rest))
      | _ => none
    | _ => none
  | .selS (some r) (.int k x) => match m.t.get r with
    | some (.ch c buf) => bif Nat.ble c buf.length then some (.tuple #[.int .i64 (-1), .bool false], m) else
        some (.tuple #[.int .i64 0, .bool false], m.put r (.ch c (buf ++ [.int k x])))
    | _ => none
  | _ => none

/-! ### Operations -/
def flatV : Value → Bool
  | .bool _ | .int _ _ | .string _ | .pointer none | .slice none _ _ | .map none | .chan none | .nilFunc | .nilIface => true
  | .func _ a b => Nat.beq a.size 0 && Nat.beq b.size 0
  | _ => false
def flatVs : List Value → Bool
  | [] => true
  | v :: l => flatV v && flatVs l
def flatA : Value → Bool
  | .agg cs => flatVs cs.toList
  | v => flatV v
def flatO : Operand → Bool
  | .const v => flatA v
  | .global _ => false
  | _ => true
def flatOs : List Operand → Bool
  | [] => true
  | x :: l => flatO x && flatOs l
/-- Does the condition of an operation hold. -/
def chkOk (ρ : Env) : Op → Bool
  | .binOp op _ x y _ => match ev ρ x, ev ρ y with
    | some a, some .nilFunc => (match a with | .nilFunc => true | .func _ _ _ => true | _ => false)
    | some (.string a), some (.string b) => (match op with | .add => Nat.ble (a.size + b.size) 9223372036854775807 | _ => true)
    | some (.int _ _), some (.int _ b) => (match op with
      | .shl | .shr => decide (0 ≤ b)
      | .quo | .rem => !decide (b = 0)
      | _ => true)
    | _, _ => true
  | .index _ x i => match ev ρ x, ev ρ i with
    | some (.string s), some (.int _ n) => decide (0 ≤ n) && decide (n < s.size)
    | _, _ => true
  | .slice _ x lo hi _ => match ev ρ x, evo ρ lo, evo ρ hi with
    | some (.string s), some (some (.int _ l)), some none => decide (0 ≤ l) && decide (l ≤ s.size)
    | some (.string s), some none, some (some (.int _ h)) => decide (0 ≤ h) && decide (h ≤ s.size)
    | some (.string s), some (some (.int _ l)), some (some (.int _ h)) => decide (0 ≤ h) && decide (h ≤ s.size) && decide (0 ≤ l) && decide (l ≤ h)
    | _, _, _ => true
  | _ => true
def intO : Option Value → Nat → Option Nat
  | none, d => some d
  | some (.int _ n), _ => bif decide (0 ≤ n) then some n.toNat else none
  | _, _ => none
/-- s[low:high]. -/
def xslice (T : Tab) (ρ : Env) (t : Nat) (x : Operand) (lo hi : Option Operand) (m : Mem) : X Value := match T.ti t, ev ρ x, evo ρ lo, evo ρ hi with
  | some ⟨.sl e, _, _, _, _⟩, some (.slice a l c), some lv, some hv => match T.ti e with
    | some i => match a with
      | none => match intO lv 0, intO hv l with
        | some low, some high => bif Nat.beq low 0 && Nat.beq high 0 && Nat.beq l 0 && Nat.beq c 0 then some (.slice none 0 0, m) else none
        | _, _ => none
      | some ⟨b, o, none⟩ => match intO lv 0, intO hv l, m.t.get b with
        | some low, some high, some (.row none _) => bif Nat.ble low high && Nat.ble high c && Nat.ble l c then
            some (.slice (some (A b (bif Nat.beq c low then o else o + low * i.size))) (high - low) (c - low), m) else none
        | some low, some high, some (.row (some z) _) => bif Nat.ble low high && Nat.ble high l && Nat.beq z i.size then
            (bif Nat.beq low 0 || Nat.blt low l then some (.slice (some (A b (o + low * i.size))) (high - low) (high - low), m) else some (.slice (some ⟨0, 0, some 0⟩) 0 0, m)) else none
        | _, _, _ => none
      | _ => none
    | none => none
  | _, _, _, _ => none
def bytesT (T : Tab) (t : Nat) : Option Nat := match T.ti t with
  | some i => some i.bytes
  | none => none
/-- The operations on maps and channels. -/
def xraw (T : Tab) (ρ : Env) (m : Mem) : Op → X Value
  | .makeMap _ none => m.new (.mp []) fun j m => some (.map (some j), m)
  | .makeChan t x => match T.ti t, ev ρ x with
    | some ⟨.ch e, _, _, _, _⟩, some (.int .i64 n) => match bytesT T e with
      | some b => bif decide (0 ≤ n) && decide (n ≤ 1000) && Nat.ble b 1000 then m.new (.ch n.toNat []) fun j m => some (.chan (some j), m) else none
      | none => none
    | _, _ => none
  | .lookup t x i ok => match T.ti t, ev ρ x, ev ρ i with
    | some ⟨.mp k e, _, _, _, _⟩, some (.map (some r)), some (.int .i64 key) => match T.ti k, T.ti e, m.t.get r with
      | some ⟨.int .i64, _, _, _, _⟩, some j, some (.mp es) => match mapGet key es with
        | some v => bif shOk j.lvs [v] then some (bif ok then .tuple #[v, .bool true] else v, m) else none
        | none => match j.zero with
          | [z] => bif j.und.agg || !shOk j.lvs [z] then none else some (bif ok then .tuple #[z, .bool false] else z, m)
          | _ => none
      | _, _, _ => none
    | _, _, _ => none
  | .mapUpdate t x k v => match T.ti t, ev ρ x, ev ρ k, ev ρ v with
    | some ⟨.mp kt _, _, _, _, _⟩, some (.map (some r)), some (.int .i64 key), some v => match T.ti kt, m.t.get r with
      | some ⟨.int .i64, _, _, _, _⟩, some (.mp es) => (match mapGet key es with
        | none => bif v.oneCell' then some (undef, m.put r (.mp (es ++ [(key, v)]))) else none
        | some _ => none)
      | _, _ => none
    | _, _, _, _ => none
  | .call c => match c.callee, c.argTypes.toList, evs ρ c.args.toList with
    | .builtin .len, [t], some [.chan (some r)] => match T.ti t, m.t.get r with
      | some ⟨.ch _, _, _, _, _⟩, some (.ch _ buf) => some (.int .i64 buf.length, m)
      | _, _ => none
    | _, _, _ => none
  | .convert s d x => bif Nat.beq s d then (match T.ti s, ev ρ x with
    | some ⟨.sl e, _, _, _, _⟩, some (.slice (some ⟨b, o, none⟩) l c) => match T.ti e, m.t.get b with
      | some ⟨.int .u8, _, _, _, _⟩, some (.row g (y :: vs)) => some (.slice (some ⟨b, o, none⟩) l c, m.put b (.row g (y :: vs)))
      | _, _ => none
    | _, _ => none) else none
  | _ => none
def isRaw (T : Tab) (ρ : Env) : Op → Bool
  | .makeMap _ _ | .makeChan _ _ | .lookup _ _ _ _ | .mapUpdate _ _ _ _ => true
  | .convert s d _ => match T.ti s, T.ti d with
    | some ⟨.sl _, _, _, _, _⟩, some ⟨.sl _, _, _, _, _⟩ => true
    | _, _ => false
  | .call c => match c.callee, evs ρ c.args.toList with
    | .builtin .len, some [.chan _] => true
    | _, _ => false
  | _ => false
def isDull : Op → Bool
  | .makeInterface .. | .mapEntry .. | .entryStore .. | .range .. | .next .. | .entry .. => true
  | .call c => match c.callee with
    | .builtin .cap | .builtin .clear | .builtin .delete => true
    | _ => false
  | _ => false
def xgo (T : Tab) (n : Nat) (C : CallX) (o : Oper) (ρ : Env) (quiet : Bool) (m : Mem) : X Value :=
  bif okDst n o.dst && flatOs o.op.operands.toList then
    match o.op with
    | .slice t x lo hi none => (match ev ρ x with
      | some (.slice _ _ _) => xslice T ρ t x lo hi m
      | _ => bif chkOk ρ o.op then (match resolve T ρ o.type o.op with
        | some p => bif quiet && p.eff then none else xprim C p m
        | none => none) else none)
    | op => bif isRaw T ρ op then (bif quiet then none else xraw T ρ m op) else bif isDull op then none else
      bif chkOk ρ op then (match resolve T ρ o.type op with
        | some p => bif quiet && p.eff then none else xprim C p m
        | none => none) else none
  else none
def xop (T : Tab) (n : Nat) (C : CallX) (ops : List Oper) (o : Oper) (ρ : Env) (quiet : Bool) (m : Mem) : X Value := match o.guard with
  | none => xgo T n C o ρ quiet m
  | some (j, want) => match dstOf ops j with
    | some d => match ρ d with
      | some (.bool c) => bif c == want then xgo T n C o ρ quiet m else some (undef, m)
      | some (.tuple _) => some (undef, m)
      | _ => none
    | none => none
abbrev E := Tr Value
def E.putd (e : E) (d : Option Nat) (v : Value) : E := match d with
  | some d => e.set d v
  | none => e
def xops (T : Tab) (n : Nat) (C : CallX) (ops : List Oper) : List Oper → E → Mem → X E
  | [], e, m => some (e, m)
  | o :: l, e, m => match xop T n C ops o e.get false m with
    | some (v, m) => xops T n C ops l (e.putd o.dst v) m
    | none => none

/-! ### Equal values -/
def sameS : Value → Value → Bool
  | .bool a, .bool b => a == b
  | .int j a, .int k b => decide (j = k) && decide (a = b)
  | .string a, .string b => decide (a.data.toList = b.data.toList)
  | .pointer none, .pointer none => true
  | .pointer (some a), .pointer (some b) => Nat.beq a.block b.block && Nat.beq a.off b.off && a.spot.isNone && b.spot.isNone
  | .slice none l c, .slice none l' c' => Nat.beq l l' && Nat.beq c c'
  | .slice (some a) l c, .slice (some b) l' c' => Nat.beq a.block b.block && Nat.beq a.off b.off && a.spot.isNone && b.spot.isNone && Nat.beq l l' && Nat.beq c c'
  | .map none, .map none => true
  | .map (some a), .map (some b) => Nat.beq a b
  | .chan none, .chan none => true
  | .chan (some a), .chan (some b) => Nat.beq a b
  | .nilFunc, .nilFunc => true
  | .nilIface, .nilIface => true
  | _, _ => false
def sameL : List Value → List Value → Bool
  | [], [] => true
  | x :: l, y :: r => sameS x y && sameL l r
  | _, _ => false
def sameA : Value → Value → Bool
  | .agg a, .agg b => sameL a.toList b.toList
  | a, b => sameS a b
def sameLA : List Value → List Value → Bool
  | [], [] => true
  | x :: l, y :: r => sameA x y && sameLA l r
  | _, _ => false
def sameV : Value → Value → Bool
  | .tuple a, .tuple b => sameLA a.toList b.toList
  | a, b => sameA a b
def sameM : List (Int × Value) → List (Int × Value) → Bool
  | [], [] => true
  | (j, x) :: l, (k, y) :: r => decide (j = k) && sameS x y && sameM l r
  | _, _ => false
def sameO : AO → AO → Bool
  | .row none a, .row none b => sameL a b
  | .row (some g) a, .row (some h) b => Nat.beq g h && sameL a b
  | .mp a, .mp b => sameM a b
  | .ch c a, .ch d b => Nat.beq c d && sameL a b
  | .dead, .dead => true
  | _, _ => false
def sameT {α : Type} (f : α → α → Bool) : Tr α → Tr α → Bool
  | .lf, .lf => true
  | .nd l v r, .nd l' v' r' => (match v, v' with | none, none => true | some x, some y => f x y | _, _ => false) && sameT f l l' && sameT f r r'
  | _, _ => false
/-! ### Regions that draw -/
abbrev Fl := List (Nat × Prim × Value)
/-- Those that are read ahead read the same again. -/
def rereads (m : Mem) : Fl → Bool
  | [] => true
  | (_, p, v) :: l => (match xprim (fun _ _ _ => none) p m with
    | some (u, _) => sameV v u
    | none => false) && rereads m l
def floatX (k : Nat) : Fl → Fl
  | [] => []
  | (r, x) :: l => bif Nat.testBit k r then floatX k l else (r, x) :: floatX k l
def agX (p : Prim) : Bool := match p with
  | .rd .. | .bstr _ => true
  | _ => false
def wide : Nat := 65536
def rebase (base : Option Nat) (i : Nat) (m : Mem) : Mem := match base with
  | some b => ⟨b + i * wide, m.t⟩
  | none => m
def xrunD (T : Tab) (n : Nat) (C : CallX) (ops : List Oper) (masks : List Nat) (base : Option Nat) : List Nat → Fl → E → Mem → X E
  | [], _, e, m => some (e, m)
  | i :: l, fl, e, m => match ops[i]? with
    | some o =>
      bif effOp o.op then
        (match xop T n C ops o e.get false (rebase base i m) with
        | some (v, m) => bif rereads m (floatX (masks.getD i 0) fl) then xrunD T n C ops masks base l (floatX (masks.getD i 0) fl) (e.putd o.dst v) m else none
        | none => none)
      else (match xop T n C ops o e.get true (rebase base i m) with
        | some (v, m) => xrunD T n C ops masks base l (match resolve T e.get o.type o.op with
          | some p => bif agX p then (i, p, v) :: fl else fl
          | none => fl) (e.putd o.dst v) m
        | none => none)
    | none => none
def sameR : X E → X E → Bool
  | some (e, m), some (e', m') => sameT sameV e e' && sameT sameO m.t m'.t
  | _, _ => false
def xdraw (T : Tab) (n : Nat) (C : CallX) (ops : List Oper) (masks : List Nat) (ords : List (List Nat)) (e : E) (m : Mem) : X E := match ords with
  | [] => none
  | [π] => xrunD T n C ops masks none π [] e m
  | π :: r => let x := xrunD T n C ops masks (some m.next) π [] e m
    bif r.all (fun π' => sameR x (xrunD T n C ops masks (some m.next) π' [] e m)) then (match x with
      | some (e, m') => some (e, ⟨m.next + ops.length * wide, m'.t⟩)
      | none => none) else none
/-! ### Bodies -/
def pick1 (e : E) (ts : List Nat) (r : E) : E := match ts with
  | [] => r
  | t :: l => match e.get t with
    | some v => pick1 e l (r.set t v)
    | none => pick1 e l r
def slotOk (v : Value) (g : Bool) (l : List Sh) : Bool := match g, v with
  | true, .agg cs => shOk l cs.toList
  | true, _ => false
  | false, v => match l with
    | [s] => (s.un v).isSome
    | _ => false
def slots1 (e : E) (sl : List Slot) (r : E) : Option E := match sl with
  | [] => some r
  | (t, g, l) :: sl => match e.get t with
    | some v => bif slotOk v g l then slots1 e sl (r.set t v) else none
    | none => none
abbrev XC := E → Mem → Option (Exit × E × Mem)
def xloop (body : XC) (cut : E → Option E) : Nat → XC
  | 0, _, _ => none
  | f + 1, e, m => match cut e with
    | some e => match body e m with
      | some (.normal, e, m) => xloop body cut f e m
      | r => r
    | none => none
def xcode (T : Tab) (n : Nat) (D : Draws) (C : CallX) (fuel : Nat) : Code → Ann → XC
  | .skip, _, e, m => some (.normal, e, m)
  | .label _, _, e, m => some (.normal, e, m)
  | .region _ ops false, _, e, m => (match xops T n C ops.toList ops.toList e m with
    | some (e, m) => some (.normal, e, m)
    | none => none)
  | .region id ops true, _, e, m => (match drawsOf id D with
    | some (masks, ords) => bif drawOk ops.toList masks ords then (match xdraw T n C ops.toList masks ords e m with
      | some (e, m) => some (.normal, e, m)
      | none => none) else none
    | none => none)
  | .seq x y, .s none a b, e, m => (match xcode T n D C fuel x a e m with
    | some (.normal, e, m) => xcode T n D C fuel y b e m
    | r => r)
  | .seq x y, .s (some (sl, kept)) a b, e, m => bif keeps kept x && slotsOk sl then (match xcode T n D C fuel x a e m with
    | some (.normal, e', m) => (match slots1 e' sl (pick1 e kept .lf) with
      | some e => xcode T n D C fuel y b e m
      | none => none)
    | r => r) else none
  | .seq x y, _, e, m => (match xcode T n D C fuel x .e e m with
    | some (.normal, e, m) => xcode T n D C fuel y .e e m
    | r => r)
  | .cond c x y, ann, e, m => (match ev e.get c with
    | some (.bool t) => bif t then xcode T n D C fuel x (match ann with | .c a _ => a | _ => .e) e m else xcode T n D C fuel y (match ann with | .c _ b => b | _ => .e) e m
    | _ => none)
  | .block id x, ann, e, m => (match xcode T n D C fuel x (match ann with | .b a => a | _ => .e) e m with
    | some (.exit j, e, m) => bif Nat.beq j id then some (.normal, e, m) else some (.exit j, e, m)
    | r => r)
  | .scope x, ann, e, m => (match xcode T n D C fuel x (match ann with | .b a => a | _ => .e) e m with
    | some (.goto _, _, _) => none
    | r => r)
  | .loop x, .l sl kept a, e, m => bif keeps kept x && slotsOk sl then
      xloop (xcode T n D C fuel x a) (fun e' => slots1 e' sl (pick1 e kept .lf)) fuel e m
    else none
  | .exit id, _, e, m => some (.exit id, e, m)
  | .ret, _, e, m => some (.ret, e, m)
  | _, _, _, _ => none
/-! ### Calls -/
def env1 : List Value → Nat → E → E
  | [], _, e => e
  | v :: l, i, e => env1 l (i + 1) (e.set i v)
def xret (T : Tab) (e : E) (m : Mem) : List ResultVar → Option (List Value)
  | [] => some []
  | .tmp t :: l => match e.get t, xret T e m l with
    | some v, some vs => some (v :: vs)
    | _, _ => none
  | .cell t ty :: l => match e.get t, T.ti ty with
    | some (.pointer (some ⟨b, o, none⟩)), some i => bif Nat.beq i.lvs.length i.size then (match xprim (fun _ _ _ => none) (.rd i.und.agg i.lvs b o) m, xret T e m l with
      | some (v, _), some vs => some (v :: vs)
      | _, _ => none) else none
    | _, _ => none
structure XF where
  fn : Func
  c : Code
  ann : Ann
  D : Draws
def xfun (T : Tab) (C : CallX) (fuel : Nat) (x : XF) (args : List Value) (m : Mem) : X Value :=
  bif Nat.ble args.length x.fn.ntmps then
    match xcode T x.fn.ntmps x.D C fuel x.c x.ann (env1 args 0 .lf) m with
    | some (.normal, e, m) => (match xret T e m x.fn.results.toList with
      | some vs => bif argsOk vs then some (tup vs, m) else none
      | none => none)
    | some (.ret, e, m) => (match xret T e m x.fn.results.toList with
      | some vs => bif argsOk vs then some (tup vs, m) else none
      | none => none)
    | _ => none
  else none
/-- Calls, so deep. -/
def xcalls (T : Tab) (xt : Nat → Option XF) (fuel : Nat) : Nat → CallX
  | 0, _, _, _ => none
  | d + 1, f, args, m => match xt f with
    | some x => xfun T (xcalls T xt fuel d) fuel x args m
    | none => none
end Go.Eng
namespace Go.Eng
open Go

/-! ### Lists side by side -/
def All2 (R : Value → Value → Prop) : List Value → List Value → Prop
  | [], [] => True
  | x :: l, y :: r => R x y ∧ All2 R l r
  | _, _ => False
theorem All2.mono {R R' : Value → Value → Prop} (h : ∀ x y, R x y → R' x y) : ∀ {l r : List Value}, All2 R l r → All2 R' l r
  | [], [], _ => trivial
  | _ :: _, _ :: _, h2 => ⟨h _ _ h2.1, All2.mono h h2.2⟩
theorem All2.len {R : Value → Value → Prop} : ∀ {l r : List Value}, All2 R l r → l.length = r.length
  | [], [], _ => rfl
  | _ :: _, _ :: _, h => by simp [All2.len h.2]
theorem All2.app {R : Value → Value → Prop} : ∀ {l r l' r' : List Value}, All2 R l r → All2 R l' r' → All2 R (l ++ l') (r ++ r')
  | [], [], _, _, _, h => h
  | _ :: _, _ :: _, _, _, h, h' => ⟨h.1, All2.app h.2 h'⟩
theorem All2.drop {R : Value → Value → Prop} : ∀ {l r : List Value} (n : Nat), All2 R l r → All2 R (l.drop n) (r.drop n)
  | _, _, 0, h => by simpa using h
  | [], [], _ + 1, _ => by simp [All2]
  | _ :: _, _ :: _, n + 1, h => by simpa using All2.drop n h.2
theorem All2.take {R : Value → Value → Prop} : ∀ {l r : List Value} (n : Nat), All2 R l r → All2 R (l.take n) (r.take n)
  | _, _, 0, _ => by simp [All2]
  | [], [], _ + 1, _ => by simp [All2]
  | _ :: _, _ :: _, n + 1, h => by simpa [All2] using ⟨h.1, All2.take n h.2⟩
theorem All2.get {R : Value → Value → Prop} : ∀ {l r : List Value} {n : Nat} {v : Value}, All2 R l r → l[n]? = some v → ∃ u, r[n]? = some u ∧ R v u
  | [], [], _, _, _, h => by simp at h
  | _ :: _, _ :: _, 0, _, h, hn => by simp at hn; subst hn; exact ⟨_, rfl, h.1⟩
  | _ :: _, _ :: _, n + 1, _, h, hn => by simpa using All2.get (n := n) h.2 (by simpa using hn)
theorem All2.inj {R : Value → Value → Prop} (h : ∀ x y z, R x y → R x z → y = z) : ∀ {l r s : List Value}, All2 R l r → All2 R l s → r = s
  | [], [], [], _, _ => rfl
  | _ :: _, _ :: _, _ :: _, h1, h2 => by rw [h _ _ _ h1.1 h2.1, All2.inj h h1.2 h2.2]
theorem All2.rep {R : Value → Value → Prop} {z z' : List Value} (h : All2 R z z') : ∀ n, All2 R (Eng.rep z n) (Eng.rep z' n)
  | 0 => trivial
  | n + 1 => All2.app h (All2.rep h n)
theorem takeX_spec : ∀ {n : Nat} {l r : List Value}, takeX n l = some r → r = l.take n ∧ r.length = n
  | 0, l, r, h => by simp [takeX] at h; subst h; simp
  | n + 1, [], r, h => by simp [takeX] at h
  | n + 1, v :: l, r, h => by
    simp only [takeX] at h
    cases hr : takeX n l with
    | none => rw [hr] at h; cases h
    | some s =>
      rw [hr] at h
      cases h
      obtain ⟨h1, h2⟩ := takeX_spec hr
      simp [← h1, h2]
theorem setAt_len : ∀ {l : List Value} {o : Nat} {vs r : List Value}, setAt l o vs = some r → r.length = l.length ∧ o + vs.length ≤ l.length
  | l, 0, [], r, h => by cases l <;> (simp only [setAt, Option.some.injEq] at h; subst h; simp)
  | [], 0, v :: vs, r, h => by simp [setAt] at h
  | x :: l, 0, v :: vs, r, h => by
    simp only [setAt] at h
    cases hr : setAt l 0 vs with
    | none => rw [hr] at h; cases h
    | some s =>
      rw [hr] at h; cases h
      obtain ⟨h1, h2⟩ := setAt_len hr
      simp [h1]; omega
  | [], o + 1, vs, r, h => by simp [setAt] at h
  | x :: l, o + 1, vs, r, h => by
    simp only [setAt] at h
    cases hr : setAt l o vs with
    | none => rw [hr] at h; cases h
    | some s =>
      rw [hr] at h; cases h
      obtain ⟨h1, h2⟩ := setAt_len hr
      simp [h1]; omega
theorem setAt_get : ∀ {l : List Value} {o : Nat} {vs r : List Value}, setAt l o vs = some r → ∀ j, r[j]? = if o ≤ j ∧ j < o + vs.length then vs[j - o]? else l[j]?
  | l, 0, [], r, h, j => by
    have : l = r := by cases l <;> simpa [setAt] using h
    subst this; simp
  | [], 0, v :: vs, r, h, _ => by simp [setAt] at h
  | x :: l, 0, v :: vs, r, h, j => by
    simp only [setAt] at h
    cases hr : setAt l 0 vs with
    | none => rw [hr] at h; cases h
    | some s =>
      rw [hr] at h; cases h
      cases j with
      | zero => simp
      | succ j =>
        have := setAt_get hr j
        simp only [List.getElem?_cons_succ, this, Nat.zero_le, true_and, Nat.zero_add, List.length_cons, Nat.sub_zero]
        by_cases hj : j < vs.length
        · simp [hj]
        · simp [hj]
  | [], o + 1, vs, r, h, _ => by simp [setAt] at h
  | x :: l, o + 1, vs, r, h, j => by
    simp only [setAt] at h
    cases hr : setAt l o vs with
    | none => rw [hr] at h; cases h
    | some s =>
      rw [hr] at h; cases h
      cases j with
      | zero => simp
      | succ j =>
        have := setAt_get hr j
        simp only [List.getElem?_cons_succ, this, Nat.add_le_add_iff_right, Nat.add_sub_add_right]
        by_cases hj : o ≤ j ∧ j < o + vs.length
        · rw [if_pos hj, if_pos (by omega)]
        · rw [if_neg hj, if_neg (by omega)]
theorem All2.setAt {R : Value → Value → Prop} : ∀ {l l' : List Value} {o : Nat} {vs vs' r : List Value}, All2 R l l' → All2 R vs vs' → Eng.setAt l o vs = some r → ∃ r', Eng.setAt l' o vs' = some r' ∧ All2 R r r'
  | l, l', 0, [], [], r, h, _, hs => by
    have : l = r := by cases l <;> simpa [Eng.setAt] using hs
    subst this
    exact ⟨l', by cases l' <;> simp [Eng.setAt], h⟩
  | [], _, 0, v :: vs, _, r, _, _, hs => by simp [Eng.setAt] at hs
  | x :: l, y :: l', 0, v :: vs, u :: us, r, h, h2, hs => by
    simp only [Eng.setAt] at hs
    cases hr : Eng.setAt l 0 vs with
    | none => rw [hr] at hs; cases hs
    | some s =>
      rw [hr] at hs; cases hs
      obtain ⟨r', h3, h4⟩ := All2.setAt h.2 h2.2 hr
      exact ⟨u :: r', by simp [Eng.setAt, h3], h2.1, h4⟩
  | [], _, o + 1, vs, _, r, _, _, hs => by simp [Eng.setAt] at hs
  | x :: l, y :: l', o + 1, vs, us, r, h, h2, hs => by
    simp only [Eng.setAt] at hs
    cases hr : Eng.setAt l o vs with
    | none => rw [hr] at hs; cases hs
    | some s =>
      rw [hr] at hs; cases hs
      obtain ⟨r', h3, h4⟩ := All2.setAt h.2 h2 hr
      exact ⟨y :: r', by simp [Eng.setAt, h3], h.1, h4⟩

/-! ### Tables -/
theorem Tr.get_e {α : Type} (k : Nat) : (Tr.lf : Tr α).get k = none := rfl
theorem Tr.get_setF {α : Type} (x : α) : ∀ (f : Nat) (t : Tr α) (k : Nat), k < f → ∀ j, (Tr.setF f t k x).get j = if j = k then some x else t.get j
  | 0, _, _, h, _ => by omega
  | f + 1, .lf, 0, _, j => by
    cases j with
    | zero => simp [Tr.setF, Tr.get]
    | succ j => simp only [Tr.setF, Tr.get]; cases Nat.beq (j % 2) 0 <;> simp
  | f + 1, .lf, k + 1, h, j => by
    simp only [Tr.setF]
    cases hb : Nat.beq (k % 2) 0 with
    | true =>
      cases j with
      | zero => simp [Tr.get]
      | succ j =>
        simp only [cond_true, Tr.get]
        cases hj : Nat.beq (j % 2) 0 with
        | true =>
          rw [cond_true, Tr.get_setF x f .lf (k / 2) (by omega)]
          have h1 := Nat.eq_of_beq_eq_true hb
          have h2 := Nat.eq_of_beq_eq_true hj
          by_cases he : j = k
          · simp [he]
          · rw [if_neg (by omega), if_neg (by omega)]; rfl
        | false =>
          have h1 := Nat.eq_of_beq_eq_true hb
          have h2 := Nat.ne_of_beq_eq_false hj
          rw [cond_false, if_neg (by intro h; have : j = k := by omega
                                     subst this; omega)]
    | false =>
      cases j with
      | zero => simp [Tr.get]
      | succ j =>
        simp only [cond_false, Tr.get]
        cases hj : Nat.beq (j % 2) 0 with
        | true =>
          have h1 := Nat.ne_of_beq_eq_false hb
          have h2 := Nat.eq_of_beq_eq_true hj
          rw [cond_true, if_neg (by intro h; have : j = k := by omega
                                    subst this; omega)]
        | false =>
          rw [cond_false, Tr.get_setF x f .lf (k / 2) (by omega)]
          have h1 := Nat.ne_of_beq_eq_false hb
          have h2 := Nat.ne_of_beq_eq_false hj
          by_cases he : j = k
          · simp [he]
          · rw [if_neg (by omega), if_neg (by omega)]; rfl
  | f + 1, .nd l v r, 0, _, j => by
    cases j with
    | zero => simp [Tr.setF, Tr.get]
    | succ j => simp only [Tr.setF, Tr.get]; cases Nat.beq (j % 2) 0 <;> simp
  | f + 1, .nd l v r, k + 1, h, j => by
    simp only [Tr.setF]
    cases hb : Nat.beq (k % 2) 0 with
    | true =>
      cases j with
      | zero => simp [Tr.get]
      | succ j =>
        simp only [cond_true, Tr.get]
        cases hj : Nat.beq (j % 2) 0 with
        | true =>
          rw [cond_true, cond_true, Tr.get_setF x f l (k / 2) (by omega)]
          have h1 := Nat.eq_of_beq_eq_true hb
          have h2 := Nat.eq_of_beq_eq_true hj
          by_cases he : j = k
          · simp [he]
          · rw [if_neg (by omega), if_neg (by omega)]
        | false =>
          have h1 := Nat.eq_of_beq_eq_true hb
          have h2 := Nat.ne_of_beq_eq_false hj
          rw [cond_false, if_neg (by intro h; have : j = k := by omega
                                     subst this; omega)]
          rfl
    | false =>
      cases j with
      | zero => simp [Tr.get]
      | succ j =>
        simp only [cond_false, Tr.get]
        cases hj : Nat.beq (j % 2) 0 with
        | true =>
          have h1 := Nat.ne_of_beq_eq_false hb
          have h2 := Nat.eq_of_beq_eq_true hj
          rw [cond_true, if_neg (by intro h; have : j = k := by omega
                                    subst this; omega)]
          rfl
        | false =>
          rw [cond_false, cond_false, Tr.get_setF x f r (k / 2) (by omega)]
          have h1 := Nat.ne_of_beq_eq_false hb
          have h2 := Nat.ne_of_beq_eq_false hj
          by_cases he : j = k
          · simp [he]
          · rw [if_neg (by omega), if_neg (by omega)]
theorem Tr.get_set {α : Type} (t : Tr α) (k j : Nat) (x : α) : (t.set k x).get j = if j = k then some x else t.get j := Tr.get_setF x (k + 1) t k (by omega) j

/-! ### Values -/
abbrev Th := Nat → Option (Nat × Nat × Option (Nat × Nat))
def Th.le (θ θ' : Th) : Prop := ∀ i x, θ i = some x → θ' i = some x
theorem Th.le.refl (θ : Th) : Th.le θ θ := fun _ _ h => h
theorem Th.le.trans {a b c : Th} (h : Th.le a b) (h' : Th.le b c) : Th.le a c := fun i x hx => h' i x (h i x hx)
def capR (g : Option (Nat × Nat)) (off l c c' : Nat) : Prop := match g with
  | none => c' = c
  | some (K, sz) => 0 < sz ∧ off + c' * sz = K * sz ∧ l ≤ c'
def R0 (θ : Th) : Value → Value → Prop
  | .pointer (some a), u => ∃ b o g, θ a.block = some (b, o, g) ∧ a.spot = none ∧ u = .pointer (some (A b (o + a.off)))
  | .pointer none, u => u = .pointer none
  | .slice (some a) l c, u => (∃ b o g c', θ a.block = some (b, o, g) ∧ a.spot = none ∧ u = .slice (some (A b (o + a.off))) l c' ∧ capR g a.off l c c') ∨
      (a.spot ≠ none ∧ l = 0 ∧ ∃ b o c', u = .slice (some (A b o)) 0 c')
  | .slice none l c, u => u = .slice none l c
  | .map (some r), u => ∃ b o g, θ r = some (b, o, g) ∧ u = .map (some b)
  | .map none, u => u = .map none
  | .chan (some r), u => ∃ b o g, θ r = some (b, o, g) ∧ u = .chan (some b)
  | .chan none, u => u = .chan none
  | .bool b, u => u = .bool b
  | .int k n, u => u = .int k n
  | .string s, u => u = .string s
  | .nilFunc, u => u = .nilFunc
  | .nilIface, u => u = .nilIface
  | _, _ => False
def R1 (θ : Th) : Value → Value → Prop
  | .func f a b, u => ∃ a' b', u = .func f a' b' ∧ All2 (R0 θ) a.toList a'.toList ∧ All2 (R0 θ) b.toList b'.toList
  | v, u => R0 θ v u
def R2 (θ : Th) : Value → Value → Prop
  | .agg cs, u => ∃ ds, u = .agg ds ∧ All2 (R1 θ) cs.toList ds.toList
  | v, u => R1 θ v u
def R3 (θ : Th) : Value → Value → Prop
  | .tuple cs, u => ∃ ds, u = .tuple ds ∧ All2 (R2 θ) cs.toList ds.toList
  | v, u => R2 θ v u
variable {θ θ' : Th} {v u : Value}
theorem R0.mono (h : Th.le θ θ') (hv : R0 θ v u) : R0 θ' v u := by
  cases v with
  | pointer p =>
    cases p with
    | none => exact hv
    | some a => obtain ⟨b, o, g, h1, h2⟩ := hv; exact ⟨b, o, g, h _ _ h1, h2⟩
  | slice p l c =>
    cases p with
    | none => exact hv
    | some a =>
      rcases hv with ⟨b, o, g, c', h1, h2⟩ | h1
      · exact .inl ⟨b, o, g, c', h _ _ h1, h2⟩
      · exact .inr h1
  | map p =>
    cases p with
    | none => exact hv
    | some a => obtain ⟨b, o, g, h1, h2⟩ := hv; exact ⟨b, o, g, h _ _ h1, h2⟩
  | chan p =>
    cases p with
    | none => exact hv
    | some a => obtain ⟨b, o, g, h1, h2⟩ := hv; exact ⟨b, o, g, h _ _ h1, h2⟩
  | _ => exact hv
theorem R1.alt (h : R1 θ v u) : (∃ f a b, v = .func f a b) ∨ R0 θ v u := by cases v <;> first | exact .inl ⟨_, _, _, rfl⟩ | exact .inr h
theorem R2.alt (h : R2 θ v u) : (∃ cs, v = .agg cs) ∨ R1 θ v u := by cases v <;> first | exact .inl ⟨_, rfl⟩ | exact .inr h
theorem R3.alt (h : R3 θ v u) : (∃ cs, v = .tuple cs) ∨ R2 θ v u := by cases v <;> first | exact .inl ⟨_, rfl⟩ | exact .inr h
theorem R0.to1 (h : R0 θ v u) : R1 θ v u := by cases v <;> first | exact h | exact False.elim h
theorem R1.to2 (h : R1 θ v u) : R2 θ v u := by cases v <;> first | exact h | exact False.elim h
theorem R2.to3 (h : R2 θ v u) : R3 θ v u := by cases v <;> first | exact h | exact False.elim h
theorem R1.mono (h : Th.le θ θ') (hv : R1 θ v u) : R1 θ' v u := by
  rcases R1.alt hv with ⟨f, a, b, rfl⟩ | h0
  · obtain ⟨a', b', h1, h2, h3⟩ := hv
    exact ⟨a', b', h1, h2.mono fun _ _ => R0.mono h, h3.mono fun _ _ => R0.mono h⟩
  · exact (R0.mono h h0).to1
theorem R2.mono (h : Th.le θ θ') (hv : R2 θ v u) : R2 θ' v u := by
  rcases R2.alt hv with ⟨cs, rfl⟩ | h0
  · obtain ⟨ds, h1, h2⟩ := hv; exact ⟨ds, h1, h2.mono fun _ _ => R1.mono h⟩
  · exact (R1.mono h h0).to2
theorem R3.mono (h : Th.le θ θ') (hv : R3 θ v u) : R3 θ' v u := by
  rcases R3.alt hv with ⟨cs, rfl⟩ | h0
  · obtain ⟨ds, h1, h2⟩ := hv; exact ⟨ds, h1, h2.mono fun _ _ => R2.mono h⟩
  · exact (R2.mono h h0).to3
theorem optNone {α : Type} {o : Option α} (h : o.isNone = true) : o = none := by cases o <;> first | rfl | cases h
theorem addr_eq {a b : Addr} (h1 : Nat.beq a.block b.block = true) (h2 : Nat.beq a.off b.off = true) (h3 : a.spot.isNone = true) (h4 : b.spot.isNone = true) : a = b := by
  obtain ⟨a1, a2, a3⟩ := a
  obtain ⟨b1, b2, b3⟩ := b
  have := Nat.eq_of_beq_eq_true h1
  have := Nat.eq_of_beq_eq_true h2
  have := optNone h3
  have := optNone h4
  simp_all
/-- What is found the same is the same. -/
theorem sameS_eq {x : Value} (h : sameS v x = true) : v = x := by
  cases v with
  | bool a => cases x <;> first | cases h | (simp only [sameS, beq_iff_eq] at h; rw [h])
  | int j a => cases x <;> first | cases h | (simp only [sameS, Bool.and_eq_true, decide_eq_true_eq] at h; rw [h.1, h.2])
  | string a =>
    cases x <;> first | cases h | skip
    simp only [sameS, decide_eq_true_eq] at h
    rw [show a = _ from ByteArray.ext (Array.toList_inj.1 h)]
  | pointer a =>
    cases x <;> first | (cases a <;> cases h) | skip
    rename_i b
    cases a <;> cases b <;> first | rfl | cases h | skip
    simp only [sameS, Bool.and_eq_true] at h
    rw [addr_eq h.1.1.1 h.1.1.2 h.1.2 h.2]
  | slice a l c =>
    cases x <;> first | (cases a <;> cases h) | skip
    rename_i b l' c'
    cases a <;> cases b <;> first | cases h | skip
    · simp only [sameS, Bool.and_eq_true] at h
      rw [Nat.eq_of_beq_eq_true h.1, Nat.eq_of_beq_eq_true h.2]
    · simp only [sameS, Bool.and_eq_true] at h
      rw [addr_eq h.1.1.1.1.1 h.1.1.1.1.2 h.1.1.1.2 h.1.1.2, Nat.eq_of_beq_eq_true h.1.2, Nat.eq_of_beq_eq_true h.2]
  | map a =>
    cases x <;> first | (cases a <;> cases h) | skip
    rename_i b
    cases a <;> cases b <;> first | rfl | cases h | skip
    rw [Nat.eq_of_beq_eq_true h]
  | chan a =>
    cases x <;> first | (cases a <;> cases h) | skip
    rename_i b
    cases a <;> cases b <;> first | rfl | cases h | skip
    rw [Nat.eq_of_beq_eq_true h]
  | nilFunc => cases x <;> first | rfl | cases h
  | nilIface => cases x <;> first | rfl | cases h
  | _ => cases h
theorem sameL_eq : ∀ {l r : List Value}, sameL l r = true → l = r
  | [], [], _ => rfl
  | x :: l, y :: r, h => by
    simp only [sameL, Bool.and_eq_true] at h
    rw [sameS_eq h.1, sameL_eq h.2]
theorem sameA_eq {x : Value} (h : sameA v x = true) : v = x := by
  unfold sameA at h
  split at h
  · rw [Array.toList_inj.1 (sameL_eq h)]
  · exact sameS_eq h
theorem sameLA_eq : ∀ {l r : List Value}, sameLA l r = true → l = r
  | [], [], _ => rfl
  | x :: l, y :: r, h => by
    simp only [sameLA, Bool.and_eq_true] at h
    rw [sameA_eq h.1, sameLA_eq h.2]
theorem sameV_eq {x : Value} (h : sameV v x = true) : v = x := by
  unfold sameV at h
  split at h
  · rw [Array.toList_inj.1 (sameLA_eq h)]
  · exact sameA_eq h
theorem sameS_fn {x w : Value} (hs : sameS v x = true) (h : R1 θ v u) (h' : R1 θ v w) : u = w := by
  cases v with
  | pointer p =>
    cases p with
    | none => exact Eq.trans h (Eq.symm h')
    | some a =>
      obtain ⟨b, o, g, h1, _, rfl⟩ := h
      obtain ⟨b', o', g', h1', _, rfl⟩ := h'
      rw [h1] at h1'
      cases h1'
      rfl
  | slice p l c =>
    cases p with
    | none => exact Eq.trans h (Eq.symm h')
    | some a =>
      have hsp : a.spot = none := by
        cases x <;> first | cases hs | skip
        rename_i b l' c'
        cases b <;> first | cases hs | skip
        simp only [sameS, Bool.and_eq_true] at hs
        exact optNone hs.1.1.1.2
      rcases h with ⟨b, o, g, c1, h1, _, rfl, h2⟩ | h
      · rcases h' with ⟨b', o', g', c2, h1', _, rfl, h2'⟩ | h'
        · rw [h1] at h1'
          cases h1'
          cases g with
          | none => cases h2; cases h2'; rfl
          | some g =>
            obtain ⟨K, sz⟩ := g
            have : c1 = c2 := Nat.eq_of_mul_eq_mul_right h2.1 (by have := h2.2.1; have := h2'.2.1; omega)
            rw [this]
        · exact absurd hsp h'.1
      · exact absurd hsp h.1
  | map p =>
    cases p with
    | none => exact Eq.trans h (Eq.symm h')
    | some a =>
      obtain ⟨b, o, g, h1, rfl⟩ := h
      obtain ⟨b', o', g', h1', rfl⟩ := h'
      rw [h1] at h1'; cases h1'; rfl
  | chan p =>
    cases p with
    | none => exact Eq.trans h (Eq.symm h')
    | some a =>
      obtain ⟨b, o, g, h1, rfl⟩ := h
      obtain ⟨b', o', g', h1', rfl⟩ := h'
      rw [h1] at h1'; cases h1'; rfl
  | bool b => exact Eq.trans h (Eq.symm h')
  | int k n => exact Eq.trans h (Eq.symm h')
  | string s => exact Eq.trans h (Eq.symm h')
  | nilFunc => exact Eq.trans h (Eq.symm h')
  | nilIface => exact Eq.trans h (Eq.symm h')
  | _ => cases hs
theorem sameL_fn : ∀ {l x r s : List Value}, sameL l x = true → All2 (R1 θ) l r → All2 (R1 θ) l s → r = s
  | [], _, [], [], _, _, _ => rfl
  | _ :: _, _ :: _, _ :: _, _ :: _, hs, h1, h2 => by
    simp only [sameL, Bool.and_eq_true] at hs
    rw [sameS_fn hs.1 h1.1 h2.1, sameL_fn hs.2 h1.2 h2.2]
theorem flat_R0 (h : flatV v = true) : R1 θ v v := by
  cases v with
  | pointer p => cases p <;> first | rfl | cases h
  | slice p l c => cases p <;> first | rfl | cases h
  | map p => cases p <;> first | rfl | cases h
  | chan p => cases p <;> first | rfl | cases h
  | func f a b =>
    simp only [flatV, Bool.and_eq_true] at h
    have h1 := Array.eq_empty_of_size_eq_zero (Nat.eq_of_beq_eq_true h.1)
    have h2 := Array.eq_empty_of_size_eq_zero (Nat.eq_of_beq_eq_true h.2)
    subst h1 h2
    exact ⟨_, _, rfl, trivial, trivial⟩
  | bool b => rfl
  | int k n => rfl
  | string s => rfl
  | nilFunc => rfl
  | nilIface => rfl
  | _ => cases h
theorem flat_R1s : ∀ {l : List Value}, flatVs l = true → All2 (R1 θ) l l
  | [], _ => trivial
  | v :: l, h => by
    simp only [flatVs, Bool.and_eq_true] at h
    exact ⟨flat_R0 h.1, flat_R1s h.2⟩
theorem flat_R2 (h : flatA v = true) : R2 θ v v := by
  cases v with
  | agg cs => exact ⟨cs, rfl, flat_R1s h⟩
  | _ => exact R1.to2 (flat_R0 h)
theorem R1.one (h : R1 θ v u) (h1 : v.oneCell' = true) : u.oneCell' = true := by
  cases v with
  | pointer p => cases p with | none => cases h; rfl | some a => obtain ⟨_, _, _, _, _, rfl⟩ := h; rfl
  | slice p l c => cases p with | none => cases h; rfl | some a => rcases h with ⟨_, _, _, _, _, _, rfl, _⟩ | ⟨_, _, _, _, _, rfl⟩ <;> rfl
  | map p => cases p with | none => cases h; rfl | some a => obtain ⟨_, _, _, _, rfl⟩ := h; rfl
  | chan p => cases p with | none => cases h; rfl | some a => obtain ⟨_, _, _, _, rfl⟩ := h; rfl
  | func f a b => obtain ⟨_, _, rfl, _⟩ := h; rfl
  | bool b => cases h; rfl
  | int k n => cases h; rfl
  | string s => cases h; rfl
  | nilFunc => cases h; rfl
  | nilIface => cases h; rfl
  | agg cs => cases h1
  | tuple cs => cases h1
  | _ => exact False.elim h
theorem All2.one : ∀ {l r : List Value}, All2 (R1 θ) l r → oneAll l = true → ∀ v ∈ r, v.oneCell' = true
  | [], [], _, _, v, h => by cases h
  | _ :: _, _ :: _, h, h1, v, hv => by
    simp only [oneAll, Bool.and_eq_true] at h1
    rcases List.mem_cons.1 hv with rfl | hv
    · exact R1.one h.1 h1.1
    · exact All2.one h.2 h1.2 v hv
/-- Shapes are kept. -/
theorem R1.shape (h : R1 θ v u) {s : Sh} (hs : (s.un v).isSome = true) : (s.un u).isSome = true := by
  cases v with
  | pointer p =>
    cases p with
    | none => cases h; exact hs
    | some a => obtain ⟨b, o, g, _, hsp, rfl⟩ := h; cases s <;> first | rfl | cases hs
  | slice p l c =>
    cases p with
    | none => cases h; exact hs
    | some a => rcases h with ⟨_, _, _, _, _, _, rfl, _⟩ | ⟨_, _, _, _, _, rfl⟩ <;> (cases s <;> first | rfl | cases hs)
  | map p => cases p with | none => cases h; exact hs | some a => obtain ⟨_, _, _, _, rfl⟩ := h; cases s <;> first | rfl | cases hs
  | chan p => cases p with | none => cases h; exact hs | some a => obtain ⟨_, _, _, _, rfl⟩ := h; cases s <;> first | rfl | cases hs
  | func f a b => obtain ⟨_, _, rfl, _⟩ := h; cases s <;> first | rfl | cases hs
  | bool b => cases h; exact hs
  | int k n => cases h; exact hs
  | string x => cases h; exact hs
  | nilFunc => cases h; exact hs
  | nilIface => cases h; exact hs
  | _ => exact h.elim
theorem All2.shape : ∀ {l : List Sh} {vs us : List Value}, All2 (R1 θ) vs us → shOk l vs = true → shOk l us = true
  | [], [], [], _, _ => rfl
  | s :: l, _ :: _, _ :: _, h, hs => by
    simp only [shOk, Bool.and_eq_true] at hs ⊢
    exact ⟨R1.shape h.1 hs.1, All2.shape h.2 hs.2⟩
theorem shOk_un : ∀ {l : List Sh} {vs : List Value}, shOk l vs = true → ∃ x, unL l vs = some x
  | [], [], _ => ⟨(), rfl⟩
  | s :: l, v :: vs, h => by
    simp only [shOk, Bool.and_eq_true] at h
    obtain ⟨x, hx⟩ := Option.isSome_iff_exists.1 h.1
    obtain ⟨y, hy⟩ := shOk_un h.2
    exact ⟨(x, y), by simp [unL, hx, hy]⟩
theorem shOk_len : ∀ {l : List Sh} {vs : List Value}, shOk l vs = true → vs.length = l.length
  | [], [], _ => rfl
  | s :: l, v :: vs, h => by
    simp only [shOk, Bool.and_eq_true] at h
    simp [shOk_len h.2]
theorem shOk_ldn {b : Nat} {w : World} {k : List Value → F} : ∀ {l : List Sh} {vs acc : List Value} {o : Nat}, shOk l vs = true → cellsAt w b o vs → k (acc.reverse ++ vs) w → ldn b o l acc k w
  | [], [], _, _, _, _, h => by simpa [ldn] using h
  | s :: l, v :: vs, acc, o, hs, hc, h => by
    simp only [shOk, Bool.and_eq_true] at hs
    obtain ⟨x, hx⟩ := Option.isSome_iff_exists.1 hs.1
    have hv := Sh.un_mk hx
    refine ⟨x, ?_, shOk_ldn hs.2 (fun j u hj => ?_) ?_⟩
    · rw [← hv]; simpa using hc 0 v rfl
    · rw [show o + 1 + j = o + (j + 1) from by omega]; exact hc (j + 1) u (by simpa using hj)
    · rw [← hv]; simpa using h
end Go.Eng
namespace Go.Eng
open Go RowKit
variable {θ θ' : Th} {w w' W0 : World} {m : Tr AO} {i j : Nat}

/-- No cell of the block is frozen, and none will be by a mark behind its end. -/
def froz (w : World) (b : Nat) : Prop := ∀ c e lo hi, w.heap[b]? = some (.cells c e (lo, hi)) → lo = hi ∨ c.size ≤ lo
theorem froz_setCell {b o : Nat} {v : Value} (h : froz w b) : froz (w.setCell (A b o) v) b := by
  intro c e lo hi hc
  simp only [World.setCell, Array.getElem?_modify, if_true] at hc
  cases hb : w.heap[b]? with
  | none => rw [hb] at hc; cases hc
  | some ob =>
    rw [hb] at hc
    cases ob with
    | cells c0 e0 fr =>
      obtain ⟨lo0, hi0⟩ := fr
      simp only [Option.map_some, Option.some.injEq, Obj.cells.injEq, Prod.mk.injEq] at hc
      obtain ⟨rfl, rfl, rfl, rfl⟩ := hc
      rcases h _ _ _ _ hb with h | h
      · exact .inl h
      · refine .inr ?_
        split <;> simpa using h
    | _ => simp at hc
/-- Only this block may have turned. -/
structure Upd (b : Nat) (w w' : World) : Prop where
  os : w'.os = w.os
  tape : w'.tape = w.tape
  output : w'.output = w.output
  size : w'.heap.size = w.heap.size
  block : ∀ k, k ≠ b → w'.heap[k]? = w.heap[k]?
  fz : froz w b → froz w' b
theorem Upd.refl (b : Nat) (w : World) : Upd b w w := ⟨rfl, rfl, rfl, rfl, fun _ _ => rfl, id⟩
theorem Upd.below {b B : Nat} (h : Upd b w w') (hB : B ≤ b) : Below B w w' := ⟨h.os, h.tape, h.output, by rw [h.size]; exact Nat.le_refl _, fun k hk => h.block k (by omega)⟩
theorem setRow_eq : ∀ (vs : List Value) (w : World) (b o : Nat), setRow w b o vs = w.setCells b o vs
  | [], _, _, _ => rfl
  | v :: vs, w, b, o => by simp only [setRow, World.setCells]; exact setRow_eq vs _ b (o + 1)
theorem upd_setRow {b : Nat} : ∀ (vs : List Value) (w : World) (o : Nat), Upd b w (setRow w b o vs)
  | [], w, _ => Upd.refl b w
  | v :: vs, w, o => by
    have h := upd_setRow (b := b) vs (w.setCell (A b o) v) (o + 1)
    exact ⟨h.os, h.tape, h.output, by rw [setRow, h.size]; simp [World.setCell], fun k hk => by rw [setRow, h.block k hk]; exact Below.heap_setCell _ _ _ _ hk, fun hf => h.fz (froz_setCell hf)⟩
theorem rowOk_setRow {b o off n : Nat} {vs : List Value} (h : rowOk w b o n) (hlen : off + vs.length ≤ n) : rowOk (setRow w b (o + off) vs) b o n := by
  intro q hq
  rw [setRow_eq]
  refine ⟨?_, by rw [World.frozen?_setCells]; exact (h q hq).2⟩
  by_cases hin : off ≤ q ∧ q < off + vs.length
  · have := World.cell?_setCells_in b vs (o + off) w (fun x hx => by have := (h (off + x) (by omega)).1; rwa [show o + (off + x) = o + off + x from by omega] at this) (q - off) (by omega)
    rw [show o + off + (q - off) = o + q from by omega] at this
    rw [this]; rfl
  · rw [World.cell?_setCells_out b vs (o + off) w (A b (o + q)) (fun _ _ => by simp; omega)]
    exact (h q hq).1
theorem cellsAt_setRow {b o off n : Nat} {us vs us' : List Value} (h : rowOk w b o n) (hlen : us.length ≤ n) (hc : cellsAt w b o us) (hs : setAt us off vs = some us') : cellsAt (setRow w b (o + off) vs) b o us' := by
  intro q v hv
  obtain ⟨_, hl⟩ := setAt_len hs
  rw [setAt_get hs] at hv
  rw [setRow_eq]
  by_cases hin : off ≤ q ∧ q < off + vs.length
  · rw [if_pos hin] at hv
    have := World.cell?_setCells_in b vs (o + off) w (fun x hx => by have := (h (off + x) (by omega)).1; rwa [show o + (off + x) = o + off + x from by omega] at this) (q - off) (by omega)
    rw [show o + off + (q - off) = o + q from by omega] at this
    rw [this]
    rw [List.getElem?_eq_getElem (by omega)] at hv
    exact hv
  · rw [if_neg hin] at hv
    rw [World.cell?_setCells_out b vs (o + off) w (A b (o + q)) (fun _ _ => by simp; omega)]
    exact hc q v hv
/-- Behind the end of what is known. -/
theorem cellsAt_app {b o n : Nat} {us vs : List Value} (h : rowOk w b o n) (hlen : us.length + vs.length ≤ n) (hc : cellsAt w b o us) : cellsAt (setRow w b (o + us.length) vs) b o (us ++ vs) := by
  intro q v hv
  rw [setRow_eq]
  by_cases hin : us.length ≤ q
  · rw [List.getElem?_append_right hin] at hv
    have hq : q - us.length < vs.length := by
      rcases Nat.lt_or_ge (q - us.length) vs.length with h | h
      · exact h
      · rw [List.getElem?_eq_none h] at hv; cases hv
    have := World.cell?_setCells_in b vs (o + us.length) w (fun x hx => by have := (h (us.length + x) (by omega)).1; rwa [show o + (us.length + x) = o + us.length + x from by omega] at this) (q - us.length) hq
    rw [show o + us.length + (q - us.length) = o + q from by omega] at this
    rw [this]
    rw [List.getElem?_eq_getElem hq] at hv
    exact hv
  · rw [List.getElem?_append_left (by omega)] at hv
    rw [World.cell?_setCells_out b vs (o + us.length) w (A b (o + q)) (fun _ _ => by simp; omega)]
    exact hc q v hv

/-! ### Objects -/
def MapR (θ : Th) : List (Int × Value) → List MapEntry → Prop
  | [], [] => True
  | (k, v) :: l, e :: r => e.key = .int .i64 k ∧ R1 θ v e.val ∧ MapR θ l r
  | _, _ => False
theorem MapR.mono (h : Th.le θ θ') : ∀ {l : List (Int × Value)} {r : List MapEntry}, MapR θ l r → MapR θ' l r
  | [], [], _ => trivial
  | (_, _) :: _, _ :: _, h2 => ⟨h2.1, R1.mono h h2.2.1, MapR.mono h h2.2.2⟩
def intsB : List Value → Bool
  | [] => true
  | .int _ _ :: l => intsB l
  | _ => false
def ObjR (θ : Th) (w : World) (i : Nat) : AO → Prop
  | .row none vs => ∃ b o us, θ i = some (b, o, none) ∧ All2 (R1 θ) vs us ∧ cellsAt w b o us ∧ rowOk w b o us.length
  | .row (some z) vs => ∃ b o K us, θ i = some (b, o, some (K, z)) ∧ 0 < z ∧ All2 (R1 θ) vs us ∧ cellsAt w b o us ∧ us.length ≤ K * z ∧ rowOk w b o (K * z)
  | .mp es => ∃ b o g ents clock, θ i = some (b, o, g) ∧ w.heap[b]? = some (.map ents clock) ∧ MapR θ es ents.toList
  | .ch c buf => ∃ b o g s r, θ i = some (b, o, g) ∧ w.heap[b]? = some (.chan c buf.toArray false s r false) ∧ intsB buf = true
  | .dead => True
theorem ObjR.mono (h : Th.le θ θ') {o : AO} (ho : ObjR θ w i o) : ObjR θ' w i o := by
  cases o with
  | row g vs =>
    cases g with
    | none => obtain ⟨b, o, us, h1, h2, h3⟩ := ho; exact ⟨b, o, us, h _ _ h1, h2.mono fun _ _ => R1.mono h, h3⟩
    | some z => obtain ⟨b, o, K, us, h1, h0, h2, h3⟩ := ho; exact ⟨b, o, K, us, h _ _ h1, h0, h2.mono fun _ _ => R1.mono h, h3⟩
  | mp es => obtain ⟨b, o, g, e, c, h1, h2, h3⟩ := ho; exact ⟨b, o, g, e, c, h _ _ h1, h2, h3.mono h⟩
  | ch c buf => obtain ⟨b, o, g, s, r, h1, h2⟩ := ho; exact ⟨b, o, g, s, r, h _ _ h1, h2⟩
  | dead => trivial
theorem cell_congr {b o : Nat} (h : w'.heap[b]? = w.heap[b]?) : w'.cell? (A b o) = w.cell? (A b o) := by simp only [World.cell?, h]
theorem frozen_congr {b o : Nat} (h : w'.heap[b]? = w.heap[b]?) : w'.frozen? (A b o) = w.frozen? (A b o) := by simp only [World.frozen?, h]
theorem cellsAt_congr {b o : Nat} {us : List Value} (h : w'.heap[b]? = w.heap[b]?) (hc : cellsAt w b o us) : cellsAt w' b o us := fun q v hv => by rw [cell_congr h]; exact hc q v hv
theorem rowOk_congr {b o n : Nat} (h : w'.heap[b]? = w.heap[b]?) (hc : rowOk w b o n) : rowOk w' b o n := fun q hq => by rw [cell_congr h, frozen_congr h]; exact hc q hq
theorem ObjR.congr {o : AO} (h : ∀ b o' g, θ i = some (b, o', g) → w'.heap[b]? = w.heap[b]?) (ho : ObjR θ w i o) : ObjR θ w' i o := by
  cases o with
  | row g vs =>
    cases g with
    | none => obtain ⟨b, o, us, h1, h2, h3, h4⟩ := ho; exact ⟨b, o, us, h1, h2, cellsAt_congr (h _ _ _ h1) h3, rowOk_congr (h _ _ _ h1) h4⟩
    | some z => obtain ⟨b, o, K, us, h1, h0, h2, h3, h4, h5⟩ := ho; exact ⟨b, o, K, us, h1, h0, h2, cellsAt_congr (h _ _ _ h1) h3, h4, rowOk_congr (h _ _ _ h1) h5⟩
  | mp es => obtain ⟨b, o, g, e, c, h1, h2, h3⟩ := ho; exact ⟨b, o, g, e, c, h1, (h _ _ _ h1).trans h2, h3⟩
  | ch c buf => obtain ⟨b, o, g, s, r, h1, h2, h3⟩ := ho; exact ⟨b, o, g, s, r, h1, (h _ _ _ h1).trans h2, h3⟩
  | dead => trivial
structure MRel (W0 : World) (θ : Th) (m : Tr AO) (w : World) : Prop where
  below : Below W0.heap.size W0 w
  dom : ∀ i x, θ i = some x → ∃ o, m.get i = some o
  old : ∀ i b o g, θ i = some (b, o, g) → W0.heap.size ≤ b ∧ b < w.heap.size
  fz : ∀ i b o g, θ i = some (b, o, g) → froz w b
  obj : ∀ i o, m.get i = some o → ObjR θ w i o
  apart : ∀ i j oi oj, i ≠ j → m.get i = some oi → oi ≠ .dead → m.get j = some oj → oj ≠ .dead → ∀ b o g b' o' g', θ i = some (b, o, g) → θ j = some (b', o', g') → b ≠ b'
theorem mrel_start : MRel W0 (fun _ => none) .lf W0 where
  below := Below.refl _ _
  dom := nofun
  old := nofun
  fz := nofun
  obj i o h := by rw [Tr.get_e] at h; cases h
  apart := nofun
theorem MRel.drew (h : MRel W0 θ m w) : MRel W0 θ m w.drew := ⟨h.below.drew, h.dom, h.old, h.fz, fun i o ho => ObjR.congr (fun _ _ _ _ => rfl) (h.obj i o ho), h.apart⟩
theorem MRel.fresh (h : MRel W0 θ m w) (hi : m.get i = none) : θ i = none := by
  cases hx : θ i with
  | none => rfl
  | some x => obtain ⟨o, ho⟩ := h.dom i x hx; rw [hi] at ho; cases ho
def Th.add (θ : Th) (i : Nat) (x : Nat × Nat × Option (Nat × Nat)) : Th := fun j => if j = i then some x else θ j
theorem Th.add_le {x : Nat × Nat × Option (Nat × Nat)} (h : θ i = none) : Th.le θ (θ.add i x) := fun j y hy => by
  unfold Th.add
  by_cases hj : j = i
  · subst hj; rw [h] at hy; cases hy
  · rw [if_neg hj]; exact hy
theorem Th.add_same {x : Nat × Nat × Option (Nat × Nat)} : θ.add i x i = some x := if_pos rfl
theorem Th.add_ne {x : Nat × Nat × Option (Nat × Nat)} (h : j ≠ i) : θ.add i x j = θ j := if_neg h
/-- A new block. -/
theorem MRel.alloc (h : MRel W0 θ m w) (hi : m.get i = none) {ob : Obj} {g : Option (Nat × Nat)} {ao : AO} (hfz : ∀ c e lo hi, ob = .cells c e (lo, hi) → lo = hi ∨ c.size ≤ lo) (ho : ObjR (θ.add i (w.heap.size, 0, g)) (w.alloc ob) i ao) :
    MRel W0 (θ.add i (w.heap.size, 0, g)) (m.set i ao) (w.alloc ob) where
  below := h.below.alloc (h.below.size) ob
  dom j x hj := by
    rw [Tr.get_set]
    by_cases hji : j = i
    · rw [if_pos hji]; exact ⟨_, rfl⟩
    · rw [if_neg hji]; rw [Th.add_ne hji] at hj; exact h.dom j x hj
  old j b o g' hj := by
    have hsz : (w.alloc ob).heap.size = w.heap.size + 1 := by simp
    by_cases hji : j = i
    · subst hji; rw [Th.add_same] at hj; cases hj; exact ⟨h.below.size, by omega⟩
    · rw [Th.add_ne hji] at hj; have := h.old j b o g' hj; omega
  fz j b o g' hj := by
    by_cases hji : j = i
    · subst hji; rw [Th.add_same] at hj; cases hj
      intro c e lo hi hc
      have : (w.alloc ob).heap[w.heap.size]? = some ob := by
        show (w.heap.push ob)[w.heap.size]? = _
        simp
      rw [this] at hc
      exact hfz c e lo hi (by simpa using hc)
    · rw [Th.add_ne hji] at hj
      intro c e lo hi hc
      rw [Below.heap_alloc _ _ _ (h.old j b o g' hj).2] at hc
      exact h.fz j b o g' hj c e lo hi hc
  obj j o hj := by
    rw [Tr.get_set] at hj
    by_cases hji : j = i
    · subst hji; rw [if_pos rfl] at hj; cases hj; exact ho
    · rw [if_neg hji] at hj
      refine ObjR.congr (w := w) (fun b o' g' hb => ?_) ((h.obj j o hj).mono (Th.add_le (h.fresh hi)))
      rw [Th.add_ne hji] at hb
      exact Below.heap_alloc _ _ _ (h.old j b o' g' hb).2
  apart j k oj ok hjk hj hjd hk hkd b o g1 b' o' g2 hb hb' := by
    rw [Tr.get_set] at hj hk
    by_cases hji : j = i
    · subst hji
      rw [Th.add_same] at hb
      cases hb
      rw [Th.add_ne (Ne.symm hjk)] at hb'
      have := (h.old k b' o' g2 hb').2
      omega
    · by_cases hki : k = i
      · subst hki
        rw [Th.add_same] at hb'
        cases hb'
        rw [Th.add_ne hji] at hb
        have := (h.old j b o g1 hb).2
        omega
      · rw [if_neg hji] at hj
        rw [if_neg hki] at hk
        rw [Th.add_ne hji] at hb
        rw [Th.add_ne hki] at hb'
        exact h.apart j k oj ok hjk hj hjd hk hkd _ _ _ _ _ _ hb hb'
/-- A block of one's own turns. -/
theorem MRel.upd (h : MRel W0 θ m w) {o0 ao : AO} (hi : m.get i = some o0) (hd : o0 ≠ .dead) {b o : Nat} {g : Option (Nat × Nat)} (hb : θ i = some (b, o, g)) (hu : Upd b w w') (ho : ObjR θ w' i ao) :
    MRel W0 θ (m.set i ao) w' where
  below := h.below.trans (hu.below (h.old i b o g hb).1)
  dom j x hj := by
    rw [Tr.get_set]
    by_cases hji : j = i
    · rw [if_pos hji]; exact ⟨_, rfl⟩
    · rw [if_neg hji]; exact h.dom j x hj
  old j b o g hj := by rw [hu.size]; exact h.old j b o g hj
  fz j b' o' g' hj := by
    by_cases hbb : b' = b
    · subst hbb; exact hu.fz (h.fz j _ o' g' hj)
    · intro c e lo hi hc
      rw [hu.block _ hbb] at hc
      exact h.fz j b' o' g' hj c e lo hi hc
  obj j oj hj := by
    rw [Tr.get_set] at hj
    by_cases hji : j = i
    · subst hji; rw [if_pos rfl] at hj; cases hj; exact ho
    · rw [if_neg hji] at hj
      by_cases hdj : oj = .dead
      · subst hdj; trivial
      · exact ObjR.congr (fun b' o' g' hb' => hu.block b' (h.apart j i oj o0 hji hj hdj hi hd _ _ _ _ _ _ hb' hb)) (h.obj j oj hj)
  apart j k oj ok hjk hj hjd hk hkd b1 o1 g1 b2 o2 g2 hb1 hb2 := by
    rw [Tr.get_set] at hj hk
    have key : ∀ j oj, (if j = i then some ao else m.get j) = some oj → oj ≠ .dead → ∃ oj', m.get j = some oj' ∧ oj' ≠ .dead := by
      intro j oj hj hjd
      by_cases hji : j = i
      · subst hji; exact ⟨o0, hi, hd⟩
      · rw [if_neg hji] at hj; exact ⟨oj, hj, hjd⟩
    obtain ⟨oj', h1, h2⟩ := key j oj hj hjd
    obtain ⟨ok', h3, h4⟩ := key k ok hk hkd
    exact h.apart j k oj' ok' hjk h1 h2 h3 h4 _ _ _ _ _ _ hb1 hb2
theorem MRel.kill (h : MRel W0 θ m w) {o0 : AO} (hi : m.get i = some o0) : MRel W0 θ (m.set i .dead) w where
  below := h.below
  dom j x hj := by
    rw [Tr.get_set]
    by_cases hji : j = i
    · rw [if_pos hji]; exact ⟨_, rfl⟩
    · rw [if_neg hji]; exact h.dom j x hj
  old := h.old
  fz := h.fz
  obj j oj hj := by
    rw [Tr.get_set] at hj
    by_cases hji : j = i
    · subst hji; rw [if_pos rfl] at hj; cases hj; trivial
    · rw [if_neg hji] at hj; exact h.obj j oj hj
  apart j k oj ok hjk hj hjd hk hkd b1 o1 g1 b2 o2 g2 hb1 hb2 := by
    rw [Tr.get_set] at hj hk
    by_cases hji : j = i
    · rw [if_pos hji] at hj; cases hj; exact absurd rfl hjd
    · by_cases hki : k = i
      · rw [if_pos hki] at hk; cases hk; exact absurd rfl hkd
      · rw [if_neg hji] at hj
        rw [if_neg hki] at hk
        exact h.apart j k oj ok hjk hj hjd hk hkd _ _ _ _ _ _ hb1 hb2
/-- The block of one that has gone comes to another one. -/
theorem MRel.heir (h : MRel W0 θ m w) {o0 ao : AO} (hi : m.get i = some o0) (hd : o0 ≠ .dead) (hj : m.get j = none) {b o o1 : Nat} {g g1 : Option (Nat × Nat)} (hb : θ i = some (b, o, g)) (hu : Upd b w w')
    (ho : ObjR (θ.add j (b, o1, g1)) w' j ao) : MRel W0 (θ.add j (b, o1, g1)) ((m.set i .dead).set j ao) w' := by
  have hij : i ≠ j := fun e => by subst e; rw [hi] at hj; cases hj
  have hget : ∀ k, ((m.set i .dead).set j ao).get k = if k = j then some ao else if k = i then some .dead else m.get k := fun k => by rw [Tr.get_set, Tr.get_set]
  refine ⟨h.below.trans (hu.below (h.old i b o g hb).1), fun k x hk => ?_, fun k b2 o2 g2 hk => ?_, fun k b2 o2 g2 hk => ?_, fun k ok hk => ?_, fun k l ok ol hkl hk hkd hl hld b2 o2 g2 b3 o3 g3 hb2 hb3 => ?_⟩
  · rw [hget]
    by_cases hkj : k = j
    · rw [if_pos hkj]; exact ⟨_, rfl⟩
    · rw [if_neg hkj]
      by_cases hki : k = i
      · rw [if_pos hki]; exact ⟨_, rfl⟩
      · rw [if_neg hki]; rw [Th.add_ne hkj] at hk; exact h.dom k x hk
  · rw [hu.size]
    by_cases hkj : k = j
    · subst hkj; rw [Th.add_same] at hk; cases hk; exact h.old i _ _ _ hb
    · rw [Th.add_ne hkj] at hk; exact h.old k b2 o2 g2 hk
  · have hall : ∀ b2, (b2 = b ∨ ∃ k o2 g2, θ k = some (b2, o2, g2)) → froz w' b2 := by
      intro b2 hb2
      by_cases hbb : b2 = b
      · subst hbb; exact hu.fz (h.fz i _ o g hb)
      · rcases hb2 with hb2 | ⟨k, o2, g2, hk⟩
        · exact absurd hb2 hbb
        · intro c e lo hi hc
          rw [hu.block _ hbb] at hc
          exact h.fz k b2 o2 g2 hk c e lo hi hc
    by_cases hkj : k = j
    · subst hkj; rw [Th.add_same] at hk; cases hk; exact hall b (.inl rfl)
    · rw [Th.add_ne hkj] at hk; exact hall b2 (.inr ⟨k, o2, g2, hk⟩)
  · rw [hget] at hk
    by_cases hkj : k = j
    · subst hkj; rw [if_pos rfl] at hk; cases hk; exact ho
    · rw [if_neg hkj] at hk
      by_cases hki : k = i
      · rw [if_pos hki] at hk; cases hk; trivial
      · rw [if_neg hki] at hk
        by_cases hdk : ok = .dead
        · subst hdk; trivial
        · refine ObjR.congr (w := w) (fun b' o' g' hb' => ?_) ((h.obj k ok hk).mono (Th.add_le (h.fresh hj)))
          rw [Th.add_ne hkj] at hb'
          exact hu.block b' (h.apart k i ok o0 hki hk hdk hi hd _ _ _ _ _ _ hb' hb)
  · rw [hget] at hk hl
    have key : ∀ k ok, (if k = j then some ao else if k = i then some AO.dead else m.get k) = some ok → ok ≠ .dead → k ≠ j → k ≠ i ∧ m.get k = some ok := by
      intro k ok hk hkd hkj
      rw [if_neg hkj] at hk
      by_cases hki : k = i
      · rw [if_pos hki] at hk; cases hk; exact absurd rfl hkd
      · rw [if_neg hki] at hk; exact ⟨hki, hk⟩
    by_cases hkj : k = j
    · subst hkj
      obtain ⟨hli, hl'⟩ := key l ol hl hld (Ne.symm hkl)
      rw [Th.add_same] at hb2
      cases hb2
      rw [Th.add_ne (Ne.symm hkl)] at hb3
      exact fun e => h.apart l i ol o0 hli hl' hld hi hd _ _ _ _ _ _ hb3 hb e.symm
    · obtain ⟨hki, hk'⟩ := key k ok hk hkd hkj
      rw [Th.add_ne hkj] at hb2
      by_cases hlj : l = j
      · subst hlj
        rw [Th.add_same] at hb3
        cases hb3
        exact h.apart k i ok o0 hki hk' hkd hi hd _ _ _ _ _ _ hb2 hb
      · obtain ⟨hli, hl'⟩ := key l ol hl hld hlj
        rw [Th.add_ne hlj] at hb3
        exact h.apart k l ok ol hkl hk' hkd hl' hld _ _ _ _ _ _ hb2 hb3
/-- Cells of a new block. -/
theorem cell_new {cs : Array Value} {ty j : Nat} {fr : Nat × Nat} : (w.alloc (.cells cs ty fr)).cell? (A w.heap.size j) = cs[j]? := by
  have h : (w.alloc (.cells cs ty fr)).heap[w.heap.size]? = some (.cells cs ty fr) := by
    show (w.heap.push _)[w.heap.size]? = _
    simp
  simp only [World.cell?, h]
  rfl
theorem frozen_new {cs : Array Value} {ty j : Nat} : (w.alloc (.cells cs ty)).frozen? (A w.heap.size j) = false := by
  have h : (w.alloc (.cells cs ty)).heap[w.heap.size]? = some (.cells cs ty) := by
    show (w.heap.push _)[w.heap.size]? = _
    simp
  simp only [World.frozen?, h]
  simp
theorem row_new {us : List Value} {ty : Nat} : cellsAt (w.alloc (.cells us.toArray ty)) w.heap.size 0 us ∧ rowOk (w.alloc (.cells us.toArray ty)) w.heap.size 0 us.length := by
  refine ⟨fun q v hv => ?_, fun q hq => ⟨?_, ?_⟩⟩
  · rw [cell_new]; simpa using hv
  · rw [cell_new]; simp [hq]
  · rw [frozen_new]
end Go.Eng
namespace Go.Eng
open Go RowKit
variable {θ θ' : Th} {w w' W0 : World} {m m1 : Mem} {v : Value} {k : Value → F} {P : Program}

/-- What is asked of what comes next. -/
def Next (W0 : World) (θ : Th) (m1 : Mem) (v : Value) (k : Value → F) : Prop := ∀ θ1 v' w1, Th.le θ θ1 → R3 θ1 v v' → MRel W0 θ1 m1.t w1 → k v' w1
theorem R0.to3 {u : Value} (h : R0 θ v u) : R3 θ v u := h.to1.to2.to3
theorem R1.to3 {u : Value} (h : R1 θ v u) : R3 θ v u := h.to2.to3
theorem row_of {i : Nat} {g : Option Nat} {vs : List Value} (h : ObjR θ w i (.row g vs)) :
    ∃ b o G us n, θ i = some (b, o, G) ∧ All2 (R1 θ) vs us ∧ cellsAt w b o us ∧ us.length ≤ n ∧ rowOk w b o n ∧ (match g with | none => G = none ∧ n = us.length | some z => 0 < z ∧ ∃ K, G = some (K, z) ∧ n = K * z) := by
  cases g with
  | none => obtain ⟨b, o, us, h1, h2, h3, h4⟩ := h; exact ⟨b, o, none, us, us.length, h1, h2, h3, Nat.le_refl _, h4, rfl, rfl⟩
  | some z => obtain ⟨b, o, K, us, h1, h0, h2, h3, h4, h5⟩ := h; exact ⟨b, o, some (K, z), us, K * z, h1, h2, h3, h4, h5, h0, K, rfl, rfl⟩
theorem of_row {i b o n : Nat} {g : Option Nat} {G : Option (Nat × Nat)} {vs us : List Value} (h1 : θ i = some (b, o, G)) (h2 : All2 (R1 θ) vs us) (h3 : cellsAt w b o us) (h4 : us.length ≤ n) (h5 : rowOk w b o n)
    (h6 : match g with | none => G = none ∧ n = us.length | some z => 0 < z ∧ ∃ K, G = some (K, z) ∧ n = K * z) : ObjR θ w i (.row g vs) := by
  cases g with
  | none => obtain ⟨rfl, rfl⟩ := h6; exact ⟨b, o, us, h1, h2, h3, h5⟩
  | some z => obtain ⟨h0, K, rfl, rfl⟩ := h6; exact ⟨b, o, K, us, h1, h0, h2, h3, h4, h5⟩
theorem cellsAt_sub {b o q n : Nat} {us : List Value} (h : cellsAt w b o us) : cellsAt w b (o + q) ((us.drop q).take n) := by
  intro j v hj
  rw [List.getElem?_take] at hj
  split at hj
  · rw [List.getElem?_drop] at hj
    rw [show o + q + j = o + (q + j) from by omega]; exact h _ _ hj
  · cases hj
theorem rowOk_sub {b o q n N : Nat} (h : rowOk w b o N) (hl : q + n ≤ N) : rowOk w b (o + q) n := fun j hj => by
  rw [show o + q + j = o + (q + j) from by omega]; exact h _ (by omega)
theorem cells_ok (h : MRel W0 θ m.t w) {i o n : Nat} {vs : List Value} (hc : m.cells i o n = some vs) :
    ∃ b q G us, θ i = some (b, q, G) ∧ All2 (R1 θ) vs us ∧ cellsAt w b (q + o) us ∧ us.length = n := by
  unfold Mem.cells at hc
  cases hg : m.t.get i with
  | none => rw [hg] at hc; cases hc
  | some ob =>
    rw [hg] at hc
    cases ob with
    | row g us0 =>
      simp only at hc
      obtain ⟨e1, e2⟩ := takeX_spec hc
      obtain ⟨b, q, G, us, N, h1, h2, h3, h4, h5, _⟩ := row_of (h.obj i _ hg)
      refine ⟨b, q, G, (us.drop o).take n, h1, ?_, cellsAt_sub h3, ?_⟩
      · rw [e1]; exact (h2.drop o).take n
      · rw [← ((h2.drop o).take n).len, ← e1]; exact e2
    | _ => cases hc
theorem addr_cases {a : Addr} (h : a.spot = none) : a = A a.block a.off := by cases a; simp_all
def SlR (θ : Th) (s s' : Sl) : Prop := R0 θ (slv s) (slv s')
theorem SlR.len {s s' : Sl} (h : SlR θ s s') : s'.len = s.len := by
  obtain ⟨a, l, c⟩ := s
  obtain ⟨a', l', c'⟩ := s'
  cases a with
  | none => cases h; rfl
  | some a =>
    rcases h with ⟨_, _, _, _, _, _, h, _⟩ | ⟨_, h0, _, _, _, h⟩
    · cases h; rfl
    · cases h; exact h0.symm
theorem sl_ok (h : MRel W0 θ m.t w) {s s' : Sl} {size : Nat} (hs : SlR θ s s') {vs : List Value} (hc : m.sl s size = some vs) :
    ∃ us, All2 (R1 θ) vs us ∧ us.length = s'.len * size ∧ (s'.len * size ≠ 0 → ∃ b o, s'.a = some (A b o) ∧ cellsAt w b o us) := by
  unfold Mem.sl at hc
  rw [hs.len]
  split at hc
  · rename_i h0
    cases hc
    exact ⟨[], trivial, by simp [h0], fun hn => absurd h0 hn⟩
  · split at hc
    · rename_i n hn0 _ b o he
      obtain ⟨a, l, c⟩ := s
      obtain ⟨a', l', c'⟩ := s'
      simp only at he
      subst he
      obtain ⟨b', q, G, us, h1, h2, h3, h4⟩ := cells_ok h hc
      refine ⟨us, h2, h4, fun _ => ?_⟩
      rcases hs with ⟨b2, o2, g2, c2, e1, _, e2, _⟩ | ⟨hsp, _⟩
      · rw [h1] at e1
        cases e1
        cases e2
        exact ⟨_, _, rfl, h3⟩
      · exact absurd rfl hsp
    · cases hc
theorem new_ok {o : AO} {f : Nat → Mem → X Value} {r : Value × Mem} (h : m.new o f = some r) : m.t.get m.next = none ∧ f m.next ⟨m.next + 1, m.t.set m.next o⟩ = some r := by
  unfold Mem.new at h
  cases hg : m.t.get m.next with
  | none => rw [hg] at h; exact ⟨rfl, h⟩
  | some x => rw [hg] at h; cases h
/-- A new row of known cells. -/
theorem mrel_row (h : MRel W0 θ m.t w) (hi : m.t.get m.next = none) {vs us : List Value} {ty : Nat} (hv : All2 (R1 θ) vs us) :
    MRel W0 (θ.add m.next (w.heap.size, 0, none)) (m.t.set m.next (.row none vs)) (w.alloc (.cells us.toArray ty)) := by
  refine h.alloc hi (fun _ _ _ _ hc => by cases hc; exact .inl rfl) ⟨w.heap.size, 0, us, Th.add_same, hv.mono fun _ _ => R1.mono (Th.add_le (h.fresh hi)), row_new.1, row_new.2⟩
/-- A new row with an unknown end. -/
theorem mrel_grown (h : MRel W0 θ m.t w) (hi : m.t.get m.next = none) {vs us rest : List Value} {ty K z : Nat} (hz : 0 < z) (hv : All2 (R1 θ) vs us) (hl : us.length + rest.length = K * z) :
    MRel W0 (θ.add m.next (w.heap.size, 0, some (K, z))) (m.t.set m.next (.row (some z) vs)) (w.alloc (.cells (us ++ rest).toArray ty)) := by
  have hr : rowOk (w.alloc (.cells (us ++ rest).toArray ty)) w.heap.size 0 (us ++ rest).length := row_new.2
  refine h.alloc hi (fun _ _ _ _ hc => by cases hc; exact .inl rfl) ⟨w.heap.size, 0, K, us, Th.add_same, hz, hv.mono fun _ _ => R1.mono (Th.add_le (h.fresh hi)), fun j v hj => ?_, by omega, ?_⟩
  · refine row_new.1 j v ?_
    rw [List.getElem?_append_left]
    · exact hj
    · rcases Nat.lt_or_ge j us.length with h | h
      · exact h
      · rw [List.getElem?_eq_none h] at hj; cases hj
  · rw [List.length_append, hl] at hr; exact hr
/-- Where an address leads. -/
def AdR (θ : Th) (a a' : Option Addr) : Prop := R0 θ (.pointer a) (.pointer a')
theorem nw_ok {cells cells' : List Value} {ty : Nat} (hm : MRel W0 θ m.t w) (hv : All2 (R1 θ) cells cells') (h : (m.new (.row none cells) fun j m => some (.pointer (some (A j 0)), m)) = some (v, m1)) (hk : Next W0 θ m1 v k) :
    (Prim.nw cells' ty).f P k w := by
  obtain ⟨hi, h⟩ := new_ok h
  cases h
  exact hk _ _ _ (Th.add_le (hm.fresh hi)) (R0.to3 ⟨w.heap.size, 0, none, Th.add_same, rfl, by simp⟩) (mrel_row hm hi hv)
theorem nws_ok {cells cells' : List Value} {ty n : Nat} (hm : MRel W0 θ m.t w) (hv : All2 (R1 θ) cells cells') (h : (m.new (.row none cells) fun j m => some (.slice (some (A j 0)) n n, m)) = some (v, m1)) (hk : Next W0 θ m1 v k) :
    (Prim.nws cells' ty n).f P k w := by
  obtain ⟨hi, h⟩ := new_ok h
  cases h
  exact hk _ _ _ (Th.add_le (hm.fresh hi)) (R0.to3 (.inl ⟨w.heap.size, 0, none, n, Th.add_same, rfl, by simp, rfl⟩)) (mrel_row hm hi hv)
theorem rep_range {z : List Value} {n : Nat} (hz : 0 < z.length) : (Array.range (n * z.length)).map (fun i => z.toArray[i % z.toArray.size]!) = (rep z n).toArray := by
  apply Array.ext_getElem?
  intro j
  by_cases hj : j < n * z.length
  · have hm : j % z.length < z.length := Nat.mod_lt _ hz
    simp [hj, rep_get z n j hj, hm]
  · rw [Array.getElem?_eq_none (by simp; omega), Array.getElem?_eq_none (by simp [rep_len]; omega)]
theorem mks_ok {size bytes ty : Nat} {zero : List Value} {n c : Int} (hm : MRel W0 θ m.t w) (hz : All2 (R1 θ) zero zero)
    {C : CallX} (h : xprim C (.mks size bytes ty zero n c) m = some (v, m1)) (hk : Next W0 θ m1 v k) : (Prim.mks size bytes ty zero n c).f P k w := by
  simp only [xprim] at h
  cases hc : (decide (0 ≤ n) && decide (n ≤ c) && Nat.ble (bytes * c.toNat) 281474976710656 && Nat.blt c.toNat 9223372036854775808 && Nat.beq zero.length size && Nat.blt 0 size) with
  | false => rw [hc] at h; cases h
  | true =>
    rw [hc] at h
    simp only [cond_true] at h
    simp only [Bool.and_eq_true, decide_eq_true_eq] at hc
    obtain ⟨⟨⟨⟨⟨h1, h2⟩, h3⟩, h4⟩, h5⟩, h6⟩ := hc
    have h3 := Nat.le_of_ble_eq_true h3
    have h4 : c.toNat + 1 ≤ 9223372036854775808 := Nat.le_of_ble_eq_true h4
    have h5 := Nat.eq_of_beq_eq_true h5
    have h6 : 1 ≤ size := Nat.le_of_ble_eq_true h6
    subst h5
    obtain ⟨hi, h⟩ := new_ok h
    cases h
    refine ⟨h1, h2, ?_, by omega, ?_⟩
    · have : (bytes : Int) * c = ((bytes * c.toNat : Nat) : Int) := by rw [Int.natCast_mul]; congr 1; omega
      rw [this]; omega
    · rw [rep_range (by omega)]
      exact hk _ _ _ (Th.add_le (hm.fresh hi)) (R0.to3 (.inl ⟨w.heap.size, 0, none, c.toNat, Th.add_same, rfl, by simp, rfl⟩)) (mrel_row hm hi (hz.rep _))
end Go.Eng
namespace Go.Eng
open Go RowKit
variable {θ θ' : Th} {w w' W0 : World} {m m1 : Mem} {v : Value} {k : Value → F} {P : Program} {C : CallX}

theorem undef_R : R3 θ undef undef := ⟨#[], rfl, trivial⟩
theorem sts_ok {b o b' q : Nat} {G : Option (Nat × Nat)} {vs vs' : List Value} (hm : MRel W0 θ m.t w) (hθ : θ b = some (b', q, G)) (hv : All2 (R1 θ) vs vs')
    (h : xprim C (.sts b o vs) m = some (v, m1)) (hk : Next W0 θ m1 v k) : (Prim.sts b' (q + o) vs').f P k w := by
  simp only [xprim] at h
  cases h1 : oneAll vs with
  | false => rw [h1] at h; cases h
  | true =>
    rw [h1] at h
    simp only [cond_true] at h
    cases hg : m.t.get b with
    | none => rw [hg] at h; cases h
    | some ob =>
      rw [hg] at h
      cases ob with
      | row g us =>
        simp only at h
        cases hs : setAt us o vs with
        | none => rw [hs] at h; cases h
        | some us' =>
          rw [hs] at h
          cases h
          obtain ⟨b2, q2, G2, ys, N, e1, e2, e3, e4, e5, e6⟩ := row_of (hm.obj b _ hg)
          rw [hθ] at e1
          cases e1
          obtain ⟨ys', hs', hr⟩ := All2.setAt e2 hv hs
          obtain ⟨l1, l2⟩ := setAt_len hs'
          refine ⟨rowOk_sub e5 (by omega), hv.one h1, ?_⟩
          refine hk θ undef _ (Th.le.refl θ) undef_R (hm.upd hg (by simp) hθ (upd_setRow _ _ _) ?_)
          refine of_row (n := N) hθ hr (cellsAt_setRow e5 e4 e3 hs') (by omega) (rowOk_setRow e5 (by omega)) ?_
          cases g with
          | none => exact ⟨e6.1, by rw [l1]; exact e6.2⟩
          | some z => exact e6
      | _ => cases h
theorem rd_ok2 {b o b' q : Nat} {G : Option (Nat × Nat)} {g : Bool} {l : List Sh} (hm : MRel W0 θ m.t w) (hθ : θ b = some (b', q, G))
    (h : xprim C (.rd g l b o) m = some (v, m1)) (hk : Next W0 θ m1 v k) : (Prim.rd g l b' (q + o)).f P k w ∧ m1 = m := by
  simp only [xprim] at h
  cases hc : m.cells b o l.length with
  | none => rw [hc] at h; cases h
  | some vs =>
    rw [hc] at h
    simp only at h
    cases hs : shOk l vs with
    | false => rw [hs] at h; cases h
    | true =>
      rw [hs] at h
      simp only [cond_true] at h
      obtain ⟨b2, q2, G2, us, e1, e2, e3, e4⟩ := cells_ok hm hc
      rw [hθ] at e1
      cases e1
      have hsu := e2.shape hs
      cases g with
      | true =>
        cases h
        refine ⟨shOk_ldn hsu e3 ?_, rfl⟩
        exact hk θ _ w (Th.le.refl θ) (R2.to3 (show R2 θ (.agg vs.toArray) (.agg us.toArray) from ⟨us.toArray, rfl, by simpa using e2⟩)) hm
      | false =>
        simp only [cond_false] at h
        cases vs with
        | nil => cases h
        | cons x vs =>
          cases vs with
          | cons _ _ => cases h
          | nil =>
            cases h
            cases us with
            | nil => cases e2
            | cons y us =>
              cases us with
              | cons _ _ => cases e2.2
              | nil =>
                cases l with
                | nil => cases e4
                | cons s l =>
                  cases l with
                  | cons _ _ => simp at e4
                  | nil =>
                    refine ⟨?_, rfl⟩
                    simp only [shOk, Bool.and_true] at hsu
                    obtain ⟨z, hz⟩ := Option.isSome_iff_exists.1 hsu
                    have hy := Sh.un_mk hz
                    refine ⟨z, ?_, ?_⟩
                    · rw [← hy]; simpa using e3 0 y rfl
                    · show k (s.mk z) w
                      rw [← hy]; exact hk θ y w (Th.le.refl θ) (R1.to3 e2.1) hm
theorem bytes_spec : ∀ {vs : List Value} {l : List UInt8}, bytesOf vs = some l → vs = l.map fun c => .int .u8 c.toNat
  | [], l, h => by simp [bytesOf] at h; subst h; rfl
  | x :: vs, l, h => by
    cases x with
    | int k n =>
      cases k <;> first | cases h | skip
      simp only [bytesOf] at h
      cases hc : (decide (0 ≤ n) && decide (n < 256)) with
      | false => rw [hc] at h; cases h
      | true =>
        rw [hc] at h
        simp only [cond_true] at h
        simp only [Bool.and_eq_true, decide_eq_true_eq] at hc
        cases hr : bytesOf vs with
        | none => rw [hr] at h; cases h
        | some r =>
          rw [hr] at h
          cases h
          rw [List.map_cons, ← bytes_spec hr]
          congr 2
          have : n.toNat < 256 := by omega
          rw [UInt8.toNat_ofNat_of_lt' (by simpa using this)]
          omega
    | _ => cases h
theorem ints_R : ∀ {l : List UInt8} {us : List Value}, All2 (R1 θ) (l.map fun c => .int .u8 c.toNat) us → us = l.map fun c => .int .u8 c.toNat
  | [], [], _ => rfl
  | _ :: l, _ :: us, h => by
    have h1 := h.1
    have := ints_R h.2
    rw [List.map_cons, ← this]
    congr 1
theorem bstr_ok {s s' : Sl} (hm : MRel W0 θ m.t w) (hs : SlR θ s s') (h : xprim C (.bstr s) m = some (v, m1)) (hk : Next W0 θ m1 v k) : (Prim.bstr s').f P k w ∧ m1 = m := by
  simp only [xprim] at h
  cases hc : m.sl s 1 with
  | none => rw [hc] at h; cases h
  | some vs =>
    rw [hc] at h
    simp only at h
    cases hb : bytesOf vs with
    | none => rw [hb] at h; cases h
    | some l =>
      rw [hb] at h
      cases h
      obtain ⟨us, h1, h2, h3⟩ := sl_ok hm hs hc
      rw [bytes_spec hb] at h1
      have hu := ints_R h1
      subst hu
      refine ⟨⟨⟨l.toArray⟩, ?_, ?_, hk θ _ w (Th.le.refl θ) rfl hm⟩, rfl⟩
      · simp at h2; simpa [ByteArray.size] using h2
      · intro hn
        obtain ⟨b, o, e1, e2⟩ := h3 (by omega)
        exact ⟨b, o, e1, by simpa using e2⟩
theorem sbts_ok {ty : Nat} {x : ByteArray} (hm : MRel W0 θ m.t w) (h : xprim C (.sbts ty x) m = some (v, m1)) (hk : Next W0 θ m1 v k) : (Prim.sbts ty x).f P k w := by
  simp only [xprim] at h
  obtain ⟨hi, h⟩ := new_ok h
  cases h
  intro cap hcap
  have hb : bytesRow x cap = ((x.data.toList.map fun (c : UInt8) => Value.int .u8 c.toNat) ++ List.replicate (cap - x.size) (Value.int .u8 0)).toArray := by
    apply Array.toList_inj.1
    simp [bytesRow]
  rw [hb]
  have hlen : (x.data.toList.map fun (c : UInt8) => Value.int .u8 c.toNat).length = x.size := by rw [List.length_map, Array.length_toList]; rfl
  have hR : All2 (R1 θ) (x.data.toList.map fun c => Value.int .u8 c.toNat) (x.data.toList.map fun c => Value.int .u8 c.toNat) := by
    generalize x.data.toList = l
    induction l with
    | nil => trivial
    | cons c l ih => exact ⟨rfl, ih⟩
  generalize (x.data.toList.map fun c => Value.int .u8 c.toNat) = vs at hlen hR hk ⊢
  have hsz : (vs ++ List.replicate (cap - x.size) (Value.int .u8 0)).toArray.size = cap := by simp [hlen]; omega
  have hpre : ∀ (j : Nat) (v : Value), vs[j]? = some v → (vs ++ List.replicate (cap - x.size) (Value.int .u8 0)).toArray[j]? = some v := by
    intro j v hj
    have : j < vs.length := by
      rcases Nat.lt_or_ge j vs.length with h | h
      · exact h
      · rw [List.getElem?_eq_none h] at hj; cases hj
    rw [List.getElem?_toArray, List.getElem?_append_left this, hj]
  generalize (vs ++ List.replicate (cap - x.size) (Value.int .u8 0)).toArray = cs at hsz hpre
  refine hk _ _ _ (Th.add_le (hm.drew.fresh hi)) (R0.to3 (.inl ⟨w.heap.size, 0, some (cap, 1), cap, Th.add_same, rfl, by simp, Nat.one_pos, (by show 0 + cap * 1 = cap * 1; omega), hcap⟩)) ?_
  refine hm.drew.alloc (g := some (cap, 1)) hi (fun _ _ _ _ hc => by cases hc; exact .inr (Nat.le_refl _)) ⟨w.heap.size, 0, cap, vs, Th.add_same, Nat.one_pos, hR.mono fun _ _ => R1.mono (Th.add_le (hm.drew.fresh hi)), fun j v hj => ?_, by omega, fun j hj => ?_⟩
  · show (w.drew.alloc _).cell? (A w.drew.heap.size (0 + j)) = _
    rw [cell_new, Nat.zero_add]
    exact hpre j v hj
  · have hc : (w.drew.alloc (.cells cs ty (cs.size, cs.size + 1))).heap[w.heap.size]? = some (.cells cs ty (cs.size, cs.size + 1)) := by
      show (w.heap.push _)[w.heap.size]? = _
      simp
    constructor
    · show ((w.drew.alloc _).cell? (A w.drew.heap.size (0 + j))).isSome = true
      rw [cell_new, Array.getElem?_eq_getElem (by omega)]
      rfl
    · show (match (w.drew.alloc (.cells cs ty (cs.size, cs.size + 1))).heap[w.heap.size]? with
        | some (.cells _ _ (lo, hi)) => decide (lo ≤ 0 + j) && decide (0 + j < hi)
        | _ => false) = false
      rw [hc]
      simp
      omega
end Go.Eng
namespace Go.Eng
open Go RowKit
variable {θ θ' : Th} {w w' W0 : World} {m m1 : Mem} {v : Value} {k : Value → F} {P : Program} {C : CallX}

theorem fits_ok {bytes need old : Nat} (h : fits bytes need = true) (ho : old < need) : Builtin.nextslicecap need old * bytes ≤ 2 ^ 48 ∧ need < 2 ^ 63 := by
  simp only [fits, Bool.and_eq_true] at h
  have h1 := Nat.le_of_ble_eq_true h.1
  have h2 : need + 1 ≤ 9223372036854775808 := Nat.le_of_ble_eq_true h.2
  have := growslice_fits (bytes := bytes) ho h1
  exact ⟨by omega, by omega⟩
theorem zero_len (zero : List Value) (n : Nat) : (Builtin.zeroCells zero.toArray n).toList.length = n * zero.length := by simp [Builtin.zeroCells]
theorem xapd_ok {size bytes ty : Nat} {zero : List Value} {s s' src src' : Sl} (hm : MRel W0 θ m.t w) (hs : SlR θ s s') (hsrc : SlR θ src src') (hz : zero.length = size) (hp : 0 < size)
    (h : xapd size bytes s src m = some (v, m1)) (hk : Next W0 θ m1 v k) : (Prim.apd size bytes ty zero s' src').f P k w := by
  unfold xapd at h
  cases hn : m.sl src size with
  | none => rw [hn] at h; cases h
  | some new =>
    rw [hn] at h
    simp only at h
    obtain ⟨us, hnu, hul, hsp⟩ := sl_ok hm hsrc hn
    cases h1 : oneAll new with
    | false => rw [h1] at h; cases h
    | true =>
      rw [h1] at h
      simp only [Bool.not_true, cond_false] at h
      have hsl := hsrc.len
      refine ⟨us, hul, hnu.one h1, hsp, ?_⟩
      obtain ⟨a, l, c⟩ := s
      obtain ⟨a', l', c'⟩ := s'
      cases a with
      | none =>
        cases hs
        simp only at h
        cases hb : (Nat.beq l 0 && Nat.beq c 0) with
        | false => rw [hb] at h; cases h
        | true =>
          rw [hb] at h
          simp only [cond_true] at h
          simp only [Bool.and_eq_true] at hb
          have hl := Nat.eq_of_beq_eq_true hb.1
          have hc := Nat.eq_of_beq_eq_true hb.2
          subst hl hc
          cases h0 : Nat.beq src.len 0 with
          | true =>
            rw [h0] at h
            simp only [cond_true, Option.some.injEq, Prod.mk.injEq] at h
            obtain ⟨rfl, rfl⟩ := h
            have h0 := Nat.eq_of_beq_eq_true h0
            refine .inl ⟨by show 0 + src'.len ≤ 0; omega, .inl ⟨rfl, ?_⟩⟩
            have : (0 : Nat) + src'.len = 0 := by omega
            simp only [this]
            exact hk θ _ w (Th.le.refl θ) (R0.to3 rfl) hm
          | false =>
            rw [h0] at h
            simp only [cond_false] at h
            have h0 := Nat.ne_of_beq_eq_false h0
            cases hf : fits bytes src.len with
            | false => rw [hf] at h; cases h
            | true =>
              rw [hf] at h
              simp only [cond_true] at h
              obtain ⟨hi, h⟩ := new_ok h
              cases h
              have hff : Builtin.nextslicecap (0 + src'.len) 0 * bytes ≤ 2 ^ 48 ∧ 0 + src'.len < 2 ^ 63 := by
                rw [Nat.zero_add, hsl]; exact fits_ok hf (by omega)
              refine .inr ⟨by simp only; omega, hff.1, hff.2, [], by simp, fun hn => absurd (by simp) hn, fun cap hcap => ?_⟩
              simp only at hcap
              refine hk _ _ _ (Th.add_le (hm.drew.fresh hi)) (R0.to3 ?_) (mrel_grown (K := cap) hm.drew hi hp hnu ?_)
              · refine .inl ⟨w.heap.size, 0, some (cap, size), cap, Th.add_same, rfl, ?_, hp, ?_, by omega⟩
                · simp only [Nat.zero_add, hsl]
                · show 0 + cap * size = cap * size; omega
              · rw [zero_len, hz]
                show ([] ++ us).length + (cap - (0 + src'.len)) * size = cap * size
                rw [List.nil_append, hul, ← Nat.add_mul]; congr 1; omega
      | some a =>
        obtain ⟨b, o, sp⟩ := a
        cases sp with
        | some _ => cases h
        | none =>
          simp only at h
          rcases hs with ⟨b2, q, G, c2, e1, _, e2, e3⟩ | ⟨hsp', _⟩
          case inr => exact absurd rfl hsp'
          cases e2
          simp only at e1 e3
          cases hg : m.t.get b with
          | none => rw [hg] at h; cases h
          | some ob =>
            rw [hg] at h
            cases ob with
            | row g vs =>
              obtain ⟨b3, q3, G3, ys, N, f1, f2, f3, f4, f5, f6⟩ := row_of (hm.obj b _ hg)
              rw [e1] at f1
              cases f1
              cases g with
              | none =>
                obtain ⟨rfl, rfl⟩ := f6
                cases e3
                simp only at h
                cases hle : Nat.ble (l + src.len) c with
                | true =>
                  rw [hle] at h
                  simp only [cond_true] at h
                  have hle := Nat.le_of_ble_eq_true hle
                  cases hst : setAt vs (o + l * size) new with
                  | none => rw [hst] at h; cases h
                  | some vs' =>
                    rw [hst] at h
                    cases h
                    obtain ⟨ys', hs', hr⟩ := All2.setAt f2 hnu hst
                    obtain ⟨l1, l2⟩ := setAt_len hs'
                    refine .inl ⟨by simp only; omega, .inr ⟨b2, q + o, rfl, ?_, ?_⟩⟩
                    · simp only; rw [Nat.add_assoc]; exact rowOk_sub f5 l2
                    · simp only
                      rw [Nat.add_assoc]
                      refine hk θ _ _ (Th.le.refl θ) (R0.to3 (.inl ⟨b2, q, none, c, e1, rfl, by simp only [hsl], rfl⟩)) (hm.upd hg (by simp) e1 (upd_setRow _ _ _) ?_)
                      exact of_row (n := ys.length) e1 hr (cellsAt_setRow f5 f4 f3 hs') (by omega) (rowOk_setRow f5 l2) ⟨rfl, l1.symm⟩
                | false =>
                  rw [hle] at h
                  simp only [cond_false] at h
                  have hle : ¬(l + src.len ≤ c) := fun hh => by rw [Nat.ble_eq_true_of_le hh] at hle; cases hle
                  cases hf : fits bytes (l + src.len) with
                  | false => rw [hf] at h; cases h
                  | true =>
                    rw [hf] at h
                    simp only [cond_true] at h
                    cases ht : takeX (l * size) (vs.drop o) with
                    | none => rw [ht] at h; cases h
                    | some old =>
                      rw [ht] at h
                      simp only at h
                      obtain ⟨t1, t2⟩ := takeX_spec ht
                      obtain ⟨hi, h⟩ := new_ok h
                      cases h
                      have hff : Builtin.nextslicecap (l + src'.len) c * bytes ≤ 2 ^ 48 ∧ l + src'.len < 2 ^ 63 := by rw [hsl]; exact fits_ok hf (by omega)
                      have hold : All2 (R1 θ) old ((ys.drop o).take (l * size)) := by rw [t1]; exact (f2.drop o).take _
                      have holdl : ((ys.drop o).take (l * size)).length = l * size := by rw [← hold.len, t2]
                      refine .inr ⟨by simp only; omega, hff.1, hff.2, (ys.drop o).take (l * size), holdl, fun _ => ⟨b2, q + o, rfl, cellsAt_sub f3⟩, fun cap hcap => ?_⟩
                      simp only at hcap
                      refine hk _ _ _ (Th.add_le (hm.drew.fresh hi)) (R0.to3 ?_) (mrel_grown (K := cap) hm.drew hi hp (hold.app hnu) ?_)
                      · refine .inl ⟨w.heap.size, 0, some (cap, size), cap, Th.add_same, rfl, by simp only [hsl], hp, ?_, by omega⟩
                        show 0 + cap * size = cap * size; omega
                      · rw [zero_len, hz, List.length_append, holdl, hul, ← Nat.add_mul, ← Nat.add_mul]; congr 1; simp only; omega
              | some z =>
                obtain ⟨hz0, K, rfl, rfl⟩ := f6
                obtain ⟨_, e4, e5⟩ := e3
                simp only at h
                cases h0 : Nat.beq src.len 0 with
                | true =>
                  rw [h0] at h
                  simp only [cond_true, Option.some.injEq, Prod.mk.injEq] at h
                  obtain ⟨rfl, rfl⟩ := h
                  have h0 := Nat.eq_of_beq_eq_true h0
                  have hu0 : us = [] := List.eq_nil_of_length_eq_zero (by rw [hul, hsl, h0]; simp)
                  subst hu0
                  refine .inl ⟨by simp only; omega, .inr ⟨b2, q + o, rfl, fun j hj => absurd hj (by simp), ?_⟩⟩
                  simp only [setRow]
                  rw [show l + src'.len = l from by omega]
                  exact hk θ _ w (Th.le.refl θ) (R0.to3 (.inl ⟨b2, q, _, c', e1, rfl, rfl, hz0, e4, e5⟩)) hm
                | false =>
                  rw [h0] at h
                  simp only [cond_false] at h
                  cases hb : (Nat.beq z size && Nat.beq (o + l * size) vs.length && Nat.blt 0 size && fits bytes (l + src.len)) with
                  | false => rw [hb] at h; cases h
                  | true =>
                    rw [hb] at h
                    simp only [cond_true] at h
                    simp only [Bool.and_eq_true] at hb
                    obtain ⟨⟨⟨hb1, hb2⟩, _⟩, hf⟩ := hb
                    have hb1 := Nat.eq_of_beq_eq_true hb1
                    have hb2 := Nat.eq_of_beq_eq_true hb2
                    subst hb1
                    obtain ⟨hi, h⟩ := new_ok h
                    cases h
                    have hi' : m.t.get m.next = none ∧ m.next ≠ b := by
                      simp only [Mem.put] at hi
                      rw [Tr.get_set] at hi
                      by_cases hh : m.next = b
                      · rw [if_pos hh] at hi; cases hi
                      · rw [if_neg hh] at hi; exact ⟨hi, hh⟩
                    have hlen : ys.length = o + l * z := by rw [← f2.len, hb2]
                    have hdrop : (ys.drop o).length = l * z := by rw [List.length_drop]; omega
                    by_cases hle : l + src.len ≤ c'
                    · -- there is room
                      have hroom : (ys.drop o).length + us.length ≤ c' * z := by
                        rw [hdrop, hul, hsl, ← Nat.add_mul]; exact Nat.mul_le_mul_right z hle
                      have hrow : rowOk w b2 (q + o) (c' * z) := rowOk_sub f5 (by omega)
                      refine .inl ⟨by simp only; omega, .inr ⟨b2, q + o, rfl, ?_, ?_⟩⟩
                      · simp only; rw [← hdrop]; exact rowOk_sub hrow hroom
                      · simp only
                        rw [← hdrop]
                        have hcd : cellsAt w b2 (q + o) (ys.drop o) := by
                          have := cellsAt_sub (q := o) (n := ys.length) f3
                          rwa [List.take_of_length_le (by simp)] at this
                        refine hk _ _ _ (Th.add_le (hm.fresh hi'.1)) (R0.to3 (.inl ⟨b2, q + o, some (c', z), c', Th.add_same, rfl, by simp only [hsl, Nat.add_zero], hz0, ?_, hle⟩))
                          (hm.heir (i := b) (g1 := some (c', z)) hg (by simp) hi'.1 e1 (upd_setRow us w (q + o + (ys.drop o).length)) ?_)
                        · show 0 + c' * z = c' * z; omega
                        · refine of_row (n := c' * z) Th.add_same (((f2.drop o).app hnu).mono fun _ _ => R1.mono (Th.add_le (hm.fresh hi'.1))) (cellsAt_app hrow hroom hcd) (by rw [List.length_append]; exact hroom) (rowOk_setRow hrow hroom) ⟨hz0, c', rfl, rfl⟩
                    · -- there is none
                      have hff : Builtin.nextslicecap (l + src'.len) c' * bytes ≤ 2 ^ 48 ∧ l + src'.len < 2 ^ 63 := by rw [hsl]; exact fits_ok hf (by omega)
                      have hmk := hm.kill hg
                      refine .inr ⟨by simp only; omega, hff.1, hff.2, ys.drop o, hdrop, fun _ => ⟨b2, q + o, rfl, ?_⟩, fun cap hcap => ?_⟩
                      · have := cellsAt_sub (q := o) (n := ys.length) f3
                        rwa [List.take_of_length_le (by simp)] at this
                      · simp only at hcap
                        refine hk _ _ _ (Th.add_le (hm.fresh hi'.1)) (R0.to3 ?_) (mrel_grown (m := m.put b .dead) (K := cap) hmk.drew hi hz0 ((f2.drop o).app hnu) ?_)
                        · refine .inl ⟨w.heap.size, 0, some (cap, z), cap, Th.add_same, rfl, by simp only [hsl], hz0, ?_, by omega⟩
                          show 0 + cap * z = cap * z; omega
                        · rw [zero_len, hz, List.length_append, hdrop, hul, ← Nat.add_mul, ← Nat.add_mul]; congr 1; simp only; omega
            | _ => cases h
end Go.Eng
namespace Go.Eng
open Go RowKit
variable {θ θ' : Th} {w w' W0 : World} {m m1 : Mem} {v : Value} {k : Value → F} {P : Program} {C : CallX}

theorem SlR.cut {s s' : Sl} (h : SlR θ s s') {n : Nat} (hn : n ≤ s.len) : ∃ s'', s''.a = s'.a ∧ s''.len = n ∧ SlR θ ⟨s.a, n, n⟩ s'' := by
  obtain ⟨a, l, c⟩ := s
  obtain ⟨a', l', c'⟩ := s'
  cases a with
  | none => cases h; exact ⟨⟨none, n, n⟩, rfl, rfl, rfl⟩
  | some a =>
    rcases h with ⟨b, o, g, c2, h1, h2, h3, h4⟩ | ⟨h1, h2, b, o, c2, h3⟩
    · cases h3
      cases g with
      | none => exact ⟨⟨_, n, n⟩, rfl, rfl, .inl ⟨b, o, none, n, h1, h2, rfl, rfl⟩⟩
      | some g => exact ⟨⟨_, n, _⟩, rfl, rfl, .inl ⟨b, o, some g, _, h1, h2, rfl, h4.1, h4.2.1, Nat.le_trans hn h4.2.2⟩⟩
    · cases h3
      simp only at hn h2
      have : n = 0 := by omega
      subst this
      exact ⟨⟨_, 0, 0⟩, rfl, rfl, .inr ⟨h1, rfl, b, o, 0, rfl⟩⟩
theorem xcpy_ok {size : Nat} {d d' src src' : Sl} (hm : MRel W0 θ m.t w) (hd : SlR θ d d') (hsrc : SlR θ src src') (h : xcpy size d src m = some (v, m1)) (hk : Next W0 θ m1 v k) : (Prim.cpy size d' src').f P k w := by
  unfold xcpy at h
  simp only at h
  have hl1 := hd.len
  have hl2 := hsrc.len
  obtain ⟨s2, ha, hl, hs2⟩ := hsrc.cut (n := min src.len d.len) (by omega)
  cases hn : m.sl ⟨src.a, min src.len d.len, min src.len d.len⟩ size with
  | none => rw [hn] at h; cases h
  | some new =>
    rw [hn] at h
    simp only at h
    obtain ⟨us, hnu, hul, hsp⟩ := sl_ok hm hs2 hn
    rw [hl] at hul hsp
    rw [ha] at hsp
    cases h1 : oneAll new with
    | false => rw [h1] at h; cases h
    | true =>
      rw [h1] at h
      simp only [Bool.not_true, cond_false] at h
      refine ⟨us, by rw [hl1, hl2]; exact hul, hnu.one h1, fun hne => hsp (by rw [← hul]; exact hne), ?_⟩
      rw [hl1, hl2]
      cases new with
      | nil =>
        cases us with
        | cons _ _ => cases hnu
        | nil =>
          cases h
          have := hk θ (.int .i64 (min src.len d.len : Nat)) w (Th.le.refl θ) (R0.to3 rfl) hm
          obtain ⟨a, l, c⟩ := d
          obtain ⟨a', l', c'⟩ := d'
          cases a with
          | none => cases hd; exact .inl ⟨rfl, this⟩
          | some a =>
            rcases hd with ⟨b, o, g, c2, _, _, h3, _⟩ | ⟨_, _, b, o, c2, h3⟩
            · cases h3; exact .inr ⟨_, _, rfl, fun j hj => absurd hj (by simp), this⟩
            · cases h3; exact .inr ⟨_, _, rfl, fun j hj => absurd hj (by simp), this⟩
      | cons x new =>
        simp only at h
        obtain ⟨a, l, c⟩ := d
        obtain ⟨a', l', c'⟩ := d'
        simp only at h ⊢
        split at h
        case h_2 => cases h
        case h_1 _ b o =>
        rcases hd with ⟨b2, q, G, c2, e1, _, e2, e3⟩ | ⟨hsp', _⟩
        case inr => exact absurd rfl hsp'
        cases e2
        cases hg : m.t.get b with
        | none => rw [hg] at h; cases h
        | some ob =>
          rw [hg] at h
          cases ob with
          | row g vs =>
            simp only at h
            cases hst : setAt vs o (x :: new) with
            | none => rw [hst] at h; cases h
            | some vs' =>
              rw [hst] at h
              cases h
              obtain ⟨b3, q3, G3, ys, N, f1, f2, f3, f4, f5, f6⟩ := row_of (hm.obj b _ hg)
              simp only at e1
              rw [e1] at f1
              cases f1
              obtain ⟨ys', hs', hr⟩ := All2.setAt f2 hnu hst
              obtain ⟨l1, l2⟩ := setAt_len hs'
              refine .inr ⟨b2, q + o, rfl, rowOk_sub f5 (by omega), ?_⟩
              refine hk θ _ _ (Th.le.refl θ) (R0.to3 rfl) (hm.upd hg (by simp) e1 (upd_setRow _ _ _) ?_)
              refine of_row (n := N) e1 hr (cellsAt_setRow f5 f4 f3 hs') (by omega) (rowOk_setRow f5 (by omega)) ?_
              cases g with
              | none => exact ⟨f6.1, by rw [l1]; exact f6.2⟩
              | some z => exact f6
          | _ => cases h

/-! ### Calls -/
/-- What is called comes to what the executor says. -/
def CallOk (P : Program) (W0 : World) (C : CallX) : Prop := ∀ f args m v m1, C f args m = some (v, m1) → ∀ θ args' w, All2 (R2 θ) args args' → MRel W0 θ m.t w →
  Calls P f args'.toArray w fun e w1 => ∃ θ1 v', Th.le θ θ1 ∧ R3 θ1 v v' ∧ MRel W0 θ1 m1.t w1 ∧ e = .returned v'
theorem shOk_app : ∀ {l r : List Sh} {vs us : List Value}, shOk l vs = true → shOk r us = true → shOk (l ++ r) (vs ++ us) = true
  | [], _, [], _, _, h => h
  | s :: l, _, _ :: _, _, h, h' => by
    simp only [shOk, Bool.and_eq_true] at h
    simp only [List.cons_append, shOk, Bool.and_eq_true]
    exact ⟨h.1, shOk_app h.2 h'⟩
theorem resOk_cut : ∀ {rs : List RT} {vs us : List Value}, All2 (R2 θ) vs us → resOk rs vs = true → ∃ fl, shOk (allSh rs) fl = true ∧ cutR rs fl = us
  | [], [], [], _, _ => ⟨[], rfl, rfl⟩
  | (true, l) :: rs, v :: vs, u :: us, h, hr => by
    cases v with
    | agg cs =>
      simp only [resOk, Bool.and_eq_true] at hr
      obtain ⟨ds, h1, h2⟩ := h.1
      obtain ⟨fl, h3, h4⟩ := resOk_cut h.2 hr.2
      have hs := All2.shape h2 hr.1
      refine ⟨ds.toList ++ fl, shOk_app hs h3, ?_⟩
      have hlen := shOk_len hs
      simp only [cutR]
      rw [← hlen, List.take_left, List.drop_left, h4, h1]
    | _ => cases hr
  | (false, [s]) :: rs, v :: vs, u :: us, h, hr => by
    simp only [resOk, Bool.and_eq_true] at hr
    obtain ⟨fl, h3, h4⟩ := resOk_cut h.2 hr.2
    have h1 : R1 θ v u := by
      rcases R2.alt h.1 with ⟨cs, rfl⟩ | h1
      · cases hr.1.1
      · exact h1
    have hs := R1.shape h1 hr.1.2
    exact ⟨u :: fl, by simp only [allSh, List.flatMap_cons, List.singleton_append, shOk, Bool.and_eq_true]; exact ⟨hs, h3⟩, by simp [cutR, h4]⟩
  | (false, []) :: _, _ :: _, _, _, hr => by simp [resOk] at hr
  | (false, _ :: _ :: _) :: _, _ :: _, _, _, hr => by simp [resOk] at hr
  | (true, _) :: _, [], _, _, hr => by simp [resOk] at hr
  | (false, _) :: _, [], _, _, hr => by simp [resOk] at hr
theorem resV_of {rs : List RT} {vs us : List Value} (h : All2 (R2 θ) vs us) (hr : resOk rs vs = true) : ∃ x, resV rs x = tup us := by
  obtain ⟨fl, h1, h2⟩ := resOk_cut h hr
  obtain ⟨x, hx⟩ := shOk_un h1
  have := unL_vals _ _ x (shOk_len h1) hx
  exact ⟨x, by unfold resV; rw [this, h2]⟩
theorem resOk1_ok {rs : List RT} {v u : Value} (h : R3 θ v u) (hr : resOk1 rs v = true) : ∃ x, resV rs x = u := by
  unfold resOk1 at hr
  split at hr
  · rename_i r
    have h2 : R2 θ v u := by
      rcases R3.alt h with ⟨cs, rfl⟩ | h2
      · obtain ⟨g, l⟩ := r
        cases g with
        | true => cases hr
        | false =>
          cases l with
          | nil => cases hr
          | cons s l =>
            cases l with
            | nil => cases hr
            | cons _ _ => cases hr
      · exact h2
    exact resV_of (vs := [v]) (us := [u]) ⟨h2, trivial⟩ hr
  · rename_i vs hne
    obtain ⟨ds, rfl, hd⟩ := h
    obtain ⟨x, hx⟩ := resV_of hd hr
    refine ⟨x, hx.trans ?_⟩
    have hne1 : ds.toList.length ≠ 1 := by
      rw [← hd.len]
      intro h1
      cases rs with
      | nil =>
        cases hv : vs.toList with
        | nil => rw [hv] at h1; cases h1
        | cons _ _ => rw [hv] at hr; simp [resOk] at hr
      | cons r rs =>
        cases rs with
        | nil => exact hne r rfl
        | cons r2 rs =>
          cases hv : vs.toList with
          | nil => rw [hv] at h1; cases h1
          | cons y ys =>
            cases ys with
            | cons _ _ => rw [hv] at h1; simp at h1
            | nil =>
              rw [hv] at hr
              obtain ⟨g, l⟩ := r
              cases g with
              | true => cases y <;> simp [resOk] at hr
              | false =>
                cases l with
                | nil => simp [resOk] at hr
                | cons s l =>
                  cases l with
                  | nil => simp [resOk] at hr
                  | cons _ _ => simp [resOk] at hr
    cases hds : ds.toList with
    | nil => rw [← Array.toArray_toList (xs := ds), hds]; rfl
    | cons y ys =>
      cases ys with
      | nil => rw [hds] at hne1; exact absurd rfl hne1
      | cons _ _ => rw [← Array.toArray_toList (xs := ds), hds]; rfl
  · cases hr
theorem args_R2 : ∀ {l r : List Value}, All2 (R3 θ) l r → argsOk l = true → All2 (R2 θ) l r
  | [], [], _, _ => trivial
  | x :: _, _ :: _, h, h1 => by cases x <;> first | exact ⟨h.1, args_R2 h.2 h1⟩ | cases h1
theorem xcall_ok (hC : CallOk P W0 C) {f : Nat} {args args' : List Value} {rs : List RT} (hm : MRel W0 θ m.t w) (ha : All2 (R3 θ) args args') (h : xcall C f args rs m = some (v, m1)) (hk : Next W0 θ m1 v k) :
    Calls P f args'.toArray w fun e w' => ∃ x, e = .returned (resV rs x) ∧ ap (allSh rs) (lam (allSh rs) fun x => k (resV rs x)) x w' := by
  unfold xcall at h
  have hargs : argsOk args = true := by
    cases ha : argsOk args with
    | true => rfl
    | false => rw [ha] at h; cases h
  rw [hargs] at h
  simp only [cond_true] at h
  have ha := args_R2 ha hargs
  cases hc : C f args m with
  | none => rw [hc] at h; cases h
  | some r =>
    obtain ⟨u, m2⟩ := r
    rw [hc] at h
    simp only at h
    cases hr : resOk1 rs u with
    | false => rw [hr] at h; cases h
    | true =>
      rw [hr] at h
      cases h
      refine (hC _ _ _ _ _ hc θ args' w ha hm).mono ?_
      rintro e w1 ⟨θ1, v', h1, h2, h3, rfl⟩
      obtain ⟨x, hx⟩ := resOk1_ok h2 hr
      exact ⟨x, by rw [hx], by rw [ap_lam, hx]; exact hk θ1 v' w1 h1 h2 h3⟩
/-! ### Channels -/
theorem upd_obj {b : Nat} {ob : Obj} (hn : ∀ c e fr, ob ≠ .cells c e fr) : Upd b w { w with heap := w.heap.setIfInBounds b ob } := ⟨rfl, rfl, rfl, by simp, fun k hk => by simp [Array.getElem?_setIfInBounds_ne (Ne.symm hk)], fun _ c e lo hi hc => by
  simp only [Array.getElem?_setIfInBounds, if_true] at hc
  split at hc
  · exact absurd (Option.some.inj hc) (hn _ _ _)
  · cases hc⟩
theorem selR_ok {r r' : Option Nat} (hm : MRel W0 θ m.t w) (hr : R0 θ (.chan r) (.chan r')) (h : xprim C (.selR r) m = some (v, m1)) (hk : Next W0 θ m1 v k) : (Prim.selR r').f P k w := by
  cases r with
  | none => simp [xprim] at h
  | some r =>
    simp only [xprim] at h
    obtain ⟨b, o, g, h1, h2⟩ := hr
    cases h2
    cases hg : m.t.get r with
    | none => rw [hg] at h; cases h
    | some ob =>
      rw [hg] at h
      cases ob with
      | ch c buf =>
        simp only at h
        obtain ⟨b', o', g', s, n, e1, e2, e3⟩ := hm.obj r _ hg
        rw [h1] at e1
        cases e1
        refine ⟨b, c, buf.toArray, s, n, rfl, e2, ?_⟩
        cases buf with
        | nil => cases h; exact .inl ⟨rfl, hk θ _ w (Th.le.refl θ) ⟨_, rfl, rfl, rfl, rfl, trivial⟩ hm⟩
        | cons x rest =>
          cases x with
          | int kk x =>
            cases kk <;> first | (cases h; done) | skip
            cases h
            refine .inr ⟨x, rest, rfl, hk θ _ _ (Th.le.refl θ) ⟨_, rfl, rfl, rfl, rfl, trivial⟩ (hm.upd hg (by simp) h1 (upd_obj nofun) ⟨b, o, g, s, n + 1, h1, ?_, e3⟩)⟩
            simp [(hm.old _ _ _ _ h1).2]
          | _ => cases h
      | _ => cases h
theorem intsB_app : ∀ {l : List Value} {kk : IntKind} {x : Int}, intsB l = true → intsB (l ++ [.int kk x]) = true
  | [], _, _, _ => rfl
  | y :: l, kk, x, h => by cases y <;> first | cases h | exact intsB_app (l := l) h
theorem selS_ok {r r' : Option Nat} {u u' : Value} (hm : MRel W0 θ m.t w) (hr : R0 θ (.chan r) (.chan r')) (hu : R1 θ u u') (h : xprim C (.selS r u) m = some (v, m1)) (hk : Next W0 θ m1 v k) : (Prim.selS r' u').f P k w := by
  cases r with
  | none => simp [xprim] at h
  | some r =>
    cases u with
    | int kk x =>
      simp only [xprim] at h
      obtain ⟨b, o, g, h1, h2⟩ := hr
      cases h2
      cases hu
      cases hg : m.t.get r with
      | none => rw [hg] at h; cases h
      | some ob =>
        rw [hg] at h
        cases ob with
        | ch c buf =>
          simp only at h
          obtain ⟨b', o', g', s, n, e1, e2, e3⟩ := hm.obj r _ hg
          rw [h1] at e1
          cases e1
          refine ⟨b, c, buf.toArray, s, n, rfl, e2, ?_⟩
          cases hle : Nat.ble c buf.length with
          | true =>
            rw [hle] at h
            cases h
            exact .inl ⟨by simpa using Nat.le_of_ble_eq_true hle, hk θ _ w (Th.le.refl θ) ⟨_, rfl, rfl, rfl, trivial⟩ hm⟩
          | false =>
            rw [hle] at h
            cases h
            have hle : ¬(c ≤ buf.length) := fun hh => by rw [Nat.ble_eq_true_of_le hh] at hle; cases hle
            refine .inr ⟨by simpa using hle, hk θ _ _ (Th.le.refl θ) ⟨_, rfl, rfl, rfl, trivial⟩ (hm.upd hg (by simp) h1 (upd_obj nofun) ⟨b, o, g, s + 1, n, h1, ?_, intsB_app e3⟩)⟩
            simp [(hm.old _ _ _ _ h1).2]
        | _ => cases h
    | _ => simp [xprim] at h
end Go.Eng
namespace Go.Eng
open Go RowKit
variable {θ θ' : Th} {w w' W0 : World} {m m1 : Mem} {v u : Value} {k : Value → F} {P : Program} {C : CallX}

/-! ### Primitives side by side -/
def RW (θ : Th) (v u : Value) : Prop := v.oneCell' = true → R1 θ v u
theorem All2.strong : ∀ {l r : List Value}, All2 (RW θ) l r → oneAll l = true → All2 (R1 θ) l r
  | [], [], _, _ => trivial
  | _ :: _, _ :: _, h, h1 => by
    simp only [oneAll, Bool.and_eq_true] at h1
    exact ⟨h.1 h1.1, All2.strong h.2 h1.2⟩
theorem All2.weak {l r : List Value} (h : All2 (R1 θ) l r) : All2 (RW θ) l r := h.mono (R' := RW θ) fun _ _ h _ => h
theorem R3.plain (h : R3 θ v u) (hp : plainV v = true) : R0 θ v u := by cases v <;> first | exact h | cases hp
theorem R3.one (h : R3 θ v u) (hp : v.oneCell' = true) : R1 θ v u := by cases v <;> first | exact h | cases hp
theorem R3.cells (h : R3 θ v u) : All2 (RW θ) v.cells.toList u.cells.toList := by
  cases v with
  | agg cs => obtain ⟨ds, rfl, h2⟩ := h; exact h2.weak
  | tuple cs => obtain ⟨ds, rfl, h2⟩ := h; exact ⟨nofun, trivial⟩
  | _ =>
    have h1 : R1 θ _ u := R3.one h rfl
    have hu := R1.one h1 rfl
    cases u <;> first | exact ⟨fun _ => h1, trivial⟩ | cases hu
theorem plains : ∀ {l r : List Value}, All2 (R3 θ) l r → plainVs l = true → All2 (R0 θ) l r
  | [], [], _, _ => trivial
  | _ :: _, _ :: _, h, h1 => by
    simp only [plainVs, Bool.and_eq_true] at h1
    exact ⟨h.1.plain h1.1, plains h.2 h1.2⟩
def OR (θ : Th) (x y : Option Value) : Prop := ∀ v, x = some v → ∃ u, y = some u ∧ R3 θ v u
def AdS (θ : Th) (a a' : Option Addr) : Prop := ∀ b o, a = some ⟨b, o, none⟩ → ∃ b' q G, θ b = some (b', q, G) ∧ a' = some (A b' (q + o))
def PR (θ : Th) : Prim → Prim → Prop
  | .val v, p' => ∃ u, p' = .val u ∧ (valOk v = true → R3 θ v u)
  | .chk _ v, p' => ∃ c' u, p' = .chk c' u ∧ c' ∧ R3 θ v u
  | .pick c x y, p' => ∃ x' y', p' = .pick c x' y' ∧ OR θ x x' ∧ OR θ y y'
  | .nn a, p' => ∃ a', p' = .nn a' ∧ AdS θ a a'
  | .ix a len i size, p' => ∃ a', p' = .ix a' len i size ∧ AdS θ a a'
  | .rd g l b o, p' => ∃ b' q G, p' = .rd g l b' (q + o) ∧ θ b = some (b', q, G)
  | .bstr s, p' => ∃ s', p' = .bstr s' ∧ SlR θ s s'
  | .sts b o vs, p' => ∃ b' q G vs', p' = .sts b' (q + o) vs' ∧ θ b = some (b', q, G) ∧ All2 (RW θ) vs vs'
  | .nw cells ty, p' => ∃ cells', p' = .nw cells' ty ∧ All2 (RW θ) cells cells'
  | .nws cells ty n, p' => ∃ cells', p' = .nws cells' ty n ∧ All2 (RW θ) cells cells'
  | .mks size bytes ty zero n c, p' => p' = .mks size bytes ty zero n c ∧ All2 (R1 θ) zero zero
  | .sbts ty x, p' => p' = .sbts ty x
  | .apd size bytes ty zero s src, p' => ∃ s' src', p' = .apd size bytes ty zero s' src' ∧ SlR θ s s' ∧ SlR θ src src'
  | .cpy size d src, p' => ∃ d' src', p' = .cpy size d' src' ∧ SlR θ d d' ∧ SlR θ src src'
  | .call f args rs, p' => ∃ args', p' = .call f args' rs ∧ All2 (R3 θ) args args'
  | .callv fv args rs, p' => ∃ fv' args', p' = .callv fv' args' rs ∧ R3 θ fv fv' ∧ All2 (R3 θ) args args'
  | .selR r, p' => ∃ r', p' = .selR r' ∧ R0 θ (.chan r) (.chan r')
  | .selS r v, p' => ∃ r' v', p' = .selS r' v' ∧ R0 θ (.chan r) (.chan r') ∧ R3 θ v v'
  | _, _ => True
theorem R0s_to2 : ∀ {l r : List Value}, All2 (R0 θ) l r → All2 (R2 θ) l r := fun h => h.mono fun _ _ h => h.to1.to2
/-- One step, here and there. -/
theorem xprim_ok {p p' : Prim} (hC : CallOk P W0 C) (hcl : ∀ f args m r, C f args m = some r → callable P f) (hm : MRel W0 θ m.t w) (hp : PR θ p p') (h : xprim C p m = some (v, m1)) (hk : Next W0 θ m1 v k) : p'.f P k w := by
  cases p with
  | val x =>
    obtain ⟨u, rfl, hr⟩ := hp
    simp only [xprim] at h
    cases hv : valOk x with
    | false => rw [hv] at h; cases h
    | true => rw [hv] at h; cases h; exact hk θ u w (Th.le.refl θ) (hr hv) hm
  | chk c x =>
    obtain ⟨c', u, rfl, hc, hr⟩ := hp
    cases h
    exact ⟨hc, hk θ u w (Th.le.refl θ) hr hm⟩
  | pick c x y =>
    obtain ⟨x', y', rfl, hx, hy⟩ := hp
    cases c with
    | true =>
      cases x with
      | none => cases h
      | some x =>
        cases h
        obtain ⟨u, rfl, hr⟩ := hx _ rfl
        exact hk θ u w (Th.le.refl θ) hr hm
    | false =>
      cases y with
      | none => cases h
      | some y =>
        cases h
        obtain ⟨u, rfl, hr⟩ := hy _ rfl
        exact hk θ u w (Th.le.refl θ) hr hm
  | nn a =>
    obtain ⟨a', rfl, hr⟩ := hp
    cases a with
    | none => cases h
    | some a =>
      obtain ⟨b, o, sp⟩ := a
      cases sp with
      | some _ => cases h
      | none =>
        cases h
        obtain ⟨b', q, G, h1, rfl⟩ := hr _ _ rfl
        exact ⟨b', q + o, rfl, hk θ _ w (Th.le.refl θ) (R0.to3 ⟨b', q, G, h1, rfl, rfl⟩) hm⟩
  | ix a len i size =>
    obtain ⟨a', rfl, hr⟩ := hp
    cases a with
    | none => cases h
    | some a =>
      obtain ⟨b, o, sp⟩ := a
      cases sp with
      | some _ => cases h
      | none =>
        simp only [xprim] at h
        cases hc : (decide (0 ≤ i) && decide (i < len)) with
        | false => rw [hc] at h; cases h
        | true =>
          rw [hc] at h
          cases h
          simp only [Bool.and_eq_true, decide_eq_true_eq] at hc
          obtain ⟨b', q, G, h1, rfl⟩ := hr _ _ rfl
          exact ⟨b', q + o, rfl, hc.1, hc.2, hk θ _ w (Th.le.refl θ) (R0.to3 ⟨b', q, G, h1, rfl, by simp [Nat.add_assoc]⟩) hm⟩
  | rd g l b o =>
    obtain ⟨b', q, G, rfl, h1⟩ := hp
    exact (rd_ok2 hm h1 h hk).1
  | bstr s => obtain ⟨s', rfl, h1⟩ := hp; exact (bstr_ok hm h1 h hk).1
  | sts b o vs =>
    obtain ⟨b', q, G, vs', rfl, h1, h2⟩ := hp
    have ho : oneAll vs = true := by
      cases ho : oneAll vs with
      | true => rfl
      | false => simp [xprim, ho] at h
    exact sts_ok hm h1 (h2.strong ho) h hk
  | nw cells ty =>
    obtain ⟨cells', rfl, h1⟩ := hp
    simp only [xprim] at h
    cases ho : oneAll cells with
    | false => rw [ho] at h; cases h
    | true => rw [ho] at h; exact nw_ok hm (h1.strong ho) h hk
  | nws cells ty n =>
    obtain ⟨cells', rfl, h1⟩ := hp
    simp only [xprim] at h
    cases ho : oneAll cells with
    | false => rw [ho] at h; cases h
    | true => rw [ho] at h; exact nws_ok hm (h1.strong ho) h hk
  | mks size bytes ty zero n c => obtain ⟨rfl, h1⟩ := hp; exact mks_ok hm h1 h hk
  | sbts ty x => cases hp; exact sbts_ok hm h hk
  | apd size bytes ty zero s src =>
    obtain ⟨s', src', rfl, h1, h2⟩ := hp
    simp only [xprim] at h
    cases hc : (Nat.beq zero.length size && Nat.blt 0 size) with
    | false => rw [hc] at h; cases h
    | true =>
      rw [hc] at h
      simp only [Bool.and_eq_true] at hc
      exact xapd_ok hm h1 h2 (Nat.eq_of_beq_eq_true hc.1) (Nat.le_of_ble_eq_true hc.2) h hk
  | cpy size d src => obtain ⟨d', src', rfl, h1, h2⟩ := hp; exact xcpy_ok hm h1 h2 h hk
  | call f args rs => obtain ⟨args', rfl, h1⟩ := hp; exact xcall_ok hC hm h1 h hk
  | callv fv args rs =>
    obtain ⟨fv', args', rfl, h1, h2⟩ := hp
    cases fv with
    | func f first cap =>
      cases f with
      | func f =>
        obtain ⟨first', cap', rfl, h3, h4⟩ := h1
        simp only [xprim] at h
        have hall : All2 (R3 θ) (first.toList ++ args ++ cap.toList) (first'.toList ++ args' ++ cap'.toList) :=
          ((h3.mono fun _ _ h => R0.to3 h).app h2).app (h4.mono fun _ _ h => R0.to3 h)
        have hcall : callable P f := by
          unfold xcall at h
          cases ha : argsOk (first.toList ++ args ++ cap.toList) with
          | false => rw [ha] at h; cases h
          | true =>
            rw [ha] at h
            simp only [cond_true] at h
            cases hc : C f (first.toList ++ args ++ cap.toList) m with
            | none => rw [hc] at h; cases h
            | some r => exact hcl _ _ _ _ hc
        refine ⟨f, first', cap', rfl, hcall, ?_⟩
        have := xcall_ok hC hm hall h hk
        have e : (first'.toList ++ args' ++ cap'.toList).toArray = first' ++ args'.toArray ++ cap' := by simp
        rw [e] at this
        exact this
      | _ => cases h
    | _ => cases h
  | selR r => obtain ⟨r', rfl, h1⟩ := hp; exact selR_ok hm h1 h hk
  | selS r x =>
    obtain ⟨r', x', rfl, h1, h2⟩ := hp
    have h3 : R1 θ x x' := by
      cases x with
      | int kk n => exact h2
      | _ => cases r <;> simp [xprim] at h
    exact selS_ok hm h1 h3 h hk
  | raw _ _ _ => cases h
  | rawu _ => cases h
  | next _ _ => cases h
  | apz _ _ _ _ _ _ => cases h
end Go.Eng
namespace Go.Eng
open Go RowKit
variable {θ : Th} {v u a a' b b' : Value} {e ρ : Env} {T : Tab} {p : Prim}

def ERel (θ : Th) (e ρ : Env) : Prop := ∀ t v, e t = some v → ∃ u, ρ t = some u ∧ R3 θ v u
def TabFlat (T : Tab) : Prop := ∀ t i, T.ti t = some i → flatVs i.zero = true
theorem flatOs_mem : ∀ {l : List Operand} {x : Operand}, flatOs l = true → x ∈ l → flatO x = true
  | y :: l, x, h, hx => by
    simp only [flatOs, Bool.and_eq_true] at h
    rcases List.mem_cons.1 hx with rfl | hx
    · exact h.1
    · exact flatOs_mem h.2 hx
theorem ev_R (hE : ERel θ e ρ) {x : Operand} (hf : flatO x = true) (h : ev e x = some v) : ∃ u, ev ρ x = some u ∧ R3 θ v u := by
  cases x with
  | tmp t => exact hE t v h
  | const c => cases h; exact ⟨_, rfl, (flat_R2 hf).to3⟩
  | global g => cases hf
  | func f => cases h; exact ⟨_, rfl, ⟨_, _, rfl, trivial, trivial⟩⟩
theorem evs_R (hE : ERel θ e ρ) : ∀ {l : List Operand} {vs : List Value}, (∀ x ∈ l, flatO x = true) → evs e l = some vs → ∃ us, evs ρ l = some us ∧ All2 (R3 θ) vs us
  | [], vs, _, h => by cases h; exact ⟨[], rfl, trivial⟩
  | x :: l, vs, hf, h => by
    simp only [evs] at h
    cases hx : ev e x with
    | none => rw [hx] at h; cases h
    | some v =>
      rw [hx] at h
      simp only at h
      cases hl : evs e l with
      | none => rw [hl] at h; cases h
      | some us =>
        rw [hl] at h
        cases h
        obtain ⟨u, h1, h2⟩ := ev_R hE (hf x (by simp)) hx
        obtain ⟨us', h3, h4⟩ := evs_R hE (fun y hy => hf y (List.mem_cons_of_mem _ hy)) hl
        exact ⟨u :: us', by simp only [evs, h1, h3], h2, h4⟩
def AllP (θ : Th) : List (Nat × Value) → List (Nat × Value) → Prop
  | [], [] => True
  | x :: l, y :: r => x.1 = y.1 ∧ R3 θ x.2 y.2 ∧ AllP θ l r
  | _, _ => False
theorem evp_R (hE : ERel θ e ρ) : ∀ {l : List (Nat × Operand)} {vs : List (Nat × Value)}, (∀ x ∈ l, flatO x.2 = true) → evp e l = some vs → ∃ us, evp ρ l = some us ∧ AllP θ vs us
  | [], vs, _, h => by cases h; exact ⟨[], rfl, trivial⟩
  | (i, x) :: l, vs, hf, h => by
    simp only [evp] at h
    cases hx : ev e x with
    | none => rw [hx] at h; cases h
    | some v =>
      rw [hx] at h
      simp only at h
      cases hl : evp e l with
      | none => rw [hl] at h; cases h
      | some us =>
        rw [hl] at h
        cases h
        obtain ⟨u, h1, h2⟩ := ev_R hE (hf (i, x) (by simp)) hx
        obtain ⟨us', h3, h4⟩ := evp_R hE (fun y hy => hf y (List.mem_cons_of_mem _ hy)) hl
        exact ⟨(i, u) :: us', by simp only [evp, h1, h3], rfl, h2, h4⟩
theorem fillL_R {place : Nat → Option (Nat × Nat)} : ∀ {l l' : List (Nat × Value)} {cells cells' r : List Value}, AllP θ l l' → All2 (RW θ) cells cells' → fillL place cells l = some r → ∃ r', fillL place cells' l' = some r' ∧ All2 (RW θ) r r'
  | [], [], cells, cells', r, _, h, hr => by cases hr; exact ⟨cells', rfl, h⟩
  | (i, v) :: l, (j, u) :: l', cells, cells', r, hl, h, hr => by
    obtain ⟨h1, h2, h3⟩ := hl
    simp only at h1 h2
    subst h1
    simp only [fillL] at hr ⊢
    cases hp : place i with
    | none => rw [hp] at hr; cases hr
    | some os =>
      obtain ⟨off, size⟩ := os
      rw [hp] at hr
      simp only at hr ⊢
      have hc := h2.cells
      have hlen := hc.len
      have hlen2 := h.len
      rw [← hlen, ← hlen2]
      cases hb : (Nat.beq v.cells.toList.length size && Nat.ble (off + v.cells.toList.length) cells.length) with
      | false => rw [hb] at hr; cases hr
      | true =>
        rw [hb] at hr
        simp only [cond_true] at hr ⊢
        exact fillL_R h3 (((h.take _).app hc).app (h.drop _)) hr
  | [], _ :: _, _, _, _, h, _, _ => h.elim
  | _ :: _, [], _, _, _, h, _, _ => h.elim
/-! ### Values that stand for themselves -/
def Good (p : Prim) : Prop := (∃ v, p = .val v ∧ flatV v = true) ∨ ∃ c v, p = .chk c v ∧ c ∧ flatV v = true
theorem Good.pr (h : Good p) : PR θ p p := by
  rcases h with ⟨v, rfl, h⟩ | ⟨c, v, rfl, hc, h⟩
  · exact ⟨v, rfl, fun _ => (flat_R0 h).to3⟩
  · exact ⟨c, v, rfl, hc, (flat_R0 h).to3⟩
def binC (op : BinOp) (a b : Value) : Bool := match a, b with
  | .string a, .string b => (match op with | .add => Nat.ble (a.size + b.size) 9223372036854775807 | _ => true)
  | .int _ _, .int _ b => (match op with
      | .shl | .shr => decide (0 ≤ b)
      | .quo | .rem => !decide (b = 0)
      | _ => true)
  | _, _ => true
theorem binI {U : U} {op : BinOp} {k j : IntKind} {x y : Int} (hc : binC op (.int k x) (.int j y) = true) (h : binR U op (.int k x) (.int j y) = some p) : Good p := by
  simp only [binC] at hc
  cases op <;> simp only [binR] at h <;> (try (cases hd : decide (j = k) <;> rw [hd] at h <;> simp only [cond_true, cond_false] at h)) <;>
    first
    | (cases h; done)
    | (cases h; exact .inl ⟨_, rfl, rfl⟩)
    | (cases h; exact .inr ⟨_, _, rfl, by simpa using hc, rfl⟩)
theorem binS {U : U} {op : BinOp} {x y : ByteArray} (hc : binC op (.string x) (.string y) = true) (h : binR U op (.string x) (.string y) = some p) : Good p := by
  simp only [binC] at hc
  cases op <;> simp only [binR] at h <;>
    first
    | (cases h; done)
    | (cases h; exact .inl ⟨_, rfl, rfl⟩)
    | (cases h; exact .inr ⟨_, _, rfl, by have := Nat.le_of_ble_eq_true hc; omega, rfl⟩)
theorem binB {U : U} {op : BinOp} {x y : Bool} (h : binR U op (.bool x) (.bool y) = some p) : Good p := by
  cases op <;> cases U <;> simp only [binR] at h <;>
    first
    | (cases h; done)
    | (cases h; exact .inl ⟨_, rfl, rfl⟩)
theorem binR_R {U : U} {op : BinOp} (ha : R3 θ a a') (hb : R3 θ b b') (hc : binC op a b = true) (h : binR U op a b = some p) : ∃ p', binR U op a' b' = some p' ∧ PR θ p p' := by
  cases a with
  | int k x =>
    cases ha
    cases b with
    | int j y => cases hb; exact ⟨p, h, (binI hc h).pr⟩
    | _ => cases op <;> simp [binR] at h
  | string x =>
    cases ha
    cases b with
    | string y => cases hb; exact ⟨p, h, (binS hc h).pr⟩
    | _ => cases op <;> simp [binR] at h
  | bool x =>
    cases ha
    cases b with
    | bool y => cases hb; exact ⟨p, h, (binB h).pr⟩
    | _ => cases op <;> simp [binR] at h
  | pointer q =>
    cases b with
    | pointer r =>
      cases r with
      | some _ => cases op <;> simp [binR] at h
      | none =>
        cases hb
        have hq : ∃ q', a' = .pointer q' ∧ q'.isNone = q.isNone := by
          cases q with
          | none => cases ha; exact ⟨none, rfl, rfl⟩
          | some q => obtain ⟨b, o, g, _, _, rfl⟩ := ha; exact ⟨_, rfl, rfl⟩
        obtain ⟨q', rfl, hq⟩ := hq
        cases op <;> cases U <;> simp only [binR] at h ⊢ <;> first | (cases h; done) | (rw [hq]; cases h; exact ⟨_, rfl, _, rfl, fun _ => rfl⟩)
    | _ => cases op <;> simp [binR] at h
  | slice q l c =>
    cases b with
    | slice r l' c' =>
      cases r with
      | some _ => cases op <;> simp [binR] at h
      | none =>
        cases hb
        have hq : ∃ q' l2 c2, a' = .slice q' l2 c2 ∧ q'.isNone = q.isNone := by
          cases q with
          | none => cases ha; exact ⟨none, _, _, rfl, rfl⟩
          | some q => rcases ha with ⟨_, _, _, _, _, _, rfl, _⟩ | ⟨_, _, _, _, _, rfl⟩ <;> exact ⟨_, _, _, rfl, rfl⟩
        obtain ⟨q', l2, c2, rfl, hq⟩ := hq
        cases op <;> cases U <;> simp only [binR] at h ⊢ <;> first | (cases h; done) | (rw [hq]; cases h; exact ⟨_, rfl, _, rfl, fun _ => rfl⟩)
    | _ => cases op <;> simp [binR] at h
  | _ => cases op <;> simp [binR] at h
theorem binN_R {U : U} {op : BinOp} (ha : R3 θ a a') (hc : (match a with | .nilFunc => true | .func _ _ _ => true | _ => false) = true) (h : binN U op a = some p) : ∃ p', binN U op a' = some p' ∧ PR θ p p' := by
  have hf : isFn a' ∧ isNilFn a' = isNilFn a := by
    cases a with
    | nilFunc => cases ha; exact ⟨trivial, rfl⟩
    | func f x y => obtain ⟨_, _, rfl, _⟩ := ha; exact ⟨trivial, rfl⟩
    | _ => cases hc
  cases op <;> cases U <;> simp only [binN] at h ⊢ <;> first | (cases h; done) | (cases h; rw [hf.2]; exact ⟨_, rfl, _, _, rfl, hf.1, rfl⟩)
theorem unR_R {op : UnOp} (ha : R3 θ a a') (h : unR op a = some p) : ∃ p', unR op a' = some p' ∧ PR θ p p' := by
  cases a with
  | int k x => cases ha; exact ⟨p, h, by cases op <;> simp only [unR] at h <;> first | (cases h; done) | (cases h; exact ⟨_, rfl, fun _ => rfl⟩)⟩
  | bool x => cases ha; exact ⟨p, h, by cases op <;> simp only [unR] at h <;> first | (cases h; done) | (cases h; exact ⟨_, rfl, fun _ => rfl⟩)⟩
  | _ => cases op <;> simp [unR] at h
end Go.Eng
