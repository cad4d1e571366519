/- The rows of the laws: arguments opened. Conditions: none. -/
import Derived.Test.YtaihkmfihgaegaaGreatRow1
import Derived.Test.YtaihkmfihgaegaaGreatFact0
import Derived.Test.YtaihkmfihgaegaaGreatRow0
import Derived.Test.YtaihkmfihgaegaaGreatEngA
import Derived.Lib.SmallJoins
import Derived.Test.YtaihkmfihgaegaaGreatChecked
namespace Go.Proofs.YtaihkmfihgaegaaGreat
open Go Go.Eng RowKit ChangeShapes WideShapes Go.Proofs
variable {H : Type} {enc : TypeId × Value → H}

theorem own : ownKnob Tryz.prog.godebug = none := by kernel_rfl
theorem laidOut : laidOutB Tryz.prog = true := fact_laid
theorem len6 {α : Type _} : ∀ {l : List α}, l.length = 6 → ∃ a b c d e f, l = [a, b, c, d, e, f]
  | [a, b, c, d, e, f], _ => ⟨a, b, c, d, e, f, rfl⟩
theorem len11 {α : Type _} : ∀ {l : List α}, l.length = 11 → ∃ a b c d e f g h i j k, l = [a, b, c, d, e, f, g, h, i, j, k]
  | [a, b, c, d, e, f, g, h, i, j, k], _ => ⟨a, b, c, d, e, f, g, h, i, j, k, rfl⟩
theorem st6 {P : Program} {W : World} {base : Nat} {sp : Nat → Bool} {held : Bool} {n t : Nat} {f0 f1 f2 f3 f4 f5 : Field} {cs : List Value} {x : DataW H × List MemPlace} (ht : P.underlying t = some (.struct #[f0, f1, f2, f3, f4, f5])) (h : DataW.trod enc P W base sp held n t cs = some x) :
    ∃ (z0 z1 z2 z3 z4 z5 : DataW H × List MemPlace) (m : Nat), cs.length = P.cellsOf t ∧ DataW.trod enc P W base sp held m f0.type ((cs.drop f0.offset).take (P.cellsOf f0.type)) = some z0 ∧ DataW.trod enc P W base sp held m f1.type ((cs.drop f1.offset).take (P.cellsOf f1.type)) = some z1 ∧ DataW.trod enc P W base sp held m f2.type ((cs.drop f2.offset).take (P.cellsOf f2.type)) = some z2 ∧ DataW.trod enc P W base sp held m f3.type ((cs.drop f3.offset).take (P.cellsOf f3.type)) = some z3 ∧ DataW.trod enc P W base sp held m f4.type ((cs.drop f4.offset).take (P.cellsOf f4.type)) = some z4 ∧ DataW.trod enc P W base sp held m f5.type ((cs.drop f5.offset).take (P.cellsOf f5.type)) = some z5 := by
  obtain ⟨xs, m, _, _, hl, hx, hf⟩ := DataW.trod_struct ht h
  obtain ⟨z0, z1, z2, z3, z4, z5, rfl⟩ := len6 hx
  exact ⟨z0, z1, z2, z3, z4, z5, m, hl, by simpa using hf 0 f0 rfl, by simpa using hf 1 f1 rfl, by simpa using hf 2 f2 rfl, by simpa using hf 3 f3 rfl, by simpa using hf 4 f4 rfl, by simpa using hf 5 f5 rfl⟩
/-- A call's cells. -/
theorem open_op {W : World} {base : Nat} {sp : Nat → Bool} {held : Bool} {n : Nat} {cs : List Value} {x : DataW H × List MemPlace} (h : DataW.trod enc Tryz.prog W base sp held n 43 cs = some x) :
    ∃ (a1 a2 a3 a4 a5 : Int) (s : Sl), cs = [.int .i64 a1, .int .i64 a2, .int .i64 a3, .int .i64 a4, .int .i64 a5, .slice s.a s.len s.cap] := by
  obtain ⟨z0, z1, z2, z3, z4, z5, m, hl, g0, g1, g2, g3, g4, g5⟩ := st6 Tryz.underlying43 h
  have c3 : Tryz.prog.cellsOf 3 = 1 := by kernel_rfl
  have c40 : Tryz.prog.cellsOf 40 = 1 := by kernel_rfl
  have c43 : Tryz.prog.cellsOf 43 = 6 := by kernel_rfl
  rw [c43] at hl
  obtain ⟨y0, y1, y2, y3, y4, y5, rfl⟩ := len6 hl
  dsimp only at g0 g1 g2 g3 g4 g5
  simp only [c3, c40, List.drop_zero, List.drop_succ_cons, List.take_succ_cons, List.take_zero] at g0 g1 g2 g3 g4 g5
  obtain ⟨a0, e0, _⟩ := DataW.trod_int Tryz.underlying3 g0
  obtain ⟨a1, e1, _⟩ := DataW.trod_int Tryz.underlying3 g1
  obtain ⟨a2, e2, _⟩ := DataW.trod_int Tryz.underlying3 g2
  obtain ⟨a3, e3, _⟩ := DataW.trod_int Tryz.underlying3 g3
  obtain ⟨a4, e4, _⟩ := DataW.trod_int Tryz.underlying3 g4
  obtain ⟨a5, l5, k5, e5⟩ := Joins.slice_form Tryz.underlying40 g5
  cases e0; cases e1; cases e2; cases e3; cases e4; cases e5
  exact ⟨a0, a1, a2, a3, a4, ⟨a5, l5, k5⟩, rfl⟩
theorem open_step {W : World} {base : Nat} {sp : Nat → Bool} {held : Bool} {n : Nat} {cs : List Value} {x : DataW H × List MemPlace} (h : DataW.trod enc Tryz.prog W base sp held n 45 cs = some x) :
    ∃ (a1 a2 a3 a4 a5 a6 a7 a8 a9 : Int) (s1 s2 : Sl), cs = [.int .i64 a1, .int .i64 a2, .int .i64 a3, .int .i64 a4, .int .i64 a5, .int .i64 a6, .int .i64 a7, .int .i64 a8, .int .i64 a9, .slice s1.a s1.len s1.cap, .slice s2.a s2.len s2.cap] := by
  obtain ⟨z0, z1, z2, z3, z4, z5, m, hl, g0, g1, g2, g3, g4, g5⟩ := st6 Tryz.underlying45 h
  have c3 : Tryz.prog.cellsOf 3 = 1 := by kernel_rfl
  have c40 : Tryz.prog.cellsOf 40 = 1 := by kernel_rfl
  have c43 : Tryz.prog.cellsOf 43 = 6 := by kernel_rfl
  have c45 : Tryz.prog.cellsOf 45 = 11 := by kernel_rfl
  rw [c45] at hl
  obtain ⟨y0, y1, y2, y3, y4, y5, y6, y7, y8, y9, y10, rfl⟩ := len11 hl
  dsimp only at g0 g1 g2 g3 g4 g5
  simp only [c3, c40, c43, List.drop_zero, List.drop_succ_cons, List.take_succ_cons, List.take_zero] at g0 g1 g2 g3 g4 g5
  obtain ⟨a0, e0, _⟩ := DataW.trod_int Tryz.underlying3 g0
  obtain ⟨a1, e1, _⟩ := DataW.trod_int Tryz.underlying3 g1
  obtain ⟨a2, e2, _⟩ := DataW.trod_int Tryz.underlying3 g2
  obtain ⟨a3, e3, _⟩ := DataW.trod_int Tryz.underlying3 g3
  obtain ⟨b1, b2, b3, b4, b5, s, e4⟩ := open_op g4
  obtain ⟨a5, l5, k5, e5⟩ := Joins.slice_form Tryz.underlying40 g5
  cases e0; cases e1; cases e2; cases e3; cases e4; cases e5
  exact ⟨a0, a1, a2, a3, b1, b2, b3, b4, b5, s, ⟨a5, l5, k5⟩, rfl⟩
end Go.Proofs.YtaihkmfihgaegaaGreat
