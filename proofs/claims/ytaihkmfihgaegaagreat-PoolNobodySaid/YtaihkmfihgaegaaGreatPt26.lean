/- Go functions as predicates over worlds, printed by a program of the prover's own. Conditions: none. -/
import Derived.Test.YtaihkmfihgaegaaGreatTab1
import Derived.Test.YtaihkmfihgaegaaGreatEngA
namespace Go.Eng
open Go
set_option linter.unusedVariables false
/-- lavabo/lavabolaw24.told -/
def lavabolaw24_told (R : Ending → World → Prop) : F :=
 call Go.Proofs.Tryz.prog 38 [.agg #[.int .i64 3, .int .i64 2, .int .i64 1, .int .i64 1]] [(false, [.po])] fun r1 =>
 br (Option.isNone r1) (
 ret R (.bool false)) (
 nn r1 fun b2 o3 =>
 ld (.po) (A b2 o3) fun p4 =>
 call Go.Proofs.Tryz.prog 27 [.pointer p4] [(false, [.i .i64])] fun r5 =>
 br ((r5 : Int) != 0) (
 ret R (.bool false)) (
 call Go.Proofs.Tryz.prog 63 [.pointer r1, .int .i64 0, .agg #[.int .i64 1, .int .i64 0, .int .i64 0, .int .i64 0, .int .i64 0, .slice none 0 0]] [(false, [.bo])] fun r6 =>
 br (!r6) (
 ret R (.bool false)) (
 nw [.int .u8 113] 5 fun b7 =>
 rawC Go.Proofs.Tryz.prog (convert 40 40 (.slice (some (A b7 0)) 1 1)) false [.sl] fun r8 =>
 call Go.Proofs.Tryz.prog 63 [.pointer r1, .int .i64 0, .agg #[.int .i64 4, .int .i64 0, .int .i64 0, .int .i64 0, .int .i64 0, .slice r8.a r8.len r8.cap]] [(false, [.bo])] fun r9 =>
 br (!r9) (
 ret R (.bool false)) (
 call Go.Proofs.Tryz.prog 63 [.pointer r1, .int .i64 0, .agg #[.int .i64 3, .int .i64 0, .int .i64 0, .int .i64 0, .int .i64 1, .slice none 0 0]] [(false, [.bo])] fun r10 =>
 br (!r10) (
 ret R (.bool false)) (
 nn r1 fun b11 o12 =>
 ld (.po) (A b11 o12) fun p13 =>
 call Go.Proofs.Tryz.prog 28 [.pointer p13] [(false, [.sl])] fun r14 =>
 br ((((r14.len : Nat) : Int) : Int) == 3) (
 ix r14.a r14.len 0 fun b15 o16 =>
 ld (.i .i64) (A b15 (o16 + Int.toNat 0 * 14 + 7)) fun code17 =>
 br ((code17 : Int) == 0) (
 ix r14.a r14.len 2 fun b18 o19 =>
 ld (.sl) (A b18 (o19 + Int.toNat 2 * 14 + 7 + 3)) fun data20 =>
 bstr ⟨data20.a, data20.len, data20.cap⟩ fun s21 =>
 br (ByteArray.toList s21 == ByteArray.toList (⟨#[113]⟩)) (
 call Go.Proofs.Tryz.prog 66 [.pointer r1] [(false, [.bo])] fun r22 =>
 br r22 (
 nn r1 fun b23 o24 =>
 ld (.po) (A b23 o24) fun p25 =>
 call Go.Proofs.Tryz.prog 29 [.pointer p25] [(false, [.i .i64])] fun r26 =>
 br ((r26 : Int) == 2) (
 nn r1 fun b27 o28 =>
 ld (.po) (A b27 o28) fun p29 =>
 call Go.Proofs.Tryz.prog 30 [.pointer p29] [(false, [.bo])] fun r30 =>
 br (!r30) (
 nn r1 fun b31 o32 =>
 ld (.po) (A b31 o32) fun p33 =>
 call Go.Proofs.Tryz.prog 31 [.pointer p33] [(false, [.bo])] fun r34 =>
 ret R (.bool (!r34))) (
 ret R (.bool false))) (
 ret R (.bool false))) (
 ret R (.bool false))) (
 ret R (.bool false))) (
 ret R (.bool false))) (
 ret R (.bool false)))))))
theorem lavabolaw24_told_ok {R : Ending → World → Prop} {w : World} (h : lavabolaw24_told R w) : Calls Go.Proofs.Tryz.prog 26 #[] w R :=
  cfun_sound tab_ok (D := []) (ann := .e) (args := []) (c := bodyOf Go.Proofs.Tryz.f26) Go.Proofs.Tryz.func26 (by kernel_rfl) (by kernel_rfl) (by kernel_rfl) h


end Go.Eng
