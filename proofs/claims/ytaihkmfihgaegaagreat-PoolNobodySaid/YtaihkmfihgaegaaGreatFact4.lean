/- Closed facts of PoolNobody's row. Conditions: none. -/
import Derived.Test.YtaihkmfihgaegaaGreatRows
import Derived.ProofKit
namespace Go.Proofs.YtaihkmfihgaegaaGreat
open Go Go.Proofs
theorem fact4_place : (["slices.overlaps[int]"] == Tryz.pinned.checked.prog.inPlace 4) = true := by kernel_rfl
theorem fact4_unfollowed : (true == Tryz.pinned.checked.prog.unfollowed 4) = true := by kernel_rfl
theorem fact4_recurses : (true == Tryz.pinned.checked.prog.recurses 4) = true := by kernel_rfl
theorem fact4_named : (([] : List String) == Tryz.pinned.checked.prog.varsNamed 4) = true := by kernel_rfl
end Go.Proofs.YtaihkmfihgaegaaGreat
