/- Closed facts of the program that every row asks. Conditions: none. -/
import Derived.Test.YtaihkmfihgaegaaGreatRows
import Derived.ProofKit
namespace Go.Proofs.YtaihkmfihgaegaaGreat
open Go Go.Proofs
noncomputable abbrev PP : Program := Tryz.pinned.checked.prog
theorem fact_laid : laidOutB PP = true := by kernel_rfl
theorem fact_rowed : mapsRowed PP = true := by kernel_rfl
theorem fact_stops : (PP.stops == []) = true := by kernel_rfl
theorem fact_knobs : (PP.stopKnobs == []) = true := by kernel_rfl
theorem fact_keys : (Rows.poolNobodyRow.plainKeys == PP.plainKeys) = true := by kernel_rfl
theorem fact_heard : PP.stopsHeard = true := by kernel_rfl
theorem fact_enter : PP.mayEnter = true := by kernel_rfl
theorem fact_lifts : (Rows.poolNobodyRow.lifted == PP.liftsFinal) = true := by kernel_rfl
theorem fact_make : (PP.make == some Rows.poolNobodyRow.make) = true := by kernel_rfl
end Go.Proofs.YtaihkmfihgaegaaGreat
