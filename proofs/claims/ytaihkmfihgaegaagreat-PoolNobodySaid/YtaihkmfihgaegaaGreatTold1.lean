/- A closed run, its first part: a pool is made. Conditions: none. -/
import Derived.Test.YtaihkmfihgaegaaGreatXTab1
import Derived.Test.YtaihkmfihgaegaaGreatToldM
import Derived.Test.YtaihkmfihgaegaaGreatExeB
namespace Go.Eng
open Go
noncomputable def CC : CallX := xcalls tabX xtab 3000 58
theorem told1 : comes (CC 38 [.agg #[.int .i64 3, .int .i64 2, .int .i64 1, .int .i64 1]] ⟨0, .lf⟩) (.pointer (some ⟨2490387, 0, none⟩)) toldM1 = true := by kernel_rfl
end Go.Eng
