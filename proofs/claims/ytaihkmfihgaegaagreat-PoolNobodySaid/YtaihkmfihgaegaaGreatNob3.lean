/- What is none does nothing (PoolNobody): for every step and number the law returns true. Conditions: none. -/
import Derived.Test.YtaihkmfihgaegaaGreatTold
import Derived.Test.YtaihkmfihgaegaaGreatNob2
namespace Go.Proofs.YtaihkmfihgaegaaGreat
theorem poolNobody_holds : Rows.PoolNobodySaid := poolNobody_of Go.Eng.told_true
#print axioms poolNobody_holds
end Go.Proofs.YtaihkmfihgaegaaGreat
