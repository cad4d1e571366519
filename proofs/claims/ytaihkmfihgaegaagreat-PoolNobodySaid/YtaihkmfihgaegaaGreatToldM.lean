/- Two memories of a closed run. Conditions: none. -/
import Derived.Test.YtaihkmfihgaegaaGreatExeB
namespace Go.Eng
open Go
set_option maxRecDepth 100000
noncomputable def toldM1 : Mem := ⟨2490388, (.nd (.nd (.nd (.nd (.nd (.nd .lf none
 (.nd (.nd (.nd (.nd (.nd (.nd (.nd (.nd (.nd (.nd (.nd .lf none
 (.nd (.nd .lf none
 (.nd .lf (some .dead)
 .lf)) none
 .lf)) none
 .lf) none
 .lf) none
 .lf) none
 .lf) none
 .lf) none
 .lf) none
 .lf) none
 .lf) none
 .lf) none
 .lf)) none
 (.nd (.nd (.nd (.nd (.nd (.nd (.nd (.nd (.nd (.nd (.nd (.nd (.nd (.nd .lf none
 (.nd .lf none
 (.nd .lf (some (.row none [(.pointer (some ⟨1835018, 0, none⟩)), (.pointer (some ⟨1835020, 0, none⟩)), (.pointer (some ⟨1835022, 0, none⟩))]))
 .lf))) none
 (.nd .lf none
 (.nd (.nd (.nd .lf (some (.row (some 5) [(.int .i64 0), (.int .i64 (-1)), (.int .i64 0), (.bool false), (.slice none 0 0), (.int .i64 0), (.int .i64 (-1)), (.int .i64 0), (.bool false), (.slice none 0 0)]))
 .lf) none
 .lf) none
 .lf))) none
 (.nd (.nd .lf none
 (.nd .lf (some .dead)
 .lf)) none
 .lf)) none
 .lf) none
 .lf) none
 .lf) none
 .lf) none
 .lf) none
 .lf) none
 .lf) none
 .lf) none
 .lf) none
 .lf) none
 .lf)) none
 (.nd (.nd (.nd (.nd (.nd (.nd (.nd (.nd (.nd (.nd (.nd (.nd (.nd (.nd (.nd .lf none
 (.nd .lf none
 (.nd .lf (some (.row none [(.slice (some ⟨1835014, 0, none⟩) 32 32), (.int .i64 0), (.int .i64 1), (.int .i64 2)]))
 .lf))) none
 (.nd (.nd .lf (some (.row (some 1) [(.slice (some ⟨655365, 0, none⟩) 6 6)]))
 .lf) none
 (.nd (.nd (.nd .lf (some .dead)
 .lf) none
 .lf) none
 .lf))) none
 (.nd (.nd .lf none
 (.nd .lf (some .dead)
 .lf)) (some .dead)
 .lf)) none
 .lf) none
 .lf) none
 .lf) none
 .lf) none
 .lf) none
 .lf) none
 .lf) none
 .lf) none
 .lf) none
 .lf) none
 .lf) none
 (.nd (.nd (.nd (.nd (.nd (.nd (.nd (.nd (.nd (.nd (.nd (.nd .lf none
 (.nd (.nd .lf none
 (.nd .lf (some .dead)
 .lf)) none
 .lf)) none
 .lf) none
 .lf) none
 .lf) none
 .lf) none
 .lf) none
 .lf) none
 .lf) none
 .lf) none
 .lf) none
 .lf) none
 .lf))) none
 (.nd (.nd (.nd (.nd (.nd (.nd (.nd (.nd (.nd (.nd (.nd (.nd (.nd (.nd (.nd (.nd (.nd (.nd .lf (some (.row none [(.bool false), (.bool false), (.bool false)]))
 .lf) none
 .lf) none
 .lf) none
 (.nd (.nd .lf (some (.row none [(.slice (some ⟨655367, 0, none⟩) 1 1)]))
 .lf) none
 .lf)) none
 (.nd (.nd (.nd (.nd .lf (some (.ch 4 []))
 .lf) none
 .lf) none
 (.nd (.nd .lf (some (.row none [(.int .i64 3), (.int .i64 2), (.int .i64 1), (.int .i64 1), (.pointer (some ⟨196612, 0, none⟩)), (.pointer (some ⟨458757, 0, none⟩)), (.pointer (some ⟨655363, 0, none⟩)), (.int .i64 1), (.slice (some ⟨852004, 0, none⟩) 16 16), (.int .i64 (-1)), (.int .i64 0), (.int .i64 0), (.slice (some ⟨1048579, 0, none⟩) 3 3), (.slice (some ⟨2228230, 0, none⟩) 1 1), (.slice (some ⟨2490381, 0, none⟩) 2 2), (.slice (some ⟨1507332, 0, none⟩) 4 4), (.slice none 0 0), (.chan (some 1114115)), (.int .i64 0), (.int .i64 2), (.bool false), (.bool false), (.bool false)]))
 .lf) (some .dead)
 .lf)) (some (.mp []))
 (.nd .lf (some .dead)
 (.nd (.nd .lf (some .dead)
 .lf) none
 .lf)))) none
 .lf) none
 .lf) none
 .lf) none
 .lf) none
 .lf) none
 .lf) none
 .lf) none
 .lf) none
 .lf) none
 .lf) none
 (.nd (.nd (.nd (.nd (.nd (.nd (.nd (.nd (.nd (.nd (.nd .lf none
 (.nd (.nd .lf none
 (.nd .lf (some .dead)
 .lf)) none
 .lf)) none
 .lf) none
 .lf) none
 .lf) none
 .lf) none
 .lf) none
 .lf) none
 .lf) none
 .lf) none
 .lf) none
 .lf)) none
 (.nd (.nd (.nd (.nd (.nd (.nd (.nd (.nd (.nd (.nd (.nd (.nd (.nd .lf none
 (.nd .lf none
 (.nd (.nd (.nd .lf (some (.row none [(.pointer (some ⟨1376259, 0, none⟩)), (.int .i64 3), (.int .i64 2), (.int .i64 1), (.int .i64 1), (.slice (some ⟨2490386, 0, none⟩) 1 1), (.int .i64 2), (.int .i64 2)]))
 .lf) none
 .lf) none
 .lf))) none
 (.nd (.nd .lf none
 (.nd .lf (some .dead)
 .lf)) none
 .lf)) none
 .lf) none
 .lf) none
 .lf) none
 .lf) none
 .lf) none
 .lf) none
 .lf) none
 .lf) none
 .lf) none
 .lf) none
 .lf)) none
 (.nd (.nd (.nd (.nd (.nd (.nd (.nd (.nd (.nd (.nd (.nd (.nd (.nd (.nd (.nd .lf none
 (.nd .lf none
 (.nd .lf (some (.row none [(.bool false), (.int .i64 0), (.int .i64 0), (.bool false), (.int .i64 0), (.int .i64 0), (.bool false), (.int .i64 0), (.int .i64 0), (.bool false), (.int .i64 0), (.int .i64 0), (.bool false), (.int .i64 0), (.int .i64 0), (.bool false), (.int .i64 0), (.int .i64 0), (.bool false), (.int .i64 0), (.int .i64 0), (.bool false), (.int .i64 0), (.int .i64 0), (.bool false), (.int .i64 0), (.int .i64 0), (.bool false), (.int .i64 0), (.int .i64 0), (.bool false), (.int .i64 0), (.int .i64 0), (.bool false), (.int .i64 0), (.int .i64 0), (.bool false), (.int .i64 0), (.int .i64 0), (.bool false), (.int .i64 0), (.int .i64 0), (.bool false), (.int .i64 0), (.int .i64 0), (.bool false), (.int .i64 0), (.int .i64 0), (.bool false), (.int .i64 0), (.int .i64 0), (.bool false), (.int .i64 0), (.int .i64 0), (.bool false), (.int .i64 0), (.int .i64 0), (.bool false), (.int .i64 0), (.int .i64 0), (.bool false), (.int .i64 0), (.int .i64 0), (.bool false), (.int .i64 0), (.int .i64 0), (.bool false), (.int .i64 0), (.int .i64 0), (.bool false), (.int .i64 0), (.int .i64 0), (.bool false), (.int .i64 0), (.int .i64 0), (.bool false), (.int .i64 0), (.int .i64 0), (.bool false), (.int .i64 0), (.int .i64 0), (.bool false), (.int .i64 0), (.int .i64 0), (.bool false), (.int .i64 0), (.int .i64 0), (.bool false), (.int .i64 0), (.int .i64 0), (.bool false), (.int .i64 0), (.int .i64 0), (.bool false), (.int .i64 0), (.int .i64 0)]))
 .lf))) none
 (.nd .lf none
 (.nd (.nd (.nd .lf (some .dead)
 .lf) none
 .lf) none
 .lf))) none
 (.nd (.nd .lf none
 (.nd .lf (some .dead)
 .lf)) (some (.row none [(.int .u8 0), (.int .u8 0), (.int .u8 0), (.int .u8 0), (.int .u8 0), (.int .u8 0), (.int .u8 0), (.int .u8 0), (.int .u8 0), (.int .u8 0), (.int .u8 0), (.int .u8 0), (.int .u8 0), (.int .u8 0), (.int .u8 0), (.int .u8 0), (.int .u8 0), (.int .u8 0), (.int .u8 0), (.int .u8 0), (.int .u8 0), (.int .u8 0), (.int .u8 0), (.int .u8 0)]))
 .lf)) none
 .lf) none
 .lf) none
 .lf) none
 .lf) none
 .lf) none
 .lf) none
 .lf) none
 .lf) none
 .lf) none
 .lf) none
 .lf) none
 (.nd (.nd (.nd (.nd (.nd (.nd (.nd (.nd (.nd (.nd (.nd (.nd .lf none
 (.nd (.nd .lf none
 (.nd .lf (some .dead)
 .lf)) none
 .lf)) none
 .lf) none
 .lf) none
 .lf) none
 .lf) none
 .lf) none
 .lf) none
 .lf) none
 .lf) none
 .lf) none
 .lf) none
 .lf)))) (some .dead)
 (.nd (.nd (.nd (.nd .lf none
 (.nd (.nd (.nd (.nd (.nd (.nd (.nd (.nd (.nd (.nd (.nd .lf none
 (.nd (.nd .lf none
 (.nd .lf (some .dead)
 .lf)) none
 .lf)) none
 .lf) none
 .lf) none
 .lf) none
 .lf) none
 .lf) none
 .lf) none
 .lf) none
 .lf) none
 .lf) none
 .lf)) none
 (.nd (.nd (.nd (.nd (.nd (.nd (.nd (.nd (.nd (.nd (.nd (.nd (.nd .lf none
 (.nd .lf none
 (.nd (.nd (.nd .lf (some (.row (some 1) [(.int .i64 0), (.int .i64 1)]))
 .lf) none
 .lf) none
 .lf))) none
 (.nd (.nd .lf none
 (.nd .lf (some .dead)
 .lf)) none
 .lf)) none
 .lf) none
 .lf) none
 .lf) none
 .lf) none
 .lf) none
 .lf) none
 .lf) none
 .lf) none
 .lf) none
 .lf) none
 .lf)) none
 (.nd (.nd (.nd (.nd (.nd (.nd (.nd (.nd (.nd (.nd (.nd (.nd (.nd (.nd (.nd .lf none
 (.nd .lf none
 (.nd .lf (some (.row none [(.slice (some ⟨1835016, 0, none⟩) 96 96), (.int .i64 0)]))
 .lf))) none
 (.nd .lf none
 (.nd (.nd (.nd .lf (some .dead)
 .lf) none
 .lf) none
 .lf))) none
 (.nd (.nd .lf none
 (.nd .lf (some .dead)
 .lf)) (some .dead)
 .lf)) none
 .lf) none
 .lf) none
 .lf) none
 .lf) none
 .lf) none
 .lf) none
 .lf) none
 .lf) none
 .lf) none
 .lf) none
 .lf) none
 (.nd (.nd (.nd (.nd (.nd (.nd (.nd (.nd (.nd (.nd (.nd (.nd .lf none
 (.nd (.nd .lf none
 (.nd .lf (some .dead)
 .lf)) none
 .lf)) none
 .lf) none
 .lf) none
 .lf) none
 .lf) none
 .lf) none
 .lf) none
 .lf) none
 .lf) none
 .lf) none
 .lf) none
 .lf))) none
 (.nd (.nd (.nd (.nd (.nd (.nd (.nd (.nd (.nd (.nd (.nd (.nd (.nd (.nd (.nd .lf none
 (.nd (.nd .lf (some (.row none [(.int .i64 (-1)), (.int .i64 (-1)), (.int .i64 (-1)), (.int .i64 (-1)), (.int .i64 (-1)), (.int .i64 (-1))]))
 .lf) none
 .lf)) none
 (.nd (.nd .lf none
 (.nd .lf (some .dead)
 .lf)) (some (.row none [(.int .u8 0), (.int .u8 0), (.int .u8 0), (.int .u8 0), (.int .u8 0), (.int .u8 0), (.int .u8 0), (.int .u8 0), (.int .u8 0), (.int .u8 0), (.int .u8 0), (.int .u8 0), (.int .u8 0), (.int .u8 0), (.int .u8 0), (.int .u8 0), (.int .u8 0), (.int .u8 0), (.int .u8 0), (.int .u8 0), (.int .u8 0), (.int .u8 0), (.int .u8 0), (.int .u8 0)]))
 (.nd .lf (some (.row none [(.slice (some ⟨458756, 0, none⟩) 4 4)]))
 (.nd (.nd .lf (some .dead)
 .lf) none
 .lf)))) none
 .lf) none
 .lf) none
 .lf) none
 .lf) none
 .lf) none
 .lf) none
 .lf) none
 .lf) none
 .lf) none
 .lf) none
 .lf) none
 (.nd (.nd (.nd (.nd (.nd (.nd (.nd (.nd (.nd (.nd (.nd (.nd .lf none
 (.nd (.nd .lf none
 (.nd .lf (some .dead)
 .lf)) none
 .lf)) none
 .lf) none
 .lf) none
 .lf) none
 .lf) none
 .lf) none
 .lf) none
 .lf) none
 .lf) none
 .lf) none
 .lf) none
 .lf)) none
 (.nd (.nd (.nd (.nd (.nd (.nd (.nd (.nd (.nd (.nd (.nd (.nd (.nd (.nd (.nd .lf none
 (.nd .lf none
 (.nd .lf (some (.ch 8 []))
 .lf))) none
 (.nd .lf none
 (.nd (.nd (.nd .lf (some (.row (some 3) [(.int .i64 1), (.int .i64 0), (.int .i64 0), (.int .i64 1), (.int .i64 0), (.int .i64 1)]))
 .lf) none
 .lf) none
 .lf))) none
 (.nd (.nd .lf none
 (.nd .lf (some .dead)
 .lf)) (some (.row (some 1) [(.slice (some ⟨196613, 0, none⟩) 24 24), (.slice (some ⟨196616, 0, none⟩) 24 24), (.slice (some ⟨196619, 0, none⟩) 24 24)]))
 .lf)) none
 .lf) none
 .lf) none
 .lf) none
 .lf) none
 .lf) none
 .lf) none
 .lf) none
 .lf) none
 .lf) none
 .lf) none
 .lf) none
 (.nd (.nd (.nd (.nd (.nd (.nd (.nd (.nd (.nd (.nd (.nd (.nd .lf none
 (.nd (.nd .lf none
 (.nd .lf (some .dead)
 .lf)) none
 .lf)) none
 .lf) none
 .lf) none
 .lf) none
 .lf) none
 .lf) none
 .lf) none
 .lf) none
 .lf) none
 .lf) none
 .lf) none
 .lf))))) (some .dead)
 (.nd (.nd (.nd (.nd (.nd .lf none
 (.nd (.nd (.nd (.nd (.nd (.nd (.nd (.nd (.nd (.nd (.nd .lf none
 (.nd (.nd .lf none
 (.nd .lf (some .dead)
 .lf)) none
 .lf)) none
 .lf) none
 .lf) none
 .lf) none
 .lf) none
 .lf) none
 .lf) none
 .lf) none
 .lf) none
 .lf) none
 .lf)) none
 (.nd (.nd (.nd (.nd (.nd (.nd (.nd (.nd (.nd (.nd (.nd (.nd (.nd .lf none
 (.nd .lf none
 (.nd (.nd (.nd .lf (some .dead)
 .lf) none
 .lf) none
 .lf))) none
 (.nd (.nd .lf none
 (.nd .lf (some .dead)
 .lf)) none
 .lf)) none
 .lf) none
 .lf) none
 .lf) none
 .lf) none
 .lf) none
 .lf) none
 .lf) none
 .lf) none
 .lf) none
 .lf) none
 .lf)) none
 (.nd (.nd (.nd (.nd (.nd (.nd (.nd (.nd (.nd (.nd (.nd (.nd (.nd (.nd (.nd .lf none
 (.nd .lf none
 (.nd .lf (some (.row none [(.int .i64 (-1)), (.int .i64 0), (.int .i64 (-1)), (.int .i64 0), (.int .i64 (-1)), (.int .i64 0), (.int .i64 (-1)), (.int .i64 0), (.int .i64 (-1)), (.int .i64 0), (.int .i64 (-1)), (.int .i64 0), (.int .i64 (-1)), (.int .i64 0), (.int .i64 (-1)), (.int .i64 0), (.int .i64 (-1)), (.int .i64 0), (.int .i64 (-1)), (.int .i64 0), (.int .i64 (-1)), (.int .i64 0), (.int .i64 (-1)), (.int .i64 0), (.int .i64 (-1)), (.int .i64 0), (.int .i64 (-1)), (.int .i64 0), (.int .i64 (-1)), (.int .i64 0), (.int .i64 (-1)), (.int .i64 0), (.int .i64 (-1)), (.int .i64 0), (.int .i64 (-1)), (.int .i64 0), (.int .i64 (-1)), (.int .i64 0), (.int .i64 (-1)), (.int .i64 0), (.int .i64 (-1)), (.int .i64 0), (.int .i64 (-1)), (.int .i64 0), (.int .i64 (-1)), (.int .i64 0), (.int .i64 (-1)), (.int .i64 0), (.int .i64 (-1)), (.int .i64 0), (.int .i64 (-1)), (.int .i64 0), (.int .i64 (-1)), (.int .i64 0), (.int .i64 (-1)), (.int .i64 0), (.int .i64 (-1)), (.int .i64 0), (.int .i64 (-1)), (.int .i64 0), (.int .i64 (-1)), (.int .i64 0), (.int .i64 (-1)), (.int .i64 0), (.int .i64 (-1)), (.int .i64 0), (.int .i64 (-1)), (.int .i64 0), (.int .i64 (-1)), (.int .i64 0), (.int .i64 (-1)), (.int .i64 0), (.int .i64 (-1)), (.int .i64 0), (.int .i64 (-1)), (.int .i64 0), (.int .i64 (-1)), (.int .i64 0), (.int .i64 (-1)), (.int .i64 0), (.int .i64 (-1)), (.int .i64 0), (.int .i64 (-1)), (.int .i64 0), (.int .i64 (-1)), (.int .i64 0), (.int .i64 (-1)), (.int .i64 0), (.int .i64 (-1)), (.int .i64 0), (.int .i64 (-1)), (.int .i64 0), (.int .i64 (-1)), (.int .i64 0), (.int .i64 (-1)), (.int .i64 0), (.int .i64 (-1)), (.int .i64 0), (.int .i64 (-1)), (.int .i64 0), (.int .i64 (-1)), (.int .i64 0), (.int .i64 (-1)), (.int .i64 0), (.int .i64 (-1)), (.int .i64 0), (.int .i64 (-1)), (.int .i64 0), (.int .i64 (-1)), (.int .i64 0), (.int .i64 (-1)), (.int .i64 0), (.int .i64 (-1)), (.int .i64 0), (.int .i64 (-1)), (.int .i64 0), (.int .i64 (-1)), (.int .i64 0), (.int .i64 (-1)), (.int .i64 0), (.int .i64 (-1)), (.int .i64 0), (.int .i64 (-1)), (.int .i64 0), (.int .i64 (-1)), (.int .i64 0), (.int .i64 (-1)), (.int .i64 0), (.int .i64 (-1)), (.int .i64 0), (.int .i64 (-1)), (.int .i64 0), (.int .i64 (-1)), (.int .i64 0), (.int .i64 (-1)), (.int .i64 0), (.int .i64 (-1)), (.int .i64 0), (.int .i64 (-1)), (.int .i64 0), (.int .i64 (-1)), (.int .i64 0), (.int .i64 (-1)), (.int .i64 0), (.int .i64 (-1)), (.int .i64 0), (.int .i64 (-1)), (.int .i64 0), (.int .i64 (-1)), (.int .i64 0), (.int .i64 (-1)), (.int .i64 0), (.int .i64 (-1)), (.int .i64 0), (.int .i64 (-1)), (.int .i64 0), (.int .i64 (-1)), (.int .i64 0), (.int .i64 (-1)), (.int .i64 0), (.int .i64 (-1)), (.int .i64 0), (.int .i64 (-1)), (.int .i64 0), (.int .i64 (-1)), (.int .i64 0), (.int .i64 (-1)), (.int .i64 0), (.int .i64 (-1)), (.int .i64 0), (.int .i64 (-1)), (.int .i64 0), (.int .i64 (-1)), (.int .i64 0), (.int .i64 (-1)), (.int .i64 0), (.int .i64 (-1)), (.int .i64 0), (.int .i64 (-1)), (.int .i64 0), (.int .i64 (-1)), (.int .i64 0), (.int .i64 (-1)), (.int .i64 0), (.int .i64 (-1)), (.int .i64 0), (.int .i64 (-1)), (.int .i64 0), (.int .i64 (-1)), (.int .i64 0), (.int .i64 (-1)), (.int .i64 0)]))
 .lf))) none
 (.nd .lf none
 (.nd (.nd (.nd .lf (some .dead)
 .lf) none
 .lf) none
 .lf))) none
 (.nd (.nd .lf none
 (.nd .lf (some .dead)
 .lf)) (some (.row none [(.int .u8 0), (.int .u8 0), (.int .u8 0), (.int .u8 0), (.int .u8 0), (.int .u8 0), (.int .u8 0), (.int .u8 0), (.int .u8 0), (.int .u8 0), (.int .u8 0), (.int .u8 0), (.int .u8 0), (.int .u8 0), (.int .u8 0), (.int .u8 0), (.int .u8 0), (.int .u8 0), (.int .u8 0), (.int .u8 0), (.int .u8 0), (.int .u8 0), (.int .u8 0), (.int .u8 0)]))
 .lf)) none
 .lf) none
 .lf) none
 .lf) none
 .lf) none
 .lf) none
 .lf) none
 .lf) none
 .lf) none
 .lf) none
 .lf) none
 .lf) none
 (.nd (.nd (.nd (.nd (.nd (.nd (.nd (.nd (.nd (.nd (.nd (.nd .lf none
 (.nd (.nd .lf none
 (.nd .lf (some .dead)
 .lf)) none
 .lf)) none
 .lf) none
 .lf) none
 .lf) none
 .lf) none
 .lf) none
 .lf) none
 .lf) none
 .lf) none
 .lf) none
 .lf) none
 .lf))) none
 (.nd (.nd (.nd (.nd (.nd (.nd (.nd (.nd (.nd (.nd (.nd (.nd (.nd (.nd (.nd .lf none
 (.nd (.nd .lf (some .dead)
 .lf) none
 .lf)) none
 (.nd (.nd .lf none
 (.nd .lf (some .dead)
 .lf)) (some (.row none [(.slice (some ⟨196621, 0, none⟩) 3 3), (.map (some 196611)), (.int .i64 0), (.int .i64 0), (.bool false)]))
 (.nd .lf (some (.row none [(.int .i64 0), (.int .i64 0), (.int .i64 (-1)), (.int .i64 0), (.int .i64 0), (.int .i64 (-1)), (.int .i64 0), (.int .i64 0), (.int .i64 (-1)), (.int .i64 0), (.int .i64 0), (.int .i64 (-1))]))
 (.nd (.nd .lf (some (.row none [(.int .i64 0), (.int .i64 0), (.int .i64 0), (.int .i64 0), (.int .i64 0), (.int .i64 0), (.int .i64 (-1)), (.slice none 0 0), (.slice none 0 0), (.slice none 0 0), (.int .i64 0), (.int .i64 0), (.int .i64 0), (.int .i64 0), (.int .i64 0), (.int .i64 0), (.int .i64 0), (.int .i64 0), (.int .i64 (-1)), (.slice none 0 0), (.slice none 0 0), (.slice none 0 0), (.int .i64 0), (.int .i64 0), (.int .i64 0), (.int .i64 0), (.int .i64 0), (.int .i64 0), (.int .i64 0), (.int .i64 0), (.int .i64 (-1)), (.slice none 0 0), (.slice none 0 0), (.slice none 0 0), (.int .i64 0), (.int .i64 0), (.int .i64 0), (.int .i64 0), (.int .i64 0), (.int .i64 0), (.int .i64 0), (.int .i64 0), (.int .i64 (-1)), (.slice none 0 0), (.slice none 0 0), (.slice none 0 0), (.int .i64 0), (.int .i64 0)]))
 .lf) none
 .lf)))) none
 .lf) none
 .lf) none
 .lf) none
 .lf) none
 .lf) none
 .lf) none
 .lf) none
 .lf) none
 .lf) none
 .lf) none
 (.nd (.nd (.nd (.nd (.nd (.nd (.nd (.nd (.nd (.nd (.nd .lf none
 (.nd (.nd .lf none
 (.nd .lf (some (.row (some 1) [(.int .i64 0), (.int .i64 0), (.int .i64 0), (.int .i64 0), (.int .i64 0), (.int .i64 0), (.int .i64 0), (.int .i64 0), (.int .i64 0), (.int .i64 0), (.int .i64 0), (.int .i64 0), (.int .i64 0), (.int .i64 0), (.int .i64 0), (.int .i64 0)]))
 .lf)) none
 .lf)) none
 .lf) none
 .lf) none
 .lf) none
 .lf) none
 .lf) none
 .lf) none
 .lf) none
 .lf) none
 .lf) none
 .lf)) none
 (.nd (.nd (.nd (.nd (.nd (.nd (.nd (.nd (.nd (.nd (.nd (.nd .lf none
 (.nd (.nd .lf none
 (.nd .lf (some .dead)
 .lf)) none
 .lf)) none
 .lf) none
 .lf) none
 .lf) none
 .lf) none
 .lf) none
 .lf) none
 .lf) none
 .lf) none
 .lf) none
 .lf) none
 .lf)) none
 (.nd (.nd (.nd (.nd (.nd (.nd (.nd (.nd (.nd (.nd (.nd (.nd (.nd (.nd (.nd .lf none
 (.nd .lf none
 (.nd .lf (some (.row none [(.slice (some ⟨1835019, 0, none⟩) 32 32), (.int .i64 (-1)), (.int .i64 (-1)), (.int .i64 0)]))
 .lf))) none
 (.nd .lf none
 (.nd (.nd (.nd .lf (some .dead)
 .lf) none
 .lf) none
 .lf))) none
 (.nd (.nd .lf none
 (.nd .lf (some .dead)
 .lf)) (some .dead)
 .lf)) none
 .lf) none
 .lf) none
 .lf) none
 .lf) none
 .lf) none
 .lf) none
 .lf) none
 .lf) none
 .lf) none
 .lf) none
 .lf) none
 (.nd (.nd (.nd (.nd (.nd (.nd (.nd (.nd (.nd (.nd (.nd (.nd .lf none
 (.nd (.nd .lf none
 (.nd .lf (some .dead)
 .lf)) none
 .lf)) none
 .lf) none
 .lf) none
 .lf) none
 .lf) none
 .lf) none
 .lf) none
 .lf) none
 .lf) none
 .lf) none
 .lf) none
 .lf)))) (some .dead)
 (.nd (.nd (.nd (.nd .lf none
 (.nd (.nd (.nd (.nd (.nd (.nd (.nd (.nd (.nd (.nd (.nd .lf none
 (.nd (.nd .lf none
 (.nd .lf (some .dead)
 .lf)) none
 .lf)) none
 .lf) none
 .lf) none
 .lf) none
 .lf) none
 .lf) none
 .lf) none
 .lf) none
 .lf) none
 .lf) none
 .lf)) none
 (.nd (.nd (.nd (.nd (.nd (.nd (.nd (.nd (.nd (.nd (.nd (.nd (.nd .lf none
 (.nd .lf none
 (.nd (.nd (.nd .lf (some (.row none [(.bool false)]))
 .lf) none
 .lf) none
 .lf))) none
 (.nd (.nd .lf none
 (.nd .lf (some .dead)
 .lf)) none
 .lf)) none
 .lf) none
 .lf) none
 .lf) none
 .lf) none
 .lf) none
 .lf) none
 .lf) none
 .lf) none
 .lf) none
 .lf) none
 .lf)) none
 (.nd (.nd (.nd (.nd (.nd (.nd (.nd (.nd (.nd (.nd (.nd (.nd (.nd (.nd (.nd .lf none
 (.nd .lf none
 (.nd .lf (some (.row none [(.slice (some ⟨2490383, 0, none⟩) 2 2), (.pointer (some ⟨1835015, 0, none⟩)), (.pointer (some ⟨1835017, 0, none⟩))]))
 .lf))) none
 (.nd .lf none
 (.nd (.nd (.nd .lf (some .dead)
 .lf) none
 .lf) none
 .lf))) none
 (.nd (.nd .lf none
 (.nd .lf (some .dead)
 .lf)) (some .dead)
 .lf)) none
 .lf) none
 .lf) none
 .lf) none
 .lf) none
 .lf) none
 .lf) none
 .lf) none
 .lf) none
 .lf) none
 .lf) none
 .lf) none
 (.nd (.nd (.nd (.nd (.nd (.nd (.nd (.nd (.nd (.nd (.nd (.nd .lf none
 (.nd (.nd .lf none
 (.nd .lf (some .dead)
 .lf)) none
 .lf)) none
 .lf) none
 .lf) none
 .lf) none
 .lf) none
 .lf) none
 .lf) none
 .lf) none
 .lf) none
 .lf) none
 .lf) none
 .lf))) none
 (.nd (.nd (.nd (.nd (.nd (.nd (.nd (.nd (.nd (.nd (.nd (.nd (.nd (.nd (.nd (.nd (.nd (.nd (.nd .lf (some (.row none [(.pointer (some ⟨1835023, 0, none⟩)), (.int .i64 (-1)), (.slice none 0 0), (.slice none 0 0), (.slice (some ⟨2490385, 0, none⟩) 2 2), (.map (some 1966086))]))
 .lf) none
 .lf) none
 .lf) none
 (.nd .lf none
 (.nd .lf (some (.row none [(.bool true), (.int .i64 (-1)), (.int .i64 1), (.bool true), (.int .i64 0), (.int .i64 (-1)), (.bool false), (.int .i64 0), (.int .i64 0), (.bool false), (.int .i64 0), (.int .i64 0), (.bool false), (.int .i64 0), (.int .i64 0), (.bool false), (.int .i64 0), (.int .i64 0), (.bool false), (.int .i64 0), (.int .i64 0), (.bool false), (.int .i64 0), (.int .i64 0), (.bool false), (.int .i64 0), (.int .i64 0), (.bool false), (.int .i64 0), (.int .i64 0), (.bool false), (.int .i64 0), (.int .i64 0), (.bool false), (.int .i64 0), (.int .i64 0), (.bool false), (.int .i64 0), (.int .i64 0), (.bool false), (.int .i64 0), (.int .i64 0), (.bool false), (.int .i64 0), (.int .i64 0), (.bool false), (.int .i64 0), (.int .i64 0), (.bool false), (.int .i64 0), (.int .i64 0), (.bool false), (.int .i64 0), (.int .i64 0), (.bool false), (.int .i64 0), (.int .i64 0), (.bool false), (.int .i64 0), (.int .i64 0), (.bool false), (.int .i64 0), (.int .i64 0), (.bool false), (.int .i64 0), (.int .i64 0), (.bool false), (.int .i64 0), (.int .i64 0), (.bool false), (.int .i64 0), (.int .i64 0), (.bool false), (.int .i64 0), (.int .i64 0), (.bool false), (.int .i64 0), (.int .i64 0), (.bool false), (.int .i64 0), (.int .i64 0), (.bool false), (.int .i64 0), (.int .i64 0), (.bool false), (.int .i64 0), (.int .i64 0), (.bool false), (.int .i64 0), (.int .i64 0), (.bool false), (.int .i64 0), (.int .i64 0), (.bool false), (.int .i64 0), (.int .i64 0)]))
 .lf))) none
 (.nd (.nd (.nd (.nd .lf (some (.row (some 1) [(.pointer (some ⟨2097158, 0, none⟩))]))
 .lf) none
 .lf) (some .dead)
 .lf) none
 (.nd (.nd (.nd .lf (some .dead)
 .lf) none
 .lf) none
 (.nd .lf (some (.mp []))
 .lf)))) none
 (.nd (.nd (.nd (.nd (.nd .lf (some .dead)
 .lf) none
 .lf) none
 .lf) none
 (.nd .lf (some .dead)
 (.nd .lf (some .dead)
 .lf))) (some .dead)
 .lf)) none
 .lf) none
 .lf) none
 .lf) none
 .lf) none
 .lf) none
 .lf) none
 .lf) none
 .lf) none
 .lf) none
 .lf) none
 .lf) none
 (.nd (.nd (.nd (.nd (.nd (.nd (.nd (.nd (.nd (.nd (.nd (.nd .lf none
 (.nd (.nd .lf none
 (.nd .lf (some .dead)
 .lf)) none
 .lf)) none
 .lf) none
 .lf) none
 .lf) none
 .lf) none
 .lf) none
 .lf) none
 .lf) none
 .lf) none
 .lf) none
 .lf) none
 .lf)) none
 (.nd (.nd (.nd (.nd (.nd (.nd (.nd (.nd (.nd (.nd (.nd (.nd (.nd (.nd (.nd .lf none
 (.nd .lf none
 (.nd .lf (some (.row none [(.chan (some 1835021))]))
 .lf))) none
 (.nd .lf none
 (.nd (.nd (.nd .lf (some .dead)
 .lf) none
 .lf) none
 .lf))) none
 (.nd (.nd .lf none
 (.nd .lf (some .dead)
 .lf)) none
 .lf)) none
 .lf) none
 .lf) none
 .lf) none
 .lf) none
 .lf) none
 .lf) none
 .lf) none
 .lf) none
 .lf) none
 .lf) none
 .lf) none
 (.nd (.nd (.nd (.nd (.nd (.nd (.nd (.nd (.nd (.nd (.nd (.nd .lf none
 (.nd (.nd .lf none
 (.nd .lf (some .dead)
 .lf)) none
 .lf)) none
 .lf) none
 .lf) none
 .lf) none
 .lf) none
 .lf) none
 .lf) none
 .lf) none
 .lf) none
 .lf) none
 .lf) none
 .lf))))))⟩
noncomputable def toldM4 : Mem := ⟨2491096, (.nd (.nd (.nd (.nd (.nd (.nd (.nd (.nd (.nd (.nd .lf none
 (.nd (.nd (.nd (.nd (.nd (.nd (.nd (.nd .lf none
 (.nd .lf none
 (.nd (.nd (.nd .lf (some .dead)
 .lf) none
 .lf) none
 .lf))) none
 .lf) none
 .lf) none
 .lf) none
 .lf) none
 .lf) none
 .lf) none
 .lf)) none
 (.nd (.nd (.nd (.nd (.nd (.nd (.nd (.nd (.nd .lf none
 (.nd .lf none
 (.nd (.nd (.nd .lf (some .dead)
 .lf) none
 .lf) none
 .lf))) none
 .lf) none
 .lf) none
 .lf) none
 .lf) none
 .lf) none
 .lf) none
 .lf) none
 .lf)) none
 (.nd (.nd (.nd (.nd (.nd (.nd (.nd (.nd (.nd (.nd .lf none
 (.nd .lf none
 (.nd (.nd (.nd .lf (some .dead)
 .lf) none
 .lf) none
 .lf))) none
 .lf) none
 .lf) none
 .lf) none
 .lf) none
 .lf) none
 .lf) none
 .lf) none
 (.nd (.nd (.nd (.nd (.nd (.nd (.nd (.nd .lf none
 (.nd .lf none
 (.nd (.nd (.nd .lf (some .dead)
 .lf) none
 .lf) none
 .lf))) none
 .lf) none
 .lf) none
 .lf) none
 .lf) none
 .lf) none
 .lf) none
 .lf)) none
 (.nd (.nd (.nd (.nd (.nd (.nd (.nd (.nd (.nd .lf none
 (.nd .lf none
 (.nd (.nd (.nd .lf (some .dead)
 .lf) none
 .lf) none
 .lf))) none
 .lf) none
 .lf) none
 .lf) none
 .lf) none
 .lf) none
 .lf) none
 .lf) none
 .lf))) none
 (.nd (.nd (.nd (.nd (.nd (.nd (.nd (.nd (.nd (.nd (.nd .lf none
 (.nd .lf none
 (.nd (.nd (.nd .lf (some .dead)
 .lf) none
 .lf) none
 .lf))) none
 .lf) none
 .lf) none
 .lf) none
 .lf) none
 .lf) none
 .lf) none
 .lf) none
 (.nd (.nd (.nd (.nd (.nd (.nd (.nd (.nd .lf none
 (.nd .lf none
 (.nd (.nd (.nd .lf (some .dead)
 .lf) none
 .lf) none
 .lf))) none
 .lf) none
 .lf) none
 .lf) none
 .lf) none
 .lf) none
 .lf) none
 .lf)) none
 (.nd (.nd (.nd (.nd (.nd (.nd (.nd (.nd (.nd .lf none
 (.nd .lf none
 (.nd (.nd (.nd .lf (some .dead)
 .lf) none
 .lf) none
 .lf))) none
 .lf) none
 .lf) none
 .lf) none
 .lf) none
 .lf) none
 .lf) none
 .lf) none
 .lf)) none
 (.nd (.nd (.nd (.nd (.nd (.nd (.nd (.nd (.nd (.nd .lf none
 (.nd .lf none
 (.nd (.nd (.nd .lf (some .dead)
 .lf) none
 .lf) none
 .lf))) none
 .lf) none
 .lf) none
 .lf) none
 .lf) none
 .lf) none
 .lf) none
 .lf) none
 (.nd (.nd (.nd (.nd (.nd (.nd (.nd (.nd .lf none
 (.nd .lf none
 (.nd (.nd (.nd .lf (some .dead)
 .lf) none
 .lf) none
 .lf))) none
 .lf) none
 .lf) none
 .lf) none
 .lf) none
 .lf) none
 .lf) none
 .lf)) none
 (.nd (.nd (.nd (.nd (.nd (.nd (.nd (.nd (.nd .lf none
 (.nd .lf none
 (.nd (.nd (.nd .lf (some .dead)
 .lf) none
 .lf) none
 .lf))) none
 .lf) none
 .lf) none
 .lf) none
 .lf) none
 .lf) none
 .lf) none
 .lf) none
 .lf)))) none
 (.nd (.nd (.nd (.nd (.nd (.nd (.nd (.nd (.nd (.nd (.nd (.nd .lf none
 (.nd .lf none
 (.nd (.nd (.nd .lf (some .dead)
 .lf) none
 .lf) none
 .lf))) none
 (.nd (.nd .lf none
 (.nd .lf (some .dead)
 .lf)) none
 .lf)) none
 .lf) none
 .lf) none
 .lf) none
 .lf) none
 .lf) none
 .lf) none
 (.nd (.nd (.nd (.nd (.nd (.nd (.nd (.nd .lf none
 (.nd .lf none
 (.nd (.nd (.nd .lf (some .dead)
 .lf) none
 .lf) none
 .lf))) none
 .lf) none
 .lf) none
 .lf) none
 .lf) none
 .lf) none
 .lf) none
 .lf)) none
 (.nd (.nd (.nd (.nd (.nd (.nd (.nd (.nd (.nd .lf none
 (.nd .lf none
 (.nd (.nd (.nd .lf (some .dead)
 .lf) none
 .lf) none
 .lf))) none
 .lf) none
 .lf) none
 .lf) none
 .lf) none
 .lf) none
 .lf) none
 .lf) none
 .lf)) none
 (.nd (.nd (.nd (.nd (.nd (.nd (.nd (.nd (.nd (.nd .lf none
 (.nd .lf none
 (.nd (.nd (.nd .lf (some .dead)
 .lf) none
 .lf) none
 .lf))) none
 .lf) none
 .lf) none
 .lf) none
 .lf) none
 .lf) none
 .lf) none
 .lf) none
 (.nd (.nd (.nd (.nd (.nd (.nd (.nd (.nd .lf none
 (.nd .lf none
 (.nd (.nd (.nd .lf (some .dead)
 .lf) none
 .lf) none
 .lf))) none
 .lf) none
 .lf) none
 .lf) none
 .lf) none
 .lf) none
 .lf) none
 .lf)) none
 (.nd (.nd (.nd (.nd (.nd (.nd (.nd (.nd (.nd .lf none
 (.nd .lf none
 (.nd (.nd (.nd .lf (some .dead)
 .lf) none
 .lf) none
 .lf))) none
 .lf) none
 .lf) none
 .lf) none
 .lf) none
 .lf) none
 .lf) none
 .lf) none
 .lf))) none
 (.nd (.nd (.nd (.nd (.nd (.nd (.nd (.nd (.nd (.nd (.nd .lf none
 (.nd .lf none
 (.nd (.nd (.nd .lf (some .dead)
 .lf) none
 .lf) none
 .lf))) none
 .lf) none
 .lf) none
 .lf) none
 .lf) none
 .lf) none
 .lf) none
 .lf) none
 (.nd (.nd (.nd (.nd (.nd (.nd (.nd (.nd .lf none
 (.nd .lf none
 (.nd (.nd (.nd .lf (some .dead)
 .lf) none
 .lf) none
 .lf))) none
 .lf) none
 .lf) none
 .lf) none
 .lf) none
 .lf) none
 .lf) none
 .lf)) none
 (.nd (.nd (.nd (.nd (.nd (.nd (.nd (.nd (.nd .lf none
 (.nd .lf none
 (.nd (.nd (.nd .lf (some .dead)
 .lf) none
 .lf) none
 .lf))) none
 .lf) none
 .lf) none
 .lf) none
 .lf) none
 .lf) none
 .lf) none
 .lf) none
 .lf)) none
 (.nd (.nd (.nd (.nd (.nd (.nd (.nd (.nd (.nd (.nd .lf none
 (.nd .lf none
 (.nd (.nd (.nd .lf (some .dead)
 .lf) none
 .lf) none
 .lf))) none
 .lf) none
 .lf) none
 .lf) none
 .lf) none
 .lf) none
 .lf) none
 .lf) none
 .lf) none
 (.nd (.nd (.nd (.nd (.nd (.nd (.nd (.nd (.nd .lf none
 (.nd .lf none
 (.nd (.nd (.nd .lf (some .dead)
 .lf) none
 .lf) none
 .lf))) none
 .lf) none
 .lf) none
 .lf) none
 .lf) none
 .lf) none
 .lf) none
 .lf) none
 .lf))))) none
 (.nd (.nd (.nd (.nd (.nd (.nd (.nd (.nd (.nd (.nd (.nd (.nd (.nd (.nd .lf none
 (.nd .lf none
 (.nd .lf (some (.row none [(.pointer (some ⟨1835018, 0, none⟩)), (.pointer (some ⟨1835020, 0, none⟩)), (.pointer (some ⟨1835022, 0, none⟩))]))
 .lf))) none
 (.nd .lf none
 (.nd (.nd (.nd .lf (some (.row (some 5) [(.int .i64 1), (.int .i64 0), (.int .i64 1), (.bool true), (.slice (some ⟨2490507, 0, none⟩) 16 16), (.int .i64 0), (.int .i64 (-1)), (.int .i64 0), (.bool false), (.slice none 0 0)]))
 .lf) none
 .lf) none
 .lf))) none
 (.nd (.nd .lf none
 (.nd .lf (some .dead)
 .lf)) none
 .lf)) none
 .lf) none
 .lf) none
 .lf) none
 .lf) none
 .lf) none
 .lf) none
 (.nd (.nd (.nd (.nd (.nd (.nd (.nd (.nd .lf none
 (.nd .lf none
 (.nd (.nd (.nd .lf (some .dead)
 .lf) none
 .lf) none
 .lf))) none
 .lf) none
 .lf) none
 .lf) none
 .lf) none
 .lf) none
 .lf) none
 .lf)) none
 (.nd (.nd (.nd (.nd (.nd (.nd (.nd (.nd (.nd .lf none
 (.nd .lf none
 (.nd (.nd (.nd .lf (some .dead)
 .lf) none
 .lf) none
 .lf))) none
 .lf) none
 .lf) none
 .lf) none
 .lf) none
 .lf) none
 .lf) none
 .lf) none
 .lf)) none
 (.nd (.nd (.nd (.nd (.nd (.nd (.nd (.nd (.nd (.nd .lf none
 (.nd .lf none
 (.nd (.nd (.nd .lf (some .dead)
 .lf) none
 .lf) none
 .lf))) none
 .lf) none
 .lf) none
 .lf) none
 .lf) none
 .lf) none
 .lf) none
 .lf) none
 (.nd (.nd (.nd (.nd (.nd (.nd (.nd (.nd .lf none
 (.nd .lf none
 (.nd (.nd (.nd .lf (some .dead)
 .lf) none
 .lf) none
 .lf))) none
 .lf) none
 .lf) none
 .lf) none
 .lf) none
 .lf) none
 .lf) none
 .lf)) none
 (.nd (.nd (.nd (.nd (.nd (.nd (.nd (.nd (.nd .lf none
 (.nd .lf none
 (.nd (.nd (.nd .lf (some .dead)
 .lf) none
 .lf) none
 .lf))) none
 .lf) none
 .lf) none
 .lf) none
 .lf) none
 .lf) none
 .lf) none
 .lf) none
 .lf))) none
 (.nd (.nd (.nd (.nd (.nd (.nd (.nd (.nd (.nd (.nd (.nd .lf none
 (.nd .lf none
 (.nd (.nd (.nd .lf (some .dead)
 .lf) none
 .lf) none
 .lf))) none
 .lf) none
 .lf) none
 .lf) none
 .lf) none
 .lf) none
 .lf) none
 .lf) none
 (.nd (.nd (.nd (.nd (.nd (.nd (.nd (.nd .lf none
 (.nd .lf none
 (.nd (.nd (.nd .lf (some .dead)
 .lf) none
 .lf) none
 .lf))) none
 .lf) none
 .lf) none
 .lf) none
 .lf) none
 .lf) none
 .lf) none
 .lf)) none
 (.nd (.nd (.nd (.nd (.nd (.nd (.nd (.nd (.nd .lf none
 (.nd .lf none
 (.nd (.nd (.nd .lf (some .dead)
 .lf) none
 .lf) none
 .lf))) none
 .lf) none
 .lf) none
 .lf) none
 .lf) none
 .lf) none
 .lf) none
 .lf) none
 .lf)) none
 (.nd (.nd (.nd (.nd (.nd (.nd (.nd (.nd (.nd (.nd .lf none
 (.nd .lf none
 (.nd (.nd (.nd .lf (some .dead)
 .lf) none
 .lf) none
 .lf))) none
 .lf) none
 .lf) none
 .lf) none
 .lf) none
 .lf) none
 .lf) none
 .lf) none
 (.nd (.nd (.nd (.nd (.nd (.nd (.nd (.nd .lf none
 (.nd .lf none
 (.nd (.nd (.nd .lf (some .dead)
 .lf) none
 .lf) none
 .lf))) none
 .lf) none
 .lf) none
 .lf) none
 .lf) none
 .lf) none
 .lf) none
 .lf)) none
 (.nd (.nd (.nd (.nd (.nd (.nd (.nd (.nd (.nd .lf none
 (.nd .lf none
 (.nd (.nd (.nd .lf (some .dead)
 .lf) none
 .lf) none
 .lf))) none
 .lf) none
 .lf) none
 .lf) none
 .lf) none
 .lf) none
 .lf) none
 .lf) none
 .lf)))) none
 (.nd (.nd (.nd (.nd (.nd (.nd (.nd (.nd (.nd (.nd (.nd (.nd .lf none
 (.nd .lf none
 (.nd (.nd (.nd .lf (some .dead)
 .lf) none
 .lf) none
 .lf))) none
 .lf) none
 .lf) none
 .lf) none
 .lf) none
 .lf) none
 .lf) none
 .lf) none
 (.nd (.nd (.nd (.nd (.nd (.nd (.nd (.nd .lf none
 (.nd .lf none
 (.nd (.nd (.nd .lf (some .dead)
 .lf) none
 .lf) none
 .lf))) none
 .lf) none
 .lf) none
 .lf) none
 .lf) none
 .lf) none
 .lf) none
 .lf)) none
 (.nd (.nd (.nd (.nd (.nd (.nd (.nd (.nd (.nd .lf none
 (.nd .lf none
 (.nd (.nd (.nd .lf (some .dead)
 .lf) none
 .lf) none
 .lf))) none
 .lf) none
 .lf) none
 .lf) none
 .lf) none
 .lf) none
 .lf) none
 .lf) none
 .lf)) none
 (.nd (.nd (.nd (.nd (.nd (.nd (.nd (.nd (.nd (.nd .lf none
 (.nd .lf none
 (.nd (.nd (.nd .lf (some .dead)
 .lf) none
 .lf) none
 .lf))) none
 .lf) none
 .lf) none
 .lf) none
 .lf) none
 .lf) none
 .lf) none
 .lf) none
 (.nd (.nd (.nd (.nd (.nd (.nd (.nd (.nd .lf none
 (.nd .lf none
 (.nd (.nd (.nd .lf (some .dead)
 .lf) none
 .lf) none
 .lf))) none
 .lf) none
 .lf) none
 .lf) none
 .lf) none
 .lf) none
 .lf) none
 .lf)) none
 (.nd (.nd (.nd (.nd (.nd (.nd (.nd (.nd (.nd .lf none
 (.nd .lf none
 (.nd (.nd (.nd .lf (some .dead)
 .lf) none
 .lf) none
 .lf))) none
 .lf) none
 .lf) none
 .lf) none
 .lf) none
 .lf) none
 .lf) none
 .lf) none
 .lf))) none
 (.nd (.nd (.nd (.nd (.nd (.nd (.nd (.nd (.nd (.nd (.nd .lf none
 (.nd .lf none
 (.nd (.nd (.nd .lf (some .dead)
 .lf) none
 .lf) none
 .lf))) none
 .lf) none
 .lf) none
 .lf) none
 .lf) none
 .lf) none
 .lf) none
 .lf) none
 (.nd (.nd (.nd (.nd (.nd (.nd (.nd (.nd .lf none
 (.nd .lf none
 (.nd (.nd (.nd .lf (some .dead)
 .lf) none
 .lf) none
 .lf))) none
 .lf) none
 .lf) none
 .lf) none
 .lf) none
 .lf) none
 .lf) none
 .lf)) none
 (.nd (.nd (.nd (.nd (.nd (.nd (.nd (.nd (.nd .lf none
 (.nd .lf none
 (.nd (.nd (.nd .lf (some .dead)
 .lf) none
 .lf) none
 .lf))) none
 .lf) none
 .lf) none
 .lf) none
 .lf) none
 .lf) none
 .lf) none
 .lf) none
 .lf)) none
 (.nd (.nd (.nd (.nd (.nd (.nd (.nd (.nd (.nd (.nd .lf none
 (.nd .lf none
 (.nd (.nd (.nd .lf (some .dead)
 .lf) none
 .lf) none
 .lf))) none
 .lf) none
 .lf) none
 .lf) none
 .lf) none
 .lf) none
 .lf) none
 .lf) none
 .lf) none
 (.nd (.nd (.nd (.nd (.nd (.nd (.nd (.nd (.nd .lf none
 (.nd .lf none
 (.nd (.nd (.nd .lf (some .dead)
 .lf) none
 .lf) none
 .lf))) none
 .lf) none
 .lf) none
 .lf) none
 .lf) none
 .lf) none
 .lf) none
 .lf) none
 .lf)))))) none
 (.nd (.nd (.nd (.nd (.nd (.nd (.nd (.nd (.nd (.nd (.nd (.nd (.nd (.nd (.nd .lf none
 (.nd .lf none
 (.nd .lf (some (.row none [(.slice (some ⟨1835014, 0, none⟩) 32 32), (.int .i64 1), (.int .i64 1), (.int .i64 1)]))
 .lf))) none
 (.nd (.nd .lf (some (.row (some 1) [(.slice (some ⟨655365, 0, none⟩) 6 6)]))
 .lf) none
 (.nd (.nd (.nd .lf (some .dead)
 .lf) none
 .lf) none
 .lf))) none
 (.nd (.nd .lf none
 (.nd .lf (some .dead)
 .lf)) (some .dead)
 .lf)) none
 .lf) none
 .lf) none
 .lf) none
 .lf) none
 .lf) none
 .lf) none
 (.nd (.nd (.nd (.nd (.nd (.nd (.nd (.nd .lf none
 (.nd .lf none
 (.nd (.nd (.nd .lf (some .dead)
 .lf) none
 .lf) none
 .lf))) none
 .lf) none
 .lf) none
 .lf) none
 .lf) none
 .lf) none
 .lf) none
 .lf)) none
 (.nd (.nd (.nd (.nd (.nd (.nd (.nd (.nd (.nd .lf none
 (.nd .lf none
 (.nd (.nd (.nd .lf (some .dead)
 .lf) none
 .lf) none
 .lf))) none
 .lf) none
 .lf) none
 .lf) none
 .lf) none
 .lf) none
 .lf) none
 .lf) none
 .lf)) none
 (.nd (.nd (.nd (.nd (.nd (.nd (.nd (.nd (.nd (.nd .lf none
 (.nd .lf none
 (.nd (.nd (.nd .lf (some .dead)
 .lf) none
 .lf) none
 .lf))) none
 .lf) none
 .lf) none
 .lf) none
 .lf) none
 .lf) none
 .lf) none
 .lf) none
 (.nd (.nd (.nd (.nd (.nd (.nd (.nd (.nd .lf none
 (.nd .lf none
 (.nd (.nd (.nd .lf (some .dead)
 .lf) none
 .lf) none
 .lf))) none
 .lf) none
 .lf) none
 .lf) none
 .lf) none
 .lf) none
 .lf) none
 .lf)) none
 (.nd (.nd (.nd (.nd (.nd (.nd (.nd (.nd (.nd .lf none
 (.nd .lf none
 (.nd (.nd (.nd .lf (some .dead)
 .lf) none
 .lf) none
 .lf))) none
 .lf) none
 .lf) none
 .lf) none
 .lf) none
 .lf) none
 .lf) none
 .lf) none
 .lf))) none
 (.nd (.nd (.nd (.nd (.nd (.nd (.nd (.nd (.nd (.nd (.nd .lf none
 (.nd .lf none
 (.nd (.nd (.nd .lf (some .dead)
 .lf) none
 .lf) none
 .lf))) none
 .lf) none
 .lf) none
 .lf) none
 .lf) none
 .lf) none
 .lf) none
 .lf) none
 (.nd (.nd (.nd (.nd (.nd (.nd (.nd (.nd .lf none
 (.nd .lf none
 (.nd (.nd (.nd .lf (some .dead)
 .lf) none
 .lf) none
 .lf))) none
 .lf) none
 .lf) none
 .lf) none
 .lf) none
 .lf) none
 .lf) none
 .lf)) none
 (.nd (.nd (.nd (.nd (.nd (.nd (.nd (.nd (.nd .lf none
 (.nd .lf none
 (.nd (.nd (.nd .lf (some .dead)
 .lf) none
 .lf) none
 .lf))) none
 .lf) none
 .lf) none
 .lf) none
 .lf) none
 .lf) none
 .lf) none
 .lf) none
 .lf)) none
 (.nd (.nd (.nd (.nd (.nd (.nd (.nd (.nd (.nd (.nd .lf none
 (.nd .lf none
 (.nd (.nd (.nd .lf (some .dead)
 .lf) none
 .lf) none
 .lf))) none
 .lf) none
 .lf) none
 .lf) none
 .lf) none
 .lf) none
 .lf) none
 .lf) none
 (.nd (.nd (.nd (.nd (.nd (.nd (.nd (.nd .lf none
 (.nd .lf none
 (.nd (.nd (.nd .lf (some .dead)
 .lf) none
 .lf) none
 .lf))) none
 .lf) none
 .lf) none
 .lf) none
 .lf) none
 .lf) none
 .lf) none
 .lf)) none
 (.nd (.nd (.nd (.nd (.nd (.nd (.nd (.nd (.nd .lf none
 (.nd .lf none
 (.nd (.nd (.nd .lf (some .dead)
 .lf) none
 .lf) none
 .lf))) none
 .lf) none
 .lf) none
 .lf) none
 .lf) none
 .lf) none
 .lf) none
 .lf) none
 .lf)))) none
 (.nd (.nd (.nd (.nd (.nd (.nd (.nd (.nd (.nd (.nd (.nd (.nd .lf none
 (.nd .lf none
 (.nd (.nd (.nd .lf (some .dead)
 .lf) none
 .lf) none
 .lf))) none
 .lf) none
 .lf) none
 .lf) none
 .lf) none
 .lf) none
 .lf) none
 .lf) none
 (.nd (.nd (.nd (.nd (.nd (.nd (.nd (.nd .lf none
 (.nd .lf none
 (.nd (.nd (.nd .lf (some .dead)
 .lf) none
 .lf) none
 .lf))) none
 .lf) none
 .lf) none
 .lf) none
 .lf) none
 .lf) none
 .lf) none
 .lf)) none
 (.nd (.nd (.nd (.nd (.nd (.nd (.nd (.nd (.nd .lf none
 (.nd .lf none
 (.nd (.nd (.nd .lf (some .dead)
 .lf) none
 .lf) none
 .lf))) none
 .lf) none
 .lf) none
 .lf) none
 .lf) none
 .lf) none
 .lf) none
 .lf) none
 .lf)) none
 (.nd (.nd (.nd (.nd (.nd (.nd (.nd (.nd (.nd (.nd .lf none
 (.nd .lf none
 (.nd (.nd (.nd .lf (some .dead)
 .lf) none
 .lf) none
 .lf))) none
 .lf) none
 .lf) none
 .lf) none
 .lf) none
 .lf) none
 .lf) none
 .lf) none
 (.nd (.nd (.nd (.nd (.nd (.nd (.nd (.nd .lf none
 (.nd .lf none
 (.nd (.nd (.nd .lf (some .dead)
 .lf) none
 .lf) none
 .lf))) none
 .lf) none
 .lf) none
 .lf) none
 .lf) none
 .lf) none
 .lf) none
 .lf)) none
 (.nd (.nd (.nd (.nd (.nd (.nd (.nd (.nd (.nd .lf none
 (.nd .lf none
 (.nd (.nd (.nd .lf (some .dead)
 .lf) none
 .lf) none
 .lf))) none
 .lf) none
 .lf) none
 .lf) none
 .lf) none
 .lf) none
 .lf) none
 .lf) none
 .lf))) none
 (.nd (.nd (.nd (.nd (.nd (.nd (.nd (.nd (.nd (.nd (.nd .lf none
 (.nd .lf none
 (.nd (.nd (.nd .lf (some .dead)
 .lf) none
 .lf) none
 .lf))) none
 .lf) none
 .lf) none
 .lf) none
 .lf) none
 .lf) none
 .lf) none
 .lf) none
 (.nd (.nd (.nd (.nd (.nd (.nd (.nd (.nd .lf none
 (.nd .lf none
 (.nd (.nd (.nd .lf (some .dead)
 .lf) none
 .lf) none
 .lf))) none
 .lf) none
 .lf) none
 .lf) none
 .lf) none
 .lf) none
 .lf) none
 .lf)) none
 (.nd (.nd (.nd (.nd (.nd (.nd (.nd (.nd (.nd .lf none
 (.nd .lf none
 (.nd (.nd (.nd .lf (some .dead)
 .lf) none
 .lf) none
 .lf))) none
 .lf) none
 .lf) none
 .lf) none
 .lf) none
 .lf) none
 .lf) none
 .lf) none
 .lf)) none
 (.nd (.nd (.nd (.nd (.nd (.nd (.nd (.nd (.nd (.nd .lf none
 (.nd .lf none
 (.nd (.nd (.nd .lf (some .dead)
 .lf) none
 .lf) none
 .lf))) none
 .lf) none
 .lf) none
 .lf) none
 .lf) none
 .lf) none
 .lf) none
 .lf) none
 .lf) none
 (.nd (.nd (.nd (.nd (.nd (.nd (.nd (.nd (.nd .lf none
 (.nd .lf none
 (.nd (.nd (.nd .lf (some .dead)
 .lf) none
 .lf) none
 .lf))) none
 .lf) none
 .lf) none
 .lf) none
 .lf) none
 .lf) none
 .lf) none
 .lf) none
 .lf))))) none
 (.nd (.nd (.nd (.nd (.nd (.nd (.nd (.nd (.nd (.nd (.nd (.nd (.nd .lf none
 (.nd .lf none
 (.nd (.nd (.nd .lf (some .dead)
 .lf) none
 .lf) none
 .lf))) none
 (.nd (.nd .lf none
 (.nd .lf (some .dead)
 .lf)) none
 .lf)) none
 .lf) none
 .lf) none
 .lf) none
 .lf) none
 .lf) none
 .lf) none
 (.nd (.nd (.nd (.nd (.nd (.nd (.nd (.nd .lf none
 (.nd .lf none
 (.nd (.nd (.nd .lf (some .dead)
 .lf) none
 .lf) none
 .lf))) none
 .lf) none
 .lf) none
 .lf) none
 .lf) none
 .lf) none
 .lf) none
 .lf)) none
 (.nd (.nd (.nd (.nd (.nd (.nd (.nd (.nd (.nd .lf none
 (.nd .lf none
 (.nd (.nd (.nd .lf (some .dead)
 .lf) none
 .lf) none
 .lf))) none
 .lf) none
 .lf) none
 .lf) none
 .lf) none
 .lf) none
 .lf) none
 .lf) none
 .lf)) none
 (.nd (.nd (.nd (.nd (.nd (.nd (.nd (.nd (.nd (.nd .lf none
 (.nd .lf none
 (.nd (.nd (.nd .lf (some .dead)
 .lf) none
 .lf) none
 .lf))) none
 .lf) none
 .lf) none
 .lf) none
 .lf) none
 .lf) none
 .lf) none
 .lf) none
 (.nd (.nd (.nd (.nd (.nd (.nd (.nd (.nd .lf none
 (.nd .lf none
 (.nd (.nd (.nd .lf (some .dead)
 .lf) none
 .lf) none
 .lf))) none
 .lf) none
 .lf) none
 .lf) none
 .lf) none
 .lf) none
 .lf) none
 .lf)) none
 (.nd (.nd (.nd (.nd (.nd (.nd (.nd (.nd (.nd .lf none
 (.nd .lf none
 (.nd (.nd (.nd .lf (some .dead)
 .lf) none
 .lf) none
 .lf))) none
 .lf) none
 .lf) none
 .lf) none
 .lf) none
 .lf) none
 .lf) none
 .lf) none
 .lf))) none
 (.nd (.nd (.nd (.nd (.nd (.nd (.nd (.nd (.nd (.nd (.nd .lf none
 (.nd .lf none
 (.nd (.nd (.nd .lf (some .dead)
 .lf) none
 .lf) none
 .lf))) none
 .lf) none
 .lf) none
 .lf) none
 .lf) none
 .lf) none
 .lf) none
 .lf) none
 (.nd (.nd (.nd (.nd (.nd (.nd (.nd (.nd .lf none
 (.nd .lf none
 (.nd (.nd (.nd .lf (some .dead)
 .lf) none
 .lf) none
 .lf))) none
 .lf) none
 .lf) none
 .lf) none
 .lf) none
 .lf) none
 .lf) none
 .lf)) none
 (.nd (.nd (.nd (.nd (.nd (.nd (.nd (.nd (.nd .lf none
 (.nd .lf none
 (.nd (.nd (.nd .lf (some .dead)
 .lf) none
 .lf) none
 .lf))) none
 .lf) none
 .lf) none
 .lf) none
 .lf) none
 .lf) none
 .lf) none
 .lf) none
 .lf)) none
 (.nd (.nd (.nd (.nd (.nd (.nd (.nd (.nd (.nd (.nd .lf none
 (.nd .lf none
 (.nd (.nd (.nd .lf (some .dead)
 .lf) none
 .lf) none
 .lf))) none
 .lf) none
 .lf) none
 .lf) none
 .lf) none
 .lf) none
 .lf) none
 .lf) none
 (.nd (.nd (.nd (.nd (.nd (.nd (.nd (.nd .lf none
 (.nd .lf none
 (.nd (.nd (.nd .lf (some .dead)
 .lf) none
 .lf) none
 .lf))) none
 .lf) none
 .lf) none
 .lf) none
 .lf) none
 .lf) none
 .lf) none
 .lf)) none
 (.nd (.nd (.nd (.nd (.nd (.nd (.nd (.nd (.nd .lf none
 (.nd .lf none
 (.nd (.nd (.nd .lf (some .dead)
 .lf) none
 .lf) none
 .lf))) none
 .lf) none
 .lf) none
 .lf) none
 .lf) none
 .lf) none
 .lf) none
 .lf) none
 .lf)))) none
 (.nd (.nd (.nd (.nd (.nd (.nd (.nd (.nd (.nd (.nd (.nd (.nd .lf none
 (.nd .lf none
 (.nd (.nd (.nd .lf (some .dead)
 .lf) none
 .lf) none
 .lf))) none
 .lf) none
 .lf) none
 .lf) none
 .lf) none
 .lf) none
 .lf) none
 .lf) none
 (.nd (.nd (.nd (.nd (.nd (.nd (.nd (.nd .lf none
 (.nd .lf none
 (.nd (.nd (.nd .lf (some .dead)
 .lf) none
 .lf) none
 .lf))) none
 .lf) none
 .lf) none
 .lf) none
 .lf) none
 .lf) none
 .lf) none
 .lf)) none
 (.nd (.nd (.nd (.nd (.nd (.nd (.nd (.nd (.nd .lf none
 (.nd .lf none
 (.nd (.nd (.nd .lf (some .dead)
 .lf) none
 .lf) none
 .lf))) none
 .lf) none
 .lf) none
 .lf) none
 .lf) none
 .lf) none
 .lf) none
 .lf) none
 .lf)) none
 (.nd (.nd (.nd (.nd (.nd (.nd (.nd (.nd (.nd (.nd .lf none
 (.nd .lf none
 (.nd (.nd (.nd .lf (some .dead)
 .lf) none
 .lf) none
 .lf))) none
 .lf) none
 .lf) none
 .lf) none
 .lf) none
 .lf) none
 .lf) none
 .lf) none
 (.nd (.nd (.nd (.nd (.nd (.nd (.nd (.nd .lf none
 (.nd .lf none
 (.nd (.nd (.nd .lf (some .dead)
 .lf) none
 .lf) none
 .lf))) none
 .lf) none
 .lf) none
 .lf) none
 .lf) none
 .lf) none
 .lf) none
 .lf)) none
 (.nd (.nd (.nd (.nd (.nd (.nd (.nd (.nd (.nd .lf none
 (.nd .lf none
 (.nd (.nd (.nd .lf (some .dead)
 .lf) none
 .lf) none
 .lf))) none
 .lf) none
 .lf) none
 .lf) none
 .lf) none
 .lf) none
 .lf) none
 .lf) none
 .lf))) none
 (.nd (.nd (.nd (.nd (.nd (.nd (.nd (.nd (.nd (.nd (.nd .lf none
 (.nd .lf none
 (.nd (.nd (.nd .lf (some .dead)
 .lf) none
 .lf) none
 .lf))) none
 .lf) none
 .lf) none
 .lf) none
 .lf) none
 .lf) none
 .lf) none
 .lf) none
 (.nd (.nd (.nd (.nd (.nd (.nd (.nd (.nd .lf none
 (.nd .lf none
 (.nd (.nd (.nd .lf (some (.row (some 1) [(.int .u8 113), (.int .u8 0), (.int .u8 0), (.int .u8 0), (.int .u8 0), (.int .u8 0), (.int .u8 0), (.int .u8 0), (.int .u8 0), (.int .u8 0), (.int .u8 0), (.int .u8 0), (.int .u8 0), (.int .u8 0), (.int .u8 0), (.int .u8 0)]))
 .lf) none
 .lf) none
 .lf))) none
 .lf) none
 .lf) none
 .lf) none
 .lf) none
 .lf) none
 .lf) none
 .lf)) none
 (.nd (.nd (.nd (.nd (.nd (.nd (.nd (.nd (.nd .lf none
 (.nd .lf none
 (.nd (.nd (.nd .lf (some .dead)
 .lf) none
 .lf) none
 .lf))) none
 .lf) none
 .lf) none
 .lf) none
 .lf) none
 .lf) none
 .lf) none
 .lf) none
 .lf)) none
 (.nd (.nd (.nd (.nd (.nd (.nd (.nd (.nd (.nd (.nd .lf none
 (.nd .lf none
 (.nd (.nd (.nd .lf (some .dead)
 .lf) none
 .lf) none
 .lf))) none
 .lf) none
 .lf) none
 .lf) none
 .lf) none
 .lf) none
 .lf) none
 .lf) none
 .lf) none
 (.nd (.nd (.nd (.nd (.nd (.nd (.nd (.nd (.nd .lf none
 (.nd .lf none
 (.nd (.nd (.nd .lf (some .dead)
 .lf) none
 .lf) none
 .lf))) none
 .lf) none
 .lf) none
 .lf) none
 .lf) none
 .lf) none
 .lf) none
 .lf) none
 .lf))))))) none
 (.nd (.nd (.nd (.nd (.nd (.nd (.nd (.nd (.nd (.nd (.nd (.nd (.nd (.nd (.nd (.nd (.nd (.nd .lf (some (.row none [(.bool true), (.bool false), (.bool false)]))
 .lf) none
 .lf) none
 .lf) none
 (.nd (.nd .lf (some (.row none [(.slice (some ⟨655367, 0, none⟩) 1 1)]))
 .lf) none
 .lf)) none
 (.nd (.nd (.nd (.nd .lf (some (.ch 4 []))
 .lf) none
 .lf) none
 (.nd (.nd .lf (some (.row none [(.int .i64 3), (.int .i64 2), (.int .i64 1), (.int .i64 1), (.pointer (some ⟨196612, 0, none⟩)), (.pointer (some ⟨458757, 0, none⟩)), (.pointer (some ⟨655363, 0, none⟩)), (.int .i64 1), (.slice (some ⟨852004, 0, none⟩) 16 16), (.int .i64 (-1)), (.int .i64 0), (.int .i64 0), (.slice (some ⟨1048579, 0, none⟩) 3 3), (.slice (some ⟨2228230, 0, none⟩) 1 1), (.slice (some ⟨2490381, 0, none⟩) 2 2), (.slice (some ⟨1507332, 0, none⟩) 4 4), (.slice (some ⟨2490833, 0, none⟩) 3 3), (.chan (some 1114115)), (.int .i64 13), (.int .i64 2), (.bool false), (.bool false), (.bool false)]))
 .lf) (some .dead)
 .lf)) (some (.mp []))
 (.nd .lf (some .dead)
 (.nd (.nd .lf (some .dead)
 .lf) none
 .lf)))) none
 .lf) none
 .lf) none
 .lf) none
 .lf) none
 .lf) none
 .lf) none
 (.nd (.nd (.nd (.nd (.nd (.nd (.nd (.nd .lf none
 (.nd .lf none
 (.nd (.nd (.nd .lf (some .dead)
 .lf) none
 .lf) none
 .lf))) none
 .lf) none
 .lf) none
 .lf) none
 .lf) none
 .lf) none
 .lf) none
 .lf)) none
 (.nd (.nd (.nd (.nd (.nd (.nd (.nd (.nd (.nd .lf none
 (.nd .lf none
 (.nd (.nd (.nd .lf (some .dead)
 .lf) none
 .lf) none
 .lf))) none
 .lf) none
 .lf) none
 .lf) none
 .lf) none
 .lf) none
 .lf) none
 .lf) none
 .lf)) none
 (.nd (.nd (.nd (.nd (.nd (.nd (.nd (.nd (.nd (.nd .lf none
 (.nd .lf none
 (.nd (.nd (.nd .lf (some .dead)
 .lf) none
 .lf) none
 .lf))) none
 .lf) none
 .lf) none
 .lf) none
 .lf) none
 .lf) none
 .lf) none
 .lf) none
 (.nd (.nd (.nd (.nd (.nd (.nd (.nd (.nd .lf none
 (.nd .lf none
 (.nd (.nd (.nd .lf (some .dead)
 .lf) none
 .lf) none
 .lf))) none
 .lf) none
 .lf) none
 .lf) none
 .lf) none
 .lf) none
 .lf) none
 .lf)) none
 (.nd (.nd (.nd (.nd (.nd (.nd (.nd (.nd (.nd .lf none
 (.nd .lf none
 (.nd (.nd (.nd .lf (some .dead)
 .lf) none
 .lf) none
 .lf))) none
 .lf) none
 .lf) none
 .lf) none
 .lf) none
 .lf) none
 .lf) none
 .lf) none
 .lf))) none
 (.nd (.nd (.nd (.nd (.nd (.nd (.nd (.nd (.nd (.nd (.nd .lf none
 (.nd .lf none
 (.nd (.nd (.nd .lf (some .dead)
 .lf) none
 .lf) none
 .lf))) none
 .lf) none
 .lf) none
 .lf) none
 .lf) none
 .lf) none
 .lf) none
 .lf) none
 (.nd (.nd (.nd (.nd (.nd (.nd (.nd (.nd .lf none
 (.nd .lf none
 (.nd (.nd (.nd .lf (some .dead)
 .lf) none
 .lf) none
 .lf))) none
 .lf) none
 .lf) none
 .lf) none
 .lf) none
 .lf) none
 .lf) none
 .lf)) none
 (.nd (.nd (.nd (.nd (.nd (.nd (.nd (.nd (.nd .lf none
 (.nd .lf none
 (.nd (.nd (.nd .lf (some .dead)
 .lf) none
 .lf) none
 .lf))) none
 .lf) none
 .lf) none
 .lf) none
 .lf) none
 .lf) none
 .lf) none
 .lf) none
 .lf)) none
 (.nd (.nd (.nd (.nd (.nd (.nd (.nd (.nd (.nd (.nd .lf none
 (.nd .lf none
 (.nd (.nd (.nd .lf (some .dead)
 .lf) none
 .lf) none
 .lf))) none
 .lf) none
 .lf) none
 .lf) none
 .lf) none
 .lf) none
 .lf) none
 .lf) none
 (.nd (.nd (.nd (.nd (.nd (.nd (.nd (.nd .lf none
 (.nd .lf none
 (.nd (.nd (.nd .lf (some .dead)
 .lf) none
 .lf) none
 .lf))) none
 .lf) none
 .lf) none
 .lf) none
 .lf) none
 .lf) none
 .lf) none
 .lf)) none
 (.nd (.nd (.nd (.nd (.nd (.nd (.nd (.nd (.nd .lf none
 (.nd .lf none
 (.nd (.nd (.nd .lf (some .dead)
 .lf) none
 .lf) none
 .lf))) none
 .lf) none
 .lf) none
 .lf) none
 .lf) none
 .lf) none
 .lf) none
 .lf) none
 .lf)))) none
 (.nd (.nd (.nd (.nd (.nd (.nd (.nd (.nd (.nd (.nd (.nd (.nd .lf none
 (.nd .lf none
 (.nd (.nd (.nd .lf (some .dead)
 .lf) none
 .lf) none
 .lf))) none
 (.nd (.nd .lf none
 (.nd .lf (some .dead)
 .lf)) none
 .lf)) none
 .lf) none
 .lf) none
 .lf) none
 .lf) none
 .lf) none
 .lf) none
 (.nd (.nd (.nd (.nd (.nd (.nd (.nd (.nd .lf none
 (.nd .lf none
 (.nd (.nd (.nd .lf (some .dead)
 .lf) none
 .lf) none
 .lf))) none
 .lf) none
 .lf) none
 .lf) none
 .lf) none
 .lf) none
 .lf) none
 .lf)) none
 (.nd (.nd (.nd (.nd (.nd (.nd (.nd (.nd (.nd .lf none
 (.nd .lf none
 (.nd (.nd (.nd .lf (some .dead)
 .lf) none
 .lf) none
 .lf))) none
 .lf) none
 .lf) none
 .lf) none
 .lf) none
 .lf) none
 .lf) none
 .lf) none
 .lf)) none
 (.nd (.nd (.nd (.nd (.nd (.nd (.nd (.nd (.nd (.nd .lf none
 (.nd .lf none
 (.nd (.nd (.nd .lf (some .dead)
 .lf) none
 .lf) none
 .lf))) none
 .lf) none
 .lf) none
 .lf) none
 .lf) none
 .lf) none
 .lf) none
 .lf) none
 (.nd (.nd (.nd (.nd (.nd (.nd (.nd (.nd .lf none
 (.nd .lf none
 (.nd (.nd (.nd .lf (some .dead)
 .lf) none
 .lf) none
 .lf))) none
 .lf) none
 .lf) none
 .lf) none
 .lf) none
 .lf) none
 .lf) none
 .lf)) none
 (.nd (.nd (.nd (.nd (.nd (.nd (.nd (.nd (.nd .lf none
 (.nd .lf none
 (.nd (.nd (.nd .lf (some .dead)
 .lf) none
 .lf) none
 .lf))) none
 .lf) none
 .lf) none
 .lf) none
 .lf) none
 .lf) none
 .lf) none
 .lf) none
 .lf))) none
 (.nd (.nd (.nd (.nd (.nd (.nd (.nd (.nd (.nd (.nd (.nd .lf none
 (.nd .lf none
 (.nd (.nd (.nd .lf (some .dead)
 .lf) none
 .lf) none
 .lf))) none
 .lf) none
 .lf) none
 .lf) none
 .lf) none
 .lf) none
 .lf) none
 .lf) none
 (.nd (.nd (.nd (.nd (.nd (.nd (.nd (.nd .lf none
 (.nd .lf none
 (.nd (.nd (.nd .lf (some .dead)
 .lf) none
 .lf) none
 .lf))) none
 .lf) none
 .lf) none
 .lf) none
 .lf) none
 .lf) none
 .lf) none
 .lf)) none
 (.nd (.nd (.nd (.nd (.nd (.nd (.nd (.nd (.nd .lf none
 (.nd .lf none
 (.nd (.nd (.nd .lf (some .dead)
 .lf) none
 .lf) none
 .lf))) none
 .lf) none
 .lf) none
 .lf) none
 .lf) none
 .lf) none
 .lf) none
 .lf) none
 .lf)) none
 (.nd (.nd (.nd (.nd (.nd (.nd (.nd (.nd (.nd (.nd .lf none
 (.nd .lf none
 (.nd (.nd (.nd .lf (some .dead)
 .lf) none
 .lf) none
 .lf))) none
 .lf) none
 .lf) none
 .lf) none
 .lf) none
 .lf) none
 .lf) none
 .lf) none
 .lf) none
 (.nd (.nd (.nd (.nd (.nd (.nd (.nd (.nd (.nd .lf none
 (.nd .lf none
 (.nd (.nd (.nd .lf (some .dead)
 .lf) none
 .lf) none
 .lf))) none
 .lf) none
 .lf) none
 .lf) none
 .lf) none
 .lf) none
 .lf) none
 .lf) none
 .lf))))) none
 (.nd (.nd (.nd (.nd (.nd (.nd (.nd (.nd (.nd (.nd (.nd (.nd (.nd .lf none
 (.nd .lf none
 (.nd (.nd (.nd .lf (some (.row none [(.pointer (some ⟨1376259, 0, none⟩)), (.int .i64 3), (.int .i64 2), (.int .i64 1), (.int .i64 1), (.slice (some ⟨2491091, 0, none⟩) 14 14), (.int .i64 2), (.int .i64 2)]))
 .lf) none
 .lf) none
 .lf))) none
 (.nd (.nd .lf none
 (.nd .lf (some .dead)
 .lf)) none
 .lf)) none
 .lf) none
 .lf) none
 .lf) none
 .lf) none
 .lf) none
 .lf) none
 (.nd (.nd (.nd (.nd (.nd (.nd (.nd (.nd .lf none
 (.nd .lf none
 (.nd (.nd (.nd .lf (some .dead)
 .lf) none
 .lf) none
 .lf))) none
 .lf) none
 .lf) none
 .lf) none
 .lf) none
 .lf) none
 .lf) none
 .lf)) none
 (.nd (.nd (.nd (.nd (.nd (.nd (.nd (.nd (.nd .lf none
 (.nd .lf none
 (.nd (.nd (.nd .lf (some .dead)
 .lf) none
 .lf) none
 .lf))) none
 .lf) none
 .lf) none
 .lf) none
 .lf) none
 .lf) none
 .lf) none
 .lf) none
 .lf)) none
 (.nd (.nd (.nd (.nd (.nd (.nd (.nd (.nd (.nd (.nd .lf none
 (.nd .lf none
 (.nd (.nd (.nd .lf (some .dead)
 .lf) none
 .lf) none
 .lf))) none
 .lf) none
 .lf) none
 .lf) none
 .lf) none
 .lf) none
 .lf) none
 .lf) none
 (.nd (.nd (.nd (.nd (.nd (.nd (.nd (.nd .lf none
 (.nd .lf none
 (.nd (.nd (.nd .lf (some .dead)
 .lf) none
 .lf) none
 .lf))) none
 .lf) none
 .lf) none
 .lf) none
 .lf) none
 .lf) none
 .lf) none
 .lf)) none
 (.nd (.nd (.nd (.nd (.nd (.nd (.nd (.nd (.nd .lf none
 (.nd .lf none
 (.nd (.nd (.nd .lf (some .dead)
 .lf) none
 .lf) none
 .lf))) none
 .lf) none
 .lf) none
 .lf) none
 .lf) none
 .lf) none
 .lf) none
 .lf) none
 .lf))) none
 (.nd (.nd (.nd (.nd (.nd (.nd (.nd (.nd (.nd (.nd (.nd .lf none
 (.nd .lf none
 (.nd (.nd (.nd .lf (some .dead)
 .lf) none
 .lf) none
 .lf))) none
 .lf) none
 .lf) none
 .lf) none
 .lf) none
 .lf) none
 .lf) none
 .lf) none
 (.nd (.nd (.nd (.nd (.nd (.nd (.nd (.nd .lf none
 (.nd .lf none
 (.nd (.nd (.nd .lf (some .dead)
 .lf) none
 .lf) none
 .lf))) none
 .lf) none
 .lf) none
 .lf) none
 .lf) none
 .lf) none
 .lf) none
 .lf)) none
 (.nd (.nd (.nd (.nd (.nd (.nd (.nd (.nd (.nd .lf none
 (.nd .lf none
 (.nd (.nd (.nd .lf (some .dead)
 .lf) none
 .lf) none
 .lf))) none
 .lf) none
 .lf) none
 .lf) none
 .lf) none
 .lf) none
 .lf) none
 .lf) none
 .lf)) none
 (.nd (.nd (.nd (.nd (.nd (.nd (.nd (.nd (.nd (.nd .lf none
 (.nd .lf none
 (.nd (.nd (.nd .lf (some .dead)
 .lf) none
 .lf) none
 .lf))) none
 .lf) none
 .lf) none
 .lf) none
 .lf) none
 .lf) none
 .lf) none
 .lf) none
 (.nd (.nd (.nd (.nd (.nd (.nd (.nd (.nd .lf none
 (.nd .lf none
 (.nd (.nd (.nd .lf (some (.row (some 1) [(.bool false), (.bool false), (.bool false), (.bool false), (.bool false), (.bool false), (.bool false), (.bool false), (.bool false), (.bool false), (.bool false), (.bool false), (.bool false), (.bool false)]))
 .lf) none
 .lf) none
 .lf))) none
 .lf) none
 .lf) none
 .lf) none
 .lf) none
 .lf) none
 .lf) none
 .lf)) none
 (.nd (.nd (.nd (.nd (.nd (.nd (.nd (.nd (.nd .lf none
 (.nd .lf none
 (.nd (.nd (.nd .lf (some .dead)
 .lf) none
 .lf) none
 .lf))) none
 .lf) none
 .lf) none
 .lf) none
 .lf) none
 .lf) none
 .lf) none
 .lf) none
 .lf)))) none
 (.nd (.nd (.nd (.nd (.nd (.nd (.nd (.nd (.nd (.nd (.nd (.nd .lf none
 (.nd .lf none
 (.nd (.nd (.nd .lf (some .dead)
 .lf) none
 .lf) none
 .lf))) none
 .lf) none
 .lf) none
 .lf) none
 .lf) none
 .lf) none
 .lf) none
 .lf) none
 (.nd (.nd (.nd (.nd (.nd (.nd (.nd (.nd .lf none
 (.nd .lf none
 (.nd (.nd (.nd .lf (some .dead)
 .lf) none
 .lf) none
 .lf))) none
 .lf) none
 .lf) none
 .lf) none
 .lf) none
 .lf) none
 .lf) none
 .lf)) none
 (.nd (.nd (.nd (.nd (.nd (.nd (.nd (.nd (.nd .lf none
 (.nd .lf none
 (.nd (.nd (.nd .lf (some .dead)
 .lf) none
 .lf) none
 .lf))) none
 .lf) none
 .lf) none
 .lf) none
 .lf) none
 .lf) none
 .lf) none
 .lf) none
 .lf)) none
 (.nd (.nd (.nd (.nd (.nd (.nd (.nd (.nd (.nd (.nd .lf none
 (.nd .lf none
 (.nd (.nd (.nd .lf (some .dead)
 .lf) none
 .lf) none
 .lf))) none
 .lf) none
 .lf) none
 .lf) none
 .lf) none
 .lf) none
 .lf) none
 .lf) none
 (.nd (.nd (.nd (.nd (.nd (.nd (.nd (.nd .lf none
 (.nd .lf none
 (.nd (.nd (.nd .lf (some .dead)
 .lf) none
 .lf) none
 .lf))) none
 .lf) none
 .lf) none
 .lf) none
 .lf) none
 .lf) none
 .lf) none
 .lf)) none
 (.nd (.nd (.nd (.nd (.nd (.nd (.nd (.nd (.nd .lf none
 (.nd .lf none
 (.nd (.nd (.nd .lf (some .dead)
 .lf) none
 .lf) none
 .lf))) none
 .lf) none
 .lf) none
 .lf) none
 .lf) none
 .lf) none
 .lf) none
 .lf) none
 .lf))) none
 (.nd (.nd (.nd (.nd (.nd (.nd (.nd (.nd (.nd (.nd (.nd .lf none
 (.nd .lf none
 (.nd (.nd (.nd .lf (some .dead)
 .lf) none
 .lf) none
 .lf))) none
 .lf) none
 .lf) none
 .lf) none
 .lf) none
 .lf) none
 .lf) none
 .lf) none
 (.nd (.nd (.nd (.nd (.nd (.nd (.nd (.nd .lf none
 (.nd .lf none
 (.nd (.nd (.nd .lf (some .dead)
 .lf) none
 .lf) none
 .lf))) none
 .lf) none
 .lf) none
 .lf) none
 .lf) none
 .lf) none
 .lf) none
 .lf)) none
 (.nd (.nd (.nd (.nd (.nd (.nd (.nd (.nd (.nd .lf none
 (.nd .lf none
 (.nd (.nd (.nd .lf (some .dead)
 .lf) none
 .lf) none
 .lf))) none
 .lf) none
 .lf) none
 .lf) none
 .lf) none
 .lf) none
 .lf) none
 .lf) none
 .lf)) none
 (.nd (.nd (.nd (.nd (.nd (.nd (.nd (.nd (.nd (.nd .lf none
 (.nd .lf none
 (.nd (.nd (.nd .lf (some .dead)
 .lf) none
 .lf) none
 .lf))) none
 .lf) none
 .lf) none
 .lf) none
 .lf) none
 .lf) none
 .lf) none
 .lf) none
 .lf) none
 (.nd (.nd (.nd (.nd (.nd (.nd (.nd (.nd (.nd .lf none
 (.nd .lf none
 (.nd (.nd (.nd .lf (some .dead)
 .lf) none
 .lf) none
 .lf))) none
 .lf) none
 .lf) none
 .lf) none
 .lf) none
 .lf) none
 .lf) none
 .lf) none
 .lf)))))) none
 (.nd (.nd (.nd (.nd (.nd (.nd (.nd (.nd (.nd (.nd (.nd (.nd (.nd (.nd (.nd .lf none
 (.nd .lf none
 (.nd .lf (some (.row none [(.bool true), (.int .i64 (-1)), (.int .i64 (-1)), (.bool false), (.int .i64 0), (.int .i64 0), (.bool false), (.int .i64 0), (.int .i64 0), (.bool false), (.int .i64 0), (.int .i64 0), (.bool false), (.int .i64 0), (.int .i64 0), (.bool false), (.int .i64 0), (.int .i64 0), (.bool false), (.int .i64 0), (.int .i64 0), (.bool false), (.int .i64 0), (.int .i64 0), (.bool false), (.int .i64 0), (.int .i64 0), (.bool false), (.int .i64 0), (.int .i64 0), (.bool false), (.int .i64 0), (.int .i64 0), (.bool false), (.int .i64 0), (.int .i64 0), (.bool false), (.int .i64 0), (.int .i64 0), (.bool false), (.int .i64 0), (.int .i64 0), (.bool false), (.int .i64 0), (.int .i64 0), (.bool false), (.int .i64 0), (.int .i64 0), (.bool false), (.int .i64 0), (.int .i64 0), (.bool false), (.int .i64 0), (.int .i64 0), (.bool false), (.int .i64 0), (.int .i64 0), (.bool false), (.int .i64 0), (.int .i64 0), (.bool false), (.int .i64 0), (.int .i64 0), (.bool false), (.int .i64 0), (.int .i64 0), (.bool false), (.int .i64 0), (.int .i64 0), (.bool false), (.int .i64 0), (.int .i64 0), (.bool false), (.int .i64 0), (.int .i64 0), (.bool false), (.int .i64 0), (.int .i64 0), (.bool false), (.int .i64 0), (.int .i64 0), (.bool false), (.int .i64 0), (.int .i64 0), (.bool false), (.int .i64 0), (.int .i64 0), (.bool false), (.int .i64 0), (.int .i64 0), (.bool false), (.int .i64 0), (.int .i64 0), (.bool false), (.int .i64 0), (.int .i64 0)]))
 .lf))) none
 (.nd .lf none
 (.nd (.nd (.nd .lf (some .dead)
 .lf) none
 .lf) none
 .lf))) none
 (.nd (.nd .lf none
 (.nd .lf (some .dead)
 .lf)) (some (.row none [(.int .u8 0), (.int .u8 0), (.int .u8 0), (.int .u8 0), (.int .u8 0), (.int .u8 0), (.int .u8 0), (.int .u8 0), (.int .u8 0), (.int .u8 0), (.int .u8 0), (.int .u8 0), (.int .u8 0), (.int .u8 0), (.int .u8 0), (.int .u8 0), (.int .u8 0), (.int .u8 0), (.int .u8 0), (.int .u8 0), (.int .u8 0), (.int .u8 0), (.int .u8 0), (.int .u8 0)]))
 .lf)) none
 .lf) none
 .lf) none
 .lf) none
 .lf) none
 .lf) none
 .lf) none
 (.nd (.nd (.nd (.nd (.nd (.nd (.nd (.nd .lf none
 (.nd .lf none
 (.nd (.nd (.nd .lf (some .dead)
 .lf) none
 .lf) none
 .lf))) none
 .lf) none
 .lf) none
 .lf) none
 .lf) none
 .lf) none
 .lf) none
 .lf)) none
 (.nd (.nd (.nd (.nd (.nd (.nd (.nd (.nd (.nd .lf none
 (.nd .lf none
 (.nd (.nd (.nd .lf (some .dead)
 .lf) none
 .lf) none
 .lf))) none
 .lf) none
 .lf) none
 .lf) none
 .lf) none
 .lf) none
 .lf) none
 .lf) none
 .lf)) none
 (.nd (.nd (.nd (.nd (.nd (.nd (.nd (.nd (.nd (.nd .lf none
 (.nd .lf none
 (.nd (.nd (.nd .lf (some (.row none [(.int .u8 113), (.int .u8 0), (.int .u8 0), (.int .u8 0), (.int .u8 0), (.int .u8 0), (.int .u8 0), (.int .u8 0), (.int .u8 0), (.int .u8 0), (.int .u8 0), (.int .u8 0), (.int .u8 0), (.int .u8 0), (.int .u8 0), (.int .u8 0)]))
 .lf) none
 .lf) none
 .lf))) none
 .lf) none
 .lf) none
 .lf) none
 .lf) none
 .lf) none
 .lf) none
 .lf) none
 (.nd (.nd (.nd (.nd (.nd (.nd (.nd (.nd .lf none
 (.nd .lf none
 (.nd (.nd (.nd .lf (some .dead)
 .lf) none
 .lf) none
 .lf))) none
 .lf) none
 .lf) none
 .lf) none
 .lf) none
 .lf) none
 .lf) none
 .lf)) none
 (.nd (.nd (.nd (.nd (.nd (.nd (.nd (.nd (.nd .lf none
 (.nd .lf none
 (.nd (.nd (.nd .lf (some .dead)
 .lf) none
 .lf) none
 .lf))) none
 .lf) none
 .lf) none
 .lf) none
 .lf) none
 .lf) none
 .lf) none
 .lf) none
 .lf))) none
 (.nd (.nd (.nd (.nd (.nd (.nd (.nd (.nd (.nd (.nd (.nd .lf none
 (.nd .lf none
 (.nd (.nd (.nd .lf (some .dead)
 .lf) none
 .lf) none
 .lf))) none
 .lf) none
 .lf) none
 .lf) none
 .lf) none
 .lf) none
 .lf) none
 .lf) none
 (.nd (.nd (.nd (.nd (.nd (.nd (.nd (.nd .lf none
 (.nd .lf none
 (.nd (.nd (.nd .lf (some .dead)
 .lf) none
 .lf) none
 .lf))) none
 .lf) none
 .lf) none
 .lf) none
 .lf) none
 .lf) none
 .lf) none
 .lf)) none
 (.nd (.nd (.nd (.nd (.nd (.nd (.nd (.nd (.nd .lf none
 (.nd .lf none
 (.nd (.nd (.nd .lf (some .dead)
 .lf) none
 .lf) none
 .lf))) none
 .lf) none
 .lf) none
 .lf) none
 .lf) none
 .lf) none
 .lf) none
 .lf) none
 .lf)) none
 (.nd (.nd (.nd (.nd (.nd (.nd (.nd (.nd (.nd (.nd .lf none
 (.nd .lf none
 (.nd (.nd (.nd .lf (some .dead)
 .lf) none
 .lf) none
 .lf))) none
 .lf) none
 .lf) none
 .lf) none
 .lf) none
 .lf) none
 .lf) none
 .lf) none
 (.nd (.nd (.nd (.nd (.nd (.nd (.nd (.nd .lf none
 (.nd .lf none
 (.nd (.nd (.nd .lf (some .dead)
 .lf) none
 .lf) none
 .lf))) none
 .lf) none
 .lf) none
 .lf) none
 .lf) none
 .lf) none
 .lf) none
 .lf)) none
 (.nd (.nd (.nd (.nd (.nd (.nd (.nd (.nd (.nd .lf none
 (.nd .lf none
 (.nd (.nd (.nd .lf (some .dead)
 .lf) none
 .lf) none
 .lf))) none
 .lf) none
 .lf) none
 .lf) none
 .lf) none
 .lf) none
 .lf) none
 .lf) none
 .lf)))) none
 (.nd (.nd (.nd (.nd (.nd (.nd (.nd (.nd (.nd (.nd (.nd (.nd .lf none
 (.nd .lf none
 (.nd (.nd (.nd .lf (some .dead)
 .lf) none
 .lf) none
 .lf))) none
 .lf) none
 .lf) none
 .lf) none
 .lf) none
 .lf) none
 .lf) none
 .lf) none
 (.nd (.nd (.nd (.nd (.nd (.nd (.nd (.nd .lf none
 (.nd .lf none
 (.nd (.nd (.nd .lf (some .dead)
 .lf) none
 .lf) none
 .lf))) none
 .lf) none
 .lf) none
 .lf) none
 .lf) none
 .lf) none
 .lf) none
 .lf)) none
 (.nd (.nd (.nd (.nd (.nd (.nd (.nd (.nd (.nd .lf none
 (.nd .lf none
 (.nd (.nd (.nd .lf (some .dead)
 .lf) none
 .lf) none
 .lf))) none
 .lf) none
 .lf) none
 .lf) none
 .lf) none
 .lf) none
 .lf) none
 .lf) none
 .lf)) none
 (.nd (.nd (.nd (.nd (.nd (.nd (.nd (.nd (.nd (.nd .lf none
 (.nd .lf none
 (.nd (.nd (.nd .lf (some .dead)
 .lf) none
 .lf) none
 .lf))) none
 .lf) none
 .lf) none
 .lf) none
 .lf) none
 .lf) none
 .lf) none
 .lf) none
 (.nd (.nd (.nd (.nd (.nd (.nd (.nd (.nd .lf none
 (.nd .lf none
 (.nd (.nd (.nd .lf (some .dead)
 .lf) none
 .lf) none
 .lf))) none
 .lf) none
 .lf) none
 .lf) none
 .lf) none
 .lf) none
 .lf) none
 .lf)) none
 (.nd (.nd (.nd (.nd (.nd (.nd (.nd (.nd (.nd .lf none
 (.nd .lf none
 (.nd (.nd (.nd .lf (some .dead)
 .lf) none
 .lf) none
 .lf))) none
 .lf) none
 .lf) none
 .lf) none
 .lf) none
 .lf) none
 .lf) none
 .lf) none
 .lf))) none
 (.nd (.nd (.nd (.nd (.nd (.nd (.nd (.nd (.nd (.nd (.nd .lf none
 (.nd .lf none
 (.nd (.nd (.nd .lf (some .dead)
 .lf) none
 .lf) none
 .lf))) none
 .lf) none
 .lf) none
 .lf) none
 .lf) none
 .lf) none
 .lf) none
 .lf) none
 (.nd (.nd (.nd (.nd (.nd (.nd (.nd (.nd .lf none
 (.nd .lf none
 (.nd (.nd (.nd .lf (some .dead)
 .lf) none
 .lf) none
 .lf))) none
 .lf) none
 .lf) none
 .lf) none
 .lf) none
 .lf) none
 .lf) none
 .lf)) none
 (.nd (.nd (.nd (.nd (.nd (.nd (.nd (.nd (.nd .lf none
 (.nd .lf none
 (.nd (.nd (.nd .lf (some .dead)
 .lf) none
 .lf) none
 .lf))) none
 .lf) none
 .lf) none
 .lf) none
 .lf) none
 .lf) none
 .lf) none
 .lf) none
 .lf)) none
 (.nd (.nd (.nd (.nd (.nd (.nd (.nd (.nd (.nd (.nd .lf none
 (.nd .lf none
 (.nd (.nd (.nd .lf (some .dead)
 .lf) none
 .lf) none
 .lf))) none
 .lf) none
 .lf) none
 .lf) none
 .lf) none
 .lf) none
 .lf) none
 .lf) none
 .lf) none
 (.nd (.nd (.nd (.nd (.nd (.nd (.nd (.nd (.nd .lf none
 (.nd .lf none
 (.nd (.nd (.nd .lf (some .dead)
 .lf) none
 .lf) none
 .lf))) none
 .lf) none
 .lf) none
 .lf) none
 .lf) none
 .lf) none
 .lf) none
 .lf) none
 .lf))))) none
 (.nd (.nd (.nd (.nd (.nd (.nd (.nd (.nd (.nd (.nd (.nd (.nd (.nd .lf none
 (.nd .lf none
 (.nd (.nd (.nd .lf (some .dead)
 .lf) none
 .lf) none
 .lf))) none
 (.nd (.nd .lf none
 (.nd .lf (some .dead)
 .lf)) none
 .lf)) none
 .lf) none
 .lf) none
 .lf) none
 .lf) none
 .lf) none
 .lf) none
 (.nd (.nd (.nd (.nd (.nd (.nd (.nd (.nd .lf none
 (.nd .lf none
 (.nd (.nd (.nd .lf (some .dead)
 .lf) none
 .lf) none
 .lf))) none
 .lf) none
 .lf) none
 .lf) none
 .lf) none
 .lf) none
 .lf) none
 .lf)) none
 (.nd (.nd (.nd (.nd (.nd (.nd (.nd (.nd (.nd .lf none
 (.nd .lf none
 (.nd (.nd (.nd .lf (some .dead)
 .lf) none
 .lf) none
 .lf))) none
 .lf) none
 .lf) none
 .lf) none
 .lf) none
 .lf) none
 .lf) none
 .lf) none
 .lf)) none
 (.nd (.nd (.nd (.nd (.nd (.nd (.nd (.nd (.nd (.nd .lf none
 (.nd .lf none
 (.nd (.nd (.nd .lf (some .dead)
 .lf) none
 .lf) none
 .lf))) none
 .lf) none
 .lf) none
 .lf) none
 .lf) none
 .lf) none
 .lf) none
 .lf) none
 (.nd (.nd (.nd (.nd (.nd (.nd (.nd (.nd .lf none
 (.nd .lf none
 (.nd (.nd (.nd .lf (some .dead)
 .lf) none
 .lf) none
 .lf))) none
 .lf) none
 .lf) none
 .lf) none
 .lf) none
 .lf) none
 .lf) none
 .lf)) none
 (.nd (.nd (.nd (.nd (.nd (.nd (.nd (.nd (.nd .lf none
 (.nd .lf none
 (.nd (.nd (.nd .lf (some .dead)
 .lf) none
 .lf) none
 .lf))) none
 .lf) none
 .lf) none
 .lf) none
 .lf) none
 .lf) none
 .lf) none
 .lf) none
 .lf))) none
 (.nd (.nd (.nd (.nd (.nd (.nd (.nd (.nd (.nd (.nd (.nd .lf none
 (.nd .lf none
 (.nd (.nd (.nd .lf (some .dead)
 .lf) none
 .lf) none
 .lf))) none
 .lf) none
 .lf) none
 .lf) none
 .lf) none
 .lf) none
 .lf) none
 .lf) none
 (.nd (.nd (.nd (.nd (.nd (.nd (.nd (.nd .lf none
 (.nd .lf none
 (.nd (.nd (.nd .lf (some .dead)
 .lf) none
 .lf) none
 .lf))) none
 .lf) none
 .lf) none
 .lf) none
 .lf) none
 .lf) none
 .lf) none
 .lf)) none
 (.nd (.nd (.nd (.nd (.nd (.nd (.nd (.nd (.nd .lf none
 (.nd .lf none
 (.nd (.nd (.nd .lf (some .dead)
 .lf) none
 .lf) none
 .lf))) none
 .lf) none
 .lf) none
 .lf) none
 .lf) none
 .lf) none
 .lf) none
 .lf) none
 .lf)) none
 (.nd (.nd (.nd (.nd (.nd (.nd (.nd (.nd (.nd (.nd .lf none
 (.nd .lf none
 (.nd (.nd (.nd .lf (some .dead)
 .lf) none
 .lf) none
 .lf))) none
 .lf) none
 .lf) none
 .lf) none
 .lf) none
 .lf) none
 .lf) none
 .lf) none
 .lf) none
 (.nd (.nd (.nd (.nd (.nd (.nd (.nd (.nd (.nd .lf none
 (.nd .lf none
 (.nd (.nd (.nd .lf (some .dead)
 .lf) none
 .lf) none
 .lf))) none
 .lf) none
 .lf) none
 .lf) none
 .lf) none
 .lf) none
 .lf) none
 .lf) none
 .lf)))) none
 (.nd (.nd (.nd (.nd (.nd (.nd (.nd (.nd (.nd (.nd (.nd (.nd .lf none
 (.nd .lf none
 (.nd (.nd (.nd .lf (some .dead)
 .lf) none
 .lf) none
 .lf))) none
 .lf) none
 .lf) none
 .lf) none
 .lf) none
 .lf) none
 .lf) none
 .lf) none
 (.nd (.nd (.nd (.nd (.nd (.nd (.nd (.nd .lf none
 (.nd .lf none
 (.nd (.nd (.nd .lf (some .dead)
 .lf) none
 .lf) none
 .lf))) none
 .lf) none
 .lf) none
 .lf) none
 .lf) none
 .lf) none
 .lf) none
 .lf)) none
 (.nd (.nd (.nd (.nd (.nd (.nd (.nd (.nd (.nd .lf none
 (.nd .lf none
 (.nd (.nd (.nd .lf (some .dead)
 .lf) none
 .lf) none
 .lf))) none
 .lf) none
 .lf) none
 .lf) none
 .lf) none
 .lf) none
 .lf) none
 .lf) none
 .lf)) none
 (.nd (.nd (.nd (.nd (.nd (.nd (.nd (.nd (.nd (.nd .lf none
 (.nd .lf none
 (.nd (.nd (.nd .lf (some (.row (some 1) [(.int .u8 113)]))
 .lf) none
 .lf) none
 .lf))) none
 .lf) none
 .lf) none
 .lf) none
 .lf) none
 .lf) none
 .lf) none
 .lf) none
 (.nd (.nd (.nd (.nd (.nd (.nd (.nd (.nd .lf none
 (.nd .lf none
 (.nd (.nd (.nd .lf (some .dead)
 .lf) none
 .lf) none
 .lf))) none
 .lf) none
 .lf) none
 .lf) none
 .lf) none
 .lf) none
 .lf) none
 .lf)) none
 (.nd (.nd (.nd (.nd (.nd (.nd (.nd (.nd (.nd .lf none
 (.nd .lf none
 (.nd (.nd (.nd .lf (some .dead)
 .lf) none
 .lf) none
 .lf))) none
 .lf) none
 .lf) none
 .lf) none
 .lf) none
 .lf) none
 .lf) none
 .lf) none
 .lf))) none
 (.nd (.nd (.nd (.nd (.nd (.nd (.nd (.nd (.nd (.nd (.nd .lf none
 (.nd .lf none
 (.nd (.nd (.nd .lf (some .dead)
 .lf) none
 .lf) none
 .lf))) none
 .lf) none
 .lf) none
 .lf) none
 .lf) none
 .lf) none
 .lf) none
 .lf) none
 (.nd (.nd (.nd (.nd (.nd (.nd (.nd (.nd .lf none
 (.nd .lf none
 (.nd (.nd (.nd .lf (some .dead)
 .lf) none
 .lf) none
 .lf))) none
 .lf) none
 .lf) none
 .lf) none
 .lf) none
 .lf) none
 .lf) none
 .lf)) none
 (.nd (.nd (.nd (.nd (.nd (.nd (.nd (.nd (.nd .lf none
 (.nd .lf none
 (.nd (.nd (.nd .lf (some .dead)
 .lf) none
 .lf) none
 .lf))) none
 .lf) none
 .lf) none
 .lf) none
 .lf) none
 .lf) none
 .lf) none
 .lf) none
 .lf)) none
 (.nd (.nd (.nd (.nd (.nd (.nd (.nd (.nd (.nd (.nd .lf none
 (.nd .lf none
 (.nd (.nd (.nd .lf (some .dead)
 .lf) none
 .lf) none
 .lf))) none
 .lf) none
 .lf) none
 .lf) none
 .lf) none
 .lf) none
 .lf) none
 .lf) none
 .lf) none
 (.nd (.nd (.nd (.nd (.nd (.nd (.nd (.nd (.nd .lf none
 (.nd .lf none
 (.nd (.nd (.nd .lf (some .dead)
 .lf) none
 .lf) none
 .lf))) none
 .lf) none
 .lf) none
 .lf) none
 .lf) none
 .lf) none
 .lf) none
 .lf) none
 .lf)))))))) (some .dead)
 (.nd (.nd (.nd (.nd (.nd (.nd (.nd (.nd .lf none
 (.nd (.nd (.nd (.nd (.nd (.nd (.nd (.nd .lf none
 (.nd .lf none
 (.nd (.nd (.nd .lf (some .dead)
 .lf) none
 .lf) none
 .lf))) none
 .lf) none
 .lf) none
 .lf) none
 .lf) none
 .lf) none
 .lf) none
 .lf)) none
 (.nd (.nd (.nd (.nd (.nd (.nd (.nd (.nd (.nd .lf none
 (.nd .lf none
 (.nd (.nd (.nd .lf (some .dead)
 .lf) none
 .lf) none
 .lf))) none
 .lf) none
 .lf) none
 .lf) none
 .lf) none
 .lf) none
 .lf) none
 .lf) none
 .lf)) none
 (.nd (.nd (.nd (.nd (.nd (.nd (.nd (.nd (.nd (.nd .lf none
 (.nd .lf none
 (.nd (.nd (.nd .lf (some .dead)
 .lf) none
 .lf) none
 .lf))) none
 .lf) none
 .lf) none
 .lf) none
 .lf) none
 .lf) none
 .lf) none
 .lf) none
 (.nd (.nd (.nd (.nd (.nd (.nd (.nd (.nd .lf none
 (.nd .lf none
 (.nd (.nd (.nd .lf (some .dead)
 .lf) none
 .lf) none
 .lf))) none
 .lf) none
 .lf) none
 .lf) none
 .lf) none
 .lf) none
 .lf) none
 .lf)) none
 (.nd (.nd (.nd (.nd (.nd (.nd (.nd (.nd (.nd .lf none
 (.nd .lf none
 (.nd (.nd (.nd .lf (some .dead)
 .lf) none
 .lf) none
 .lf))) none
 .lf) none
 .lf) none
 .lf) none
 .lf) none
 .lf) none
 .lf) none
 .lf) none
 .lf))) none
 (.nd (.nd (.nd (.nd (.nd (.nd (.nd (.nd (.nd (.nd (.nd .lf none
 (.nd .lf none
 (.nd (.nd (.nd .lf (some .dead)
 .lf) none
 .lf) none
 .lf))) none
 .lf) none
 .lf) none
 .lf) none
 .lf) none
 .lf) none
 .lf) none
 .lf) none
 (.nd (.nd (.nd (.nd (.nd (.nd (.nd (.nd .lf none
 (.nd .lf none
 (.nd (.nd (.nd .lf (some .dead)
 .lf) none
 .lf) none
 .lf))) none
 .lf) none
 .lf) none
 .lf) none
 .lf) none
 .lf) none
 .lf) none
 .lf)) none
 (.nd (.nd (.nd (.nd (.nd (.nd (.nd (.nd (.nd .lf none
 (.nd .lf none
 (.nd (.nd (.nd .lf (some .dead)
 .lf) none
 .lf) none
 .lf))) none
 .lf) none
 .lf) none
 .lf) none
 .lf) none
 .lf) none
 .lf) none
 .lf) none
 .lf)) none
 (.nd (.nd (.nd (.nd (.nd (.nd (.nd (.nd (.nd (.nd .lf none
 (.nd .lf none
 (.nd (.nd (.nd .lf (some .dead)
 .lf) none
 .lf) none
 .lf))) none
 .lf) none
 .lf) none
 .lf) none
 .lf) none
 .lf) none
 .lf) none
 .lf) none
 (.nd (.nd (.nd (.nd (.nd (.nd (.nd (.nd .lf none
 (.nd .lf none
 (.nd (.nd (.nd .lf (some .dead)
 .lf) none
 .lf) none
 .lf))) none
 .lf) none
 .lf) none
 .lf) none
 .lf) none
 .lf) none
 .lf) none
 .lf)) none
 (.nd (.nd (.nd (.nd (.nd (.nd (.nd (.nd (.nd .lf none
 (.nd .lf none
 (.nd (.nd (.nd .lf (some .dead)
 .lf) none
 .lf) none
 .lf))) none
 .lf) none
 .lf) none
 .lf) none
 .lf) none
 .lf) none
 .lf) none
 .lf) none
 .lf)))) none
 (.nd (.nd (.nd (.nd (.nd (.nd (.nd (.nd (.nd (.nd (.nd (.nd .lf none
 (.nd .lf none
 (.nd (.nd (.nd .lf (some .dead)
 .lf) none
 .lf) none
 .lf))) none
 (.nd (.nd .lf none
 (.nd .lf (some .dead)
 .lf)) none
 .lf)) none
 .lf) none
 .lf) none
 .lf) none
 .lf) none
 .lf) none
 .lf) none
 (.nd (.nd (.nd (.nd (.nd (.nd (.nd (.nd .lf none
 (.nd .lf none
 (.nd (.nd (.nd .lf (some .dead)
 .lf) none
 .lf) none
 .lf))) none
 .lf) none
 .lf) none
 .lf) none
 .lf) none
 .lf) none
 .lf) none
 .lf)) none
 (.nd (.nd (.nd (.nd (.nd (.nd (.nd (.nd (.nd .lf none
 (.nd .lf none
 (.nd (.nd (.nd .lf (some .dead)
 .lf) none
 .lf) none
 .lf))) none
 .lf) none
 .lf) none
 .lf) none
 .lf) none
 .lf) none
 .lf) none
 .lf) none
 .lf)) none
 (.nd (.nd (.nd (.nd (.nd (.nd (.nd (.nd (.nd (.nd .lf none
 (.nd .lf none
 (.nd (.nd (.nd .lf (some .dead)
 .lf) none
 .lf) none
 .lf))) none
 .lf) none
 .lf) none
 .lf) none
 .lf) none
 .lf) none
 .lf) none
 .lf) none
 (.nd (.nd (.nd (.nd (.nd (.nd (.nd (.nd .lf none
 (.nd .lf none
 (.nd (.nd (.nd .lf (some .dead)
 .lf) none
 .lf) none
 .lf))) none
 .lf) none
 .lf) none
 .lf) none
 .lf) none
 .lf) none
 .lf) none
 .lf)) none
 (.nd (.nd (.nd (.nd (.nd (.nd (.nd (.nd (.nd .lf none
 (.nd .lf none
 (.nd (.nd (.nd .lf (some .dead)
 .lf) none
 .lf) none
 .lf))) none
 .lf) none
 .lf) none
 .lf) none
 .lf) none
 .lf) none
 .lf) none
 .lf) none
 .lf))) none
 (.nd (.nd (.nd (.nd (.nd (.nd (.nd (.nd (.nd (.nd (.nd .lf none
 (.nd .lf none
 (.nd (.nd (.nd .lf (some .dead)
 .lf) none
 .lf) none
 .lf))) none
 .lf) none
 .lf) none
 .lf) none
 .lf) none
 .lf) none
 .lf) none
 .lf) none
 (.nd (.nd (.nd (.nd (.nd (.nd (.nd (.nd .lf none
 (.nd .lf none
 (.nd (.nd (.nd .lf (some .dead)
 .lf) none
 .lf) none
 .lf))) none
 .lf) none
 .lf) none
 .lf) none
 .lf) none
 .lf) none
 .lf) none
 .lf)) none
 (.nd (.nd (.nd (.nd (.nd (.nd (.nd (.nd (.nd .lf none
 (.nd .lf none
 (.nd (.nd (.nd .lf (some .dead)
 .lf) none
 .lf) none
 .lf))) none
 .lf) none
 .lf) none
 .lf) none
 .lf) none
 .lf) none
 .lf) none
 .lf) none
 .lf)) none
 (.nd (.nd (.nd (.nd (.nd (.nd (.nd (.nd (.nd (.nd .lf none
 (.nd .lf none
 (.nd (.nd (.nd .lf (some .dead)
 .lf) none
 .lf) none
 .lf))) none
 .lf) none
 .lf) none
 .lf) none
 .lf) none
 .lf) none
 .lf) none
 .lf) none
 .lf) none
 (.nd (.nd (.nd (.nd (.nd (.nd (.nd (.nd (.nd .lf none
 (.nd .lf none
 (.nd (.nd (.nd .lf (some .dead)
 .lf) none
 .lf) none
 .lf))) none
 .lf) none
 .lf) none
 .lf) none
 .lf) none
 .lf) none
 .lf) none
 .lf) none
 .lf))))) none
 (.nd (.nd (.nd (.nd (.nd (.nd (.nd (.nd (.nd (.nd (.nd (.nd (.nd .lf none
 (.nd .lf none
 (.nd (.nd (.nd .lf (some (.row (some 1) [(.int .i64 0), (.int .i64 1)]))
 .lf) none
 .lf) none
 .lf))) none
 (.nd (.nd .lf none
 (.nd .lf (some .dead)
 .lf)) none
 .lf)) none
 .lf) none
 .lf) none
 .lf) none
 .lf) none
 .lf) none
 .lf) none
 (.nd (.nd (.nd (.nd (.nd (.nd (.nd (.nd .lf none
 (.nd .lf none
 (.nd (.nd (.nd .lf (some .dead)
 .lf) none
 .lf) none
 .lf))) none
 .lf) none
 .lf) none
 .lf) none
 .lf) none
 .lf) none
 .lf) none
 .lf)) none
 (.nd (.nd (.nd (.nd (.nd (.nd (.nd (.nd (.nd .lf none
 (.nd .lf none
 (.nd (.nd (.nd .lf (some .dead)
 .lf) none
 .lf) none
 .lf))) none
 .lf) none
 .lf) none
 .lf) none
 .lf) none
 .lf) none
 .lf) none
 .lf) none
 .lf)) none
 (.nd (.nd (.nd (.nd (.nd (.nd (.nd (.nd (.nd (.nd .lf none
 (.nd .lf none
 (.nd (.nd (.nd .lf (some .dead)
 .lf) none
 .lf) none
 .lf))) none
 .lf) none
 .lf) none
 .lf) none
 .lf) none
 .lf) none
 .lf) none
 .lf) none
 (.nd (.nd (.nd (.nd (.nd (.nd (.nd (.nd .lf none
 (.nd .lf none
 (.nd (.nd (.nd .lf (some .dead)
 .lf) none
 .lf) none
 .lf))) none
 .lf) none
 .lf) none
 .lf) none
 .lf) none
 .lf) none
 .lf) none
 .lf)) none
 (.nd (.nd (.nd (.nd (.nd (.nd (.nd (.nd (.nd .lf none
 (.nd .lf none
 (.nd (.nd (.nd .lf (some .dead)
 .lf) none
 .lf) none
 .lf))) none
 .lf) none
 .lf) none
 .lf) none
 .lf) none
 .lf) none
 .lf) none
 .lf) none
 .lf))) none
 (.nd (.nd (.nd (.nd (.nd (.nd (.nd (.nd (.nd (.nd (.nd .lf none
 (.nd .lf none
 (.nd (.nd (.nd .lf (some .dead)
 .lf) none
 .lf) none
 .lf))) none
 .lf) none
 .lf) none
 .lf) none
 .lf) none
 .lf) none
 .lf) none
 .lf) none
 (.nd (.nd (.nd (.nd (.nd (.nd (.nd (.nd .lf none
 (.nd .lf none
 (.nd (.nd (.nd .lf (some .dead)
 .lf) none
 .lf) none
 .lf))) none
 .lf) none
 .lf) none
 .lf) none
 .lf) none
 .lf) none
 .lf) none
 .lf)) none
 (.nd (.nd (.nd (.nd (.nd (.nd (.nd (.nd (.nd .lf none
 (.nd .lf none
 (.nd (.nd (.nd .lf (some .dead)
 .lf) none
 .lf) none
 .lf))) none
 .lf) none
 .lf) none
 .lf) none
 .lf) none
 .lf) none
 .lf) none
 .lf) none
 .lf)) none
 (.nd (.nd (.nd (.nd (.nd (.nd (.nd (.nd (.nd (.nd .lf none
 (.nd .lf none
 (.nd (.nd (.nd .lf (some .dead)
 .lf) none
 .lf) none
 .lf))) none
 .lf) none
 .lf) none
 .lf) none
 .lf) none
 .lf) none
 .lf) none
 .lf) none
 (.nd (.nd (.nd (.nd (.nd (.nd (.nd (.nd .lf none
 (.nd .lf none
 (.nd (.nd (.nd .lf (some .dead)
 .lf) none
 .lf) none
 .lf))) none
 .lf) none
 .lf) none
 .lf) none
 .lf) none
 .lf) none
 .lf) none
 .lf)) none
 (.nd (.nd (.nd (.nd (.nd (.nd (.nd (.nd (.nd .lf none
 (.nd .lf none
 (.nd (.nd (.nd .lf (some (.row (some 14) [(.int .i64 0), (.int .i64 1), (.int .i64 0), (.int .i64 0), (.int .i64 0), (.int .i64 0), (.slice none 0 0), (.int .i64 0), (.int .i64 0), (.int .i64 0), (.slice none 0 0), (.int .i64 1), (.int .i64 3), (.int .i64 3), (.int .i64 0), (.int .i64 4), (.int .i64 0), (.int .i64 0), (.int .i64 0), (.int .i64 0), (.slice (some ⟨2490555, 0, none⟩) 1 1), (.int .i64 0), (.int .i64 0), (.int .i64 0), (.slice none 0 0), (.int .i64 4), (.int .i64 7), (.int .i64 7), (.int .i64 0), (.int .i64 3), (.int .i64 0), (.int .i64 0), (.int .i64 0), (.int .i64 1), (.slice none 0 0), (.int .i64 0), (.int .i64 0), (.int .i64 0), (.slice (some ⟨2490999, 0, none⟩) 1 1), (.int .i64 9), (.int .i64 12), (.int .i64 12)]))
 .lf) none
 .lf) none
 .lf))) none
 .lf) none
 .lf) none
 .lf) none
 .lf) none
 .lf) none
 .lf) none
 .lf) none
 .lf)))) none
 (.nd (.nd (.nd (.nd (.nd (.nd (.nd (.nd (.nd (.nd (.nd (.nd .lf none
 (.nd .lf none
 (.nd (.nd (.nd .lf (some .dead)
 .lf) none
 .lf) none
 .lf))) none
 .lf) none
 .lf) none
 .lf) none
 .lf) none
 .lf) none
 .lf) none
 .lf) none
 (.nd (.nd (.nd (.nd (.nd (.nd (.nd (.nd .lf none
 (.nd .lf none
 (.nd (.nd (.nd .lf (some .dead)
 .lf) none
 .lf) none
 .lf))) none
 .lf) none
 .lf) none
 .lf) none
 .lf) none
 .lf) none
 .lf) none
 .lf)) none
 (.nd (.nd (.nd (.nd (.nd (.nd (.nd (.nd (.nd .lf none
 (.nd .lf none
 (.nd (.nd (.nd .lf (some .dead)
 .lf) none
 .lf) none
 .lf))) none
 .lf) none
 .lf) none
 .lf) none
 .lf) none
 .lf) none
 .lf) none
 .lf) none
 .lf)) none
 (.nd (.nd (.nd (.nd (.nd (.nd (.nd (.nd (.nd (.nd .lf none
 (.nd .lf none
 (.nd (.nd (.nd .lf (some .dead)
 .lf) none
 .lf) none
 .lf))) none
 .lf) none
 .lf) none
 .lf) none
 .lf) none
 .lf) none
 .lf) none
 .lf) none
 (.nd (.nd (.nd (.nd (.nd (.nd (.nd (.nd .lf none
 (.nd .lf none
 (.nd (.nd (.nd .lf (some .dead)
 .lf) none
 .lf) none
 .lf))) none
 .lf) none
 .lf) none
 .lf) none
 .lf) none
 .lf) none
 .lf) none
 .lf)) none
 (.nd (.nd (.nd (.nd (.nd (.nd (.nd (.nd (.nd .lf none
 (.nd .lf none
 (.nd (.nd (.nd .lf (some .dead)
 .lf) none
 .lf) none
 .lf))) none
 .lf) none
 .lf) none
 .lf) none
 .lf) none
 .lf) none
 .lf) none
 .lf) none
 .lf))) none
 (.nd (.nd (.nd (.nd (.nd (.nd (.nd (.nd (.nd (.nd (.nd .lf none
 (.nd .lf none
 (.nd (.nd (.nd .lf (some .dead)
 .lf) none
 .lf) none
 .lf))) none
 .lf) none
 .lf) none
 .lf) none
 .lf) none
 .lf) none
 .lf) none
 .lf) none
 (.nd (.nd (.nd (.nd (.nd (.nd (.nd (.nd .lf none
 (.nd .lf none
 (.nd (.nd (.nd .lf (some .dead)
 .lf) none
 .lf) none
 .lf))) none
 .lf) none
 .lf) none
 .lf) none
 .lf) none
 .lf) none
 .lf) none
 .lf)) none
 (.nd (.nd (.nd (.nd (.nd (.nd (.nd (.nd (.nd .lf none
 (.nd .lf none
 (.nd (.nd (.nd .lf (some .dead)
 .lf) none
 .lf) none
 .lf))) none
 .lf) none
 .lf) none
 .lf) none
 .lf) none
 .lf) none
 .lf) none
 .lf) none
 .lf)) none
 (.nd (.nd (.nd (.nd (.nd (.nd (.nd (.nd (.nd (.nd .lf none
 (.nd .lf none
 (.nd (.nd (.nd .lf (some .dead)
 .lf) none
 .lf) none
 .lf))) none
 .lf) none
 .lf) none
 .lf) none
 .lf) none
 .lf) none
 .lf) none
 .lf) none
 .lf) none
 (.nd (.nd (.nd (.nd (.nd (.nd (.nd (.nd (.nd .lf none
 (.nd .lf none
 (.nd (.nd (.nd .lf (some .dead)
 .lf) none
 .lf) none
 .lf))) none
 .lf) none
 .lf) none
 .lf) none
 .lf) none
 .lf) none
 .lf) none
 .lf) none
 .lf)))))) none
 (.nd (.nd (.nd (.nd (.nd (.nd (.nd (.nd (.nd (.nd (.nd (.nd (.nd (.nd (.nd .lf none
 (.nd .lf none
 (.nd .lf (some (.row none [(.slice (some ⟨1835016, 0, none⟩) 96 96), (.int .i64 1)]))
 .lf))) none
 (.nd .lf none
 (.nd (.nd (.nd .lf (some .dead)
 .lf) none
 .lf) none
 .lf))) none
 (.nd (.nd .lf none
 (.nd .lf (some .dead)
 .lf)) (some .dead)
 .lf)) none
 .lf) none
 .lf) none
 .lf) none
 .lf) none
 .lf) none
 .lf) none
 (.nd (.nd (.nd (.nd (.nd (.nd (.nd (.nd .lf none
 (.nd .lf none
 (.nd (.nd (.nd .lf (some .dead)
 .lf) none
 .lf) none
 .lf))) none
 .lf) none
 .lf) none
 .lf) none
 .lf) none
 .lf) none
 .lf) none
 .lf)) none
 (.nd (.nd (.nd (.nd (.nd (.nd (.nd (.nd (.nd .lf none
 (.nd .lf none
 (.nd (.nd (.nd .lf (some .dead)
 .lf) none
 .lf) none
 .lf))) none
 .lf) none
 .lf) none
 .lf) none
 .lf) none
 .lf) none
 .lf) none
 .lf) none
 .lf)) none
 (.nd (.nd (.nd (.nd (.nd (.nd (.nd (.nd (.nd (.nd .lf none
 (.nd .lf none
 (.nd (.nd (.nd .lf (some .dead)
 .lf) none
 .lf) none
 .lf))) none
 .lf) none
 .lf) none
 .lf) none
 .lf) none
 .lf) none
 .lf) none
 .lf) none
 (.nd (.nd (.nd (.nd (.nd (.nd (.nd (.nd .lf none
 (.nd .lf none
 (.nd (.nd (.nd .lf (some .dead)
 .lf) none
 .lf) none
 .lf))) none
 .lf) none
 .lf) none
 .lf) none
 .lf) none
 .lf) none
 .lf) none
 .lf)) none
 (.nd (.nd (.nd (.nd (.nd (.nd (.nd (.nd (.nd .lf none
 (.nd .lf none
 (.nd (.nd (.nd .lf (some .dead)
 .lf) none
 .lf) none
 .lf))) none
 .lf) none
 .lf) none
 .lf) none
 .lf) none
 .lf) none
 .lf) none
 .lf) none
 .lf))) none
 (.nd (.nd (.nd (.nd (.nd (.nd (.nd (.nd (.nd (.nd (.nd .lf none
 (.nd .lf none
 (.nd (.nd (.nd .lf (some .dead)
 .lf) none
 .lf) none
 .lf))) none
 .lf) none
 .lf) none
 .lf) none
 .lf) none
 .lf) none
 .lf) none
 .lf) none
 (.nd (.nd (.nd (.nd (.nd (.nd (.nd (.nd .lf none
 (.nd .lf none
 (.nd (.nd (.nd .lf (some .dead)
 .lf) none
 .lf) none
 .lf))) none
 .lf) none
 .lf) none
 .lf) none
 .lf) none
 .lf) none
 .lf) none
 .lf)) none
 (.nd (.nd (.nd (.nd (.nd (.nd (.nd (.nd (.nd .lf none
 (.nd .lf none
 (.nd (.nd (.nd .lf (some .dead)
 .lf) none
 .lf) none
 .lf))) none
 .lf) none
 .lf) none
 .lf) none
 .lf) none
 .lf) none
 .lf) none
 .lf) none
 .lf)) none
 (.nd (.nd (.nd (.nd (.nd (.nd (.nd (.nd (.nd (.nd .lf none
 (.nd .lf none
 (.nd (.nd (.nd .lf (some .dead)
 .lf) none
 .lf) none
 .lf))) none
 .lf) none
 .lf) none
 .lf) none
 .lf) none
 .lf) none
 .lf) none
 .lf) none
 (.nd (.nd (.nd (.nd (.nd (.nd (.nd (.nd .lf none
 (.nd .lf none
 (.nd (.nd (.nd .lf (some .dead)
 .lf) none
 .lf) none
 .lf))) none
 .lf) none
 .lf) none
 .lf) none
 .lf) none
 .lf) none
 .lf) none
 .lf)) none
 (.nd (.nd (.nd (.nd (.nd (.nd (.nd (.nd (.nd .lf none
 (.nd .lf none
 (.nd (.nd (.nd .lf (some .dead)
 .lf) none
 .lf) none
 .lf))) none
 .lf) none
 .lf) none
 .lf) none
 .lf) none
 .lf) none
 .lf) none
 .lf) none
 .lf)))) none
 (.nd (.nd (.nd (.nd (.nd (.nd (.nd (.nd (.nd (.nd (.nd (.nd .lf none
 (.nd .lf none
 (.nd (.nd (.nd .lf (some .dead)
 .lf) none
 .lf) none
 .lf))) none
 .lf) none
 .lf) none
 .lf) none
 .lf) none
 .lf) none
 .lf) none
 .lf) none
 (.nd (.nd (.nd (.nd (.nd (.nd (.nd (.nd .lf none
 (.nd .lf none
 (.nd (.nd (.nd .lf (some .dead)
 .lf) none
 .lf) none
 .lf))) none
 .lf) none
 .lf) none
 .lf) none
 .lf) none
 .lf) none
 .lf) none
 .lf)) none
 (.nd (.nd (.nd (.nd (.nd (.nd (.nd (.nd (.nd .lf none
 (.nd .lf none
 (.nd (.nd (.nd .lf (some .dead)
 .lf) none
 .lf) none
 .lf))) none
 .lf) none
 .lf) none
 .lf) none
 .lf) none
 .lf) none
 .lf) none
 .lf) none
 .lf)) none
 (.nd (.nd (.nd (.nd (.nd (.nd (.nd (.nd (.nd (.nd .lf none
 (.nd .lf none
 (.nd (.nd (.nd .lf (some .dead)
 .lf) none
 .lf) none
 .lf))) none
 .lf) none
 .lf) none
 .lf) none
 .lf) none
 .lf) none
 .lf) none
 .lf) none
 (.nd (.nd (.nd (.nd (.nd (.nd (.nd (.nd .lf none
 (.nd .lf none
 (.nd (.nd (.nd .lf (some .dead)
 .lf) none
 .lf) none
 .lf))) none
 .lf) none
 .lf) none
 .lf) none
 .lf) none
 .lf) none
 .lf) none
 .lf)) none
 (.nd (.nd (.nd (.nd (.nd (.nd (.nd (.nd (.nd .lf none
 (.nd .lf none
 (.nd (.nd (.nd .lf (some .dead)
 .lf) none
 .lf) none
 .lf))) none
 .lf) none
 .lf) none
 .lf) none
 .lf) none
 .lf) none
 .lf) none
 .lf) none
 .lf))) none
 (.nd (.nd (.nd (.nd (.nd (.nd (.nd (.nd (.nd (.nd (.nd .lf none
 (.nd .lf none
 (.nd (.nd (.nd .lf (some .dead)
 .lf) none
 .lf) none
 .lf))) none
 .lf) none
 .lf) none
 .lf) none
 .lf) none
 .lf) none
 .lf) none
 .lf) none
 (.nd (.nd (.nd (.nd (.nd (.nd (.nd (.nd .lf none
 (.nd .lf none
 (.nd (.nd (.nd .lf (some .dead)
 .lf) none
 .lf) none
 .lf))) none
 .lf) none
 .lf) none
 .lf) none
 .lf) none
 .lf) none
 .lf) none
 .lf)) none
 (.nd (.nd (.nd (.nd (.nd (.nd (.nd (.nd (.nd .lf none
 (.nd .lf none
 (.nd (.nd (.nd .lf (some .dead)
 .lf) none
 .lf) none
 .lf))) none
 .lf) none
 .lf) none
 .lf) none
 .lf) none
 .lf) none
 .lf) none
 .lf) none
 .lf)) none
 (.nd (.nd (.nd (.nd (.nd (.nd (.nd (.nd (.nd (.nd .lf none
 (.nd .lf none
 (.nd (.nd (.nd .lf (some .dead)
 .lf) none
 .lf) none
 .lf))) none
 .lf) none
 .lf) none
 .lf) none
 .lf) none
 .lf) none
 .lf) none
 .lf) none
 .lf) none
 (.nd (.nd (.nd (.nd (.nd (.nd (.nd (.nd (.nd .lf none
 (.nd .lf none
 (.nd (.nd (.nd .lf (some .dead)
 .lf) none
 .lf) none
 .lf))) none
 .lf) none
 .lf) none
 .lf) none
 .lf) none
 .lf) none
 .lf) none
 .lf) none
 .lf))))) none
 (.nd (.nd (.nd (.nd (.nd (.nd (.nd (.nd (.nd (.nd (.nd (.nd (.nd .lf none
 (.nd .lf none
 (.nd (.nd (.nd .lf (some .dead)
 .lf) none
 .lf) none
 .lf))) none
 (.nd (.nd .lf none
 (.nd .lf (some .dead)
 .lf)) none
 .lf)) none
 .lf) none
 .lf) none
 .lf) none
 .lf) none
 .lf) none
 .lf) none
 (.nd (.nd (.nd (.nd (.nd (.nd (.nd (.nd .lf none
 (.nd .lf none
 (.nd (.nd (.nd .lf (some .dead)
 .lf) none
 .lf) none
 .lf))) none
 .lf) none
 .lf) none
 .lf) none
 .lf) none
 .lf) none
 .lf) none
 .lf)) none
 (.nd (.nd (.nd (.nd (.nd (.nd (.nd (.nd (.nd .lf none
 (.nd .lf none
 (.nd (.nd (.nd .lf (some .dead)
 .lf) none
 .lf) none
 .lf))) none
 .lf) none
 .lf) none
 .lf) none
 .lf) none
 .lf) none
 .lf) none
 .lf) none
 .lf)) none
 (.nd (.nd (.nd (.nd (.nd (.nd (.nd (.nd (.nd (.nd .lf none
 (.nd .lf none
 (.nd (.nd (.nd .lf (some .dead)
 .lf) none
 .lf) none
 .lf))) none
 .lf) none
 .lf) none
 .lf) none
 .lf) none
 .lf) none
 .lf) none
 .lf) none
 (.nd (.nd (.nd (.nd (.nd (.nd (.nd (.nd .lf none
 (.nd .lf none
 (.nd (.nd (.nd .lf (some .dead)
 .lf) none
 .lf) none
 .lf))) none
 .lf) none
 .lf) none
 .lf) none
 .lf) none
 .lf) none
 .lf) none
 .lf)) none
 (.nd (.nd (.nd (.nd (.nd (.nd (.nd (.nd (.nd .lf none
 (.nd .lf none
 (.nd (.nd (.nd .lf (some .dead)
 .lf) none
 .lf) none
 .lf))) none
 .lf) none
 .lf) none
 .lf) none
 .lf) none
 .lf) none
 .lf) none
 .lf) none
 .lf))) none
 (.nd (.nd (.nd (.nd (.nd (.nd (.nd (.nd (.nd (.nd (.nd .lf none
 (.nd .lf none
 (.nd (.nd (.nd .lf (some .dead)
 .lf) none
 .lf) none
 .lf))) none
 .lf) none
 .lf) none
 .lf) none
 .lf) none
 .lf) none
 .lf) none
 .lf) none
 (.nd (.nd (.nd (.nd (.nd (.nd (.nd (.nd .lf none
 (.nd .lf none
 (.nd (.nd (.nd .lf (some .dead)
 .lf) none
 .lf) none
 .lf))) none
 .lf) none
 .lf) none
 .lf) none
 .lf) none
 .lf) none
 .lf) none
 .lf)) none
 (.nd (.nd (.nd (.nd (.nd (.nd (.nd (.nd (.nd .lf none
 (.nd .lf none
 (.nd (.nd (.nd .lf (some .dead)
 .lf) none
 .lf) none
 .lf))) none
 .lf) none
 .lf) none
 .lf) none
 .lf) none
 .lf) none
 .lf) none
 .lf) none
 .lf)) none
 (.nd (.nd (.nd (.nd (.nd (.nd (.nd (.nd (.nd (.nd .lf none
 (.nd .lf none
 (.nd (.nd (.nd .lf (some .dead)
 .lf) none
 .lf) none
 .lf))) none
 .lf) none
 .lf) none
 .lf) none
 .lf) none
 .lf) none
 .lf) none
 .lf) none
 .lf) none
 (.nd (.nd (.nd (.nd (.nd (.nd (.nd (.nd (.nd .lf none
 (.nd .lf none
 (.nd (.nd (.nd .lf (some .dead)
 .lf) none
 .lf) none
 .lf))) none
 .lf) none
 .lf) none
 .lf) none
 .lf) none
 .lf) none
 .lf) none
 .lf) none
 .lf)))) none
 (.nd (.nd (.nd (.nd (.nd (.nd (.nd (.nd (.nd (.nd (.nd (.nd .lf none
 (.nd .lf none
 (.nd (.nd (.nd .lf (some .dead)
 .lf) none
 .lf) none
 .lf))) none
 .lf) none
 .lf) none
 .lf) none
 .lf) none
 .lf) none
 .lf) none
 .lf) none
 (.nd (.nd (.nd (.nd (.nd (.nd (.nd (.nd .lf none
 (.nd .lf none
 (.nd (.nd (.nd .lf (some .dead)
 .lf) none
 .lf) none
 .lf))) none
 .lf) none
 .lf) none
 .lf) none
 .lf) none
 .lf) none
 .lf) none
 .lf)) none
 (.nd (.nd (.nd (.nd (.nd (.nd (.nd (.nd (.nd .lf none
 (.nd .lf none
 (.nd (.nd (.nd .lf (some .dead)
 .lf) none
 .lf) none
 .lf))) none
 .lf) none
 .lf) none
 .lf) none
 .lf) none
 .lf) none
 .lf) none
 .lf) none
 .lf)) none
 (.nd (.nd (.nd (.nd (.nd (.nd (.nd (.nd (.nd (.nd .lf none
 (.nd .lf none
 (.nd (.nd (.nd .lf (some .dead)
 .lf) none
 .lf) none
 .lf))) none
 .lf) none
 .lf) none
 .lf) none
 .lf) none
 .lf) none
 .lf) none
 .lf) none
 (.nd (.nd (.nd (.nd (.nd (.nd (.nd (.nd .lf none
 (.nd .lf none
 (.nd (.nd (.nd .lf (some .dead)
 .lf) none
 .lf) none
 .lf))) none
 .lf) none
 .lf) none
 .lf) none
 .lf) none
 .lf) none
 .lf) none
 .lf)) none
 (.nd (.nd (.nd (.nd (.nd (.nd (.nd (.nd (.nd .lf none
 (.nd .lf none
 (.nd (.nd (.nd .lf (some .dead)
 .lf) none
 .lf) none
 .lf))) none
 .lf) none
 .lf) none
 .lf) none
 .lf) none
 .lf) none
 .lf) none
 .lf) none
 .lf))) none
 (.nd (.nd (.nd (.nd (.nd (.nd (.nd (.nd (.nd (.nd (.nd .lf none
 (.nd .lf none
 (.nd (.nd (.nd .lf (some .dead)
 .lf) none
 .lf) none
 .lf))) none
 .lf) none
 .lf) none
 .lf) none
 .lf) none
 .lf) none
 .lf) none
 .lf) none
 (.nd (.nd (.nd (.nd (.nd (.nd (.nd (.nd .lf none
 (.nd .lf none
 (.nd (.nd (.nd .lf (some .dead)
 .lf) none
 .lf) none
 .lf))) none
 .lf) none
 .lf) none
 .lf) none
 .lf) none
 .lf) none
 .lf) none
 .lf)) none
 (.nd (.nd (.nd (.nd (.nd (.nd (.nd (.nd (.nd .lf none
 (.nd .lf none
 (.nd (.nd (.nd .lf (some .dead)
 .lf) none
 .lf) none
 .lf))) none
 .lf) none
 .lf) none
 .lf) none
 .lf) none
 .lf) none
 .lf) none
 .lf) none
 .lf)) none
 (.nd (.nd (.nd (.nd (.nd (.nd (.nd (.nd (.nd (.nd .lf none
 (.nd .lf none
 (.nd (.nd (.nd .lf (some .dead)
 .lf) none
 .lf) none
 .lf))) none
 .lf) none
 .lf) none
 .lf) none
 .lf) none
 .lf) none
 .lf) none
 .lf) none
 .lf) none
 (.nd (.nd (.nd (.nd (.nd (.nd (.nd (.nd (.nd .lf none
 (.nd .lf none
 (.nd (.nd (.nd .lf (some .dead)
 .lf) none
 .lf) none
 .lf))) none
 .lf) none
 .lf) none
 .lf) none
 .lf) none
 .lf) none
 .lf) none
 .lf) none
 .lf))))))) none
 (.nd (.nd (.nd (.nd (.nd (.nd (.nd (.nd (.nd (.nd (.nd (.nd (.nd (.nd (.nd .lf none
 (.nd (.nd .lf (some (.row none [(.int .i64 0), (.int .i64 (-1)), (.int .i64 (-1)), (.int .i64 (-1)), (.int .i64 (-1)), (.int .i64 (-1))]))
 .lf) none
 .lf)) none
 (.nd (.nd .lf none
 (.nd .lf (some .dead)
 .lf)) (some (.row none [(.int .u8 0), (.int .u8 0), (.int .u8 0), (.int .u8 0), (.int .u8 0), (.int .u8 0), (.int .u8 0), (.int .u8 0), (.int .u8 0), (.int .u8 0), (.int .u8 0), (.int .u8 0), (.int .u8 0), (.int .u8 0), (.int .u8 0), (.int .u8 0), (.int .u8 0), (.int .u8 0), (.int .u8 0), (.int .u8 0), (.int .u8 0), (.int .u8 0), (.int .u8 0), (.int .u8 0)]))
 (.nd .lf (some (.row none [(.slice (some ⟨458756, 0, none⟩) 4 4)]))
 (.nd (.nd .lf (some .dead)
 .lf) none
 .lf)))) none
 .lf) none
 .lf) none
 .lf) none
 .lf) none
 .lf) none
 .lf) none
 (.nd (.nd (.nd (.nd (.nd (.nd (.nd (.nd .lf none
 (.nd .lf none
 (.nd (.nd (.nd .lf (some .dead)
 .lf) none
 .lf) none
 .lf))) none
 .lf) none
 .lf) none
 .lf) none
 .lf) none
 .lf) none
 .lf) none
 .lf)) none
 (.nd (.nd (.nd (.nd (.nd (.nd (.nd (.nd (.nd .lf none
 (.nd .lf none
 (.nd (.nd (.nd .lf (some .dead)
 .lf) none
 .lf) none
 .lf))) none
 .lf) none
 .lf) none
 .lf) none
 .lf) none
 .lf) none
 .lf) none
 .lf) none
 .lf)) none
 (.nd (.nd (.nd (.nd (.nd (.nd (.nd (.nd (.nd (.nd .lf none
 (.nd .lf none
 (.nd (.nd (.nd .lf (some .dead)
 .lf) none
 .lf) none
 .lf))) none
 .lf) none
 .lf) none
 .lf) none
 .lf) none
 .lf) none
 .lf) none
 .lf) none
 (.nd (.nd (.nd (.nd (.nd (.nd (.nd (.nd .lf none
 (.nd .lf none
 (.nd (.nd (.nd .lf (some .dead)
 .lf) none
 .lf) none
 .lf))) none
 .lf) none
 .lf) none
 .lf) none
 .lf) none
 .lf) none
 .lf) none
 .lf)) none
 (.nd (.nd (.nd (.nd (.nd (.nd (.nd (.nd (.nd .lf none
 (.nd .lf none
 (.nd (.nd (.nd .lf (some .dead)
 .lf) none
 .lf) none
 .lf))) none
 .lf) none
 .lf) none
 .lf) none
 .lf) none
 .lf) none
 .lf) none
 .lf) none
 .lf))) none
 (.nd (.nd (.nd (.nd (.nd (.nd (.nd (.nd (.nd (.nd (.nd .lf none
 (.nd .lf none
 (.nd (.nd (.nd .lf (some .dead)
 .lf) none
 .lf) none
 .lf))) none
 .lf) none
 .lf) none
 .lf) none
 .lf) none
 .lf) none
 .lf) none
 .lf) none
 (.nd (.nd (.nd (.nd (.nd (.nd (.nd (.nd .lf none
 (.nd .lf none
 (.nd (.nd (.nd .lf (some .dead)
 .lf) none
 .lf) none
 .lf))) none
 .lf) none
 .lf) none
 .lf) none
 .lf) none
 .lf) none
 .lf) none
 .lf)) none
 (.nd (.nd (.nd (.nd (.nd (.nd (.nd (.nd (.nd .lf none
 (.nd .lf none
 (.nd (.nd (.nd .lf (some .dead)
 .lf) none
 .lf) none
 .lf))) none
 .lf) none
 .lf) none
 .lf) none
 .lf) none
 .lf) none
 .lf) none
 .lf) none
 .lf)) none
 (.nd (.nd (.nd (.nd (.nd (.nd (.nd (.nd (.nd (.nd .lf none
 (.nd .lf none
 (.nd (.nd (.nd .lf (some .dead)
 .lf) none
 .lf) none
 .lf))) none
 .lf) none
 .lf) none
 .lf) none
 .lf) none
 .lf) none
 .lf) none
 .lf) none
 (.nd (.nd (.nd (.nd (.nd (.nd (.nd (.nd .lf none
 (.nd .lf none
 (.nd (.nd (.nd .lf (some .dead)
 .lf) none
 .lf) none
 .lf))) none
 .lf) none
 .lf) none
 .lf) none
 .lf) none
 .lf) none
 .lf) none
 .lf)) none
 (.nd (.nd (.nd (.nd (.nd (.nd (.nd (.nd (.nd .lf none
 (.nd .lf none
 (.nd (.nd (.nd .lf (some .dead)
 .lf) none
 .lf) none
 .lf))) none
 .lf) none
 .lf) none
 .lf) none
 .lf) none
 .lf) none
 .lf) none
 .lf) none
 .lf)))) none
 (.nd (.nd (.nd (.nd (.nd (.nd (.nd (.nd (.nd (.nd (.nd (.nd .lf none
 (.nd .lf none
 (.nd (.nd (.nd .lf (some .dead)
 .lf) none
 .lf) none
 .lf))) none
 .lf) none
 .lf) none
 .lf) none
 .lf) none
 .lf) none
 .lf) none
 .lf) none
 (.nd (.nd (.nd (.nd (.nd (.nd (.nd (.nd .lf none
 (.nd .lf none
 (.nd (.nd (.nd .lf (some .dead)
 .lf) none
 .lf) none
 .lf))) none
 .lf) none
 .lf) none
 .lf) none
 .lf) none
 .lf) none
 .lf) none
 .lf)) none
 (.nd (.nd (.nd (.nd (.nd (.nd (.nd (.nd (.nd .lf none
 (.nd .lf none
 (.nd (.nd (.nd .lf (some .dead)
 .lf) none
 .lf) none
 .lf))) none
 .lf) none
 .lf) none
 .lf) none
 .lf) none
 .lf) none
 .lf) none
 .lf) none
 .lf)) none
 (.nd (.nd (.nd (.nd (.nd (.nd (.nd (.nd (.nd (.nd .lf none
 (.nd .lf none
 (.nd (.nd (.nd .lf (some .dead)
 .lf) none
 .lf) none
 .lf))) none
 .lf) none
 .lf) none
 .lf) none
 .lf) none
 .lf) none
 .lf) none
 .lf) none
 (.nd (.nd (.nd (.nd (.nd (.nd (.nd (.nd .lf none
 (.nd .lf none
 (.nd (.nd (.nd .lf (some .dead)
 .lf) none
 .lf) none
 .lf))) none
 .lf) none
 .lf) none
 .lf) none
 .lf) none
 .lf) none
 .lf) none
 .lf)) none
 (.nd (.nd (.nd (.nd (.nd (.nd (.nd (.nd (.nd .lf none
 (.nd .lf none
 (.nd (.nd (.nd .lf (some .dead)
 .lf) none
 .lf) none
 .lf))) none
 .lf) none
 .lf) none
 .lf) none
 .lf) none
 .lf) none
 .lf) none
 .lf) none
 .lf))) none
 (.nd (.nd (.nd (.nd (.nd (.nd (.nd (.nd (.nd (.nd (.nd .lf none
 (.nd .lf none
 (.nd (.nd (.nd .lf (some .dead)
 .lf) none
 .lf) none
 .lf))) none
 .lf) none
 .lf) none
 .lf) none
 .lf) none
 .lf) none
 .lf) none
 .lf) none
 (.nd (.nd (.nd (.nd (.nd (.nd (.nd (.nd .lf none
 (.nd .lf none
 (.nd (.nd (.nd .lf (some .dead)
 .lf) none
 .lf) none
 .lf))) none
 .lf) none
 .lf) none
 .lf) none
 .lf) none
 .lf) none
 .lf) none
 .lf)) none
 (.nd (.nd (.nd (.nd (.nd (.nd (.nd (.nd (.nd .lf none
 (.nd .lf none
 (.nd (.nd (.nd .lf (some .dead)
 .lf) none
 .lf) none
 .lf))) none
 .lf) none
 .lf) none
 .lf) none
 .lf) none
 .lf) none
 .lf) none
 .lf) none
 .lf)) none
 (.nd (.nd (.nd (.nd (.nd (.nd (.nd (.nd (.nd (.nd .lf none
 (.nd .lf none
 (.nd (.nd (.nd .lf (some .dead)
 .lf) none
 .lf) none
 .lf))) none
 .lf) none
 .lf) none
 .lf) none
 .lf) none
 .lf) none
 .lf) none
 .lf) none
 .lf) none
 (.nd (.nd (.nd (.nd (.nd (.nd (.nd (.nd (.nd .lf none
 (.nd .lf none
 (.nd (.nd (.nd .lf (some .dead)
 .lf) none
 .lf) none
 .lf))) none
 .lf) none
 .lf) none
 .lf) none
 .lf) none
 .lf) none
 .lf) none
 .lf) none
 .lf))))) none
 (.nd (.nd (.nd (.nd (.nd (.nd (.nd (.nd (.nd (.nd (.nd (.nd (.nd .lf none
 (.nd .lf none
 (.nd (.nd (.nd .lf (some .dead)
 .lf) none
 .lf) none
 .lf))) none
 (.nd (.nd .lf none
 (.nd .lf (some .dead)
 .lf)) none
 .lf)) none
 .lf) none
 .lf) none
 .lf) none
 .lf) none
 .lf) none
 .lf) none
 (.nd (.nd (.nd (.nd (.nd (.nd (.nd (.nd .lf none
 (.nd .lf none
 (.nd (.nd (.nd .lf (some .dead)
 .lf) none
 .lf) none
 .lf))) none
 .lf) none
 .lf) none
 .lf) none
 .lf) none
 .lf) none
 .lf) none
 .lf)) none
 (.nd (.nd (.nd (.nd (.nd (.nd (.nd (.nd (.nd .lf none
 (.nd .lf none
 (.nd (.nd (.nd .lf (some .dead)
 .lf) none
 .lf) none
 .lf))) none
 .lf) none
 .lf) none
 .lf) none
 .lf) none
 .lf) none
 .lf) none
 .lf) none
 .lf)) none
 (.nd (.nd (.nd (.nd (.nd (.nd (.nd (.nd (.nd (.nd .lf none
 (.nd .lf none
 (.nd (.nd (.nd .lf (some .dead)
 .lf) none
 .lf) none
 .lf))) none
 .lf) none
 .lf) none
 .lf) none
 .lf) none
 .lf) none
 .lf) none
 .lf) none
 (.nd (.nd (.nd (.nd (.nd (.nd (.nd (.nd .lf none
 (.nd .lf none
 (.nd (.nd (.nd .lf (some .dead)
 .lf) none
 .lf) none
 .lf))) none
 .lf) none
 .lf) none
 .lf) none
 .lf) none
 .lf) none
 .lf) none
 .lf)) none
 (.nd (.nd (.nd (.nd (.nd (.nd (.nd (.nd (.nd .lf none
 (.nd .lf none
 (.nd (.nd (.nd .lf (some .dead)
 .lf) none
 .lf) none
 .lf))) none
 .lf) none
 .lf) none
 .lf) none
 .lf) none
 .lf) none
 .lf) none
 .lf) none
 .lf))) none
 (.nd (.nd (.nd (.nd (.nd (.nd (.nd (.nd (.nd (.nd (.nd .lf none
 (.nd .lf none
 (.nd (.nd (.nd .lf (some .dead)
 .lf) none
 .lf) none
 .lf))) none
 .lf) none
 .lf) none
 .lf) none
 .lf) none
 .lf) none
 .lf) none
 .lf) none
 (.nd (.nd (.nd (.nd (.nd (.nd (.nd (.nd .lf none
 (.nd .lf none
 (.nd (.nd (.nd .lf (some .dead)
 .lf) none
 .lf) none
 .lf))) none
 .lf) none
 .lf) none
 .lf) none
 .lf) none
 .lf) none
 .lf) none
 .lf)) none
 (.nd (.nd (.nd (.nd (.nd (.nd (.nd (.nd (.nd .lf none
 (.nd .lf none
 (.nd (.nd (.nd .lf (some .dead)
 .lf) none
 .lf) none
 .lf))) none
 .lf) none
 .lf) none
 .lf) none
 .lf) none
 .lf) none
 .lf) none
 .lf) none
 .lf)) none
 (.nd (.nd (.nd (.nd (.nd (.nd (.nd (.nd (.nd (.nd .lf none
 (.nd .lf none
 (.nd (.nd (.nd .lf (some .dead)
 .lf) none
 .lf) none
 .lf))) none
 .lf) none
 .lf) none
 .lf) none
 .lf) none
 .lf) none
 .lf) none
 .lf) none
 (.nd (.nd (.nd (.nd (.nd (.nd (.nd (.nd .lf none
 (.nd .lf none
 (.nd (.nd (.nd .lf (some .dead)
 .lf) none
 .lf) none
 .lf))) none
 .lf) none
 .lf) none
 .lf) none
 .lf) none
 .lf) none
 .lf) none
 .lf)) none
 (.nd (.nd (.nd (.nd (.nd (.nd (.nd (.nd (.nd .lf none
 (.nd .lf none
 (.nd (.nd (.nd .lf (some .dead)
 .lf) none
 .lf) none
 .lf))) none
 .lf) none
 .lf) none
 .lf) none
 .lf) none
 .lf) none
 .lf) none
 .lf) none
 .lf)))) none
 (.nd (.nd (.nd (.nd (.nd (.nd (.nd (.nd (.nd (.nd (.nd (.nd .lf none
 (.nd .lf none
 (.nd (.nd (.nd .lf (some .dead)
 .lf) none
 .lf) none
 .lf))) none
 .lf) none
 .lf) none
 .lf) none
 .lf) none
 .lf) none
 .lf) none
 .lf) none
 (.nd (.nd (.nd (.nd (.nd (.nd (.nd (.nd .lf none
 (.nd .lf none
 (.nd (.nd (.nd .lf (some .dead)
 .lf) none
 .lf) none
 .lf))) none
 .lf) none
 .lf) none
 .lf) none
 .lf) none
 .lf) none
 .lf) none
 .lf)) none
 (.nd (.nd (.nd (.nd (.nd (.nd (.nd (.nd (.nd .lf none
 (.nd .lf none
 (.nd (.nd (.nd .lf (some .dead)
 .lf) none
 .lf) none
 .lf))) none
 .lf) none
 .lf) none
 .lf) none
 .lf) none
 .lf) none
 .lf) none
 .lf) none
 .lf)) none
 (.nd (.nd (.nd (.nd (.nd (.nd (.nd (.nd (.nd (.nd .lf none
 (.nd .lf none
 (.nd (.nd (.nd .lf (some .dead)
 .lf) none
 .lf) none
 .lf))) none
 .lf) none
 .lf) none
 .lf) none
 .lf) none
 .lf) none
 .lf) none
 .lf) none
 (.nd (.nd (.nd (.nd (.nd (.nd (.nd (.nd .lf none
 (.nd .lf none
 (.nd (.nd (.nd .lf (some .dead)
 .lf) none
 .lf) none
 .lf))) none
 .lf) none
 .lf) none
 .lf) none
 .lf) none
 .lf) none
 .lf) none
 .lf)) none
 (.nd (.nd (.nd (.nd (.nd (.nd (.nd (.nd (.nd .lf none
 (.nd .lf none
 (.nd (.nd (.nd .lf (some .dead)
 .lf) none
 .lf) none
 .lf))) none
 .lf) none
 .lf) none
 .lf) none
 .lf) none
 .lf) none
 .lf) none
 .lf) none
 .lf))) none
 (.nd (.nd (.nd (.nd (.nd (.nd (.nd (.nd (.nd (.nd (.nd .lf none
 (.nd .lf none
 (.nd (.nd (.nd .lf (some .dead)
 .lf) none
 .lf) none
 .lf))) none
 .lf) none
 .lf) none
 .lf) none
 .lf) none
 .lf) none
 .lf) none
 .lf) none
 (.nd (.nd (.nd (.nd (.nd (.nd (.nd (.nd .lf none
 (.nd .lf none
 (.nd (.nd (.nd .lf (some .dead)
 .lf) none
 .lf) none
 .lf))) none
 .lf) none
 .lf) none
 .lf) none
 .lf) none
 .lf) none
 .lf) none
 .lf)) none
 (.nd (.nd (.nd (.nd (.nd (.nd (.nd (.nd (.nd .lf none
 (.nd .lf none
 (.nd (.nd (.nd .lf (some .dead)
 .lf) none
 .lf) none
 .lf))) none
 .lf) none
 .lf) none
 .lf) none
 .lf) none
 .lf) none
 .lf) none
 .lf) none
 .lf)) none
 (.nd (.nd (.nd (.nd (.nd (.nd (.nd (.nd (.nd (.nd .lf none
 (.nd .lf none
 (.nd (.nd (.nd .lf (some .dead)
 .lf) none
 .lf) none
 .lf))) none
 .lf) none
 .lf) none
 .lf) none
 .lf) none
 .lf) none
 .lf) none
 .lf) none
 .lf) none
 (.nd (.nd (.nd (.nd (.nd (.nd (.nd (.nd (.nd .lf none
 (.nd .lf none
 (.nd (.nd (.nd .lf (some .dead)
 .lf) none
 .lf) none
 .lf))) none
 .lf) none
 .lf) none
 .lf) none
 .lf) none
 .lf) none
 .lf) none
 .lf) none
 .lf)))))) none
 (.nd (.nd (.nd (.nd (.nd (.nd (.nd (.nd (.nd (.nd (.nd (.nd (.nd (.nd (.nd .lf none
 (.nd .lf none
 (.nd .lf (some (.ch 8 [(.int .i64 0), (.int .i64 0)]))
 .lf))) none
 (.nd .lf none
 (.nd (.nd (.nd .lf (some (.row (some 3) [(.int .i64 1), (.int .i64 0), (.int .i64 0), (.int .i64 1), (.int .i64 0), (.int .i64 1)]))
 .lf) none
 .lf) none
 .lf))) none
 (.nd (.nd .lf none
 (.nd .lf (some .dead)
 .lf)) (some (.row (some 1) [(.slice (some ⟨196613, 0, none⟩) 24 24), (.slice (some ⟨196616, 0, none⟩) 24 24), (.slice (some ⟨196619, 0, none⟩) 24 24)]))
 .lf)) none
 .lf) none
 .lf) none
 .lf) none
 .lf) none
 .lf) none
 .lf) none
 (.nd (.nd (.nd (.nd (.nd (.nd (.nd (.nd .lf none
 (.nd .lf none
 (.nd (.nd (.nd .lf (some .dead)
 .lf) none
 .lf) none
 .lf))) none
 .lf) none
 .lf) none
 .lf) none
 .lf) none
 .lf) none
 .lf) none
 .lf)) none
 (.nd (.nd (.nd (.nd (.nd (.nd (.nd (.nd (.nd .lf none
 (.nd .lf none
 (.nd (.nd (.nd .lf (some .dead)
 .lf) none
 .lf) none
 .lf))) none
 .lf) none
 .lf) none
 .lf) none
 .lf) none
 .lf) none
 .lf) none
 .lf) none
 .lf)) none
 (.nd (.nd (.nd (.nd (.nd (.nd (.nd (.nd (.nd (.nd .lf none
 (.nd .lf none
 (.nd (.nd (.nd .lf (some .dead)
 .lf) none
 .lf) none
 .lf))) none
 .lf) none
 .lf) none
 .lf) none
 .lf) none
 .lf) none
 .lf) none
 .lf) none
 (.nd (.nd (.nd (.nd (.nd (.nd (.nd (.nd .lf none
 (.nd .lf none
 (.nd (.nd (.nd .lf (some .dead)
 .lf) none
 .lf) none
 .lf))) none
 .lf) none
 .lf) none
 .lf) none
 .lf) none
 .lf) none
 .lf) none
 .lf)) none
 (.nd (.nd (.nd (.nd (.nd (.nd (.nd (.nd (.nd .lf none
 (.nd .lf none
 (.nd (.nd (.nd .lf (some .dead)
 .lf) none
 .lf) none
 .lf))) none
 .lf) none
 .lf) none
 .lf) none
 .lf) none
 .lf) none
 .lf) none
 .lf) none
 .lf))) none
 (.nd (.nd (.nd (.nd (.nd (.nd (.nd (.nd (.nd (.nd (.nd .lf none
 (.nd .lf none
 (.nd (.nd (.nd .lf (some .dead)
 .lf) none
 .lf) none
 .lf))) none
 .lf) none
 .lf) none
 .lf) none
 .lf) none
 .lf) none
 .lf) none
 .lf) none
 (.nd (.nd (.nd (.nd (.nd (.nd (.nd (.nd .lf none
 (.nd .lf none
 (.nd (.nd (.nd .lf (some .dead)
 .lf) none
 .lf) none
 .lf))) none
 .lf) none
 .lf) none
 .lf) none
 .lf) none
 .lf) none
 .lf) none
 .lf)) none
 (.nd (.nd (.nd (.nd (.nd (.nd (.nd (.nd (.nd .lf none
 (.nd .lf none
 (.nd (.nd (.nd .lf (some .dead)
 .lf) none
 .lf) none
 .lf))) none
 .lf) none
 .lf) none
 .lf) none
 .lf) none
 .lf) none
 .lf) none
 .lf) none
 .lf)) none
 (.nd (.nd (.nd (.nd (.nd (.nd (.nd (.nd (.nd (.nd .lf none
 (.nd .lf none
 (.nd (.nd (.nd .lf (some .dead)
 .lf) none
 .lf) none
 .lf))) none
 .lf) none
 .lf) none
 .lf) none
 .lf) none
 .lf) none
 .lf) none
 .lf) none
 (.nd (.nd (.nd (.nd (.nd (.nd (.nd (.nd .lf none
 (.nd .lf none
 (.nd (.nd (.nd .lf (some .dead)
 .lf) none
 .lf) none
 .lf))) none
 .lf) none
 .lf) none
 .lf) none
 .lf) none
 .lf) none
 .lf) none
 .lf)) none
 (.nd (.nd (.nd (.nd (.nd (.nd (.nd (.nd (.nd .lf none
 (.nd .lf none
 (.nd (.nd (.nd .lf (some .dead)
 .lf) none
 .lf) none
 .lf))) none
 .lf) none
 .lf) none
 .lf) none
 .lf) none
 .lf) none
 .lf) none
 .lf) none
 .lf)))) none
 (.nd (.nd (.nd (.nd (.nd (.nd (.nd (.nd (.nd (.nd (.nd (.nd .lf none
 (.nd .lf none
 (.nd (.nd (.nd .lf (some .dead)
 .lf) none
 .lf) none
 .lf))) none
 .lf) none
 .lf) none
 .lf) none
 .lf) none
 .lf) none
 .lf) none
 .lf) none
 (.nd (.nd (.nd (.nd (.nd (.nd (.nd (.nd .lf none
 (.nd .lf none
 (.nd (.nd (.nd .lf (some .dead)
 .lf) none
 .lf) none
 .lf))) none
 .lf) none
 .lf) none
 .lf) none
 .lf) none
 .lf) none
 .lf) none
 .lf)) none
 (.nd (.nd (.nd (.nd (.nd (.nd (.nd (.nd (.nd .lf none
 (.nd .lf none
 (.nd (.nd (.nd .lf (some .dead)
 .lf) none
 .lf) none
 .lf))) none
 .lf) none
 .lf) none
 .lf) none
 .lf) none
 .lf) none
 .lf) none
 .lf) none
 .lf)) none
 (.nd (.nd (.nd (.nd (.nd (.nd (.nd (.nd (.nd (.nd .lf none
 (.nd .lf none
 (.nd (.nd (.nd .lf (some .dead)
 .lf) none
 .lf) none
 .lf))) none
 .lf) none
 .lf) none
 .lf) none
 .lf) none
 .lf) none
 .lf) none
 .lf) none
 (.nd (.nd (.nd (.nd (.nd (.nd (.nd (.nd .lf none
 (.nd .lf none
 (.nd (.nd (.nd .lf (some .dead)
 .lf) none
 .lf) none
 .lf))) none
 .lf) none
 .lf) none
 .lf) none
 .lf) none
 .lf) none
 .lf) none
 .lf)) none
 (.nd (.nd (.nd (.nd (.nd (.nd (.nd (.nd (.nd .lf none
 (.nd .lf none
 (.nd (.nd (.nd .lf (some .dead)
 .lf) none
 .lf) none
 .lf))) none
 .lf) none
 .lf) none
 .lf) none
 .lf) none
 .lf) none
 .lf) none
 .lf) none
 .lf))) none
 (.nd (.nd (.nd (.nd (.nd (.nd (.nd (.nd (.nd (.nd (.nd .lf none
 (.nd .lf none
 (.nd (.nd (.nd .lf (some .dead)
 .lf) none
 .lf) none
 .lf))) none
 .lf) none
 .lf) none
 .lf) none
 .lf) none
 .lf) none
 .lf) none
 .lf) none
 (.nd (.nd (.nd (.nd (.nd (.nd (.nd (.nd .lf none
 (.nd .lf none
 (.nd (.nd (.nd .lf (some .dead)
 .lf) none
 .lf) none
 .lf))) none
 .lf) none
 .lf) none
 .lf) none
 .lf) none
 .lf) none
 .lf) none
 .lf)) none
 (.nd (.nd (.nd (.nd (.nd (.nd (.nd (.nd (.nd .lf none
 (.nd .lf none
 (.nd (.nd (.nd .lf (some .dead)
 .lf) none
 .lf) none
 .lf))) none
 .lf) none
 .lf) none
 .lf) none
 .lf) none
 .lf) none
 .lf) none
 .lf) none
 .lf)) none
 (.nd (.nd (.nd (.nd (.nd (.nd (.nd (.nd (.nd (.nd .lf none
 (.nd .lf none
 (.nd (.nd (.nd .lf (some .dead)
 .lf) none
 .lf) none
 .lf))) none
 .lf) none
 .lf) none
 .lf) none
 .lf) none
 .lf) none
 .lf) none
 .lf) none
 .lf) none
 (.nd (.nd (.nd (.nd (.nd (.nd (.nd (.nd (.nd .lf none
 (.nd .lf none
 (.nd (.nd (.nd .lf (some .dead)
 .lf) none
 .lf) none
 .lf))) none
 .lf) none
 .lf) none
 .lf) none
 .lf) none
 .lf) none
 .lf) none
 .lf) none
 .lf))))) none
 (.nd (.nd (.nd (.nd (.nd (.nd (.nd (.nd (.nd (.nd (.nd (.nd (.nd .lf none
 (.nd .lf none
 (.nd (.nd (.nd .lf (some .dead)
 .lf) none
 .lf) none
 .lf))) none
 (.nd (.nd .lf none
 (.nd .lf (some .dead)
 .lf)) none
 .lf)) none
 .lf) none
 .lf) none
 .lf) none
 .lf) none
 .lf) none
 .lf) none
 (.nd (.nd (.nd (.nd (.nd (.nd (.nd (.nd .lf none
 (.nd .lf none
 (.nd (.nd (.nd .lf (some .dead)
 .lf) none
 .lf) none
 .lf))) none
 .lf) none
 .lf) none
 .lf) none
 .lf) none
 .lf) none
 .lf) none
 .lf)) none
 (.nd (.nd (.nd (.nd (.nd (.nd (.nd (.nd (.nd .lf none
 (.nd .lf none
 (.nd (.nd (.nd .lf (some .dead)
 .lf) none
 .lf) none
 .lf))) none
 .lf) none
 .lf) none
 .lf) none
 .lf) none
 .lf) none
 .lf) none
 .lf) none
 .lf)) none
 (.nd (.nd (.nd (.nd (.nd (.nd (.nd (.nd (.nd (.nd .lf none
 (.nd .lf none
 (.nd (.nd (.nd .lf (some .dead)
 .lf) none
 .lf) none
 .lf))) none
 .lf) none
 .lf) none
 .lf) none
 .lf) none
 .lf) none
 .lf) none
 .lf) none
 (.nd (.nd (.nd (.nd (.nd (.nd (.nd (.nd .lf none
 (.nd .lf none
 (.nd (.nd (.nd .lf (some .dead)
 .lf) none
 .lf) none
 .lf))) none
 .lf) none
 .lf) none
 .lf) none
 .lf) none
 .lf) none
 .lf) none
 .lf)) none
 (.nd (.nd (.nd (.nd (.nd (.nd (.nd (.nd (.nd .lf none
 (.nd .lf none
 (.nd (.nd (.nd .lf (some .dead)
 .lf) none
 .lf) none
 .lf))) none
 .lf) none
 .lf) none
 .lf) none
 .lf) none
 .lf) none
 .lf) none
 .lf) none
 .lf))) none
 (.nd (.nd (.nd (.nd (.nd (.nd (.nd (.nd (.nd (.nd (.nd .lf none
 (.nd .lf none
 (.nd (.nd (.nd .lf (some .dead)
 .lf) none
 .lf) none
 .lf))) none
 .lf) none
 .lf) none
 .lf) none
 .lf) none
 .lf) none
 .lf) none
 .lf) none
 (.nd (.nd (.nd (.nd (.nd (.nd (.nd (.nd .lf none
 (.nd .lf none
 (.nd (.nd (.nd .lf (some .dead)
 .lf) none
 .lf) none
 .lf))) none
 .lf) none
 .lf) none
 .lf) none
 .lf) none
 .lf) none
 .lf) none
 .lf)) none
 (.nd (.nd (.nd (.nd (.nd (.nd (.nd (.nd (.nd .lf none
 (.nd .lf none
 (.nd (.nd (.nd .lf (some .dead)
 .lf) none
 .lf) none
 .lf))) none
 .lf) none
 .lf) none
 .lf) none
 .lf) none
 .lf) none
 .lf) none
 .lf) none
 .lf)) none
 (.nd (.nd (.nd (.nd (.nd (.nd (.nd (.nd (.nd (.nd .lf none
 (.nd .lf none
 (.nd (.nd (.nd .lf (some .dead)
 .lf) none
 .lf) none
 .lf))) none
 .lf) none
 .lf) none
 .lf) none
 .lf) none
 .lf) none
 .lf) none
 .lf) none
 .lf) none
 (.nd (.nd (.nd (.nd (.nd (.nd (.nd (.nd (.nd .lf none
 (.nd .lf none
 (.nd (.nd (.nd .lf (some .dead)
 .lf) none
 .lf) none
 .lf))) none
 .lf) none
 .lf) none
 .lf) none
 .lf) none
 .lf) none
 .lf) none
 .lf) none
 .lf)))) none
 (.nd (.nd (.nd (.nd (.nd (.nd (.nd (.nd (.nd (.nd (.nd (.nd .lf none
 (.nd .lf none
 (.nd (.nd (.nd .lf (some .dead)
 .lf) none
 .lf) none
 .lf))) none
 .lf) none
 .lf) none
 .lf) none
 .lf) none
 .lf) none
 .lf) none
 .lf) none
 (.nd (.nd (.nd (.nd (.nd (.nd (.nd (.nd .lf none
 (.nd .lf none
 (.nd (.nd (.nd .lf (some .dead)
 .lf) none
 .lf) none
 .lf))) none
 .lf) none
 .lf) none
 .lf) none
 .lf) none
 .lf) none
 .lf) none
 .lf)) none
 (.nd (.nd (.nd (.nd (.nd (.nd (.nd (.nd (.nd .lf none
 (.nd .lf none
 (.nd (.nd (.nd .lf (some .dead)
 .lf) none
 .lf) none
 .lf))) none
 .lf) none
 .lf) none
 .lf) none
 .lf) none
 .lf) none
 .lf) none
 .lf) none
 .lf)) none
 (.nd (.nd (.nd (.nd (.nd (.nd (.nd (.nd (.nd (.nd .lf none
 (.nd .lf none
 (.nd (.nd (.nd .lf (some .dead)
 .lf) none
 .lf) none
 .lf))) none
 .lf) none
 .lf) none
 .lf) none
 .lf) none
 .lf) none
 .lf) none
 .lf) none
 (.nd (.nd (.nd (.nd (.nd (.nd (.nd (.nd .lf none
 (.nd .lf none
 (.nd (.nd (.nd .lf (some .dead)
 .lf) none
 .lf) none
 .lf))) none
 .lf) none
 .lf) none
 .lf) none
 .lf) none
 .lf) none
 .lf) none
 .lf)) none
 (.nd (.nd (.nd (.nd (.nd (.nd (.nd (.nd (.nd .lf none
 (.nd .lf none
 (.nd (.nd (.nd .lf (some .dead)
 .lf) none
 .lf) none
 .lf))) none
 .lf) none
 .lf) none
 .lf) none
 .lf) none
 .lf) none
 .lf) none
 .lf) none
 .lf))) none
 (.nd (.nd (.nd (.nd (.nd (.nd (.nd (.nd (.nd (.nd (.nd .lf none
 (.nd .lf none
 (.nd (.nd (.nd .lf (some .dead)
 .lf) none
 .lf) none
 .lf))) none
 .lf) none
 .lf) none
 .lf) none
 .lf) none
 .lf) none
 .lf) none
 .lf) none
 (.nd (.nd (.nd (.nd (.nd (.nd (.nd (.nd .lf none
 (.nd .lf none
 (.nd (.nd (.nd .lf (some .dead)
 .lf) none
 .lf) none
 .lf))) none
 .lf) none
 .lf) none
 .lf) none
 .lf) none
 .lf) none
 .lf) none
 .lf)) none
 (.nd (.nd (.nd (.nd (.nd (.nd (.nd (.nd (.nd .lf none
 (.nd .lf none
 (.nd (.nd (.nd .lf (some .dead)
 .lf) none
 .lf) none
 .lf))) none
 .lf) none
 .lf) none
 .lf) none
 .lf) none
 .lf) none
 .lf) none
 .lf) none
 .lf)) none
 (.nd (.nd (.nd (.nd (.nd (.nd (.nd (.nd (.nd (.nd .lf none
 (.nd .lf none
 (.nd (.nd (.nd .lf (some .dead)
 .lf) none
 .lf) none
 .lf))) none
 .lf) none
 .lf) none
 .lf) none
 .lf) none
 .lf) none
 .lf) none
 .lf) none
 .lf) none
 (.nd (.nd (.nd (.nd (.nd (.nd (.nd (.nd (.nd .lf none
 (.nd .lf none
 (.nd (.nd (.nd .lf (some .dead)
 .lf) none
 .lf) none
 .lf))) none
 .lf) none
 .lf) none
 .lf) none
 .lf) none
 .lf) none
 .lf) none
 .lf) none
 .lf))))))))) (some .dead)
 (.nd (.nd (.nd (.nd (.nd (.nd (.nd (.nd (.nd .lf none
 (.nd (.nd (.nd (.nd (.nd (.nd (.nd (.nd .lf none
 (.nd .lf none
 (.nd (.nd (.nd .lf (some .dead)
 .lf) none
 .lf) none
 .lf))) none
 .lf) none
 .lf) none
 .lf) none
 .lf) none
 .lf) none
 .lf) none
 .lf)) none
 (.nd (.nd (.nd (.nd (.nd (.nd (.nd (.nd (.nd .lf none
 (.nd .lf none
 (.nd (.nd (.nd .lf (some .dead)
 .lf) none
 .lf) none
 .lf))) none
 .lf) none
 .lf) none
 .lf) none
 .lf) none
 .lf) none
 .lf) none
 .lf) none
 .lf)) none
 (.nd (.nd (.nd (.nd (.nd (.nd (.nd (.nd (.nd (.nd .lf none
 (.nd .lf none
 (.nd (.nd (.nd .lf (some .dead)
 .lf) none
 .lf) none
 .lf))) none
 .lf) none
 .lf) none
 .lf) none
 .lf) none
 .lf) none
 .lf) none
 .lf) none
 (.nd (.nd (.nd (.nd (.nd (.nd (.nd (.nd .lf none
 (.nd .lf none
 (.nd (.nd (.nd .lf (some .dead)
 .lf) none
 .lf) none
 .lf))) none
 .lf) none
 .lf) none
 .lf) none
 .lf) none
 .lf) none
 .lf) none
 .lf)) none
 (.nd (.nd (.nd (.nd (.nd (.nd (.nd (.nd (.nd .lf none
 (.nd .lf none
 (.nd (.nd (.nd .lf (some .dead)
 .lf) none
 .lf) none
 .lf))) none
 .lf) none
 .lf) none
 .lf) none
 .lf) none
 .lf) none
 .lf) none
 .lf) none
 .lf))) none
 (.nd (.nd (.nd (.nd (.nd (.nd (.nd (.nd (.nd (.nd (.nd .lf none
 (.nd .lf none
 (.nd (.nd (.nd .lf (some .dead)
 .lf) none
 .lf) none
 .lf))) none
 .lf) none
 .lf) none
 .lf) none
 .lf) none
 .lf) none
 .lf) none
 .lf) none
 (.nd (.nd (.nd (.nd (.nd (.nd (.nd (.nd .lf none
 (.nd .lf none
 (.nd (.nd (.nd .lf (some .dead)
 .lf) none
 .lf) none
 .lf))) none
 .lf) none
 .lf) none
 .lf) none
 .lf) none
 .lf) none
 .lf) none
 .lf)) none
 (.nd (.nd (.nd (.nd (.nd (.nd (.nd (.nd (.nd .lf none
 (.nd .lf none
 (.nd (.nd (.nd .lf (some .dead)
 .lf) none
 .lf) none
 .lf))) none
 .lf) none
 .lf) none
 .lf) none
 .lf) none
 .lf) none
 .lf) none
 .lf) none
 .lf)) none
 (.nd (.nd (.nd (.nd (.nd (.nd (.nd (.nd (.nd (.nd .lf none
 (.nd .lf none
 (.nd (.nd (.nd .lf (some .dead)
 .lf) none
 .lf) none
 .lf))) none
 .lf) none
 .lf) none
 .lf) none
 .lf) none
 .lf) none
 .lf) none
 .lf) none
 (.nd (.nd (.nd (.nd (.nd (.nd (.nd (.nd .lf none
 (.nd .lf none
 (.nd (.nd (.nd .lf (some .dead)
 .lf) none
 .lf) none
 .lf))) none
 .lf) none
 .lf) none
 .lf) none
 .lf) none
 .lf) none
 .lf) none
 .lf)) none
 (.nd (.nd (.nd (.nd (.nd (.nd (.nd (.nd (.nd .lf none
 (.nd .lf none
 (.nd (.nd (.nd .lf (some .dead)
 .lf) none
 .lf) none
 .lf))) none
 .lf) none
 .lf) none
 .lf) none
 .lf) none
 .lf) none
 .lf) none
 .lf) none
 .lf)))) none
 (.nd (.nd (.nd (.nd (.nd (.nd (.nd (.nd (.nd (.nd (.nd (.nd .lf none
 (.nd .lf none
 (.nd (.nd (.nd .lf (some .dead)
 .lf) none
 .lf) none
 .lf))) none
 (.nd (.nd .lf none
 (.nd .lf (some .dead)
 .lf)) none
 .lf)) none
 .lf) none
 .lf) none
 .lf) none
 .lf) none
 .lf) none
 .lf) none
 (.nd (.nd (.nd (.nd (.nd (.nd (.nd (.nd .lf none
 (.nd .lf none
 (.nd (.nd (.nd .lf (some .dead)
 .lf) none
 .lf) none
 .lf))) none
 .lf) none
 .lf) none
 .lf) none
 .lf) none
 .lf) none
 .lf) none
 .lf)) none
 (.nd (.nd (.nd (.nd (.nd (.nd (.nd (.nd (.nd .lf none
 (.nd .lf none
 (.nd (.nd (.nd .lf (some .dead)
 .lf) none
 .lf) none
 .lf))) none
 .lf) none
 .lf) none
 .lf) none
 .lf) none
 .lf) none
 .lf) none
 .lf) none
 .lf)) none
 (.nd (.nd (.nd (.nd (.nd (.nd (.nd (.nd (.nd (.nd .lf none
 (.nd .lf none
 (.nd (.nd (.nd .lf (some .dead)
 .lf) none
 .lf) none
 .lf))) none
 .lf) none
 .lf) none
 .lf) none
 .lf) none
 .lf) none
 .lf) none
 .lf) none
 (.nd (.nd (.nd (.nd (.nd (.nd (.nd (.nd .lf none
 (.nd .lf none
 (.nd (.nd (.nd .lf (some .dead)
 .lf) none
 .lf) none
 .lf))) none
 .lf) none
 .lf) none
 .lf) none
 .lf) none
 .lf) none
 .lf) none
 .lf)) none
 (.nd (.nd (.nd (.nd (.nd (.nd (.nd (.nd (.nd .lf none
 (.nd .lf none
 (.nd (.nd (.nd .lf (some .dead)
 .lf) none
 .lf) none
 .lf))) none
 .lf) none
 .lf) none
 .lf) none
 .lf) none
 .lf) none
 .lf) none
 .lf) none
 .lf))) none
 (.nd (.nd (.nd (.nd (.nd (.nd (.nd (.nd (.nd (.nd (.nd .lf none
 (.nd .lf none
 (.nd (.nd (.nd .lf (some .dead)
 .lf) none
 .lf) none
 .lf))) none
 .lf) none
 .lf) none
 .lf) none
 .lf) none
 .lf) none
 .lf) none
 .lf) none
 (.nd (.nd (.nd (.nd (.nd (.nd (.nd (.nd .lf none
 (.nd .lf none
 (.nd (.nd (.nd .lf (some .dead)
 .lf) none
 .lf) none
 .lf))) none
 .lf) none
 .lf) none
 .lf) none
 .lf) none
 .lf) none
 .lf) none
 .lf)) none
 (.nd (.nd (.nd (.nd (.nd (.nd (.nd (.nd (.nd .lf none
 (.nd .lf none
 (.nd (.nd (.nd .lf (some .dead)
 .lf) none
 .lf) none
 .lf))) none
 .lf) none
 .lf) none
 .lf) none
 .lf) none
 .lf) none
 .lf) none
 .lf) none
 .lf)) none
 (.nd (.nd (.nd (.nd (.nd (.nd (.nd (.nd (.nd (.nd .lf none
 (.nd .lf none
 (.nd (.nd (.nd .lf (some .dead)
 .lf) none
 .lf) none
 .lf))) none
 .lf) none
 .lf) none
 .lf) none
 .lf) none
 .lf) none
 .lf) none
 .lf) none
 .lf) none
 (.nd (.nd (.nd (.nd (.nd (.nd (.nd (.nd (.nd .lf none
 (.nd .lf none
 (.nd (.nd (.nd .lf (some .dead)
 .lf) none
 .lf) none
 .lf))) none
 .lf) none
 .lf) none
 .lf) none
 .lf) none
 .lf) none
 .lf) none
 .lf) none
 .lf))))) none
 (.nd (.nd (.nd (.nd (.nd (.nd (.nd (.nd (.nd (.nd (.nd (.nd (.nd .lf none
 (.nd .lf none
 (.nd (.nd (.nd .lf (some .dead)
 .lf) none
 .lf) none
 .lf))) none
 (.nd (.nd .lf none
 (.nd .lf (some .dead)
 .lf)) none
 .lf)) none
 .lf) none
 .lf) none
 .lf) none
 .lf) none
 .lf) none
 .lf) none
 (.nd (.nd (.nd (.nd (.nd (.nd (.nd (.nd .lf none
 (.nd .lf none
 (.nd (.nd (.nd .lf (some .dead)
 .lf) none
 .lf) none
 .lf))) none
 .lf) none
 .lf) none
 .lf) none
 .lf) none
 .lf) none
 .lf) none
 .lf)) none
 (.nd (.nd (.nd (.nd (.nd (.nd (.nd (.nd (.nd .lf none
 (.nd .lf none
 (.nd (.nd (.nd .lf (some .dead)
 .lf) none
 .lf) none
 .lf))) none
 .lf) none
 .lf) none
 .lf) none
 .lf) none
 .lf) none
 .lf) none
 .lf) none
 .lf)) none
 (.nd (.nd (.nd (.nd (.nd (.nd (.nd (.nd (.nd (.nd .lf none
 (.nd .lf none
 (.nd (.nd (.nd .lf (some .dead)
 .lf) none
 .lf) none
 .lf))) none
 .lf) none
 .lf) none
 .lf) none
 .lf) none
 .lf) none
 .lf) none
 .lf) none
 (.nd (.nd (.nd (.nd (.nd (.nd (.nd (.nd .lf none
 (.nd .lf none
 (.nd (.nd (.nd .lf (some .dead)
 .lf) none
 .lf) none
 .lf))) none
 .lf) none
 .lf) none
 .lf) none
 .lf) none
 .lf) none
 .lf) none
 .lf)) none
 (.nd (.nd (.nd (.nd (.nd (.nd (.nd (.nd (.nd .lf none
 (.nd .lf none
 (.nd (.nd (.nd .lf (some .dead)
 .lf) none
 .lf) none
 .lf))) none
 .lf) none
 .lf) none
 .lf) none
 .lf) none
 .lf) none
 .lf) none
 .lf) none
 .lf))) none
 (.nd (.nd (.nd (.nd (.nd (.nd (.nd (.nd (.nd (.nd (.nd .lf none
 (.nd .lf none
 (.nd (.nd (.nd .lf (some .dead)
 .lf) none
 .lf) none
 .lf))) none
 .lf) none
 .lf) none
 .lf) none
 .lf) none
 .lf) none
 .lf) none
 .lf) none
 (.nd (.nd (.nd (.nd (.nd (.nd (.nd (.nd .lf none
 (.nd .lf none
 (.nd (.nd (.nd .lf (some .dead)
 .lf) none
 .lf) none
 .lf))) none
 .lf) none
 .lf) none
 .lf) none
 .lf) none
 .lf) none
 .lf) none
 .lf)) none
 (.nd (.nd (.nd (.nd (.nd (.nd (.nd (.nd (.nd .lf none
 (.nd .lf none
 (.nd (.nd (.nd .lf (some .dead)
 .lf) none
 .lf) none
 .lf))) none
 .lf) none
 .lf) none
 .lf) none
 .lf) none
 .lf) none
 .lf) none
 .lf) none
 .lf)) none
 (.nd (.nd (.nd (.nd (.nd (.nd (.nd (.nd (.nd (.nd .lf none
 (.nd .lf none
 (.nd (.nd (.nd .lf (some .dead)
 .lf) none
 .lf) none
 .lf))) none
 .lf) none
 .lf) none
 .lf) none
 .lf) none
 .lf) none
 .lf) none
 .lf) none
 (.nd (.nd (.nd (.nd (.nd (.nd (.nd (.nd .lf none
 (.nd .lf none
 (.nd (.nd (.nd .lf (some .dead)
 .lf) none
 .lf) none
 .lf))) none
 .lf) none
 .lf) none
 .lf) none
 .lf) none
 .lf) none
 .lf) none
 .lf)) none
 (.nd (.nd (.nd (.nd (.nd (.nd (.nd (.nd (.nd .lf none
 (.nd .lf none
 (.nd (.nd (.nd .lf (some .dead)
 .lf) none
 .lf) none
 .lf))) none
 .lf) none
 .lf) none
 .lf) none
 .lf) none
 .lf) none
 .lf) none
 .lf) none
 .lf)))) none
 (.nd (.nd (.nd (.nd (.nd (.nd (.nd (.nd (.nd (.nd (.nd (.nd .lf none
 (.nd .lf none
 (.nd (.nd (.nd .lf (some .dead)
 .lf) none
 .lf) none
 .lf))) none
 .lf) none
 .lf) none
 .lf) none
 .lf) none
 .lf) none
 .lf) none
 .lf) none
 (.nd (.nd (.nd (.nd (.nd (.nd (.nd (.nd .lf none
 (.nd .lf none
 (.nd (.nd (.nd .lf (some .dead)
 .lf) none
 .lf) none
 .lf))) none
 .lf) none
 .lf) none
 .lf) none
 .lf) none
 .lf) none
 .lf) none
 .lf)) none
 (.nd (.nd (.nd (.nd (.nd (.nd (.nd (.nd (.nd .lf none
 (.nd .lf none
 (.nd (.nd (.nd .lf (some .dead)
 .lf) none
 .lf) none
 .lf))) none
 .lf) none
 .lf) none
 .lf) none
 .lf) none
 .lf) none
 .lf) none
 .lf) none
 .lf)) none
 (.nd (.nd (.nd (.nd (.nd (.nd (.nd (.nd (.nd (.nd .lf none
 (.nd .lf none
 (.nd (.nd (.nd .lf (some .dead)
 .lf) none
 .lf) none
 .lf))) none
 .lf) none
 .lf) none
 .lf) none
 .lf) none
 .lf) none
 .lf) none
 .lf) none
 (.nd (.nd (.nd (.nd (.nd (.nd (.nd (.nd .lf none
 (.nd .lf none
 (.nd (.nd (.nd .lf (some .dead)
 .lf) none
 .lf) none
 .lf))) none
 .lf) none
 .lf) none
 .lf) none
 .lf) none
 .lf) none
 .lf) none
 .lf)) none
 (.nd (.nd (.nd (.nd (.nd (.nd (.nd (.nd (.nd .lf none
 (.nd .lf none
 (.nd (.nd (.nd .lf (some .dead)
 .lf) none
 .lf) none
 .lf))) none
 .lf) none
 .lf) none
 .lf) none
 .lf) none
 .lf) none
 .lf) none
 .lf) none
 .lf))) none
 (.nd (.nd (.nd (.nd (.nd (.nd (.nd (.nd (.nd (.nd (.nd .lf none
 (.nd .lf none
 (.nd (.nd (.nd .lf (some .dead)
 .lf) none
 .lf) none
 .lf))) none
 .lf) none
 .lf) none
 .lf) none
 .lf) none
 .lf) none
 .lf) none
 .lf) none
 (.nd (.nd (.nd (.nd (.nd (.nd (.nd (.nd .lf none
 (.nd .lf none
 (.nd (.nd (.nd .lf (some .dead)
 .lf) none
 .lf) none
 .lf))) none
 .lf) none
 .lf) none
 .lf) none
 .lf) none
 .lf) none
 .lf) none
 .lf)) none
 (.nd (.nd (.nd (.nd (.nd (.nd (.nd (.nd (.nd .lf none
 (.nd .lf none
 (.nd (.nd (.nd .lf (some .dead)
 .lf) none
 .lf) none
 .lf))) none
 .lf) none
 .lf) none
 .lf) none
 .lf) none
 .lf) none
 .lf) none
 .lf) none
 .lf)) none
 (.nd (.nd (.nd (.nd (.nd (.nd (.nd (.nd (.nd (.nd .lf none
 (.nd .lf none
 (.nd (.nd (.nd .lf (some .dead)
 .lf) none
 .lf) none
 .lf))) none
 .lf) none
 .lf) none
 .lf) none
 .lf) none
 .lf) none
 .lf) none
 .lf) none
 .lf) none
 (.nd (.nd (.nd (.nd (.nd (.nd (.nd (.nd (.nd .lf none
 (.nd .lf none
 (.nd (.nd (.nd .lf (some .dead)
 .lf) none
 .lf) none
 .lf))) none
 .lf) none
 .lf) none
 .lf) none
 .lf) none
 .lf) none
 .lf) none
 .lf) none
 .lf)))))) none
 (.nd (.nd (.nd (.nd (.nd (.nd (.nd (.nd (.nd (.nd (.nd (.nd (.nd (.nd (.nd .lf none
 (.nd .lf none
 (.nd .lf (some (.row none [(.int .i64 0), (.int .i64 0), (.int .i64 (-1)), (.int .i64 0), (.int .i64 (-1)), (.int .i64 0), (.int .i64 (-1)), (.int .i64 0), (.int .i64 (-1)), (.int .i64 0), (.int .i64 (-1)), (.int .i64 0), (.int .i64 (-1)), (.int .i64 0), (.int .i64 (-1)), (.int .i64 0), (.int .i64 (-1)), (.int .i64 0), (.int .i64 (-1)), (.int .i64 0), (.int .i64 (-1)), (.int .i64 0), (.int .i64 (-1)), (.int .i64 0), (.int .i64 (-1)), (.int .i64 0), (.int .i64 (-1)), (.int .i64 0), (.int .i64 (-1)), (.int .i64 0), (.int .i64 (-1)), (.int .i64 0), (.int .i64 (-1)), (.int .i64 0), (.int .i64 (-1)), (.int .i64 0), (.int .i64 (-1)), (.int .i64 0), (.int .i64 (-1)), (.int .i64 0), (.int .i64 (-1)), (.int .i64 0), (.int .i64 (-1)), (.int .i64 0), (.int .i64 (-1)), (.int .i64 0), (.int .i64 (-1)), (.int .i64 0), (.int .i64 (-1)), (.int .i64 0), (.int .i64 (-1)), (.int .i64 0), (.int .i64 (-1)), (.int .i64 0), (.int .i64 (-1)), (.int .i64 0), (.int .i64 (-1)), (.int .i64 0), (.int .i64 (-1)), (.int .i64 0), (.int .i64 (-1)), (.int .i64 0), (.int .i64 (-1)), (.int .i64 0), (.int .i64 (-1)), (.int .i64 0), (.int .i64 (-1)), (.int .i64 0), (.int .i64 (-1)), (.int .i64 0), (.int .i64 (-1)), (.int .i64 0), (.int .i64 (-1)), (.int .i64 0), (.int .i64 (-1)), (.int .i64 0), (.int .i64 (-1)), (.int .i64 0), (.int .i64 (-1)), (.int .i64 0), (.int .i64 (-1)), (.int .i64 0), (.int .i64 (-1)), (.int .i64 0), (.int .i64 (-1)), (.int .i64 0), (.int .i64 (-1)), (.int .i64 0), (.int .i64 (-1)), (.int .i64 0), (.int .i64 (-1)), (.int .i64 0), (.int .i64 (-1)), (.int .i64 0), (.int .i64 (-1)), (.int .i64 0), (.int .i64 (-1)), (.int .i64 0), (.int .i64 (-1)), (.int .i64 0), (.int .i64 (-1)), (.int .i64 0), (.int .i64 (-1)), (.int .i64 0), (.int .i64 (-1)), (.int .i64 0), (.int .i64 (-1)), (.int .i64 0), (.int .i64 (-1)), (.int .i64 0), (.int .i64 (-1)), (.int .i64 0), (.int .i64 (-1)), (.int .i64 0), (.int .i64 (-1)), (.int .i64 0), (.int .i64 (-1)), (.int .i64 0), (.int .i64 (-1)), (.int .i64 0), (.int .i64 (-1)), (.int .i64 0), (.int .i64 (-1)), (.int .i64 0), (.int .i64 (-1)), (.int .i64 0), (.int .i64 (-1)), (.int .i64 0), (.int .i64 (-1)), (.int .i64 0), (.int .i64 (-1)), (.int .i64 0), (.int .i64 (-1)), (.int .i64 0), (.int .i64 (-1)), (.int .i64 0), (.int .i64 (-1)), (.int .i64 0), (.int .i64 (-1)), (.int .i64 0), (.int .i64 (-1)), (.int .i64 0), (.int .i64 (-1)), (.int .i64 0), (.int .i64 (-1)), (.int .i64 0), (.int .i64 (-1)), (.int .i64 0), (.int .i64 (-1)), (.int .i64 0), (.int .i64 (-1)), (.int .i64 0), (.int .i64 (-1)), (.int .i64 0), (.int .i64 (-1)), (.int .i64 0), (.int .i64 (-1)), (.int .i64 0), (.int .i64 (-1)), (.int .i64 0), (.int .i64 (-1)), (.int .i64 0), (.int .i64 (-1)), (.int .i64 0), (.int .i64 (-1)), (.int .i64 0), (.int .i64 (-1)), (.int .i64 0), (.int .i64 (-1)), (.int .i64 0), (.int .i64 (-1)), (.int .i64 0), (.int .i64 (-1)), (.int .i64 0), (.int .i64 (-1)), (.int .i64 0), (.int .i64 (-1)), (.int .i64 0), (.int .i64 (-1)), (.int .i64 0), (.int .i64 (-1)), (.int .i64 0), (.int .i64 (-1)), (.int .i64 0), (.int .i64 (-1)), (.int .i64 0), (.int .i64 (-1)), (.int .i64 0), (.int .i64 (-1)), (.int .i64 0), (.int .i64 (-1)), (.int .i64 0)]))
 .lf))) none
 (.nd .lf none
 (.nd (.nd (.nd .lf (some .dead)
 .lf) none
 .lf) none
 .lf))) none
 (.nd (.nd .lf none
 (.nd .lf (some .dead)
 .lf)) (some (.row none [(.int .u8 0), (.int .u8 0), (.int .u8 0), (.int .u8 0), (.int .u8 0), (.int .u8 0), (.int .u8 0), (.int .u8 0), (.int .u8 0), (.int .u8 0), (.int .u8 0), (.int .u8 0), (.int .u8 0), (.int .u8 0), (.int .u8 0), (.int .u8 0), (.int .u8 0), (.int .u8 0), (.int .u8 0), (.int .u8 0), (.int .u8 0), (.int .u8 0), (.int .u8 0), (.int .u8 0)]))
 .lf)) none
 .lf) none
 .lf) none
 .lf) none
 .lf) none
 .lf) none
 .lf) none
 (.nd (.nd (.nd (.nd (.nd (.nd (.nd (.nd .lf none
 (.nd .lf none
 (.nd (.nd (.nd .lf (some .dead)
 .lf) none
 .lf) none
 .lf))) none
 .lf) none
 .lf) none
 .lf) none
 .lf) none
 .lf) none
 .lf) none
 .lf)) none
 (.nd (.nd (.nd (.nd (.nd (.nd (.nd (.nd (.nd .lf none
 (.nd .lf none
 (.nd (.nd (.nd .lf (some .dead)
 .lf) none
 .lf) none
 .lf))) none
 .lf) none
 .lf) none
 .lf) none
 .lf) none
 .lf) none
 .lf) none
 .lf) none
 .lf)) none
 (.nd (.nd (.nd (.nd (.nd (.nd (.nd (.nd (.nd (.nd .lf none
 (.nd .lf none
 (.nd (.nd (.nd .lf (some .dead)
 .lf) none
 .lf) none
 .lf))) none
 .lf) none
 .lf) none
 .lf) none
 .lf) none
 .lf) none
 .lf) none
 .lf) none
 (.nd (.nd (.nd (.nd (.nd (.nd (.nd (.nd .lf none
 (.nd .lf none
 (.nd (.nd (.nd .lf (some .dead)
 .lf) none
 .lf) none
 .lf))) none
 .lf) none
 .lf) none
 .lf) none
 .lf) none
 .lf) none
 .lf) none
 .lf)) none
 (.nd (.nd (.nd (.nd (.nd (.nd (.nd (.nd (.nd .lf none
 (.nd .lf none
 (.nd (.nd (.nd .lf (some .dead)
 .lf) none
 .lf) none
 .lf))) none
 .lf) none
 .lf) none
 .lf) none
 .lf) none
 .lf) none
 .lf) none
 .lf) none
 .lf))) none
 (.nd (.nd (.nd (.nd (.nd (.nd (.nd (.nd (.nd (.nd (.nd .lf none
 (.nd .lf none
 (.nd (.nd (.nd .lf (some .dead)
 .lf) none
 .lf) none
 .lf))) none
 .lf) none
 .lf) none
 .lf) none
 .lf) none
 .lf) none
 .lf) none
 .lf) none
 (.nd (.nd (.nd (.nd (.nd (.nd (.nd (.nd .lf none
 (.nd .lf none
 (.nd (.nd (.nd .lf (some .dead)
 .lf) none
 .lf) none
 .lf))) none
 .lf) none
 .lf) none
 .lf) none
 .lf) none
 .lf) none
 .lf) none
 .lf)) none
 (.nd (.nd (.nd (.nd (.nd (.nd (.nd (.nd (.nd .lf none
 (.nd .lf none
 (.nd (.nd (.nd .lf (some .dead)
 .lf) none
 .lf) none
 .lf))) none
 .lf) none
 .lf) none
 .lf) none
 .lf) none
 .lf) none
 .lf) none
 .lf) none
 .lf)) none
 (.nd (.nd (.nd (.nd (.nd (.nd (.nd (.nd (.nd (.nd .lf none
 (.nd .lf none
 (.nd (.nd (.nd .lf (some .dead)
 .lf) none
 .lf) none
 .lf))) none
 .lf) none
 .lf) none
 .lf) none
 .lf) none
 .lf) none
 .lf) none
 .lf) none
 (.nd (.nd (.nd (.nd (.nd (.nd (.nd (.nd .lf none
 (.nd .lf none
 (.nd (.nd (.nd .lf (some .dead)
 .lf) none
 .lf) none
 .lf))) none
 .lf) none
 .lf) none
 .lf) none
 .lf) none
 .lf) none
 .lf) none
 .lf)) none
 (.nd (.nd (.nd (.nd (.nd (.nd (.nd (.nd (.nd .lf none
 (.nd .lf none
 (.nd (.nd (.nd .lf (some .dead)
 .lf) none
 .lf) none
 .lf))) none
 .lf) none
 .lf) none
 .lf) none
 .lf) none
 .lf) none
 .lf) none
 .lf) none
 .lf)))) none
 (.nd (.nd (.nd (.nd (.nd (.nd (.nd (.nd (.nd (.nd (.nd (.nd .lf none
 (.nd .lf none
 (.nd (.nd (.nd .lf (some .dead)
 .lf) none
 .lf) none
 .lf))) none
 .lf) none
 .lf) none
 .lf) none
 .lf) none
 .lf) none
 .lf) none
 .lf) none
 (.nd (.nd (.nd (.nd (.nd (.nd (.nd (.nd .lf none
 (.nd .lf none
 (.nd (.nd (.nd .lf (some .dead)
 .lf) none
 .lf) none
 .lf))) none
 .lf) none
 .lf) none
 .lf) none
 .lf) none
 .lf) none
 .lf) none
 .lf)) none
 (.nd (.nd (.nd (.nd (.nd (.nd (.nd (.nd (.nd .lf none
 (.nd .lf none
 (.nd (.nd (.nd .lf (some .dead)
 .lf) none
 .lf) none
 .lf))) none
 .lf) none
 .lf) none
 .lf) none
 .lf) none
 .lf) none
 .lf) none
 .lf) none
 .lf)) none
 (.nd (.nd (.nd (.nd (.nd (.nd (.nd (.nd (.nd (.nd .lf none
 (.nd .lf none
 (.nd (.nd (.nd .lf (some .dead)
 .lf) none
 .lf) none
 .lf))) none
 .lf) none
 .lf) none
 .lf) none
 .lf) none
 .lf) none
 .lf) none
 .lf) none
 (.nd (.nd (.nd (.nd (.nd (.nd (.nd (.nd .lf none
 (.nd .lf none
 (.nd (.nd (.nd .lf (some .dead)
 .lf) none
 .lf) none
 .lf))) none
 .lf) none
 .lf) none
 .lf) none
 .lf) none
 .lf) none
 .lf) none
 .lf)) none
 (.nd (.nd (.nd (.nd (.nd (.nd (.nd (.nd (.nd .lf none
 (.nd .lf none
 (.nd (.nd (.nd .lf (some .dead)
 .lf) none
 .lf) none
 .lf))) none
 .lf) none
 .lf) none
 .lf) none
 .lf) none
 .lf) none
 .lf) none
 .lf) none
 .lf))) none
 (.nd (.nd (.nd (.nd (.nd (.nd (.nd (.nd (.nd (.nd (.nd .lf none
 (.nd .lf none
 (.nd (.nd (.nd .lf (some .dead)
 .lf) none
 .lf) none
 .lf))) none
 .lf) none
 .lf) none
 .lf) none
 .lf) none
 .lf) none
 .lf) none
 .lf) none
 (.nd (.nd (.nd (.nd (.nd (.nd (.nd (.nd .lf none
 (.nd .lf none
 (.nd (.nd (.nd .lf (some .dead)
 .lf) none
 .lf) none
 .lf))) none
 .lf) none
 .lf) none
 .lf) none
 .lf) none
 .lf) none
 .lf) none
 .lf)) none
 (.nd (.nd (.nd (.nd (.nd (.nd (.nd (.nd (.nd .lf none
 (.nd .lf none
 (.nd (.nd (.nd .lf (some .dead)
 .lf) none
 .lf) none
 .lf))) none
 .lf) none
 .lf) none
 .lf) none
 .lf) none
 .lf) none
 .lf) none
 .lf) none
 .lf)) none
 (.nd (.nd (.nd (.nd (.nd (.nd (.nd (.nd (.nd (.nd .lf none
 (.nd .lf none
 (.nd (.nd (.nd .lf (some .dead)
 .lf) none
 .lf) none
 .lf))) none
 .lf) none
 .lf) none
 .lf) none
 .lf) none
 .lf) none
 .lf) none
 .lf) none
 .lf) none
 (.nd (.nd (.nd (.nd (.nd (.nd (.nd (.nd (.nd .lf none
 (.nd .lf none
 (.nd (.nd (.nd .lf (some .dead)
 .lf) none
 .lf) none
 .lf))) none
 .lf) none
 .lf) none
 .lf) none
 .lf) none
 .lf) none
 .lf) none
 .lf) none
 .lf))))) none
 (.nd (.nd (.nd (.nd (.nd (.nd (.nd (.nd (.nd (.nd (.nd (.nd (.nd .lf none
 (.nd .lf none
 (.nd (.nd (.nd .lf (some .dead)
 .lf) none
 .lf) none
 .lf))) none
 (.nd (.nd .lf none
 (.nd .lf (some .dead)
 .lf)) none
 .lf)) none
 .lf) none
 .lf) none
 .lf) none
 .lf) none
 .lf) none
 .lf) none
 (.nd (.nd (.nd (.nd (.nd (.nd (.nd (.nd .lf none
 (.nd .lf none
 (.nd (.nd (.nd .lf (some .dead)
 .lf) none
 .lf) none
 .lf))) none
 .lf) none
 .lf) none
 .lf) none
 .lf) none
 .lf) none
 .lf) none
 .lf)) none
 (.nd (.nd (.nd (.nd (.nd (.nd (.nd (.nd (.nd .lf none
 (.nd .lf none
 (.nd (.nd (.nd .lf (some .dead)
 .lf) none
 .lf) none
 .lf))) none
 .lf) none
 .lf) none
 .lf) none
 .lf) none
 .lf) none
 .lf) none
 .lf) none
 .lf)) none
 (.nd (.nd (.nd (.nd (.nd (.nd (.nd (.nd (.nd (.nd .lf none
 (.nd .lf none
 (.nd (.nd (.nd .lf (some .dead)
 .lf) none
 .lf) none
 .lf))) none
 .lf) none
 .lf) none
 .lf) none
 .lf) none
 .lf) none
 .lf) none
 .lf) none
 (.nd (.nd (.nd (.nd (.nd (.nd (.nd (.nd .lf none
 (.nd .lf none
 (.nd (.nd (.nd .lf (some .dead)
 .lf) none
 .lf) none
 .lf))) none
 .lf) none
 .lf) none
 .lf) none
 .lf) none
 .lf) none
 .lf) none
 .lf)) none
 (.nd (.nd (.nd (.nd (.nd (.nd (.nd (.nd (.nd .lf none
 (.nd .lf none
 (.nd (.nd (.nd .lf (some .dead)
 .lf) none
 .lf) none
 .lf))) none
 .lf) none
 .lf) none
 .lf) none
 .lf) none
 .lf) none
 .lf) none
 .lf) none
 .lf))) none
 (.nd (.nd (.nd (.nd (.nd (.nd (.nd (.nd (.nd (.nd (.nd .lf none
 (.nd .lf none
 (.nd (.nd (.nd .lf (some .dead)
 .lf) none
 .lf) none
 .lf))) none
 .lf) none
 .lf) none
 .lf) none
 .lf) none
 .lf) none
 .lf) none
 .lf) none
 (.nd (.nd (.nd (.nd (.nd (.nd (.nd (.nd .lf none
 (.nd .lf none
 (.nd (.nd (.nd .lf (some .dead)
 .lf) none
 .lf) none
 .lf))) none
 .lf) none
 .lf) none
 .lf) none
 .lf) none
 .lf) none
 .lf) none
 .lf)) none
 (.nd (.nd (.nd (.nd (.nd (.nd (.nd (.nd (.nd .lf none
 (.nd .lf none
 (.nd (.nd (.nd .lf (some .dead)
 .lf) none
 .lf) none
 .lf))) none
 .lf) none
 .lf) none
 .lf) none
 .lf) none
 .lf) none
 .lf) none
 .lf) none
 .lf)) none
 (.nd (.nd (.nd (.nd (.nd (.nd (.nd (.nd (.nd (.nd .lf none
 (.nd .lf none
 (.nd (.nd (.nd .lf (some .dead)
 .lf) none
 .lf) none
 .lf))) none
 .lf) none
 .lf) none
 .lf) none
 .lf) none
 .lf) none
 .lf) none
 .lf) none
 .lf) none
 (.nd (.nd (.nd (.nd (.nd (.nd (.nd (.nd (.nd .lf none
 (.nd .lf none
 (.nd (.nd (.nd .lf (some .dead)
 .lf) none
 .lf) none
 .lf))) none
 .lf) none
 .lf) none
 .lf) none
 .lf) none
 .lf) none
 .lf) none
 .lf) none
 .lf)))) none
 (.nd (.nd (.nd (.nd (.nd (.nd (.nd (.nd (.nd (.nd (.nd (.nd .lf none
 (.nd .lf none
 (.nd (.nd (.nd .lf (some .dead)
 .lf) none
 .lf) none
 .lf))) none
 .lf) none
 .lf) none
 .lf) none
 .lf) none
 .lf) none
 .lf) none
 .lf) none
 (.nd (.nd (.nd (.nd (.nd (.nd (.nd (.nd .lf none
 (.nd .lf none
 (.nd (.nd (.nd .lf (some .dead)
 .lf) none
 .lf) none
 .lf))) none
 .lf) none
 .lf) none
 .lf) none
 .lf) none
 .lf) none
 .lf) none
 .lf)) none
 (.nd (.nd (.nd (.nd (.nd (.nd (.nd (.nd (.nd .lf none
 (.nd .lf none
 (.nd (.nd (.nd .lf (some .dead)
 .lf) none
 .lf) none
 .lf))) none
 .lf) none
 .lf) none
 .lf) none
 .lf) none
 .lf) none
 .lf) none
 .lf) none
 .lf)) none
 (.nd (.nd (.nd (.nd (.nd (.nd (.nd (.nd (.nd (.nd .lf none
 (.nd .lf none
 (.nd (.nd (.nd .lf (some .dead)
 .lf) none
 .lf) none
 .lf))) none
 .lf) none
 .lf) none
 .lf) none
 .lf) none
 .lf) none
 .lf) none
 .lf) none
 (.nd (.nd (.nd (.nd (.nd (.nd (.nd (.nd .lf none
 (.nd .lf none
 (.nd (.nd (.nd .lf (some .dead)
 .lf) none
 .lf) none
 .lf))) none
 .lf) none
 .lf) none
 .lf) none
 .lf) none
 .lf) none
 .lf) none
 .lf)) none
 (.nd (.nd (.nd (.nd (.nd (.nd (.nd (.nd (.nd .lf none
 (.nd .lf none
 (.nd (.nd (.nd .lf (some .dead)
 .lf) none
 .lf) none
 .lf))) none
 .lf) none
 .lf) none
 .lf) none
 .lf) none
 .lf) none
 .lf) none
 .lf) none
 .lf))) none
 (.nd (.nd (.nd (.nd (.nd (.nd (.nd (.nd (.nd (.nd (.nd .lf none
 (.nd .lf none
 (.nd (.nd (.nd .lf (some .dead)
 .lf) none
 .lf) none
 .lf))) none
 .lf) none
 .lf) none
 .lf) none
 .lf) none
 .lf) none
 .lf) none
 .lf) none
 (.nd (.nd (.nd (.nd (.nd (.nd (.nd (.nd .lf none
 (.nd .lf none
 (.nd (.nd (.nd .lf (some .dead)
 .lf) none
 .lf) none
 .lf))) none
 .lf) none
 .lf) none
 .lf) none
 .lf) none
 .lf) none
 .lf) none
 .lf)) none
 (.nd (.nd (.nd (.nd (.nd (.nd (.nd (.nd (.nd .lf none
 (.nd .lf none
 (.nd (.nd (.nd .lf (some .dead)
 .lf) none
 .lf) none
 .lf))) none
 .lf) none
 .lf) none
 .lf) none
 .lf) none
 .lf) none
 .lf) none
 .lf) none
 .lf)) none
 (.nd (.nd (.nd (.nd (.nd (.nd (.nd (.nd (.nd (.nd .lf none
 (.nd .lf none
 (.nd (.nd (.nd .lf (some .dead)
 .lf) none
 .lf) none
 .lf))) none
 .lf) none
 .lf) none
 .lf) none
 .lf) none
 .lf) none
 .lf) none
 .lf) none
 .lf) none
 (.nd (.nd (.nd (.nd (.nd (.nd (.nd (.nd (.nd .lf none
 (.nd .lf none
 (.nd (.nd (.nd .lf (some .dead)
 .lf) none
 .lf) none
 .lf))) none
 .lf) none
 .lf) none
 .lf) none
 .lf) none
 .lf) none
 .lf) none
 .lf) none
 .lf))))))) none
 (.nd (.nd (.nd (.nd (.nd (.nd (.nd (.nd (.nd (.nd (.nd (.nd (.nd (.nd (.nd .lf none
 (.nd (.nd .lf (some .dead)
 .lf) none
 .lf)) none
 (.nd (.nd .lf none
 (.nd .lf (some .dead)
 .lf)) (some (.row none [(.slice (some ⟨196621, 0, none⟩) 3 3), (.map (some 196611)), (.int .i64 0), (.int .i64 0), (.bool false)]))
 (.nd .lf (some (.row none [(.int .i64 3), (.int .i64 2), (.int .i64 (-1)), (.int .i64 1), (.int .i64 0), (.int .i64 (-1)), (.int .i64 0), (.int .i64 0), (.int .i64 (-1)), (.int .i64 0), (.int .i64 0), (.int .i64 (-1))]))
 (.nd (.nd .lf (some (.row none [(.int .i64 2), (.int .i64 0), (.int .i64 0), (.int .i64 0), (.int .i64 0), (.int .i64 0), (.int .i64 (-1)), (.slice none 0 0), (.slice none 0 0), (.slice none 0 0), (.int .i64 0), (.int .i64 0), (.int .i64 0), (.int .i64 0), (.int .i64 0), (.int .i64 0), (.int .i64 0), (.int .i64 0), (.int .i64 (-1)), (.slice none 0 0), (.slice none 0 0), (.slice none 0 0), (.int .i64 0), (.int .i64 0), (.int .i64 0), (.int .i64 0), (.int .i64 0), (.int .i64 0), (.int .i64 0), (.int .i64 0), (.int .i64 (-1)), (.slice none 0 0), (.slice none 0 0), (.slice none 0 0), (.int .i64 0), (.int .i64 0), (.int .i64 0), (.int .i64 0), (.int .i64 0), (.int .i64 0), (.int .i64 0), (.int .i64 0), (.int .i64 (-1)), (.slice none 0 0), (.slice none 0 0), (.slice none 0 0), (.int .i64 0), (.int .i64 0)]))
 .lf) none
 .lf)))) none
 .lf) none
 .lf) none
 .lf) none
 .lf) none
 .lf) none
 .lf) none
 (.nd (.nd (.nd (.nd (.nd (.nd (.nd (.nd .lf none
 (.nd .lf none
 (.nd (.nd (.nd .lf (some .dead)
 .lf) none
 .lf) none
 .lf))) none
 .lf) none
 .lf) none
 .lf) none
 .lf) none
 .lf) none
 .lf) none
 .lf)) none
 (.nd (.nd (.nd (.nd (.nd (.nd (.nd (.nd (.nd .lf none
 (.nd .lf none
 (.nd (.nd (.nd .lf (some .dead)
 .lf) none
 .lf) none
 .lf))) none
 .lf) none
 .lf) none
 .lf) none
 .lf) none
 .lf) none
 .lf) none
 .lf) none
 .lf)) none
 (.nd (.nd (.nd (.nd (.nd (.nd (.nd (.nd (.nd (.nd .lf none
 (.nd .lf none
 (.nd (.nd (.nd .lf (some .dead)
 .lf) none
 .lf) none
 .lf))) none
 .lf) none
 .lf) none
 .lf) none
 .lf) none
 .lf) none
 .lf) none
 .lf) none
 (.nd (.nd (.nd (.nd (.nd (.nd (.nd (.nd .lf none
 (.nd .lf none
 (.nd (.nd (.nd .lf (some .dead)
 .lf) none
 .lf) none
 .lf))) none
 .lf) none
 .lf) none
 .lf) none
 .lf) none
 .lf) none
 .lf) none
 .lf)) none
 (.nd (.nd (.nd (.nd (.nd (.nd (.nd (.nd (.nd .lf none
 (.nd .lf none
 (.nd (.nd (.nd .lf (some .dead)
 .lf) none
 .lf) none
 .lf))) none
 .lf) none
 .lf) none
 .lf) none
 .lf) none
 .lf) none
 .lf) none
 .lf) none
 .lf))) none
 (.nd (.nd (.nd (.nd (.nd (.nd (.nd (.nd (.nd (.nd (.nd .lf none
 (.nd .lf none
 (.nd (.nd (.nd .lf (some .dead)
 .lf) none
 .lf) none
 .lf))) none
 .lf) none
 .lf) none
 .lf) none
 .lf) none
 .lf) none
 .lf) none
 .lf) none
 (.nd (.nd (.nd (.nd (.nd (.nd (.nd (.nd .lf none
 (.nd .lf none
 (.nd (.nd (.nd .lf (some .dead)
 .lf) none
 .lf) none
 .lf))) none
 .lf) none
 .lf) none
 .lf) none
 .lf) none
 .lf) none
 .lf) none
 .lf)) none
 (.nd (.nd (.nd (.nd (.nd (.nd (.nd (.nd (.nd .lf none
 (.nd .lf none
 (.nd (.nd (.nd .lf (some .dead)
 .lf) none
 .lf) none
 .lf))) none
 .lf) none
 .lf) none
 .lf) none
 .lf) none
 .lf) none
 .lf) none
 .lf) none
 .lf)) none
 (.nd (.nd (.nd (.nd (.nd (.nd (.nd (.nd (.nd (.nd .lf none
 (.nd .lf none
 (.nd (.nd (.nd .lf (some .dead)
 .lf) none
 .lf) none
 .lf))) none
 .lf) none
 .lf) none
 .lf) none
 .lf) none
 .lf) none
 .lf) none
 .lf) none
 (.nd (.nd (.nd (.nd (.nd (.nd (.nd (.nd .lf none
 (.nd .lf none
 (.nd (.nd (.nd .lf (some .dead)
 .lf) none
 .lf) none
 .lf))) none
 .lf) none
 .lf) none
 .lf) none
 .lf) none
 .lf) none
 .lf) none
 .lf)) none
 (.nd (.nd (.nd (.nd (.nd (.nd (.nd (.nd (.nd .lf none
 (.nd .lf none
 (.nd (.nd (.nd .lf (some .dead)
 .lf) none
 .lf) none
 .lf))) none
 .lf) none
 .lf) none
 .lf) none
 .lf) none
 .lf) none
 .lf) none
 .lf) none
 .lf)))) none
 (.nd (.nd (.nd (.nd (.nd (.nd (.nd (.nd (.nd (.nd (.nd (.nd .lf none
 (.nd .lf none
 (.nd (.nd (.nd .lf (some .dead)
 .lf) none
 .lf) none
 .lf))) none
 (.nd (.nd .lf none
 (.nd .lf (some (.row (some 1) [(.int .i64 0), (.int .i64 0), (.int .i64 0), (.int .i64 0), (.int .i64 0), (.int .i64 0), (.int .i64 0), (.int .i64 0), (.int .i64 0), (.int .i64 0), (.int .i64 0), (.int .i64 0), (.int .i64 0), (.int .i64 0), (.int .i64 0), (.int .i64 0)]))
 .lf)) none
 .lf)) none
 .lf) none
 .lf) none
 .lf) none
 .lf) none
 .lf) none
 .lf) none
 (.nd (.nd (.nd (.nd (.nd (.nd (.nd (.nd .lf none
 (.nd .lf none
 (.nd (.nd (.nd .lf (some .dead)
 .lf) none
 .lf) none
 .lf))) none
 .lf) none
 .lf) none
 .lf) none
 .lf) none
 .lf) none
 .lf) none
 .lf)) none
 (.nd (.nd (.nd (.nd (.nd (.nd (.nd (.nd (.nd .lf none
 (.nd .lf none
 (.nd (.nd (.nd .lf (some .dead)
 .lf) none
 .lf) none
 .lf))) none
 .lf) none
 .lf) none
 .lf) none
 .lf) none
 .lf) none
 .lf) none
 .lf) none
 .lf)) none
 (.nd (.nd (.nd (.nd (.nd (.nd (.nd (.nd (.nd (.nd .lf none
 (.nd .lf none
 (.nd (.nd (.nd .lf (some .dead)
 .lf) none
 .lf) none
 .lf))) none
 .lf) none
 .lf) none
 .lf) none
 .lf) none
 .lf) none
 .lf) none
 .lf) none
 (.nd (.nd (.nd (.nd (.nd (.nd (.nd (.nd .lf none
 (.nd .lf none
 (.nd (.nd (.nd .lf (some .dead)
 .lf) none
 .lf) none
 .lf))) none
 .lf) none
 .lf) none
 .lf) none
 .lf) none
 .lf) none
 .lf) none
 .lf)) none
 (.nd (.nd (.nd (.nd (.nd (.nd (.nd (.nd (.nd .lf none
 (.nd .lf none
 (.nd (.nd (.nd .lf (some .dead)
 .lf) none
 .lf) none
 .lf))) none
 .lf) none
 .lf) none
 .lf) none
 .lf) none
 .lf) none
 .lf) none
 .lf) none
 .lf))) none
 (.nd (.nd (.nd (.nd (.nd (.nd (.nd (.nd (.nd (.nd (.nd .lf none
 (.nd .lf none
 (.nd (.nd (.nd .lf (some .dead)
 .lf) none
 .lf) none
 .lf))) none
 .lf) none
 .lf) none
 .lf) none
 .lf) none
 .lf) none
 .lf) none
 .lf) none
 (.nd (.nd (.nd (.nd (.nd (.nd (.nd (.nd .lf none
 (.nd .lf none
 (.nd (.nd (.nd .lf (some .dead)
 .lf) none
 .lf) none
 .lf))) none
 .lf) none
 .lf) none
 .lf) none
 .lf) none
 .lf) none
 .lf) none
 .lf)) none
 (.nd (.nd (.nd (.nd (.nd (.nd (.nd (.nd (.nd .lf none
 (.nd .lf none
 (.nd (.nd (.nd .lf (some .dead)
 .lf) none
 .lf) none
 .lf))) none
 .lf) none
 .lf) none
 .lf) none
 .lf) none
 .lf) none
 .lf) none
 .lf) none
 .lf)) none
 (.nd (.nd (.nd (.nd (.nd (.nd (.nd (.nd (.nd (.nd .lf none
 (.nd .lf none
 (.nd (.nd (.nd .lf (some .dead)
 .lf) none
 .lf) none
 .lf))) none
 .lf) none
 .lf) none
 .lf) none
 .lf) none
 .lf) none
 .lf) none
 .lf) none
 .lf) none
 (.nd (.nd (.nd (.nd (.nd (.nd (.nd (.nd (.nd .lf none
 (.nd .lf none
 (.nd (.nd (.nd .lf (some .dead)
 .lf) none
 .lf) none
 .lf))) none
 .lf) none
 .lf) none
 .lf) none
 .lf) none
 .lf) none
 .lf) none
 .lf) none
 .lf))))) none
 (.nd (.nd (.nd (.nd (.nd (.nd (.nd (.nd (.nd (.nd (.nd (.nd (.nd .lf none
 (.nd .lf none
 (.nd (.nd (.nd .lf (some .dead)
 .lf) none
 .lf) none
 .lf))) none
 (.nd (.nd .lf none
 (.nd .lf (some .dead)
 .lf)) none
 .lf)) none
 .lf) none
 .lf) none
 .lf) none
 .lf) none
 .lf) none
 .lf) none
 (.nd (.nd (.nd (.nd (.nd (.nd (.nd (.nd .lf none
 (.nd .lf none
 (.nd (.nd (.nd .lf (some .dead)
 .lf) none
 .lf) none
 .lf))) none
 .lf) none
 .lf) none
 .lf) none
 .lf) none
 .lf) none
 .lf) none
 .lf)) none
 (.nd (.nd (.nd (.nd (.nd (.nd (.nd (.nd (.nd .lf none
 (.nd .lf none
 (.nd (.nd (.nd .lf (some .dead)
 .lf) none
 .lf) none
 .lf))) none
 .lf) none
 .lf) none
 .lf) none
 .lf) none
 .lf) none
 .lf) none
 .lf) none
 .lf)) none
 (.nd (.nd (.nd (.nd (.nd (.nd (.nd (.nd (.nd (.nd .lf none
 (.nd .lf none
 (.nd (.nd (.nd .lf (some .dead)
 .lf) none
 .lf) none
 .lf))) none
 .lf) none
 .lf) none
 .lf) none
 .lf) none
 .lf) none
 .lf) none
 .lf) none
 (.nd (.nd (.nd (.nd (.nd (.nd (.nd (.nd .lf none
 (.nd .lf none
 (.nd (.nd (.nd .lf (some .dead)
 .lf) none
 .lf) none
 .lf))) none
 .lf) none
 .lf) none
 .lf) none
 .lf) none
 .lf) none
 .lf) none
 .lf)) none
 (.nd (.nd (.nd (.nd (.nd (.nd (.nd (.nd (.nd .lf none
 (.nd .lf none
 (.nd (.nd (.nd .lf (some .dead)
 .lf) none
 .lf) none
 .lf))) none
 .lf) none
 .lf) none
 .lf) none
 .lf) none
 .lf) none
 .lf) none
 .lf) none
 .lf))) none
 (.nd (.nd (.nd (.nd (.nd (.nd (.nd (.nd (.nd (.nd (.nd .lf none
 (.nd .lf none
 (.nd (.nd (.nd .lf (some .dead)
 .lf) none
 .lf) none
 .lf))) none
 .lf) none
 .lf) none
 .lf) none
 .lf) none
 .lf) none
 .lf) none
 .lf) none
 (.nd (.nd (.nd (.nd (.nd (.nd (.nd (.nd .lf none
 (.nd .lf none
 (.nd (.nd (.nd .lf (some .dead)
 .lf) none
 .lf) none
 .lf))) none
 .lf) none
 .lf) none
 .lf) none
 .lf) none
 .lf) none
 .lf) none
 .lf)) none
 (.nd (.nd (.nd (.nd (.nd (.nd (.nd (.nd (.nd .lf none
 (.nd .lf none
 (.nd (.nd (.nd .lf (some .dead)
 .lf) none
 .lf) none
 .lf))) none
 .lf) none
 .lf) none
 .lf) none
 .lf) none
 .lf) none
 .lf) none
 .lf) none
 .lf)) none
 (.nd (.nd (.nd (.nd (.nd (.nd (.nd (.nd (.nd (.nd .lf none
 (.nd .lf none
 (.nd (.nd (.nd .lf (some .dead)
 .lf) none
 .lf) none
 .lf))) none
 .lf) none
 .lf) none
 .lf) none
 .lf) none
 .lf) none
 .lf) none
 .lf) none
 (.nd (.nd (.nd (.nd (.nd (.nd (.nd (.nd .lf none
 (.nd .lf none
 (.nd (.nd (.nd .lf (some .dead)
 .lf) none
 .lf) none
 .lf))) none
 .lf) none
 .lf) none
 .lf) none
 .lf) none
 .lf) none
 .lf) none
 .lf)) none
 (.nd (.nd (.nd (.nd (.nd (.nd (.nd (.nd (.nd .lf none
 (.nd .lf none
 (.nd (.nd (.nd .lf (some .dead)
 .lf) none
 .lf) none
 .lf))) none
 .lf) none
 .lf) none
 .lf) none
 .lf) none
 .lf) none
 .lf) none
 .lf) none
 .lf)))) none
 (.nd (.nd (.nd (.nd (.nd (.nd (.nd (.nd (.nd (.nd (.nd (.nd .lf none
 (.nd .lf none
 (.nd (.nd (.nd .lf (some .dead)
 .lf) none
 .lf) none
 .lf))) none
 .lf) none
 .lf) none
 .lf) none
 .lf) none
 .lf) none
 .lf) none
 .lf) none
 (.nd (.nd (.nd (.nd (.nd (.nd (.nd (.nd .lf none
 (.nd .lf none
 (.nd (.nd (.nd .lf (some .dead)
 .lf) none
 .lf) none
 .lf))) none
 .lf) none
 .lf) none
 .lf) none
 .lf) none
 .lf) none
 .lf) none
 .lf)) none
 (.nd (.nd (.nd (.nd (.nd (.nd (.nd (.nd (.nd .lf none
 (.nd .lf none
 (.nd (.nd (.nd .lf (some .dead)
 .lf) none
 .lf) none
 .lf))) none
 .lf) none
 .lf) none
 .lf) none
 .lf) none
 .lf) none
 .lf) none
 .lf) none
 .lf)) none
 (.nd (.nd (.nd (.nd (.nd (.nd (.nd (.nd (.nd (.nd .lf none
 (.nd .lf none
 (.nd (.nd (.nd .lf (some .dead)
 .lf) none
 .lf) none
 .lf))) none
 .lf) none
 .lf) none
 .lf) none
 .lf) none
 .lf) none
 .lf) none
 .lf) none
 (.nd (.nd (.nd (.nd (.nd (.nd (.nd (.nd .lf none
 (.nd .lf none
 (.nd (.nd (.nd .lf (some .dead)
 .lf) none
 .lf) none
 .lf))) none
 .lf) none
 .lf) none
 .lf) none
 .lf) none
 .lf) none
 .lf) none
 .lf)) none
 (.nd (.nd (.nd (.nd (.nd (.nd (.nd (.nd (.nd .lf none
 (.nd .lf none
 (.nd (.nd (.nd .lf (some .dead)
 .lf) none
 .lf) none
 .lf))) none
 .lf) none
 .lf) none
 .lf) none
 .lf) none
 .lf) none
 .lf) none
 .lf) none
 .lf))) none
 (.nd (.nd (.nd (.nd (.nd (.nd (.nd (.nd (.nd (.nd (.nd .lf none
 (.nd .lf none
 (.nd (.nd (.nd .lf (some .dead)
 .lf) none
 .lf) none
 .lf))) none
 .lf) none
 .lf) none
 .lf) none
 .lf) none
 .lf) none
 .lf) none
 .lf) none
 (.nd (.nd (.nd (.nd (.nd (.nd (.nd (.nd .lf none
 (.nd .lf none
 (.nd (.nd (.nd .lf (some .dead)
 .lf) none
 .lf) none
 .lf))) none
 .lf) none
 .lf) none
 .lf) none
 .lf) none
 .lf) none
 .lf) none
 .lf)) none
 (.nd (.nd (.nd (.nd (.nd (.nd (.nd (.nd (.nd .lf none
 (.nd .lf none
 (.nd (.nd (.nd .lf (some .dead)
 .lf) none
 .lf) none
 .lf))) none
 .lf) none
 .lf) none
 .lf) none
 .lf) none
 .lf) none
 .lf) none
 .lf) none
 .lf)) none
 (.nd (.nd (.nd (.nd (.nd (.nd (.nd (.nd (.nd (.nd .lf none
 (.nd .lf none
 (.nd (.nd (.nd .lf (some .dead)
 .lf) none
 .lf) none
 .lf))) none
 .lf) none
 .lf) none
 .lf) none
 .lf) none
 .lf) none
 .lf) none
 .lf) none
 .lf) none
 (.nd (.nd (.nd (.nd (.nd (.nd (.nd (.nd (.nd .lf none
 (.nd .lf none
 (.nd (.nd (.nd .lf (some .dead)
 .lf) none
 .lf) none
 .lf))) none
 .lf) none
 .lf) none
 .lf) none
 .lf) none
 .lf) none
 .lf) none
 .lf) none
 .lf)))))) none
 (.nd (.nd (.nd (.nd (.nd (.nd (.nd (.nd (.nd (.nd (.nd (.nd (.nd (.nd (.nd .lf none
 (.nd .lf none
 (.nd .lf (some (.row none [(.slice (some ⟨1835019, 0, none⟩) 32 32), (.int .i64 0), (.int .i64 0), (.int .i64 1)]))
 .lf))) none
 (.nd .lf none
 (.nd (.nd (.nd .lf (some .dead)
 .lf) none
 .lf) none
 .lf))) none
 (.nd (.nd .lf none
 (.nd .lf (some .dead)
 .lf)) (some .dead)
 .lf)) none
 .lf) none
 .lf) none
 .lf) none
 .lf) none
 .lf) none
 .lf) none
 (.nd (.nd (.nd (.nd (.nd (.nd (.nd (.nd .lf none
 (.nd .lf none
 (.nd (.nd (.nd .lf (some .dead)
 .lf) none
 .lf) none
 .lf))) none
 .lf) none
 .lf) none
 .lf) none
 .lf) none
 .lf) none
 .lf) none
 .lf)) none
 (.nd (.nd (.nd (.nd (.nd (.nd (.nd (.nd (.nd .lf none
 (.nd .lf none
 (.nd (.nd (.nd .lf (some .dead)
 .lf) none
 .lf) none
 .lf))) none
 .lf) none
 .lf) none
 .lf) none
 .lf) none
 .lf) none
 .lf) none
 .lf) none
 .lf)) none
 (.nd (.nd (.nd (.nd (.nd (.nd (.nd (.nd (.nd (.nd .lf none
 (.nd .lf none
 (.nd (.nd (.nd .lf (some .dead)
 .lf) none
 .lf) none
 .lf))) none
 .lf) none
 .lf) none
 .lf) none
 .lf) none
 .lf) none
 .lf) none
 .lf) none
 (.nd (.nd (.nd (.nd (.nd (.nd (.nd (.nd .lf none
 (.nd .lf none
 (.nd (.nd (.nd .lf (some .dead)
 .lf) none
 .lf) none
 .lf))) none
 .lf) none
 .lf) none
 .lf) none
 .lf) none
 .lf) none
 .lf) none
 .lf)) none
 (.nd (.nd (.nd (.nd (.nd (.nd (.nd (.nd (.nd .lf none
 (.nd .lf none
 (.nd (.nd (.nd .lf (some .dead)
 .lf) none
 .lf) none
 .lf))) none
 .lf) none
 .lf) none
 .lf) none
 .lf) none
 .lf) none
 .lf) none
 .lf) none
 .lf))) none
 (.nd (.nd (.nd (.nd (.nd (.nd (.nd (.nd (.nd (.nd (.nd .lf none
 (.nd .lf none
 (.nd (.nd (.nd .lf (some .dead)
 .lf) none
 .lf) none
 .lf))) none
 .lf) none
 .lf) none
 .lf) none
 .lf) none
 .lf) none
 .lf) none
 .lf) none
 (.nd (.nd (.nd (.nd (.nd (.nd (.nd (.nd .lf none
 (.nd .lf none
 (.nd (.nd (.nd .lf (some .dead)
 .lf) none
 .lf) none
 .lf))) none
 .lf) none
 .lf) none
 .lf) none
 .lf) none
 .lf) none
 .lf) none
 .lf)) none
 (.nd (.nd (.nd (.nd (.nd (.nd (.nd (.nd (.nd .lf none
 (.nd .lf none
 (.nd (.nd (.nd .lf (some .dead)
 .lf) none
 .lf) none
 .lf))) none
 .lf) none
 .lf) none
 .lf) none
 .lf) none
 .lf) none
 .lf) none
 .lf) none
 .lf)) none
 (.nd (.nd (.nd (.nd (.nd (.nd (.nd (.nd (.nd (.nd .lf none
 (.nd .lf none
 (.nd (.nd (.nd .lf (some .dead)
 .lf) none
 .lf) none
 .lf))) none
 .lf) none
 .lf) none
 .lf) none
 .lf) none
 .lf) none
 .lf) none
 .lf) none
 (.nd (.nd (.nd (.nd (.nd (.nd (.nd (.nd .lf none
 (.nd .lf none
 (.nd (.nd (.nd .lf (some .dead)
 .lf) none
 .lf) none
 .lf))) none
 .lf) none
 .lf) none
 .lf) none
 .lf) none
 .lf) none
 .lf) none
 .lf)) none
 (.nd (.nd (.nd (.nd (.nd (.nd (.nd (.nd (.nd .lf none
 (.nd .lf none
 (.nd (.nd (.nd .lf (some .dead)
 .lf) none
 .lf) none
 .lf))) none
 .lf) none
 .lf) none
 .lf) none
 .lf) none
 .lf) none
 .lf) none
 .lf) none
 .lf)))) none
 (.nd (.nd (.nd (.nd (.nd (.nd (.nd (.nd (.nd (.nd (.nd (.nd .lf none
 (.nd .lf none
 (.nd (.nd (.nd .lf (some .dead)
 .lf) none
 .lf) none
 .lf))) none
 .lf) none
 .lf) none
 .lf) none
 .lf) none
 .lf) none
 .lf) none
 .lf) none
 (.nd (.nd (.nd (.nd (.nd (.nd (.nd (.nd .lf none
 (.nd .lf none
 (.nd (.nd (.nd .lf (some .dead)
 .lf) none
 .lf) none
 .lf))) none
 .lf) none
 .lf) none
 .lf) none
 .lf) none
 .lf) none
 .lf) none
 .lf)) none
 (.nd (.nd (.nd (.nd (.nd (.nd (.nd (.nd (.nd .lf none
 (.nd .lf none
 (.nd (.nd (.nd .lf (some .dead)
 .lf) none
 .lf) none
 .lf))) none
 .lf) none
 .lf) none
 .lf) none
 .lf) none
 .lf) none
 .lf) none
 .lf) none
 .lf)) none
 (.nd (.nd (.nd (.nd (.nd (.nd (.nd (.nd (.nd (.nd .lf none
 (.nd .lf none
 (.nd (.nd (.nd .lf (some .dead)
 .lf) none
 .lf) none
 .lf))) none
 .lf) none
 .lf) none
 .lf) none
 .lf) none
 .lf) none
 .lf) none
 .lf) none
 (.nd (.nd (.nd (.nd (.nd (.nd (.nd (.nd .lf none
 (.nd .lf none
 (.nd (.nd (.nd .lf (some .dead)
 .lf) none
 .lf) none
 .lf))) none
 .lf) none
 .lf) none
 .lf) none
 .lf) none
 .lf) none
 .lf) none
 .lf)) none
 (.nd (.nd (.nd (.nd (.nd (.nd (.nd (.nd (.nd .lf none
 (.nd .lf none
 (.nd (.nd (.nd .lf (some .dead)
 .lf) none
 .lf) none
 .lf))) none
 .lf) none
 .lf) none
 .lf) none
 .lf) none
 .lf) none
 .lf) none
 .lf) none
 .lf))) none
 (.nd (.nd (.nd (.nd (.nd (.nd (.nd (.nd (.nd (.nd (.nd .lf none
 (.nd .lf none
 (.nd (.nd (.nd .lf (some .dead)
 .lf) none
 .lf) none
 .lf))) none
 .lf) none
 .lf) none
 .lf) none
 .lf) none
 .lf) none
 .lf) none
 .lf) none
 (.nd (.nd (.nd (.nd (.nd (.nd (.nd (.nd .lf none
 (.nd .lf none
 (.nd (.nd (.nd .lf (some .dead)
 .lf) none
 .lf) none
 .lf))) none
 .lf) none
 .lf) none
 .lf) none
 .lf) none
 .lf) none
 .lf) none
 .lf)) none
 (.nd (.nd (.nd (.nd (.nd (.nd (.nd (.nd (.nd .lf none
 (.nd .lf none
 (.nd (.nd (.nd .lf (some .dead)
 .lf) none
 .lf) none
 .lf))) none
 .lf) none
 .lf) none
 .lf) none
 .lf) none
 .lf) none
 .lf) none
 .lf) none
 .lf)) none
 (.nd (.nd (.nd (.nd (.nd (.nd (.nd (.nd (.nd (.nd .lf none
 (.nd .lf none
 (.nd (.nd (.nd .lf (some .dead)
 .lf) none
 .lf) none
 .lf))) none
 .lf) none
 .lf) none
 .lf) none
 .lf) none
 .lf) none
 .lf) none
 .lf) none
 .lf) none
 (.nd (.nd (.nd (.nd (.nd (.nd (.nd (.nd (.nd .lf none
 (.nd .lf none
 (.nd (.nd (.nd .lf (some .dead)
 .lf) none
 .lf) none
 .lf))) none
 .lf) none
 .lf) none
 .lf) none
 .lf) none
 .lf) none
 .lf) none
 .lf) none
 .lf))))) none
 (.nd (.nd (.nd (.nd (.nd (.nd (.nd (.nd (.nd (.nd (.nd (.nd (.nd .lf none
 (.nd .lf none
 (.nd (.nd (.nd .lf (some .dead)
 .lf) none
 .lf) none
 .lf))) none
 (.nd (.nd .lf none
 (.nd .lf (some .dead)
 .lf)) none
 .lf)) none
 .lf) none
 .lf) none
 .lf) none
 .lf) none
 .lf) none
 .lf) none
 (.nd (.nd (.nd (.nd (.nd (.nd (.nd (.nd .lf none
 (.nd .lf none
 (.nd (.nd (.nd .lf (some .dead)
 .lf) none
 .lf) none
 .lf))) none
 .lf) none
 .lf) none
 .lf) none
 .lf) none
 .lf) none
 .lf) none
 .lf)) none
 (.nd (.nd (.nd (.nd (.nd (.nd (.nd (.nd (.nd .lf none
 (.nd .lf none
 (.nd (.nd (.nd .lf (some .dead)
 .lf) none
 .lf) none
 .lf))) none
 .lf) none
 .lf) none
 .lf) none
 .lf) none
 .lf) none
 .lf) none
 .lf) none
 .lf)) none
 (.nd (.nd (.nd (.nd (.nd (.nd (.nd (.nd (.nd (.nd .lf none
 (.nd .lf none
 (.nd (.nd (.nd .lf (some .dead)
 .lf) none
 .lf) none
 .lf))) none
 .lf) none
 .lf) none
 .lf) none
 .lf) none
 .lf) none
 .lf) none
 .lf) none
 (.nd (.nd (.nd (.nd (.nd (.nd (.nd (.nd .lf none
 (.nd .lf none
 (.nd (.nd (.nd .lf (some .dead)
 .lf) none
 .lf) none
 .lf))) none
 .lf) none
 .lf) none
 .lf) none
 .lf) none
 .lf) none
 .lf) none
 .lf)) none
 (.nd (.nd (.nd (.nd (.nd (.nd (.nd (.nd (.nd .lf none
 (.nd .lf none
 (.nd (.nd (.nd .lf (some .dead)
 .lf) none
 .lf) none
 .lf))) none
 .lf) none
 .lf) none
 .lf) none
 .lf) none
 .lf) none
 .lf) none
 .lf) none
 .lf))) none
 (.nd (.nd (.nd (.nd (.nd (.nd (.nd (.nd (.nd (.nd (.nd .lf none
 (.nd .lf none
 (.nd (.nd (.nd .lf (some .dead)
 .lf) none
 .lf) none
 .lf))) none
 .lf) none
 .lf) none
 .lf) none
 .lf) none
 .lf) none
 .lf) none
 .lf) none
 (.nd (.nd (.nd (.nd (.nd (.nd (.nd (.nd .lf none
 (.nd .lf none
 (.nd (.nd (.nd .lf (some .dead)
 .lf) none
 .lf) none
 .lf))) none
 .lf) none
 .lf) none
 .lf) none
 .lf) none
 .lf) none
 .lf) none
 .lf)) none
 (.nd (.nd (.nd (.nd (.nd (.nd (.nd (.nd (.nd .lf none
 (.nd .lf none
 (.nd (.nd (.nd .lf (some .dead)
 .lf) none
 .lf) none
 .lf))) none
 .lf) none
 .lf) none
 .lf) none
 .lf) none
 .lf) none
 .lf) none
 .lf) none
 .lf)) none
 (.nd (.nd (.nd (.nd (.nd (.nd (.nd (.nd (.nd (.nd .lf none
 (.nd .lf none
 (.nd (.nd (.nd .lf (some .dead)
 .lf) none
 .lf) none
 .lf))) none
 .lf) none
 .lf) none
 .lf) none
 .lf) none
 .lf) none
 .lf) none
 .lf) none
 .lf) none
 (.nd (.nd (.nd (.nd (.nd (.nd (.nd (.nd (.nd .lf none
 (.nd .lf none
 (.nd (.nd (.nd .lf (some .dead)
 .lf) none
 .lf) none
 .lf))) none
 .lf) none
 .lf) none
 .lf) none
 .lf) none
 .lf) none
 .lf) none
 .lf) none
 .lf)))) none
 (.nd (.nd (.nd (.nd (.nd (.nd (.nd (.nd (.nd (.nd (.nd (.nd .lf none
 (.nd .lf none
 (.nd (.nd (.nd .lf (some .dead)
 .lf) none
 .lf) none
 .lf))) none
 .lf) none
 .lf) none
 .lf) none
 .lf) none
 .lf) none
 .lf) none
 .lf) none
 (.nd (.nd (.nd (.nd (.nd (.nd (.nd (.nd .lf none
 (.nd .lf none
 (.nd (.nd (.nd .lf (some .dead)
 .lf) none
 .lf) none
 .lf))) none
 .lf) none
 .lf) none
 .lf) none
 .lf) none
 .lf) none
 .lf) none
 .lf)) none
 (.nd (.nd (.nd (.nd (.nd (.nd (.nd (.nd (.nd .lf none
 (.nd .lf none
 (.nd (.nd (.nd .lf (some .dead)
 .lf) none
 .lf) none
 .lf))) none
 .lf) none
 .lf) none
 .lf) none
 .lf) none
 .lf) none
 .lf) none
 .lf) none
 .lf)) none
 (.nd (.nd (.nd (.nd (.nd (.nd (.nd (.nd (.nd (.nd .lf none
 (.nd .lf none
 (.nd (.nd (.nd .lf (some .dead)
 .lf) none
 .lf) none
 .lf))) none
 .lf) none
 .lf) none
 .lf) none
 .lf) none
 .lf) none
 .lf) none
 .lf) none
 (.nd (.nd (.nd (.nd (.nd (.nd (.nd (.nd .lf none
 (.nd .lf none
 (.nd (.nd (.nd .lf (some .dead)
 .lf) none
 .lf) none
 .lf))) none
 .lf) none
 .lf) none
 .lf) none
 .lf) none
 .lf) none
 .lf) none
 .lf)) none
 (.nd (.nd (.nd (.nd (.nd (.nd (.nd (.nd (.nd .lf none
 (.nd .lf none
 (.nd (.nd (.nd .lf (some .dead)
 .lf) none
 .lf) none
 .lf))) none
 .lf) none
 .lf) none
 .lf) none
 .lf) none
 .lf) none
 .lf) none
 .lf) none
 .lf))) none
 (.nd (.nd (.nd (.nd (.nd (.nd (.nd (.nd (.nd (.nd (.nd .lf none
 (.nd .lf none
 (.nd (.nd (.nd .lf (some .dead)
 .lf) none
 .lf) none
 .lf))) none
 .lf) none
 .lf) none
 .lf) none
 .lf) none
 .lf) none
 .lf) none
 .lf) none
 (.nd (.nd (.nd (.nd (.nd (.nd (.nd (.nd .lf none
 (.nd .lf none
 (.nd (.nd (.nd .lf (some .dead)
 .lf) none
 .lf) none
 .lf))) none
 .lf) none
 .lf) none
 .lf) none
 .lf) none
 .lf) none
 .lf) none
 .lf)) none
 (.nd (.nd (.nd (.nd (.nd (.nd (.nd (.nd (.nd .lf none
 (.nd .lf none
 (.nd (.nd (.nd .lf (some .dead)
 .lf) none
 .lf) none
 .lf))) none
 .lf) none
 .lf) none
 .lf) none
 .lf) none
 .lf) none
 .lf) none
 .lf) none
 .lf)) none
 (.nd (.nd (.nd (.nd (.nd (.nd (.nd (.nd (.nd (.nd .lf none
 (.nd .lf none
 (.nd (.nd (.nd .lf (some .dead)
 .lf) none
 .lf) none
 .lf))) none
 .lf) none
 .lf) none
 .lf) none
 .lf) none
 .lf) none
 .lf) none
 .lf) none
 .lf) none
 (.nd (.nd (.nd (.nd (.nd (.nd (.nd (.nd (.nd .lf none
 (.nd .lf none
 (.nd (.nd (.nd .lf (some .dead)
 .lf) none
 .lf) none
 .lf))) none
 .lf) none
 .lf) none
 .lf) none
 .lf) none
 .lf) none
 .lf) none
 .lf) none
 .lf)))))))) (some .dead)
 (.nd (.nd (.nd (.nd (.nd (.nd (.nd (.nd .lf none
 (.nd (.nd (.nd (.nd (.nd (.nd (.nd (.nd .lf none
 (.nd .lf none
 (.nd (.nd (.nd .lf (some .dead)
 .lf) none
 .lf) none
 .lf))) none
 .lf) none
 .lf) none
 .lf) none
 .lf) none
 .lf) none
 .lf) none
 .lf)) none
 (.nd (.nd (.nd (.nd (.nd (.nd (.nd (.nd (.nd .lf none
 (.nd .lf none
 (.nd (.nd (.nd .lf (some .dead)
 .lf) none
 .lf) none
 .lf))) none
 .lf) none
 .lf) none
 .lf) none
 .lf) none
 .lf) none
 .lf) none
 .lf) none
 .lf)) none
 (.nd (.nd (.nd (.nd (.nd (.nd (.nd (.nd (.nd (.nd .lf none
 (.nd .lf none
 (.nd (.nd (.nd .lf (some .dead)
 .lf) none
 .lf) none
 .lf))) none
 .lf) none
 .lf) none
 .lf) none
 .lf) none
 .lf) none
 .lf) none
 .lf) none
 (.nd (.nd (.nd (.nd (.nd (.nd (.nd (.nd .lf none
 (.nd .lf none
 (.nd (.nd (.nd .lf (some .dead)
 .lf) none
 .lf) none
 .lf))) none
 .lf) none
 .lf) none
 .lf) none
 .lf) none
 .lf) none
 .lf) none
 .lf)) none
 (.nd (.nd (.nd (.nd (.nd (.nd (.nd (.nd (.nd .lf none
 (.nd .lf none
 (.nd (.nd (.nd .lf (some .dead)
 .lf) none
 .lf) none
 .lf))) none
 .lf) none
 .lf) none
 .lf) none
 .lf) none
 .lf) none
 .lf) none
 .lf) none
 .lf))) none
 (.nd (.nd (.nd (.nd (.nd (.nd (.nd (.nd (.nd (.nd (.nd .lf none
 (.nd .lf none
 (.nd (.nd (.nd .lf (some .dead)
 .lf) none
 .lf) none
 .lf))) none
 .lf) none
 .lf) none
 .lf) none
 .lf) none
 .lf) none
 .lf) none
 .lf) none
 (.nd (.nd (.nd (.nd (.nd (.nd (.nd (.nd .lf none
 (.nd .lf none
 (.nd (.nd (.nd .lf (some .dead)
 .lf) none
 .lf) none
 .lf))) none
 .lf) none
 .lf) none
 .lf) none
 .lf) none
 .lf) none
 .lf) none
 .lf)) none
 (.nd (.nd (.nd (.nd (.nd (.nd (.nd (.nd (.nd .lf none
 (.nd .lf none
 (.nd (.nd (.nd .lf (some .dead)
 .lf) none
 .lf) none
 .lf))) none
 .lf) none
 .lf) none
 .lf) none
 .lf) none
 .lf) none
 .lf) none
 .lf) none
 .lf)) none
 (.nd (.nd (.nd (.nd (.nd (.nd (.nd (.nd (.nd (.nd .lf none
 (.nd .lf none
 (.nd (.nd (.nd .lf (some .dead)
 .lf) none
 .lf) none
 .lf))) none
 .lf) none
 .lf) none
 .lf) none
 .lf) none
 .lf) none
 .lf) none
 .lf) none
 (.nd (.nd (.nd (.nd (.nd (.nd (.nd (.nd .lf none
 (.nd .lf none
 (.nd (.nd (.nd .lf (some .dead)
 .lf) none
 .lf) none
 .lf))) none
 .lf) none
 .lf) none
 .lf) none
 .lf) none
 .lf) none
 .lf) none
 .lf)) none
 (.nd (.nd (.nd (.nd (.nd (.nd (.nd (.nd (.nd .lf none
 (.nd .lf none
 (.nd (.nd (.nd .lf (some .dead)
 .lf) none
 .lf) none
 .lf))) none
 .lf) none
 .lf) none
 .lf) none
 .lf) none
 .lf) none
 .lf) none
 .lf) none
 .lf)))) none
 (.nd (.nd (.nd (.nd (.nd (.nd (.nd (.nd (.nd (.nd (.nd (.nd .lf none
 (.nd .lf none
 (.nd (.nd (.nd .lf (some .dead)
 .lf) none
 .lf) none
 .lf))) none
 (.nd (.nd .lf none
 (.nd .lf (some .dead)
 .lf)) none
 .lf)) none
 .lf) none
 .lf) none
 .lf) none
 .lf) none
 .lf) none
 .lf) none
 (.nd (.nd (.nd (.nd (.nd (.nd (.nd (.nd .lf none
 (.nd .lf none
 (.nd (.nd (.nd .lf (some .dead)
 .lf) none
 .lf) none
 .lf))) none
 .lf) none
 .lf) none
 .lf) none
 .lf) none
 .lf) none
 .lf) none
 .lf)) none
 (.nd (.nd (.nd (.nd (.nd (.nd (.nd (.nd (.nd .lf none
 (.nd .lf none
 (.nd (.nd (.nd .lf (some .dead)
 .lf) none
 .lf) none
 .lf))) none
 .lf) none
 .lf) none
 .lf) none
 .lf) none
 .lf) none
 .lf) none
 .lf) none
 .lf)) none
 (.nd (.nd (.nd (.nd (.nd (.nd (.nd (.nd (.nd (.nd .lf none
 (.nd .lf none
 (.nd (.nd (.nd .lf (some .dead)
 .lf) none
 .lf) none
 .lf))) none
 .lf) none
 .lf) none
 .lf) none
 .lf) none
 .lf) none
 .lf) none
 .lf) none
 (.nd (.nd (.nd (.nd (.nd (.nd (.nd (.nd .lf none
 (.nd .lf none
 (.nd (.nd (.nd .lf (some .dead)
 .lf) none
 .lf) none
 .lf))) none
 .lf) none
 .lf) none
 .lf) none
 .lf) none
 .lf) none
 .lf) none
 .lf)) none
 (.nd (.nd (.nd (.nd (.nd (.nd (.nd (.nd (.nd .lf none
 (.nd .lf none
 (.nd (.nd (.nd .lf (some .dead)
 .lf) none
 .lf) none
 .lf))) none
 .lf) none
 .lf) none
 .lf) none
 .lf) none
 .lf) none
 .lf) none
 .lf) none
 .lf))) none
 (.nd (.nd (.nd (.nd (.nd (.nd (.nd (.nd (.nd (.nd (.nd .lf none
 (.nd .lf none
 (.nd (.nd (.nd .lf (some .dead)
 .lf) none
 .lf) none
 .lf))) none
 .lf) none
 .lf) none
 .lf) none
 .lf) none
 .lf) none
 .lf) none
 .lf) none
 (.nd (.nd (.nd (.nd (.nd (.nd (.nd (.nd .lf none
 (.nd .lf none
 (.nd (.nd (.nd .lf (some .dead)
 .lf) none
 .lf) none
 .lf))) none
 .lf) none
 .lf) none
 .lf) none
 .lf) none
 .lf) none
 .lf) none
 .lf)) none
 (.nd (.nd (.nd (.nd (.nd (.nd (.nd (.nd (.nd .lf none
 (.nd .lf none
 (.nd (.nd (.nd .lf (some .dead)
 .lf) none
 .lf) none
 .lf))) none
 .lf) none
 .lf) none
 .lf) none
 .lf) none
 .lf) none
 .lf) none
 .lf) none
 .lf)) none
 (.nd (.nd (.nd (.nd (.nd (.nd (.nd (.nd (.nd (.nd .lf none
 (.nd .lf none
 (.nd (.nd (.nd .lf (some .dead)
 .lf) none
 .lf) none
 .lf))) none
 .lf) none
 .lf) none
 .lf) none
 .lf) none
 .lf) none
 .lf) none
 .lf) none
 .lf) none
 (.nd (.nd (.nd (.nd (.nd (.nd (.nd (.nd (.nd .lf none
 (.nd .lf none
 (.nd (.nd (.nd .lf (some .dead)
 .lf) none
 .lf) none
 .lf))) none
 .lf) none
 .lf) none
 .lf) none
 .lf) none
 .lf) none
 .lf) none
 .lf) none
 .lf))))) none
 (.nd (.nd (.nd (.nd (.nd (.nd (.nd (.nd (.nd (.nd (.nd (.nd (.nd .lf none
 (.nd .lf none
 (.nd (.nd (.nd .lf (some .dead)
 .lf) none
 .lf) none
 .lf))) none
 (.nd (.nd .lf none
 (.nd .lf (some .dead)
 .lf)) none
 .lf)) none
 .lf) none
 .lf) none
 .lf) none
 .lf) none
 .lf) none
 .lf) none
 (.nd (.nd (.nd (.nd (.nd (.nd (.nd (.nd .lf none
 (.nd .lf none
 (.nd (.nd (.nd .lf (some .dead)
 .lf) none
 .lf) none
 .lf))) none
 .lf) none
 .lf) none
 .lf) none
 .lf) none
 .lf) none
 .lf) none
 .lf)) none
 (.nd (.nd (.nd (.nd (.nd (.nd (.nd (.nd (.nd .lf none
 (.nd .lf none
 (.nd (.nd (.nd .lf (some .dead)
 .lf) none
 .lf) none
 .lf))) none
 .lf) none
 .lf) none
 .lf) none
 .lf) none
 .lf) none
 .lf) none
 .lf) none
 .lf)) none
 (.nd (.nd (.nd (.nd (.nd (.nd (.nd (.nd (.nd (.nd .lf none
 (.nd .lf none
 (.nd (.nd (.nd .lf (some .dead)
 .lf) none
 .lf) none
 .lf))) none
 .lf) none
 .lf) none
 .lf) none
 .lf) none
 .lf) none
 .lf) none
 .lf) none
 (.nd (.nd (.nd (.nd (.nd (.nd (.nd (.nd .lf none
 (.nd .lf none
 (.nd (.nd (.nd .lf (some .dead)
 .lf) none
 .lf) none
 .lf))) none
 .lf) none
 .lf) none
 .lf) none
 .lf) none
 .lf) none
 .lf) none
 .lf)) none
 (.nd (.nd (.nd (.nd (.nd (.nd (.nd (.nd (.nd .lf none
 (.nd .lf none
 (.nd (.nd (.nd .lf (some .dead)
 .lf) none
 .lf) none
 .lf))) none
 .lf) none
 .lf) none
 .lf) none
 .lf) none
 .lf) none
 .lf) none
 .lf) none
 .lf))) none
 (.nd (.nd (.nd (.nd (.nd (.nd (.nd (.nd (.nd (.nd (.nd .lf none
 (.nd .lf none
 (.nd (.nd (.nd .lf (some .dead)
 .lf) none
 .lf) none
 .lf))) none
 .lf) none
 .lf) none
 .lf) none
 .lf) none
 .lf) none
 .lf) none
 .lf) none
 (.nd (.nd (.nd (.nd (.nd (.nd (.nd (.nd .lf none
 (.nd .lf none
 (.nd (.nd (.nd .lf (some .dead)
 .lf) none
 .lf) none
 .lf))) none
 .lf) none
 .lf) none
 .lf) none
 .lf) none
 .lf) none
 .lf) none
 .lf)) none
 (.nd (.nd (.nd (.nd (.nd (.nd (.nd (.nd (.nd .lf none
 (.nd .lf none
 (.nd (.nd (.nd .lf (some .dead)
 .lf) none
 .lf) none
 .lf))) none
 .lf) none
 .lf) none
 .lf) none
 .lf) none
 .lf) none
 .lf) none
 .lf) none
 .lf)) none
 (.nd (.nd (.nd (.nd (.nd (.nd (.nd (.nd (.nd (.nd .lf none
 (.nd .lf none
 (.nd (.nd (.nd .lf (some .dead)
 .lf) none
 .lf) none
 .lf))) none
 .lf) none
 .lf) none
 .lf) none
 .lf) none
 .lf) none
 .lf) none
 .lf) none
 (.nd (.nd (.nd (.nd (.nd (.nd (.nd (.nd .lf none
 (.nd .lf none
 (.nd (.nd (.nd .lf (some .dead)
 .lf) none
 .lf) none
 .lf))) none
 .lf) none
 .lf) none
 .lf) none
 .lf) none
 .lf) none
 .lf) none
 .lf)) none
 (.nd (.nd (.nd (.nd (.nd (.nd (.nd (.nd (.nd .lf none
 (.nd .lf none
 (.nd (.nd (.nd .lf (some .dead)
 .lf) none
 .lf) none
 .lf))) none
 .lf) none
 .lf) none
 .lf) none
 .lf) none
 .lf) none
 .lf) none
 .lf) none
 .lf)))) none
 (.nd (.nd (.nd (.nd (.nd (.nd (.nd (.nd (.nd (.nd (.nd (.nd .lf none
 (.nd .lf none
 (.nd (.nd (.nd .lf (some .dead)
 .lf) none
 .lf) none
 .lf))) none
 .lf) none
 .lf) none
 .lf) none
 .lf) none
 .lf) none
 .lf) none
 .lf) none
 (.nd (.nd (.nd (.nd (.nd (.nd (.nd (.nd .lf none
 (.nd .lf none
 (.nd (.nd (.nd .lf (some .dead)
 .lf) none
 .lf) none
 .lf))) none
 .lf) none
 .lf) none
 .lf) none
 .lf) none
 .lf) none
 .lf) none
 .lf)) none
 (.nd (.nd (.nd (.nd (.nd (.nd (.nd (.nd (.nd .lf none
 (.nd .lf none
 (.nd (.nd (.nd .lf (some .dead)
 .lf) none
 .lf) none
 .lf))) none
 .lf) none
 .lf) none
 .lf) none
 .lf) none
 .lf) none
 .lf) none
 .lf) none
 .lf)) none
 (.nd (.nd (.nd (.nd (.nd (.nd (.nd (.nd (.nd (.nd .lf none
 (.nd .lf none
 (.nd (.nd (.nd .lf (some .dead)
 .lf) none
 .lf) none
 .lf))) none
 .lf) none
 .lf) none
 .lf) none
 .lf) none
 .lf) none
 .lf) none
 .lf) none
 (.nd (.nd (.nd (.nd (.nd (.nd (.nd (.nd .lf none
 (.nd .lf none
 (.nd (.nd (.nd .lf (some .dead)
 .lf) none
 .lf) none
 .lf))) none
 .lf) none
 .lf) none
 .lf) none
 .lf) none
 .lf) none
 .lf) none
 .lf)) none
 (.nd (.nd (.nd (.nd (.nd (.nd (.nd (.nd (.nd .lf none
 (.nd .lf none
 (.nd (.nd (.nd .lf (some .dead)
 .lf) none
 .lf) none
 .lf))) none
 .lf) none
 .lf) none
 .lf) none
 .lf) none
 .lf) none
 .lf) none
 .lf) none
 .lf))) none
 (.nd (.nd (.nd (.nd (.nd (.nd (.nd (.nd (.nd (.nd (.nd .lf none
 (.nd .lf none
 (.nd (.nd (.nd .lf (some .dead)
 .lf) none
 .lf) none
 .lf))) none
 .lf) none
 .lf) none
 .lf) none
 .lf) none
 .lf) none
 .lf) none
 .lf) none
 (.nd (.nd (.nd (.nd (.nd (.nd (.nd (.nd .lf none
 (.nd .lf none
 (.nd (.nd (.nd .lf (some .dead)
 .lf) none
 .lf) none
 .lf))) none
 .lf) none
 .lf) none
 .lf) none
 .lf) none
 .lf) none
 .lf) none
 .lf)) none
 (.nd (.nd (.nd (.nd (.nd (.nd (.nd (.nd (.nd .lf none
 (.nd .lf none
 (.nd (.nd (.nd .lf (some .dead)
 .lf) none
 .lf) none
 .lf))) none
 .lf) none
 .lf) none
 .lf) none
 .lf) none
 .lf) none
 .lf) none
 .lf) none
 .lf)) none
 (.nd (.nd (.nd (.nd (.nd (.nd (.nd (.nd (.nd (.nd .lf none
 (.nd .lf none
 (.nd (.nd (.nd .lf (some .dead)
 .lf) none
 .lf) none
 .lf))) none
 .lf) none
 .lf) none
 .lf) none
 .lf) none
 .lf) none
 .lf) none
 .lf) none
 .lf) none
 (.nd (.nd (.nd (.nd (.nd (.nd (.nd (.nd (.nd .lf none
 (.nd .lf none
 (.nd (.nd (.nd .lf (some .dead)
 .lf) none
 .lf) none
 .lf))) none
 .lf) none
 .lf) none
 .lf) none
 .lf) none
 .lf) none
 .lf) none
 .lf) none
 .lf)))))) none
 (.nd (.nd (.nd (.nd (.nd (.nd (.nd (.nd (.nd (.nd (.nd (.nd (.nd (.nd (.nd .lf none
 (.nd .lf none
 (.nd .lf (some (.row none [(.slice (some ⟨2490383, 0, none⟩) 2 2), (.pointer (some ⟨1835015, 0, none⟩)), (.pointer (some ⟨1835017, 0, none⟩))]))
 .lf))) none
 (.nd .lf none
 (.nd (.nd (.nd .lf (some .dead)
 .lf) none
 .lf) none
 .lf))) none
 (.nd (.nd .lf none
 (.nd .lf (some .dead)
 .lf)) (some .dead)
 .lf)) none
 .lf) none
 .lf) none
 .lf) none
 .lf) none
 .lf) none
 .lf) none
 (.nd (.nd (.nd (.nd (.nd (.nd (.nd (.nd .lf none
 (.nd .lf none
 (.nd (.nd (.nd .lf (some .dead)
 .lf) none
 .lf) none
 .lf))) none
 .lf) none
 .lf) none
 .lf) none
 .lf) none
 .lf) none
 .lf) none
 .lf)) none
 (.nd (.nd (.nd (.nd (.nd (.nd (.nd (.nd (.nd .lf none
 (.nd .lf none
 (.nd (.nd (.nd .lf (some .dead)
 .lf) none
 .lf) none
 .lf))) none
 .lf) none
 .lf) none
 .lf) none
 .lf) none
 .lf) none
 .lf) none
 .lf) none
 .lf)) none
 (.nd (.nd (.nd (.nd (.nd (.nd (.nd (.nd (.nd (.nd .lf none
 (.nd .lf none
 (.nd (.nd (.nd .lf (some .dead)
 .lf) none
 .lf) none
 .lf))) none
 .lf) none
 .lf) none
 .lf) none
 .lf) none
 .lf) none
 .lf) none
 .lf) none
 (.nd (.nd (.nd (.nd (.nd (.nd (.nd (.nd .lf none
 (.nd .lf none
 (.nd (.nd (.nd .lf (some .dead)
 .lf) none
 .lf) none
 .lf))) none
 .lf) none
 .lf) none
 .lf) none
 .lf) none
 .lf) none
 .lf) none
 .lf)) none
 (.nd (.nd (.nd (.nd (.nd (.nd (.nd (.nd (.nd .lf none
 (.nd .lf none
 (.nd (.nd (.nd .lf (some .dead)
 .lf) none
 .lf) none
 .lf))) none
 .lf) none
 .lf) none
 .lf) none
 .lf) none
 .lf) none
 .lf) none
 .lf) none
 .lf))) none
 (.nd (.nd (.nd (.nd (.nd (.nd (.nd (.nd (.nd (.nd (.nd .lf none
 (.nd .lf none
 (.nd (.nd (.nd .lf (some .dead)
 .lf) none
 .lf) none
 .lf))) none
 .lf) none
 .lf) none
 .lf) none
 .lf) none
 .lf) none
 .lf) none
 .lf) none
 (.nd (.nd (.nd (.nd (.nd (.nd (.nd (.nd .lf none
 (.nd .lf none
 (.nd (.nd (.nd .lf (some .dead)
 .lf) none
 .lf) none
 .lf))) none
 .lf) none
 .lf) none
 .lf) none
 .lf) none
 .lf) none
 .lf) none
 .lf)) none
 (.nd (.nd (.nd (.nd (.nd (.nd (.nd (.nd (.nd .lf none
 (.nd .lf none
 (.nd (.nd (.nd .lf (some .dead)
 .lf) none
 .lf) none
 .lf))) none
 .lf) none
 .lf) none
 .lf) none
 .lf) none
 .lf) none
 .lf) none
 .lf) none
 .lf)) none
 (.nd (.nd (.nd (.nd (.nd (.nd (.nd (.nd (.nd (.nd .lf none
 (.nd .lf none
 (.nd (.nd (.nd .lf (some .dead)
 .lf) none
 .lf) none
 .lf))) none
 .lf) none
 .lf) none
 .lf) none
 .lf) none
 .lf) none
 .lf) none
 .lf) none
 (.nd (.nd (.nd (.nd (.nd (.nd (.nd (.nd .lf none
 (.nd .lf none
 (.nd (.nd (.nd .lf (some .dead)
 .lf) none
 .lf) none
 .lf))) none
 .lf) none
 .lf) none
 .lf) none
 .lf) none
 .lf) none
 .lf) none
 .lf)) none
 (.nd (.nd (.nd (.nd (.nd (.nd (.nd (.nd (.nd .lf none
 (.nd .lf none
 (.nd (.nd (.nd .lf (some .dead)
 .lf) none
 .lf) none
 .lf))) none
 .lf) none
 .lf) none
 .lf) none
 .lf) none
 .lf) none
 .lf) none
 .lf) none
 .lf)))) none
 (.nd (.nd (.nd (.nd (.nd (.nd (.nd (.nd (.nd (.nd (.nd (.nd .lf none
 (.nd .lf none
 (.nd (.nd (.nd .lf (some .dead)
 .lf) none
 .lf) none
 .lf))) none
 .lf) none
 .lf) none
 .lf) none
 .lf) none
 .lf) none
 .lf) none
 .lf) none
 (.nd (.nd (.nd (.nd (.nd (.nd (.nd (.nd .lf none
 (.nd .lf none
 (.nd (.nd (.nd .lf (some .dead)
 .lf) none
 .lf) none
 .lf))) none
 .lf) none
 .lf) none
 .lf) none
 .lf) none
 .lf) none
 .lf) none
 .lf)) none
 (.nd (.nd (.nd (.nd (.nd (.nd (.nd (.nd (.nd .lf none
 (.nd .lf none
 (.nd (.nd (.nd .lf (some .dead)
 .lf) none
 .lf) none
 .lf))) none
 .lf) none
 .lf) none
 .lf) none
 .lf) none
 .lf) none
 .lf) none
 .lf) none
 .lf)) none
 (.nd (.nd (.nd (.nd (.nd (.nd (.nd (.nd (.nd (.nd .lf none
 (.nd .lf none
 (.nd (.nd (.nd .lf (some .dead)
 .lf) none
 .lf) none
 .lf))) none
 .lf) none
 .lf) none
 .lf) none
 .lf) none
 .lf) none
 .lf) none
 .lf) none
 (.nd (.nd (.nd (.nd (.nd (.nd (.nd (.nd .lf none
 (.nd .lf none
 (.nd (.nd (.nd .lf (some .dead)
 .lf) none
 .lf) none
 .lf))) none
 .lf) none
 .lf) none
 .lf) none
 .lf) none
 .lf) none
 .lf) none
 .lf)) none
 (.nd (.nd (.nd (.nd (.nd (.nd (.nd (.nd (.nd .lf none
 (.nd .lf none
 (.nd (.nd (.nd .lf (some .dead)
 .lf) none
 .lf) none
 .lf))) none
 .lf) none
 .lf) none
 .lf) none
 .lf) none
 .lf) none
 .lf) none
 .lf) none
 .lf))) none
 (.nd (.nd (.nd (.nd (.nd (.nd (.nd (.nd (.nd (.nd (.nd .lf none
 (.nd .lf none
 (.nd (.nd (.nd .lf (some .dead)
 .lf) none
 .lf) none
 .lf))) none
 .lf) none
 .lf) none
 .lf) none
 .lf) none
 .lf) none
 .lf) none
 .lf) none
 (.nd (.nd (.nd (.nd (.nd (.nd (.nd (.nd .lf none
 (.nd .lf none
 (.nd (.nd (.nd .lf (some .dead)
 .lf) none
 .lf) none
 .lf))) none
 .lf) none
 .lf) none
 .lf) none
 .lf) none
 .lf) none
 .lf) none
 .lf)) none
 (.nd (.nd (.nd (.nd (.nd (.nd (.nd (.nd (.nd .lf none
 (.nd .lf none
 (.nd (.nd (.nd .lf (some .dead)
 .lf) none
 .lf) none
 .lf))) none
 .lf) none
 .lf) none
 .lf) none
 .lf) none
 .lf) none
 .lf) none
 .lf) none
 .lf)) none
 (.nd (.nd (.nd (.nd (.nd (.nd (.nd (.nd (.nd (.nd .lf none
 (.nd .lf none
 (.nd (.nd (.nd .lf (some .dead)
 .lf) none
 .lf) none
 .lf))) none
 .lf) none
 .lf) none
 .lf) none
 .lf) none
 .lf) none
 .lf) none
 .lf) none
 .lf) none
 (.nd (.nd (.nd (.nd (.nd (.nd (.nd (.nd (.nd .lf none
 (.nd .lf none
 (.nd (.nd (.nd .lf (some .dead)
 .lf) none
 .lf) none
 .lf))) none
 .lf) none
 .lf) none
 .lf) none
 .lf) none
 .lf) none
 .lf) none
 .lf) none
 .lf))))) none
 (.nd (.nd (.nd (.nd (.nd (.nd (.nd (.nd (.nd (.nd (.nd (.nd (.nd .lf none
 (.nd .lf none
 (.nd (.nd (.nd .lf (some .dead)
 .lf) none
 .lf) none
 .lf))) none
 (.nd (.nd .lf none
 (.nd .lf (some .dead)
 .lf)) none
 .lf)) none
 .lf) none
 .lf) none
 .lf) none
 .lf) none
 .lf) none
 .lf) none
 (.nd (.nd (.nd (.nd (.nd (.nd (.nd (.nd .lf none
 (.nd .lf none
 (.nd (.nd (.nd .lf (some .dead)
 .lf) none
 .lf) none
 .lf))) none
 .lf) none
 .lf) none
 .lf) none
 .lf) none
 .lf) none
 .lf) none
 .lf)) none
 (.nd (.nd (.nd (.nd (.nd (.nd (.nd (.nd (.nd .lf none
 (.nd .lf none
 (.nd (.nd (.nd .lf (some .dead)
 .lf) none
 .lf) none
 .lf))) none
 .lf) none
 .lf) none
 .lf) none
 .lf) none
 .lf) none
 .lf) none
 .lf) none
 .lf)) none
 (.nd (.nd (.nd (.nd (.nd (.nd (.nd (.nd (.nd (.nd .lf none
 (.nd .lf none
 (.nd (.nd (.nd .lf (some .dead)
 .lf) none
 .lf) none
 .lf))) none
 .lf) none
 .lf) none
 .lf) none
 .lf) none
 .lf) none
 .lf) none
 .lf) none
 (.nd (.nd (.nd (.nd (.nd (.nd (.nd (.nd .lf none
 (.nd .lf none
 (.nd (.nd (.nd .lf (some .dead)
 .lf) none
 .lf) none
 .lf))) none
 .lf) none
 .lf) none
 .lf) none
 .lf) none
 .lf) none
 .lf) none
 .lf)) none
 (.nd (.nd (.nd (.nd (.nd (.nd (.nd (.nd (.nd .lf none
 (.nd .lf none
 (.nd (.nd (.nd .lf (some .dead)
 .lf) none
 .lf) none
 .lf))) none
 .lf) none
 .lf) none
 .lf) none
 .lf) none
 .lf) none
 .lf) none
 .lf) none
 .lf))) none
 (.nd (.nd (.nd (.nd (.nd (.nd (.nd (.nd (.nd (.nd (.nd .lf none
 (.nd .lf none
 (.nd (.nd (.nd .lf (some .dead)
 .lf) none
 .lf) none
 .lf))) none
 .lf) none
 .lf) none
 .lf) none
 .lf) none
 .lf) none
 .lf) none
 .lf) none
 (.nd (.nd (.nd (.nd (.nd (.nd (.nd (.nd .lf none
 (.nd .lf none
 (.nd (.nd (.nd .lf (some .dead)
 .lf) none
 .lf) none
 .lf))) none
 .lf) none
 .lf) none
 .lf) none
 .lf) none
 .lf) none
 .lf) none
 .lf)) none
 (.nd (.nd (.nd (.nd (.nd (.nd (.nd (.nd (.nd .lf none
 (.nd .lf none
 (.nd (.nd (.nd .lf (some .dead)
 .lf) none
 .lf) none
 .lf))) none
 .lf) none
 .lf) none
 .lf) none
 .lf) none
 .lf) none
 .lf) none
 .lf) none
 .lf)) none
 (.nd (.nd (.nd (.nd (.nd (.nd (.nd (.nd (.nd (.nd .lf none
 (.nd .lf none
 (.nd (.nd (.nd .lf (some .dead)
 .lf) none
 .lf) none
 .lf))) none
 .lf) none
 .lf) none
 .lf) none
 .lf) none
 .lf) none
 .lf) none
 .lf) none
 .lf) none
 (.nd (.nd (.nd (.nd (.nd (.nd (.nd (.nd (.nd .lf none
 (.nd .lf none
 (.nd (.nd (.nd .lf (some .dead)
 .lf) none
 .lf) none
 .lf))) none
 .lf) none
 .lf) none
 .lf) none
 .lf) none
 .lf) none
 .lf) none
 .lf) none
 .lf)))) none
 (.nd (.nd (.nd (.nd (.nd (.nd (.nd (.nd (.nd (.nd (.nd (.nd .lf none
 (.nd .lf none
 (.nd (.nd (.nd .lf (some .dead)
 .lf) none
 .lf) none
 .lf))) none
 .lf) none
 .lf) none
 .lf) none
 .lf) none
 .lf) none
 .lf) none
 .lf) none
 (.nd (.nd (.nd (.nd (.nd (.nd (.nd (.nd .lf none
 (.nd .lf none
 (.nd (.nd (.nd .lf (some .dead)
 .lf) none
 .lf) none
 .lf))) none
 .lf) none
 .lf) none
 .lf) none
 .lf) none
 .lf) none
 .lf) none
 .lf)) none
 (.nd (.nd (.nd (.nd (.nd (.nd (.nd (.nd (.nd .lf none
 (.nd .lf none
 (.nd (.nd (.nd .lf (some .dead)
 .lf) none
 .lf) none
 .lf))) none
 .lf) none
 .lf) none
 .lf) none
 .lf) none
 .lf) none
 .lf) none
 .lf) none
 .lf)) none
 (.nd (.nd (.nd (.nd (.nd (.nd (.nd (.nd (.nd (.nd .lf none
 (.nd .lf none
 (.nd (.nd (.nd .lf (some .dead)
 .lf) none
 .lf) none
 .lf))) none
 .lf) none
 .lf) none
 .lf) none
 .lf) none
 .lf) none
 .lf) none
 .lf) none
 (.nd (.nd (.nd (.nd (.nd (.nd (.nd (.nd .lf none
 (.nd .lf none
 (.nd (.nd (.nd .lf (some .dead)
 .lf) none
 .lf) none
 .lf))) none
 .lf) none
 .lf) none
 .lf) none
 .lf) none
 .lf) none
 .lf) none
 .lf)) none
 (.nd (.nd (.nd (.nd (.nd (.nd (.nd (.nd (.nd .lf none
 (.nd .lf none
 (.nd (.nd (.nd .lf (some .dead)
 .lf) none
 .lf) none
 .lf))) none
 .lf) none
 .lf) none
 .lf) none
 .lf) none
 .lf) none
 .lf) none
 .lf) none
 .lf))) none
 (.nd (.nd (.nd (.nd (.nd (.nd (.nd (.nd (.nd (.nd (.nd .lf none
 (.nd .lf none
 (.nd (.nd (.nd .lf (some .dead)
 .lf) none
 .lf) none
 .lf))) none
 .lf) none
 .lf) none
 .lf) none
 .lf) none
 .lf) none
 .lf) none
 .lf) none
 (.nd (.nd (.nd (.nd (.nd (.nd (.nd (.nd .lf none
 (.nd .lf none
 (.nd (.nd (.nd .lf (some .dead)
 .lf) none
 .lf) none
 .lf))) none
 .lf) none
 .lf) none
 .lf) none
 .lf) none
 .lf) none
 .lf) none
 .lf)) none
 (.nd (.nd (.nd (.nd (.nd (.nd (.nd (.nd (.nd .lf none
 (.nd .lf none
 (.nd (.nd (.nd .lf (some .dead)
 .lf) none
 .lf) none
 .lf))) none
 .lf) none
 .lf) none
 .lf) none
 .lf) none
 .lf) none
 .lf) none
 .lf) none
 .lf)) none
 (.nd (.nd (.nd (.nd (.nd (.nd (.nd (.nd (.nd (.nd .lf none
 (.nd .lf none
 (.nd (.nd (.nd .lf (some .dead)
 .lf) none
 .lf) none
 .lf))) none
 .lf) none
 .lf) none
 .lf) none
 .lf) none
 .lf) none
 .lf) none
 .lf) none
 .lf) none
 (.nd (.nd (.nd (.nd (.nd (.nd (.nd (.nd (.nd .lf none
 (.nd .lf none
 (.nd (.nd (.nd .lf (some .dead)
 .lf) none
 .lf) none
 .lf))) none
 .lf) none
 .lf) none
 .lf) none
 .lf) none
 .lf) none
 .lf) none
 .lf) none
 .lf))))))) none
 (.nd (.nd (.nd (.nd (.nd (.nd (.nd (.nd (.nd (.nd (.nd (.nd (.nd (.nd (.nd (.nd (.nd (.nd (.nd .lf (some (.row none [(.pointer (some ⟨1835023, 0, none⟩)), (.int .i64 (-1)), (.slice none 0 0), (.slice none 0 0), (.slice (some ⟨2490385, 0, none⟩) 2 2), (.map (some 1966086))]))
 .lf) none
 .lf) none
 .lf) none
 (.nd .lf none
 (.nd .lf (some (.row none [(.bool false), (.int .i64 0), (.int .i64 0), (.bool true), (.int .i64 (-1)), (.int .i64 (-1)), (.bool false), (.int .i64 0), (.int .i64 0), (.bool false), (.int .i64 0), (.int .i64 0), (.bool false), (.int .i64 0), (.int .i64 0), (.bool false), (.int .i64 0), (.int .i64 0), (.bool false), (.int .i64 0), (.int .i64 0), (.bool false), (.int .i64 0), (.int .i64 0), (.bool false), (.int .i64 0), (.int .i64 0), (.bool false), (.int .i64 0), (.int .i64 0), (.bool false), (.int .i64 0), (.int .i64 0), (.bool false), (.int .i64 0), (.int .i64 0), (.bool false), (.int .i64 0), (.int .i64 0), (.bool false), (.int .i64 0), (.int .i64 0), (.bool false), (.int .i64 0), (.int .i64 0), (.bool false), (.int .i64 0), (.int .i64 0), (.bool false), (.int .i64 0), (.int .i64 0), (.bool false), (.int .i64 0), (.int .i64 0), (.bool false), (.int .i64 0), (.int .i64 0), (.bool false), (.int .i64 0), (.int .i64 0), (.bool false), (.int .i64 0), (.int .i64 0), (.bool false), (.int .i64 0), (.int .i64 0), (.bool false), (.int .i64 0), (.int .i64 0), (.bool false), (.int .i64 0), (.int .i64 0), (.bool false), (.int .i64 0), (.int .i64 0), (.bool false), (.int .i64 0), (.int .i64 0), (.bool false), (.int .i64 0), (.int .i64 0), (.bool false), (.int .i64 0), (.int .i64 0), (.bool false), (.int .i64 0), (.int .i64 0), (.bool false), (.int .i64 0), (.int .i64 0), (.bool false), (.int .i64 0), (.int .i64 0), (.bool false), (.int .i64 0), (.int .i64 0)]))
 .lf))) none
 (.nd (.nd (.nd (.nd .lf (some (.row (some 1) [(.pointer (some ⟨2097158, 0, none⟩))]))
 .lf) none
 .lf) (some .dead)
 .lf) none
 (.nd (.nd (.nd .lf (some .dead)
 .lf) none
 .lf) none
 (.nd .lf (some (.mp []))
 .lf)))) none
 (.nd (.nd (.nd (.nd (.nd .lf (some .dead)
 .lf) none
 .lf) none
 .lf) none
 (.nd .lf (some .dead)
 (.nd .lf (some .dead)
 .lf))) (some .dead)
 .lf)) none
 .lf) none
 .lf) none
 .lf) none
 .lf) none
 .lf) none
 .lf) none
 (.nd (.nd (.nd (.nd (.nd (.nd (.nd (.nd .lf none
 (.nd .lf none
 (.nd (.nd (.nd .lf (some .dead)
 .lf) none
 .lf) none
 .lf))) none
 .lf) none
 .lf) none
 .lf) none
 .lf) none
 .lf) none
 .lf) none
 .lf)) none
 (.nd (.nd (.nd (.nd (.nd (.nd (.nd (.nd (.nd .lf none
 (.nd .lf none
 (.nd (.nd (.nd .lf (some .dead)
 .lf) none
 .lf) none
 .lf))) none
 .lf) none
 .lf) none
 .lf) none
 .lf) none
 .lf) none
 .lf) none
 .lf) none
 .lf)) none
 (.nd (.nd (.nd (.nd (.nd (.nd (.nd (.nd (.nd (.nd .lf none
 (.nd .lf none
 (.nd (.nd (.nd .lf (some .dead)
 .lf) none
 .lf) none
 .lf))) none
 .lf) none
 .lf) none
 .lf) none
 .lf) none
 .lf) none
 .lf) none
 .lf) none
 (.nd (.nd (.nd (.nd (.nd (.nd (.nd (.nd .lf none
 (.nd .lf none
 (.nd (.nd (.nd .lf (some .dead)
 .lf) none
 .lf) none
 .lf))) none
 .lf) none
 .lf) none
 .lf) none
 .lf) none
 .lf) none
 .lf) none
 .lf)) none
 (.nd (.nd (.nd (.nd (.nd (.nd (.nd (.nd (.nd .lf none
 (.nd .lf none
 (.nd (.nd (.nd .lf (some .dead)
 .lf) none
 .lf) none
 .lf))) none
 .lf) none
 .lf) none
 .lf) none
 .lf) none
 .lf) none
 .lf) none
 .lf) none
 .lf))) none
 (.nd (.nd (.nd (.nd (.nd (.nd (.nd (.nd (.nd (.nd (.nd .lf none
 (.nd .lf none
 (.nd (.nd (.nd .lf (some .dead)
 .lf) none
 .lf) none
 .lf))) none
 .lf) none
 .lf) none
 .lf) none
 .lf) none
 .lf) none
 .lf) none
 .lf) none
 (.nd (.nd (.nd (.nd (.nd (.nd (.nd (.nd .lf none
 (.nd .lf none
 (.nd (.nd (.nd .lf (some .dead)
 .lf) none
 .lf) none
 .lf))) none
 .lf) none
 .lf) none
 .lf) none
 .lf) none
 .lf) none
 .lf) none
 .lf)) none
 (.nd (.nd (.nd (.nd (.nd (.nd (.nd (.nd (.nd .lf none
 (.nd .lf none
 (.nd (.nd (.nd .lf (some .dead)
 .lf) none
 .lf) none
 .lf))) none
 .lf) none
 .lf) none
 .lf) none
 .lf) none
 .lf) none
 .lf) none
 .lf) none
 .lf)) none
 (.nd (.nd (.nd (.nd (.nd (.nd (.nd (.nd (.nd (.nd .lf none
 (.nd .lf none
 (.nd (.nd (.nd .lf (some .dead)
 .lf) none
 .lf) none
 .lf))) none
 .lf) none
 .lf) none
 .lf) none
 .lf) none
 .lf) none
 .lf) none
 .lf) none
 (.nd (.nd (.nd (.nd (.nd (.nd (.nd (.nd .lf none
 (.nd .lf none
 (.nd (.nd (.nd .lf (some .dead)
 .lf) none
 .lf) none
 .lf))) none
 .lf) none
 .lf) none
 .lf) none
 .lf) none
 .lf) none
 .lf) none
 .lf)) none
 (.nd (.nd (.nd (.nd (.nd (.nd (.nd (.nd (.nd .lf none
 (.nd .lf none
 (.nd (.nd (.nd .lf (some .dead)
 .lf) none
 .lf) none
 .lf))) none
 .lf) none
 .lf) none
 .lf) none
 .lf) none
 .lf) none
 .lf) none
 .lf) none
 .lf)))) none
 (.nd (.nd (.nd (.nd (.nd (.nd (.nd (.nd (.nd (.nd (.nd (.nd .lf none
 (.nd .lf none
 (.nd (.nd (.nd .lf (some .dead)
 .lf) none
 .lf) none
 .lf))) none
 .lf) none
 .lf) none
 .lf) none
 .lf) none
 .lf) none
 .lf) none
 .lf) none
 (.nd (.nd (.nd (.nd (.nd (.nd (.nd (.nd .lf none
 (.nd .lf none
 (.nd (.nd (.nd .lf (some .dead)
 .lf) none
 .lf) none
 .lf))) none
 .lf) none
 .lf) none
 .lf) none
 .lf) none
 .lf) none
 .lf) none
 .lf)) none
 (.nd (.nd (.nd (.nd (.nd (.nd (.nd (.nd (.nd .lf none
 (.nd .lf none
 (.nd (.nd (.nd .lf (some .dead)
 .lf) none
 .lf) none
 .lf))) none
 .lf) none
 .lf) none
 .lf) none
 .lf) none
 .lf) none
 .lf) none
 .lf) none
 .lf)) none
 (.nd (.nd (.nd (.nd (.nd (.nd (.nd (.nd (.nd (.nd .lf none
 (.nd .lf none
 (.nd (.nd (.nd .lf (some .dead)
 .lf) none
 .lf) none
 .lf))) none
 .lf) none
 .lf) none
 .lf) none
 .lf) none
 .lf) none
 .lf) none
 .lf) none
 (.nd (.nd (.nd (.nd (.nd (.nd (.nd (.nd .lf none
 (.nd .lf none
 (.nd (.nd (.nd .lf (some .dead)
 .lf) none
 .lf) none
 .lf))) none
 .lf) none
 .lf) none
 .lf) none
 .lf) none
 .lf) none
 .lf) none
 .lf)) none
 (.nd (.nd (.nd (.nd (.nd (.nd (.nd (.nd (.nd .lf none
 (.nd .lf none
 (.nd (.nd (.nd .lf (some .dead)
 .lf) none
 .lf) none
 .lf))) none
 .lf) none
 .lf) none
 .lf) none
 .lf) none
 .lf) none
 .lf) none
 .lf) none
 .lf))) none
 (.nd (.nd (.nd (.nd (.nd (.nd (.nd (.nd (.nd (.nd (.nd .lf none
 (.nd .lf none
 (.nd (.nd (.nd .lf (some .dead)
 .lf) none
 .lf) none
 .lf))) none
 .lf) none
 .lf) none
 .lf) none
 .lf) none
 .lf) none
 .lf) none
 .lf) none
 (.nd (.nd (.nd (.nd (.nd (.nd (.nd (.nd .lf none
 (.nd .lf none
 (.nd (.nd (.nd .lf (some .dead)
 .lf) none
 .lf) none
 .lf))) none
 .lf) none
 .lf) none
 .lf) none
 .lf) none
 .lf) none
 .lf) none
 .lf)) none
 (.nd (.nd (.nd (.nd (.nd (.nd (.nd (.nd (.nd .lf none
 (.nd .lf none
 (.nd (.nd (.nd .lf (some .dead)
 .lf) none
 .lf) none
 .lf))) none
 .lf) none
 .lf) none
 .lf) none
 .lf) none
 .lf) none
 .lf) none
 .lf) none
 .lf)) none
 (.nd (.nd (.nd (.nd (.nd (.nd (.nd (.nd (.nd (.nd .lf none
 (.nd .lf none
 (.nd (.nd (.nd .lf (some .dead)
 .lf) none
 .lf) none
 .lf))) none
 .lf) none
 .lf) none
 .lf) none
 .lf) none
 .lf) none
 .lf) none
 .lf) none
 .lf) none
 (.nd (.nd (.nd (.nd (.nd (.nd (.nd (.nd (.nd .lf none
 (.nd .lf none
 (.nd (.nd (.nd .lf (some .dead)
 .lf) none
 .lf) none
 .lf))) none
 .lf) none
 .lf) none
 .lf) none
 .lf) none
 .lf) none
 .lf) none
 .lf) none
 .lf))))) none
 (.nd (.nd (.nd (.nd (.nd (.nd (.nd (.nd (.nd (.nd (.nd (.nd (.nd .lf none
 (.nd .lf none
 (.nd (.nd (.nd .lf (some .dead)
 .lf) none
 .lf) none
 .lf))) none
 (.nd (.nd .lf none
 (.nd .lf (some .dead)
 .lf)) none
 .lf)) none
 .lf) none
 .lf) none
 .lf) none
 .lf) none
 .lf) none
 .lf) none
 (.nd (.nd (.nd (.nd (.nd (.nd (.nd (.nd .lf none
 (.nd .lf none
 (.nd (.nd (.nd .lf (some .dead)
 .lf) none
 .lf) none
 .lf))) none
 .lf) none
 .lf) none
 .lf) none
 .lf) none
 .lf) none
 .lf) none
 .lf)) none
 (.nd (.nd (.nd (.nd (.nd (.nd (.nd (.nd (.nd .lf none
 (.nd .lf none
 (.nd (.nd (.nd .lf (some .dead)
 .lf) none
 .lf) none
 .lf))) none
 .lf) none
 .lf) none
 .lf) none
 .lf) none
 .lf) none
 .lf) none
 .lf) none
 .lf)) none
 (.nd (.nd (.nd (.nd (.nd (.nd (.nd (.nd (.nd (.nd .lf none
 (.nd .lf none
 (.nd (.nd (.nd .lf (some .dead)
 .lf) none
 .lf) none
 .lf))) none
 .lf) none
 .lf) none
 .lf) none
 .lf) none
 .lf) none
 .lf) none
 .lf) none
 (.nd (.nd (.nd (.nd (.nd (.nd (.nd (.nd .lf none
 (.nd .lf none
 (.nd (.nd (.nd .lf (some .dead)
 .lf) none
 .lf) none
 .lf))) none
 .lf) none
 .lf) none
 .lf) none
 .lf) none
 .lf) none
 .lf) none
 .lf)) none
 (.nd (.nd (.nd (.nd (.nd (.nd (.nd (.nd (.nd .lf none
 (.nd .lf none
 (.nd (.nd (.nd .lf (some .dead)
 .lf) none
 .lf) none
 .lf))) none
 .lf) none
 .lf) none
 .lf) none
 .lf) none
 .lf) none
 .lf) none
 .lf) none
 .lf))) none
 (.nd (.nd (.nd (.nd (.nd (.nd (.nd (.nd (.nd (.nd (.nd .lf none
 (.nd .lf none
 (.nd (.nd (.nd .lf (some .dead)
 .lf) none
 .lf) none
 .lf))) none
 .lf) none
 .lf) none
 .lf) none
 .lf) none
 .lf) none
 .lf) none
 .lf) none
 (.nd (.nd (.nd (.nd (.nd (.nd (.nd (.nd .lf none
 (.nd .lf none
 (.nd (.nd (.nd .lf (some .dead)
 .lf) none
 .lf) none
 .lf))) none
 .lf) none
 .lf) none
 .lf) none
 .lf) none
 .lf) none
 .lf) none
 .lf)) none
 (.nd (.nd (.nd (.nd (.nd (.nd (.nd (.nd (.nd .lf none
 (.nd .lf none
 (.nd (.nd (.nd .lf (some .dead)
 .lf) none
 .lf) none
 .lf))) none
 .lf) none
 .lf) none
 .lf) none
 .lf) none
 .lf) none
 .lf) none
 .lf) none
 .lf)) none
 (.nd (.nd (.nd (.nd (.nd (.nd (.nd (.nd (.nd (.nd .lf none
 (.nd .lf none
 (.nd (.nd (.nd .lf (some .dead)
 .lf) none
 .lf) none
 .lf))) none
 .lf) none
 .lf) none
 .lf) none
 .lf) none
 .lf) none
 .lf) none
 .lf) none
 (.nd (.nd (.nd (.nd (.nd (.nd (.nd (.nd .lf none
 (.nd .lf none
 (.nd (.nd (.nd .lf (some .dead)
 .lf) none
 .lf) none
 .lf))) none
 .lf) none
 .lf) none
 .lf) none
 .lf) none
 .lf) none
 .lf) none
 .lf)) none
 (.nd (.nd (.nd (.nd (.nd (.nd (.nd (.nd (.nd .lf none
 (.nd .lf none
 (.nd (.nd (.nd .lf (some .dead)
 .lf) none
 .lf) none
 .lf))) none
 .lf) none
 .lf) none
 .lf) none
 .lf) none
 .lf) none
 .lf) none
 .lf) none
 .lf)))) none
 (.nd (.nd (.nd (.nd (.nd (.nd (.nd (.nd (.nd (.nd (.nd (.nd .lf none
 (.nd .lf none
 (.nd (.nd (.nd .lf (some .dead)
 .lf) none
 .lf) none
 .lf))) none
 .lf) none
 .lf) none
 .lf) none
 .lf) none
 .lf) none
 .lf) none
 .lf) none
 (.nd (.nd (.nd (.nd (.nd (.nd (.nd (.nd .lf none
 (.nd .lf none
 (.nd (.nd (.nd .lf (some .dead)
 .lf) none
 .lf) none
 .lf))) none
 .lf) none
 .lf) none
 .lf) none
 .lf) none
 .lf) none
 .lf) none
 .lf)) none
 (.nd (.nd (.nd (.nd (.nd (.nd (.nd (.nd (.nd .lf none
 (.nd .lf none
 (.nd (.nd (.nd .lf (some .dead)
 .lf) none
 .lf) none
 .lf))) none
 .lf) none
 .lf) none
 .lf) none
 .lf) none
 .lf) none
 .lf) none
 .lf) none
 .lf)) none
 (.nd (.nd (.nd (.nd (.nd (.nd (.nd (.nd (.nd (.nd .lf none
 (.nd .lf none
 (.nd (.nd (.nd .lf (some .dead)
 .lf) none
 .lf) none
 .lf))) none
 .lf) none
 .lf) none
 .lf) none
 .lf) none
 .lf) none
 .lf) none
 .lf) none
 (.nd (.nd (.nd (.nd (.nd (.nd (.nd (.nd .lf none
 (.nd .lf none
 (.nd (.nd (.nd .lf (some .dead)
 .lf) none
 .lf) none
 .lf))) none
 .lf) none
 .lf) none
 .lf) none
 .lf) none
 .lf) none
 .lf) none
 .lf)) none
 (.nd (.nd (.nd (.nd (.nd (.nd (.nd (.nd (.nd .lf none
 (.nd .lf none
 (.nd (.nd (.nd .lf (some .dead)
 .lf) none
 .lf) none
 .lf))) none
 .lf) none
 .lf) none
 .lf) none
 .lf) none
 .lf) none
 .lf) none
 .lf) none
 .lf))) none
 (.nd (.nd (.nd (.nd (.nd (.nd (.nd (.nd (.nd (.nd (.nd .lf none
 (.nd .lf none
 (.nd (.nd (.nd .lf (some .dead)
 .lf) none
 .lf) none
 .lf))) none
 .lf) none
 .lf) none
 .lf) none
 .lf) none
 .lf) none
 .lf) none
 .lf) none
 (.nd (.nd (.nd (.nd (.nd (.nd (.nd (.nd .lf none
 (.nd .lf none
 (.nd (.nd (.nd .lf (some .dead)
 .lf) none
 .lf) none
 .lf))) none
 .lf) none
 .lf) none
 .lf) none
 .lf) none
 .lf) none
 .lf) none
 .lf)) none
 (.nd (.nd (.nd (.nd (.nd (.nd (.nd (.nd (.nd .lf none
 (.nd .lf none
 (.nd (.nd (.nd .lf (some .dead)
 .lf) none
 .lf) none
 .lf))) none
 .lf) none
 .lf) none
 .lf) none
 .lf) none
 .lf) none
 .lf) none
 .lf) none
 .lf)) none
 (.nd (.nd (.nd (.nd (.nd (.nd (.nd (.nd (.nd (.nd .lf none
 (.nd .lf none
 (.nd (.nd (.nd .lf (some .dead)
 .lf) none
 .lf) none
 .lf))) none
 .lf) none
 .lf) none
 .lf) none
 .lf) none
 .lf) none
 .lf) none
 .lf) none
 .lf) none
 (.nd (.nd (.nd (.nd (.nd (.nd (.nd (.nd (.nd .lf none
 (.nd .lf none
 (.nd (.nd (.nd .lf (some .dead)
 .lf) none
 .lf) none
 .lf))) none
 .lf) none
 .lf) none
 .lf) none
 .lf) none
 .lf) none
 .lf) none
 .lf) none
 .lf)))))) none
 (.nd (.nd (.nd (.nd (.nd (.nd (.nd (.nd (.nd (.nd (.nd (.nd (.nd (.nd (.nd .lf none
 (.nd .lf none
 (.nd .lf (some (.row none [(.chan (some 1835021))]))
 .lf))) none
 (.nd .lf none
 (.nd (.nd (.nd .lf (some .dead)
 .lf) none
 .lf) none
 .lf))) none
 (.nd (.nd .lf none
 (.nd .lf (some .dead)
 .lf)) none
 .lf)) none
 .lf) none
 .lf) none
 .lf) none
 .lf) none
 .lf) none
 .lf) none
 (.nd (.nd (.nd (.nd (.nd (.nd (.nd (.nd .lf none
 (.nd .lf none
 (.nd (.nd (.nd .lf (some .dead)
 .lf) none
 .lf) none
 .lf))) none
 .lf) none
 .lf) none
 .lf) none
 .lf) none
 .lf) none
 .lf) none
 .lf)) none
 (.nd (.nd (.nd (.nd (.nd (.nd (.nd (.nd (.nd .lf none
 (.nd .lf none
 (.nd (.nd (.nd .lf (some .dead)
 .lf) none
 .lf) none
 .lf))) none
 .lf) none
 .lf) none
 .lf) none
 .lf) none
 .lf) none
 .lf) none
 .lf) none
 .lf)) none
 (.nd (.nd (.nd (.nd (.nd (.nd (.nd (.nd (.nd (.nd .lf none
 (.nd .lf none
 (.nd (.nd (.nd .lf (some .dead)
 .lf) none
 .lf) none
 .lf))) none
 .lf) none
 .lf) none
 .lf) none
 .lf) none
 .lf) none
 .lf) none
 .lf) none
 (.nd (.nd (.nd (.nd (.nd (.nd (.nd (.nd .lf none
 (.nd .lf none
 (.nd (.nd (.nd .lf (some .dead)
 .lf) none
 .lf) none
 .lf))) none
 .lf) none
 .lf) none
 .lf) none
 .lf) none
 .lf) none
 .lf) none
 .lf)) none
 (.nd (.nd (.nd (.nd (.nd (.nd (.nd (.nd (.nd .lf none
 (.nd .lf none
 (.nd (.nd (.nd .lf (some .dead)
 .lf) none
 .lf) none
 .lf))) none
 .lf) none
 .lf) none
 .lf) none
 .lf) none
 .lf) none
 .lf) none
 .lf) none
 .lf))) none
 (.nd (.nd (.nd (.nd (.nd (.nd (.nd (.nd (.nd (.nd (.nd .lf none
 (.nd .lf none
 (.nd (.nd (.nd .lf (some .dead)
 .lf) none
 .lf) none
 .lf))) none
 .lf) none
 .lf) none
 .lf) none
 .lf) none
 .lf) none
 .lf) none
 .lf) none
 (.nd (.nd (.nd (.nd (.nd (.nd (.nd (.nd .lf none
 (.nd .lf none
 (.nd (.nd (.nd .lf (some .dead)
 .lf) none
 .lf) none
 .lf))) none
 .lf) none
 .lf) none
 .lf) none
 .lf) none
 .lf) none
 .lf) none
 .lf)) none
 (.nd (.nd (.nd (.nd (.nd (.nd (.nd (.nd (.nd .lf none
 (.nd .lf none
 (.nd (.nd (.nd .lf (some .dead)
 .lf) none
 .lf) none
 .lf))) none
 .lf) none
 .lf) none
 .lf) none
 .lf) none
 .lf) none
 .lf) none
 .lf) none
 .lf)) none
 (.nd (.nd (.nd (.nd (.nd (.nd (.nd (.nd (.nd (.nd .lf none
 (.nd .lf none
 (.nd (.nd (.nd .lf (some .dead)
 .lf) none
 .lf) none
 .lf))) none
 .lf) none
 .lf) none
 .lf) none
 .lf) none
 .lf) none
 .lf) none
 .lf) none
 (.nd (.nd (.nd (.nd (.nd (.nd (.nd (.nd .lf none
 (.nd .lf none
 (.nd (.nd (.nd .lf (some .dead)
 .lf) none
 .lf) none
 .lf))) none
 .lf) none
 .lf) none
 .lf) none
 .lf) none
 .lf) none
 .lf) none
 .lf)) none
 (.nd (.nd (.nd (.nd (.nd (.nd (.nd (.nd (.nd .lf none
 (.nd .lf none
 (.nd (.nd (.nd .lf (some .dead)
 .lf) none
 .lf) none
 .lf))) none
 .lf) none
 .lf) none
 .lf) none
 .lf) none
 .lf) none
 .lf) none
 .lf) none
 .lf)))) none
 (.nd (.nd (.nd (.nd (.nd (.nd (.nd (.nd (.nd (.nd (.nd (.nd .lf none
 (.nd .lf none
 (.nd (.nd (.nd .lf (some .dead)
 .lf) none
 .lf) none
 .lf))) none
 .lf) none
 .lf) none
 .lf) none
 .lf) none
 .lf) none
 .lf) none
 .lf) none
 (.nd (.nd (.nd (.nd (.nd (.nd (.nd (.nd .lf none
 (.nd .lf none
 (.nd (.nd (.nd .lf (some .dead)
 .lf) none
 .lf) none
 .lf))) none
 .lf) none
 .lf) none
 .lf) none
 .lf) none
 .lf) none
 .lf) none
 .lf)) none
 (.nd (.nd (.nd (.nd (.nd (.nd (.nd (.nd (.nd .lf none
 (.nd .lf none
 (.nd (.nd (.nd .lf (some .dead)
 .lf) none
 .lf) none
 .lf))) none
 .lf) none
 .lf) none
 .lf) none
 .lf) none
 .lf) none
 .lf) none
 .lf) none
 .lf)) none
 (.nd (.nd (.nd (.nd (.nd (.nd (.nd (.nd (.nd (.nd .lf none
 (.nd .lf none
 (.nd (.nd (.nd .lf (some .dead)
 .lf) none
 .lf) none
 .lf))) none
 .lf) none
 .lf) none
 .lf) none
 .lf) none
 .lf) none
 .lf) none
 .lf) none
 (.nd (.nd (.nd (.nd (.nd (.nd (.nd (.nd .lf none
 (.nd .lf none
 (.nd (.nd (.nd .lf (some .dead)
 .lf) none
 .lf) none
 .lf))) none
 .lf) none
 .lf) none
 .lf) none
 .lf) none
 .lf) none
 .lf) none
 .lf)) none
 (.nd (.nd (.nd (.nd (.nd (.nd (.nd (.nd (.nd .lf none
 (.nd .lf none
 (.nd (.nd (.nd .lf (some .dead)
 .lf) none
 .lf) none
 .lf))) none
 .lf) none
 .lf) none
 .lf) none
 .lf) none
 .lf) none
 .lf) none
 .lf) none
 .lf))) none
 (.nd (.nd (.nd (.nd (.nd (.nd (.nd (.nd (.nd (.nd (.nd .lf none
 (.nd .lf none
 (.nd (.nd (.nd .lf (some .dead)
 .lf) none
 .lf) none
 .lf))) none
 .lf) none
 .lf) none
 .lf) none
 .lf) none
 .lf) none
 .lf) none
 .lf) none
 (.nd (.nd (.nd (.nd (.nd (.nd (.nd (.nd .lf none
 (.nd .lf none
 (.nd (.nd (.nd .lf (some .dead)
 .lf) none
 .lf) none
 .lf))) none
 .lf) none
 .lf) none
 .lf) none
 .lf) none
 .lf) none
 .lf) none
 .lf)) none
 (.nd (.nd (.nd (.nd (.nd (.nd (.nd (.nd (.nd .lf none
 (.nd .lf none
 (.nd (.nd (.nd .lf (some .dead)
 .lf) none
 .lf) none
 .lf))) none
 .lf) none
 .lf) none
 .lf) none
 .lf) none
 .lf) none
 .lf) none
 .lf) none
 .lf)) none
 (.nd (.nd (.nd (.nd (.nd (.nd (.nd (.nd (.nd (.nd .lf none
 (.nd .lf none
 (.nd (.nd (.nd .lf (some .dead)
 .lf) none
 .lf) none
 .lf))) none
 .lf) none
 .lf) none
 .lf) none
 .lf) none
 .lf) none
 .lf) none
 .lf) none
 .lf) none
 (.nd (.nd (.nd (.nd (.nd (.nd (.nd (.nd (.nd .lf none
 (.nd .lf none
 (.nd (.nd (.nd .lf (some .dead)
 .lf) none
 .lf) none
 .lf))) none
 .lf) none
 .lf) none
 .lf) none
 .lf) none
 .lf) none
 .lf) none
 .lf) none
 .lf))))) none
 (.nd (.nd (.nd (.nd (.nd (.nd (.nd (.nd (.nd (.nd (.nd (.nd (.nd .lf none
 (.nd .lf none
 (.nd (.nd (.nd .lf (some .dead)
 .lf) none
 .lf) none
 .lf))) none
 (.nd (.nd .lf none
 (.nd .lf (some .dead)
 .lf)) none
 .lf)) none
 .lf) none
 .lf) none
 .lf) none
 .lf) none
 .lf) none
 .lf) none
 (.nd (.nd (.nd (.nd (.nd (.nd (.nd (.nd .lf none
 (.nd .lf none
 (.nd (.nd (.nd .lf (some .dead)
 .lf) none
 .lf) none
 .lf))) none
 .lf) none
 .lf) none
 .lf) none
 .lf) none
 .lf) none
 .lf) none
 .lf)) none
 (.nd (.nd (.nd (.nd (.nd (.nd (.nd (.nd (.nd .lf none
 (.nd .lf none
 (.nd (.nd (.nd .lf (some .dead)
 .lf) none
 .lf) none
 .lf))) none
 .lf) none
 .lf) none
 .lf) none
 .lf) none
 .lf) none
 .lf) none
 .lf) none
 .lf)) none
 (.nd (.nd (.nd (.nd (.nd (.nd (.nd (.nd (.nd (.nd .lf none
 (.nd .lf none
 (.nd (.nd (.nd .lf (some .dead)
 .lf) none
 .lf) none
 .lf))) none
 .lf) none
 .lf) none
 .lf) none
 .lf) none
 .lf) none
 .lf) none
 .lf) none
 (.nd (.nd (.nd (.nd (.nd (.nd (.nd (.nd .lf none
 (.nd .lf none
 (.nd (.nd (.nd .lf (some .dead)
 .lf) none
 .lf) none
 .lf))) none
 .lf) none
 .lf) none
 .lf) none
 .lf) none
 .lf) none
 .lf) none
 .lf)) none
 (.nd (.nd (.nd (.nd (.nd (.nd (.nd (.nd (.nd .lf none
 (.nd .lf none
 (.nd (.nd (.nd .lf (some .dead)
 .lf) none
 .lf) none
 .lf))) none
 .lf) none
 .lf) none
 .lf) none
 .lf) none
 .lf) none
 .lf) none
 .lf) none
 .lf))) none
 (.nd (.nd (.nd (.nd (.nd (.nd (.nd (.nd (.nd (.nd (.nd .lf none
 (.nd .lf none
 (.nd (.nd (.nd .lf (some .dead)
 .lf) none
 .lf) none
 .lf))) none
 .lf) none
 .lf) none
 .lf) none
 .lf) none
 .lf) none
 .lf) none
 .lf) none
 (.nd (.nd (.nd (.nd (.nd (.nd (.nd (.nd .lf none
 (.nd .lf none
 (.nd (.nd (.nd .lf (some .dead)
 .lf) none
 .lf) none
 .lf))) none
 .lf) none
 .lf) none
 .lf) none
 .lf) none
 .lf) none
 .lf) none
 .lf)) none
 (.nd (.nd (.nd (.nd (.nd (.nd (.nd (.nd (.nd .lf none
 (.nd .lf none
 (.nd (.nd (.nd .lf (some .dead)
 .lf) none
 .lf) none
 .lf))) none
 .lf) none
 .lf) none
 .lf) none
 .lf) none
 .lf) none
 .lf) none
 .lf) none
 .lf)) none
 (.nd (.nd (.nd (.nd (.nd (.nd (.nd (.nd (.nd (.nd .lf none
 (.nd .lf none
 (.nd (.nd (.nd .lf (some .dead)
 .lf) none
 .lf) none
 .lf))) none
 .lf) none
 .lf) none
 .lf) none
 .lf) none
 .lf) none
 .lf) none
 .lf) none
 .lf) none
 (.nd (.nd (.nd (.nd (.nd (.nd (.nd (.nd (.nd .lf none
 (.nd .lf none
 (.nd (.nd (.nd .lf (some .dead)
 .lf) none
 .lf) none
 .lf))) none
 .lf) none
 .lf) none
 .lf) none
 .lf) none
 .lf) none
 .lf) none
 .lf) none
 .lf)))) none
 (.nd (.nd (.nd (.nd (.nd (.nd (.nd (.nd (.nd (.nd (.nd (.nd .lf none
 (.nd .lf none
 (.nd (.nd (.nd .lf (some .dead)
 .lf) none
 .lf) none
 .lf))) none
 .lf) none
 .lf) none
 .lf) none
 .lf) none
 .lf) none
 .lf) none
 .lf) none
 (.nd (.nd (.nd (.nd (.nd (.nd (.nd (.nd .lf none
 (.nd .lf none
 (.nd (.nd (.nd .lf (some .dead)
 .lf) none
 .lf) none
 .lf))) none
 .lf) none
 .lf) none
 .lf) none
 .lf) none
 .lf) none
 .lf) none
 .lf)) none
 (.nd (.nd (.nd (.nd (.nd (.nd (.nd (.nd (.nd .lf none
 (.nd .lf none
 (.nd (.nd (.nd .lf (some .dead)
 .lf) none
 .lf) none
 .lf))) none
 .lf) none
 .lf) none
 .lf) none
 .lf) none
 .lf) none
 .lf) none
 .lf) none
 .lf)) none
 (.nd (.nd (.nd (.nd (.nd (.nd (.nd (.nd (.nd (.nd .lf none
 (.nd .lf none
 (.nd (.nd (.nd .lf (some .dead)
 .lf) none
 .lf) none
 .lf))) none
 .lf) none
 .lf) none
 .lf) none
 .lf) none
 .lf) none
 .lf) none
 .lf) none
 (.nd (.nd (.nd (.nd (.nd (.nd (.nd (.nd .lf none
 (.nd .lf none
 (.nd (.nd (.nd .lf (some .dead)
 .lf) none
 .lf) none
 .lf))) none
 .lf) none
 .lf) none
 .lf) none
 .lf) none
 .lf) none
 .lf) none
 .lf)) none
 (.nd (.nd (.nd (.nd (.nd (.nd (.nd (.nd (.nd .lf none
 (.nd .lf none
 (.nd (.nd (.nd .lf (some .dead)
 .lf) none
 .lf) none
 .lf))) none
 .lf) none
 .lf) none
 .lf) none
 .lf) none
 .lf) none
 .lf) none
 .lf) none
 .lf))) none
 (.nd (.nd (.nd (.nd (.nd (.nd (.nd (.nd (.nd (.nd (.nd .lf none
 (.nd .lf none
 (.nd (.nd (.nd .lf (some .dead)
 .lf) none
 .lf) none
 .lf))) none
 .lf) none
 .lf) none
 .lf) none
 .lf) none
 .lf) none
 .lf) none
 .lf) none
 (.nd (.nd (.nd (.nd (.nd (.nd (.nd (.nd .lf none
 (.nd .lf none
 (.nd (.nd (.nd .lf (some .dead)
 .lf) none
 .lf) none
 .lf))) none
 .lf) none
 .lf) none
 .lf) none
 .lf) none
 .lf) none
 .lf) none
 .lf)) none
 (.nd (.nd (.nd (.nd (.nd (.nd (.nd (.nd (.nd .lf none
 (.nd .lf none
 (.nd (.nd (.nd .lf (some .dead)
 .lf) none
 .lf) none
 .lf))) none
 .lf) none
 .lf) none
 .lf) none
 .lf) none
 .lf) none
 .lf) none
 .lf) none
 .lf)) none
 (.nd (.nd (.nd (.nd (.nd (.nd (.nd (.nd (.nd (.nd .lf none
 (.nd .lf none
 (.nd (.nd (.nd .lf (some .dead)
 .lf) none
 .lf) none
 .lf))) none
 .lf) none
 .lf) none
 .lf) none
 .lf) none
 .lf) none
 .lf) none
 .lf) none
 .lf) none
 (.nd (.nd (.nd (.nd (.nd (.nd (.nd (.nd (.nd .lf none
 (.nd .lf none
 (.nd (.nd (.nd .lf (some .dead)
 .lf) none
 .lf) none
 .lf))) none
 .lf) none
 .lf) none
 .lf) none
 .lf) none
 .lf) none
 .lf) none
 .lf) none
 .lf))))))))))⟩
end Go.Eng
