/- A closed run, its second part: three calls. Conditions: none. -/
import Derived.Test.YtaihkmfihgaegaaGreatTold1
namespace Go.Eng
open Go
abbrev pPtr : Value := .pointer (some ⟨2490387, 0, none⟩)
abbrev poolPtr : Value := .pointer (some ⟨1376259, 0, none⟩)
noncomputable def seg2d (m4 : Mem) : Bool := comes (CC 63 [pPtr, .int .i64 0, .agg #[.int .i64 3, .int .i64 0, .int .i64 0, .int .i64 0, .int .i64 1, .slice none 0 0]] m4) (.bool true) toldM4
noncomputable def seg2c (s : Value) (m : Mem) : Bool := match xraw tabX (fun _ => some s) m (.convert 40 40 (.tmp 0)) with
  | some (s', m3) => (match CC 63 [pPtr, .int .i64 0, .agg #[.int .i64 4, .int .i64 0, .int .i64 0, .int .i64 0, .int .i64 0, s']] m3 with
    | some (u, m4) => sameV u (.bool true) && seg2d m4
    | none => false)
  | none => false
noncomputable def seg2b (m2 : Mem) : Bool := match m2.new (.row none [.int .u8 113]) (fun j m => some (.slice (some (A j 0)) 1 1, m)) with
  | some (s, m) => seg2c s m
  | none => false
noncomputable def seg2a (m1 : Mem) : Bool := match CC 63 [pPtr, .int .i64 0, .agg #[.int .i64 1, .int .i64 0, .int .i64 0, .int .i64 0, .int .i64 0, .slice none 0 0]] m1 with
  | some (u, m2) => sameV u (.bool true) && seg2b m2
  | none => false
noncomputable def seg2 : Bool := match CC 27 [poolPtr] toldM1 with
  | some (u, m1) => sameV u (.int .i64 0) && seg2a m1
  | none => false
theorem told2 : seg2 = true := by kernel_rfl
end Go.Eng
