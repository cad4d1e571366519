/- A closed run, its third part: what is told. Conditions: none. -/
import Derived.Test.YtaihkmfihgaegaaGreatTold2
namespace Go.Eng
open Go
def listIs : Option (List Value) → Value → Bool
  | some [u], v => sameV u v
  | _, _ => false
noncomputable def seg3e (m : Mem) : Bool := listIs (m.cells 2490387 0 1) poolPtr && match CC 31 [poolPtr] m with
  | some (u, _) => sameV u (.bool false)
  | none => false
noncomputable def seg3d (m : Mem) : Bool := listIs (m.cells 2490387 0 1) poolPtr && match CC 30 [poolPtr] m with
  | some (u, m1) => sameV u (.bool false) && seg3e m1
  | none => false
noncomputable def seg3c (m : Mem) : Bool := listIs (m.cells 2490387 0 1) poolPtr && match CC 29 [poolPtr] m with
  | some (u, m1) => sameV u (.int .i64 2) && seg3d m1
  | none => false
noncomputable def seg3b (m : Mem) : Bool := match CC 66 [pPtr] m with
  | some (u, m1) => sameV u (.bool true) && seg3c m1
  | none => false
noncomputable def seg3 : Bool := match CC 28 [poolPtr] toldM4 with
  | some (.slice (some ⟨b, o, none⟩) 3 _, m1) => listIs (m1.cells b (o + 7) 1) (.int .i64 0) && (match m1.cells b (o + 38) 1 with
    | some [.slice a l c] => (match m1.sl ⟨a, l, c⟩ 1 with
      | some vs => (match bytesOf vs with
        | some bs => decide (bs = [113])
        | none => false)
      | none => false)
    | _ => false) && seg3b m1
  | _ => false
theorem told3 : seg3 = true := by kernel_rfl
end Go.Eng
