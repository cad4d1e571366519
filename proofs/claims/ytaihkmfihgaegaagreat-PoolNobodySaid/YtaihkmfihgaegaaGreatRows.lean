/-
  No cell of these rows narrows 'for every input' (looked for: loops, veiled, ifaces, maps, wideKeys, modest, calm, conditions, laid).
  DERIVED. THE GIVEN ROWS OF THIS SEAT. 21 by the template 'for every input the law returns true; each argument reads behind the call as it read before'; 0 by the template 'total and deterministic' (their statements: YtaihkmfihgaegaaGreatTotals.lean).
  GIVEN WITH THE SEED: the statements are not yours to turn. If you find one false, say at which input.
  Laid BY PROGRAM, IN A SANDBOX (cutbox-rows.mjs): the forced cells as the released guide's own fill.sh prints them over the translation 6d313a4ca8d0e2c7… (all of the seat's roots in one cut). By AI agents, Wed Nov 11 2026. No macro, syntax, notation, axiom, sorry.
-/
import Derived.Test.YtaihkmfihgaegaaGreatChecked
import GoSem.Claim
import GoSem.ClaimJoined
import GoSem.ClaimMapViews
import Derived.JoinedTies
import Derived.KernelRfl
namespace Go.Proofs.YtaihkmfihgaegaaGreat
/- THE CELL 'sum', in the pinned program and in every row, IS THE sha256 OF THE DUMP (.gsa) THAT YtaihkmfihgaegaaGreatProg.lean LOADS. Nothing in Lean hashes anything: it is a label: what it is worth is what the hold of that sum in a sandbox is worth. -/
noncomputable def Tryz.pinned : Pinned := { name := "ytaihkmfihgaegaagreat", sum := "6d313a4ca8d0e2c7f86bc28caa60bfa22ea35e5231c7186a6c778a5d34fd2dac", checked := Tryz.checked }
namespace Rows
def none {H : Type} : Left H := { results := [], args := [] }

/-- 'lavabolaw24.PoolNews': WHATEVER THE INPUT: true; the input reads as it did. -/
def poolNewsSpec : ChangeSpec := { name := "poolNews", fn := fun _ => fun
  | [d] => { results := [.lit (.bool true)], args := [d] }
  | _ => none }
def poolNewsRow : OpenClaim := { program := "ytaihkmfihgaegaagreat", sum := "6d313a4ca8d0e2c7f86bc28caa60bfa22ea35e5231c7186a6c778a5d34fd2dac", func := "lavabo/lavabolaw24.PoolNews", spec := "poolNews", inPlace := ["slices.overlaps[int]"], unfollowed := true, recurses := true, apart := false }
def PoolNewsSaid : Prop := poolNewsRow.holds Tryz.pinned (OpenSpec.ofChange poolNewsSpec)

/-- ITS FALSE NEIGHBOUR: 'it returns false'. Refute it at one input. -/
def poolNewsWrong : ChangeSpec := { name := "poolNews", fn := fun _ => fun
  | [d] => { results := [.lit (.bool false)], args := [d] }
  | _ => none }
def PoolNewsWrongFalsely : Prop := poolNewsRow.holds Tryz.pinned (OpenSpec.ofChange poolNewsWrong)

/-- 'lavabolaw24.PoolNobody': WHATEVER THE INPUT: true; the input reads as it did. -/
def poolNobodySpec : ChangeSpec := { name := "poolNobody", fn := fun _ => fun
  | [d1, d2] => { results := [.lit (.bool true)], args := [d1, d2] }
  | _ => none }
def poolNobodyRow : OpenClaim := { program := "ytaihkmfihgaegaagreat", sum := "6d313a4ca8d0e2c7f86bc28caa60bfa22ea35e5231c7186a6c778a5d34fd2dac", func := "lavabo/lavabolaw24.PoolNobody", spec := "poolNobody", inPlace := ["slices.overlaps[int]"], unfollowed := true, recurses := true, apart := false }
def PoolNobodySaid : Prop := poolNobodyRow.holds Tryz.pinned (OpenSpec.ofChange poolNobodySpec)

/-- ITS FALSE NEIGHBOUR: 'it returns false'. Refute it at one input. -/
def poolNobodyWrong : ChangeSpec := { name := "poolNobody", fn := fun _ => fun
  | [d1, d2] => { results := [.lit (.bool false)], args := [d1, d2] }
  | _ => none }
def PoolNobodyWrongFalsely : Prop := poolNobodyRow.holds Tryz.pinned (OpenSpec.ofChange poolNobodyWrong)

/-- 'lavabolaw24.PoolTwice': WHATEVER THE INPUT: true; the input reads as it did. -/
def poolTwiceSpec : ChangeSpec := { name := "poolTwice", fn := fun _ => fun
  | [d1, d2] => { results := [.lit (.bool true)], args := [d1, d2] }
  | _ => none }
def poolTwiceRow : OpenClaim := { program := "ytaihkmfihgaegaagreat", sum := "6d313a4ca8d0e2c7f86bc28caa60bfa22ea35e5231c7186a6c778a5d34fd2dac", func := "lavabo/lavabolaw24.PoolTwice", spec := "poolTwice", inPlace := ["slices.overlaps[int]"], unfollowed := true, recurses := true, apart := false }
def PoolTwiceSaid : Prop := poolTwiceRow.holds Tryz.pinned (OpenSpec.ofChange poolTwiceSpec)

/-- ITS FALSE NEIGHBOUR: 'it returns false'. Refute it at one input. -/
def poolTwiceWrong : ChangeSpec := { name := "poolTwice", fn := fun _ => fun
  | [d1, d2] => { results := [.lit (.bool false)], args := [d1, d2] }
  | _ => none }
def PoolTwiceWrongFalsely : Prop := poolTwiceRow.holds Tryz.pinned (OpenSpec.ofChange poolTwiceWrong)

/-- 'lavabolaw24.PoolStamps': WHATEVER THE INPUT: true; the input reads as it did. -/
def poolStampsSpec : ChangeSpec := { name := "poolStamps", fn := fun _ => fun
  | [d1, d2] => { results := [.lit (.bool true)], args := [d1, d2] }
  | _ => none }
def poolStampsRow : OpenClaim := { program := "ytaihkmfihgaegaagreat", sum := "6d313a4ca8d0e2c7f86bc28caa60bfa22ea35e5231c7186a6c778a5d34fd2dac", func := "lavabo/lavabolaw24.PoolStamps", spec := "poolStamps", inPlace := ["slices.overlaps[int]"], unfollowed := true, recurses := true, apart := false }
def PoolStampsSaid : Prop := poolStampsRow.holds Tryz.pinned (OpenSpec.ofChange poolStampsSpec)

/-- ITS FALSE NEIGHBOUR: 'it returns false'. Refute it at one input. -/
def poolStampsWrong : ChangeSpec := { name := "poolStamps", fn := fun _ => fun
  | [d1, d2] => { results := [.lit (.bool false)], args := [d1, d2] }
  | _ => none }
def PoolStampsWrongFalsely : Prop := poolStampsRow.holds Tryz.pinned (OpenSpec.ofChange poolStampsWrong)

/-- 'lavabolaw24.PoolDown': WHATEVER THE INPUT: true; the input reads as it did. -/
def poolDownSpec : ChangeSpec := { name := "poolDown", fn := fun _ => fun
  | [d1, d2, d3, d4] => { results := [.lit (.bool true)], args := [d1, d2, d3, d4] }
  | _ => none }
def poolDownRow : OpenClaim := { program := "ytaihkmfihgaegaagreat", sum := "6d313a4ca8d0e2c7f86bc28caa60bfa22ea35e5231c7186a6c778a5d34fd2dac", func := "lavabo/lavabolaw24.PoolDown", spec := "poolDown", inPlace := ["slices.overlaps[int]"], unfollowed := true, recurses := true, apart := false }
def PoolDownSaid : Prop := poolDownRow.holds Tryz.pinned (OpenSpec.ofChange poolDownSpec)

/-- ITS FALSE NEIGHBOUR: 'it returns false'. Refute it at one input. -/
def poolDownWrong : ChangeSpec := { name := "poolDown", fn := fun _ => fun
  | [d1, d2, d3, d4] => { results := [.lit (.bool false)], args := [d1, d2, d3, d4] }
  | _ => none }
def PoolDownWrongFalsely : Prop := poolDownRow.holds Tryz.pinned (OpenSpec.ofChange poolDownWrong)

/-- 'lavabolaw24.PoolReady': WHATEVER THE INPUT: true; the input reads as it did. -/
def poolReadySpec : ChangeSpec := { name := "poolReady", fn := fun _ => fun
  | [d1, d2] => { results := [.lit (.bool true)], args := [d1, d2] }
  | _ => none }
def poolReadyRow : OpenClaim := { program := "ytaihkmfihgaegaagreat", sum := "6d313a4ca8d0e2c7f86bc28caa60bfa22ea35e5231c7186a6c778a5d34fd2dac", func := "lavabo/lavabolaw24.PoolReady", spec := "poolReady", inPlace := ["slices.overlaps[int]"], unfollowed := true, recurses := true, apart := false }
def PoolReadySaid : Prop := poolReadyRow.holds Tryz.pinned (OpenSpec.ofChange poolReadySpec)

/-- ITS FALSE NEIGHBOUR: 'it returns false'. Refute it at one input. -/
def poolReadyWrong : ChangeSpec := { name := "poolReady", fn := fun _ => fun
  | [d1, d2] => { results := [.lit (.bool false)], args := [d1, d2] }
  | _ => none }
def PoolReadyWrongFalsely : Prop := poolReadyRow.holds Tryz.pinned (OpenSpec.ofChange poolReadyWrong)

/-- 'lavabolaw25.RoundsReady': WHATEVER THE INPUT: true; the input reads as it did. -/
def roundsReadySpec : ChangeSpec := { name := "roundsReady", fn := fun _ => fun
  | [d1, d2] => { results := [.lit (.bool true)], args := [d1, d2] }
  | _ => none }
def roundsReadyRow : OpenClaim := { program := "ytaihkmfihgaegaagreat", sum := "6d313a4ca8d0e2c7f86bc28caa60bfa22ea35e5231c7186a6c778a5d34fd2dac", func := "lavabo/lavabolaw25.RoundsReady", spec := "roundsReady", inPlace := ["slices.overlaps[int]"], unfollowed := true, recurses := true, apart := false }
def RoundsReadySaid : Prop := roundsReadyRow.holds Tryz.pinned (OpenSpec.ofChange roundsReadySpec)

/-- ITS FALSE NEIGHBOUR: 'it returns false'. Refute it at one input. -/
def roundsReadyWrong : ChangeSpec := { name := "roundsReady", fn := fun _ => fun
  | [d1, d2] => { results := [.lit (.bool false)], args := [d1, d2] }
  | _ => none }
def RoundsReadyWrongFalsely : Prop := roundsReadyRow.holds Tryz.pinned (OpenSpec.ofChange roundsReadyWrong)

/-- 'lavabolaw25.RoundsSerial': WHATEVER THE INPUT: true; the input reads as it did. -/
def roundsSerialSpec : ChangeSpec := { name := "roundsSerial", fn := fun _ => fun
  | [d1, d2] => { results := [.lit (.bool true)], args := [d1, d2] }
  | _ => none }
def roundsSerialRow : OpenClaim := { program := "ytaihkmfihgaegaagreat", sum := "6d313a4ca8d0e2c7f86bc28caa60bfa22ea35e5231c7186a6c778a5d34fd2dac", func := "lavabo/lavabolaw25.RoundsSerial", spec := "roundsSerial", inPlace := ["slices.overlaps[int]"], unfollowed := true, recurses := true, apart := false }
def RoundsSerialSaid : Prop := roundsSerialRow.holds Tryz.pinned (OpenSpec.ofChange roundsSerialSpec)

/-- ITS FALSE NEIGHBOUR: 'it returns false'. Refute it at one input. -/
def roundsSerialWrong : ChangeSpec := { name := "roundsSerial", fn := fun _ => fun
  | [d1, d2] => { results := [.lit (.bool false)], args := [d1, d2] }
  | _ => none }
def RoundsSerialWrongFalsely : Prop := roundsSerialRow.holds Tryz.pinned (OpenSpec.ofChange roundsSerialWrong)

/-- 'lavabolaw25.RoundsGood': WHATEVER THE INPUT: true; the input reads as it did. -/
def roundsGoodSpec : ChangeSpec := { name := "roundsGood", fn := fun _ => fun
  | [d1, d2] => { results := [.lit (.bool true)], args := [d1, d2] }
  | _ => none }
def roundsGoodRow : OpenClaim := { program := "ytaihkmfihgaegaagreat", sum := "6d313a4ca8d0e2c7f86bc28caa60bfa22ea35e5231c7186a6c778a5d34fd2dac", func := "lavabo/lavabolaw25.RoundsGood", spec := "roundsGood", inPlace := ["slices.overlaps[int]"], unfollowed := true, recurses := true, apart := false }
def RoundsGoodSaid : Prop := roundsGoodRow.holds Tryz.pinned (OpenSpec.ofChange roundsGoodSpec)

/-- ITS FALSE NEIGHBOUR: 'it returns false'. Refute it at one input. -/
def roundsGoodWrong : ChangeSpec := { name := "roundsGood", fn := fun _ => fun
  | [d1, d2] => { results := [.lit (.bool false)], args := [d1, d2] }
  | _ => none }
def RoundsGoodWrongFalsely : Prop := roundsGoodRow.holds Tryz.pinned (OpenSpec.ofChange roundsGoodWrong)

/-- 'lavabolaw25.RoundsSettle': WHATEVER THE INPUT: true; the input reads as it did. -/
def roundsSettleSpec : ChangeSpec := { name := "roundsSettle", fn := fun _ => fun
  | [d1, d2] => { results := [.lit (.bool true)], args := [d1, d2] }
  | _ => none }
def roundsSettleRow : OpenClaim := { program := "ytaihkmfihgaegaagreat", sum := "6d313a4ca8d0e2c7f86bc28caa60bfa22ea35e5231c7186a6c778a5d34fd2dac", func := "lavabo/lavabolaw25.RoundsSettle", spec := "roundsSettle", inPlace := ["slices.overlaps[int]"], unfollowed := true, recurses := true, apart := false }
def RoundsSettleSaid : Prop := roundsSettleRow.holds Tryz.pinned (OpenSpec.ofChange roundsSettleSpec)

/-- ITS FALSE NEIGHBOUR: 'it returns false'. Refute it at one input. -/
def roundsSettleWrong : ChangeSpec := { name := "roundsSettle", fn := fun _ => fun
  | [d1, d2] => { results := [.lit (.bool false)], args := [d1, d2] }
  | _ => none }
def RoundsSettleWrongFalsely : Prop := roundsSettleRow.holds Tryz.pinned (OpenSpec.ofChange roundsSettleWrong)

/-- 'lavabolaw25.RoundsSizes': WHATEVER THE INPUT: true; the input reads as it did. -/
def roundsSizesSpec : ChangeSpec := { name := "roundsSizes", fn := fun _ => fun
  | [d1, d2, d3] => { results := [.lit (.bool true)], args := [d1, d2, d3] }
  | _ => none }
def roundsSizesRow : OpenClaim := { program := "ytaihkmfihgaegaagreat", sum := "6d313a4ca8d0e2c7f86bc28caa60bfa22ea35e5231c7186a6c778a5d34fd2dac", func := "lavabo/lavabolaw25.RoundsSizes", spec := "roundsSizes", inPlace := ["slices.overlaps[int]"], unfollowed := true, recurses := true, apart := false }
def RoundsSizesSaid : Prop := roundsSizesRow.holds Tryz.pinned (OpenSpec.ofChange roundsSizesSpec)

/-- ITS FALSE NEIGHBOUR: 'it returns false'. Refute it at one input. -/
def roundsSizesWrong : ChangeSpec := { name := "roundsSizes", fn := fun _ => fun
  | [d1, d2, d3] => { results := [.lit (.bool false)], args := [d1, d2, d3] }
  | _ => none }
def RoundsSizesWrongFalsely : Prop := roundsSizesRow.holds Tryz.pinned (OpenSpec.ofChange roundsSizesWrong)

/-- 'lavabolaw25.RoundsMoves': WHATEVER THE INPUT: true; the input reads as it did. -/
def roundsMovesSpec : ChangeSpec := { name := "roundsMoves", fn := fun _ => fun
  | [d1, d2, d3] => { results := [.lit (.bool true)], args := [d1, d2, d3] }
  | _ => none }
def roundsMovesRow : OpenClaim := { program := "ytaihkmfihgaegaagreat", sum := "6d313a4ca8d0e2c7f86bc28caa60bfa22ea35e5231c7186a6c778a5d34fd2dac", func := "lavabo/lavabolaw25.RoundsMoves", spec := "roundsMoves", inPlace := ["slices.overlaps[int]"], unfollowed := true, recurses := true, apart := false }
def RoundsMovesSaid : Prop := roundsMovesRow.holds Tryz.pinned (OpenSpec.ofChange roundsMovesSpec)

/-- ITS FALSE NEIGHBOUR: 'it returns false'. Refute it at one input. -/
def roundsMovesWrong : ChangeSpec := { name := "roundsMoves", fn := fun _ => fun
  | [d1, d2, d3] => { results := [.lit (.bool false)], args := [d1, d2, d3] }
  | _ => none }
def RoundsMovesWrongFalsely : Prop := roundsMovesRow.holds Tryz.pinned (OpenSpec.ofChange roundsMovesWrong)

/-- 'lavabolaw25.RoundsStay': WHATEVER THE INPUT: true; the input reads as it did. -/
def roundsStaySpec : ChangeSpec := { name := "roundsStay", fn := fun _ => fun
  | [d1, d2, d3] => { results := [.lit (.bool true)], args := [d1, d2, d3] }
  | _ => none }
def roundsStayRow : OpenClaim := { program := "ytaihkmfihgaegaagreat", sum := "6d313a4ca8d0e2c7f86bc28caa60bfa22ea35e5231c7186a6c778a5d34fd2dac", func := "lavabo/lavabolaw25.RoundsStay", spec := "roundsStay", inPlace := ["slices.overlaps[int]"], unfollowed := true, recurses := true, apart := false }
def RoundsStaySaid : Prop := roundsStayRow.holds Tryz.pinned (OpenSpec.ofChange roundsStaySpec)

/-- ITS FALSE NEIGHBOUR: 'it returns false'. Refute it at one input. -/
def roundsStayWrong : ChangeSpec := { name := "roundsStay", fn := fun _ => fun
  | [d1, d2, d3] => { results := [.lit (.bool false)], args := [d1, d2, d3] }
  | _ => none }
def RoundsStayWrongFalsely : Prop := roundsStayRow.holds Tryz.pinned (OpenSpec.ofChange roundsStayWrong)

/-- 'lavabolaw25.RoundsFlush': WHATEVER THE INPUT: true; the input reads as it did. -/
def roundsFlushSpec : ChangeSpec := { name := "roundsFlush", fn := fun _ => fun
  | [d1, d2] => { results := [.lit (.bool true)], args := [d1, d2] }
  | _ => none }
def roundsFlushRow : OpenClaim := { program := "ytaihkmfihgaegaagreat", sum := "6d313a4ca8d0e2c7f86bc28caa60bfa22ea35e5231c7186a6c778a5d34fd2dac", func := "lavabo/lavabolaw25.RoundsFlush", spec := "roundsFlush", inPlace := ["slices.overlaps[int]"], unfollowed := true, recurses := true, apart := false }
def RoundsFlushSaid : Prop := roundsFlushRow.holds Tryz.pinned (OpenSpec.ofChange roundsFlushSpec)

/-- ITS FALSE NEIGHBOUR: 'it returns false'. Refute it at one input. -/
def roundsFlushWrong : ChangeSpec := { name := "roundsFlush", fn := fun _ => fun
  | [d1, d2] => { results := [.lit (.bool false)], args := [d1, d2] }
  | _ => none }
def RoundsFlushWrongFalsely : Prop := roundsFlushRow.holds Tryz.pinned (OpenSpec.ofChange roundsFlushWrong)

/-- 'lavabolaw25.RoundsPins': WHATEVER THE INPUT: true; the input reads as it did. -/
def roundsPinsSpec : ChangeSpec := { name := "roundsPins", fn := fun _ => fun
  | [d1, d2, d3] => { results := [.lit (.bool true)], args := [d1, d2, d3] }
  | _ => none }
def roundsPinsRow : OpenClaim := { program := "ytaihkmfihgaegaagreat", sum := "6d313a4ca8d0e2c7f86bc28caa60bfa22ea35e5231c7186a6c778a5d34fd2dac", func := "lavabo/lavabolaw25.RoundsPins", spec := "roundsPins", inPlace := ["slices.overlaps[int]"], unfollowed := true, recurses := true, apart := false }
def RoundsPinsSaid : Prop := roundsPinsRow.holds Tryz.pinned (OpenSpec.ofChange roundsPinsSpec)

/-- ITS FALSE NEIGHBOUR: 'it returns false'. Refute it at one input. -/
def roundsPinsWrong : ChangeSpec := { name := "roundsPins", fn := fun _ => fun
  | [d1, d2, d3] => { results := [.lit (.bool false)], args := [d1, d2, d3] }
  | _ => none }
def RoundsPinsWrongFalsely : Prop := roundsPinsRow.holds Tryz.pinned (OpenSpec.ofChange roundsPinsWrong)

/-- 'lavabolaw24.PoolTells': WHATEVER THE INPUT: true; the input reads as it did. -/
def poolTellsSpec : ChangeSpec := { name := "poolTells", fn := fun _ => fun
  | [d1, d2] => { results := [.lit (.bool true)], args := [d1, d2] }
  | _ => none }
def poolTellsRow : OpenClaim := { program := "ytaihkmfihgaegaagreat", sum := "6d313a4ca8d0e2c7f86bc28caa60bfa22ea35e5231c7186a6c778a5d34fd2dac", func := "lavabo/lavabolaw24.PoolTells", spec := "poolTells", inPlace := ["slices.overlaps[int]"], unfollowed := true, recurses := true, apart := false }
def PoolTellsSaid : Prop := poolTellsRow.holds Tryz.pinned (OpenSpec.ofChange poolTellsSpec)

/-- ITS FALSE NEIGHBOUR: 'it returns false'. Refute it at one input. -/
def poolTellsWrong : ChangeSpec := { name := "poolTells", fn := fun _ => fun
  | [d1, d2] => { results := [.lit (.bool false)], args := [d1, d2] }
  | _ => none }
def PoolTellsWrongFalsely : Prop := poolTellsRow.holds Tryz.pinned (OpenSpec.ofChange poolTellsWrong)

/-- 'lavabolaw24.PoolCrashes': WHATEVER THE INPUT: true; the input reads as it did. -/
def poolCrashesSpec : ChangeSpec := { name := "poolCrashes", fn := fun _ => fun
  | [d1, d2, d3] => { results := [.lit (.bool true)], args := [d1, d2, d3] }
  | _ => none }
def poolCrashesRow : OpenClaim := { program := "ytaihkmfihgaegaagreat", sum := "6d313a4ca8d0e2c7f86bc28caa60bfa22ea35e5231c7186a6c778a5d34fd2dac", func := "lavabo/lavabolaw24.PoolCrashes", spec := "poolCrashes", inPlace := ["slices.overlaps[int]"], unfollowed := true, recurses := true, apart := false }
def PoolCrashesSaid : Prop := poolCrashesRow.holds Tryz.pinned (OpenSpec.ofChange poolCrashesSpec)

/-- ITS FALSE NEIGHBOUR: 'it returns false'. Refute it at one input. -/
def poolCrashesWrong : ChangeSpec := { name := "poolCrashes", fn := fun _ => fun
  | [d1, d2, d3] => { results := [.lit (.bool false)], args := [d1, d2, d3] }
  | _ => none }
def PoolCrashesWrongFalsely : Prop := poolCrashesRow.holds Tryz.pinned (OpenSpec.ofChange poolCrashesWrong)

/-- 'lavabolaw26.TwinSame': WHATEVER THE INPUT: true; the input reads as it did. -/
def twinSameSpec : ChangeSpec := { name := "twinSame", fn := fun _ => fun
  | [d1, d2, d3] => { results := [.lit (.bool true)], args := [d1, d2, d3] }
  | _ => none }
def twinSameRow : OpenClaim := { program := "ytaihkmfihgaegaagreat", sum := "6d313a4ca8d0e2c7f86bc28caa60bfa22ea35e5231c7186a6c778a5d34fd2dac", func := "lavabo/lavabolaw26.TwinSame", spec := "twinSame", inPlace := ["slices.overlaps[int]"], unfollowed := true, recurses := true, apart := false }
def TwinSameSaid : Prop := twinSameRow.holds Tryz.pinned (OpenSpec.ofChange twinSameSpec)

/-- ITS FALSE NEIGHBOUR: 'it returns false'. Refute it at one input. -/
def twinSameWrong : ChangeSpec := { name := "twinSame", fn := fun _ => fun
  | [d1, d2, d3] => { results := [.lit (.bool false)], args := [d1, d2, d3] }
  | _ => none }
def TwinSameWrongFalsely : Prop := twinSameRow.holds Tryz.pinned (OpenSpec.ofChange twinSameWrong)

/-- 'lavabotop.TopCrash': WHATEVER THE INPUT: true; the input reads as it did. -/
def topCrashSpec : ChangeSpec := { name := "topCrash", fn := fun _ => fun
  | [d1, d2, d3, d4] => { results := [.lit (.bool true)], args := [d1, d2, d3, d4] }
  | _ => none }
def topCrashRow : OpenClaim := { program := "ytaihkmfihgaegaagreat", sum := "6d313a4ca8d0e2c7f86bc28caa60bfa22ea35e5231c7186a6c778a5d34fd2dac", func := "lavabo/lavabotop.TopCrash", spec := "topCrash", inPlace := ["slices.overlaps[int]"], unfollowed := true, recurses := true, apart := false }
def TopCrashSaid : Prop := topCrashRow.holds Tryz.pinned (OpenSpec.ofChange topCrashSpec)

/-- ITS FALSE NEIGHBOUR: 'it returns false'. Refute it at one input. -/
def topCrashWrong : ChangeSpec := { name := "topCrash", fn := fun _ => fun
  | [d1, d2, d3, d4] => { results := [.lit (.bool false)], args := [d1, d2, d3, d4] }
  | _ => none }
def TopCrashWrongFalsely : Prop := topCrashRow.holds Tryz.pinned (OpenSpec.ofChange topCrashWrong)

/-- 'lavabotop.TopTwins': WHATEVER THE INPUT: true; the input reads as it did. -/
def topTwinsSpec : ChangeSpec := { name := "topTwins", fn := fun _ => fun
  | [d] => { results := [.lit (.bool true)], args := [d] }
  | _ => none }
def topTwinsRow : OpenClaim := { program := "ytaihkmfihgaegaagreat", sum := "6d313a4ca8d0e2c7f86bc28caa60bfa22ea35e5231c7186a6c778a5d34fd2dac", func := "lavabo/lavabotop.TopTwins", spec := "topTwins", inPlace := ["slices.overlaps[int]"], unfollowed := true, recurses := true, apart := false }
def TopTwinsSaid : Prop := topTwinsRow.holds Tryz.pinned (OpenSpec.ofChange topTwinsSpec)

/-- ITS FALSE NEIGHBOUR: 'it returns false'. Refute it at one input. -/
def topTwinsWrong : ChangeSpec := { name := "topTwins", fn := fun _ => fun
  | [d] => { results := [.lit (.bool false)], args := [d] }
  | _ => none }
def TopTwinsWrongFalsely : Prop := topTwinsRow.holds Tryz.pinned (OpenSpec.ofChange topTwinsWrong)

/-- 'lavabotop.TopAll': WHATEVER THE INPUT: true; the input reads as it did. -/
def topAllSpec : ChangeSpec := { name := "topAll", fn := fun _ => fun
  | [d] => { results := [.lit (.bool true)], args := [d] }
  | _ => none }
def topAllRow : OpenClaim := { program := "ytaihkmfihgaegaagreat", sum := "6d313a4ca8d0e2c7f86bc28caa60bfa22ea35e5231c7186a6c778a5d34fd2dac", func := "lavabo/lavabotop.TopAll", spec := "topAll", inPlace := ["slices.overlaps[int]"], unfollowed := true, recurses := true, apart := false }
def TopAllSaid : Prop := topAllRow.holds Tryz.pinned (OpenSpec.ofChange topAllSpec)

/-- ITS FALSE NEIGHBOUR: 'it returns false'. Refute it at one input. -/
def topAllWrong : ChangeSpec := { name := "topAll", fn := fun _ => fun
  | [d] => { results := [.lit (.bool false)], args := [d] }
  | _ => none }
def TopAllWrongFalsely : Prop := topAllRow.holds Tryz.pinned (OpenSpec.ofChange topAllWrong)

/- THE SECOND FORM. 'bulk': how many values and letters a reading holds, each counted each time it is reached (what is shared counts as often as it is met; a slice's spare places count too). A statement '..UptoSaid' is the law's where the arguments, and the package variables that the reading takes, are together of bulk at most 1048576: NARROWER than '..Said'. Prove '..Said' where nothing that the law and all that it calls make is longer than what came in: it says more and counts as full. Else prove '..UptoSaid'. A law counts once. -/
mutual
def uptoBulk {H : Type} : DataW H → Nat
  | .lit (.string bytes) => bytes.length + 1
  | .lit _ => 1
  | .nil => 1
  | .ptr d => uptoBulk d + 1
  | .slice elems spare => uptoBulkAll elems + uptoBulkAll spare + 1
  | .agg parts => uptoBulkAll parts + 1
  | .iface _ d => uptoBulk d + 1
  | .map entries => uptoBulkEntries entries + 1
  | .held _ => 1
def uptoBulkAll {H : Type} : List (DataW H) → Nat
  | [] => 0
  | d :: r => uptoBulk d + uptoBulkAll r
def uptoBulkEntries {H : Type} : List (Lit × DataW H) → Nat
  | [] => 0
  | x :: r => uptoBulkEntry x + uptoBulkEntries r
def uptoBulkEntry {H : Type} : Lit × DataW H → Nat
  | (.string bytes, d) => bytes.length + uptoBulk d + 1
  | (_, d) => uptoBulk d + 1
 end
def uptoSmall : (H : Type) → List (DataW H) → Bool := fun _ ds => decide (uptoBulkAll ds ≤ 1048576)
def OpenSpec.upto (s : _root_.Go.ChangeSpec) : _root_.Go.OpenSpec := { _root_.Go.OpenSpec.ofChange s with cond := some uptoSmall }

/-- 'lavabolaw24.PoolNews', WHERE WHAT IT READS IS OF BULK AT MOST 1048576: true; the input reads as it did. -/
def poolNewsUptoRow : OpenClaim := { program := "ytaihkmfihgaegaagreat", sum := "6d313a4ca8d0e2c7f86bc28caa60bfa22ea35e5231c7186a6c778a5d34fd2dac", func := "lavabo/lavabolaw24.PoolNews", spec := "poolNews", inPlace := ["slices.overlaps[int]"], unfollowed := true, recurses := true, apart := false, narrowed := true }
def PoolNewsUptoSaid : Prop := poolNewsUptoRow.holds Tryz.pinned (OpenSpec.upto poolNewsSpec)

/-- 'lavabolaw24.PoolNobody', WHERE WHAT IT READS IS OF BULK AT MOST 1048576: true; the input reads as it did. -/
def poolNobodyUptoRow : OpenClaim := { program := "ytaihkmfihgaegaagreat", sum := "6d313a4ca8d0e2c7f86bc28caa60bfa22ea35e5231c7186a6c778a5d34fd2dac", func := "lavabo/lavabolaw24.PoolNobody", spec := "poolNobody", inPlace := ["slices.overlaps[int]"], unfollowed := true, recurses := true, apart := false, narrowed := true }
def PoolNobodyUptoSaid : Prop := poolNobodyUptoRow.holds Tryz.pinned (OpenSpec.upto poolNobodySpec)

/-- 'lavabolaw24.PoolTwice', WHERE WHAT IT READS IS OF BULK AT MOST 1048576: true; the input reads as it did. -/
def poolTwiceUptoRow : OpenClaim := { program := "ytaihkmfihgaegaagreat", sum := "6d313a4ca8d0e2c7f86bc28caa60bfa22ea35e5231c7186a6c778a5d34fd2dac", func := "lavabo/lavabolaw24.PoolTwice", spec := "poolTwice", inPlace := ["slices.overlaps[int]"], unfollowed := true, recurses := true, apart := false, narrowed := true }
def PoolTwiceUptoSaid : Prop := poolTwiceUptoRow.holds Tryz.pinned (OpenSpec.upto poolTwiceSpec)

/-- 'lavabolaw24.PoolStamps', WHERE WHAT IT READS IS OF BULK AT MOST 1048576: true; the input reads as it did. -/
def poolStampsUptoRow : OpenClaim := { program := "ytaihkmfihgaegaagreat", sum := "6d313a4ca8d0e2c7f86bc28caa60bfa22ea35e5231c7186a6c778a5d34fd2dac", func := "lavabo/lavabolaw24.PoolStamps", spec := "poolStamps", inPlace := ["slices.overlaps[int]"], unfollowed := true, recurses := true, apart := false, narrowed := true }
def PoolStampsUptoSaid : Prop := poolStampsUptoRow.holds Tryz.pinned (OpenSpec.upto poolStampsSpec)

/-- 'lavabolaw24.PoolDown', WHERE WHAT IT READS IS OF BULK AT MOST 1048576: true; the input reads as it did. -/
def poolDownUptoRow : OpenClaim := { program := "ytaihkmfihgaegaagreat", sum := "6d313a4ca8d0e2c7f86bc28caa60bfa22ea35e5231c7186a6c778a5d34fd2dac", func := "lavabo/lavabolaw24.PoolDown", spec := "poolDown", inPlace := ["slices.overlaps[int]"], unfollowed := true, recurses := true, apart := false, narrowed := true }
def PoolDownUptoSaid : Prop := poolDownUptoRow.holds Tryz.pinned (OpenSpec.upto poolDownSpec)

/-- 'lavabolaw24.PoolReady', WHERE WHAT IT READS IS OF BULK AT MOST 1048576: true; the input reads as it did. -/
def poolReadyUptoRow : OpenClaim := { program := "ytaihkmfihgaegaagreat", sum := "6d313a4ca8d0e2c7f86bc28caa60bfa22ea35e5231c7186a6c778a5d34fd2dac", func := "lavabo/lavabolaw24.PoolReady", spec := "poolReady", inPlace := ["slices.overlaps[int]"], unfollowed := true, recurses := true, apart := false, narrowed := true }
def PoolReadyUptoSaid : Prop := poolReadyUptoRow.holds Tryz.pinned (OpenSpec.upto poolReadySpec)

/-- 'lavabolaw25.RoundsReady', WHERE WHAT IT READS IS OF BULK AT MOST 1048576: true; the input reads as it did. -/
def roundsReadyUptoRow : OpenClaim := { program := "ytaihkmfihgaegaagreat", sum := "6d313a4ca8d0e2c7f86bc28caa60bfa22ea35e5231c7186a6c778a5d34fd2dac", func := "lavabo/lavabolaw25.RoundsReady", spec := "roundsReady", inPlace := ["slices.overlaps[int]"], unfollowed := true, recurses := true, apart := false, narrowed := true }
def RoundsReadyUptoSaid : Prop := roundsReadyUptoRow.holds Tryz.pinned (OpenSpec.upto roundsReadySpec)

/-- 'lavabolaw25.RoundsSerial', WHERE WHAT IT READS IS OF BULK AT MOST 1048576: true; the input reads as it did. -/
def roundsSerialUptoRow : OpenClaim := { program := "ytaihkmfihgaegaagreat", sum := "6d313a4ca8d0e2c7f86bc28caa60bfa22ea35e5231c7186a6c778a5d34fd2dac", func := "lavabo/lavabolaw25.RoundsSerial", spec := "roundsSerial", inPlace := ["slices.overlaps[int]"], unfollowed := true, recurses := true, apart := false, narrowed := true }
def RoundsSerialUptoSaid : Prop := roundsSerialUptoRow.holds Tryz.pinned (OpenSpec.upto roundsSerialSpec)

/-- 'lavabolaw25.RoundsGood', WHERE WHAT IT READS IS OF BULK AT MOST 1048576: true; the input reads as it did. -/
def roundsGoodUptoRow : OpenClaim := { program := "ytaihkmfihgaegaagreat", sum := "6d313a4ca8d0e2c7f86bc28caa60bfa22ea35e5231c7186a6c778a5d34fd2dac", func := "lavabo/lavabolaw25.RoundsGood", spec := "roundsGood", inPlace := ["slices.overlaps[int]"], unfollowed := true, recurses := true, apart := false, narrowed := true }
def RoundsGoodUptoSaid : Prop := roundsGoodUptoRow.holds Tryz.pinned (OpenSpec.upto roundsGoodSpec)

/-- 'lavabolaw25.RoundsSettle', WHERE WHAT IT READS IS OF BULK AT MOST 1048576: true; the input reads as it did. -/
def roundsSettleUptoRow : OpenClaim := { program := "ytaihkmfihgaegaagreat", sum := "6d313a4ca8d0e2c7f86bc28caa60bfa22ea35e5231c7186a6c778a5d34fd2dac", func := "lavabo/lavabolaw25.RoundsSettle", spec := "roundsSettle", inPlace := ["slices.overlaps[int]"], unfollowed := true, recurses := true, apart := false, narrowed := true }
def RoundsSettleUptoSaid : Prop := roundsSettleUptoRow.holds Tryz.pinned (OpenSpec.upto roundsSettleSpec)

/-- 'lavabolaw25.RoundsSizes', WHERE WHAT IT READS IS OF BULK AT MOST 1048576: true; the input reads as it did. -/
def roundsSizesUptoRow : OpenClaim := { program := "ytaihkmfihgaegaagreat", sum := "6d313a4ca8d0e2c7f86bc28caa60bfa22ea35e5231c7186a6c778a5d34fd2dac", func := "lavabo/lavabolaw25.RoundsSizes", spec := "roundsSizes", inPlace := ["slices.overlaps[int]"], unfollowed := true, recurses := true, apart := false, narrowed := true }
def RoundsSizesUptoSaid : Prop := roundsSizesUptoRow.holds Tryz.pinned (OpenSpec.upto roundsSizesSpec)

/-- 'lavabolaw25.RoundsMoves', WHERE WHAT IT READS IS OF BULK AT MOST 1048576: true; the input reads as it did. -/
def roundsMovesUptoRow : OpenClaim := { program := "ytaihkmfihgaegaagreat", sum := "6d313a4ca8d0e2c7f86bc28caa60bfa22ea35e5231c7186a6c778a5d34fd2dac", func := "lavabo/lavabolaw25.RoundsMoves", spec := "roundsMoves", inPlace := ["slices.overlaps[int]"], unfollowed := true, recurses := true, apart := false, narrowed := true }
def RoundsMovesUptoSaid : Prop := roundsMovesUptoRow.holds Tryz.pinned (OpenSpec.upto roundsMovesSpec)

/-- 'lavabolaw25.RoundsStay', WHERE WHAT IT READS IS OF BULK AT MOST 1048576: true; the input reads as it did. -/
def roundsStayUptoRow : OpenClaim := { program := "ytaihkmfihgaegaagreat", sum := "6d313a4ca8d0e2c7f86bc28caa60bfa22ea35e5231c7186a6c778a5d34fd2dac", func := "lavabo/lavabolaw25.RoundsStay", spec := "roundsStay", inPlace := ["slices.overlaps[int]"], unfollowed := true, recurses := true, apart := false, narrowed := true }
def RoundsStayUptoSaid : Prop := roundsStayUptoRow.holds Tryz.pinned (OpenSpec.upto roundsStaySpec)

/-- 'lavabolaw25.RoundsFlush', WHERE WHAT IT READS IS OF BULK AT MOST 1048576: true; the input reads as it did. -/
def roundsFlushUptoRow : OpenClaim := { program := "ytaihkmfihgaegaagreat", sum := "6d313a4ca8d0e2c7f86bc28caa60bfa22ea35e5231c7186a6c778a5d34fd2dac", func := "lavabo/lavabolaw25.RoundsFlush", spec := "roundsFlush", inPlace := ["slices.overlaps[int]"], unfollowed := true, recurses := true, apart := false, narrowed := true }
def RoundsFlushUptoSaid : Prop := roundsFlushUptoRow.holds Tryz.pinned (OpenSpec.upto roundsFlushSpec)

/-- 'lavabolaw25.RoundsPins', WHERE WHAT IT READS IS OF BULK AT MOST 1048576: true; the input reads as it did. -/
def roundsPinsUptoRow : OpenClaim := { program := "ytaihkmfihgaegaagreat", sum := "6d313a4ca8d0e2c7f86bc28caa60bfa22ea35e5231c7186a6c778a5d34fd2dac", func := "lavabo/lavabolaw25.RoundsPins", spec := "roundsPins", inPlace := ["slices.overlaps[int]"], unfollowed := true, recurses := true, apart := false, narrowed := true }
def RoundsPinsUptoSaid : Prop := roundsPinsUptoRow.holds Tryz.pinned (OpenSpec.upto roundsPinsSpec)

/-- 'lavabolaw24.PoolTells', WHERE WHAT IT READS IS OF BULK AT MOST 1048576: true; the input reads as it did. -/
def poolTellsUptoRow : OpenClaim := { program := "ytaihkmfihgaegaagreat", sum := "6d313a4ca8d0e2c7f86bc28caa60bfa22ea35e5231c7186a6c778a5d34fd2dac", func := "lavabo/lavabolaw24.PoolTells", spec := "poolTells", inPlace := ["slices.overlaps[int]"], unfollowed := true, recurses := true, apart := false, narrowed := true }
def PoolTellsUptoSaid : Prop := poolTellsUptoRow.holds Tryz.pinned (OpenSpec.upto poolTellsSpec)

/-- 'lavabolaw24.PoolCrashes', WHERE WHAT IT READS IS OF BULK AT MOST 1048576: true; the input reads as it did. -/
def poolCrashesUptoRow : OpenClaim := { program := "ytaihkmfihgaegaagreat", sum := "6d313a4ca8d0e2c7f86bc28caa60bfa22ea35e5231c7186a6c778a5d34fd2dac", func := "lavabo/lavabolaw24.PoolCrashes", spec := "poolCrashes", inPlace := ["slices.overlaps[int]"], unfollowed := true, recurses := true, apart := false, narrowed := true }
def PoolCrashesUptoSaid : Prop := poolCrashesUptoRow.holds Tryz.pinned (OpenSpec.upto poolCrashesSpec)

/-- 'lavabolaw26.TwinSame', WHERE WHAT IT READS IS OF BULK AT MOST 1048576: true; the input reads as it did. -/
def twinSameUptoRow : OpenClaim := { program := "ytaihkmfihgaegaagreat", sum := "6d313a4ca8d0e2c7f86bc28caa60bfa22ea35e5231c7186a6c778a5d34fd2dac", func := "lavabo/lavabolaw26.TwinSame", spec := "twinSame", inPlace := ["slices.overlaps[int]"], unfollowed := true, recurses := true, apart := false, narrowed := true }
def TwinSameUptoSaid : Prop := twinSameUptoRow.holds Tryz.pinned (OpenSpec.upto twinSameSpec)

/-- 'lavabotop.TopCrash', WHERE WHAT IT READS IS OF BULK AT MOST 1048576: true; the input reads as it did. -/
def topCrashUptoRow : OpenClaim := { program := "ytaihkmfihgaegaagreat", sum := "6d313a4ca8d0e2c7f86bc28caa60bfa22ea35e5231c7186a6c778a5d34fd2dac", func := "lavabo/lavabotop.TopCrash", spec := "topCrash", inPlace := ["slices.overlaps[int]"], unfollowed := true, recurses := true, apart := false, narrowed := true }
def TopCrashUptoSaid : Prop := topCrashUptoRow.holds Tryz.pinned (OpenSpec.upto topCrashSpec)

/-- 'lavabotop.TopTwins', WHERE WHAT IT READS IS OF BULK AT MOST 1048576: true; the input reads as it did. -/
def topTwinsUptoRow : OpenClaim := { program := "ytaihkmfihgaegaagreat", sum := "6d313a4ca8d0e2c7f86bc28caa60bfa22ea35e5231c7186a6c778a5d34fd2dac", func := "lavabo/lavabotop.TopTwins", spec := "topTwins", inPlace := ["slices.overlaps[int]"], unfollowed := true, recurses := true, apart := false, narrowed := true }
def TopTwinsUptoSaid : Prop := topTwinsUptoRow.holds Tryz.pinned (OpenSpec.upto topTwinsSpec)

/-- 'lavabotop.TopAll', WHERE WHAT IT READS IS OF BULK AT MOST 1048576: true; the input reads as it did. -/
def topAllUptoRow : OpenClaim := { program := "ytaihkmfihgaegaagreat", sum := "6d313a4ca8d0e2c7f86bc28caa60bfa22ea35e5231c7186a6c778a5d34fd2dac", func := "lavabo/lavabotop.TopAll", spec := "topAll", inPlace := ["slices.overlaps[int]"], unfollowed := true, recurses := true, apart := false, narrowed := true }
def TopAllUptoSaid : Prop := topAllUptoRow.holds Tryz.pinned (OpenSpec.upto topAllSpec)

end Rows
end Go.Proofs.YtaihkmfihgaegaaGreat
