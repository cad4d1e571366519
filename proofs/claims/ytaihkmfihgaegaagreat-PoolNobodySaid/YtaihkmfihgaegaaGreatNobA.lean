/- Parts of the proof: Go functions as predicates over worlds, printed by a program of the prover's own. What is none does nothing: the walk. Conditions: none. -/
import Derived.Test.YtaihkmfihgaegaaGreatTab1
import Derived.Test.YtaihkmfihgaegaaGreatEngA
import Derived.Below
namespace Go.Eng
open Go
set_option linter.unusedVariables false
/-- lavabo/lavabolaw24.PoolNobody -/
def lavabolaw24_PoolNobody (R : Ending → World → Prop) (s_Kind1 : Int) (s_Client2 : Int) (s_N3 : Int) (s_To4 : Int) (s_Op_Kind5 : Int) (s_Op_Page6 : Int) (s_Op_Handle7 : Int) (s_Op_Off8 : Int) (s_Op_N9 : Int) (s_Op_Data10 : Sl) (s_Bits11 : Sl) (n12 : Int) : F :=
 nw [.int .i64 s_Kind1, .int .i64 s_Client2, .int .i64 s_N3, .int .i64 s_To4, .int .i64 s_Op_Kind5, .int .i64 s_Op_Page6, .int .i64 s_Op_Handle7, .int .i64 s_Op_Off8, .int .i64 s_Op_N9, .slice s_Op_Data10.a s_Op_Data10.len s_Op_Data10.cap, .slice s_Bits11.a s_Bits11.len s_Bits11.cap] 45 fun s13 =>
 call Go.Proofs.Tryz.prog 26 [] [(false, [.bo])] fun r14 =>
 br r14 (
 ld (.i .i64) (A s13 0) fun kind15 =>
 ld (.i .i64) (A s13 1) fun client16 =>
 ld (.i .i64) (A s13 2) fun n17 =>
 ld (.i .i64) (A s13 3) fun to18 =>
 ld (.i .i64) (A s13 4) fun op_Kind19 =>
 ld (.i .i64) (A s13 5) fun op_Page20 =>
 ld (.i .i64) (A s13 6) fun op_Handle21 =>
 ld (.i .i64) (A s13 7) fun op_Off22 =>
 ld (.i .i64) (A s13 8) fun op_N23 =>
 ld (.sl) (A s13 9) fun op_Data24 =>
 ld (.sl) (A s13 10) fun bits25 =>
 call Go.Proofs.Tryz.prog 36 [.pointer none, .agg #[.int .i64 kind15, .int .i64 client16, .int .i64 n17, .int .i64 to18, .int .i64 op_Kind19, .int .i64 op_Page20, .int .i64 op_Handle21, .int .i64 op_Off22, .int .i64 op_N23, .slice op_Data24.a op_Data24.len op_Data24.cap, .slice bits25.a bits25.len bits25.cap]] [(false, [.bo])] fun r26 =>
 br (!r26) (
 call Go.Proofs.Tryz.prog 27 [.pointer none] [(false, [.i .i64])] fun r27 =>
 br ((r27 : Int) == 0) (
 call Go.Proofs.Tryz.prog 28 [.pointer none] [(false, [.sl])] fun r28 =>
 br ((((r28.len : Nat) : Int) : Int) == 0) (
 call Go.Proofs.Tryz.prog 32 [.pointer none] [(false, [.sl])] fun r29 =>
 br ((((r29.len : Nat) : Int) : Int) == 0) (
 call Go.Proofs.Tryz.prog 29 [.pointer none] [(false, [.i .i64])] fun r30 =>
 br ((r30 : Int) == 0) (
 call Go.Proofs.Tryz.prog 37 [.pointer none] [(false, [.sl])] fun r31 =>
 br ((((r31.len : Nat) : Int) : Int) == 0) (
 call Go.Proofs.Tryz.prog 35 [.pointer none, .int .i64 n12] [(false, [.bo])] fun r32 =>
 br (!r32) (
 call Go.Proofs.Tryz.prog 30 [.pointer none] [(false, [.bo])] fun r33 =>
 br (!r33) (
 call Go.Proofs.Tryz.prog 34 [.pointer none] [(false, [.sl])] fun r34 =>
 br ((((r34.len : Nat) : Int) : Int) == 0) (
 call Go.Proofs.Tryz.prog 31 [.pointer none] [(false, [.bo])] fun r35 =>
 ret R (.bool r35)) (
 ret R (.bool false))) (
 ret R (.bool false))) (
 ret R (.bool false))) (
 ret R (.bool false))) (
 ret R (.bool false))) (
 ret R (.bool false))) (
 ret R (.bool false))) (
 ret R (.bool false))) (
 ret R (.bool false))) (
 ret R (.bool false))
theorem lavabolaw24_PoolNobody_ok {R : Ending → World → Prop} {s_Kind1 : Int} {s_Client2 : Int} {s_N3 : Int} {s_To4 : Int} {s_Op_Kind5 : Int} {s_Op_Page6 : Int} {s_Op_Handle7 : Int} {s_Op_Off8 : Int} {s_Op_N9 : Int} {s_Op_Data10 : Sl} {s_Bits11 : Sl} {n12 : Int} {w : World} (h : lavabolaw24_PoolNobody R s_Kind1 s_Client2 s_N3 s_To4 s_Op_Kind5 s_Op_Page6 s_Op_Handle7 s_Op_Off8 s_Op_N9 s_Op_Data10 s_Bits11 n12 w) : Calls Go.Proofs.Tryz.prog 4 #[.agg #[.int .i64 s_Kind1, .int .i64 s_Client2, .int .i64 s_N3, .int .i64 s_To4, .int .i64 s_Op_Kind5, .int .i64 s_Op_Page6, .int .i64 s_Op_Handle7, .int .i64 s_Op_Off8, .int .i64 s_Op_N9, .slice s_Op_Data10.a s_Op_Data10.len s_Op_Data10.cap, .slice s_Bits11.a s_Bits11.len s_Bits11.cap], .int .i64 n12] w R :=
  cfun_sound tab_ok (D := []) (.e) (args := [.agg #[.int .i64 s_Kind1, .int .i64 s_Client2, .int .i64 s_N3, .int .i64 s_To4, .int .i64 s_Op_Kind5, .int .i64 s_Op_Page6, .int .i64 s_Op_Handle7, .int .i64 s_Op_Off8, .int .i64 s_Op_N9, .slice s_Op_Data10.a s_Op_Data10.len s_Op_Data10.cap, .slice s_Bits11.a s_Bits11.len s_Bits11.cap], .int .i64 n12]) (c := bodyOf Go.Proofs.Tryz.f4) Go.Proofs.Tryz.func4 (by kernel_rfl) (by kernel_rfl) (by kernel_rfl) h

/-- (*lavabo/pool.Pool).Now -/
def pool_Pool_Now (R : Ending → World → Prop) (p1 : Option Addr) : F :=
 br (Option.isNone p1) (
 ret R (.int .i64 0)) (
 nn p1 fun b2 o3 =>
 ld (.i .i64) (A b2 (o3 + 18)) fun now4 =>
 ret R (.int .i64 now4))
theorem pool_Pool_Now_ok {R : Ending → World → Prop} {p1 : Option Addr} {w : World} (h : pool_Pool_Now R p1 w) : Calls Go.Proofs.Tryz.prog 27 #[.pointer p1] w R :=
  cfun_sound tab_ok (D := []) (.e) (args := [.pointer p1]) (c := bodyOf Go.Proofs.Tryz.f27) Go.Proofs.Tryz.func27 (by kernel_rfl) (by kernel_rfl) (by kernel_rfl) h

/-- (*lavabo/pool.Pool).History -/
def pool_Pool_History (R : Ending → World → Prop) (p1 : Option Addr) : F :=
 br (Option.isNone p1) (
 ret R (.slice none 0 0)) (
 nn p1 fun b2 o3 =>
 ld (.sl) (A b2 (o3 + 16)) fun events4 =>
 call Go.Proofs.Tryz.prog 87 [.slice events4.a events4.len events4.cap] [(false, [.sl])] fun r5 =>
 loopC [.i .i64] (fun again6 s147 =>
 br (decide ((s147 : Int) < ((r5.len : Nat) : Int))) (
 dr (
 ix r5.a r5.len s147 fun b8 o9 =>
 ld (.sl) (A b8 (o9 + Int.toNat s147 * 14 + 1 + 5)) fun data10 =>
 ix r5.a r5.len s147 fun b11 o12 =>
 ld (.sl) (A b11 (o12 + Int.toNat s147 * 14 + 7 + 3)) fun data13 =>
 call Go.Proofs.Tryz.prog 88 [.slice data10.a data10.len data10.cap] [(false, [.sl])] fun r14 =>
 rck [reL b11 (o12 + Int.toNat s147 * 14 + 7 + 3) (.slice data13.a data13.len data13.cap)] (
 call Go.Proofs.Tryz.prog 88 [.slice data13.a data13.len data13.cap] [(false, [.sl])] fun r15 =>
 ix r5.a r5.len s147 fun b16 o17 =>
 sts b16 (o17 + Int.toNat s147 * 14 + 1 + 5) [.slice r14.a r14.len r14.cap] (
 ix r5.a r5.len s147 fun b18 o19 =>
 sts b18 (o19 + Int.toNat s147 * 14 + 7 + 3) [.slice r15.a r15.len r15.cap] (
 again6 (IntKind.wrap .i64 (s147 + 1))))))) (
 ret R (.slice r5.a r5.len r5.cap))) 0)
theorem pool_Pool_History_ok {R : Ending → World → Prop} {p1 : Option Addr} {w : World} (h : pool_Pool_History R p1 w) : Calls Go.Proofs.Tryz.prog 28 #[.pointer p1] w R :=
  cfun_sound tab_ok (D := [(7, [0, 0, 0, 0, 0, 0, 48, 112, 240, 496, 1008, 0, 0, 6144, 14336, 30720, 63488, 131056, 262131, 524275, 1048563, 2097139, 4194303, 8388607, 16777215, 33554431], [[0, 1, 2, 3, 4, 5, 6, 7, 8, 9, 11, 12, 13, 14, 15, 16, 10, 17, 18, 19, 20, 21, 22, 23, 24, 25]])]) (.s none (.e) (.s none (.e) (.s none (.e) (.s none (.s none (.e) (.b (.l [(14, false, [.i .i64])] [3, 13] (.e)))) (.e))))) (args := [.pointer p1]) (c := bodyOf Go.Proofs.Tryz.f28) Go.Proofs.Tryz.func28 (by kernel_rfl) (by kernel_rfl) (by kernel_rfl) h

/-- (*lavabo/pool.Pool).Cap -/
def pool_Pool_Cap (R : Ending → World → Prop) (p1 : Option Addr) : F :=
 br (Option.isNone p1) (
 ret R (.int .i64 0)) (
 nn p1 fun b2 o3 =>
 ld (.sl) (A b2 (o3 + 14)) fun where_4 =>
 loopC [.i .i64, .i .i64] (fun again5 n6 s137 =>
 br (decide ((s137 : Int) < ((where_4.len : Nat) : Int))) (
 ix where_4.a where_4.len s137 fun b8 o9 =>
 ld (.i .i64) (A b8 (o9 + Int.toNat s137 * 3)) fun state10 =>
 ld (.i .i64) (A b8 (o9 + Int.toNat s137 * 3 + 1)) fun shard11 =>
 ld (.i .i64) (A b8 (o9 + Int.toNat s137 * 3 + 2)) fun local_12 =>
 nw [.int .i64 0, .int .i64 0, .int .i64 0] 136 fun w_13 =>
 sts w_13 0 [.int .i64 state10, .int .i64 shard11, .int .i64 local_12] (
 ld (.i .i64) (A w_13 0) fun state14 =>
 br ((state14 : Int) != 4) (
 again5 (IntKind.wrap .i64 (n6 + 1)) (IntKind.wrap .i64 (s137 + 1))) (
 again5 n6 (IntKind.wrap .i64 (s137 + 1))))) (
 ret R (.int .i64 n6))) 0 0)
theorem pool_Pool_Cap_ok {R : Ending → World → Prop} {p1 : Option Addr} {w : World} (h : pool_Pool_Cap R p1 w) : Calls Go.Proofs.Tryz.prog 29 #[.pointer p1] w R :=
  cfun_sound tab_ok (D := []) (.s none (.e) (.s none (.e) (.s none (.e) (.s none (.s none (.e) (.b (.l [(3, false, [.i .i64]), (13, false, [.i .i64])] [11, 12] (.e)))) (.e))))) (args := [.pointer p1]) (c := bodyOf Go.Proofs.Tryz.f29) Go.Proofs.Tryz.func29 (by kernel_rfl) (by kernel_rfl) (by kernel_rfl) h

/-- (*lavabo/pool.Pool).Works -/
def pool_Pool_Works (R : Ending → World → Prop) (p1 : Option Addr) : F :=
 br (!(Option.isNone p1)) (
 nn p1 fun b2 o3 =>
 ld (.bo) (A b2 (o3 + 20)) fun sizing4 =>
 br sizing4 (
 ret R (.bool true)) (
 nn p1 fun b5 o6 =>
 ld (.bo) (A b5 (o6 + 21)) fun moving7 =>
 ret R (.bool moving7))) (
 ret R (.bool false))
theorem pool_Pool_Works_ok {R : Ending → World → Prop} {p1 : Option Addr} {w : World} (h : pool_Pool_Works R p1 w) : Calls Go.Proofs.Tryz.prog 30 #[.pointer p1] w R :=
  cfun_sound tab_ok (D := []) (.e) (args := [.pointer p1]) (c := bodyOf Go.Proofs.Tryz.f30) Go.Proofs.Tryz.func30 (by kernel_rfl) (by kernel_rfl) (by kernel_rfl) h

/-- (*lavabo/pool.Pool).Down -/
def pool_Pool_Down (R : Ending → World → Prop) (p1 : Option Addr) : F :=
 br (Option.isNone p1) (
 ret R (.bool true)) (
 nn p1 fun b2 o3 =>
 ld (.bo) (A b2 (o3 + 22)) fun down4 =>
 ret R (.bool down4))
theorem pool_Pool_Down_ok {R : Ending → World → Prop} {p1 : Option Addr} {w : World} (h : pool_Pool_Down R p1 w) : Calls Go.Proofs.Tryz.prog 31 #[.pointer p1] w R :=
  cfun_sound tab_ok (D := []) (.e) (args := [.pointer p1]) (c := bodyOf Go.Proofs.Tryz.f31) Go.Proofs.Tryz.func31 (by kernel_rfl) (by kernel_rfl) (by kernel_rfl) h

/-- (*lavabo/pool.Pool).Frames -/
def pool_Pool_Frames (R : Ending → World → Prop) (p1 : Option Addr) : F :=
 br (Option.isNone p1) (
 ret R (.slice none 0 0)) (
 nn p1 fun b2 o3 =>
 ld (.sl) (A b2 (o3 + 13)) fun shards4 =>
 loopC [.sl, .i .i64] (fun again5 of6 s177 =>
 br (decide ((s177 : Int) < ((shards4.len : Nat) : Int))) (
 ix shards4.a shards4.len s177 fun b8 o9 =>
 ld (.po) (A b8 (o9 + Int.toNat s177 * 1)) fun x10 =>
 nn x10 fun b11 o12 =>
 ld (.po) (A b11 o12) fun c13 =>
 call Go.Proofs.Tryz.prog 89 [.pointer c13] [(false, [.po])] fun r14 =>
 call Go.Proofs.Tryz.prog 90 [.pointer r14] [(false, [.sl])] fun r15 =>
 nw [.slice r15.a r15.len r15.cap] 32 fun b16 =>
 apd 1 24 32 [.slice none 0 0] ⟨of6.a, of6.len, of6.cap⟩ ⟨some (A b16 0), 1, 1⟩ fun s17 =>
 again5 ⟨s17.a, s17.len, s17.cap⟩ (IntKind.wrap .i64 (s177 + 1))) (
 nn p1 fun b18 o19 =>
 ld (.sl) (A b18 (o19 + 14)) fun where_20 =>
 loopC [.sl, .i .i64] (fun again21 l22 s3623 =>
 br (decide ((s3623 : Int) < ((where_20.len : Nat) : Int))) (
 ix where_20.a where_20.len s3623 fun b24 o25 =>
 ld (.i .i64) (A b24 (o25 + Int.toNat s3623 * 3)) fun state26 =>
 ld (.i .i64) (A b24 (o25 + Int.toNat s3623 * 3 + 1)) fun shard27 =>
 ld (.i .i64) (A b24 (o25 + Int.toNat s3623 * 3 + 2)) fun local_28 =>
 nw [.int .i64 0, .int .i64 0, .int .i64 0] 136 fun w_29 =>
 sts w_29 0 [.int .i64 state26, .int .i64 shard27, .int .i64 local_28] (
 ld (.i .i64) (A w_29 0) fun state30 =>
 ld (.i .i64) (A w_29 1) fun shard31 =>
 nw [.int .i64 0, .int .i64 0, .int .i64 0, .int .i64 0, .bool false] 37 fun x32 =>
 sts x32 0 [.int .i64 state30, .int .i64 (-1), .int .i64 0, .int .i64 shard31, .bool false] (
 ld (.i .i64) (A w_29 0) fun state33 =>
 br ((state33 : Int) != 1) (
 ld (.i .i64) (A x32 0) fun state34 =>
 ld (.i .i64) (A x32 1) fun page35 =>
 ld (.i .i64) (A x32 2) fun pins36 =>
 ld (.i .i64) (A x32 3) fun shard37 =>
 ld (.bo) (A x32 4) fun dirty38 =>
 nw [.int .i64 state34, .int .i64 page35, .int .i64 pins36, .int .i64 shard37, .bool dirty38] 37 fun b39 =>
 apd 5 40 37 [.int .i64 0, .int .i64 0, .int .i64 0, .int .i64 0, .bool false] ⟨l22.a, l22.len, l22.cap⟩ ⟨some (A b39 0), 1, 1⟩ fun s40 =>
 again21 ⟨s40.a, s40.len, s40.cap⟩ (IntKind.wrap .i64 (s3623 + 1))) (
 dr (
 ld (.i .i64) (A w_29 1) fun shard41 =>
 ix of6.a of6.len shard41 fun b42 o43 =>
 ld (.sl) (A b42 (o43 + Int.toNat shard41 * 1)) fun x44 =>
 ld (.i .i64) (A w_29 2) fun local_45 =>
 ix x44.a x44.len local_45 fun b46 o47 =>
 ld (.i .i64) (A b46 (o47 + Int.toNat local_45 * 5)) fun state48 =>
 ld (.i .i64) (A b46 (o47 + Int.toNat local_45 * 5 + 1)) fun page49 =>
 ld (.i .i64) (A b46 (o47 + Int.toNat local_45 * 5 + 2)) fun pins50 =>
 ld (.i .i64) (A b46 (o47 + Int.toNat local_45 * 5 + 3)) fun shard51 =>
 ld (.bo) (A b46 (o47 + Int.toNat local_45 * 5 + 4)) fun dirty52 =>
 sts x32 0 [.int .i64 state48, .int .i64 page49, .int .i64 pins50, .int .i64 shard51, .bool dirty52] (
 joinC [] (fun k53 =>
 ld (.i .i64) (A w_29 1) fun shard54 =>
 sts x32 3 [.int .i64 shard54] (
 dr (
 ld (.i .i64) (A x32 0) fun state55 =>
 br ((state55 : Int) == 1) (
 nn p1 fun b56 o57 =>
 ld (.sl) (A b56 (o57 + 13)) fun shards58 =>
 ld (.i .i64) (A w_29 1) fun shard59 =>
 ix shards58.a shards58.len shard59 fun b60 o61 =>
 ld (.po) (A b60 (o61 + Int.toNat shard59 * 1)) fun x62 =>
 nn x62 fun b63 o64 =>
 ld (.mp) (A b63 (o64 + 5)) fun busy65 =>
 ld (.i .i64) (A w_29 2) fun local_66 =>
 rawC Go.Proofs.Tryz.prog (Instr.lookup 132 (.map busy65) (.int .i64 local_66) false) false [.bo] fun r67 =>
 br r67 (
 sts x32 0 [.int .i64 2] (
 k53)) (
 k53)) (
 k53))))
 (ld (.i .i64) (A x32 0) fun state68 =>
 ld (.i .i64) (A x32 1) fun page69 =>
 ld (.i .i64) (A x32 2) fun pins70 =>
 ld (.i .i64) (A x32 3) fun shard71 =>
 ld (.bo) (A x32 4) fun dirty72 =>
 nw [.int .i64 state68, .int .i64 page69, .int .i64 pins70, .int .i64 shard71, .bool dirty72] 37 fun b73 =>
 apd 5 40 37 [.int .i64 0, .int .i64 0, .int .i64 0, .int .i64 0, .bool false] ⟨l22.a, l22.len, l22.cap⟩ ⟨some (A b73 0), 1, 1⟩ fun s74 =>
 again21 ⟨s74.a, s74.len, s74.cap⟩ (IntKind.wrap .i64 (s3623 + 1))))))))) (
 ret R (.slice l22.a l22.len l22.cap))) ⟨none, 0, 0⟩ 0)) ⟨none, 0, 0⟩ 0)
theorem pool_Pool_Frames_ok {R : Ending → World → Prop} {p1 : Option Addr} {w : World} (h : pool_Pool_Frames R p1 w) : Calls Go.Proofs.Tryz.prog 32 #[.pointer p1] w R :=
  cfun_sound tab_ok (D := [(16, [0, 0, 2, 7, 15, 0, 32, 127, 255, 511], [[0, 1, 2, 3, 4, 5, 6, 7, 8, 9]]), (18, [0, 1, 3, 7, 15, 31, 63, 127, 15, 271, 1023, 2047, 4095, 8191, 16383, 15, 32783, 131071, 262143], [[0, 1, 2, 3, 4, 5, 6, 7, 8, 9, 10, 11, 12, 13, 14, 15, 16, 17, 18]])]) (.s none (.e) (.b (.s none (.e) (.s none (.e) (.s none (.s none (.e) (.b (.l [(3, false, [.sl]), (17, false, [.i .i64])] [0, 15, 16] (.e)))) (.s none (.e) (.s none (.e) (.s none (.s none (.e) (.b (.l [(6, false, [.sl]), (36, false, [.i .i64])] [0, 3, 34, 35] (.s none (.e) (.s none (.e) (.s none (.b (.s none (.e) (.s none (.e) (.s none (.e) (.s none (.e) (.s (some ([], [0, 3, 6, 9, 34, 35, 36])) (.e) (.e))))))) (.e))))))) (.e))))))))) (args := [.pointer p1]) (c := bodyOf Go.Proofs.Tryz.f32) Go.Proofs.Tryz.func32 (by kernel_rfl) (by kernel_rfl) (by kernel_rfl) h

/-- (*lavabo/pool.Pool).Durable -/
def pool_Pool_Durable (R : Ending → World → Prop) (p1 : Option Addr) : F :=
 br (Option.isNone p1) (
 ret R (.slice none 0 0)) (
 nn p1 fun b2 o3 =>
 ld (.po) (A b2 (o3 + 4)) fun d4 =>
 call Go.Proofs.Tryz.prog 91 [.pointer d4] [(false, [.sl])] fun r5 =>
 ret R (.slice r5.a r5.len r5.cap))
theorem pool_Pool_Durable_ok {R : Ending → World → Prop} {p1 : Option Addr} {w : World} (h : pool_Pool_Durable R p1 w) : Calls Go.Proofs.Tryz.prog 34 #[.pointer p1] w R :=
  cfun_sound tab_ok (D := []) (.e) (args := [.pointer p1]) (c := bodyOf Go.Proofs.Tryz.f34) Go.Proofs.Tryz.func34 (by kernel_rfl) (by kernel_rfl) (by kernel_rfl) h

/-- (*lavabo/pool.Pool).Busy -/
def pool_Pool_Busy (R : Ending → World → Prop) (p1 : Option Addr) (client2 : Int) : F :=
 br (Option.isNone p1) (
 ret R (.bool false)) (
 br (decide ((client2 : Int) < 0)) (
 ret R (.bool false)) (
 nn p1 fun b3 o4 =>
 ld (.i .i64) (A b3 (o4 + 3)) fun clients5 =>
 br (decide ((client2 : Int) ≥ clients5)) (
 ret R (.bool false)) (
 nn p1 fun b6 o7 =>
 ld (.po) (A b6 (o7 + 5)) fun s8 =>
 call Go.Proofs.Tryz.prog 92 [.pointer s8, .int .i64 client2] [(true, [.i .i64, .i .i64, .i .i64])] fun state9 pC10 on11 =>
 br ((state9 : Int) == 1) (
 ret R (.bool true)) (
 ret R (.bool ((state9 : Int) == 2))))))
theorem pool_Pool_Busy_ok {R : Ending → World → Prop} {p1 : Option Addr} {client2 : Int} {w : World} (h : pool_Pool_Busy R p1 client2 w) : Calls Go.Proofs.Tryz.prog 35 #[.pointer p1, .int .i64 client2] w R :=
  cfun_sound tab_ok (D := []) (.e) (args := [.pointer p1, .int .i64 client2]) (c := bodyOf Go.Proofs.Tryz.f35) Go.Proofs.Tryz.func35 (by kernel_rfl) (by kernel_rfl) (by kernel_rfl) h

/-- (*lavabo/pool.Pool).Step -/
def pool_Pool_Step (R : Ending → World → Prop) (p1 : Option Addr) (s_Kind2 : Int) (s_Client3 : Int) (s_N4 : Int) (s_To5 : Int) (s_Op_Kind6 : Int) (s_Op_Page7 : Int) (s_Op_Handle8 : Int) (s_Op_Off9 : Int) (s_Op_N10 : Int) (s_Op_Data11 : Sl) (s_Bits12 : Sl) : F :=
 nw [.int .i64 s_Kind2, .int .i64 s_Client3, .int .i64 s_N4, .int .i64 s_To5, .int .i64 s_Op_Kind6, .int .i64 s_Op_Page7, .int .i64 s_Op_Handle8, .int .i64 s_Op_Off9, .int .i64 s_Op_N10, .slice s_Op_Data11.a s_Op_Data11.len s_Op_Data11.cap, .slice s_Bits12.a s_Bits12.len s_Bits12.cap] 45 fun s13 =>
 br (Option.isNone p1) (
 ret R (.bool false)) (
 nn p1 fun b14 o15 =>
 ld (.bo) (A b14 (o15 + 22)) fun down16 =>
 br down16 (
 ret R (.bool false)) (
 joinC [.bo] (fun k17 =>
 ld (.i .i64) (A s13 0) fun kind19 =>
 br ((kind19 : Int) == 1) (
 ld (.i .i64) (A s13 0) fun kind20 =>
 ld (.i .i64) (A s13 1) fun client21 =>
 ld (.i .i64) (A s13 2) fun n22 =>
 ld (.i .i64) (A s13 3) fun to23 =>
 ld (.i .i64) (A s13 4) fun op_Kind24 =>
 ld (.i .i64) (A s13 5) fun op_Page25 =>
 ld (.i .i64) (A s13 6) fun op_Handle26 =>
 ld (.i .i64) (A s13 7) fun op_Off27 =>
 ld (.i .i64) (A s13 8) fun op_N28 =>
 ld (.sl) (A s13 9) fun op_Data29 =>
 ld (.sl) (A s13 10) fun bits30 =>
 call Go.Proofs.Tryz.prog 93 [.pointer p1, .agg #[.int .i64 kind20, .int .i64 client21, .int .i64 n22, .int .i64 to23, .int .i64 op_Kind24, .int .i64 op_Page25, .int .i64 op_Handle26, .int .i64 op_Off27, .int .i64 op_N28, .slice op_Data29.a op_Data29.len op_Data29.cap, .slice bits30.a bits30.len bits30.cap]] [(false, [.bo])] fun r31 =>
 k17 r31) (
 br ((kind19 : Int) == 2) (
 dr (
 nn p1 fun b32 o33 =>
 ld (.po) (A b32 (o33 + 5)) fun s34 =>
 ld (.i .i64) (A s13 2) fun n35 =>
 call Go.Proofs.Tryz.prog 94 [.pointer s34, .int .i64 n35] [(false, [.i .i64])] fun r36 =>
 br (decide ((r36 : Int) ≥ 0)) (
 nn p1 fun b37 o38 =>
 ld (.i .i64) (A b37 (o38 + 18)) fun now39 =>
 nn p1 fun b40 o41 =>
 sts b40 (o41 + 18) [.int .i64 (IntKind.wrap .i64 (now39 + 1))] (
 call Go.Proofs.Tryz.prog 95 [.pointer p1, .int .i64 r36] [] <|
 ret R (.bool true))) (
 k17 (decide ((r36 : Int) ≥ 0))))) (
 br ((kind19 : Int) == 3) (
 dr (
 nn p1 fun b42 o43 =>
 ld (.po) (A b42 (o43 + 4)) fun d44 =>
 ld (.i .i64) (A s13 2) fun n45 =>
 call Go.Proofs.Tryz.prog 96 [.pointer d44, .int .i64 n45] [(false, [.bo])] fun r46 =>
 k17 r46)) (
 br ((kind19 : Int) == 4) (
 dr (
 nn p1 fun b47 o48 =>
 ld (.po) (A b47 (o48 + 4)) fun d49 =>
 ld (.sl) (A s13 10) fun bits50 =>
 call Go.Proofs.Tryz.prog 97 [.pointer d49, .slice bits50.a bits50.len bits50.cap] [(false, [.bo])] fun r51 =>
 nn p1 fun b52 o53 =>
 sts b52 (o53 + 22) [.bool r51] (
 k17 r51))) (
 br ((kind19 : Int) == 5) (
 ld (.i .i64) (A s13 2) fun n54 =>
 call Go.Proofs.Tryz.prog 98 [.pointer p1, .int .i64 n54] [(false, [.bo])] fun r55 =>
 k17 r55) (
 br ((kind19 : Int) == 6) (
 ld (.i .i64) (A s13 2) fun n56 =>
 ld (.i .i64) (A s13 3) fun to57 =>
 call Go.Proofs.Tryz.prog 99 [.pointer p1, .int .i64 n56, .int .i64 to57] [(false, [.bo])] fun r58 =>
 k17 r58) (
 k17 false)))))))
 (fun ok18 =>
 br ok18 (
 nn p1 fun b59 o60 =>
 ld (.i .i64) (A b59 (o60 + 18)) fun now61 =>
 nn p1 fun b62 o63 =>
 sts b62 (o63 + 18) [.int .i64 (IntKind.wrap .i64 (now61 + 1))] (
 ret R (.bool ok18))) (
 ret R (.bool ok18)))))
theorem pool_Pool_Step_ok {R : Ending → World → Prop} {p1 : Option Addr} {s_Kind2 : Int} {s_Client3 : Int} {s_N4 : Int} {s_To5 : Int} {s_Op_Kind6 : Int} {s_Op_Page7 : Int} {s_Op_Handle8 : Int} {s_Op_Off9 : Int} {s_Op_N10 : Int} {s_Op_Data11 : Sl} {s_Bits12 : Sl} {w : World} (h : pool_Pool_Step R p1 s_Kind2 s_Client3 s_N4 s_To5 s_Op_Kind6 s_Op_Page7 s_Op_Handle8 s_Op_Off9 s_Op_N10 s_Op_Data11 s_Bits12 w) : Calls Go.Proofs.Tryz.prog 36 #[.pointer p1, .agg #[.int .i64 s_Kind2, .int .i64 s_Client3, .int .i64 s_N4, .int .i64 s_To5, .int .i64 s_Op_Kind6, .int .i64 s_Op_Page7, .int .i64 s_Op_Handle8, .int .i64 s_Op_Off9, .int .i64 s_Op_N10, .slice s_Op_Data11.a s_Op_Data11.len s_Op_Data11.cap, .slice s_Bits12.a s_Bits12.len s_Bits12.cap]] w R :=
  cfun_sound tab_ok (D := [(8, [0, 1, 3, 7, 0, 16, 63, 127], [[0, 1, 2, 3, 4, 5, 6, 7]]), (15, [0, 1, 3, 7, 0, 16, 63, 127], [[0, 1, 2, 3, 4, 5, 6, 7]]), (17, [0, 1, 3, 7, 0, 16, 63, 127], [[0, 1, 2, 3, 4, 5, 6, 7]])]) (.s none (.e) (.s none (.e) (.s none (.e) (.s (some ([(5, false, [.bo])], [0])) (.e) (.e))))) (args := [.pointer p1, .agg #[.int .i64 s_Kind2, .int .i64 s_Client3, .int .i64 s_N4, .int .i64 s_To5, .int .i64 s_Op_Kind6, .int .i64 s_Op_Page7, .int .i64 s_Op_Handle8, .int .i64 s_Op_Off9, .int .i64 s_Op_N10, .slice s_Op_Data11.a s_Op_Data11.len s_Op_Data11.cap, .slice s_Bits12.a s_Bits12.len s_Bits12.cap]]) (c := bodyOf Go.Proofs.Tryz.f36) Go.Proofs.Tryz.func36 (by kernel_rfl) (by kernel_rfl) (by kernel_rfl) h

/-- (*lavabo/pool.Pool).Ready -/
def pool_Pool_Ready (R : Ending → World → Prop) (p1 : Option Addr) : F :=
 br (Option.isNone p1) (
 ret R (.slice none 0 0)) (
 nn p1 fun b2 o3 =>
 ld (.po) (A b2 (o3 + 5)) fun s4 =>
 call Go.Proofs.Tryz.prog 100 [.pointer s4] [(false, [.sl])] fun r5 =>
 ret R (.slice r5.a r5.len r5.cap))
theorem pool_Pool_Ready_ok {R : Ending → World → Prop} {p1 : Option Addr} {w : World} (h : pool_Pool_Ready R p1 w) : Calls Go.Proofs.Tryz.prog 37 #[.pointer p1] w R :=
  cfun_sound tab_ok (D := []) (.e) (args := [.pointer p1]) (c := bodyOf Go.Proofs.Tryz.f37) Go.Proofs.Tryz.func37 (by kernel_rfl) (by kernel_rfl) (by kernel_rfl) h


end Go.Eng
namespace Go.Eng
open Go RowKit

theorem call_of {P : Program} {f : Nat} {args : List Value} {rs : List RT} {k : Arr (allSh rs) F} {w : World} (h : Calls P f args.toArray w fun e w' => ∃ x, e = .returned (resV rs x) ∧ ap (allSh rs) k x w') : call P f args rs k w := h
/-- A call by a contract that says what is returned. -/
theorem call_ret {P : Program} {f : Nat} {args : List Value} {rs : List RT} {k : Arr (allSh rs) F} {w : World} {Q : World → Prop} (x : HL (allSh rs)) (h : Calls P f args.toArray w fun e w' => e = .returned (resV rs x) ∧ Q w')
    (hk : ∀ w', Q w' → ap (allSh rs) k x w') : call P f args rs k w := h.mono fun _ w' ⟨h1, h2⟩ => ⟨x, h1, hk w' h2⟩
/-- A call that turns nothing. -/
theorem call_same {P : Program} {f : Nat} {args : List Value} {rs : List RT} {k : Arr (allSh rs) F} {w : World} (x : HL (allSh rs)) (h : Calls P f args.toArray w fun e w' => e = .returned (resV rs x) ∧ w' = w)
    (hk : ap (allSh rs) k x w) : call P f args rs k w := call_ret x h (by rintro w' rfl; exact hk)
theorem nob_now (w : World) : Calls Go.Proofs.Tryz.prog 27 #[.pointer none] w fun e w' => e = .returned (.int .i64 0) ∧ w' = w := pool_Pool_Now_ok (by simp [pool_Pool_Now, br, ret])
theorem nob_history (w : World) : Calls Go.Proofs.Tryz.prog 28 #[.pointer none] w fun e w' => e = .returned (.slice none 0 0) ∧ w' = w := pool_Pool_History_ok (by simp [pool_Pool_History, br, ret])
theorem nob_cap (w : World) : Calls Go.Proofs.Tryz.prog 29 #[.pointer none] w fun e w' => e = .returned (.int .i64 0) ∧ w' = w := pool_Pool_Cap_ok (by simp [pool_Pool_Cap, br, ret])
theorem nob_works (w : World) : Calls Go.Proofs.Tryz.prog 30 #[.pointer none] w fun e w' => e = .returned (.bool false) ∧ w' = w := pool_Pool_Works_ok (by simp [pool_Pool_Works, br, ret])
theorem nob_down (w : World) : Calls Go.Proofs.Tryz.prog 31 #[.pointer none] w fun e w' => e = .returned (.bool true) ∧ w' = w := pool_Pool_Down_ok (by simp [pool_Pool_Down, br, ret])
theorem nob_frames (w : World) : Calls Go.Proofs.Tryz.prog 32 #[.pointer none] w fun e w' => e = .returned (.slice none 0 0) ∧ w' = w := pool_Pool_Frames_ok (by simp [pool_Pool_Frames, br, ret])
theorem nob_durable (w : World) : Calls Go.Proofs.Tryz.prog 34 #[.pointer none] w fun e w' => e = .returned (.slice none 0 0) ∧ w' = w := pool_Pool_Durable_ok (by simp [pool_Pool_Durable, br, ret])
theorem nob_busy (n : Int) (w : World) : Calls Go.Proofs.Tryz.prog 35 #[.pointer none, .int .i64 n] w fun e w' => e = .returned (.bool false) ∧ w' = w := pool_Pool_Busy_ok (by simp [pool_Pool_Busy, br, ret])
theorem nob_ready (w : World) : Calls Go.Proofs.Tryz.prog 37 #[.pointer none] w fun e w' => e = .returned (.slice none 0 0) ∧ w' = w := pool_Pool_Ready_ok (by simp [pool_Pool_Ready, br, ret])
theorem nob_step (a1 a2 a3 a4 a5 a6 a7 a8 a9 : Int) (s1 s2 : Sl) (w : World) : Calls Go.Proofs.Tryz.prog 36 #[.pointer none, .agg #[.int .i64 a1, .int .i64 a2, .int .i64 a3, .int .i64 a4, .int .i64 a5, .int .i64 a6, .int .i64 a7, .int .i64 a8, .int .i64 a9, .slice s1.a s1.len s1.cap, .slice s2.a s2.len s2.cap]] w
    fun e w' => e = .returned (.bool false) ∧ Below w.heap.size w w' := by
  refine pool_Pool_Step_ok ?_
  simp only [pool_Pool_Step, nw, br, ret, Option.isNone, true_and]
  exact (Below.refl _ w).alloc (Nat.le_refl _) _
theorem nob_walk (told : ∀ w : World, Calls Go.Proofs.Tryz.prog 26 #[] w fun e w1 => e = .returned (.bool true) ∧ Below w.heap.size w w1)
    (a1 a2 a3 a4 a5 a6 a7 a8 a9 : Int) (s1 s2 : Sl) (n : Int) (w : World) : Calls Go.Proofs.Tryz.prog 4 #[.agg #[.int .i64 a1, .int .i64 a2, .int .i64 a3, .int .i64 a4, .int .i64 a5, .int .i64 a6, .int .i64 a7, .int .i64 a8, .int .i64 a9, .slice s1.a s1.len s1.cap, .slice s2.a s2.len s2.cap], .int .i64 n] w
    fun e w' => e = .returned (.bool true) ∧ Below w.heap.size w w' := by
  refine lavabolaw24_PoolNobody_ok ?_
  unfold lavabolaw24_PoolNobody nw
  refine call_ret (true, ()) (told _) (fun w1 h1 => ?_)
  have h0 : Below w.heap.size w (w.alloc (.cells ([.int .i64 a1, .int .i64 a2, .int .i64 a3, .int .i64 a4, .int .i64 a5, .int .i64 a6, .int .i64 a7, .int .i64 a8, .int .i64 a9, .slice s1.a s1.len s1.cap, .slice s2.a s2.len s2.cap] : List Value).toArray 45)) := (Below.refl _ w).alloc (Nat.le_refl _) _
  have hb := h0.trans (h1.mono (by simp))
  have hc : ∀ j, w1.cell? (A w.heap.size j) = ([.int .i64 a1, .int .i64 a2, .int .i64 a3, .int .i64 a4, .int .i64 a5, .int .i64 a6, .int .i64 a7, .int .i64 a8, .int .i64 a9, .slice s1.a s1.len s1.cap, .slice s2.a s2.len s2.cap] : List Value)[j]? := fun j => by
    rw [h1.cell (by simp)]
    have : (w.alloc (.cells ([.int .i64 a1, .int .i64 a2, .int .i64 a3, .int .i64 a4, .int .i64 a5, .int .i64 a6, .int .i64 a7, .int .i64 a8, .int .i64 a9, .slice s1.a s1.len s1.cap, .slice s2.a s2.len s2.cap] : List Value).toArray 45)).heap[w.heap.size]? = some (.cells ([.int .i64 a1, .int .i64 a2, .int .i64 a3, .int .i64 a4, .int .i64 a5, .int .i64 a6, .int .i64 a7, .int .i64 a8, .int .i64 a9, .slice s1.a s1.len s1.cap, .slice s2.a s2.len s2.cap] : List Value).toArray 45) := by
      show (w.heap.push _)[w.heap.size]? = _
      simp
    simp only [World.cell?, this]
    simp
  refine ⟨a1, hc 0, a2, hc 1, a3, hc 2, a4, hc 3, a5, hc 4, a6, hc 5, a7, hc 6, a8, hc 7, a9, hc 8, s1, hc 9, s2, hc 10, ?_⟩
  refine call_ret (false, ()) (nob_step a1 a2 a3 a4 a5 a6 a7 a8 a9 s1 s2 w1) (fun w2 h2 => ?_)
  refine call_same (0, ()) (nob_now w2) ?_
  refine call_same (⟨none, 0, 0⟩, ()) (nob_history w2) ?_
  refine call_same (⟨none, 0, 0⟩, ()) (nob_frames w2) ?_
  refine call_same (0, ()) (nob_cap w2) ?_
  refine call_same (⟨none, 0, 0⟩, ()) (nob_ready w2) ?_
  refine call_same (false, ()) (nob_busy n w2) ?_
  refine call_same (false, ()) (nob_works w2) ?_
  refine call_same (⟨none, 0, 0⟩, ()) (nob_durable w2) ?_
  refine call_same (true, ()) (nob_down w2) ?_
  exact ⟨rfl, hb.trans (h2.mono hb.size)⟩
end Go.Eng
