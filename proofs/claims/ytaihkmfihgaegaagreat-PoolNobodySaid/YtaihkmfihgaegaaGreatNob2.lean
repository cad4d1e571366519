/- What is none does nothing: the row. Conditions: none. -/
import Derived.Test.YtaihkmfihgaegaaGreatRow2
import Derived.Test.YtaihkmfihgaegaaGreatFact4
import Derived.Test.YtaihkmfihgaegaaGreatNobA
namespace Go.Proofs.YtaihkmfihgaegaaGreat
open Go Go.Eng RowKit ChangeShapes WideShapes Go.Proofs
variable {H : Type} {enc : TypeId × Value → H}

set_option maxRecDepth 100000 in
theorem poolNobody_lifted (told : ∀ w : World, Calls Go.Proofs.Tryz.prog 26 #[] w fun e w1 => e = .returned (.bool true) ∧ Below w.heap.size w w1) (os : Os) (started : os.Started) (H : Type) (enc : TypeId × Value → H) :
    ReturnsInHanded {} Tryz.checked os 4 .any (Rows.poolNobodySpec.pre6 enc Tryz.prog Tryz.f4 Rows.poolNobodyRow.domain false) (Rows.poolNobodySpec.post enc Tryz.prog Tryz.f4 false true false false) := by
  refine returnsInHanded_of_change (C := Tryz.checked) own started (by kernel_rfl) Tryz.func4
    (ChangeSpec.witness6 (enc := enc) (C := Tryz.checked) false ⟨#[], #[.agg #[.int .i64 0, .int .i64 0, .int .i64 0, .int .i64 0, .int .i64 0, .int .i64 0, .int .i64 0, .int .i64 0, .int .i64 0, .slice none 0 0, .slice none 0 0], .int .i64 0], []⟩ 8 (by kernel_rfl) (by kernel_rfl) (by kernel_rfl) (by kernel_rfl)) ?_
  intro W base args ds gs before hval0 hW hcnd _
  have hval : ∀ (j : Nat) t v, Tryz.f4.params[j]? = some t → args[j]? = some v → Value.okWide Tryz.prog W .any base t v := hval0
  have hW' := hW
  obtain ⟨p, q, hA0, hV, rfl, hfz, hnd⟩ := hW
  have hA : DataW.TrodAll enc Tryz.prog W 0 (fun _ => true) true Tryz.f4.params.toList args.toList ds p := hA0
  rw [Tryz.params4] at hA hval
  obtain ⟨v0, v1, d0, d1, p0, p1, rfl, rfl, rfl, h0, h1⟩ := trodAll_two hA
  obtain ⟨rfl, rfl⟩ := trodVars_none hV
  obtain ⟨cs, rfl, _⟩ := okWide_struct Tryz.underlying45 (hval 0 45 v0 rfl rfl)
  obtain ⟨n, rfl, _, _, _⟩ := open_int Tryz.underlying3 (hval 1 3 v1 rfl rfl) h1
  obtain ⟨fu, h0⟩ := h0
  obtain ⟨a1, a2, a3, a4, a5, a6, a7, a8, a9, s1, s2, e⟩ := open_step h0
  have e : cs = #[.int .i64 a1, .int .i64 a2, .int .i64 a3, .int .i64 a4, .int .i64 a5, .int .i64 a6, .int .i64 a7, .int .i64 a8, .int .i64 a9, .slice s1.a s1.len s1.cap, .slice s2.a s2.len s2.cap] := by
    rw [← Array.toArray_toList (xs := cs)]
    exact congrArg List.toArray e
  subst e
  clear hA0 hval0
  refine (nob_walk told a1 a2 a3 a4 a5 a6 a7 a8 a9 s1 s2 n W).mono fun e W' ⟨he, hb⟩ => ?_
  subst he
  exact ⟨_, rfl, post_true rfl laidOut (by rw [Tryz.params4]; intro t ht; simp at ht; rcases ht with rfl | rfl <;> exact ⟨by kernel_rfl, of_decide_eq_true (by kernel_rfl)⟩) (by kernel_rfl) Tryz.underlying4 rfl hW' hb⟩
theorem fact4_joined : joinedFacts Tryz.pinned.checked.prog 4 Tryz.f4 Rows.poolNobodySpec Rows.poolNobodyRow = true :=
  joined_of (by kernel_rfl) fact_laid fact_rowed (by kernel_rfl) (by kernel_rfl) (by kernel_rfl) fact_stops (by kernel_rfl) fact_knobs fact4_place fact4_unfollowed fact4_recurses fact4_named
    (by kernel_rfl) (by kernel_rfl) (by kernel_rfl) (by kernel_rfl) (by kernel_rfl) (by kernel_rfl) (by kernel_rfl) (by kernel_rfl) (by kernel_rfl) fact_keys (by kernel_rfl) fact_heard fact_enter fact_lifts fact_make rfl rfl (by kernel_rfl) (by kernel_rfl) (by kernel_rfl)
theorem poolNobody_of (told : ∀ w : World, Calls Go.Proofs.Tryz.prog 26 #[] w fun e w1 => e = .returned (.bool true) ∧ Below w.heap.size w w1) : Rows.PoolNobodySaid :=
  OpenClaim.holds_of_wide 4 Tryz.f4 rfl rfl rfl rfl rfl rfl rfl ⟨rfl, rfl, rfl, rfl, rfl⟩ rfl rfl rfl rfl rfl (by kernel_rfl) Tryz.func4 fact4_joined
    (of_decide_eq_true (by kernel_rfl)) (by unfold Func.isWrapper; first | (rw [if_pos (by decide +kernel)]; kernel_rfl) | (rw [if_neg (by decide +kernel)]; exact ⟨rfl, rfl⟩))
    (fun os started H enc _ => poolNobody_lifted told os started H enc)
end Go.Proofs.YtaihkmfihgaegaaGreat
