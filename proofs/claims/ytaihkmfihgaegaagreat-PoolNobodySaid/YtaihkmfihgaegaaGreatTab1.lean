/- The tables of types and results agree with the program. Conditions: none. -/
import Derived.Test.YtaihkmfihgaegaaGreatTab0
import Derived.Test.YtaihkmfihgaegaaGreatEngA
import Derived.KernelRfl
namespace Go.Eng
open Go
def noAgg : Value → Bool
  | .agg _ => false
  | _ => true
def tiRow (P : Program) (t : Nat) : Option (U × Nat × Nat × List Value × Bool) := match P.info? t, P.underlying t with
  | some i, some d => match i.zero with
    | some z => some (U.of d, i.size, i.bytes, z.cells.toList, (U.of d).agg || noAgg z)
    | none => none
  | _, _ => none
def tiSame (P : Program) : Nat → List (Option TI) → List (Option (U × Nat × Nat × List Value × Bool))
  | _, [] => []
  | t, some _ :: l => tiRow P t :: tiSame P (t + 1) l
  | t, none :: l => none :: tiSame P (t + 1) l
def tiKey : List (Option TI) → List (Option (U × Nat × Nat × List Value × Bool))
  | [] => []
  | some i :: l => some (i.und, i.size, i.bytes, i.zero, true) :: tiKey l
  | none :: l => none :: tiKey l
def tiAll (P : Program) : Nat → List (List (Option TI)) → List (List (Option (U × Nat × Nat × List Value × Bool)))
  | _, [] => []
  | t, r :: l => tiSame P (16 * t) r :: tiAll P (t + 1) l
theorem ti_tab : tiAll Go.Proofs.Tryz.prog 0 tiRows = tiRows.map tiKey := by kernel_rfl
def frOne (P : Program) (f : Nat) : Bool := match P.funcs[f]? with
  | some fn => !(fn.name == "runtime.NumGoroutine") && !fn.body.isNone
  | none => false
def frSame (P : Program) : Nat → List (Option (List RT)) → Bool
  | _, [] => true
  | f, some _ :: l => frOne P f && frSame P (f + 1) l
  | f, none :: l => frSame P (f + 1) l
def frAll (P : Program) : Nat → List (List (Option (List RT))) → Bool
  | _, [] => true
  | f, r :: l => frSame P (16 * f) r && frAll P (f + 1) l
theorem fr_tab : frAll Go.Proofs.Tryz.prog 0 frRows = true := by kernel_rfl
theorem mixed_tab : Go.Proofs.Tryz.prog.follows .mixedOrders = true := by kernel_rfl

theorem tiSame_at {P : Program} : ∀ (l : List (Option TI)) (t j : Nat) (i : TI), tiSame P t l = tiKey l → l[j]? = some (some i) → tiRow P (t + j) = some (i.und, i.size, i.bytes, i.zero, true)
  | [], _, _, _, _, h => by simp at h
  | x :: l, t, 0, i, h, hj => by
    simp only [List.getElem?_cons_zero, Option.some.injEq] at hj
    subst hj
    simp only [tiSame, tiKey, List.cons.injEq] at h
    exact h.1
  | x :: l, t, j + 1, i, h, hj => by
    have h' : tiSame P (t + 1) l = tiKey l := by
      cases x <;> simp only [tiSame, tiKey, List.cons.injEq] at h <;> exact h.2
    have := tiSame_at l (t + 1) j i h' (by simpa using hj)
    rwa [show t + 1 + j = t + (j + 1) from by omega] at this
theorem tiAll_at {P : Program} : ∀ (rs : List (List (Option TI))) (t k : Nat) (r : List (Option TI)), tiAll P t rs = rs.map tiKey → rs[k]? = some r → tiSame P (16 * (t + k)) r = tiKey r
  | [], _, _, _, _, h => by simp at h
  | x :: l, t, 0, r, h, hj => by
    simp only [List.getElem?_cons_zero, Option.some.injEq] at hj
    subst hj
    simp only [tiAll, List.map_cons, List.cons.injEq] at h
    exact h.1
  | x :: l, t, k + 1, r, h, hj => by
    simp only [tiAll, List.map_cons, List.cons.injEq] at h
    have := tiAll_at l (t + 1) k r h.2 (by simpa using hj)
    rwa [show t + 1 + k = t + (k + 1) from by omega] at this
theorem at2_some {α : Type} {l : List (List (Option α))} {t : Nat} {x : α} (h : at2 l t = some x) : ∃ r, l[t / 16]? = some r ∧ r[t % 16]? = some (some x) := by
  unfold at2 at h
  cases h1 : l[t / 16]? with
  | none => rw [h1] at h; cases h
  | some r =>
    rw [h1] at h
    simp only at h
    cases h2 : r[t % 16]? with
    | none => rw [h2] at h; cases h
    | some y => rw [h2] at h; simp only at h; subst h; exact ⟨r, rfl, h2⟩
theorem frSame_at {P : Program} : ∀ (l : List (Option (List RT))) (t j : Nat) (i : List RT), frSame P t l = true → l[j]? = some (some i) → frOne P (t + j) = true
  | [], _, _, _, _, h => by simp at h
  | x :: l, t, 0, i, h, hj => by
    simp only [List.getElem?_cons_zero, Option.some.injEq] at hj
    subst hj
    simp only [frSame, Bool.and_eq_true] at h
    exact h.1
  | x :: l, t, j + 1, i, h, hj => by
    have h' : frSame P (t + 1) l = true := by
      cases x <;> simp only [frSame, Bool.and_eq_true] at h
      · exact h
      · exact h.2
    have := frSame_at l (t + 1) j i h' (by simpa using hj)
    rwa [show t + 1 + j = t + (j + 1) from by omega] at this
theorem frAll_at {P : Program} : ∀ (rs : List (List (Option (List RT)))) (t k : Nat) (r : List (Option (List RT))), frAll P t rs = true → rs[k]? = some r → frSame P (16 * (t + k)) r = true
  | [], _, _, _, _, h => by simp at h
  | x :: l, t, 0, r, h, hj => by
    simp only [List.getElem?_cons_zero, Option.some.injEq] at hj
    subst hj
    simp only [frAll, Bool.and_eq_true] at h
    exact h.1
  | x :: l, t, k + 1, r, h, hj => by
    simp only [frAll, Bool.and_eq_true] at h
    have := frAll_at l (t + 1) k r h.2 (by simpa using hj)
    rwa [show t + 1 + k = t + (k + 1) from by omega] at this
theorem tiRow_some {P : Program} {t : Nat} {x : U × Nat × Nat × List Value × Bool} (h : tiRow P t = some x) :
    ∃ i d z, P.info? t = some i ∧ P.underlying t = some d ∧ i.zero = some z ∧ x = (U.of d, i.size, i.bytes, z.cells.toList, (U.of d).agg || noAgg z) := by
  unfold tiRow at h
  cases h1 : P.info? t with
  | none => rw [h1] at h; cases h
  | some i =>
    cases h2 : P.underlying t with
    | none => rw [h1, h2] at h; cases h
    | some d =>
      rw [h1, h2] at h
      simp only at h
      cases h3 : i.zero with
      | none => rw [h3] at h; cases h
      | some z => rw [h3] at h; cases h; exact ⟨i, d, z, rfl, rfl, h3, rfl⟩
theorem tab_ti {t : Nat} {i : TI} (h : tab.ti t = some i) : tiRow Go.Proofs.Tryz.prog t = some (i.und, i.size, i.bytes, i.zero, true) := by
  obtain ⟨r, h1, h2⟩ := at2_some h
  have := tiSame_at r _ _ i (tiAll_at tiRows 0 _ r ti_tab h1) h2
  rwa [show 16 * (0 + t / 16) + t % 16 = t from by omega] at this
theorem tab_ok : TabOk tab where
  ti t i h := by
    obtain ⟨info, d, z, h1, h2, h3, h4⟩ := tiRow_some (tab_ti h)
    simp only [Prod.mk.injEq] at h4
    obtain ⟨e1, e2, e3, e4, _⟩ := h4
    exact ⟨info, d, h1, h2, e1.symm, e2.symm, e3.symm, z, h3, e4.symm⟩
  fr f rs h := by
    obtain ⟨r, h1, h2⟩ := at2_some (l := frRows) h
    have := frSame_at r _ _ rs (frAll_at frRows 0 _ r fr_tab h1) h2
    rw [show 16 * (0 + f / 16) + f % 16 = f from by omega] at this
    unfold frOne at this
    cases h1 : Go.Proofs.Tryz.prog.funcs[f]? with
    | none => rw [h1] at this; cases this
    | some fn =>
      rw [h1] at this
      simp only [Bool.and_eq_true, Bool.not_eq_true'] at this
      exact ⟨fn, h1, this.1, this.2⟩
  nz t i info z h hi hz hag := by
    obtain ⟨info', d, z', h1, h2, h3, h4⟩ := tiRow_some (tab_ti h)
    have : Go.Proofs.Tryz.prog.info? t = some info := hi
    rw [h1] at this
    cases this
    rw [h3] at hz
    cases hz
    simp only [Prod.mk.injEq] at h4
    obtain ⟨e1, _, _, _, e5⟩ := h4
    rw [← e1, hag] at e5
    cases z with
    | agg cs => cases e5
    | _ => rfl
  mixed := mixed_tab
end Go.Eng
