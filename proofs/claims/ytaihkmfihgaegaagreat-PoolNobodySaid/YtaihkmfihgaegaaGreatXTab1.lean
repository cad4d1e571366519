/- The table of bodies that the executor runs agrees with the program. Conditions: none. -/
import Derived.Test.YtaihkmfihgaegaaGreatXTab0
import Derived.Test.YtaihkmfihgaegaaGreatXTab2
namespace Go.Eng
open Go
def xtSame (P : Program) : Nat → List (Option XF) → List (Option (Option Func × Option Code × Bool))
  | _, [] => []
  | f, some x :: l => some (P.funcs[f]?, x.fn.body, x.fn.name == "runtime.NumGoroutine") :: xtSame P (f + 1) l
  | f, none :: l => none :: xtSame P (f + 1) l
def xtKey : List (Option XF) → List (Option (Option Func × Option Code × Bool))
  | [] => []
  | some x :: l => some (some x.fn, some x.c, false) :: xtKey l
  | none :: l => none :: xtKey l
def xtAll (P : Program) : Nat → List (List (Option XF)) → List (List (Option (Option Func × Option Code × Bool)))
  | _, [] => []
  | t, r :: l => xtSame P (16 * t) r :: xtAll P (t + 1) l
theorem xt_tab : xtAll Go.Proofs.Tryz.prog 0 xrows = xrows.map xtKey := by kernel_rfl
theorem xtSame_at {P : Program} : ∀ (l : List (Option XF)) (t j : Nat) (x : XF), xtSame P t l = xtKey l → l[j]? = some (some x) → P.funcs[t + j]? = some x.fn ∧ x.fn.body = some x.c ∧ (x.fn.name == "runtime.NumGoroutine") = false
  | [], _, _, _, _, h => by simp at h
  | y :: l, t, 0, x, h, hj => by
    simp only [List.getElem?_cons_zero, Option.some.injEq] at hj
    subst hj
    simp only [xtSame, xtKey, List.cons.injEq, Option.some.injEq, Prod.mk.injEq] at h
    exact h.1
  | y :: l, t, j + 1, x, h, hj => by
    have h' : xtSame P (t + 1) l = xtKey l := by
      cases y <;> simp only [xtSame, xtKey, List.cons.injEq] at h <;> exact h.2
    have := xtSame_at l (t + 1) j x h' (by simpa using hj)
    rwa [show t + 1 + j = t + (j + 1) from by omega] at this
theorem xtAll_at {P : Program} : ∀ (rs : List (List (Option XF))) (t k : Nat) (r : List (Option XF)), xtAll P t rs = rs.map xtKey → rs[k]? = some r → xtSame P (16 * (t + k)) r = xtKey r
  | [], _, _, _, _, h => by simp at h
  | x :: l, t, 0, r, h, hj => by
    simp only [List.getElem?_cons_zero, Option.some.injEq] at hj
    subst hj
    simp only [xtAll, List.map_cons, List.cons.injEq] at h
    exact h.1
  | x :: l, t, k + 1, r, h, hj => by
    simp only [xtAll, List.map_cons, List.cons.injEq] at h
    have := xtAll_at l (t + 1) k r h.2 (by simpa using hj)
    rwa [show t + 1 + k = t + (k + 1) from by omega] at this
theorem xtab_at {f : Nat} {x : XF} (h : xtab f = some x) : Go.Proofs.Tryz.prog.funcs[f]? = some x.fn ∧ x.fn.body = some x.c ∧ (x.fn.name == "runtime.NumGoroutine") = false := by
  obtain ⟨r, h1, h2⟩ := at2_some (l := xrows) h
  have := xtSame_at r _ _ x (xtAll_at xrows 0 _ r xt_tab h1) h2
  rwa [show 16 * (0 + f / 16) + f % 16 = f from by omega] at this
theorem xtab_ok : XtOk Go.Proofs.Tryz.prog xtab := ⟨fun _ _ h => (xtab_at h).1, fun _ _ h => (xtab_at h).2.1, fun _ _ h => (xtab_at h).2.2⟩
theorem told_call (h : runIs (xcalls tabX xtab 3000 60 26 [] ⟨0, .lf⟩) (.bool true) = true) (w : World) :
    Calls Go.Proofs.Tryz.prog 26 #[] w fun e w1 => e = .returned (.bool true) ∧ RowKit.Below w.heap.size w w1 :=
  closed_run (T := tabX) (fuel := 3000) (d := 60) tabX_ok tabX_flat xtab_ok (f := 26) (args := []) rfl (v := .bool true) rfl h w
end Go.Eng
