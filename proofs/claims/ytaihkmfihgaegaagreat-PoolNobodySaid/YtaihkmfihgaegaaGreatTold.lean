/- A closed run: told answers true in every world, and turns nothing that was there. Conditions: none. -/
import Derived.Test.YtaihkmfihgaegaaGreatTold3
import Derived.Test.YtaihkmfihgaegaaGreatPt26
namespace Go.Eng
open Go RowKit
variable {θ : Th} {w W0 : World} {m : Mem}

theorem ptr_of {i o : Nat} {r : Option Addr} (h : R3 θ (.pointer (some ⟨i, o, none⟩)) (Sh.po.mk r)) : ∃ b q G, θ i = some (b, q, G) ∧ r = some (A b (q + o)) := by
  obtain ⟨b, q, G, h1, _, h2⟩ := h
  cases h2
  exact ⟨b, q, G, h1, rfl⟩
theorem ptr_of1 {i o : Nat} {r : Option Addr} (h : R1 θ (.pointer (some ⟨i, o, none⟩)) (Sh.po.mk r)) : ∃ b q G, θ i = some (b, q, G) ∧ r = some (A b (q + o)) := by
  obtain ⟨b, q, G, h1, _, h2⟩ := h
  cases h2
  exact ⟨b, q, G, h1, rfl⟩
theorem R2_ptr {i o b q : Nat} {G : Option (Nat × Nat)} (h : θ i = some (b, q, G)) : R2 θ (.pointer (some ⟨i, o, none⟩)) (.pointer (some (A b (q + o)))) := ⟨b, q, G, h, rfl, rfl⟩
theorem R2_int {k : IntKind} {n : Int} : R2 θ (.int k n) (.int k n) := rfl
theorem flat_agg {cs : Array Value} (h : flatVs cs.toList = true) : R2 θ (.agg cs) (.agg cs) := ⟨cs, rfl, flat_R1s h⟩
theorem int_of {k : IntKind} {n : Int} {x : (Sh.i k).T} (h : R3 θ (.int k n) ((Sh.i k).mk x)) : x = n := by cases h; rfl
theorem bool_of {c : Bool} {x : Sh.bo.T} (h : R3 θ (.bool c) (Sh.bo.mk x)) : x = c := by cases h; rfl
theorem and_of {a b : Bool} (h : (a && b) = true) : a = true ∧ b = true := by simpa using h
theorem listIs_of {l : Option (List Value)} {v : Value} (h : listIs l v = true) : l = some [v] := by
  unfold listIs at h
  split at h
  · rw [sameV_eq h]
  · cases h
theorem seg2_of (h : seg2 = true) : ∃ m1, CC 27 [poolPtr] toldM1 = some (.int .i64 0, m1) ∧ seg2a m1 = true := by
  unfold seg2 at h
  cases e : CC 27 [poolPtr] toldM1 with
  | none => rw [e] at h; cases h
  | some x =>
    obtain ⟨u, m1⟩ := x
    rw [e] at h
    obtain ⟨hu, hn⟩ := and_of h
    have hu := sameV_eq hu
    subst hu
    exact ⟨m1, rfl, hn⟩
theorem seg2a_of {m : Mem} (h : seg2a m = true) : ∃ m1, CC 63 [pPtr, .int .i64 0, .agg #[.int .i64 1, .int .i64 0, .int .i64 0, .int .i64 0, .int .i64 0, .slice none 0 0]] m = some (.bool true, m1) ∧ seg2b m1 = true := by
  unfold seg2a at h
  cases e : CC 63 [pPtr, .int .i64 0, .agg #[.int .i64 1, .int .i64 0, .int .i64 0, .int .i64 0, .int .i64 0, .slice none 0 0]] m with
  | none => rw [e] at h; cases h
  | some x =>
    obtain ⟨u, m1⟩ := x
    rw [e] at h
    obtain ⟨hu, hn⟩ := and_of h
    have hu := sameV_eq hu
    subst hu
    exact ⟨m1, rfl, hn⟩
theorem seg2b_of {m : Mem} (h : seg2b m = true) : m.t.get m.next = none ∧ seg2c (.slice (some (A m.next 0)) 1 1) ⟨m.next + 1, m.t.set m.next (.row none [.int .u8 113])⟩ = true := by
  unfold seg2b at h
  cases e : m.new (.row none [.int .u8 113]) (fun j m => some (.slice (some (A j 0)) 1 1, m)) with
  | none => rw [e] at h; cases h
  | some x =>
    obtain ⟨s, m1⟩ := x
    rw [e] at h
    obtain ⟨hi, he⟩ := new_ok e
    cases he
    exact ⟨hi, h⟩
theorem seg2c_of {m : Mem} {s : Value} (h : seg2c s m = true) : ∃ s' m3 m4, xraw tabX (fun _ => some s) m (.convert 40 40 (.tmp 0)) = some (s', m3) ∧
    CC 63 [pPtr, .int .i64 0, .agg #[.int .i64 4, .int .i64 0, .int .i64 0, .int .i64 0, .int .i64 0, s']] m3 = some (.bool true, m4) ∧ seg2d m4 = true := by
  unfold seg2c at h
  cases e : xraw tabX (fun _ => some s) m (.convert 40 40 (.tmp 0)) with
  | none => rw [e] at h; cases h
  | some x =>
    obtain ⟨s', m3⟩ := x
    rw [e] at h
    simp only at h
    cases e2 : CC 63 [pPtr, .int .i64 0, .agg #[.int .i64 4, .int .i64 0, .int .i64 0, .int .i64 0, .int .i64 0, s']] m3 with
    | none => rw [e2] at h; cases h
    | some x =>
      obtain ⟨u, m4⟩ := x
      rw [e2] at h
      obtain ⟨hu, hn⟩ := and_of h
      have hu := sameV_eq hu
      subst hu
      exact ⟨s', m3, m4, rfl, e2, hn⟩
theorem seg3b_of {m : Mem} (h : seg3b m = true) : ∃ m1, CC 66 [pPtr] m = some (.bool true, m1) ∧ seg3c m1 = true := by
  unfold seg3b at h
  cases e : CC 66 [pPtr] m with
  | none => rw [e] at h; cases h
  | some x =>
    obtain ⟨u, m1⟩ := x
    rw [e] at h
    obtain ⟨hu, hn⟩ := and_of h
    have hu := sameV_eq hu
    subst hu
    exact ⟨m1, rfl, hn⟩
theorem seg3c_of {m : Mem} (h : seg3c m = true) : ∃ m1, CC 29 [poolPtr] m = some (.int .i64 2, m1) ∧ seg3d m1 = true ∧ m.cells 2490387 0 1 = some [poolPtr] := by
  unfold seg3c at h
  obtain ⟨hl, h⟩ := and_of h
  cases e : CC 29 [poolPtr] m with
  | none => rw [e] at h; cases h
  | some x =>
    obtain ⟨u, m1⟩ := x
    rw [e] at h
    obtain ⟨hu, hn⟩ := and_of h
    have hu := sameV_eq hu
    subst hu
    exact ⟨m1, rfl, hn, listIs_of hl⟩
theorem seg3d_of {m : Mem} (h : seg3d m = true) : ∃ m1, CC 30 [poolPtr] m = some (.bool false, m1) ∧ seg3e m1 = true ∧ m.cells 2490387 0 1 = some [poolPtr] := by
  unfold seg3d at h
  obtain ⟨hl, h⟩ := and_of h
  cases e : CC 30 [poolPtr] m with
  | none => rw [e] at h; cases h
  | some x =>
    obtain ⟨u, m1⟩ := x
    rw [e] at h
    obtain ⟨hu, hn⟩ := and_of h
    have hu := sameV_eq hu
    subst hu
    exact ⟨m1, rfl, hn, listIs_of hl⟩
theorem seg3e_of {m : Mem} (h : seg3e m = true) : ∃ m1, CC 31 [poolPtr] m = some (.bool false, m1) ∧ m.cells 2490387 0 1 = some [poolPtr] := by
  unfold seg3e at h
  obtain ⟨hl, h⟩ := and_of h
  cases e : CC 31 [poolPtr] m with
  | none => rw [e] at h; cases h
  | some x =>
    obtain ⟨u, m1⟩ := x
    rw [e] at h
    have hu := sameV_eq h
    subst hu
    exact ⟨m1, rfl, listIs_of hl⟩
theorem seg3_of (h : seg3 = true) : ∃ b o l c a l2 c2 vs m1, CC 28 [poolPtr] toldM4 = some (.slice (some ⟨b, o, none⟩) 3 c, m1) ∧ m1.cells b (o + 7) 1 = some [.int .i64 0] ∧ m1.cells b (o + 38) 1 = some [.slice a l2 c2] ∧
    m1.sl ⟨a, l2, c2⟩ 1 = some vs ∧ bytesOf vs = some [113] ∧ seg3b m1 = true ∧ l = 0 := by
  unfold seg3 at h
  split at h
  · rename_i b o c m1 e
    obtain ⟨h, h3⟩ := and_of h
    obtain ⟨h1, h2⟩ := and_of h
    unfold listIs at h1
    split at h1
    · rename_i u v e1
      have := sameV_eq h1
      subst this
      split at h2
      · rename_i a l2 c2 e2
        split at h2
        · rename_i vs e3
          split at h2
          · rename_i bs e4
            have := of_decide_eq_true h2
            subst this
            exact ⟨b, o, 0, c, a, l2, c2, vs, m1, e, e1, e2, e3, e4, h3, rfl⟩
          · cases h2
        · cases h2
      · cases h2
    · cases h1
  · cases h
theorem bstr_run {s s' : Sl} {vs : List Value} {bs : List UInt8} {k : ByteArray → F} (hm : MRel W0 θ m.t w) (hs : SlR θ s s') (h : m.sl s 1 = some vs) (hb : bytesOf vs = some bs) (hk : k ⟨bs.toArray⟩ w) : Eng.bstr s' k w := by
  have hx : xprim (fun _ _ _ => none) (.bstr s) m = some (.string ⟨bs.toArray⟩, m) := by simp only [xprim, h, hb]
  have hh := (bstr_ok (P := default) (k := fun v w1 => ∀ x, v = .string x → w1 = w → k x w) hm hs hx (fun θ1 v' w1 _ h2 _ x hv hw => by
    have : v' = .string ⟨bs.toArray⟩ := h2
    rw [this] at hv
    cases hv
    exact hk)).1
  obtain ⟨x, h1, h2, h3⟩ := hh
  exact ⟨x, h1, h2, h3 x rfl rfl⟩
theorem rawC_sl {P : Program} {M : Sem Value} {k : Value → F} {K : Sl → F} (h : rawC P M false [.sl] (lam [.sl] fun x => k (bif false then .tuple (vals [.sl] x).toArray else (vals [.sl] x).headD undef)) w) (hk : ∀ s w', k (.slice s.a s.len s.cap) w' → K s w') : rawC P M false [.sl] K w := by
  obtain ⟨x, w', h1, h2⟩ := h
  refine ⟨x, w', h1, ?_⟩
  rw [ap_lam] at h2
  exact hk x.1 w' h2
theorem R3_slice {v : Value} {a : Option Addr} {l c : Nat} (h : R3 θ v (.slice a l c)) : R1 θ v (.slice a l c) := by
  cases v <;> first | exact h | (obtain ⟨_, h1, _⟩ := h; cases h1; done) | (obtain ⟨_, _, h1, _⟩ := h; cases h1; done)
theorem told_true (w : World) : Calls Go.Proofs.Tryz.prog 26 #[] w fun e w1 => e = .returned (.bool true) ∧ Below w.heap.size w w1 := by
  refine lavabolaw24_told_ok ?_
  unfold lavabolaw24_told
  have hC : Fit tabX w CC := xcalls_ok tabX_ok tabX_flat xtab_ok w 58
  obtain ⟨m1, e1, h2a⟩ := seg2_of told2
  obtain ⟨m2, e2, h2b⟩ := seg2a_of h2a
  obtain ⟨hi, h2c⟩ := seg2b_of h2b
  obtain ⟨s', m3, m4, e3, e4, h2d⟩ := seg2c_of h2c
  obtain ⟨b5, o5, _, c5, a5, l5, k5, vs5, m5, e5, e6, e7, e8, e9, h3b, _⟩ := seg3_of told3
  obtain ⟨m6, e10, h3c⟩ := seg3b_of h3b
  obtain ⟨m7, e11, h3d, c6⟩ := seg3c_of h3c
  obtain ⟨m8, e12, h3e, c7⟩ := seg3d_of h3d
  obtain ⟨m9, e13, c8⟩ := seg3e_of h3e
  refine call_comes (T := tabX) (s := .po) hC mrel_start (args := [.agg #[.int .i64 3, .int .i64 2, .int .i64 1, .int .i64 1]]) ⟨flat_agg rfl, trivial⟩ told1 rfl (fun θ1 r1 w1 _ hr1 hm1 => ?_)
  obtain ⟨b, q, G, hp, rfl⟩ := ptr_of hr1
  refine ⟨b, q + 0, rfl, ?_⟩
  refine ld_run (s := .po) hm1 hp (o := 0) (v := poolPtr) (by kernel_rfl) rfl (fun p4 hp4 => ?_)
  obtain ⟨pb, pq, pG, hpp, rfl⟩ := ptr_of1 hp4
  refine call_run (T := tabX) (s := .i .i64) hC hm1 (args := [poolPtr]) ⟨R2_ptr hpp, trivial⟩ e1 rfl (fun θ2 r5 w2 le2 hr5 hm2 => ?_)
  have := int_of hr5
  subst this
  have hp2 := le2 _ _ hp
  have hpp2 := le2 _ _ hpp
  refine call_run (T := tabX) (s := .bo) hC hm2 (args := [pPtr, .int .i64 0, .agg #[.int .i64 1, .int .i64 0, .int .i64 0, .int .i64 0, .int .i64 0, .slice none 0 0]]) ⟨R2_ptr hp2, R2_int, flat_agg rfl, trivial⟩ e2 rfl (fun θ3 r6 w3 le3 hr6 hm3 => ?_)
  have := bool_of hr6
  subst this
  have hp3 := le3 _ _ hp2
  have hm4 := mrel_row hm3 hi (ty := 5) (vs := [.int .u8 113]) (us := [.int .u8 113]) (flat_R1s rfl)
  have hle : Th.le θ3 (θ3.add m2.next (w3.heap.size, 0, none)) := Th.add_le (hm3.fresh hi)
  have hp4 := hle _ _ hp3
  have hs3 : R3 (θ3.add m2.next (w3.heap.size, 0, none)) (.slice (some (A m2.next 0)) 1 1) (.slice (some (A w3.heap.size 0)) 1 1) := .inl ⟨w3.heap.size, 0, none, 1, Th.add_same, rfl, rfl, rfl⟩
  refine (?_ : rawC Go.Proofs.Tryz.prog (convert 40 40 (.slice (some (A w3.heap.size 0)) 1 1)) false [.sl] _ (w3.alloc (.cells ([.int .u8 113] : List Value).toArray 5)))
  obtain ⟨p', hp', _, hf⟩ := xraw_ok (T := tabX) (e := fun _ => some (.slice (some (A m2.next 0)) 1 1)) (ρ := fun _ => some (.slice (some (A w3.heap.size 0)) 1 1)) (ty := 40) (op := .convert 40 40 (.tmp 0))
    (k := fun v w4 => ∃ θ4, Th.le (θ3.add m2.next (w3.heap.size, 0, none)) θ4 ∧ R3 θ4 s' v ∧ MRel w θ4 m3.t w4) tabX_ok tabX_flat (fun t v hv => by cases hv; exact ⟨_, rfl, hs3⟩) hm4 rfl e3 (fun θ4 v w4 g1 g2 g3 => ⟨θ4, g1, g2, g3⟩)
  have hp'' : p' = .raw (convert 40 40 (.slice (some (A w3.heap.size 0)) 1 1)) false [.sl] := by
    have : resolve tabX (fun _ => some (.slice (some (A w3.heap.size 0)) 1 1)) 40 (.convert 40 40 (.tmp 0)) = some (.raw (convert 40 40 (.slice (some (A w3.heap.size 0)) 1 1)) false [.sl]) := by kernel_rfl
    rw [this] at hp'
    cases hp'
    rfl
  subst hp''
  refine rawC_sl (k := fun v w4 => ∃ θ4, Th.le (θ3.add m2.next (w3.heap.size, 0, none)) θ4 ∧ R3 θ4 s' v ∧ MRel w θ4 m3.t w4) hf (fun r8 w4 hw4 => ?_)
  obtain ⟨θ4, le4, hr8, hm5⟩ := hw4
  have hp5 := le4 _ _ hp4
  have hagg : R2 θ4 (.agg #[.int .i64 4, .int .i64 0, .int .i64 0, .int .i64 0, .int .i64 0, s']) (.agg #[.int .i64 4, .int .i64 0, .int .i64 0, .int .i64 0, .int .i64 0, .slice r8.a r8.len r8.cap]) :=
    ⟨_, rfl, rfl, rfl, rfl, rfl, rfl, R3_slice hr8, trivial⟩
  refine call_run (T := tabX) (s := .bo) hC hm5 (args := [pPtr, .int .i64 0, .agg #[.int .i64 4, .int .i64 0, .int .i64 0, .int .i64 0, .int .i64 0, s']]) ⟨R2_ptr hp5, R2_int, hagg, trivial⟩ e4 rfl (fun θ5 r9 w5 le5 hr9 hm6 => ?_)
  have := bool_of hr9
  subst this
  have hp6 := le5 _ _ hp5
  refine call_comes (T := tabX) (s := .bo) hC hm6 (args := [pPtr, .int .i64 0, .agg #[.int .i64 3, .int .i64 0, .int .i64 0, .int .i64 0, .int .i64 1, .slice none 0 0]]) ⟨R2_ptr hp6, R2_int, flat_agg rfl, trivial⟩ h2d rfl (fun θ6 r10 w6 le6 hr10 hm7 => ?_)
  have := bool_of hr10
  subst this
  have hp7 := le6 _ _ hp6
  refine ⟨b, q + 0, rfl, ?_⟩
  refine ld_run (s := .po) hm7 hp7 (o := 0) (v := poolPtr) (by kernel_rfl) rfl (fun p13 hp13 => ?_)
  obtain ⟨pb2, pq2, pG2, hpp7, rfl⟩ := ptr_of1 hp13
  refine call_run (T := tabX) (s := .sl) hC hm7 (args := [poolPtr]) ⟨R2_ptr hpp7, trivial⟩ e5 rfl (fun θ7 r14 w7 le7 hr14 hm8 => ?_)
  have hp8 := le7 _ _ hp7
  have hpp8 := le7 _ _ hpp7
  rcases hr14 with ⟨hb, ho, hG, hc, hθ5, _, h14, _⟩ | ⟨hsp, _⟩
  rotate_left
  · exact absurd rfl hsp
  obtain ⟨ra, rl, rc⟩ := r14
  cases h14
  refine ⟨hb, ho + o5, rfl, (by decide : (0 : Int) ≤ 0), (by decide : (0 : Int) < (3 : Nat)), ?_⟩
  show ld (Sh.i .i64) (A hb (ho + o5 + Int.toNat 0 * 14 + 7)) _ w7
  rw [show ho + o5 + Int.toNat 0 * 14 + 7 = ho + (o5 + 7) from by simp; omega]
  refine ld_run (s := .i .i64) hm8 hθ5 e6 rfl (fun c17 hc17 => ?_)
  cases hc17
  refine ⟨hb, ho + o5, rfl, (by decide : (0 : Int) ≤ 2), (by decide : (2 : Int) < (3 : Nat)), ?_⟩
  show ld Sh.sl (A hb (ho + o5 + Int.toNat 2 * 14 + 7 + 3)) _ w7
  rw [show ho + o5 + Int.toNat 2 * 14 + 7 + 3 = ho + (o5 + 38) from by simp; omega]
  refine ld_run (s := .sl) hm8 hθ5 e7 rfl (fun d20 hd20 => ?_)
  refine bstr_run hm8 (s := ⟨a5, l5, k5⟩) (s' := ⟨d20.a, d20.len, d20.cap⟩) hd20 e8 e9 ?_
  show br (ByteArray.toList (⟨#[113]⟩ : ByteArray) == ByteArray.toList ⟨#[113]⟩) _ _ w7
  rw [beq_self_eq_true]
  refine call_run (T := tabX) (s := .bo) hC hm8 (args := [pPtr]) ⟨R2_ptr hp8, trivial⟩ e10 rfl (fun θ8 r22 w8 le8 hr22 hm9 => ?_)
  have := bool_of hr22
  subst this
  have hp9 := le8 _ _ hp8
  have hpp9 := le8 _ _ hpp8
  have rd : ∀ {θx : Th} {wx : World} {mx : Mem} {k : Option Addr → F}, Th.le θ6 θx → MRel w θx mx.t wx → mx.cells 2490387 0 1 = some [poolPtr] → (∀ p, p = some (A pb2 (pq2 + 0)) → k p wx) → ld (.po) (A b (q + 0)) k wx := fun {θx wx mx k} hle hmx hcx hk => by
    refine ld_run (s := .po) hmx (hle _ _ hp7) (o := 0) hcx rfl (fun p hpx => hk p ?_)
    obtain ⟨b1, q1, G1, h1, h2⟩ := ptr_of1 hpx
    rw [hle _ _ hpp7] at h1
    cases h1
    exact h2
  refine ⟨b, q + 0, rfl, ?_⟩
  refine rd (le7.trans le8) hm9 c6 (fun p hpx => ?_)
  subst hpx
  refine call_run (T := tabX) (s := .i .i64) hC hm9 (args := [poolPtr]) ⟨R2_ptr (le8 _ _ (le7 _ _ hpp7)), trivial⟩ e11 rfl (fun θ9 r26 w9 le9 hr26 hm10 => ?_)
  have := int_of hr26
  subst this
  refine ⟨b, q + 0, rfl, ?_⟩
  refine rd ((le7.trans le8).trans le9) hm10 c7 (fun p hpx => ?_)
  subst hpx
  refine call_run (T := tabX) (s := .bo) hC hm10 (args := [poolPtr]) ⟨R2_ptr (le9 _ _ (le8 _ _ (le7 _ _ hpp7))), trivial⟩ e12 rfl (fun θ10 r30 w10 le10 hr30 hm11 => ?_)
  have := bool_of hr30
  subst this
  refine ⟨b, q + 0, rfl, ?_⟩
  refine rd (((le7.trans le8).trans le9).trans le10) hm11 c8 (fun p hpx => ?_)
  subst hpx
  refine call_run (T := tabX) (s := .bo) hC hm11 (args := [poolPtr]) ⟨R2_ptr (le10 _ _ (le9 _ _ (le8 _ _ (le7 _ _ hpp7)))), trivial⟩ e13 rfl (fun θ11 r34 w11 le11 hr34 hm12 => ?_)
  have := bool_of hr34
  subst this
  exact ⟨rfl, hm12.below⟩
end Go.Eng
