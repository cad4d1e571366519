/- Parts of the proof: The executor of closed runs, part 10: what an operation comes to, here and there (all operations). The executor of closed runs, part 11: slices of slices, maps and channels. The executor of closed runs, part 12: maps and channels. The executor of closed runs, part 13: operations in regions. The executor of closed runs, part 14: regions. The executor of closed runs, part 15: regions that draw. The executor of closed runs, part 16: bodies. The executor of closed runs, part 17: bodies, with joins and loops. The executor of closed runs, part 18: bodies, soundly. The executor of closed runs, part 19: bodies and calls, soundly. The executor of closed runs, part 20: what functions return, soundly. The executor of closed runs, part 21: calls, soundly. Closed runs in parts: what is garbage may be forgotten between them. Conditions: none. -/
import Derived.Test.YtaihkmfihgaegaaGreatExeA
import Derived.MapKept
import Derived.Conc.SmallLaws
import Derived.Carry
namespace Go.Eng
open Go RowKit
variable {θ : Th} {v u a a' b b' : Value} {e ρ : Env} {T : Tab} {p : Prim} {ty : Nat}

theorem sl_R {q : Option Addr} {l c : Nat} (h : R3 θ (.slice q l c) u) : ∃ q' c', u = .slice q' l c' ∧ SlR θ ⟨q, l, c⟩ ⟨q', l, c'⟩ := by
  cases q with
  | none => cases h; exact ⟨none, c, rfl, rfl⟩
  | some q =>
    rcases h with ⟨b, o, g, c', h1, h2, rfl, h3⟩ | ⟨h1, h0, b, o, c', rfl⟩
    · exact ⟨_, _, rfl, .inl ⟨b, o, g, c', h1, h2, rfl, h3⟩⟩
    · subst h0; exact ⟨_, _, rfl, .inr ⟨h1, rfl, b, o, c', rfl⟩⟩
theorem po_R {q : Option Addr} (h : R3 θ (.pointer q) u) : ∃ q', u = .pointer q' ∧ AdS θ q q' := by
  cases q with
  | none => cases h; exact ⟨none, rfl, nofun⟩
  | some q =>
    obtain ⟨b, o, g, h1, h2, rfl⟩ := h
    refine ⟨_, rfl, fun b2 o2 he => ?_⟩
    cases he
    exact ⟨b, o, g, h1, rfl⟩
theorem sl_AdS {q : Option Addr} {l c : Nat} {q' : Option Addr} {c' : Nat} (h : SlR θ ⟨q, l, c⟩ ⟨q', l, c'⟩) : AdS θ q q' := by
  intro b o he
  subst he
  rcases h with ⟨b2, o2, g, c2, h1, h2, h3, _⟩ | ⟨h1, _⟩
  · cases h3; exact ⟨b2, o2, g, h1, rfl⟩
  · exact absurd rfl h1
theorem flat_all {l : List Operand} (h : flatOs l = true) : ∀ x ∈ l, flatO x = true := fun _ hx => flatOs_mem h hx
theorem All2.nth {R : Value → Value → Prop} {l r : List Value} (h : All2 R l r) (n : Nat) : (∃ v u, l[n]? = some v ∧ r[n]? = some u ∧ R v u) ∨ (l[n]? = none ∧ r[n]? = none) := by
  cases hl : l[n]? with
  | none =>
    refine .inr ⟨rfl, ?_⟩
    rw [List.getElem?_eq_none_iff] at hl ⊢
    rw [← h.len]; exact hl
  | some v =>
    obtain ⟨u, h1, h2⟩ := All2.get h hl
    exact .inl ⟨v, u, rfl, h1, h2⟩
def binMM (U : U) (op : BinOp) (v z : Value) : Option Prim := match z with
  | .nilFunc => binN U op v
  | b => binR U op v b
theorem binM {U : U} {op : BinOp} {v z : Value} (hn : z ≠ .nilFunc) : binMM U op v z = binR U op v z := by cases z <;> first | rfl | exact absurd rfl hn
theorem one_arg {R : Value → Value → Prop} {x : Value} {r : List Value} (h : All2 R [x] r) : ∃ y, r = [y] ∧ R x y := by
  cases r with
  | nil => cases h
  | cons y r => cases r with
    | nil => exact ⟨y, rfl, h.1⟩
    | cons _ _ => cases h.2
theorem two_args {R : Value → Value → Prop} {x z : Value} {r : List Value} (h : All2 R [x, z] r) : ∃ y t, r = [y, t] ∧ R x y ∧ R z t := by
  cases r with
  | nil => cases h
  | cons y r =>
    obtain ⟨t, rfl, ht⟩ := one_arg h.2
    exact ⟨y, t, rfl, h.1, ht⟩
theorem app_R {ats : List Nat} {args args' : List Value} (ha : All2 (R3 θ) args args') (h : builtinR T .append ats args = some p) : ∃ p', builtinR T .append ats args' = some p' ∧ PR θ p p' := by
  unfold builtinR at h
  split at h <;> (try (rename_i he; cases he; done)) <;> (try (cases h; done)) <;> rename_i hb <;> (try (cases hb; done))
  · obtain ⟨y, t, rfl, h1, h2⟩ := two_args ha
    obtain ⟨q1, c1, rfl, h3⟩ := sl_R h1
    obtain ⟨q2, c2, rfl, h4⟩ := sl_R h2
    simp only [builtinR]
    split at h
    · split at h
      · cases h; exact ⟨_, rfl, _, _, rfl, h3, h4⟩
      · cases h
    · cases h
  · obtain ⟨y, t, rfl, h1, h2⟩ := two_args ha
    obtain ⟨q1, c1, rfl, h3⟩ := sl_R h1
    cases h2
    simp only [builtinR]
    split at h
    · split at h
      · cases h; exact ⟨_, rfl, trivial⟩
      · cases h
    · cases h
theorem cpy_R {ats : List Nat} {args args' : List Value} (ha : All2 (R3 θ) args args') (h : builtinR T .copy ats args = some p) : ∃ p', builtinR T .copy ats args' = some p' ∧ PR θ p p' := by
  unfold builtinR at h
  split at h <;> (try (rename_i he; cases he; done)) <;> (try (cases h; done)) <;> rename_i hb <;> (try (cases hb; done))
  obtain ⟨y, t, rfl, h1, h2⟩ := two_args ha
  obtain ⟨q1, c1, rfl, h3⟩ := sl_R h1
  obtain ⟨q2, c2, rfl, h4⟩ := sl_R h2
  simp only [builtinR]
  split at h
  · split at h
    · cases h; exact ⟨_, rfl, _, _, rfl, h3, h4⟩
    · cases h
  · cases h
theorem len_R {ats : List Nat} {args args' : List Value} (ha : All2 (R3 θ) args args') (h : builtinR T .len ats args = some p) : ∃ p', builtinR T .len ats args' = some p' ∧ PR θ p p' := by
  unfold builtinR at h
  split at h <;> (try (rename_i he; cases he; done)) <;> (try (cases h; done)) <;> rename_i hb <;> (try (cases hb; done))
  obtain ⟨y, rfl, h1⟩ := one_arg ha
  simp only [builtinR]
  split at h
  · obtain ⟨q1, c1, rfl, h3⟩ := sl_R h1
    cases h; rw [‹T.ti _ = _›]; exact ⟨_, rfl, _, rfl, fun _ => rfl⟩
  · cases h1; cases h; rw [‹T.ti _ = _›]; exact ⟨_, rfl, _, rfl, fun _ => rfl⟩
  · rename_i r _
    have : ∃ r', y = .chan r' := by cases r with | none => cases h1; exact ⟨_, rfl⟩ | some r => obtain ⟨b, _, _, _, rfl⟩ := h1; exact ⟨_, rfl⟩
    obtain ⟨r', rfl⟩ := this
    cases h; rw [‹T.ti _ = _›]; exact ⟨_, rfl, trivial⟩
  · rename_i r _
    have : ∃ r', y = .map r' := by cases r with | none => cases h1; exact ⟨_, rfl⟩ | some r => obtain ⟨b, _, _, _, rfl⟩ := h1; exact ⟨_, rfl⟩
    obtain ⟨r', rfl⟩ := this
    cases h; rw [‹T.ti _ = _›]; exact ⟨_, rfl, trivial⟩
  · cases h
theorem min_R {bi : Builtin} (hbi : bi = .min ∨ bi = .max) {ats : List Nat} {args args' : List Value} (ha : All2 (R3 θ) args args') (h : builtinR T bi ats args = some p) : ∃ p', builtinR T bi ats args' = some p' ∧ PR θ p p' := by
  rcases hbi with rfl | rfl <;>
  · unfold builtinR at h
    split at h <;> (try (rename_i he; cases he; done)) <;> (try (cases h; done)) <;> rename_i hb <;> (try (cases hb; done))
    obtain ⟨y, t, rfl, h1, h2⟩ := two_args ha
    cases h1; cases h2; cases h
    exact ⟨_, rfl, _, rfl, fun _ => rfl⟩
theorem builtin_R {bi : Builtin} {ats : List Nat} {args args' : List Value} (ha : All2 (R3 θ) args args') (hd : (match bi with | .cap | .clear | .delete => true | _ => false) = false)
    (h : builtinR T bi ats args = some p) : ∃ p', builtinR T bi ats args' = some p' ∧ PR θ p p' := by
  cases bi with
  | append => exact app_R ha h
  | copy => exact cpy_R ha h
  | len => exact len_R ha h
  | min => exact min_R (.inl rfl) ha h
  | max => exact min_R (.inr rfl) ha h
  | cap => cases hd
  | clear => cases hd
  | delete => cases hd
  | _ => simp [builtinR] at h
theorem resolve_ok (hE : ERel θ e ρ) (hz : TabFlat T) {op : Op} (hf : flatOs op.operands.toList = true) (hc : chkOk e op = true) (hr : isRaw T e op = false) (hd : isDull op = false)
    (hs : ∀ t x lo hi mx, op = .slice t x lo hi mx → ∀ q l c, ev e x ≠ some (.slice q l c)) (h : resolve T e ty op = some p) : ∃ p', resolve T ρ ty op = some p' ∧ PR θ p p' := by
  have hfl := flat_all hf
  cases op with
  | move x =>
    simp only [resolve] at h ⊢
    cases hx : ev e x with
    | none => rw [hx] at h; cases h
    | some v =>
      rw [hx] at h; cases h
      obtain ⟨u, h1, h2⟩ := ev_R hE (hfl x (by simp [Op.operands])) hx
      rw [h1]; exact ⟨_, rfl, u, rfl, fun _ => h2⟩
  | assign x =>
    simp only [resolve] at h ⊢
    cases hx : ev e x with
    | none => rw [hx] at h; cases h
    | some v =>
      rw [hx] at h; cases h
      obtain ⟨u, h1, h2⟩ := ev_R hE (hfl x (by simp [Op.operands])) hx
      rw [h1]; exact ⟨_, rfl, u, rfl, fun _ => h2⟩
  | pick c x y =>
    simp only [resolve] at h ⊢
    cases hx : ev e c with
    | none => rw [hx] at h; cases h
    | some v =>
      rw [hx] at h
      obtain ⟨u, h1, h2⟩ := ev_R hE (hfl c (by simp [Op.operands])) hx
      cases v with
      | bool t =>
        cases h2; cases h
        rw [h1]
        exact ⟨_, rfl, _, _, rfl, fun v hv => ev_R hE (hfl x (by simp [Op.operands])) hv, fun v hv => ev_R hE (hfl y (by simp [Op.operands])) hv⟩
      | _ => cases h
  | alloc t =>
    simp only [resolve] at h ⊢
    cases hi : T.ti t with
    | none => rw [hi] at h; cases h
    | some i => rw [hi] at h; cases h; exact ⟨_, rfl, _, rfl, (flat_R1s (hz t i hi)).weak⟩
  | box t x =>
    simp only [resolve] at h ⊢
    cases hx : ev e x with
    | none => rw [hx] at h; cases h
    | some v =>
      rw [hx] at h; cases h
      obtain ⟨u, h1, h2⟩ := ev_R hE (hfl x (by simp [Op.operands])) hx
      rw [h1]; exact ⟨_, rfl, _, rfl, h2.cells⟩
  | build t ps =>
    simp only [resolve] at h ⊢
    cases hi : T.ti t with
    | none => rw [hi] at h; cases h
    | some i =>
      obtain ⟨U, sz, by_, z, lv⟩ := i
      rw [hi] at h
      cases U with
      | st fs =>
        simp only at h ⊢
        cases hsz : sizes T fs with
        | none => rw [hsz] at h; cases h
        | some pl =>
          rw [hsz] at h
          cases hv : evp e ps.toList with
          | none => rw [hv] at h; cases h
          | some vs =>
            rw [hv] at h
            simp only at h
            obtain ⟨us, h1, h2⟩ := evp_R hE (fun x hx => hfl x.2 (by simp [Op.operands]; exact ⟨x.1, by simpa using hx⟩)) hv
            rw [h1]
            simp only
            cases hfi : fillL (fun i => pl[i]?) z vs with
            | none => rw [hfi] at h; cases h
            | some cs =>
              rw [hfi] at h; cases h
              obtain ⟨cs', h3, h4⟩ := fillL_R h2 (flat_R1s (hz t _ hi)).weak hfi
              rw [h3]
              refine ⟨_, rfl, _, rfl, fun hv => ?_⟩
              exact ⟨cs'.toArray, rfl, by simpa using h4.strong (by simpa [valOk] using hv)⟩
      | _ => cases h
  | buildSlice t n ps =>
    simp only [resolve] at h ⊢
    cases hi : T.ti t with
    | none => rw [hi] at h; cases h
    | some i =>
      obtain ⟨U, sz, by_, z, lv⟩ := i
      rw [hi] at h
      cases U with
      | sl el =>
        simp only at h ⊢
        cases he : T.ti el with
        | none => rw [he] at h; cases h
        | some j =>
          rw [he] at h
          cases hv : evp e ps.toList with
          | none => rw [hv] at h; cases h
          | some vs =>
            rw [hv] at h
            simp only at h
            obtain ⟨us, h1, h2⟩ := evp_R hE (fun x hx => hfl x.2 (by simp [Op.operands]; exact ⟨x.1, by simpa using hx⟩)) hv
            rw [h1]
            simp only
            cases hb : (Nat.ble (n * j.size) 16777216 && Nat.beq j.zero.length j.size) with
            | false => rw [hb] at h; cases h
            | true =>
              rw [hb] at h
              simp only [cond_true] at h ⊢
              cases hfi : fillL (fun q => some (q * j.size, j.size)) (rep j.zero n) vs with
              | none => rw [hfi] at h; cases h
              | some cs =>
                rw [hfi] at h; cases h
                obtain ⟨cs', h3, h4⟩ := fillL_R h2 ((flat_R1s (hz el _ he)).rep n).weak hfi
                rw [h3]
                exact ⟨_, rfl, _, rfl, h4⟩
      | _ => cases h
  | load t x =>
    simp only [resolve] at h ⊢
    cases hx : ev e x with
    | none => rw [hx] at h; cases h
    | some v =>
      rw [hx] at h
      obtain ⟨u, h1, h2⟩ := ev_R hE (hfl x (by simp [Op.operands])) hx
      cases v with
      | pointer q =>
        cases q with
        | none => cases h
        | some q =>
          obtain ⟨b, o, sp⟩ := q
          cases sp with
          | some _ => cases h
          | none =>
            obtain ⟨q', rfl, h3⟩ := po_R h2
            obtain ⟨b', q, G, h4, rfl⟩ := h3 _ _ rfl
            rw [h1]
            cases hi : T.ti t with
            | none => rw [hi] at h; cases h
            | some i =>
              rw [hi] at h
              simp only at h ⊢
              cases hb : Nat.beq i.lvs.length i.size with
              | false => rw [hb] at h; cases h
              | true => rw [hb] at h; cases h; exact ⟨_, rfl, b', q, G, rfl, h4⟩
      | _ => cases h
  | store t x y =>
    simp only [resolve] at h ⊢
    cases hx : ev e x with
    | none => rw [hx] at h; cases h
    | some v =>
      rw [hx] at h
      obtain ⟨u, h1, h2⟩ := ev_R hE (hfl x (by simp [Op.operands])) hx
      cases v with
      | pointer q =>
        cases q with
        | none => cases h
        | some q =>
          obtain ⟨b, o, sp⟩ := q
          cases sp with
          | some _ => cases h
          | none =>
            obtain ⟨q', rfl, h3⟩ := po_R h2
            obtain ⟨b', q, G, h4, rfl⟩ := h3 _ _ rfl
            rw [h1]
            cases hy : ev e y with
            | none => rw [hy] at h; cases h
            | some z =>
              rw [hy] at h
              obtain ⟨z', h5, h6⟩ := ev_R hE (hfl y (by simp [Op.operands])) hy
              rw [h5]
              cases hi : T.ti t with
              | none => rw [hi] at h; cases h
              | some i =>
                rw [hi] at h
                simp only at h ⊢
                have hc := h6.cells
                rw [← hc.len]
                cases hb : Nat.beq z.cells.toList.length i.size with
                | false => rw [hb] at h; cases h
                | true => rw [hb] at h; cases h; exact ⟨_, rfl, b', q, G, _, rfl, h4, hc⟩
      | _ => cases h
  | nilCheck x =>
    simp only [resolve] at h ⊢
    cases hx : ev e x with
    | none => rw [hx] at h; cases h
    | some v =>
      rw [hx] at h
      obtain ⟨u, h1, h2⟩ := ev_R hE (hfl x (by simp [Op.operands])) hx
      cases v with
      | pointer q =>
        obtain ⟨q', rfl, h3⟩ := po_R h2
        cases h
        rw [h1]; exact ⟨_, rfl, _, rfl, h3⟩
      | _ => cases h
  | binOp op t x y ps =>
    simp only [resolve] at h ⊢
    simp only [chkOk] at hc
    cases hx : ev e x with
    | none => rw [hx] at h; cases h
    | some v =>
      rw [hx] at h hc
      obtain ⟨u, h1, h2⟩ := ev_R hE (hfl x (by simp [Op.operands])) hx
      cases hy : ev e y with
      | none => rw [hy] at h; cases h
      | some z =>
        rw [hy] at h hc
        obtain ⟨z', h5, h6⟩ := ev_R hE (hfl y (by simp [Op.operands])) hy
        rw [h1, h5]
        cases hi : T.ti t with
        | none => rw [hi] at h; cases h
        | some i =>
          rw [hi] at h
          simp only at h ⊢
          by_cases hn : z = .nilFunc
          · subst hn
            cases h6
            simp only at h ⊢ hc
            exact binN_R h2 (by cases v <;> first | rfl | exact hc) h
          · have hz' : z' ≠ .nilFunc := by
              intro hh
              subst hh
              cases z with
              | nilFunc => exact hn rfl
              | pointer q => cases q <;> first | (cases h6; done) | (obtain ⟨_, _, _, _, _, h6⟩ := h6; cases h6)
              | slice q l c =>
                cases q with
                | none => cases h6
                | some q => rcases h6 with ⟨_, _, _, _, _, _, h6, _⟩ | ⟨_, _, _, _, _, h6⟩ <;> cases h6
              | map q => cases q <;> first | (cases h6; done) | (obtain ⟨_, _, _, _, h6⟩ := h6; cases h6)
              | chan q => cases q <;> first | (cases h6; done) | (obtain ⟨_, _, _, _, h6⟩ := h6; cases h6)
              | func f x y => obtain ⟨_, _, h6, _⟩ := h6; cases h6
              | agg cs => obtain ⟨_, h6, _⟩ := h6; cases h6
              | tuple cs => obtain ⟨_, h6, _⟩ := h6; cases h6
              | bool c => cases h6
              | int k n => cases h6
              | string s => cases h6
              | nilIface => cases h6
              | _ => exact h6.elim
            change ∃ p', binMM i.und op u z' = some p' ∧ PR θ p p'
            change binMM i.und op v z = some p at h
            rw [binM hz']
            rw [binM hn] at h
            refine binR_R h2 h6 ?_ h
            cases v <;> cases z <;> first | rfl | exact hc
  | unOp op t x =>
    simp only [resolve] at h ⊢
    cases hx : ev e x with
    | none => rw [hx] at h; cases h
    | some v =>
      rw [hx] at h
      obtain ⟨u, h1, h2⟩ := ev_R hE (hfl x (by simp [Op.operands])) hx
      rw [h1]; exact unR_R h2 h
  | convert sT d x =>
    simp only [resolve] at h ⊢
    simp only [isRaw] at hr
    cases h0 : T.ti sT with
    | none => rw [h0] at h; cases h
    | some i0 =>
      obtain ⟨U0, a1, a2, a3, a4⟩ := i0
      rw [h0] at h hr
      cases h9 : T.ti d with
      | none => rw [h9] at h; cases U0 <;> cases h
      | some i1 =>
        obtain ⟨U1, b1, b2, b3, b4⟩ := i1
        rw [h9] at h hr
        cases hx : ev e x with
        | none => rw [hx] at h; cases U0 <;> cases U1 <;> cases h
        | some v =>
          rw [hx] at h
          obtain ⟨u, h1, h2⟩ := ev_R hE (hfl x (by simp [Op.operands])) hx
          rw [h1]
          cases U0 <;> cases U1 <;> (try (cases h; done)) <;> (try (cases hr; done))
          · cases v <;> (try (cases h; done))
            cases h2; cases h; exact ⟨_, rfl, _, rfl, fun _ => rfl⟩
          · cases v <;> (try (cases h; done))
            cases h2
            simp only at h ⊢
            rename_i el _
            cases he : T.ti el with
            | none => rw [he] at h; cases h
            | some j =>
              obtain ⟨U2, c1, c2, c3, c4⟩ := j
              rw [he] at h
              cases U2 <;> (try (cases h; done))
              rename_i kk
              cases kk <;> (try (cases h; done))
              cases h; exact ⟨_, rfl, rfl⟩
          · cases v <;> (try (cases h; done))
            obtain ⟨q', c', rfl, h3⟩ := sl_R h2
            simp only at h ⊢
            rename_i el _ _ _
            cases he : T.ti el with
            | none => rw [he] at h; cases h
            | some j =>
              obtain ⟨U2, c1, c2, c3, c4⟩ := j
              rw [he] at h
              cases U2 <;> (try (cases h; done))
              rename_i kk
              cases kk <;> (try (cases h; done))
              cases h; exact ⟨_, rfl, _, rfl, h3⟩
  | makeFunc fn fs cs =>
    simp only [resolve] at h ⊢
    cases h1 : evs e fs.toList with
    | none => rw [h1] at h; cases h
    | some as =>
      rw [h1] at h
      cases h2 : evs e cs.toList with
      | none => rw [h2] at h; cases h
      | some bs =>
        rw [h2] at h
        cases h
        obtain ⟨as', h3, h4⟩ := evs_R hE (fun x hx => hfl x (by simp [Op.operands]; exact .inl (by simpa using hx))) h1
        obtain ⟨bs', h5, h6⟩ := evs_R hE (fun x hx => hfl x (by simp [Op.operands]; exact .inr (by simpa using hx))) h2
        rw [h3, h5]
        refine ⟨_, rfl, _, rfl, fun hv => ?_⟩
        simp only [valOk, Bool.and_eq_true] at hv
        exact ⟨_, _, rfl, by simpa using plains h4 (by simpa using hv.1), by simpa using plains h6 (by simpa using hv.2)⟩
  | makeSlice t x y =>
    simp only [resolve] at h ⊢
    cases h0 : T.ti t with
    | none => rw [h0] at h; cases h
    | some i0 =>
      obtain ⟨U0, a1, a2, a3, a4⟩ := i0
      rw [h0] at h
      cases U0 <;> (try (cases h; done))
      cases hx : ev e x with
      | none => rw [hx] at h; cases h
      | some v =>
        rw [hx] at h
        obtain ⟨u, h1, h2⟩ := ev_R hE (hfl x (by simp [Op.operands])) hx
        cases v <;> (try (cases h; done))
        cases h2
        rename_i kk n
        cases kk <;> (try (cases h; done))
        cases hy : ev e y with
        | none => rw [hy] at h; cases h
        | some z =>
          rw [hy] at h
          obtain ⟨z', h5, h6⟩ := ev_R hE (hfl y (by simp [Op.operands])) hy
          cases z <;> (try (cases h; done))
          cases h6
          rename_i kk m
          cases kk <;> (try (cases h; done))
          rw [h1, h5]
          simp only at h ⊢
          rename_i el
          cases he : T.ti el with
          | none => rw [he] at h; cases h
          | some j => rw [he] at h; cases h; exact ⟨_, rfl, rfl, flat_R1s (hz _ _ he)⟩
  | slice t x lo hi mx =>
    cases mx with
    | some _ => simp [resolve] at h
    | none =>
      simp only [resolve] at h ⊢
      simp only [chkOk] at hc
      cases h0 : T.ti t with
      | none => rw [h0] at h; cases h
      | some i0 =>
        obtain ⟨U0, a1, a2, a3, a4⟩ := i0
        rw [h0] at h
        cases hx : ev e x with
        | none => rw [hx] at h; cases U0 <;> cases h
        | some v =>
          rw [hx] at h hc
          obtain ⟨u, h1, h2⟩ := ev_R hE (hfl x (by simp [Op.operands])) hx
          rw [h1]
          have hb : ∀ (o : Option Operand) (r : Option Value), (∀ y, o = some y → flatO y = true) → evo e o = some r → (r = none ∧ evo ρ o = some none) ∨ ∃ y y', r = some y ∧ evo ρ o = some (some y') ∧ R3 θ y y' := by
            intro o r hfo ho
            cases o with
            | none => cases ho; exact .inl ⟨rfl, rfl⟩
            | some y =>
              simp only [evo] at ho ⊢
              cases hy : ev e y with
              | none => rw [hy] at ho; cases ho
              | some z =>
                rw [hy] at ho; cases ho
                obtain ⟨z', h5, h6⟩ := ev_R hE (hfo y rfl) hy
                exact .inr ⟨z, z', rfl, by rw [h5], h6⟩
          cases hlo : evo e lo with
          | none => rw [hlo] at h; cases U0 <;> cases v <;> cases h
          | some lv =>
            cases hhi : evo e hi with
            | none => rw [hlo, hhi] at h; cases U0 <;> cases v <;> cases h
            | some hv =>
              rw [hlo, hhi] at h hc
              have hlo' := hb lo lv (fun y hy => hfl y (by subst hy; simp [Op.operands])) hlo
              have hhi' := hb hi hv (fun y hy => hfl y (by subst hy; simp [Op.operands])) hhi
              cases v with
              | slice q l c => exact absurd hx (hs _ _ _ _ _ rfl q l c)
              | string s =>
                cases h2
                cases U0 <;> (try (cases h; done))
                simp only at h
                rcases hlo' with ⟨rfl, h3⟩ | ⟨y, y', rfl, h3, h4⟩
                · rcases hhi' with ⟨rfl, h5⟩ | ⟨z, z', rfl, h5, h6⟩
                  · cases h
                  · cases z <;> (try (cases h; done))
                    cases h6
                    rw [h3, h5]
                    cases h
                    simp only [Bool.and_eq_true, decide_eq_true_eq] at hc
                    exact ⟨_, rfl, _, _, rfl, hc, rfl⟩
                · cases y <;> (try (cases h; done))
                  cases h4
                  rcases hhi' with ⟨rfl, h5⟩ | ⟨z, z', rfl, h5, h6⟩
                  · rw [h3, h5]
                    cases h
                    simp only [Bool.and_eq_true, decide_eq_true_eq] at hc
                    exact ⟨_, rfl, _, _, rfl, hc, rfl⟩
                  · cases z <;> (try (cases h; done))
                    cases h6
                    rw [h3, h5]
                    cases h
                    simp only [Bool.and_eq_true, decide_eq_true_eq] at hc
                    refine ⟨_, rfl, _, _, rfl, ⟨⟨hc.1.1.1, hc.1.1.2⟩, hc.1.2, ?_⟩, rfl⟩
                    have := hc.1.1.1; have := hc.2; omega
              | _ => cases U0 <;> cases h
  | fieldAddr t x f =>
    simp only [resolve] at h ⊢
    cases h0 : T.ti t with
    | none => rw [h0] at h; cases h
    | some i0 =>
      obtain ⟨U0, a1, a2, a3, a4⟩ := i0
      rw [h0] at h
      cases U0 <;> (try (cases h; done))
      cases hx : ev e x with
      | none => rw [hx] at h; cases h
      | some v =>
        rw [hx] at h
        obtain ⟨u, h1, h2⟩ := ev_R hE (hfl x (by simp [Op.operands])) hx
        cases v <;> (try (cases h; done))
        rename_i fs q
        cases q with
        | none => cases h
        | some q =>
          obtain ⟨b, o, sp⟩ := q
          cases sp with
          | some _ => cases h
          | none =>
            obtain ⟨q', rfl, h3⟩ := po_R h2
            obtain ⟨b', q, G, h4, rfl⟩ := h3 _ _ rfl
            rw [h1]
            simp only at h ⊢
            cases hf' : fs[f]? with
            | none => rw [hf'] at h; cases h
            | some fo =>
              obtain ⟨ft, off⟩ := fo
              rw [hf'] at h
              simp only at h ⊢
              cases hi : T.ti ft with
              | none => rw [hi] at h; cases h
              | some i =>
                rw [hi] at h
                simp only at h ⊢
                cases hb : Nat.beq i.size 0 with
                | true => rw [hb] at h; cases h
                | false =>
                  rw [hb] at h; cases h
                  exact ⟨_, rfl, _, rfl, fun _ => R0.to3 ⟨b', q, G, h4, rfl, by simp [Nat.add_assoc]⟩⟩
  | field t x f =>
    simp only [resolve] at h ⊢
    cases h0 : T.ti t with
    | none => rw [h0] at h; cases h
    | some i0 =>
      obtain ⟨U0, a1, a2, a3, a4⟩ := i0
      rw [h0] at h
      cases U0 <;> (try (cases h; done))
      cases hx : ev e x with
      | none => rw [hx] at h; cases h
      | some v =>
        rw [hx] at h
        obtain ⟨u, h1, h2⟩ := ev_R hE (hfl x (by simp [Op.operands])) hx
        cases v <;> (try (cases h; done))
        rename_i fs cs
        obtain ⟨ds, rfl, h3⟩ := h2
        rw [h1]
        simp only at h ⊢
        cases hf' : fs[f]? with
        | none => rw [hf'] at h; cases h
        | some fo =>
          obtain ⟨ft, off⟩ := fo
          rw [hf'] at h
          simp only at h ⊢
          cases hi : T.ti ft with
          | none => rw [hi] at h; cases h
          | some i =>
            rw [hi] at h
            simp only at h ⊢
            cases hb : i.und.agg with
            | true =>
              rw [hb] at h; cases h
              exact ⟨_, rfl, _, rfl, fun _ => ⟨_, rfl, by simpa using (h3.take _).drop _⟩⟩
            | false =>
              rw [hb] at h
              simp only [cond_false] at h ⊢
              rcases h3.nth off with ⟨v, u, e1, e2, e3⟩ | ⟨e1, e2⟩
              · rw [e1] at h; rw [e2]; cases h; exact ⟨_, rfl, _, rfl, fun _ => e3.to3⟩
              · rw [e1] at h; cases h
  | indexAddr t x y =>
    simp only [resolve] at h ⊢
    cases h0 : T.ti t with
    | none => rw [h0] at h; cases h
    | some i0 =>
      obtain ⟨U0, a1, a2, a3, a4⟩ := i0
      rw [h0] at h
      cases U0 <;> (try (cases h; done))
      cases hx : ev e x with
      | none => rw [hx] at h; cases h
      | some v =>
        rw [hx] at h
        obtain ⟨u, h1, h2⟩ := ev_R hE (hfl x (by simp [Op.operands])) hx
        cases v <;> (try (cases h; done))
        obtain ⟨q', c', rfl, h3⟩ := sl_R h2
        cases hy : ev e y with
        | none => rw [hy] at h; cases h
        | some z =>
          rw [hy] at h
          obtain ⟨z', h5, h6⟩ := ev_R hE (hfl y (by simp [Op.operands])) hy
          cases z <;> (try (cases h; done))
          cases h6
          rw [h1, h5]
          simp only at h ⊢
          rename_i el _ _ _ _ _
          cases he : T.ti el with
          | none => rw [he] at h; cases h
          | some j => rw [he] at h; cases h; exact ⟨_, rfl, _, rfl, sl_AdS h3⟩
  | index t x y =>
    simp only [resolve] at h ⊢
    simp only [chkOk] at hc
    cases h0 : T.ti t with
    | none => rw [h0] at h; cases h
    | some i0 =>
      obtain ⟨U0, a1, a2, a3, a4⟩ := i0
      rw [h0] at h
      cases U0 <;> (try (cases h; done))
      cases hx : ev e x with
      | none => rw [hx] at h; cases h
      | some v =>
        rw [hx] at h hc
        obtain ⟨u, h1, h2⟩ := ev_R hE (hfl x (by simp [Op.operands])) hx
        cases v <;> (try (cases h; done))
        cases h2
        cases hy : ev e y with
        | none => rw [hy] at h; cases h
        | some z =>
          rw [hy] at h hc
          obtain ⟨z', h5, h6⟩ := ev_R hE (hfl y (by simp [Op.operands])) hy
          cases z <;> (try (cases h; done))
          cases h6
          rw [h1, h5]
          cases h
          simp only [Bool.and_eq_true, decide_eq_true_eq] at hc
          exact ⟨_, rfl, _, _, rfl, hc, rfl⟩
  | extract x n =>
    simp only [resolve] at h ⊢
    cases hx : ev e x with
    | none => rw [hx] at h; cases h
    | some v =>
      rw [hx] at h
      obtain ⟨u, h1, h2⟩ := ev_R hE (hfl x (by simp [Op.operands])) hx
      cases v <;> (try (cases h; done))
      obtain ⟨ds, rfl, h3⟩ := h2
      rw [h1]
      simp only at h ⊢
      rcases h3.nth n with ⟨v, u, e1, e2, e3⟩ | ⟨e1, e2⟩
      · rw [e1] at h; rw [e2]; cases h; exact ⟨_, rfl, _, rfl, fun _ => e3.to3⟩
      · rw [e1] at h; cases h
  | call c =>
    obtain ⟨cal, args, ats⟩ := c
    have hargs : ∀ x ∈ args.toList, flatO x = true := fun x hx => hfl x (by simp [Op.operands, Call.operands]; exact .inr (by simpa using hx))
    simp only [resolve] at h ⊢
    cases hev : evs e args.toList with
    | none => rw [hev] at h; cases cal <;> first | (cases h; done) | (rename_i f; cases f <;> cases h)
    | some vs =>
      rw [hev] at h
      obtain ⟨us, h1, h2⟩ := evs_R hE hargs hev
      rw [h1]
      cases cal with
      | builtin bi => exact builtin_R h2 (by cases bi <;> first | rfl | cases hd) h
      | invoke _ _ => cases h
      | value f =>
        have hff : flatO f = true := hfl f (by simp [Op.operands, Call.operands])
        have hgen : (match ev e f, T.ti ty with
            | some fv, some i => some (Prim.callv fv vs (match i.lvs with | [] => [] | l => [(i.und.agg, l)]))
            | _, _ => none) = some p → ∃ p', (match ev ρ f, T.ti ty with
            | some fv, some i => some (Prim.callv fv us (match i.lvs with | [] => [] | l => [(i.und.agg, l)]))
            | _, _ => none) = some p' ∧ PR θ p p' := by
          intro h
          cases hf : ev e f with
          | none => rw [hf] at h; cases h
          | some fv =>
            rw [hf] at h
            obtain ⟨fu, h5, h6⟩ := ev_R hE hff hf
            rw [h5]
            cases hi : T.ti ty with
            | none => rw [hi] at h; cases h
            | some i => rw [hi] at h; cases h; exact ⟨_, rfl, _, _, rfl, h6, h2⟩
        cases f with
        | func f =>
          simp only at h ⊢
          cases hfr : T.fr f with
          | none => rw [hfr] at h; cases h
          | some rs => rw [hfr] at h; cases h; exact ⟨_, rfl, _, rfl, h2⟩
        | tmp t => exact hgen h
        | const v => exact hgen h
        | global g => exact hgen h
  | select cs b =>
    cases b with
    | true => simp [resolve] at h
    | false =>
      simp only [resolve] at h ⊢
      cases hcs : cs.toList with
      | nil => rw [hcs] at h; cases h
      | cons c l =>
        cases l with
        | cons _ _ => rw [hcs] at h; cases h
        | nil =>
          rw [hcs] at h
          have hcs' : cs = #[c] := by rw [← Array.toArray_toList (xs := cs), hcs]
          subst hcs'
          simp only at h ⊢
          split at h
          case h_2 => cases h
          case h_1 =>
          have hch : ∀ r, ev e c.chan = some (.chan r) → ∃ r', ev ρ c.chan = some (.chan r') ∧ R0 θ (.chan r) (.chan r') := by
            intro r hr
            obtain ⟨u, h1, h2⟩ := ev_R hE (hfl c.chan (by simp [Op.operands])) hr
            cases r with
            | none => cases h2; exact ⟨none, h1, rfl⟩
            | some r => obtain ⟨b, o, g, h3, rfl⟩ := h2; exact ⟨some b, h1, b, o, g, h3, rfl⟩
          cases hx : ev e c.chan with
          | none => rw [hx] at h; cases h
          | some v =>
            rw [hx] at h
            cases v <;> (try (cases h; done))
            rename_i r
            obtain ⟨r', h1, h2⟩ := hch r hx
            rw [h1]
            cases hsd : c.send with
            | none => rw [hsd] at h; cases h; exact ⟨_, rfl, _, rfl, h2⟩
            | some y =>
              rw [hsd] at h
              simp only at h ⊢
              cases hy : ev e y with
              | none => rw [hy] at h; cases h
              | some z =>
                rw [hy] at h; cases h
                obtain ⟨z', h5, h6⟩ := ev_R hE (hfl y (by simp [Op.operands, hsd])) hy
                rw [h5]; exact ⟨_, rfl, _, _, rfl, h2, h6⟩
  | makeMap t x => cases hr
  | makeChan t x => cases hr
  | lookup t x y ok => cases hr
  | mapUpdate t x y z => cases hr
  | makeInterface t x => cases hd
  | mapEntry t x y => cases hd
  | entryStore t x y z => cases hd
  | range t x => cases hd
  | next x b => cases hd
  | entry x => cases hd
  | _ => cases h
end Go.Eng
namespace Go.Eng
open Go RowKit
variable {θ : Th} {v u : Value} {e ρ : Env} {T : Tab} {p : Prim} {ty : Nat} {w W0 : World} {m m1 : Mem} {k : Value → F} {P : Program}

theorem intO_R {o : Option Operand} {r : Option Value} {d n : Nat} (hE : ERel θ e ρ) (hfo : ∀ y, o = some y → flatO y = true) (ho : evo e o = some r) (hi : intO r d = some n) :
    (evo ρ o = some none ∧ n = d) ∨ ∃ kk i, evo ρ o = some (some (.int kk i)) ∧ 0 ≤ i ∧ n = i.toNat := by
  cases o with
  | none => cases ho; cases hi; exact .inl ⟨rfl, rfl⟩
  | some y =>
    simp only [evo] at ho ⊢
    cases hy : ev e y with
    | none => rw [hy] at ho; cases ho
    | some z =>
      rw [hy] at ho; cases ho
      cases z <;> (try (cases hi; done))
      rename_i kk i
      obtain ⟨z', h1, h2⟩ := ev_R hE (hfo y rfl) hy
      cases h2
      simp only [intO] at hi
      cases hd : decide (0 ≤ i) with
      | false => rw [hd] at hi; cases hi
      | true => rw [hd] at hi; cases hi; exact .inr ⟨kk, i, by rw [h1], by simpa using hd, rfl⟩
/-- A bounded slice of a slice. -/
theorem subR_ok {a : Option Addr} {l c size low high : Nat} {lv hv : Option Value} (hlo : (lv = none ∧ low = 0) ∨ ∃ kk i, lv = some (.int kk i) ∧ 0 ≤ i ∧ low = i.toNat)
    (hhi : (hv = none ∧ high = l) ∨ ∃ kk i, hv = some (.int kk i) ∧ 0 ≤ i ∧ high = i.toNat) (h1 : low ≤ high) (h2 : high ≤ c) (h3 : l ≤ c) :
    ∃ p', subR a l c size lv hv = some p' ∧ (p'.eff = false ∧ ∀ v, p'.again v = none) ∧ ∀ (P : Program) (k : Value → F) (w : World), k (.slice (if c = low then a else a.map (·.add (low * size))) (high - low) (c - low)) w → p'.f P k w := by
  have h0 : (if c = 0 then a else a.map (·.add (0 * size))) = a := by
    by_cases hc : c = 0
    · rw [if_pos hc]
    · rw [if_neg hc]; cases a with | none => rfl | some a => simp [Addr.add]
  rcases hlo with ⟨rfl, rfl⟩ | ⟨kk, i, rfl, hi0, rfl⟩
  · rcases hhi with ⟨rfl, rfl⟩ | ⟨kk, j, rfl, hj0, rfl⟩
    · refine ⟨_, rfl, ⟨rfl, fun _ => rfl⟩, fun P k w hk => ?_⟩
      rw [h0] at hk
      show k _ w
      simpa using hk
    · refine ⟨_, rfl, ⟨rfl, fun _ => rfl⟩, fun P k w hk => ⟨⟨hj0, by omega⟩, ?_⟩⟩
      rw [h0] at hk; simpa using hk
  · rcases hhi with ⟨rfl, rfl⟩ | ⟨kk', j, rfl, hj0, rfl⟩
    · exact ⟨_, rfl, ⟨rfl, fun _ => rfl⟩, fun P k w hk => ⟨⟨hi0, by omega⟩, hk⟩⟩
    · exact ⟨_, rfl, ⟨rfl, fun _ => rfl⟩, fun P k w hk => ⟨⟨⟨hj0, by omega⟩, hi0, by omega⟩, hk⟩⟩
theorem xslice_ok (hE : ERel θ e ρ) (hm : MRel W0 θ m.t w) {t : Nat} {x : Operand} {lo hi : Option Operand} (hf : flatOs (Op.slice t x lo hi none).operands.toList = true) (h : xslice T e t x lo hi m = some (v, m1)) :
    m1 = m ∧ ∃ p' u, resolve T ρ ty (.slice t x lo hi none) = some p' ∧ (p'.eff = false ∧ ∀ v, p'.again v = none) ∧ R3 θ v u ∧ ∀ (P : Program) (k : Value → F) (w : World), k u w → p'.f P k w := by
  have hfl := flat_all hf
  simp only [resolve]
  unfold xslice at h
  cases h0 : T.ti t with
  | none => rw [h0] at h; cases h
  | some i0 =>
    obtain ⟨U0, a1, a2, a3, a4⟩ := i0
    rw [h0] at h
    cases U0 <;> (try (cases h; done))
    rename_i el
    cases hx : ev e x with
    | none => rw [hx] at h; cases h
    | some vx =>
      rw [hx] at h
      cases vx <;> (try (cases h; done))
      rename_i a l c
      obtain ⟨ux, h1, h2⟩ := ev_R hE (hfl x (by simp [Op.operands])) hx
      obtain ⟨q', c', rfl, h3⟩ := sl_R h2
      rw [h1]
      cases hlo : evo e lo with
      | none => rw [hlo] at h; cases h
      | some lv =>
        cases hhi : evo e hi with
        | none => rw [hlo, hhi] at h; cases h
        | some hv =>
          rw [hlo, hhi] at h
          simp only at h
          cases he : T.ti el with
          | none => rw [he] at h; cases h
          | some i =>
            rw [he] at h
            simp only at h
            have hL := fun n hn => intO_R (d := 0) (n := n) hE (fun y hy => hfl y (by subst hy; simp [Op.operands])) hlo hn
            have hH := fun n hn => intO_R (d := l) (n := n) hE (fun y hy => hfl y (by subst hy; simp [Op.operands])) hhi hn
            -- the concrete bounds
            have fin : ∀ low high, intO lv 0 = some low → intO hv l = some high → low ≤ high → high ≤ c' → l ≤ c' → R3 θ v (.slice (if c' = low then q' else q'.map (·.add (low * i.size))) (high - low) (c' - low)) →
                ∃ p' u, (match T.ti t, some (Value.slice q' l c'), evo ρ lo, evo ρ hi with
                  | some ⟨.sl e, _, _, _, _⟩, some (.slice a l c), some lo, some hi => match T.ti e with
                    | some i => subR a l c i.size lo hi
                    | none => none
                  | some ⟨.tx, _, _, _, _⟩, some (.string s), some lo, some hi => subS s lo hi
                  | _, _, _, _ => none) = some p' ∧ (p'.eff = false ∧ ∀ v, p'.again v = none) ∧ R3 θ v u ∧ ∀ (P : Program) (k : Value → F) (w : World), k u w → p'.f P k w := by
              intro low high hl hh b1 b2 b3 hR
              have hL' : ∃ lv', evo ρ lo = some lv' ∧ ((lv' = none ∧ low = 0) ∨ ∃ kk i, lv' = some (.int kk i) ∧ 0 ≤ i ∧ low = i.toNat) := by
                rcases hL low hl with ⟨e1, e2⟩ | ⟨kk, n, e1, e2, e3⟩
                · exact ⟨_, e1, .inl ⟨rfl, e2⟩⟩
                · exact ⟨_, e1, .inr ⟨kk, n, rfl, e2, e3⟩⟩
              have hH' : ∃ hv', evo ρ hi = some hv' ∧ ((hv' = none ∧ high = l) ∨ ∃ kk i, hv' = some (.int kk i) ∧ 0 ≤ i ∧ high = i.toNat) := by
                rcases hH high hh with ⟨e1, e2⟩ | ⟨kk, n, e1, e2, e3⟩
                · exact ⟨_, e1, .inl ⟨rfl, e2⟩⟩
                · exact ⟨_, e1, .inr ⟨kk, n, rfl, e2, e3⟩⟩
              obtain ⟨lv', e1, e2⟩ := hL'
              obtain ⟨hv', e3, e4⟩ := hH'
              rw [h0, e1, e3]
              simp only [he]
              obtain ⟨p', g1, g2, g3⟩ := subR_ok (a := q') (size := i.size) e2 e4 b1 b2 b3
              exact ⟨p', _, g1, g2, hR, g3⟩
            rw [← h0]
            cases a with
            | none =>
              cases h3
              simp only at h
              cases hl : intO lv 0 with
              | none => rw [hl] at h; cases h
              | some low =>
                cases hh : intO hv l with
                | none => rw [hl, hh] at h; cases h
                | some high =>
                  rw [hl, hh] at h
                  simp only at h
                  cases hb : (Nat.beq low 0 && Nat.beq high 0 && Nat.beq l 0 && Nat.beq c 0) with
                  | false => rw [hb] at h; cases h
                  | true =>
                    rw [hb] at h; cases h
                    simp only [Bool.and_eq_true] at hb
                    have b1 := Nat.eq_of_beq_eq_true hb.1.1.1
                    have b2 := Nat.eq_of_beq_eq_true hb.1.1.2
                    have b3 := Nat.eq_of_beq_eq_true hb.1.2
                    have b4 := Nat.eq_of_beq_eq_true hb.2
                    subst b1 b2 b3 b4
                    exact ⟨rfl, fin 0 0 hl hh (by omega) (by omega) (by omega) rfl⟩
            | some a =>
              obtain ⟨b, o, sp⟩ := a
              cases sp with
              | some _ => cases h
              | none =>
                simp only at h
                rcases h3 with ⟨b2, q, G, c2, e1, _, e2, e3⟩ | ⟨hsp, _⟩
                case inr => exact absurd rfl hsp
                cases e2
                simp only at e1 e3
                cases hl : intO lv 0 with
                | none => rw [hl] at h; cases h
                | some low =>
                  cases hh : intO hv l with
                  | none => rw [hl, hh] at h; cases h
                  | some high =>
                    rw [hl, hh] at h
                    cases hg : m.t.get b with
                    | none => rw [hg] at h; cases h
                    | some ob =>
                      rw [hg] at h
                      cases ob with
                      | row g vs =>
                        obtain ⟨b3, q3, G3, ys, N, f1, _, _, _, _, f6⟩ := row_of (hm.obj b _ hg)
                        rw [e1] at f1
                        cases f1
                        cases g with
                        | none =>
                          obtain ⟨rfl, _⟩ := f6
                          cases e3
                          simp only at h
                          cases hb : (Nat.ble low high && Nat.ble high c && Nat.ble l c) with
                          | false => rw [hb] at h; cases h
                          | true =>
                            rw [hb] at h; cases h
                            simp only [Bool.and_eq_true] at hb
                            refine ⟨rfl, fin low high hl hh (Nat.le_of_ble_eq_true hb.1.1) (Nat.le_of_ble_eq_true hb.1.2) (Nat.le_of_ble_eq_true hb.2) (R0.to3 (.inl ⟨b2, q, none, c - low, e1, rfl, ?_, rfl⟩))⟩
                            by_cases hc : c = low
                            · subst hc
                              simp
                            · rw [if_neg hc]
                              have : Nat.beq c low = false := by cases hbq : Nat.beq c low with | false => rfl | true => exact absurd (Nat.eq_of_beq_eq_true hbq) hc
                              rw [this]
                              simp only [Option.map_some, cond_false]
                              rw [A_add, Nat.add_assoc]
                        | some z =>
                          obtain ⟨hz0, K, rfl, _⟩ := f6
                          obtain ⟨_, e4, e5⟩ := e3
                          simp only at h
                          cases hb : (Nat.ble low high && Nat.ble high l && Nat.beq z i.size) with
                          | false => rw [hb] at h; cases h
                          | true =>
                            rw [hb] at h
                            simp only [cond_true] at h
                            simp only [Bool.and_eq_true] at hb
                            have b1 := Nat.le_of_ble_eq_true hb.1.1
                            have b4 := Nat.le_of_ble_eq_true hb.1.2
                            have b5 := Nat.eq_of_beq_eq_true hb.2
                            cases hb2 : (Nat.beq low 0 || Nat.blt low l) with
                            | true =>
                              rw [hb2] at h; cases h
                              simp only [Bool.or_eq_true] at hb2
                              refine ⟨rfl, fin low high hl hh b1 (by omega) e5 (R0.to3 (.inl ⟨b2, q, some (K, z), c' - low, e1, rfl, ?_, hz0, ?_, by omega⟩))⟩
                              · by_cases hc : c' = low
                                · have : low = 0 := by
                                    rcases hb2 with hb2 | hb2
                                    · exact Nat.eq_of_beq_eq_true hb2
                                    · have : low + 1 ≤ l := Nat.le_of_ble_eq_true hb2
                                      omega
                                  subst this
                                  rw [if_pos hc]; simp
                                · rw [if_neg hc]
                                  simp only [Option.map_some]
                                  rw [A_add, Nat.add_assoc]
                              · show o + low * i.size + (c' - low) * z = K * z
                                rw [← b5, Nat.add_assoc, ← Nat.add_mul, show low + (c' - low) = c' from by omega]
                                exact e4
                            | false =>
                              rw [hb2] at h; cases h
                              simp only [Bool.or_eq_false_iff] at hb2
                              have hlow : l ≤ low := by
                                rcases Nat.lt_or_ge low l with hlt | hge
                                · have : Nat.blt low l = true := Nat.ble_eq_true_of_le hlt
                                  rw [this] at hb2; cases hb2.2
                                · exact hge
                              refine ⟨rfl, fin low high hl hh b1 (by omega) e5 (R0.to3 (.inr ⟨by simp, rfl, ?_⟩))⟩
                              rw [show high - low = 0 from by omega]
                              by_cases hc : c' = low
                              · rw [if_pos hc]; exact ⟨_, _, _, rfl⟩
                              · rw [if_neg hc]; simp only [Option.map_some, A_add]; exact ⟨_, _, _, rfl⟩
                      | _ => cases h
end Go.Eng
namespace Go.Eng
open Go RowKit
variable {θ : Th} {v u : Value} {e ρ : Env} {T : Tab} {p : Prim} {ty : Nat} {w W0 : World} {m m1 : Mem} {k : Value → F}

theorem find_R {key : Int} : ∀ {es : List (Int × Value)} {ents : List MapEntry} (i : Nat), MapR θ es ents →
    (mapGet key es = none ∧ Instr.findNow (.int .i64) (.int .i64 key) ents i = some none) ∨
      ∃ v j en, mapGet key es = some v ∧ Instr.findNow (.int .i64) (.int .i64 key) ents i = some (some (j, en)) ∧ R1 θ v en
  | [], [], i, _ => .inl ⟨rfl, rfl⟩
  | (k, v) :: es, en :: ents, i, h => by
    obtain ⟨h1, h2, h3⟩ := h
    have hs : Instr.sameNow (.int .i64) (.int .i64 key) en.key = some (key == k) := by rw [h1]; rfl
    simp only [mapGet, Instr.findNow, hs]
    by_cases hk : k = key
    · subst hk
      simp only [beq_self_eq_true, decide_true, cond_true]
      exact .inr ⟨v, i, en.val, rfl, rfl, h2⟩
    · have e1 : (key == k) = false := by simp; exact fun h => hk h.symm
      rw [e1]
      simp only [hk, decide_false, cond_false]
      exact find_R (i + 1) h3
theorem und_mp (hT : TabOk T) {t : Nat} {kt et : Nat} {a1 a2 : Nat} {a3 : List Value} {a4 : List Sh} (h : T.ti t = some ⟨.mp kt et, a1, a2, a3, a4⟩) : T.P.underlying t = some (.map kt et) := by
  obtain ⟨d, h1, h2⟩ := hT.und h
  cases d <;> simp [U.of] at h2
  rw [h1, h2.1, h2.2]
theorem und_ch (hT : TabOk T) {t : Nat} {et : Nat} {a1 a2 : Nat} {a3 : List Value} {a4 : List Sh} (h : T.ti t = some ⟨.ch et, a1, a2, a3, a4⟩) : ∃ dir, T.P.underlying t = some (.chan dir et) := by
  obtain ⟨d, h1, h2⟩ := hT.und h
  cases d <;> simp [U.of] at h2
  exact ⟨_, by rw [h1, h2]⟩
theorem und_i64 (hT : TabOk T) {t : Nat} {a1 a2 : Nat} {a3 : List Value} {a4 : List Sh} (h : T.ti t = some ⟨.int .i64, a1, a2, a3, a4⟩) : T.P.underlying t = some (.int .i64) := by
  obtain ⟨d, h1, h2⟩ := hT.und h
  rw [h1, of_int h2]
theorem makeMap_ok (hm : MRel W0 θ m.t w) {t : Nat} (h : xraw T e m (.makeMap t none) = some (v, m1)) (hk : Next W0 θ m1 v k) : ∃ p', resolve T ρ ty (.makeMap t none) = some p' ∧ (∀ v, p'.again v = none) ∧ p'.f T.P k w := by
  refine ⟨_, rfl, fun _ => rfl, ?_⟩
  simp only [xraw] at h
  obtain ⟨hi, h⟩ := new_ok h
  cases h
  refine ⟨(some w.heap.size, ()), w.alloc (.map #[] 0), run_makeMap t w, ?_⟩
  exact hk _ _ _ (Th.add_le (hm.fresh hi)) (R0.to3 ⟨w.heap.size, 0, none, Th.add_same, rfl⟩) (hm.alloc hi nofun ⟨w.heap.size, 0, none, #[], 0, Th.add_same, (MapKept.heap_alloc w _).1, trivial⟩)
theorem makeChan_ok (hT : TabOk T) (hE : ERel θ e ρ) (hm : MRel W0 θ m.t w) {t : Nat} {x : Operand} (hf : flatO x = true) (h : xraw T e m (.makeChan t x) = some (v, m1)) (hk : Next W0 θ m1 v k) :
    ∃ p', resolve T ρ ty (.makeChan t x) = some p' ∧ (∀ v, p'.again v = none) ∧ p'.f T.P k w := by
  simp only [xraw] at h
  simp only [resolve]
  cases h0 : T.ti t with
  | none => rw [h0] at h; cases h
  | some i0 =>
    obtain ⟨U0, a1, a2, a3, a4⟩ := i0
    rw [h0] at h
    cases U0 <;> (try (cases h; done))
    rename_i el
    cases hx : ev e x with
    | none => rw [hx] at h; cases h
    | some vx =>
      rw [hx] at h
      obtain ⟨u, h1, h2⟩ := ev_R hE hf hx
      cases vx <;> (try (cases h; done))
      cases h2
      rename_i kk n
      cases kk <;> (try (cases h; done))
      rw [h1]
      refine ⟨_, rfl, fun _ => rfl, ?_⟩
      simp only [bytesT] at h
      cases he : T.ti el with
      | none => rw [he] at h; cases h
      | some i =>
        rw [he] at h
        simp only at h
        cases hc : (decide (0 ≤ n) && decide (n ≤ 1000) && Nat.ble i.bytes 1000) with
        | false => rw [hc] at h; cases h
        | true =>
          rw [hc] at h
          simp only [cond_true] at h
          simp only [Bool.and_eq_true, decide_eq_true_eq] at hc
          obtain ⟨hi, h⟩ := new_ok h
          cases h
          obtain ⟨dir, hd⟩ := und_ch hT h0
          obtain ⟨info, d, g1, g2, g3, g4, g5, _⟩ := hT.ti el i he
          have hb := Nat.le_of_ble_eq_true hc.2
          have hrun := Conc.run_makeChan (P := T.P) (w := w) hd g1 .i64 n.toNat (by omega) (by
            rw [g5]
            have : (i.bytes : Int) * (n.toNat : Int) ≤ 1000 * 1000 := Int.mul_le_mul (by omega) (by omega) (by omega) (by omega)
            omega)
          rw [show ((n.toNat : Nat) : Int) = n from by omega] at hrun
          refine ⟨(some w.heap.size, ()), _, hrun, ?_⟩
          exact hk _ _ _ (Th.add_le (hm.fresh hi)) (R0.to3 ⟨w.heap.size, 0, none, Th.add_same, rfl⟩) (hm.alloc hi nofun ⟨w.heap.size, 0, none, 0, 0, Th.add_same, (MapKept.heap_alloc w _).1, rfl⟩)
theorem lenCh_ok (hT : TabOk T) (hm : MRel W0 θ m.t w) {t r : Nat} {r' : Option Nat} {et a1 a2 : Nat} {a3 : List Value} {a4 : List Sh} {c : Nat} {buf : List Value} (h0 : T.ti t = some ⟨.ch et, a1, a2, a3, a4⟩) (hr : R0 θ (.chan (some r)) (.chan r')) (hg : m.t.get r = some (.ch c buf))
    (hk : Next W0 θ m (.int .i64 buf.length) k) : (Prim.raw (Builtin.len_ #[t] 0 #[.chan r']) false [.i .i64]).f T.P k w := by
  obtain ⟨b, o, g, h1, h2⟩ := hr
  cases h2
  obtain ⟨b', o', g', s, n, e1, e2, e3⟩ := hm.obj r _ hg
  rw [h1] at e1
  cases e1
  obtain ⟨dir, hd⟩ := und_ch hT h0
  refine ⟨((buf.length : Int), ()), w, ?_, hk θ _ w (Th.le.refl θ) rfl hm⟩
  have hgo : (getObj b).run T.P w = .ok (.chan c buf.toArray false s n false) w := by simp [getObj, Sem.run, e2]
  simp [Builtin.len_, run_underlying hd, hgo, goInt, vals, Sh.mk]
theorem raw_one {P : Program} {M : Sem Value} {ok found : Bool} {l : List Sh} {val : Value} (hs : shOk l [val] = true) (hrun : M.run P w = .ok (bif ok then .tuple #[val, .bool found] else val) w)
    (hk : k (bif ok then .tuple #[val, .bool found] else val) w) : (Prim.raw M ok (l ++ (bif ok then [.bo] else []))).f P k w := by
  cases ok with
  | true =>
    have hs' : shOk (l ++ [.bo]) [val, .bool found] = true := shOk_app (us := [.bool found]) hs rfl
    obtain ⟨x, hx⟩ := shOk_un hs'
    have hv := unL_vals _ _ x (shOk_len hs') hx
    refine ⟨x, w, ?_, ?_⟩
    · simp only [cond_true] at hrun ⊢; rw [hrun, hv]
    · simp only [cond_true]; rw [ap_lam]; show k (.tuple (vals _ x).toArray) w; rw [hv]; exact hk
  | false =>
    simp only [cond_false, List.append_nil] at *
    obtain ⟨x, hx⟩ := shOk_un hs
    have hv := unL_vals _ _ x (shOk_len hs) hx
    refine ⟨x, w, ?_, ?_⟩
    · simp only [cond_false]; rw [hrun, hv]; rfl
    · rw [ap_lam]; simp only [cond_false]; rw [hv]; exact hk
theorem lookup_ok (hT : TabOk T) (hz : TabFlat T) (hE : ERel θ e ρ) (hm : MRel W0 θ m.t w) {t : Nat} {x i : Operand} {ok : Bool} (hf : flatO x = true) (hf2 : flatO i = true) (h : xraw T e m (.lookup t x i ok) = some (v, m1)) (hk : Next W0 θ m1 v k) :
    ∃ p', resolve T ρ ty (.lookup t x i ok) = some p' ∧ (∀ v, p'.again v = none) ∧ p'.f T.P k w := by
  simp only [xraw] at h
  simp only [resolve]
  cases h0 : T.ti t with
  | none => rw [h0] at h; cases h
  | some i0 =>
    obtain ⟨U0, a1, a2, a3, a4⟩ := i0
    rw [h0] at h
    cases U0 <;> (try (cases h; done))
    rename_i kt et
    cases hx : ev e x with
    | none => rw [hx] at h; cases h
    | some vx =>
      rw [hx] at h
      obtain ⟨u, h1, h2⟩ := ev_R hE hf hx
      cases vx <;> (try (cases h; done))
      rename_i r
      cases r with
      | none => cases h
      | some r =>
        obtain ⟨b, o, g, h3, rfl⟩ := h2
        cases hy : ev e i with
        | none => rw [hy] at h; cases h
        | some z =>
          rw [hy] at h
          obtain ⟨z', h5, h6⟩ := ev_R hE hf2 hy
          cases z <;> (try (cases h; done))
          cases h6
          rename_i kk key
          cases kk <;> (try (cases h; done))
          rw [h1, h5]
          simp only at h ⊢
          cases hkt : T.ti kt with
          | none => rw [hkt] at h; cases h
          | some ik =>
            obtain ⟨U1, b1, b2, b3, b4⟩ := ik
            rw [hkt] at h
            cases het : T.ti et with
            | none => rw [het] at h; cases U1 <;> first | (cases h; done) | (rename_i kk; cases kk <;> cases h)
            | some j =>
              rw [het] at h
              cases U1 <;> (try (cases h; done))
              rename_i kk
              cases kk <;> (try (cases h; done))
              cases hg : m.t.get r with
              | none => rw [hg] at h; cases h
              | some ob =>
                rw [hg] at h
                cases ob <;> (try (cases h; done))
                rename_i es
                simp only at h ⊢
                refine ⟨_, rfl, fun _ => rfl, ?_⟩
                obtain ⟨b', o', g', ents, clock, e1, e2, e3⟩ := hm.obj r _ hg
                rw [h3] at e1
                cases e1
                have hmp := und_mp hT h0
                have hki := und_i64 hT hkt
                have hgo := MapKept.run_getObj_map (P := T.P) e2
                have hck := MapKept.run_checkKey (P := T.P) (w := w) hki (show MapKept.IsKey (.int .i64) (.int .i64 key) from rfl) ents.isEmpty 9999
                rcases find_R 0 e3 with ⟨q1, q2⟩ | ⟨v', jj, en, q1, q2, q3⟩
                · rw [q1] at h
                  simp only at h
                  have hfk := MapKept.run_findKey (P := T.P) (w := w) hki q2
                  cases hzr : j.zero with
                  | nil => rw [hzr] at h; cases h
                  | cons z zs =>
                    cases zs with
                    | cons _ _ => rw [hzr] at h; cases h
                    | nil =>
                      rw [hzr] at h
                      simp only at h
                      cases hb : (j.und.agg || !shOk j.lvs [z]) with
                      | true => rw [hb] at h; cases h
                      | false =>
                        rw [hb] at h
                        cases h
                        simp only [Bool.or_eq_false_iff, Bool.not_eq_false'] at hb
                        obtain ⟨info, d, g1, g2, g3, g4, g5, zz, g6, g7⟩ := hT.ti et j het
                        have hnz := hT.nz et j info zz het g1 g6 hb.1
                        have hzz : zz = z := by
                          rw [hnz, hzr] at g7
                          simpa using g7
                        subst hzz
                        have hzv : (zeroValue et).run T.P w = .ok zz w := by simp [zeroValue, typeInfo, g1, g6]
                        have hflat : flatV zz = true := by have := hz et j het; rw [hzr] at this; simpa [flatVs] using this
                        refine raw_one (found := false) hb.2 ?_ (hk θ _ w (Th.le.refl θ) ?_ hm)
                        · simp only [Instr.lookup, Sem.run_bind, run_underlying hmp, Result.andThen_ok, hgo, Sem.run_pure, hck, hfk, hzv]
                          cases ok <;> rfl
                        · cases ok with
                          | true => exact ⟨_, rfl, (flat_R0 hflat).to2, rfl, trivial⟩
                          | false => exact (flat_R0 hflat).to3
                · rw [q1] at h
                  simp only at h
                  have hfk := MapKept.run_findKey (P := T.P) (w := w) hki q2
                  cases hb : shOk j.lvs [v'] with
                  | false => rw [hb] at h; cases h
                  | true =>
                    rw [hb] at h
                    cases h
                    refine raw_one (found := true) (All2.shape (θ := θ) (vs := [v']) (us := [en]) ⟨q3, trivial⟩ hb) ?_ (hk θ _ w (Th.le.refl θ) ?_ hm)
                    · simp only [Instr.lookup, Sem.run_bind, run_underlying hmp, Result.andThen_ok, hgo, Sem.run_pure, hck, hfk]
                      cases ok <;> rfl
                    · cases ok with
                      | true => exact ⟨_, rfl, q3.to2, rfl, trivial⟩
                      | false => exact q3.to3
theorem MapR.snoc {key : Int} {v u : Value} {c : Nat} (h : R1 θ v u) : ∀ {es : List (Int × Value)} {ents : List MapEntry}, MapR θ es ents → MapR θ (es ++ [(key, v)]) (ents ++ [{ key := .int .i64 key, val := u, born := c }])
  | [], [], _ => ⟨rfl, h, trivial⟩
  | (_, _) :: _, _ :: _, h2 => ⟨h2.1, h2.2.1, MapR.snoc h h2.2.2⟩
theorem mapUpdate_ok (hT : TabOk T) (hE : ERel θ e ρ) (hm : MRel W0 θ m.t w) {t : Nat} {x y z : Operand} (hf : flatO x = true) (hf2 : flatO y = true) (hf3 : flatO z = true) (h : xraw T e m (.mapUpdate t x y z) = some (v, m1)) (hk : Next W0 θ m1 v k) :
    ∃ p', resolve T ρ ty (.mapUpdate t x y z) = some p' ∧ (∀ v, p'.again v = none) ∧ p'.f T.P k w := by
  simp only [xraw] at h
  simp only [resolve]
  cases h0 : T.ti t with
  | none => rw [h0] at h; cases h
  | some i0 =>
    obtain ⟨U0, a1, a2, a3, a4⟩ := i0
    rw [h0] at h
    cases U0 <;> (try (cases h; done))
    rename_i kt et
    cases hx : ev e x with
    | none => rw [hx] at h; cases h
    | some vx =>
      rw [hx] at h
      obtain ⟨u, h1, h2⟩ := ev_R hE hf hx
      cases vx <;> (try (cases h; done))
      rename_i r
      cases r with
      | none => cases h
      | some r =>
        obtain ⟨b, o, g, h3, rfl⟩ := h2
        cases hy : ev e y with
        | none => rw [hy] at h; cases h
        | some vy =>
          rw [hy] at h
          obtain ⟨z', h5, h6⟩ := ev_R hE hf2 hy
          cases vy <;> (try (cases h; done))
          cases h6
          rename_i kk key
          cases kk <;> (try (cases h; done))
          cases hzz : ev e z with
          | none => rw [hzz] at h; cases h
          | some vz =>
            rw [hzz] at h
            obtain ⟨uz, h7, h8⟩ := ev_R hE hf3 hzz
            rw [h1, h5, h7]
            refine ⟨_, rfl, fun _ => rfl, ?_⟩
            simp only at h
            cases hkt : T.ti kt with
            | none => rw [hkt] at h; cases h
            | some ik =>
              obtain ⟨U1, b1, b2, b3, b4⟩ := ik
              rw [hkt] at h
              cases U1 <;> (try (cases h; done))
              rename_i kk
              cases kk <;> (try (cases h; done))
              cases hg : m.t.get r with
              | none => rw [hg] at h; cases h
              | some ob =>
                rw [hg] at h
                cases ob <;> (try (cases h; done))
                rename_i es
                simp only at h
                obtain ⟨b', o', g', ents, clock, e1, e2, e3⟩ := hm.obj r _ hg
                rw [h3] at e1
                cases e1
                have hmp := und_mp hT h0
                have hki := und_i64 hT hkt
                have hgo := MapKept.run_getObj_map (P := T.P) e2
                have hck := MapKept.run_checkKey (P := T.P) (w := w) hki (show MapKept.IsKey (.int .i64) (.int .i64 key) from rfl) false 9999
                rcases find_R 0 e3 with ⟨q1, q2⟩ | ⟨v', jj, en, q1, q2, q3⟩
                · rw [q1] at h
                  simp only at h
                  cases ho : vz.oneCell' with
                  | false => rw [ho] at h; cases h
                  | true =>
                    rw [ho] at h
                    cases h
                    have hfk := MapKept.run_findKey (P := T.P) (w := w) hki q2
                    have hso := MapKept.run_setObj_map (P := T.P) (.map (ents.push { key := .int .i64 key, val := uz, born := clock }) (clock + 1)) e2
                    refine ⟨_, ?_, hk θ undef _ (Th.le.refl θ) undef_R (hm.upd hg (by simp) h3 (upd_obj (ob := .map (ents.push { key := .int .i64 key, val := uz, born := clock }) (clock + 1)) nofun) ⟨b, o, g, ents.push { key := .int .i64 key, val := uz, born := clock }, clock + 1, h3, ?_, ?_⟩)⟩
                    · simp only [Instr.mapUpdate, Sem.run_bind, run_underlying hmp, Result.andThen_ok, hgo, hck, hfk, hso]
                    · exact (MapKept.heap_set e2).1
                    · rw [Array.toList_push]; exact e3.snoc (h8.one ho)
                · rw [q1] at h; cases h
theorem run_mark {P : Program} {b q : Nat} {c : Array Value} {el lo hi : Nat} (hb : w.heap[b]? = some (.cells c el (lo, hi))) : (markStringish (A b q)).run P w = .ok () (w.freeze (A b c.size) 1) := by
  have hsh : w.shape? b = some (el, c.size) := by simp [World.shape?, hb]
  simp [markStringish, hsh]
theorem mark_ok {P : Program} {i b o q : Nat} {g : Option (Nat × Nat)} {g' : Option Nat} {vs : List Value} (hm : MRel W0 θ m.t w) (hθ : θ i = some (b, o, g)) (hg : m.t.get i = some (.row g' vs)) (hne : ∃ j, (w.cell? (A b j)).isSome = true) :
    ∃ w', (markStringish (A b q)).run P w = .ok () w' ∧ MRel W0 θ (m.t.set i (.row g' vs)) w' := by
  obtain ⟨j0, hj0⟩ := hne
  cases hb : w.heap[b]? with
  | none => simp [World.cell?, hb] at hj0
  | some ob =>
    cases ob with
    | cells c el fr =>
      obtain ⟨lo, hi⟩ := fr
      refine ⟨_, run_mark hb, ?_⟩
      have hfz := hm.fz i b o g hθ c el lo hi hb
      have hnew : ∃ hi', (w.freeze (A b c.size) 1).heap[b]? = some (.cells c el (c.size, hi')) := by
        unfold World.freeze
        rw [if_neg (by decide)]
        simp only [Array.getElem?_modify, if_true, hb, Option.map_some]
        rcases hfz with h | h
        · subst h; exact ⟨c.size + 1, by simp⟩
        · by_cases h2 : lo = hi
          · subst h2; exact ⟨c.size + 1, by simp⟩
          · refine ⟨max hi (c.size + 1), ?_⟩
            have : (lo == hi) = false := by simpa using h2
            rw [this]
            simp [Nat.min_eq_right h]
      obtain ⟨hi', hnew⟩ := hnew
      have hcell : ∀ j, (w.freeze (A b c.size) 1).cell? (A b j) = w.cell? (A b j) := fun j => by simp only [World.cell?, hnew, hb]
      have hfro : ∀ j, (w.cell? (A b j)).isSome = true → (w.freeze (A b c.size) 1).frozen? (A b j) = false := fun j hj => by
        simp only [World.cell?, hb] at hj
        have hj' : (c[j]?).isSome = true := by simpa using hj
        have : j < c.size := by
          rcases Nat.lt_or_ge j c.size with h | h
          · exact h
          · rw [Array.getElem?_eq_none h] at hj'; cases hj'
        simp only [World.frozen?, hnew]
        simp
        omega
      have hu : Upd b w (w.freeze (A b c.size) 1) := by
        refine ⟨?_, ?_, ?_, ?_, fun k hk => ?_, fun _ c1 e1 lo1 hi1 hc1 => ?_⟩
        · unfold World.freeze; rw [if_neg (by decide)]
        · unfold World.freeze; rw [if_neg (by decide)]
        · unfold World.freeze; rw [if_neg (by decide)]
        · unfold World.freeze; rw [if_neg (by decide)]; simp
        · unfold World.freeze; rw [if_neg (by decide)]; simp only [Array.getElem?_modify]; rw [if_neg (Ne.symm hk)]
        · rw [hnew] at hc1; cases hc1; exact .inr (Nat.le_refl _)
      refine hm.upd hg (by simp) hθ hu ?_
      obtain ⟨b2, q2, G2, ys, N, f1, f2, f3, f4, f5, f6⟩ := row_of (hm.obj i _ hg)
      rw [hθ] at f1
      cases f1
      refine of_row hθ f2 (fun j v hj => by rw [hcell]; exact f3 j v hj) f4 (fun j hj => ⟨by rw [hcell]; exact (f5 j hj).1, hfro _ (f5 j hj).1⟩) (by cases g' <;> exact f6)
    | _ => simp [World.cell?, hb] at hj0
/-- What stands apart. -/
theorem xraw_ok (hT : TabOk T) (hz : TabFlat T) (hE : ERel θ e ρ) (hm : MRel W0 θ m.t w) {op : Op} (hf : flatOs op.operands.toList = true) (h : xraw T e m op = some (v, m1)) (hk : Next W0 θ m1 v k) :
    ∃ p', resolve T ρ ty op = some p' ∧ (∀ v, p'.again v = none) ∧ p'.f T.P k w := by
  have hfl := flat_all hf
  cases op with
  | makeMap t x =>
    cases x with
    | none => exact makeMap_ok hm h hk
    | some _ => cases h
  | makeChan t x => exact makeChan_ok hT hE hm (hfl x (by simp [Op.operands])) h hk
  | lookup t x i ok => exact lookup_ok hT hz hE hm (hfl x (by simp [Op.operands])) (hfl i (by simp [Op.operands])) h hk
  | mapUpdate t x y z => exact mapUpdate_ok hT hE hm (hfl x (by simp [Op.operands])) (hfl y (by simp [Op.operands])) (hfl z (by simp [Op.operands])) h hk
  | convert s d x =>
    simp only [xraw] at h
    simp only [resolve]
    cases hsd : Nat.beq s d with
    | false => rw [hsd] at h; cases h
    | true =>
      rw [hsd] at h
      simp only [cond_true] at h
      have := Nat.eq_of_beq_eq_true hsd
      subst this
      cases h0 : T.ti s with
      | none => rw [h0] at h; cases h
      | some i0 =>
        obtain ⟨U0, a1, a2, a3, a4⟩ := i0
        rw [h0] at h
        cases U0 <;> (try (cases h; done))
        rename_i el
        cases hx : ev e x with
        | none => rw [hx] at h; cases h
        | some vx =>
          rw [hx] at h
          obtain ⟨u, h1, h2⟩ := ev_R hE (hfl x (by simp [Op.operands])) hx
          cases vx <;> (try (cases h; done))
          rename_i a l c
          cases a with
          | none => cases h
          | some a =>
            obtain ⟨b, o, sp⟩ := a
            cases sp with
            | some _ => cases h
            | none =>
              obtain ⟨q', c', rfl, h3⟩ := sl_R h2
              simp only at h
              cases he : T.ti el with
              | none => rw [he] at h; cases h
              | some j =>
                obtain ⟨U1, b1, b2, b3, b4⟩ := j
                rw [he] at h
                cases U1 <;> (try (cases h; done))
                rename_i kk
                cases kk <;> (try (cases h; done))
                cases hg : m.t.get b with
                | none => rw [hg] at h; cases h
                | some ob =>
                  rw [hg] at h
                  cases ob <;> (try (cases h; done))
                  rename_i g vs
                  cases vs with
                  | nil => cases h
                  | cons y vs =>
                    cases h
                    rw [h1]
                    refine ⟨_, rfl, fun _ => rfl, ?_⟩
                    obtain ⟨b2', o2, g2, e1, e2⟩ := sl_AdS h3 b o rfl
                    subst e2
                    obtain ⟨b3', q3, G3, ys, N, f1, f2, f3, f4, f5, f6⟩ := row_of (hm.obj b _ hg)
                    rw [e1] at f1
                    cases f1
                    have hex : ∃ j, (w.cell? (A b2' j)).isSome = true := by
                      have : 0 < N := by have := f2.len; simp at this; omega
                      exact ⟨_, (f5 0 this).1⟩
                    obtain ⟨w', hr, hm'⟩ := mark_ok (P := T.P) (q := o2 + o) hm e1 hg hex
                    obtain ⟨d, hd1, hd2⟩ := hT.und h0
                    have hd := of_sl hd2
                    subst hd
                    obtain ⟨d3, he1, he2⟩ := hT.und he
                    have hd3 := of_int he2
                    subst hd3
                    refine ⟨(⟨some (A b2' (o2 + o)), l, c'⟩, ()), w', ?_, hk θ _ w' (Th.le.refl θ) h2 hm'⟩
                    simp [convert, run_underlying hd1, run_underlying he1, hr, vals, Sh.mk]
  | call c =>
    obtain ⟨cal, args, ats⟩ := c
    simp only [xraw] at h
    simp only [resolve]
    split at h <;> (try (cases h; done))
    rename_i t r hats hargs
    obtain ⟨us, h1, h2⟩ := evs_R hE (fun x hx => hfl x (by simp [Op.operands, Call.operands]; simpa using hx)) hargs
    rw [h1]
    obtain ⟨u, rfl, h3⟩ := one_arg h2
    have hr : ∃ r', u = .chan r' ∧ R0 θ (.chan (some r)) (.chan r') := by
      obtain ⟨b, o, g, h4, rfl⟩ := h3
      exact ⟨some b, rfl, b, o, g, h4, rfl⟩
    obtain ⟨r', rfl, hr⟩ := hr
    cases h0 : T.ti t with
    | none => rw [h0] at h; cases h
    | some i0 =>
      obtain ⟨U0, a1, a2, a3, a4⟩ := i0
      rw [h0] at h
      cases U0 <;> (try (cases h; done))
      cases hg : m.t.get r with
      | none => rw [hg] at h; cases h
      | some ob =>
        rw [hg] at h
        cases ob <;> (try (cases h; done))
        cases h
        simp only [hats, builtinR, h0]
        exact ⟨_, rfl, fun _ => rfl, lenCh_ok hT hm h0 hr hg hk⟩
  | _ => cases h
end Go.Eng
namespace Go.Eng
open Go RowKit
variable {θ : Th} {v u : Value} {e : E} {ρ : Env} {T : Tab} {p p' : Prim} {n : Nat} {w W0 : World} {m m1 : Mem} {o : Oper} {ops : List Oper} {i : Nat} {C : CallX} {q : Bool}

/-- What a table of calls is to satisfy. -/
structure Fit (T : Tab) (W0 : World) (C : CallX) : Prop where
  ok : CallOk T.P W0 C
  cl : ∀ f args m r, C f args m = some r → callable T.P f
/-- Of what is read again. -/
def AgOk (T : Tab) (θ : Th) (e : Env) (o : Oper) (v' : Value) (ag : Option F) : Prop :=
  ∀ f, ag = some f → ∃ pX p', resolve T e o.type o.op = some pX ∧ PR θ pX p' ∧ agX pX = true ∧ p'.again v' = some f
theorem splitB_of {k : Value → F} {v : Value} (h : k v w) : splitB k v w := by
  cases v with
  | bool c => cases c <;> exact h
  | _ => exact h
theorem again_agX {r : Value × Mem} (hx : xprim C p m = some r) (hp : PR θ p p') {v : Value} {f : F} (h : p'.again v = some f) : agX p = true := by
  cases p with
  | rd g l b o => rfl
  | bstr s => rfl
  | val x => obtain ⟨u, rfl, _⟩ := hp; cases h
  | chk c x => obtain ⟨c', u, rfl, _⟩ := hp; cases h
  | pick c x y => obtain ⟨_, _, rfl, _⟩ := hp; cases h
  | nn a => obtain ⟨_, rfl, _⟩ := hp; cases h
  | ix a len i size => obtain ⟨_, rfl, _⟩ := hp; cases h
  | sts b o vs => obtain ⟨_, _, _, _, rfl, _⟩ := hp; cases h
  | nw cells ty => obtain ⟨_, rfl, _⟩ := hp; cases h
  | nws cells ty n => obtain ⟨_, rfl, _⟩ := hp; cases h
  | mks size bytes ty zero n c => obtain ⟨rfl, _⟩ := hp; cases h
  | sbts ty x => cases hp; cases h
  | apd size bytes ty zero s src => obtain ⟨_, _, rfl, _⟩ := hp; cases h
  | cpy size d src => obtain ⟨_, _, rfl, _⟩ := hp; cases h
  | call f args rs => obtain ⟨_, rfl, _⟩ := hp; cases h
  | callv fv args rs => obtain ⟨_, _, rfl, _⟩ := hp; cases h
  | selR r => obtain ⟨_, rfl, _⟩ := hp; cases h
  | selS r x => obtain ⟨_, _, rfl, _⟩ := hp; cases h
  | raw _ _ _ => cases hx
  | rawu _ => cases hx
  | next _ _ => cases hx
  | apz _ _ _ _ _ _ => cases hx
theorem okSplit {a b : Bool} (h : (a && b) = true) : a = true ∧ b = true := by simpa using h
theorem goF_of {e' : Env} {K : Value → Option F → F} (hr : resolve T e' o.type o.op = some p') (hd : okDst n o.dst = true) (hq : (q && p'.eff) = false) (h : p'.f T.P (fun v => K v (p'.again v)) w) : goF T n ops i o e' q K w := by
  unfold goF
  rw [hr]
  simp only [hd, hq, Bool.not_false, Bool.and_self, cond_true]
  cases hg : guarded ops i with
  | false => exact h
  | true => exact Prim.mono (k := fun v => K v (p'.again v)) (fun v w hv => splitB_of (k := fun v => K v (p'.again v)) hv) h
theorem PR_eff {r : Value × Mem} (hx : xprim C p m = some r) (hp : PR θ p p') : p'.eff = p.eff := by
  cases p with
  | rd g l b o => obtain ⟨_, _, _, rfl, _⟩ := hp; rfl
  | bstr s => obtain ⟨_, rfl, _⟩ := hp; rfl
  | val x => obtain ⟨u, rfl, _⟩ := hp; rfl
  | chk c x => obtain ⟨c', u, rfl, _⟩ := hp; rfl
  | pick c x y => obtain ⟨_, _, rfl, _⟩ := hp; rfl
  | nn a => obtain ⟨_, rfl, _⟩ := hp; rfl
  | ix a len i size => obtain ⟨_, rfl, _⟩ := hp; rfl
  | sts b o vs => obtain ⟨_, _, _, _, rfl, _⟩ := hp; rfl
  | nw cells ty => obtain ⟨_, rfl, _⟩ := hp; rfl
  | nws cells ty n => obtain ⟨_, rfl, _⟩ := hp; rfl
  | mks size bytes ty zero n c => obtain ⟨rfl, _⟩ := hp; rfl
  | sbts ty x => cases hp; rfl
  | apd size bytes ty zero s src => obtain ⟨_, _, rfl, _⟩ := hp; rfl
  | cpy size d src => obtain ⟨_, _, rfl, _⟩ := hp; rfl
  | call f args rs => obtain ⟨_, rfl, _⟩ := hp; rfl
  | callv fv args rs => obtain ⟨_, _, rfl, _⟩ := hp; rfl
  | selR r => obtain ⟨_, rfl, _⟩ := hp; rfl
  | selS r x => obtain ⟨_, _, rfl, _⟩ := hp; rfl
  | raw _ _ _ => cases hx
  | rawu _ => cases hx
  | next _ _ => cases hx
  | apz _ _ _ _ _ _ => cases hx
/-- What the raw ones read is not read again. -/
theorem raw_again {v : Value} {f : F} (hp : p.again v = some f) : agX p = true := by
  cases p <;> first | rfl | cases hp
def NextA (W0 : World) (T : Tab) (θ : Th) (e : Env) (o : Oper) (m1 : Mem) (v : Value) (K : Value → Option F → F) : Prop :=
  ∀ θ1 v' ag w1, Th.le θ θ1 → R3 θ1 v v' → MRel W0 θ1 m1.t w1 → AgOk T θ e o v' ag → K v' ag w1
theorem xgo_main (_ : TabOk T) (hz : TabFlat T) (hC : Fit T W0 C) {e' : Env} (hE : ERel θ e' ρ) (hm : MRel W0 θ m.t w) {K : Value → Option F → F} (hd : okDst n o.dst = true) (hf : flatOs o.op.operands.toList = true)
    (hr : isRaw T e' o.op = false) (hdu : isDull o.op = false) (hs : ∀ t x lo hi mx, o.op = .slice t x lo hi mx → ∀ q l c, ev e' x ≠ some (.slice q l c))
    (h : (bif chkOk e' o.op then (match resolve T e' o.type o.op with
      | some p => bif q && p.eff then none else xprim C p m
      | none => none) else none) = some (v, m1)) (hk : NextA W0 T θ e' o m1 v K) : goF T n ops i o ρ q K w := by
  cases hc : chkOk e' o.op with
  | false => rw [hc] at h; cases h
  | true =>
    rw [hc] at h
    simp only [cond_true] at h
    cases hp : resolve T e' o.type o.op with
    | none => rw [hp] at h; cases h
    | some p =>
      rw [hp] at h
      simp only at h
      cases hq : (q && p.eff) with
      | true => rw [hq] at h; cases h
      | false =>
        rw [hq] at h
        simp only [cond_false] at h
        obtain ⟨p', h1, h2⟩ := resolve_ok hE hz hf hc hr hdu hs hp
        refine goF_of h1 hd (by rw [PR_eff h h2]; exact hq) ?_
        refine xprim_ok hC.ok hC.cl hm h2 h (fun θ1 v' w1 g1 g2 g3 => hk θ1 v' _ w1 g1 g2 g3 ?_)
        intro f hf'
        exact ⟨p, p', hp, h2, again_agX h h2 hf', hf'⟩
theorem xgo_ok (hT : TabOk T) (hz : TabFlat T) (hC : Fit T W0 C) {e' : Env} (hE : ERel θ e' ρ) (hm : MRel W0 θ m.t w) {K : Value → Option F → F} (h : xgo T n C o e' q m = some (v, m1)) (hk : NextA W0 T θ e' o m1 v K) :
    goF T n ops i o ρ q K w := by
  unfold xgo at h
  cases h0 : (okDst n o.dst && flatOs o.op.operands.toList) with
  | false => rw [h0] at h; cases h
  | true =>
    rw [h0] at h
    simp only [cond_true] at h
    obtain ⟨hd, hf⟩ := okSplit h0
    split at h
    · rename_i t x lo hi hop
      split at h
      · rename_i q' l c hx
        rw [hop] at hf
        obtain ⟨rfl, p', u, h1, h2, h3, h4⟩ := xslice_ok (ty := o.type) hE hm hf h
        refine goF_of (p' := p') (by rw [hop]; exact h1) hd (by simp [h2.1]) (h4 T.P _ w ?_)
        refine hk θ u _ w (Th.le.refl θ) h3 hm ?_
        intro f hf'
        rw [h2.2] at hf'
        cases hf'
      · rename_i hns
        refine xgo_main hT hz hC hE hm hd hf (by rw [hop]; rfl) (by rw [hop]; rfl) (fun t' x' lo' hi' mx' he q' l' c' hx' => ?_) h hk
        rw [hop] at he
        cases he
        exact hns _ _ _ hx'
    · rename_i hns
      cases hr : isRaw T e' o.op with
      | true =>
        rw [hr] at h
        simp only [cond_true] at h
        cases q with
        | true => cases h
        | false =>
          simp only [cond_false] at h
          obtain ⟨p', h1, _, _⟩ := xraw_ok (ty := o.type) (k := fun _ _ => True) hT hz hE hm hf h (fun _ _ _ _ _ _ => trivial)
          refine goF_of h1 hd rfl ?_
          obtain ⟨p2, h2, h3, h4⟩ := xraw_ok (ty := o.type) (k := fun v => K v (p'.again v)) hT hz hE hm hf h (fun θ1 v' w1 g1 g2 g3 => hk θ1 v' _ w1 g1 g2 g3 (fun f hf' => by
            obtain ⟨p3, h5, h6, _⟩ := xraw_ok (ty := o.type) (k := fun _ _ => True) hT hz hE hm hf h (fun _ _ _ _ _ _ => trivial)
            rw [h1] at h5
            cases h5
            rw [h6] at hf'
            cases hf'))
          rw [h1] at h2
          cases h2
          exact h4
      | false =>
        rw [hr] at h
        simp only [cond_false] at h
        cases hdu : isDull o.op with
        | true => rw [hdu] at h; cases h
        | false =>
          rw [hdu] at h
          simp only [cond_false] at h
          refine xgo_main hT hz hC hE hm hd hf hr hdu (fun t' x' lo' hi' mx' he q' l' c' hx' => ?_) h hk
          cases mx' with
          | none => exact hns _ _ _ _ he
          | some _ =>
            rw [he] at h
            cases hc : chkOk e' (Op.slice t' x' lo' hi' (some _)) <;> rw [hc] at h <;> simp [resolve] at h
end Go.Eng
namespace Go.Eng
open Go RowKit
variable {θ θ' : Th} {v u : Value} {x : E} {ρ : Env} {T : Tab} {p p' : Prim} {n : Nat} {w W0 : World} {m m1 : Mem} {o : Oper} {ops : List Oper} {C : CallX} {q : Bool}

theorem ERel.mono {e' : Env} (h : Th.le θ θ') (hE : ERel θ e' ρ) : ERel θ' e' ρ := fun t v ht => by
  obtain ⟨u, h1, h2⟩ := hE t v ht
  exact ⟨u, h1, R3.mono h h2⟩
theorem ERel.put (hE : ERel θ x.get ρ) (hv : R3 θ v u) (d : Option Nat) : ERel θ (x.putd d v).get (putd ρ d (some u)) := by
  cases d with
  | none => exact hE
  | some d =>
    intro t y hy
    simp only [E.putd] at hy
    rw [Tr.get_set] at hy
    simp only [putd, Eng.put]
    by_cases ht : t = d
    · subst ht
      rw [if_pos rfl] at hy
      cases hy
      have : Nat.beq t t = true := by simp
      rw [this]
      exact ⟨u, rfl, hv⟩
    · rw [if_neg ht] at hy
      have : Nat.beq t d = false := by cases hb : Nat.beq t d with | false => rfl | true => exact absurd (Nat.eq_of_beq_eq_true hb) ht
      rw [this]
      exact hE t y hy
theorem xop_ok (hT : TabOk T) (hz : TabFlat T) (hC : Fit T W0 C) (hE : ERel θ x.get ρ) (hm : MRel W0 θ m.t w) {i : Nat} {K : Value → Option F → F} (h : xop T n C ops o x.get q m = some (v, m1)) (hk : NextA W0 T θ x.get o m1 v K) :
    opF T n ops i o ρ q K w := by
  unfold xop at h
  unfold opF
  cases hg : o.guard with
  | none => rw [hg] at h; exact xgo_ok hT hz hC hE hm h hk
  | some jw =>
    obtain ⟨j, want⟩ := jw
    rw [hg] at h
    simp only at h ⊢
    cases hd : dstOf ops j with
    | none => rw [hd] at h; cases h
    | some d =>
      rw [hd] at h
      simp only at h ⊢
      cases hx : x.get d with
      | none => rw [hx] at h; cases h
      | some y =>
        rw [hx] at h
        obtain ⟨y', h1, h2⟩ := hE d y hx
        rw [h1]
        cases y with
        | bool c =>
          cases h2
          simp only at h ⊢
          cases hw : (c == want) with
          | true => rw [hw] at h; exact xgo_ok hT hz hC hE hm h hk
          | false =>
            rw [hw] at h
            cases h
            exact hk θ undef none w (Th.le.refl θ) undef_R hm nofun
        | tuple vs =>
          obtain ⟨ds, rfl, _⟩ := h2
          cases h
          exact hk θ undef none w (Th.le.refl θ) undef_R hm nofun
        | _ => cases h
theorem xops_ok (hT : TabOk T) (hz : TabFlat T) (hC : Fit T W0 C) {K : Env → F} {x1 : E} : ∀ (l : List Oper) (i : Nat) (θ : Th) (x : E) (ρ : Env) (m : Mem) (w : World), xops T n C ops l x m = some (x1, m1) → ERel θ x.get ρ → MRel W0 θ m.t w →
    (∀ θ1 ρ1 w1, Th.le θ θ1 → ERel θ1 x1.get ρ1 → MRel W0 θ1 m1.t w1 → K ρ1 w1) → runOps T n ops l i ρ K w
  | [], i, θ, x, ρ, m, w, h, hE, hm, hk => by cases h; exact hk θ ρ w (Th.le.refl θ) hE hm
  | o :: l, i, θ, x, ρ, m, w, h, hE, hm, hk => by
    simp only [xops] at h
    cases hx : xop T n C ops o x.get false m with
    | none => rw [hx] at h; cases h
    | some r =>
      obtain ⟨v, m2⟩ := r
      rw [hx] at h
      simp only [runOps]
      refine xop_ok hT hz hC hE hm hx (fun θ1 v' ag w1 g1 g2 g3 _ => ?_)
      exact xops_ok hT hz hC l (i + 1) θ1 _ _ m2 w1 h ((hE.mono g1).put g2 o.dst) g3 (fun θ2 ρ2 w2 a1 a2 a3 => hk θ2 ρ2 w2 (g1.trans a1) a2 a3)
/-! ### Regions that draw -/
theorem sameT_eq {α : Type} {f : α → α → Bool} (hf : ∀ x y, f x y = true → x = y) : ∀ {a b : Tr α}, sameT f a b = true → a = b
  | .lf, .lf, _ => rfl
  | .nd l v r, .nd l' v' r', h => by
    simp only [sameT, Bool.and_eq_true] at h
    have h1 := sameT_eq hf h.1.2
    have h2 := sameT_eq hf h.2
    have h3 : v = v' := by
      cases v with
      | none => cases v' with
        | none => rfl
        | some _ => cases h.1.1
      | some a => cases v' with
        | none => cases h.1.1
        | some b => rw [hf _ _ h.1.1]
    rw [h1, h2, h3]
  | .lf, .nd _ _ _, h => by cases h
  | .nd _ _ _, .lf, h => by cases h
theorem sameM_eq : ∀ {l r : List (Int × Value)}, sameM l r = true → l = r
  | [], [], _ => rfl
  | (j, x) :: l, (k, y) :: r, h => by
    simp only [sameM, Bool.and_eq_true, decide_eq_true_eq] at h
    rw [h.1.1, sameS_eq h.1.2, sameM_eq h.2]
theorem sameO_eq {a b : AO} (h : sameO a b = true) : a = b := by
  cases a with
  | row g vs =>
    cases b with
    | row g' vs' =>
      cases g <;> cases g' <;> first | cases h | skip
      · rw [sameL_eq h]
      · simp only [sameO, Bool.and_eq_true] at h
        rw [Nat.eq_of_beq_eq_true h.1, sameL_eq h.2]
    | _ => cases g <;> cases h
  | mp es => cases b <;> first | cases h | (rw [sameM_eq h])
  | ch c buf =>
    cases b <;> first | cases h | skip
    simp only [sameO, Bool.and_eq_true] at h
    rw [Nat.eq_of_beq_eq_true h.1, sameL_eq h.2]
  | dead => cases b <;> first | rfl | cases h
theorem sameV_S {x y : Value} (hx : x.oneCell' = true) (h : sameV x y = true) : sameS x y = true := by
  cases x <;> first | (cases hx; done) | (cases y <;> exact h)
theorem R3_sub {x y z : Value} (h1 : R1 θ x y) (h3 : R3 θ x z) : R1 θ x z := by
  rcases R3.alt h3 with ⟨cs, rfl⟩ | h2
  · exact False.elim h1
  · rcases R2.alt h2 with ⟨cs, rfl⟩ | h2
    · exact False.elim h1
    · exact h2
theorem R1_one {x y : Value} (h1 : R1 θ x y) : x.oneCell' = true := by cases x <;> first | rfl | exact False.elim h1
def FlR (θ : Th) (fx : Fl) (fc : List (Nat × F)) : Prop := ∀ r f, (r, f) ∈ fc → ∃ p v p' v', (r, p, v) ∈ fx ∧ PR θ p p' ∧ agX p = true ∧ R3 θ v v' ∧ p'.again v' = some f
theorem PR.mono2 (h : Th.le θ θ') (ha : agX p = true) (hp : PR θ p p') : PR θ' p p' := by
  cases p with
  | rd g l b o => obtain ⟨b', q, G, h1, h2⟩ := hp; exact ⟨b', q, G, h1, h _ _ h2⟩
  | bstr s => obtain ⟨s', h1, h2⟩ := hp; exact ⟨s', h1, R0.mono h h2⟩
  | _ => cases ha
theorem FlR.mono (h : Th.le θ θ') {fx : Fl} {fc : List (Nat × F)} (hf : FlR θ fx fc) : FlR θ' fx fc := fun r f hr => by
  obtain ⟨p, v, p', v', h1, h2, h3, h4, h5⟩ := hf r f hr
  exact ⟨p, v, p', v', h1, PR.mono2 h h3 h2, h3, R3.mono h h4, h5⟩
theorem reread1 (P : Program) (hm : MRel W0 θ m.t w) {f : F} {v' : Value} {r : Value × Mem} (hp : PR θ p p') (ha : agX p = true) (hv : R3 θ v v') (hf : p'.again v' = some f) (h : xprim (fun _ _ _ => none) p m = some r) (hs : sameV v r.1 = true) : f w := by
  cases p with
  | rd g l b o =>
    obtain ⟨b', q, G, rfl, h1⟩ := hp
    simp only [xprim] at h
    cases hc : m.cells b o l.length with
    | none => rw [hc] at h; cases h
    | some vs =>
      rw [hc] at h
      simp only at h
      cases hsh : shOk l vs with
      | false => rw [hsh] at h; cases h
      | true =>
        rw [hsh] at h
        simp only [cond_true] at h
        obtain ⟨b2, q2, G2, us, e1, e2, e3, e4⟩ := cells_ok hm hc
        rw [h1] at e1
        cases e1
        cases g with
        | true =>
          cases h
          have hve := sameV_eq hs
          subst hve
          obtain ⟨ds, rfl, hd⟩ := hv
          cases hf
          have hs' : sameL vs vs = true := by simpa [sameV, sameA] using hs
          have : ds.toList = us := sameL_fn hs' (by simpa using hd) e2
          rw [this]
          exact e3
        | false =>
          simp only [cond_false] at h
          cases vs with
          | nil => cases h
          | cons x vs =>
            cases vs with
            | cons _ _ => cases h
            | nil =>
              cases h
              have hve := sameV_eq hs
              subst hve
              cases us with
              | nil => cases e2
              | cons y us =>
                have h1 := e2.1
                have h2 := R3_sub h1 hv
                have := sameS_fn (sameV_S (R1_one h1) hs) h1 h2
                subst this
                cases hf
                have := e3 0 y rfl
                simpa using this
  | bstr s =>
    obtain ⟨s', rfl, h1⟩ := hp
    obtain ⟨r1, r2⟩ := r
    have hstr : ∃ z, r1 = .string z := by
      simp only [xprim] at h
      cases hc : m.sl s 1 with
      | none => rw [hc] at h; cases h
      | some vs =>
        rw [hc] at h
        simp only at h
        cases hb : bytesOf vs with
        | none => rw [hb] at h; cases h
        | some l => rw [hb] at h; cases h; exact ⟨_, rfl⟩
    obtain ⟨z, rfl⟩ := hstr
    have hve := sameV_eq hs
    subst hve
    cases hv
    cases hf
    have hb := (bstr_ok (P := P) (k := fun y _ => y = .string z) hm h1 h (fun θ1 y w1 g1 g2 g3 => g2)).1
    obtain ⟨y, z1, z2, z3⟩ := hb
    exact ⟨y, z1, z2, by simpa using z3⟩
  | _ => cases ha
end Go.Eng
namespace Go.Eng
open Go RowKit
variable {T : Tab} {n : Nat} {W0 : World} {m1 : Mem} {ops : List Oper} {C : CallX} {masks : List Nat} {x1 : E} {K : Env → F}

theorem mem_floating2 {k r : Nat} {f : F} : ∀ {fc : List (Nat × F)}, (r, f) ∈ floating k fc → (r, f) ∈ fc ∧ Nat.testBit k r = false
  | (r', f') :: fc, h => by
    simp only [floating] at h
    cases hb : Nat.testBit k r' with
    | true => rw [hb] at h; exact ⟨List.mem_cons_of_mem _ (mem_floating2 h).1, (mem_floating2 h).2⟩
    | false =>
      rw [hb] at h
      rcases List.mem_cons.1 h with h | h
      · cases h; exact ⟨by simp, hb⟩
      · exact ⟨List.mem_cons_of_mem _ (mem_floating2 h).1, (mem_floating2 h).2⟩
theorem mem_floatX {k r : Nat} {y : Prim × Value} (hb : Nat.testBit k r = false) : ∀ {fx : Fl}, (r, y) ∈ fx → (r, y) ∈ floatX k fx
  | (r', y') :: fx, h => by
    simp only [floatX]
    rcases List.mem_cons.1 h with h | h
    · cases h; rw [hb]; simp
    · cases Nat.testBit k r' with
      | true => exact mem_floatX hb h
      | false => exact List.mem_cons_of_mem _ (mem_floatX hb h)
theorem FlR.float {θ : Th} {fx : Fl} {fc : List (Nat × F)} {k : Nat} (h : FlR θ fx fc) : FlR θ (floatX k fx) (floating k fc) := fun r f hr => by
  obtain ⟨h1, h2⟩ := mem_floating2 hr
  obtain ⟨p, v, p', v', g1, g2⟩ := h r f h1
  exact ⟨p, v, p', v', mem_floatX h2 g1, g2⟩
theorem rereads_all {m : Mem} : ∀ {fx : Fl}, rereads m fx = true → ∀ r p v, (r, p, v) ∈ fx → ∃ u, xprim (fun _ _ _ => none) p m = some u ∧ sameV v u.1 = true
  | (r', p', v') :: fx, h, r, p, v, hm => by
    simp only [rereads, Bool.and_eq_true] at h
    rcases List.mem_cons.1 hm with hm | hm
    · cases hm
      cases hx : xprim (fun _ _ _ => none) p' m with
      | none => rw [hx] at h; cases h.1
      | some u => rw [hx] at h; exact ⟨u, rfl, h.1⟩
    · exact rereads_all h.2 r p v hm
theorem rereads_ok {θ : Th} {m : Mem} {w : World} {fx : Fl} {fc : List (Nat × F)} (hm : MRel W0 θ m.t w) (hf : FlR θ fx fc) (h : rereads m fx = true) : ∀ r f, (r, f) ∈ fc → f w := fun r f hr => by
  obtain ⟨p, v, p', v', h1, h2, h3, h4, h5⟩ := hf r f hr
  obtain ⟨u, h6, h7⟩ := rereads_all h r p v h1
  exact reread1 (default : Program) hm h2 h3 h4 h5 h6 h7
theorem rcks_of {l : List (Nat × F)} {k : F} {w : World} (h : ∀ r f, (r, f) ∈ l → f w) (hk : k w) : rcks l k w := by
  cases l with
  | nil => exact hk
  | cons a l =>
    refine ⟨fun f hf => ?_, hk⟩
    obtain ⟨⟨r, g⟩, h1, h2⟩ := List.mem_map.1 hf
    simp only at h2
    subst h2
    exact h r g h1
theorem xrunD_ok (hT : TabOk T) (hz : TabFlat T) (hC : Fit T W0 C) {base : Option Nat} : ∀ (l : List Nat) (fx : Fl) (fc : List (Nat × F)) (θ : Th) (x : E) (ρ : Env) (m : Mem) (w : World), xrunD T n C ops masks base l fx x m = some (x1, m1) → ERel θ x.get ρ → MRel W0 θ m.t w → FlR θ fx fc →
    (∀ θ1 ρ1 w1, Th.le θ θ1 → ERel θ1 x1.get ρ1 → MRel W0 θ1 m1.t w1 → K ρ1 w1) → runD T n ops masks l fc ρ K w
  | [], fx, fc, θ, x, ρ, m, w, h, hE, hm, _, hk => by cases h; exact hk θ ρ w (Th.le.refl θ) hE hm
  | i :: l, fx, fc, θ, x, ρ, m, w, h, hE, hm, hf, hk => by
    simp only [xrunD] at h
    simp only [runD]
    cases ho : ops[i]? with
    | none => rw [ho] at h; cases h
    | some o =>
      rw [ho] at h
      simp only at h ⊢
      have hm' : MRel W0 θ (rebase base i m).t w := by cases base <;> exact hm
      cases he : effOp o.op with
      | true =>
        rw [he] at h
        simp only [cond_true] at h ⊢
        cases hx : xop T n C ops o x.get false (rebase base i m) with
        | none => rw [hx] at h; cases h
        | some r =>
          obtain ⟨v, m3⟩ := r
          rw [hx] at h
          simp only at h
          cases hr : rereads m3 (floatX (masks.getD i 0) fx) with
          | false => rw [hr] at h; cases h
          | true =>
            rw [hr] at h
            simp only [cond_true] at h
            refine xop_ok hT hz hC hE hm' hx (fun θ1 v' ag w1 g1 g2 g3 _ => ?_)
            have hf1 := (hf.mono g1).float (k := masks.getD i 0)
            refine rcks_of (rereads_ok g3 hf1 hr) ?_
            exact xrunD_ok hT hz hC l _ _ θ1 _ _ m3 w1 h ((hE.mono g1).put g2 o.dst) g3 hf1 (fun θ2 ρ2 w2 a1 a2 a3 => hk θ2 ρ2 w2 (g1.trans a1) a2 a3)
      | false =>
        rw [he] at h
        simp only [cond_false] at h ⊢
        cases hx : xop T n C ops o x.get true (rebase base i m) with
        | none => rw [hx] at h; cases h
        | some r =>
          obtain ⟨v, m3⟩ := r
          rw [hx] at h
          simp only at h
          refine xop_ok hT hz hC hE hm' hx (fun θ1 v' ag w1 g1 g2 g3 g4 => ?_)
          refine xrunD_ok hT hz hC l _ _ θ1 _ _ m3 w1 h ((hE.mono g1).put g2 o.dst) g3 ?_ (fun θ2 ρ2 w2 a1 a2 a3 => hk θ2 ρ2 w2 (g1.trans a1) a2 a3)
          have hf1 := hf.mono g1
          intro r f hr
          have hmem : (∃ f', ag = some f' ∧ (r, f) = (i, f')) ∨ (r, f) ∈ fc := by
            cases ag with
            | none => exact .inr hr
            | some f' =>
              rcases List.mem_cons.1 hr with hr | hr
              · exact .inl ⟨f', rfl, hr⟩
              · exact .inr hr
          clear hr
          rcases hmem with ⟨f', rfl, heq⟩ | hr
          · cases heq
            obtain ⟨pX, p', h1, h2, h3, h4⟩ := g4 _ rfl
            refine ⟨pX, v, p', v', ?_, PR.mono2 g1 h3 h2, h3, g2, h4⟩
            rw [h1]
            simp only [h3, cond_true]
            simp
          · obtain ⟨p, y, p', y', h1, h2⟩ := hf1 r f hr
            refine ⟨p, y, p', y', ?_, h2⟩
            cases hp : resolve T x.get o.type o.op with
            | none => exact h1
            | some pX =>
              simp only
              cases agX pX with
              | true => exact List.mem_cons_of_mem _ h1
              | false => exact h1
end Go.Eng
namespace Go.Eng
open Go RowKit
variable {T : Tab} {n : Nat} {W0 : World} {C : CallX} {masks : List Nat}

theorem allOrd_of {f : List Nat → F} {w : World} : ∀ {l : List (List Nat)}, l ≠ [] → (∀ π ∈ l, f π w) → allOrd l f w
  | [], h, _ => absurd rfl h
  | [π], _, h => h π (by simp)
  | π :: y :: l, _, h => ⟨h π (by simp), allOrd_of (l := y :: l) (by simp) fun π' h' => h π' (List.mem_cons_of_mem _ h')⟩
theorem sameR_eq {a b : X E} (h : sameR a b = true) : ∃ e m m', a = some (e, m) ∧ b = some (e, m') ∧ m.t = m'.t := by
  cases a with
  | none => cases h
  | some a =>
    cases b with
    | none => obtain ⟨_, _⟩ := a; cases h
    | some b =>
      obtain ⟨e, m⟩ := a
      obtain ⟨e', m'⟩ := b
      simp only [sameR, Bool.and_eq_true] at h
      have h1 := sameT_eq (fun _ _ => sameV_eq) h.1
      have h2 := sameT_eq (fun _ _ => sameO_eq) h.2
      subst h1
      exact ⟨e, m, m', rfl, rfl, h2⟩
theorem xdraw_ok (hT : TabOk T) (hz : TabFlat T) (hC : Fit T W0 C) {ops : List Oper} {K : Env → F} {ords : List (List Nat)} {θ : Th} {x x1 : E} {ρ : Env} {m m1 : Mem} {w : World} (h : xdraw T n C ops masks ords x m = some (x1, m1)) (hE : ERel θ x.get ρ) (hm : MRel W0 θ m.t w)
    (hk : ∀ θ1 ρ1 w1, Th.le θ θ1 → ERel θ1 x1.get ρ1 → MRel W0 θ1 m1.t w1 → K ρ1 w1) : dr (allOrd ords fun π => runD T n ops masks π [] ρ K) w := by
  unfold xdraw at h
  show allOrd ords _ w.drew
  have hf : ∀ θ : Th, FlR θ ([] : Fl) [] := fun _ _ _ h => by cases h
  cases ords with
  | nil => cases h
  | cons π r =>
    cases r with
    | nil =>
      refine allOrd_of (by simp) fun π' hp => ?_
      rcases List.mem_cons.1 hp with rfl | hp
      · exact xrunD_ok hT hz hC _ _ _ θ x ρ m _ h hE hm.drew (hf θ) hk
      · cases hp
    | cons π2 r =>
      simp only at h
      cases ha : ((π2 :: r).all fun π' => sameR (xrunD T n C ops masks (some m.next) π [] x m) (xrunD T n C ops masks (some m.next) π' [] x m)) with
      | false => rw [ha] at h; cases h
      | true =>
        rw [ha] at h
        simp only [cond_true] at h
        rw [List.all_eq_true] at ha
        obtain ⟨e, ma, mb, h1, h2, h3⟩ := sameR_eq (ha π2 (by simp))
        rw [h1] at h
        cases h
        refine allOrd_of (by simp) fun π' hp => ?_
        rcases List.mem_cons.1 hp with rfl | hp
        · exact xrunD_ok hT hz hC _ _ _ θ x ρ m _ h1 hE hm.drew (hf θ) hk
        · obtain ⟨e2, mc, md, h4, h5, h6⟩ := sameR_eq (ha π' hp)
          rw [h1] at h4
          cases h4
          exact xrunD_ok hT hz hC _ _ _ θ x ρ m _ h5 hE hm.drew (hf θ) (fun θ1 ρ1 w1 a1 a2 a3 => hk θ1 ρ1 w1 a1 a2 (by simp only; rw [h6]; exact a3))
end Go.Eng
namespace Go.Eng
open Go RowKit
variable {T : Tab} {n : Nat} {W0 : World} {C : CallX} {D : Draws}

/-! ### What joins and loops carry -/
def nameIn (t : Nat) (sl : List Slot) : Prop := ∃ s ∈ sl, s.1 = t
theorem pick1_get {x : E} : ∀ {ts : List Nat} {r : E} {t : Nat} {v : Value}, (pick1 x ts r).get t = some v → (t ∈ ts ∧ x.get t = some v) ∨ r.get t = some v
  | [], r, t, v, h => .inr h
  | s :: ts, r, t, v, h => by
    simp only [pick1] at h
    cases hs : x.get s with
    | none =>
      rw [hs] at h
      rcases pick1_get h with ⟨h1, h2⟩ | h
      · exact .inl ⟨List.mem_cons_of_mem _ h1, h2⟩
      · exact .inr h
    | some y =>
      rw [hs] at h
      rcases pick1_get h with ⟨h1, h2⟩ | h
      · exact .inl ⟨List.mem_cons_of_mem _ h1, h2⟩
      · rw [Tr.get_set] at h
        by_cases ht : t = s
        · subst ht; rw [if_pos rfl] at h; cases h; exact .inl ⟨by simp, hs⟩
        · rw [if_neg ht] at h; exact .inr h
theorem slots1_get {x : E} : ∀ {sl : List Slot} {r x2 : E}, slots1 x sl r = some x2 → ∀ t, (nameIn t sl → x2.get t = x.get t) ∧ (¬nameIn t sl → x2.get t = r.get t)
  | [], r, x2, h, t => by
    cases h
    exact ⟨fun ⟨s, hs, _⟩ => (by cases hs), fun _ => rfl⟩
  | (s, g, l) :: sl, r, x2, h, t => by
    simp only [slots1] at h
    cases hs : x.get s with
    | none => rw [hs] at h; cases h
    | some v =>
      rw [hs] at h
      simp only at h
      cases hk : slotOk v g l with
      | false => rw [hk] at h; cases h
      | true =>
        rw [hk] at h
        obtain ⟨h1, h2⟩ := slots1_get h t
        constructor
        · intro hn
          by_cases hin : nameIn t sl
          · exact h1 hin
          · rw [h2 hin]
            obtain ⟨q, hq, e⟩ := hn
            rcases List.mem_cons.1 hq with rfl | hq
            · subst e; rw [Tr.get_set, if_pos rfl, hs]
            · exact absurd ⟨q, hq, e⟩ hin
        · intro hn
          have hin : ¬nameIn t sl := fun ⟨q, hq, e⟩ => hn ⟨q, List.mem_cons_of_mem _ hq, e⟩
          rw [h2 hin, Tr.get_set, if_neg (fun e => hn ⟨(s, g, l), by simp, e.symm⟩)]
theorem R3.shape {θ : Th} {v u : Value} (h : R3 θ v u) {s : Sh} (hs : (s.un v).isSome = true) : (s.un u).isSome = true := by
  by_cases hva : s = .va
  · subst hva; rfl
  · have h1 : R1 θ v u := by
      rcases R3.alt h with ⟨cs, rfl⟩ | h2
      · cases s <;> first | (cases hs; done) | exact absurd rfl hva
      · rcases R2.alt h2 with ⟨cs, rfl⟩ | h2
        · cases s <;> first | (cases hs; done) | exact absurd rfl hva
        · exact h2
    exact R1.shape h1 hs
theorem slots_ok {θ : Th} {x : E} {ρ : Env} (hE : ERel θ x.get ρ) : ∀ {sl : List Slot} {r x2 : E}, (∀ s ∈ sl, s.2.1 = false → s.2.2.length = 1) → slots1 x sl r = some x2 →
    ∃ vs, slotVs ρ sl = some vs ∧ shOk (slotSh sl) vs = true ∧ ∀ ρ0 t, (nameIn t sl → setSlots ρ0 sl vs t = ρ t) ∧ (¬nameIn t sl → setSlots ρ0 sl vs t = ρ0 t)
  | [], r, x2, _, h => ⟨[], rfl, rfl, fun ρ0 t => ⟨fun ⟨s, hs, _⟩ => (by cases hs), fun _ => rfl⟩⟩
  | (s, g, l) :: sl, r, x2, hok, h => by
    simp only [slots1] at h
    cases hs : x.get s with
    | none => rw [hs] at h; cases h
    | some v =>
      rw [hs] at h
      simp only at h
      cases hk : slotOk v g l with
      | false => rw [hk] at h; cases h
      | true =>
        rw [hk] at h
        obtain ⟨vs, h1, h2, h3⟩ := slots_ok hE (fun q hq => hok q (List.mem_cons_of_mem _ hq)) h
        obtain ⟨v', h4, h5⟩ := hE s v hs
        simp only [slotVs, h4, h1]
        have hset : ∀ (ρ0 : Env) (t : Nat) (X : Env), (∀ t, (nameIn t sl → X t = ρ t) ∧ (¬nameIn t sl → X t = ρ0 t)) → (nameIn t ((s, g, l) :: sl) → Eng.put X s (some v') t = ρ t) ∧ (¬nameIn t ((s, g, l) :: sl) → Eng.put X s (some v') t = ρ0 t) := by
          intro ρ0 t X hX
          simp only [Eng.put]
          by_cases ht : t = s
          · subst ht
            have : Nat.beq t t = true := by simp
            rw [this]
            exact ⟨fun _ => h4.symm, fun hn => absurd ⟨(t, g, l), by simp, rfl⟩ hn⟩
          · have : Nat.beq t s = false := by cases hb : Nat.beq t s with | false => rfl | true => exact absurd (Nat.eq_of_beq_eq_true hb) ht
            rw [this]
            refine ⟨fun ⟨q, hq, e⟩ => ?_, fun hn => ?_⟩
            · rcases List.mem_cons.1 hq with rfl | hq
              · exact absurd e.symm ht
              · exact (hX t).1 ⟨q, hq, e⟩
            · exact (hX t).2 fun ⟨q, hq, e⟩ => hn ⟨q, List.mem_cons_of_mem _ hq, e⟩
        cases g with
        | true =>
          cases v with
          | agg cs =>
            obtain ⟨ds, rfl, hd⟩ := h5
            have hsh := All2.shape hd hk
            have hlen := shOk_len hsh
            simp only [cond_true]
            have hb : Nat.beq ds.toList.length l.length = true := by rw [hlen]; simp
            rw [hb]
            refine ⟨_, rfl, shOk_app hsh h2, fun ρ0 t => ?_⟩
            simp only [setSlots, ← hlen, List.take_left, List.drop_left]
            exact hset ρ0 t _ (fun t => h3 ρ0 t)
          | _ => cases hk
        | false =>
          have hl1 := hok (s, false, l) (by simp) rfl
          simp only at hl1
          cases l with
          | nil => cases hl1
          | cons s1 l =>
            cases l with
            | cons _ _ => simp at hl1
            | nil =>
              simp only [cond_false]
              refine ⟨_, rfl, ?_, fun ρ0 t => ?_⟩
              · simp only [slotSh, List.flatMap_cons, List.singleton_append, shOk, Bool.and_eq_true]
                refine ⟨?_, h2⟩
                have hk' : (s1.un v).isSome = true := by cases v <;> exact hk
                exact R3.shape h5 hk'
              · simp only [setSlots, List.length_singleton, List.drop_succ_cons, List.drop_zero, List.headD_cons]
                exact hset ρ0 t _ (fun t => h3 ρ0 t)
theorem memN_of {t : Nat} : ∀ {l : List Nat}, t ∈ l → memN t l = true := fun h => memN_iff.2 h
/-- Behind a cut the executor's values are still the world's. -/
theorem cut_ok {θ θ1 : Th} {x x' x2 : E} {ρ ρ' : Env} {sl : List Slot} {kept : List Nat} (hsl : slotsOk sl = true) (hle : Th.le θ θ1) (hE : ERel θ x.get ρ) (hE' : ERel θ1 x'.get ρ') (h : slots1 x' sl (pick1 x kept .lf) = some x2) :
    ∃ vs z, slotVs ρ' sl = some vs ∧ unL (slotSh sl) vs = some z ∧ vals (slotSh sl) z = vs ∧ ERel θ1 x2.get (after ρ sl kept z) := by
  obtain ⟨vs, h1, h2, h3⟩ := slots_ok hE' (slotsOk_spec hsl) h
  obtain ⟨z, hz⟩ := shOk_un h2
  have hv := unL_vals _ _ z (shOk_len h2) hz
  refine ⟨vs, z, h1, hz, hv, fun t v ht => ?_⟩
  unfold after
  rw [hv]
  obtain ⟨g1, g2⟩ := slots1_get h t
  obtain ⟨k1, k2⟩ := h3 (fun t => bif memN t kept then ρ t else none) t
  by_cases hn : nameIn t sl
  · rw [k1 hn]
    rw [g1 hn] at ht
    exact hE' t v ht
  · rw [k2 hn]
    rw [g2 hn] at ht
    rcases pick1_get ht with ⟨h4, h5⟩ | h4
    · rw [memN_of h4]
      exact (hE.mono hle) t v h5
    · rw [Tr.get_e] at h4; cases h4
theorem withSlots_of {ρ' : Env} {sl : List Slot} {k : Arr (slotSh sl) F} {vs : List Value} {z : HL (slotSh sl)} {w : World} (h1 : slotVs ρ' sl = some vs) (h2 : unL (slotSh sl) vs = some z) (h : ap (slotSh sl) k z w) : withSlots ρ' sl no k w := by
  unfold withSlots
  rw [h1]
  simp only [h2]
  exact h
end Go.Eng
namespace Go.Eng
open Go RowKit
variable {T : Tab} {n : Nat} {W0 : World} {C : CallX} {D : Draws} {fuel : Nat}

def XOk (T : Tab) (n : Nat) (W0 : World) (D : Draws) (C : CallX) (fuel : Nat) (c : Code) : Prop :=
  ∀ ann x m ex x1 m1, xcode T n D C fuel c ann x m = some (ex, x1, m1) → ∀ (θ : Th) (ρ : Env) (w : World) (K : Exit → Env → F), ERel θ x.get ρ → MRel W0 θ m.t w →
    (∀ θ1 ρ1 w1, Th.le θ θ1 → ERel θ1 x1.get ρ1 → MRel W0 θ1 m1.t w1 → K ex ρ1 w1) → cexec T n D c ann ρ K w
theorem least {p : Nat → Prop} (h : ∃ k, p k) : ∃ k, p k ∧ ∀ j, p j → k ≤ j := by
  obtain ⟨k, hk⟩ := h
  induction k using Nat.strongRecOn with
  | _ k ih =>
    by_cases hx : ∃ j, j < k ∧ p j
    · obtain ⟨j, hj, hp⟩ := hx; exact ih j hj hp
    · exact ⟨k, hk, fun j hj => by
        rcases Nat.lt_or_ge j k with hlt | hge
        · exact absurd ⟨j, hlt, hj⟩ hx
        · exact hge⟩
theorem xseq_ok {x y : Code} (hx : XOk T n W0 D C fuel x) (hy : XOk T n W0 D C fuel y) {ax ay : Ann} {e : E} {m : Mem} {ex : Exit} {x1 : E} {m1 : Mem}
    (h : (match xcode T n D C fuel x ax e m with
      | some (.normal, e, m) => xcode T n D C fuel y ay e m
      | r => r) = some (ex, x1, m1)) {θ : Th} {ρ : Env} {w : World} {K : Exit → Env → F} (hE : ERel θ e.get ρ) (hm : MRel W0 θ m.t w)
    (hk : ∀ θ1 ρ1 w1, Th.le θ θ1 → ERel θ1 x1.get ρ1 → MRel W0 θ1 m1.t w1 → K ex ρ1 w1) : cexec T n D x ax ρ (onNormal (fun ρ' => cexec T n D y ay ρ' K) K) w := by
  cases hr : xcode T n D C fuel x ax e m with
  | none => rw [hr] at h; cases h
  | some r =>
    obtain ⟨e1, x2, m2⟩ := r
    rw [hr] at h
    refine hx ax e m e1 x2 m2 hr θ ρ w _ hE hm (fun θ1 ρ1 w1 g1 g2 g3 => ?_)
    cases e1 with
    | normal => exact hy ay x2 m2 ex x1 m1 h θ1 ρ1 w1 K g2 g3 (fun θ2 ρ2 w2 a1 a2 a3 => hk θ2 ρ2 w2 (g1.trans a1) a2 a3)
    | _ => cases h; exact hk θ1 ρ1 w1 g1 g2 g3
theorem xloop_ok {c : Code} (hx : XOk T n W0 D C fuel c) {sl : List Slot} {kept : List Nat} {a : Ann} {e : E} {m : Mem} {ex : Exit} {x1 : E} {m1 : Mem} {f0 : Nat} (hsl : slotsOk sl = true)
    (h : xloop (xcode T n D C fuel c a) (fun e' => slots1 e' sl (pick1 e kept .lf)) f0 e m = some (ex, x1, m1)) {θ : Th} {ρ : Env} {w : World} {K : Exit → Env → F} (hE : ERel θ e.get ρ) (hm : MRel W0 θ m.t w)
    (hk : ∀ θ1 ρ1 w1, Th.le θ θ1 → ERel θ1 x1.get ρ1 → MRel W0 θ1 m1.t w1 → K ex ρ1 w1) :
    withSlots ρ sl no (loopC (slotSh sl) fun again => lam (slotSh sl) fun z => cexec T n D c a (after ρ sl kept z) (onNormal (fun ρ' => withSlots ρ' sl no again) K)) w := by
  -- what holds at the head of a round
  let J : Nat → HL (slotSh sl) → World → Prop := fun f z w => ∃ θ1 e' m' ρ' vs, Th.le θ θ1 ∧ xloop (xcode T n D C fuel c a) (fun e' => slots1 e' sl (pick1 e kept .lf)) f e' m' = some (ex, x1, m1) ∧
    MRel W0 θ1 m'.t w ∧ ERel θ1 e'.get ρ' ∧ slotVs ρ' sl = some vs ∧ unL (slotSh sl) vs = some z
  have hcut : ∀ f θ1 e' m' ρ' w', Th.le θ θ1 → xloop (xcode T n D C fuel c a) (fun e' => slots1 e' sl (pick1 e kept .lf)) f e' m' = some (ex, x1, m1) → MRel W0 θ1 m'.t w' → ERel θ1 e'.get ρ' →
      ∃ vs z, slotVs ρ' sl = some vs ∧ unL (slotSh sl) vs = some z ∧ J f z w' := by
    intro f θ1 e' m' ρ' w' hle hl hm' hE'
    cases f with
    | zero => cases hl
    | succ f =>
      have hl' := hl
      simp only [xloop] at hl
      cases hc : slots1 e' sl (pick1 e kept .lf) with
      | none => rw [hc] at hl; cases hl
      | some e2 =>
        obtain ⟨vs, z, h1, h2, _, _⟩ := cut_ok hsl hle hE hE' hc
        exact ⟨vs, z, h1, h2, θ1, e', m', ρ', vs, hle, hl', hm', hE', h1, h2⟩
  obtain ⟨vs0, z0, h1, h2, hJ0⟩ := hcut f0 θ e m ρ w (Th.le.refl θ) h hm hE
  refine withSlots_of h1 h2 ?_
  unfold loopC
  rw [ap_lam]
  have hleast : ∀ z w, (∃ f, J f z w) → ∃ f, J f z w ∧ ∀ g, J g z w → f ≤ g := fun z w hz => least hz
  let μ : HL (slotSh sl) → World → Nat := fun z w => open Classical in if hz : ∃ f, J f z w then Classical.choose (hleast z w hz) else 0
  have hμ : ∀ z w, (∃ f, J f z w) → J (μ z w) z w ∧ ∀ g, J g z w → μ z w ≤ g := by
    intro z w hz
    have : μ z w = Classical.choose (hleast z w hz) := dif_pos hz
    rw [this]
    exact Classical.choose_spec (hleast z w hz)
  refine ⟨fun z w => ∃ f, J f z w, μ, ⟨f0, hJ0⟩, fun z w' hI => ?_⟩
  rw [ap_lam]
  obtain ⟨⟨θ1, e', m', ρ', vs, hle, hl, hm', hE', hv, hu⟩, hmin⟩ := hμ z w' hI
  cases hf : μ z w' with
  | zero => rw [hf] at hl; cases hl
  | succ f =>
    rw [hf] at hl
    simp only [xloop] at hl
    cases hc : slots1 e' sl (pick1 e kept .lf) with
    | none => rw [hc] at hl; cases hl
    | some e2 =>
      rw [hc] at hl
      simp only at hl
      obtain ⟨vs2, z2, g1, g2, _, g4⟩ := cut_ok hsl hle hE hE' hc
      rw [hv] at g1
      cases g1
      rw [hu] at g2
      cases g2
      cases hb : xcode T n D C fuel c a e2 m' with
      | none => rw [hb] at hl; cases hl
      | some r =>
        obtain ⟨ex2, x3, m3⟩ := r
        rw [hb] at hl
        refine hx a e2 m' ex2 x3 m3 hb θ1 _ w' _ g4 hm' (fun θ2 ρ2 w2 a1 a2 a3 => ?_)
        cases ex2 with
        | normal =>
          simp only at hl
          obtain ⟨vs3, z3, b1, b2, b3⟩ := hcut f θ2 x3 m3 ρ2 w2 (hle.trans a1) hl a3 a2
          show withSlots ρ2 sl no _ w2
          refine withSlots_of b1 b2 ?_
          rw [ap_lam]
          refine ⟨⟨f, b3⟩, ?_⟩
          have := (hμ z3 w2 ⟨f, b3⟩).2 f b3
          omega
        | _ => cases hl; exact hk θ2 ρ2 w2 (hle.trans a1) a2 a3
end Go.Eng
namespace Go.Eng
open Go RowKit
variable {T : Tab} {n : Nat} {W0 : World} {C : CallX} {D : Draws} {fuel : Nat}

theorem xblock_ok {x : Code} (hx : XOk T n W0 D C fuel x) {id : Nat} {a : Ann} {e : E} {m : Mem} {ex : Exit} {x1 : E} {m1 : Mem}
    (h : (match xcode T n D C fuel x a e m with
      | some (.exit j, e, m) => bif Nat.beq j id then some (.normal, e, m) else some (.exit j, e, m)
      | r => r) = some (ex, x1, m1)) {θ : Th} {ρ : Env} {w : World} {K : Exit → Env → F} (hE : ERel θ e.get ρ) (hm : MRel W0 θ m.t w)
    (hk : ∀ θ1 ρ1 w1, Th.le θ θ1 → ERel θ1 x1.get ρ1 → MRel W0 θ1 m1.t w1 → K ex ρ1 w1) : cexec T n D x a ρ (exitB id K) w := by
  cases hr : xcode T n D C fuel x a e m with
  | none => rw [hr] at h; cases h
  | some r =>
    obtain ⟨e1, x2, m2⟩ := r
    rw [hr] at h
    refine hx _ e m e1 x2 m2 hr θ ρ w _ hE hm (fun θ1 ρ1 w1 g1 g2 g3 => ?_)
    cases e1 with
    | exit j =>
      simp only at h
      simp only [exitB]
      cases hj : Nat.beq j id with
      | true => rw [hj] at h; cases h; exact hk θ1 ρ1 w1 g1 g2 g3
      | false => rw [hj] at h; cases h; exact hk θ1 ρ1 w1 g1 g2 g3
    | _ => cases h; exact hk θ1 ρ1 w1 g1 g2 g3
theorem xscope_ok {x : Code} (hx : XOk T n W0 D C fuel x) {a : Ann} {e : E} {m : Mem} {ex : Exit} {x1 : E} {m1 : Mem}
    (h : (match xcode T n D C fuel x a e m with
      | some (.goto _, _, _) => none
      | r => r) = some (ex, x1, m1)) {θ : Th} {ρ : Env} {w : World} {K : Exit → Env → F} (hE : ERel θ e.get ρ) (hm : MRel W0 θ m.t w)
    (hk : ∀ θ1 ρ1 w1, Th.le θ θ1 → ERel θ1 x1.get ρ1 → MRel W0 θ1 m1.t w1 → K ex ρ1 w1) : cexec T n D x a ρ (noGotoK K) w := by
  cases hr : xcode T n D C fuel x a e m with
  | none => rw [hr] at h; cases h
  | some r =>
    obtain ⟨e1, x2, m2⟩ := r
    rw [hr] at h
    refine hx _ e m e1 x2 m2 hr θ ρ w _ hE hm (fun θ1 ρ1 w1 g1 g2 g3 => ?_)
    cases e1 with
    | goto l => cases h
    | _ => cases h; exact hk θ1 ρ1 w1 g1 g2 g3
theorem xcode_ok (hT : TabOk T) (hz : TabFlat T) (hC : Fit T W0 C) : ∀ c : Code, XOk T n W0 D C fuel c := by
  intro c
  induction c with
  | skip => intro ann x m ex x1 m1 h θ ρ w K hE hm hk; simp only [xcode] at h; cases h; simp only [cexec]; exact hk θ ρ w (Th.le.refl θ) hE hm
  | label l => intro ann x m ex x1 m1 h θ ρ w K hE hm hk; simp only [xcode] at h; cases h; simp only [cexec]; exact hk θ ρ w (Th.le.refl θ) hE hm
  | region id ops d =>
    intro ann x m ex x1 m1 h θ ρ w K hE hm hk
    cases d with
    | false =>
      simp only [xcode] at h
      simp only [cexec]
      cases hx : xops T n C ops.toList ops.toList x m with
      | none => rw [hx] at h; cases h
      | some r => obtain ⟨x2, m2⟩ := r; rw [hx] at h; cases h; exact xops_ok hT hz hC _ _ θ x ρ m w hx hE hm hk
    | true =>
      simp only [xcode] at h
      simp only [cexec]
      cases hd : drawsOf id D with
      | none => rw [hd] at h; cases h
      | some mo =>
        obtain ⟨masks, ords⟩ := mo
        rw [hd] at h
        simp only at h ⊢
        cases hok : drawOk ops.toList masks ords with
        | false => rw [hok] at h; cases h
        | true =>
          rw [hok] at h
          simp only [cond_true] at h ⊢
          cases hx : xdraw T n C ops.toList masks ords x m with
          | none => rw [hx] at h; cases h
          | some r => obtain ⟨x2, m2⟩ := r; rw [hx] at h; cases h; exact xdraw_ok hT hz hC hx hE hm hk
  | seq x y hx hy =>
    intro ann e m ex x1 m1 h θ ρ w K hE hm hk
    cases ann with
    | s j u v =>
      cases j with
      | none => simp only [xcode] at h; simp only [cexec]; exact xseq_ok hx hy h hE hm hk
      | some sk =>
        obtain ⟨sl, kept⟩ := sk
        simp only [xcode] at h
        simp only [cexec]
        cases hok : keeps kept x && slotsOk sl with
        | false => rw [hok] at h; cases h
        | true =>
          rw [hok] at h
          simp only [cond_true] at h ⊢
          simp only [Bool.and_eq_true] at hok
          cases hr : xcode T n D C fuel x u e m with
          | none => rw [hr] at h; cases h
          | some r =>
            obtain ⟨e1, x2, m2⟩ := r
            rw [hr] at h
            cases e1 with
            | normal =>
              simp only at h
              cases hc : slots1 x2 sl (pick1 e kept .lf) with
              | none => rw [hc] at h; cases h
              | some x3 =>
                rw [hc] at h
                simp only at h
                refine ⟨fun z w' => ∃ θ1 ρ' vs, Th.le θ θ1 ∧ ERel θ1 x2.get ρ' ∧ MRel W0 θ1 m2.t w' ∧ slotVs ρ' sl = some vs ∧ unL (slotSh sl) vs = some z, ?_, ?_⟩
                · refine hx u e m .normal x2 m2 hr θ ρ w _ hE hm (fun θ1 ρ1 w1 g1 g2 g3 => ?_)
                  obtain ⟨vs, z, h1, h2, _, _⟩ := cut_ok hok.2 g1 hE g2 hc
                  show withSlots ρ1 sl no _ w1
                  refine withSlots_of h1 h2 ?_
                  rw [ap_lam]
                  exact ⟨θ1, ρ1, vs, g1, g2, g3, h1, h2⟩
                · rintro z w' ⟨θ1, ρ', vs, g1, g2, g3, g4, g5⟩
                  rw [ap_lam]
                  obtain ⟨vs2, z2, h1, h2, _, h4⟩ := cut_ok hok.2 g1 hE g2 hc
                  rw [g4] at h1
                  cases h1
                  rw [g5] at h2
                  cases h2
                  exact hy v x3 m2 ex x1 m1 h θ1 _ w' K h4 g3 (fun θ2 ρ2 w2 a1 a2 a3 => hk θ2 ρ2 w2 (g1.trans a1) a2 a3)
            | _ =>
              cases h
              refine ⟨fun _ _ => False, hx u e m _ _ _ hr θ ρ w _ hE hm (fun θ1 ρ1 w1 g1 g2 g3 => hk θ1 ρ1 w1 g1 g2 g3), fun z w' hh => hh.elim⟩
    | e => simp only [xcode] at h; simp only [cexec]; exact xseq_ok hx hy h hE hm hk
    | c _ _ => simp only [xcode] at h; simp only [cexec]; exact xseq_ok hx hy h hE hm hk
    | b _ => simp only [xcode] at h; simp only [cexec]; exact xseq_ok hx hy h hE hm hk
    | l _ _ _ => simp only [xcode] at h; simp only [cexec]; exact xseq_ok hx hy h hE hm hk
  | cond c x y hx hy =>
    intro ann e m ex x1 m1 h θ ρ w K hE hm hk
    simp only [xcode] at h
    simp only [cexec]
    cases hev : ev e.get c with
    | none => rw [hev] at h; cases h
    | some v =>
      rw [hev] at h
      cases v with
      | bool t =>
        simp only at h
        have hc : ev ρ c = some (.bool t) := by
          cases c with
          | tmp q => obtain ⟨u, h1, h2⟩ := hE q _ hev; cases h2; exact h1
          | const q => exact hev
          | global q => cases hev
          | func q => cases hev
        rw [hc]
        cases t with
        | true => exact hx _ e m ex x1 m1 h θ ρ w K hE hm hk
        | false => exact hy _ e m ex x1 m1 h θ ρ w K hE hm hk
      | _ => cases h
  | block id x hx =>
    intro ann e m ex x1 m1 h θ ρ w K hE hm hk
    cases ann <;> (simp only [xcode] at h; simp only [cexec]; exact xblock_ok hx h hE hm hk)
  | scope x hx =>
    intro ann e m ex x1 m1 h θ ρ w K hE hm hk
    cases ann <;> (simp only [xcode] at h; simp only [cexec]; exact xscope_ok hx h hE hm hk)
  | loop x hx =>
    intro ann e m ex x1 m1 h θ ρ w K hE hm hk
    cases ann with
    | l sl kept a =>
      simp only [xcode] at h
      simp only [cexec]
      cases hok : keeps kept x && slotsOk sl with
      | false => rw [hok] at h; cases h
      | true =>
        rw [hok] at h
        simp only [cond_true] at h ⊢
        simp only [Bool.and_eq_true] at hok
        exact xloop_ok hx hok.2 h hE hm hk
    | _ => simp only [xcode] at h; cases h
  | exit id => intro ann x m ex x1 m1 h θ ρ w K hE hm hk; simp only [xcode] at h; cases h; simp only [cexec]; exact hk θ ρ w (Th.le.refl θ) hE hm
  | ret => intro ann x m ex x1 m1 h θ ρ w K hE hm hk; simp only [xcode] at h; cases h; simp only [cexec]; exact hk θ ρ w (Th.le.refl θ) hE hm
  | _ => intro ann x m ex x1 m1 h; simp only [xcode] at h; cases h
end Go.Eng
namespace Go.Eng
open Go RowKit
variable {T : Tab} {n : Nat} {W0 : World} {C : CallX} {D : Draws} {fuel : Nat}

theorem All2.snocR {R : Value → Value → Prop} : ∀ {l r : List Value} {x y : Value}, All2 R l r → R x y → All2 R (l ++ [x]) (r ++ [y])
  | [], [], _, _, _, h => ⟨h, trivial⟩
  | _ :: _, _ :: _, _, _, h1, h => ⟨h1.1, All2.snocR h1.2 h⟩
theorem All2.R3mono {θ θ1 : Th} (h : Th.le θ θ1) {l r : List Value} (ha : All2 (R3 θ) l r) : All2 (R3 θ1) l r := ha.mono (R' := R3 θ1) fun _ _ hx => R3.mono h hx
theorem xret_ok {x : E} {m : Mem} : ∀ (rs : List ResultVar) (θ : Th) (ρ : Env) (w : World) (pre acc vs : List Value) (k : List Value → F), xret T x m rs = some vs → ERel θ x.get ρ → MRel W0 θ m.t w → All2 (R3 θ) pre acc.reverse →
    (∀ θ1 us w1, Th.le θ θ1 → All2 (R3 θ1) (pre ++ vs) us → MRel W0 θ1 m.t w1 → k us w1) → retVs T ρ rs acc k w
  | [], θ, ρ, w, pre, acc, vs, k, h, hE, hm, ha, hk => by
    cases h
    exact hk θ acc.reverse w (Th.le.refl θ) (by simpa using ha) hm
  | .tmp t :: rs, θ, ρ, w, pre, acc, vs, k, h, hE, hm, ha, hk => by
    simp only [xret] at h
    simp only [retVs]
    cases hv : x.get t with
    | none => rw [hv] at h; cases h
    | some v =>
      rw [hv] at h
      cases hr : xret T x m rs with
      | none => rw [hr] at h; cases h
      | some vs' =>
        rw [hr] at h
        cases h
        obtain ⟨u, h1, h2⟩ := hE t v hv
        rw [h1]
        refine xret_ok rs θ ρ w (pre ++ [v]) (u :: acc) vs' k hr hE hm ?_ (fun θ1 us w1 g1 g2 g3 => hk θ1 us w1 g1 (by simpa using g2) g3)
        rw [List.reverse_cons]
        exact ha.snocR h2
  | .cell t ty :: rs, θ, ρ, w, pre, acc, vs, k, h, hE, hm, ha, hk => by
    simp only [xret] at h
    simp only [retVs]
    cases hv : x.get t with
    | none => rw [hv] at h; cases h
    | some v =>
      rw [hv] at h
      obtain ⟨u, h1, h2⟩ := hE t v hv
      cases v with
      | pointer q =>
        cases q with
        | none => cases h
        | some q =>
          obtain ⟨b, o, sp⟩ := q
          cases sp with
          | some _ => cases h
          | none =>
            obtain ⟨q', rfl, h3⟩ := po_R h2
            obtain ⟨b', q, G, h4, rfl⟩ := h3 _ _ rfl
            rw [h1]
            cases hi : T.ti ty with
            | none => rw [hi] at h; cases h
            | some i =>
              rw [hi] at h
              simp only at h ⊢
              cases hb : Nat.beq i.lvs.length i.size with
              | false => rw [hb] at h; cases h
              | true =>
                rw [hb] at h
                simp only [cond_true] at h ⊢
                cases hx : xprim (fun _ _ _ => none) (.rd i.und.agg i.lvs b o) m with
                | none => rw [hx] at h; cases h
                | some r =>
                  obtain ⟨v, m2⟩ := r
                  rw [hx] at h
                  cases hr : xret T x m rs with
                  | none => rw [hr] at h; cases h
                  | some vs' =>
                    rw [hr] at h
                    cases h
                    have hm2 : m2 = m := (rd_ok2 (P := T.P) (k := fun _ _ => True) hm h4 hx (fun _ _ _ _ _ _ => trivial)).2
                    subst hm2
                    refine (rd_ok2 (P := T.P) hm h4 hx (fun θ1 u w1 g1 g2 g3 => ?_)).1
                    refine xret_ok rs θ1 ρ w1 (pre ++ [v]) (u :: acc) vs' k hr (hE.mono g1) g3 ?_ (fun θ2 us w2 a1 a2 a3 => hk θ2 us w2 (g1.trans a1) (by simpa using a2) a3)
                    rw [List.reverse_cons]
                    exact (ha.R3mono g1).snocR g2
      | _ => cases h
end Go.Eng
namespace Go.Eng
open Go RowKit
variable {T : Tab} {n : Nat} {W0 : World} {C : CallX} {D : Draws} {fuel : Nat}

theorem env1_get : ∀ (l : List Value) (i : Nat) (e : E) (t : Nat), (env1 l i e).get t = if i ≤ t ∧ t < i + l.length then l[t - i]? else e.get t
  | [], i, e, t => by simp [env1]; intro _ h; omega
  | v :: l, i, e, t => by
    rw [env1, env1_get l (i + 1) (e.set i v) t, Tr.get_set]
    by_cases h1 : t = i
    · subst h1
      rw [if_neg (by omega), if_pos rfl, if_pos (by simp)]
      simp
    · rw [if_neg h1]
      by_cases h2 : i + 1 ≤ t ∧ t < i + 1 + l.length
      · rw [if_pos h2, if_pos (by simp; omega)]
        obtain ⟨j, hj⟩ : ∃ j, t - i = j + 1 := ⟨t - i - 1, by omega⟩
        rw [hj, List.getElem?_cons_succ]
        congr 1
        omega
      · rw [if_neg h2, if_neg (by simp; omega)]
theorem env0_get : ∀ (l : List Value) (i t : Nat), env0 l i t = if i ≤ t then l[t - i]? else none
  | [], i, t => by simp [env0]
  | v :: l, i, t => by
    simp only [env0, put]
    by_cases h1 : t = i
    · subst h1
      have : Nat.beq t t = true := by simp
      rw [this]; simp
    · have : Nat.beq t i = false := by cases hb : Nat.beq t i with | false => rfl | true => exact absurd (Nat.eq_of_beq_eq_true hb) h1
      rw [this, cond_false, env0_get l (i + 1) t]
      by_cases h2 : i + 1 ≤ t
      · rw [if_pos h2, if_pos (by omega)]
        obtain ⟨j, hj⟩ : ∃ j, t - i = j + 1 := ⟨t - i - 1, by omega⟩
        rw [hj, List.getElem?_cons_succ]
        congr 1
        omega
      · rw [if_neg h2, if_neg (by omega)]
theorem envs_R {θ : Th} {l r : List Value} (h : All2 (R3 θ) l r) : ERel θ (env1 l 0 .lf).get (env0 r 0) := by
  intro t v hv
  rw [env1_get] at hv
  rw [env0_get]
  by_cases ht : 0 ≤ t ∧ t < 0 + l.length
  · rw [if_pos ht] at hv
    rw [if_pos (Nat.zero_le t)]
    exact All2.get h hv
  · rw [if_neg ht, Tr.get_e] at hv
    cases hv
theorem tup_R {θ : Th} {vs us : List Value} (h : All2 (R3 θ) vs us) (ha : argsOk vs = true) : R3 θ (tup vs) (tup us) := by
  have h2 := args_R2 h ha
  cases vs with
  | nil => cases us with
    | nil => exact ⟨#[], rfl, trivial⟩
    | cons _ _ => cases h
  | cons x l => cases us with
    | nil => cases h
    | cons y r =>
      cases l with
      | nil => cases r with
        | nil => exact h.1
        | cons _ _ => cases h.2
      | cons x2 l => cases r with
        | nil => cases h.2
        | cons y2 r => exact ⟨_, rfl, by simpa using h2⟩
theorem R2.toR3s {θ : Th} {l r : List Value} (h : All2 (R2 θ) l r) : All2 (R3 θ) l r := h.mono (R' := R3 θ) fun _ _ hx => R2.to3 hx
theorem xfun_ok (hT : TabOk T) (hz : TabFlat T) (hC : Fit T W0 C) {f : Nat} {x : XF} (hf : T.P.funcs[f]? = some x.fn) (hb : x.fn.body = some x.c) {args args' : List Value} {m m1 : Mem} {v : Value} {θ : Th} {w : World}
    (h : xfun T C fuel x args m = some (v, m1)) (ha : All2 (R2 θ) args args') (hm : MRel W0 θ m.t w) :
    Calls T.P f args'.toArray w fun e w1 => ∃ θ1 v', Th.le θ θ1 ∧ R3 θ1 v v' ∧ MRel W0 θ1 m1.t w1 ∧ e = .returned v' := by
  unfold xfun at h
  cases hl : Nat.ble args.length x.fn.ntmps with
  | false => rw [hl] at h; cases h
  | true =>
    rw [hl] at h
    simp only [cond_true] at h
    refine cfun_ok (T := T) (D := x.D) (ann := x.ann) hT hf hb (by rw [← ha.len]; exact Nat.le_of_ble_eq_true hl) ?_
    unfold cfun
    cases hx : xcode T x.fn.ntmps x.D C fuel x.c x.ann (env1 args 0 .lf) m with
    | none => rw [hx] at h; cases h
    | some r =>
      obtain ⟨ex, x1, m2⟩ := r
      rw [hx] at h
      refine xcode_ok hT hz hC x.c x.ann _ m ex x1 m2 hx θ (env0 args' 0) w _ (envs_R (R2.toR3s ha)) hm (fun θ1 ρ1 w1 g1 g2 g3 => ?_)
      have fin : (match xret T x1 m2 x.fn.results.toList with
          | some vs => bif argsOk vs then some (tup vs, m2) else none
          | none => none) = some (v, m1) → retF T x.fn.results.toList (fun e w1 => ∃ θ1 v', Th.le θ θ1 ∧ R3 θ1 v v' ∧ MRel W0 θ1 m1.t w1 ∧ e = .returned v') ρ1 w1 := by
        intro h
        cases hr : xret T x1 m2 x.fn.results.toList with
        | none => rw [hr] at h; cases h
        | some vs =>
          rw [hr] at h
          simp only at h
          cases hao : argsOk vs with
          | false => rw [hao] at h; cases h
          | true =>
            rw [hao] at h
            cases h
            refine xret_ok _ θ1 ρ1 w1 [] [] vs _ hr g2 g3 trivial (fun θ2 us w2 a1 a2 a3 => ?_)
            exact ⟨θ2, tup us, g1.trans a1, tup_R (by simpa using a2) hao, a3, rfl⟩
      cases ex with
      | normal => exact fin h
      | ret => exact fin h
      | _ => cases h
/-- A table of bodies fits the program. -/
structure XtOk (P : Program) (xt : Nat → Option XF) : Prop where
  fn : ∀ f x, xt f = some x → P.funcs[f]? = some x.fn
  body : ∀ f x, xt f = some x → x.fn.body = some x.c
  name : ∀ f x, xt f = some x → (x.fn.name == "runtime.NumGoroutine") = false
theorem xcalls_ok (hT : TabOk T) (hz : TabFlat T) {xt : Nat → Option XF} (hx : XtOk T.P xt) (W0 : World) : ∀ d, Fit T W0 (xcalls T xt fuel d)
  | 0 => ⟨fun f args m v m1 h => (by cases h), fun f args m r h => (by cases h)⟩
  | d + 1 => by
    have ih := xcalls_ok hT hz hx W0 d
    refine ⟨fun f args m v m1 h θ args' w ha hm => ?_, fun f args m r h => ?_⟩
    · simp only [xcalls] at h
      cases hf : xt f with
      | none => rw [hf] at h; cases h
      | some x => rw [hf] at h; exact xfun_ok hT hz ih (hx.fn f x hf) (hx.body f x hf) h ha hm
    · simp only [xcalls] at h
      cases hf : xt f with
      | none => rw [hf] at h; cases h
      | some x => exact ⟨x.fn, hx.fn f x hf, hx.name f x hf, by rw [hx.body f x hf]; rfl⟩
def runIs (x : X Value) (v : Value) : Bool := match x with
  | some (u, _) => sameV u v
  | none => false
/-- A closed run that the kernel does: what it returns, it returns in every world; what was there before stays. -/
theorem closed_run (hT : TabOk T) (hz : TabFlat T) {xt : Nat → Option XF} (hx : XtOk T.P xt) {d f : Nat} {args : List Value} (ha : flatVs args = true) {v : Value} (hv : flatV v = true)
    (h : runIs (xcalls T xt fuel d f args ⟨0, .lf⟩) v = true) (w : World) :
    Calls T.P f args.toArray w fun e w1 => e = .returned v ∧ Below w.heap.size w w1 := by
  unfold runIs at h
  cases hc : xcalls T xt fuel d f args ⟨0, .lf⟩ with
  | none => rw [hc] at h; cases h
  | some r =>
    obtain ⟨u, m1⟩ := r
    rw [hc] at h
    have hu := sameV_eq h
    subst hu
    refine ((xcalls_ok hT hz hx w d).ok f args ⟨0, .lf⟩ u m1 hc (fun _ => none) args w ((flat_R1s ha).mono fun _ _ h => R1.to2 h) mrel_start).mono ?_
    rintro e w1 ⟨θ1, v', _, h2, h3, rfl⟩
    refine ⟨?_, h3.below⟩
    congr 1
    have hs : sameS u u = true := by cases u <;> first | (cases hv; done) | exact h
    exact (sameS_fn hs (R3_sub (flat_R0 hv) h2) (flat_R0 hv))
end Go.Eng
namespace Go.Eng
open Go RowKit
variable {T : Tab} {θ : Th} {W0 : World} {C : CallX} {w : World}

def fadeT : Tr AO → Tr AO → Bool
  | .lf, .lf => true
  | .nd l v r, .nd l' v' r' => (match v, v' with
    | none, none => true
    | some x, some y => (match y with
      | .dead => true
      | y => sameO x y)
    | _, _ => false) && fadeT l l' && fadeT r r'
  | _, _ => false
theorem fadeT_get : ∀ {a b : Tr AO}, fadeT a b = true → ∀ i, b.get i = a.get i ∨ (b.get i = some .dead ∧ ∃ o, a.get i = some o)
  | .lf, .lf, _, _ => .inl rfl
  | .nd l v r, .nd l' v' r', h, i => by
    simp only [fadeT, Bool.and_eq_true] at h
    obtain ⟨⟨h1, h2⟩, h3⟩ := h
    cases i with
    | zero =>
      simp only [Tr.get]
      cases v with
      | none => cases v' with
        | none => exact .inl rfl
        | some _ => cases h1
      | some x => cases v' with
        | none => cases h1
        | some y =>
          cases y with
          | dead => exact .inr ⟨rfl, x, rfl⟩
          | _ => exact .inl (by rw [sameO_eq h1])
    | succ j =>
      simp only [Tr.get]
      cases hb : Nat.beq (j % 2) 0 with
      | true => exact fadeT_get h2 (j / 2)
      | false => exact fadeT_get h3 (j / 2)
  | .lf, .nd _ _ _, h, _ => by cases h
  | .nd _ _ _, .lf, h, _ => by cases h
theorem MRel.fade {m m' : Tr AO} (hm : MRel W0 θ m w) (h : fadeT m m' = true) : MRel W0 θ m' w where
  below := hm.below
  dom i x hx := by
    obtain ⟨o, ho⟩ := hm.dom i x hx
    rcases fadeT_get h i with e | ⟨e, _⟩
    · exact ⟨o, by rw [e, ho]⟩
    · exact ⟨_, e⟩
  old := hm.old
  fz := hm.fz
  obj i o ho := by
    rcases fadeT_get h i with e | ⟨e, _⟩
    · rw [e] at ho; exact hm.obj i o ho
    · rw [e] at ho; cases ho; trivial
  apart i j oi oj hij hi hid hj hjd := by
    have key : ∀ i oi, m'.get i = some oi → oi ≠ .dead → m.get i = some oi := fun i oi hi hd => by
      rcases fadeT_get h i with e | ⟨e, _⟩
      · rw [← e]; exact hi
      · rw [e] at hi; cases hi; exact absurd rfl hd
    exact hm.apart i j oi oj hij (key i oi hi hid) hid (key j oj hj hjd) hjd
/-- A result is so, but for garbage. -/
def comes (x : X Value) (v : Value) (m : Mem) : Bool := match x with
  | some (u, m') => sameV u v && Nat.beq m'.next m.next && fadeT m'.t m.t
  | none => false
/-- A call by a run of the executor: one result of one cell. -/
theorem call_run (hC : Fit T W0 C) {f : Nat} {args args' : List Value} {s : Sh} {v : Value} {m m1 : Mem} {k : s.T → F} (hm : MRel W0 θ m.t w) (ha : All2 (R2 θ) args args') (h : C f args m = some (v, m1)) (hs : (s.un v).isSome = true)
    (hk : ∀ θ1 x w1, Th.le θ θ1 → R3 θ1 v (s.mk x) → MRel W0 θ1 m1.t w1 → k x w1) : call T.P f args' [(false, [s])] k w := by
  refine (hC.ok f args m v m1 h θ args' w ha hm).mono ?_
  rintro e w1 ⟨θ1, v', h1, h2, h3, rfl⟩
  obtain ⟨x, hx⟩ := Option.isSome_iff_exists.1 (h2.shape hs)
  have hv := Sh.un_mk hx
  exact ⟨(x, ()), by rw [hv]; rfl, hk θ1 x w1 h1 (hv ▸ h2) h3⟩
theorem call_comes (hC : Fit T W0 C) {f : Nat} {args args' : List Value} {s : Sh} {v : Value} {m m1 : Mem} {k : s.T → F} (hm : MRel W0 θ m.t w) (ha : All2 (R2 θ) args args') (h : comes (C f args m) v m1 = true) (hs : (s.un v).isSome = true)
    (hk : ∀ θ1 x w1, Th.le θ θ1 → R3 θ1 v (s.mk x) → MRel W0 θ1 m1.t w1 → k x w1) : call T.P f args' [(false, [s])] k w := by
  unfold comes at h
  cases hc : C f args m with
  | none => rw [hc] at h; cases h
  | some r =>
    obtain ⟨u, m2⟩ := r
    rw [hc] at h
    simp only [Bool.and_eq_true] at h
    obtain ⟨⟨h1, _⟩, h3⟩ := h
    have hu := sameV_eq h1
    subst hu
    exact call_run hC hm ha hc hs (fun θ1 x w1 g1 g2 g3 => hk θ1 x w1 g1 g2 (g3.fade h3))
/-- A cell of the memory, read in the world. -/
theorem ld_run {s : Sh} {i o : Nat} {v : Value} {b q : Nat} {G : Option (Nat × Nat)} {m : Mem} {k : s.T → F} (hm : MRel W0 θ m.t w) (hθ : θ i = some (b, q, G)) (h : m.cells i o 1 = some [v]) (hs : (s.un v).isSome = true)
    (hk : ∀ x, R1 θ v (s.mk x) → k x w) : ld s (A b (q + o)) k w := by
  obtain ⟨b2, q2, G2, us, e1, e2, e3, e4⟩ := cells_ok hm h
  rw [hθ] at e1
  cases e1
  cases us with
  | nil => cases e2
  | cons y us =>
    have hy := e2.1
    obtain ⟨x, hx⟩ := Option.isSome_iff_exists.1 (hy.shape hs)
    have hv := Sh.un_mk hx
    exact ⟨x, by rw [← hv]; simpa using e3 0 y rfl, hk x (hv ▸ hy)⟩
end Go.Eng
