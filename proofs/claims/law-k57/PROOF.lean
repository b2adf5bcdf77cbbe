import PyProof.Rows.All
import Wide.All
import OpenK.AllK
import Wide.FinOn
import HandS.ForMost
import HandS.Codes
import HandS.SortKw
import HandS.IsInst
import HandS.Property
import HandS.Style
import HandS.Wide
import KE.DatumOrd
import HandS.Conv
import PySem.Challenge.RW_bearsmisses_k57_whole_prices_changed
set_option Elab.async false
set_option linter.all false
set_option maxRecDepth 100000
set_option maxHeartbeats 4000000
/-! The mathematics: prices (none counts as greater than all), the tables by a fold over the comparisons, the laws about the least price. -/
namespace K57
abbrev Pr := Option Int
def eAdd (a : Pr) (p : Int) : Pr := a.map (· + p)
def eMin : Pr → Pr → Pr
  | none, b => b
  | some a, none => some a
  | some a, some b => some (if b < a then b else a)
def eLe : Pr → Pr → Prop
  | _, none => True
  | none, some _ => False
  | some a, some b => a ≤ b
def eMul (a : Pr) (m : Int) : Pr := a.map (· * m)
theorem eLe_refl (a : Pr) : eLe a a := by
  cases a with
  | none => trivial
  | some a => exact Int.le_refl a
theorem eLe_none (a : Pr) : eLe a none := by
  cases a <;> trivial
theorem eLe_trans {a b c : Pr} (h1 : eLe a b) (h2 : eLe b c) : eLe a c := by
  cases c with
  | none => exact eLe_none a
  | some c =>
    cases b with
    | none => exact h2.elim
    | some b =>
      cases a with
      | none => exact h1.elim
      | some a =>
        have h1 : a ≤ b := h1
        have h2 : b ≤ c := h2
        exact Int.le_trans h1 h2
theorem eMin_left (a b : Pr) : eLe (eMin a b) a := by
  cases a with
  | none => exact eLe_none _
  | some a =>
    cases b with
    | none => exact Int.le_refl a
    | some b =>
      show (if b < a then b else a) ≤ a
      split <;> omega
theorem eMin_right (a b : Pr) : eLe (eMin a b) b := by
  cases b with
  | none => exact eLe_none _
  | some b =>
    cases a with
    | none => exact Int.le_refl b
    | some a =>
      show (if b < a then b else a) ≤ b
      split <;> omega
theorem le_eMin {a b c : Pr} (h1 : eLe c a) (h2 : eLe c b) : eLe c (eMin a b) := by
  cases a with
  | none => exact h2
  | some a =>
    cases b with
    | none => exact h1
    | some b =>
      show eLe c (some (if b < a then b else a))
      split
      · exact h2
      · exact h1
theorem eMin_mono {a b c d : Pr} (h1 : eLe a c) (h2 : eLe b d) : eLe (eMin a b) (eMin c d) :=
  le_eMin (eLe_trans (eMin_left a b) h1) (eLe_trans (eMin_right a b) h2)
theorem eAdd_mono {a b : Pr} {p q : Int} (h : eLe a b) (hp : p ≤ q) : eLe (eAdd a p) (eAdd b q) := by
  cases b with
  | none => exact eLe_none _
  | some b =>
    cases a with
    | none => exact h.elim
    | some a =>
      have h : a ≤ b := h
      show a + p ≤ b + q
      omega
theorem le_eAdd (a : Pr) {p : Int} (h : 0 ≤ p) : eLe a (eAdd a p) := by
  cases a with
  | none => trivial
  | some a =>
    show a ≤ a + p
    omega
theorem eAdd_add (a : Pr) (p q : Int) : eAdd (eAdd a p) q = eAdd a (p + q) := by
  cases a with
  | none => rfl
  | some a => exact congrArg some (Int.add_assoc a p q)
theorem eAdd_swap (a : Pr) (p q : Int) : eAdd (eAdd a p) q = eAdd (eAdd a q) p := by
  rw [eAdd_add, eAdd_add, Int.add_comm]
theorem eMin_add (a b : Pr) (p : Int) : eAdd (eMin a b) p = eMin (eAdd a p) (eAdd b p) := by
  cases a with
  | none => rfl
  | some a =>
    cases b with
    | none => rfl
    | some b =>
      show some ((if b < a then b else a) + p) = some (if b + p < a + p then b + p else a + p)
      by_cases h : b < a
      · rw [if_pos h, if_pos (by omega)]
      · rw [if_neg h, if_neg (by omega)]
theorem eMul_min (a b : Pr) {m : Int} (hm : 0 < m) : eMul (eMin a b) m = eMin (eMul a m) (eMul b m) := by
  cases a with
  | none => rfl
  | some a =>
    cases b with
    | none => rfl
    | some b =>
      show some ((if b < a then b else a) * m) = some (if b * m < a * m then b * m else a * m)
      by_cases h : b < a
      · rw [if_pos h, if_pos ((Int.mul_lt_mul_right hm).mpr h)]
      · rw [if_neg h, if_neg (fun z => h ((Int.mul_lt_mul_right hm).mp z))]
theorem eMul_add (a : Pr) (p m : Int) : eMul (eAdd a p) m = eAdd (eMul a m) (p * m) := by
  cases a with
  | none => rfl
  | some a => exact congrArg some (Int.add_mul a p m)

/-! ### the tables -/
abbrev Row := Nat × Int
abbrev Tab := Nat → Nat → Pr
/-- behind no comparisons -/
def first (k : Nat) : Tab := fun j r => if k - j ≤ r then some 0 else none
/-- the entry that stands a column further and a step less -/
def diag (T : Tab) (g r : Nat) : Pr := match r with
  | 0 => none
  | r + 1 => T (g + 1) r
/-- behind one more comparison -/
def step (T : Tab) (g : Nat) (p : Int) : Tab := fun j r => if j = g then eMin (eMin (T (g - 1) r) (eAdd (T g r) p)) (diag T g r) else T j r
def run (T : Tab) (rows : List Row) : Tab := rows.foldl (fun T w => step T w.1 w.2) T
def tab (k : Nat) (rows : List Row) : Tab := run (first k) rows
theorem run_append (T : Tab) (a b : List Row) : run T (a ++ b) = run (run T a) b := List.foldl_append ..
theorem run_cons (T : Tab) (w : Row) (b : List Row) : run T (w :: b) = run (step T w.1 w.2) b := rfl
theorem tab_snoc (k : Nat) (rows : List Row) (g : Nat) (p : Int) : tab k (rows ++ [(g, p)]) = step (tab k rows) g p := by
  unfold tab
  rw [run_append]
  rfl
theorem step_at (T : Tab) (g : Nat) (p : Int) (r : Nat) : step T g p g r = eMin (eMin (T (g - 1) r) (eAdd (T g r) p)) (diag T g r) := if_pos rfl
theorem step_off (T : Tab) {g j : Nat} (p : Int) (r : Nat) (h : j ≠ g) : step T g p j r = T j r := if_neg h

/-! ### orders among tables -/
def Le (A B : Tab) : Prop := ∀ j r, eLe (A j r) (B j r)
/-- B is nowhere greater than A and d -/
def Lip (d : Int) (A B : Tab) : Prop := ∀ j r, eLe (B j r) (eAdd (A j r) d)
theorem diag_le {A B : Tab} (h : Le A B) (g r : Nat) : eLe (diag A g r) (diag B g r) := by
  cases r with
  | zero => trivial
  | succ r => exact h _ _
theorem diag_lip {A B : Tab} {d : Int} (h : Lip d A B) (g r : Nat) : eLe (diag B g r) (eAdd (diag A g r) d) := by
  cases r with
  | zero => trivial
  | succ r => exact h _ _
theorem step_le {A B : Tab} (h : Le A B) (g : Nat) {p q : Int} (hp : p ≤ q) : Le (step A g p) (step B g q) := fun j r => by
  by_cases hj : j = g
  · subst hj
    rw [step_at, step_at]
    exact eMin_mono (eMin_mono (h _ _) (eAdd_mono (h _ _) hp)) (diag_le h _ _)
  · rw [step_off _ _ _ hj, step_off _ _ _ hj]
    exact h _ _
theorem step_lip {A B : Tab} {d : Int} (h : Lip d A B) (g : Nat) (p : Int) : Lip d (step A g p) (step B g p) := fun j r => by
  by_cases hj : j = g
  · subst hj
    rw [step_at, step_at, eMin_add, eMin_add]
    refine eMin_mono (eMin_mono (h _ _) ?_) (diag_lip h _ _)
    rw [eAdd_swap]
    exact eAdd_mono (h _ _) (Int.le_refl p)
  · rw [step_off _ _ _ hj, step_off _ _ _ hj]
    exact h _ _
theorem run_le {A B : Tab} (rows : List Row) (h : Le A B) : Le (run A rows) (run B rows) := by
  induction rows generalizing A B with
  | nil => exact h
  | cons w r ih => exact ih (step_le h w.1 (Int.le_refl _))
theorem run_lip {A B : Tab} {d : Int} (rows : List Row) (h : Lip d A B) : Lip d (run A rows) (run B rows) := by
  induction rows generalizing A B with
  | nil => exact h
  | cons w r ih => exact ih (step_lip h w.1 w.2)
/-- one price raised -/
theorem raise_le (T : Tab) (a b : List Row) (g : Nat) {p q : Int} (h : p ≤ q) : Le (run T (a ++ (g, p) :: b)) (run T (a ++ (g, q) :: b)) := by
  rw [run_append, run_append, run_cons, run_cons]
  exact run_le b (step_le (fun j r => eLe_refl _) g h)
theorem raise_lip (T : Tab) (a b : List Row) (g : Nat) (p : Int) {d : Int} (h : 0 ≤ d) : Lip d (run T (a ++ (g, p) :: b)) (run T (a ++ (g, p + d) :: b)) := by
  rw [run_append, run_append, run_cons, run_cons]
  refine run_lip b fun j r => ?_
  by_cases hj : j = g
  · subst hj
    show eLe (step _ j (p + d) j r) (eAdd (step _ j p j r) d)
    rw [step_at, step_at, eMin_add, eMin_add, eAdd_add]
    exact eMin_mono (eMin_mono (le_eAdd _ h) (eLe_refl _)) (le_eAdd _ h)
  · show eLe (step _ g (p + d) j r) (eAdd (step _ g p j r) d)
    rw [step_off _ _ _ hj, step_off _ _ _ hj]
    exact le_eAdd _ h

/-! ### the tables' shape: further columns and fewer steps -/
structure Good (T : Tab) : Prop where
  down : ∀ j r, eLe (T (j + 1) r) (T j r)
  side : ∀ j r, eLe (T j (r + 1)) (T (j + 1) r)
theorem Good.diag {T : Tab} (h : Good T) (g r : Nat) : eLe (T g r) (diag T g r) := by
  cases r with
  | zero => exact eLe_none _
  | succ r => exact h.side g r
theorem first_good (k : Nat) : Good (first k) := by
  refine ⟨fun j r => ?_, fun j r => ?_⟩
  · show eLe (if k - (j + 1) ≤ r then some 0 else none) (if k - j ≤ r then some 0 else none)
    by_cases h : k - j ≤ r
    · rw [if_pos h, if_pos (by omega)]
      exact eLe_refl _
    · rw [if_neg h]
      exact eLe_none _
  · show eLe (if k - j ≤ r + 1 then some 0 else none) (if k - (j + 1) ≤ r then some 0 else none)
    by_cases h : k - (j + 1) ≤ r
    · rw [if_pos h, if_pos (by omega)]
      exact eLe_refl _
    · rw [if_neg h]
      exact eLe_none _
theorem step_grow {T : Tab} (h : Good T) {g : Nat} {p : Int} (hg : 1 ≤ g) (hp : 0 ≤ p) : Le T (step T g p) := fun j r => by
  by_cases hj : j = g
  · subst hj
    rw [step_at]
    have e : j - 1 + 1 = j := by omega
    have d := h.down (j - 1) r
    rw [e] at d
    exact le_eMin (le_eMin d (le_eAdd _ hp)) (h.diag _ _)
  · rw [step_off _ _ _ hj]
    exact eLe_refl _
theorem step_good {T : Tab} (h : Good T) {g : Nat} {p : Int} (hg : 1 ≤ g) (hp : 0 ≤ p) : Good (step T g p) := by
  refine ⟨fun j r => ?_, fun j r => ?_⟩
  · by_cases h1 : j + 1 = g
    · subst h1
      rw [step_at, step_off _ _ _ (show j ≠ j + 1 by omega)]
      exact eLe_trans (eMin_left _ _) (eMin_left _ _)
    · rw [step_off _ _ _ h1]
      exact eLe_trans (h.down j r) (step_grow h hg hp j r)
  · by_cases h1 : j = g
    · subst h1
      rw [step_at, step_off _ _ _ (show j + 1 ≠ j by omega)]
      exact eMin_right _ _
    · rw [step_off _ _ _ h1]
      exact eLe_trans (h.side j r) (step_grow h hg hp (j + 1) r)
/-- what the comparisons of a schedule with n places are -/
def Ok (n : Nat) (rows : List Row) : Prop := ∀ w ∈ rows, 1 ≤ w.1 ∧ w.1 < n ∧ 0 ≤ w.2
theorem run_good {T : Tab} {n : Nat} {rows : List Row} (h : Good T) (ok : Ok n rows) : Good (run T rows) := by
  induction rows generalizing T with
  | nil => exact h
  | cons w r ih =>
    have o := ok w (List.mem_cons_self ..)
    exact ih (step_good h o.1 o.2.2) fun v hv => ok v (List.mem_cons_of_mem _ hv)
theorem tab_good {k n : Nat} {rows : List Row} (ok : Ok n rows) : Good (tab k rows) := run_good (first_good k) ok
/-- without one comparison -/
theorem without_le {k n : Nat} {a b : List Row} {g : Nat} {p : Int} (ok : Ok n a) (hg : 1 ≤ g) (hp : 0 ≤ p) : Le (tab k (a ++ b)) (tab k (a ++ (g, p) :: b)) := by
  unfold tab
  rw [run_append, run_append, run_cons]
  exact run_le b (step_grow (run_good (first_good k) ok) hg hp)
theorem without_lip {k : Nat} {a b : List Row} {g : Nat} {p : Int} (hp : 0 ≤ p) : Lip p (tab k (a ++ b)) (tab k (a ++ (g, p) :: b)) := by
  unfold tab
  rw [run_append, run_append, run_cons]
  refine run_lip b fun j r => ?_
  by_cases hj : j = g
  · subst hj
    show eLe (step _ j p j r) _
    rw [step_at]
    exact eLe_trans (eMin_left _ _) (eMin_right _ _)
  · show eLe (step _ g p j r) _
    rw [step_off _ _ _ hj]
    exact le_eAdd _ hp
/-- all prices so many times as great -/
theorem scale_run {m : Int} (hm : 0 < m) (rows : List Row) : ∀ (A B : Tab), (∀ j r, B j r = eMul (A j r) m) → ∀ j r, run B (rows.map fun w => (w.1, w.2 * m)) j r = eMul (run A rows j r) m := by
  induction rows with
  | nil => exact fun A B h => h
  | cons w rs ih =>
    intro A B h
    refine ih (step A w.1 w.2) (step B w.1 (w.2 * m)) fun j r => ?_
    by_cases hj : j = w.1
    · subst hj
      have hd : diag B w.1 r = eMul (diag A w.1 r) m := by
        cases r with
        | zero => rfl
        | succ r => exact h _ _
      rw [step_at, step_at, eMul_min _ _ hm, eMul_min _ _ hm, eMul_add, h, h, hd]
    · rw [step_off _ _ _ hj, step_off _ _ _ hj, h]
theorem scale_tab {m : Int} (hm : 0 < m) (k : Nat) (rows : List Row) (j r : Nat) : tab k (rows.map fun w => (w.1, w.2 * m)) j r = eMul (tab k rows j r) m := by
  refine scale_run hm rows (first k) (first k) (fun j r => ?_) j r
  unfold first
  split
  · show some (0 : Int) = some (0 * m)
    rw [Int.zero_mul]
  · rfl
/-- with price 0 for all -/
theorem zero_run {T : Tab} {rows : List Row} (h0 : ∀ j r v, T j r = some v → v = 0) (hz : ∀ w ∈ rows, w.2 = 0) : ∀ j r v, run T rows j r = some v → v = 0 := by
  induction rows generalizing T with
  | nil => exact h0
  | cons w rs ih =>
    refine ih (fun j r v hv => ?_) fun v hv => hz v (List.mem_cons_of_mem _ hv)
    have hv : step T w.1 w.2 j r = some v := hv
    have e0 : w.2 = 0 := hz w (List.mem_cons_self ..)
    by_cases hj : j = w.1
    · subst hj
      rw [step_at, e0] at hv
      have key : ∀ a b : Pr, (∀ v, a = some v → v = 0) → (∀ v, b = some v → v = 0) → ∀ v, eMin a b = some v → v = 0 := by
        intro a b ha hb v e
        cases a with
        | none => exact hb v e
        | some x =>
          cases b with
          | none => exact ha v e
          | some y =>
            have ex := ha x rfl
            have ey := hb y rfl
            subst ex ey
            exact (Option.some.inj e).symm
      refine key _ _ (key _ _ (h0 _ _) fun v e => ?_) (fun v e => ?_) v hv
      · cases hT : T w.1 r with
        | none =>
          rw [hT] at e
          cases e
        | some x =>
          rw [hT] at e
          have := h0 _ _ x hT
          have e2 : x + 0 = v := Option.some.inj e
          omega
      · cases r with
        | zero => cases e
        | succ r => exact h0 _ _ v e
    · rw [step_off _ _ _ hj] at hv
      exact h0 _ _ v hv
theorem zero_tab {k : Nat} {rows : List Row} (hz : ∀ w ∈ rows, w.2 = 0) {j r : Nat} {v : Int} (h : tab k rows j r = some v) : v = 0 :=
  zero_run (T := first k) (fun j r v hv => by
    unfold first at hv
    split at hv
    · exact (Option.some.inj hv).symm
    · cases hv) hz j r v h
/-- what is there stays there -/
theorem run_there {T : Tab} {rows : List Row} {j r : Nat} (h : T j r ≠ none) : run T rows j r ≠ none := by
  induction rows generalizing T with
  | nil => exact h
  | cons w rs ih =>
    refine ih fun e => ?_
    have e : step T w.1 w.2 j r = none := e
    by_cases hj : j = w.1
    · subst hj
      rw [step_at] at e
      have l := eMin_left (eMin (T (w.1 - 1) r) (eAdd (T w.1 r) w.2)) (diag T w.1 r)
      rw [e] at l
      have l2 := eLe_trans l (eMin_right _ _)
      cases hT : T w.1 r with
      | none => exact h hT
      | some x =>
        rw [hT] at l2
        exact l2
    · rw [step_off _ _ _ hj] at e
      exact h e
theorem first_zero {k j r : Nat} {v : Int} (h : first k j r = some v) : v = 0 := by
  unfold first at h
  split at h
  · exact (Option.some.inj h).symm
  · cases h

/-! ### the least price -/
/-- what a cell of the demands asks of the tables -/
def entry (d : Nat → Nat → Nat) (rows : List Row) (k t : Nat) : Pr := if 0 < d k t then tab k rows t (d k t - 1) else none
structure Cost (n : Nat) (d : Nat → Nat → Nat) (rows : List Row) (c : Int) : Prop where
  here : ∃ k t, 1 ≤ k ∧ k < n ∧ 1 ≤ t ∧ t < n ∧ entry d rows k t = some c
  least : ∀ k t q, 1 ≤ k → k < n → 1 ≤ t → t < n → entry d rows k t = some q → c ≤ q
section
variable {n : Nat} {d : Nat → Nat → Nat} {rows rows' : List Row} {c c' : Int}
theorem Cost.uniq (h : Cost n d rows c) (h' : Cost n d rows c') : c = c' := by
  obtain ⟨k, t, a1, a2, a3, a4, e⟩ := h.here
  obtain ⟨k', t', b1, b2, b3, b4, e'⟩ := h'.here
  have x := h.least _ _ _ b1 b2 b3 b4 e'
  have y := h'.least _ _ _ a1 a2 a3 a4 e
  omega
/-- entries that are nowhere greater than others and p -/
theorem Cost.lip {p : Int} (h : Cost n d rows c) (h' : Cost n d rows' c') (l : ∀ k, Lip p (tab k rows) (tab k rows')) : c' ≤ c + p := by
  obtain ⟨k, t, a1, a2, a3, a4, e⟩ := h.here
  have el : eLe (entry d rows' k t) (eAdd (entry d rows k t) p) := by
    unfold entry
    split
    · exact l k _ _
    · trivial
  rw [e] at el
  cases e' : entry d rows' k t with
  | none =>
    rw [e'] at el
    exact el.elim
  | some q =>
    rw [e'] at el
    have el : q ≤ c + p := el
    have := h'.least _ _ _ a1 a2 a3 a4 e'
    omega
theorem Cost.le (h : Cost n d rows c) (h' : Cost n d rows' c') (l : ∀ k, Le (tab k rows') (tab k rows)) : c' ≤ c := by
  have := h.lip (p := 0) h' fun k j r => by
    have e : eAdd (tab k rows j r) 0 = tab k rows j r := by
      cases tab k rows j r with
      | none => rfl
      | some x => exact congrArg some (Int.add_zero x)
    rw [e]
    exact l k j r
  omega
theorem Cost.scale {m : Int} (hm : 0 < m) (h : Cost n d rows c) : Cost n d (rows.map fun w => (w.1, w.2 * m)) (c * m) := by
  have en : ∀ k t, entry d (rows.map fun w => (w.1, w.2 * m)) k t = eMul (entry d rows k t) m := fun k t => by
    unfold entry
    split
    · exact scale_tab hm _ _ _ _
    · rfl
  refine ⟨?_, fun k t q a1 a2 a3 a4 e => ?_⟩
  · obtain ⟨k, t, a1, a2, a3, a4, e⟩ := h.here
    refine ⟨k, t, a1, a2, a3, a4, ?_⟩
    rw [en, e]
    rfl
  · rw [en] at e
    cases e' : entry d rows k t with
    | none =>
      rw [e'] at e
      cases e
    | some x =>
      rw [e'] at e
      have e2 : x * m = q := Option.some.inj e
      have := h.least _ _ _ a1 a2 a3 a4 e'
      rw [← e2]
      exact Int.mul_le_mul_of_nonneg_right this (Int.le_of_lt hm)
theorem Cost.zero (hz : ∀ w ∈ rows, w.2 = 0) (h : Cost n d rows c) : c = 0 := by
  obtain ⟨k, t, _, _, _, _, e⟩ := h.here
  unfold entry at e
  split at e
  · exact zero_tab hz e
  · cases e
end

/-! ### the demands of an order -/
/-- how many of the first k are t or more -/
def dem (xs : List Nat) (k t : Nat) : Nat := ((xs.take k).filter fun x => decide (t ≤ x)).length
theorem dem_le (xs : List Nat) (k t : Nat) : dem xs k t ≤ k := by
  unfold dem
  exact Nat.le_trans (List.length_filter_le _ _) (by rw [List.length_take]; exact Nat.min_le_left _ _)
theorem dem_succ {xs : List Nat} {k x : Nat} (t : Nat) (h : xs[k]? = some x) : dem xs (k + 1) t = dem xs k t + if t ≤ x then 1 else 0 := by
  unfold dem
  rw [List.take_add_one, h, List.filter_append, List.length_append]
  congr 1
  show (List.filter (fun x => decide (t ≤ x)) [x]).length = _
  by_cases hx : t ≤ x
  · rw [if_pos hx, List.filter_cons, if_pos (decide_eq_true hx)]
    rfl
  · rw [if_neg hx, List.filter_cons, if_neg (fun z => hx (of_decide_eq_true z))]
    rfl
theorem dem_zero (xs : List Nat) (t : Nat) : dem xs 0 t = 0 := rfl
/-- an order: each of 0 .. n - 1 once, said by what the proof asks -/
structure Order (n : Nat) (xs : List Nat) : Prop where
  len : xs.length = n
  lt : ∀ x ∈ xs, x < n
  nd : xs.Nodup
theorem unsorted_first {n : Nat} {xs : List Nat} (o : Order n xs) (h : xs ≠ List.range n) : ∃ p x : Nat, xs[p]? = some x ∧ p < x := by
  refine Classical.byContradiction fun no => h ?_
  have hle : ∀ p x : Nat, xs[p]? = some x → x ≤ p := fun p x e => Nat.le_of_not_lt fun z => no ⟨p, x, e, z⟩
  have heq : ∀ p : Nat, ∀ x : Nat, xs[p]? = some x → x = p := by
    intro p
    induction p using Nat.strongRecOn with
    | ind p ih =>
      intro x e
      have h1 := hle p x e
      refine Classical.byContradiction fun ne => ?_
      have hx : x < p := by omega
      have hp : p < xs.length := (List.getElem?_eq_some_iff.mp e).1
      have hxl : x < xs.length := by omega
      have e2 : xs[x]? = some xs[x] := List.getElem?_eq_getElem hxl
      have e3 := ih x hx _ e2
      have e4 : xs[x]? = xs[p]? := by rw [e, e2, e3]
      obtain ⟨h3, e5⟩ := List.getElem?_eq_some_iff.mp e
      have e6 : xs[x] = xs[p] := by rw [e5, e3]
      have := (List.getElem_inj o.nd).mp e6
      omega
  refine List.ext_getElem? fun i => ?_
  by_cases hi : i < xs.length
  · have e2 : xs[i]? = some xs[i] := List.getElem?_eq_getElem hi
    rw [e2, heq i _ e2, List.getElem?_range (by rw [← o.len]; exact hi)]
  · rw [List.getElem?_eq_none (by omega), List.getElem?_eq_none (by rw [List.length_range, ← o.len]; omega)]
/-- an order that is not sorted has a demand that no schedule bears at all misses -/
theorem entry_there {n : Nat} {xs : List Nat} (o : Order n xs) (h : xs ≠ List.range n) (rows : List Row) :
    ∃ k t, 1 ≤ k ∧ k < n ∧ 1 ≤ t ∧ t < n ∧ entry (dem xs) rows k t ≠ none := by
  obtain ⟨p, x, e, hx⟩ := unsorted_first o h
  have hxn : x < n := o.lt x (List.mem_of_getElem? e)
  have hd : 0 < dem xs (p + 1) (p + 1) := by
    rw [dem_succ (p + 1) e, if_pos (by omega)]
    omega
  refine ⟨p + 1, p + 1, by omega, by omega, by omega, by omega, ?_⟩
  unfold entry
  rw [if_pos hd]
  refine run_there fun z => ?_
  unfold first at z
  rw [if_pos (by omega)] at z
  cases z

/-! ### the walk back -/
theorem eMin3 {a b c : Pr} {v : Int} (h : eMin (eMin a b) c = some v) (ha : a ≠ some v) (hc : c ≠ some v) : b = some v := by
  have key : ∀ a b : Pr, ∀ v, eMin a b = some v → a = some v ∨ b = some v := by
    intro a b v e
    cases a with
    | none => exact .inr e
    | some x =>
      cases b with
      | none => exact .inl e
      | some y =>
        have e : (if y < x then y else x) = v := Option.some.inj e
        split at e
        · exact .inr (congrArg some e)
        · exact .inl (congrArg some e)
  rcases key _ _ _ h with h | h
  · rcases key _ _ _ h with h | h
    · exact absurd h ha
    · exact h
  · exact absurd h hc

/-- the least of some prices, as the program finds it -/
def leastOf (l : List Pr) : Pr := match l.filterMap id with
  | [] => none
  | y :: ys => some (ys.foldl (fun a y => if y < a then y else a) y)
theorem leastOf2 (a b : Pr) : leastOf [a, b] = eMin a b := by
  cases a <;> cases b <;> rfl
theorem leastOf3 (a b c : Pr) : leastOf [a, b, c] = eMin (eMin a b) c := by
  cases a <;> cases b <;> cases c <;> rfl
end K57
/-! The text by places, heap relations, own rules. -/
namespace K57
open PySem PySem.Spec PyProof.Rows L2
/-! ### the text by places -/
def top (i : Nat) : Stmt := PySem.Challenge.pw_bearsmisses_k57_whole_prices_changed.main.body.getD i (.Pass ⟨0, 0, 0, 0⟩)
abbrev kls (j : Nat) : Stmt := inClass (top 33) j

/-! ### heaps -/
theorem same_new {H : Hp} {p : Addr} {o : HO} (h : H p = none) : Same H (upd H p o) := fun b x e => by
  rw [upd_ne (ne_of_none e h)]
  exact e
/-- a thing that H did not know changes -/
theorem same_mut {H H' : Hp} {p : Addr} {o : HO} (s : Same H H') (h : H p = none) : Same H (upd H' p o) := fun b x e => by
  rw [upd_ne (ne_of_none e h)]
  exact s b x e
/-- a new thing, its heap named -/
@[elab_as_elim] theorem newE {H : Hp} {p : Addr} {o : HO} {motive : Hp → Prop} (np : H p = none) (h : ∀ H1, Same H H1 → H1 p = some o → motive H1) : motive (upd H p o) := h _ (same_new np) upd_same
theorem free_of {H H' : Hp} {p : Addr} (s : Same H H') (h : H' p = none) : H p = none := s.free h
/-- all but what stands at b is as it was -/
def SameB (b : Addr) (H H' : Hp) : Prop := ∀ a o, a ≠ b → H a = some o → H' a = some o
theorem SameB.of {b : Addr} {H H' : Hp} (s : Same H H') : SameB b H H' := fun a o _ e => s a o e
/-- a thing written anew, its heap named -/
@[elab_as_elim] theorem newU {H : Hp} {p : Addr} {o : HO} {motive : Hp → Prop} (h : ∀ H1, SameB p H H1 → H1 p = some o → motive H1) : motive (upd H p o) := h _ (fun a u ne e => by rw [upd_ne ne]; exact e) upd_same
theorem SameB.refl (b : Addr) (H : Hp) : SameB b H H := fun _ _ _ e => e
theorem SameB.trans {b : Addr} {H H1 H2 : Hp} (a : SameB b H H1) (c : SameB b H1 H2) : SameB b H H2 := fun x o n e => c x o n (a x o n e)

/-! ### data in heaps -/
def eV : Pr → V
  | none => .non
  | some i => .int i
/-- what a relation to the heap must bear -/
def Keeps {α : Type} (R : Hp → V → α → Prop) : Prop := ∀ {H H' : Hp} {v : V} {x : α}, Same H H' → R H v x → R H' v x
/-- a list each of whose items is R to an item of xs -/
def LsAt {α : Type} (R : Hp → V → α → Prop) (H : Hp) (v : V) (xs : List α) : Prop :=
  ∃ a vs, v = .ref a ∧ H a = some (.lst vs) ∧ vs.length = xs.length ∧ ∀ (i : Nat) c x, vs[i]? = some c → xs[i]? = some x → R H c x
theorem LsAt.mono {α : Type} {R : Hp → V → α → Prop} (k : ∀ {H H' : Hp} {v : V} {x : α}, Same H H' → R H v x → R H' v x) {H H' : Hp} {v : V} {xs : List α} (s : Same H H') (h : LsAt R H v xs) : LsAt R H' v xs := by
  obtain ⟨a, vs, e, ha, hl, hr⟩ := h
  exact ⟨a, vs, e, s _ _ ha, hl, fun i c x h1 h2 => k s (hr i c x h1 h2)⟩
/-- a comparison: a pair of its gate and its price -/
def RowAt (H : Hp) (v : V) (w : Row) : Prop := ∃ c, v = .ref c ∧ H c = some (.tup [.int (w.1 : Int), .int w.2])
theorem RowAt.mono {H H' : Hp} {v : V} {w : Row} (s : Same H H') (h : RowAt H v w) : RowAt H' v w := by
  obtain ⟨c, e, hc⟩ := h
  exact ⟨c, e, s _ _ hc⟩
def RowsAt (H : Hp) (v : V) (rows : List Row) : Prop := LsAt RowAt H v rows
theorem RowsAt.mono {H H' : Hp} {v : V} {rows : List Row} (s : Same H H') (h : RowsAt H v rows) : RowsAt H' v rows := LsAt.mono (R := RowAt) (fun {_ _ _ _} s h => RowAt.mono s h) s h
/-- a list of ints -/
def IntsAt (H : Hp) (v : V) (ns : List Int) : Prop := ∃ a, v = .ref a ∧ H a = some (.lst (ns.map V.int))
theorem IntsAt.mono {H H' : Hp} {v : V} {ns : List Int} (s : Same H H') (h : IntsAt H v ns) : IntsAt H' v ns := by
  obtain ⟨c, e, hc⟩ := h
  exact ⟨c, e, s _ _ hc⟩
/-- a column of prices, for 0 .. s steps -/
def colV (f : Nat → Pr) (s : Nat) : List V := (List.range (s + 1)).map fun r => eV (f r)
theorem colV_len (f : Nat → Pr) (s : Nat) : (colV f s).length = s + 1 := by
  unfold colV
  rw [List.length_map, List.length_range]
theorem colV_at {f : Nat → Pr} {s r : Nat} (h : r ≤ s) : (colV f s)[r]? = some (eV (f r)) := by
  unfold colV
  rw [List.getElem?_map, List.getElem?_range (by omega)]
  rfl
theorem colV_congr {f g : Nat → Pr} {s : Nat} (h : ∀ r, r ≤ s → f r = g r) : colV f s = colV g s := by
  unfold colV
  refine List.map_congr_left fun r hr => ?_
  rw [h r (by have := List.mem_range.mp hr; omega)]
def ColAt (s : Nat) (H : Hp) (v : V) (f : Nat → Pr) : Prop := ∃ c, v = .ref c ∧ H c = some (.lst (colV f s))
theorem ColAt.mono {s : Nat} {H H' : Hp} {v : V} {f : Nat → Pr} (e : Same H H') (h : ColAt s H v f) : ColAt s H' v f := by
  obtain ⟨c, e1, hc⟩ := h
  exact ⟨c, e1, e _ _ hc⟩
/-- a table: its columns 0 .. n -/
def TabAt (n s : Nat) (H : Hp) (v : V) (T : Tab) : Prop := ∃ a cs, v = .ref a ∧ H a = some (.lst cs) ∧ cs.length = n + 1 ∧ ∀ (j : Nat) c, cs[j]? = some c → ColAt s H c (T j)
theorem TabAt.mono {n s : Nat} {H H' : Hp} {v : V} {T : Tab} (e : Same H H') (h : TabAt n s H v T) : TabAt n s H' v T := by
  obtain ⟨a, cs, e1, ha, hl, hr⟩ := h
  exact ⟨a, cs, e1, e _ _ ha, hl, fun j c h1 => (hr j c h1).mono e⟩
/-- the tables behind 0, 1, .. comparisons -/
def WalkAt (n s k : Nat) (rows : List Row) (H : Hp) (v : V) : Prop := ∃ a ts, v = .ref a ∧ H a = some (.lst ts) ∧ ts.length = rows.length + 1 ∧ ∀ (i : Nat) t, ts[i]? = some t → TabAt n s H t (tab k (rows.take i))
theorem WalkAt.mono {n s k : Nat} {rows : List Row} {H H' : Hp} {v : V} (e : Same H H') (h : WalkAt n s k rows H v) : WalkAt n s k rows H' v := by
  obtain ⟨a, ts, e1, ha, hl, hr⟩ := h
  exact ⟨a, ts, e1, e _ _ ha, hl, fun j c h1 => (hr j c h1).mono e⟩
/-- a row of demands, for 0 .. n -/
def demV (n : Nat) (f : Nat → Nat) : List V := (List.range (n + 1)).map fun t => V.int (f t : Int)
theorem demV_len (n : Nat) (f : Nat → Nat) : (demV n f).length = n + 1 := by
  unfold demV
  rw [List.length_map, List.length_range]
theorem demV_at {n : Nat} {f : Nat → Nat} {t : Nat} (h : t ≤ n) : (demV n f)[t]? = some (.int (f t : Int)) := by
  unfold demV
  rw [List.getElem?_map, List.getElem?_range (by omega)]
  rfl
def DemAt (n : Nat) (H : Hp) (v : V) (d : Nat → Nat → Nat) : Prop := ∃ a rs, v = .ref a ∧ H a = some (.lst rs) ∧ rs.length = n + 1 ∧ ∀ (k : Nat) c, rs[k]? = some c → ∃ b, c = .ref b ∧ H b = some (.lst (demV n (d k)))
theorem DemAt.mono {n : Nat} {H H' : Hp} {v : V} {d : Nat → Nat → Nat} (e : Same H H') (h : DemAt n H v d) : DemAt n H' v d := by
  obtain ⟨a, rs, e1, ha, hl, hr⟩ := h
  refine ⟨a, rs, e1, e _ _ ha, hl, fun k c h1 => ?_⟩
  obtain ⟨b, e2, hb⟩ := hr k c h1
  exact ⟨b, e2, e _ _ hb⟩
theorem big {n : Nat} (h : n ≤ 100000) : n ≤ sizeLine := Nat.le_trans h (by decide)
theorem bigL {n : Nat} (h : n < 100000) : n < sizeLine := Nat.lt_of_lt_of_le h (by decide)

/-! ### own rules -/
section
variable {X : Cx}
/-- the read of xs[i] in xs[i] op= e -/
def rGetL (K : PySem.W.Frag) : V → V → Hp → VK → Prop := fun o i H Q => ∃ p xs k j v, o = .ref p ∧ i = .int k ∧ SqL K H p xs ∧ 0 ≤ k ∧ k = ((j : Nat) : Int) ∧ xs[j]? = some v ∧ Q v H
theorem get_list : PGet X (rGetL X.K) := by
  intro pins s σ H o i ov iv Q I ro ri h
  obtain ⟨p, xs, k, j, v, rfl, rfl, hq, h0, hk, hv, q⟩ := h
  cases ro
  obtain ⟨t, rfl⟩ := ri
  obtain ⟨its, r, pl, hz⟩ := I.list hq
  obtain ⟨w, ew, rw'⟩ := r.get hv
  have hl := r.length
  have hn := line63
  have hj : j < xs.length := (List.getElem?_eq_some_iff.mp hv).1
  exact wpAny_getItem_list pl.isList h0 (by omega) (by rw [hk, Int.toNat_natCast]; simpa using ew) ⟨v, H, I, rw', q⟩
/-- min(xs, default=None) of a list of ints -/
def rMinD (K : PySem.W.Frag) : List V → List V → Hp → VK → Prop := fun vs zs H Q => ∃ (a : Addr) (ns : List Int), vs = [.ref a] ∧ zs = [.non] ∧ SqL K H a (ns.map V.int) ∧
  Q (match ns with | [] => .non | y :: ys => .int (ys.foldl (fun a y => if y < a then y else a) y)) H
theorem cr_minD (hc : X.calm = true) (hu : X.A.units + 64 < cLine) : CallRK X (.builtin "min") [Str.ofString "default"] (rMinD X.K) := by
  intro pins s σ H vs zs us ws Q I r rz h
  obtain ⟨a, ns, rfl, rfl, hs, q⟩ := h
  obtain rfl := Vals.ref1 r
  obtain ⟨w1, rfl, e1⟩ := vals1 rz
  obtain rfl : w1 = Value.none := e1
  obtain ⟨its, rv, pl, hz⟩ := I.list hs
  have hi : IntsAre its ns := rv.ints
  have hh : PySem.W.HoldAll s.heap its.toArray.toList ns := ⟨[], ints_readAll s.heap hi⟩
  refine PySem.W.min_list_datum_default (I.ok.hd hc) pl.isList hh (by show X.A.units + 1 + 0 < cLine; omega) (fun e h' tk hk => ?_) (fun y ys i v h' tk e hv hd hk => ?_)
  · subst e
    exact ⟨.non, H, I.kept (t' := tk) hk, rfl, q⟩
  · subst e
    obtain ⟨as, hr⟩ := hd
    have em : PySem.W.minOf y ys = ys.foldl (fun a y => if y < a then y else a) y := by
      unfold PySem.W.minOf
      refine congrArg (fun f => List.foldl f y ys) ?_
      funext a y
      show (if decide (y < a) = true then y else a) = _
      by_cases hlt : y < a
      · rw [if_pos hlt, if_pos (decide_eq_true hlt)]
      · rw [if_neg hlt, if_neg (fun z => hlt (of_decide_eq_true z))]
    rw [em] at hr
    obtain ⟨t, rfl⟩ : ∃ t, v = Value.int (ys.foldl (fun a y => if y < a then y else a) y) t := by
      cases hr
      exact ⟨_, rfl⟩
    exact ⟨.int _, H, I.kept (t' := tk) hk, ⟨t, rfl⟩, q⟩
end

/-! ### comprehensions whose items each come to something: whatever is walked -/
theorem lcAny {J : It} {n : Nat} {g : TG} {te : TE} {vs : List Nat} {σ : L2.St} {H1 : Hp} {D : Addr} {Qd : Hp → Prop} (hD : H1 D = none) (R : Nat → V → Hp → Prop) (hn : n ≤ 90000)
    (go : ∀ i H, i < n → Same H1 H → J.go i H) (stop : ∀ H, Same H1 H → J.stop n H)
    (turn : ∀ i H (Kt : VK), i < n → Same H1 H → H D ≠ none → (∀ v H', Same H H' → (∀ H2, SameB D H' H2 → R i v H2) → Kt v H') →
      ∀ x H', J.yld i H x H' → g x (wipe σ vs) H' fun σ2 H2 => wipe σ2 vs = wipe σ vs ∧ te σ2 H2 Kt)
    (hQ : ∀ xs H', Same H1 H' → H' D = some (.lst xs) → xs.length = n → (∀ (i : Nat) v, xs[i]? = some v → R i v H') → Qd H') :
    ∃ W : Nat → Nat → Hp → Prop, (∃ m, W 0 m (upd H1 D (.lst []))) ∧ ∀ i m H, W i m H →
      (J.stop i H ∧ Qd H) ∨ (J.go i H ∧ ∃ Nx : Hp → Prop, (∀ H', Nx H' → ∃ m', m' < m ∧ W (i + 1) m' H') ∧ ∀ x H', J.yld i H x H' → g x (wipe σ vs) H' fun σ2 H2 => wipe σ2 vs = wipe σ vs ∧ tYes σ2 H2 fun b H3 =>
        if b = true then te σ2 H3 fun y H4 => ∃ acc, H4 D = some (.lst acc) ∧ acc.length < sizeLine ∧ Nx (upd H4 D (.lst (acc ++ [y]))) else Nx H3) := by
  let P : Nat → Hp → Prop := fun i H => Same H1 H ∧ ∃ xs, H D = some (.lst xs) ∧ xs.length = i ∧ ∀ (j : Nat) v, xs[j]? = some v → ∀ H2, SameB D H H2 → R j v H2
  refine ⟨fun i m H => m = n - i ∧ i ≤ n ∧ P i H, ⟨n, by simp, Nat.zero_le _, same_new hD, [], upd_same, rfl, fun j v e => by simp at e⟩, ?_⟩
  rintro i m H ⟨rfl, hi, s1, xs, hx, hl, hr⟩
  by_cases hlt : i < n
  · refine .inr ⟨go i H hlt s1, P (i + 1), fun H' p' => ⟨n - (i + 1), by omega, rfl, hlt, p'⟩, fun x H' y => ?_⟩
    refine turn i H _ hlt s1 (by rw [hx]; exact fun z => nomatch z) (fun v H4 s2 hv => ?_) x H' y
    refine ⟨xs, s2 _ _ hx, bigL (by omega), same_mut (s1.trans s2) hD, xs ++ [v], upd_same, by rw [List.length_append, hl]; rfl, fun j w e H5 sb => ?_⟩
    have sb4 : SameB D H4 H5 := fun a o ne e => sb a o ne (by rw [upd_ne ne]; exact e)
    by_cases hj : j < xs.length
    · rw [List.getElem?_append_left hj] at e
      exact hr j w e H5 (fun a o ne e => sb4 a o ne (s2 _ _ e))
    · have hj2 : j = i := by
        have := (List.getElem?_eq_some_iff.mp e).1
        rw [List.length_append] at this
        have e1 : [v].length = 1 := rfl
        omega
      subst hj2
      rw [List.getElem?_append_right (by omega), hl, Nat.sub_self] at e
      cases e
      exact hv H5 sb4
  · have e : i = n := by omega
    subst e
    exact .inl ⟨stop H s1, hQ xs H s1 hx hl fun j v e => hr j v e H (SameB.refl _ _)⟩
/-- over range(lo, lo + n) -/
theorem lcRange {lo : Int} {n : Nat} {g : TG} {te : TE} {vs : List Nat} {σ : L2.St} {H1 : Hp} {D : Addr} {Qd : Hp → Prop} (hD : H1 D = none) (R : Nat → V → Hp → Prop) (hn : n ≤ 90000)
    (turn : ∀ i H (Kt : VK), i < n → Same H1 H → H D ≠ none → (∀ v H', Same H H' → (∀ H2, SameB D H' H2 → R i v H2) → Kt v H') →
      g (.int (lo + i)) (wipe σ vs) H fun σ2 H2 => wipe σ2 vs = wipe σ vs ∧ te σ2 H2 Kt)
    (hQ : ∀ xs H', Same H1 H' → H' D = some (.lst xs) → xs.length = n → (∀ (i : Nat) v, xs[i]? = some v → R i v H') → Qd H') :
    ∃ W : Nat → Nat → Hp → Prop, (∃ m, W 0 m (upd H1 D (.lst []))) ∧ ∀ i m H, W i m H →
      ((Itr lo n).stop i H ∧ Qd H) ∨ ((Itr lo n).go i H ∧ ∃ Nx : Hp → Prop, (∀ H', Nx H' → ∃ m', m' < m ∧ W (i + 1) m' H') ∧ ∀ x H', (Itr lo n).yld i H x H' → g x (wipe σ vs) H' fun σ2 H2 => wipe σ2 vs = wipe σ vs ∧ tYes σ2 H2 fun b H3 =>
        if b = true then te σ2 H3 fun y H4 => ∃ acc, H4 D = some (.lst acc) ∧ acc.length < sizeLine ∧ Nx (upd H4 D (.lst (acc ++ [y]))) else Nx H3) :=
  lcAny hD R hn (fun i H h _ => h) (fun H _ => Nat.le_refl n) (fun i H Kt h s b k x H' y => by
    obtain ⟨rfl, rfl⟩ := y
    exact turn i _ Kt h s b k) hQ
/-- over a list -/
theorem lcList {K : PySem.W.Frag} {a : Addr} {ys : List V} {g : TG} {te : TE} {vs : List Nat} {σ : L2.St} {H1 : Hp} {D : Addr} {Qd : Hp → Prop} (hD : H1 D = none) (R : Nat → V → Hp → Prop) (hn : ys.length ≤ 90000) (hs : SqL K H1 a ys)
    (turn : ∀ (i : Nat) x H (Kt : VK), ys[i]? = some x → Same H1 H → H D ≠ none → (∀ v H', Same H H' → (∀ H2, SameB D H' H2 → R i v H2) → Kt v H') →
      g x (wipe σ vs) H fun σ2 H2 => wipe σ2 vs = wipe σ vs ∧ te σ2 H2 Kt)
    (hQ : ∀ xs H', Same H1 H' → H' D = some (.lst xs) → xs.length = ys.length → (∀ (i : Nat) v, xs[i]? = some v → R i v H') → Qd H') :
    ∃ W : Nat → Nat → Hp → Prop, (∃ m, W 0 m (upd H1 D (.lst []))) ∧ ∀ i m H, W i m H →
      ((Itl K a).stop i H ∧ Qd H) ∨ ((Itl K a).go i H ∧ ∃ Nx : Hp → Prop, (∀ H', Nx H' → ∃ m', m' < m ∧ W (i + 1) m' H') ∧ ∀ x H', (Itl K a).yld i H x H' → g x (wipe σ vs) H' fun σ2 H2 => wipe σ2 vs = wipe σ vs ∧ tYes σ2 H2 fun b H3 =>
        if b = true then te σ2 H3 fun y H4 => ∃ acc, H4 D = some (.lst acc) ∧ acc.length < sizeLine ∧ Nx (upd H4 D (.lst (acc ++ [y]))) else Nx H3) :=
  lcAny hD R hn (fun i H h s => ⟨ys, ys[i], s.seq hs, List.getElem?_eq_getElem h⟩) (fun H s => ⟨ys, s.seq hs, Nat.le_refl _⟩) (fun i H Kt h s b k x H' y => by
    obtain ⟨rfl, fx⟩ := y
    exact turn i x _ Kt (fx _ (s.seq hs)) s b k) hQ
/-- over enumerate(list) -/
theorem lcEnum {K : PySem.W.Frag} {a : Addr} {ys : List V} {g : TG} {te : TE} {vs : List Nat} {σ : L2.St} {H1 : Hp} {D : Addr} {Qd : Hp → Prop} (hD : H1 D = none) (R : Nat → V → Hp → Prop) (hn : ys.length ≤ 90000) (hs : SqL K H1 a ys)
    (turn : ∀ (i : Nat) x T H (Kt : VK), ys[i]? = some x → Same H1 H → H D ≠ none → H T = some (.tup [.int (i : Nat), x]) → (∀ v H', Same H H' → (∀ H2, SameB D H' H2 → R i v H2) → Kt v H') →
      g (.ref T) (wipe σ vs) H fun σ2 H2 => wipe σ2 vs = wipe σ vs ∧ te σ2 H2 Kt)
    (hQ : ∀ xs H', Same H1 H' → H' D = some (.lst xs) → xs.length = ys.length → (∀ (i : Nat) v, xs[i]? = some v → R i v H') → Qd H') :
    ∃ W : Nat → Nat → Hp → Prop, (∃ m, W 0 m (upd H1 D (.lst []))) ∧ ∀ i m H, W i m H →
      ((Ite K a).stop i H ∧ Qd H) ∨ ((Ite K a).go i H ∧ ∃ Nx : Hp → Prop, (∀ H', Nx H' → ∃ m', m' < m ∧ W (i + 1) m' H') ∧ ∀ x H', (Ite K a).yld i H x H' → g x (wipe σ vs) H' fun σ2 H2 => wipe σ2 vs = wipe σ vs ∧ tYes σ2 H2 fun b H3 =>
        if b = true then te σ2 H3 fun y H4 => ∃ acc, H4 D = some (.lst acc) ∧ acc.length < sizeLine ∧ Nx (upd H4 D (.lst (acc ++ [y]))) else Nx H3) :=
  lcAny hD R hn (fun i H h s => ⟨ys, ys[i], s.seq hs, List.getElem?_eq_getElem h⟩) (fun H s => ⟨ys, s.seq hs, Nat.le_refl _⟩) (fun i H Kt h s b k v H' y => by
    obtain ⟨T, x, rfl, nT, rfl, fx⟩ := y
    have sn := same_new (o := .tup [.int (i : Nat), x]) nT
    refine turn i x T _ Kt (fx _ (s.seq hs)) (s.trans sn) (fun z => b (sn.free z)) upd_same fun v H2 s2 hv => k v H2 (sn.trans s2) hv) hQ
/-- a for over whatever is walked -/
theorem forAny {J : It} {n : Nat} {g : TG} {tb : TS} {D : Ends} {σ : L2.St} {H : Hp} (Pv : Nat → L2.St → Hp → Prop) (h0 : Pv 0 σ H) (go : ∀ i σ H, i < n → Pv i σ H → J.go i H) (stop : ∀ σ H, Pv n σ H → J.stop n H)
    (turn : ∀ i σ H x H', i < n → Pv i σ H → J.yld i H x H' → g x σ H' fun σ2 H2 => tb { D with nx := Pv (i + 1), ct := Pv (i + 1), bk := D.nx } σ2 H2) (hd : ∀ σ H, Pv n σ H → D.nx σ H) :
    ∃ W : Nat → Nat → L2.St → Hp → Prop, (∃ m, W 0 m σ H) ∧ ∀ i m σ H, W i m σ H →
      (J.stop i H ∧ D.nx σ H) ∨ (J.go i H ∧ ∃ N : L2.St → Hp → Prop, (∀ σ' H', N σ' H' → ∃ m', m' < m ∧ W (i + 1) m' σ' H') ∧ ∀ x H', J.yld i H x H' → g x σ H' fun σ2 H2 => tb { D with nx := N, ct := N, bk := D.nx } σ2 H2) := by
  refine ⟨fun i m σ H => m = n - i ∧ i ≤ n ∧ Pv i σ H, ⟨n, by simp, Nat.zero_le _, h0⟩, ?_⟩
  rintro i m σ H ⟨rfl, hi, p⟩
  by_cases hlt : i < n
  · exact .inr ⟨go i σ H hlt p, Pv (i + 1), fun σ' H' p' => ⟨n - (i + 1), by omega, rfl, hlt, p'⟩, fun x H' y => turn i σ H x H' hlt p y⟩
  · have e : i = n := by omega
    subst e
    exact .inl ⟨stop σ H p, hd σ H p⟩
/-- over enumerate(list): the pair stands new at T -/
theorem forEnum {K : PySem.W.Frag} {a : Addr} {ys : List V} {g : TG} {tb : TS} {D : Ends} {σ : L2.St} {H : Hp} (Pv : Nat → L2.St → Hp → Prop) (h0 : Pv 0 σ H) (hl : ∀ i σ H, i ≤ ys.length → Pv i σ H → SqL K H a ys)
    (turn : ∀ (i : Nat) σ H x T H', ys[i]? = some x → Pv i σ H → H T = none → Same H H' → H' T = some (.tup [.int (i : Nat), x]) → g (.ref T) σ H' fun σ2 H2 => tb { D with nx := Pv (i + 1), ct := Pv (i + 1), bk := D.nx } σ2 H2) (hd : ∀ σ H, Pv ys.length σ H → D.nx σ H) :
    ∃ W : Nat → Nat → L2.St → Hp → Prop, (∃ m, W 0 m σ H) ∧ ∀ i m σ H, W i m σ H →
      ((Ite K a).stop i H ∧ D.nx σ H) ∨ ((Ite K a).go i H ∧ ∃ N : L2.St → Hp → Prop, (∀ σ' H', N σ' H' → ∃ m', m' < m ∧ W (i + 1) m' σ' H') ∧ ∀ x H', (Ite K a).yld i H x H' → g x σ H' fun σ2 H2 => tb { D with nx := N, ct := N, bk := D.nx } σ2 H2) :=
  forAny Pv h0 (fun i σ H h p => ⟨ys, ys[i], hl i σ H (Nat.le_of_lt h) p, List.getElem?_eq_getElem h⟩) (fun σ H p => ⟨ys, hl _ σ H (Nat.le_refl _) p, Nat.le_refl _⟩) (fun i σ H v H' h p y => by
    obtain ⟨T, x, rfl, nT, rfl, fx⟩ := y
    exact turn i σ H x T _ (fx _ (hl i σ H (Nat.le_of_lt h) p)) p nT (same_new nT) upd_same) hd
/-- what a SameB of a later heap says of an elder one -/
theorem sameUp {D : Addr} {H1 H H2 : Hp} (s : Same H1 H) (hD : H1 D = none) (sb : SameB D H H2) : Same H1 H2 := fun a o e => sb a o (ne_of_none e hD) (s a o e)
theorem ne_new {H : Hp} {D p : Addr} (h : H D ≠ none) (np : H p = none) : p ≠ D := fun z => h (by rw [← z]; exact np)

/-! ### defs -/
section
variable {P : Program} {w : World} {K : PySem.W.Frag} {mg : Str → Option Value} {base : Heap}
/-- a def of the module as the top left it, its parameters ps -/
structure DefIn (K : PySem.W.Frag) (mg : Str → Option Value) (x : Str) (st : Stmt) (ps : List Str) : Prop where
  ex : ∃ (f : Addr) (fd : FuncData), C8.Def K mg x st f fd ∧ Binds K fd ps []
theorem DefIn.cal {x : Str} {st : Stmt} {N ps : List Str} {k : Nat} {sp : Sp} (D : DefIn K mg x st ps) (S : FnScope N ps (C8.fnScope st)) (len : ∀ vs H Q E, sp vs H Q E → vs.length = ps.length)
    (hbody : ∀ (f : Addr) (cdv : Value) (A : Around) (outer : List Env) (s : Shared) (H : Hp) (vs : List V) (Q : VK) (E : XK), Room k (A.deeper (envOfC x (C8.fnScope st) s.heap.objs.size f cdv)) → sp vs H Q E →
      ∃ t, PSs (cxOf CX0 P w K mg base N x (C8.fnScope st) f cdv A outer s H E).nox (C8.fnBody st) t ∧ t { nx := fun _ H' => Q .non H', rt := Q } (start N vs) H) : C8.Cal P w K mg base (k + 1) x sp [] := by
  obtain ⟨f, fd, F, b⟩ := D.ex
  exact C8.cal0 F b .nil S len fun cdv A outer s H vs Q E hr h => hbody f cdv A outer s H vs Q E hr h
end
end K57
namespace K57
open PySem PySem.Spec PyProof.Rows L2
/-- the built-in names that the text leaves as they are -/
structure Bare (mg : Str → Option Value) : Prop where
  isi : mg "isinstance" = none
  int : mg "int" = none
  bool : mg "bool" = none
  tuple : mg "tuple" = none
  list : mg "list" = none
  len : mg "len" = none
  range : mg "range" = none
  enum : mg "enumerate" = none
  max : mg "max" = none
  min : mg "min" = none
  abs : mg "abs" = none
section
variable {P : Program} {w : World} {K : PySem.W.Frag} {mg : Str → Option Value} {base : Heap}
/-! ### is_integer -/
def spIsInt : Sp := fun vs H Q _ => ∃ i : Int, vs = [.int i] ∧ Q (.bl true) H
theorem cal_is_integer (D : DefIn K mg "is_integer" (top 5) ["thing"]) (B : Bare mg) : C8.Cal P w K mg base 1 "is_integer" spIsInt [] := by
  refine D.cal (N := ["thing"]) (C8.fnScope_by (by decide +kernel)) (fun vs H Q E h => ?_) (fun f cdv A outer s H vs Q E hr h => ?_)
  · obtain ⟨i, rfl, _⟩ := h
    rfl
  · obtain ⟨i, rfl, q⟩ := h
    refine ⟨_, pss_one (ps_ret (pe_and (pe_callB call_isi (by rfl) B.isi PyProof.Rows.boot_isinstance (pa_cons (pv 0) (pa_cons (pe_bltn (v := .ty "int") (by rfl) B.int PyProof.Rows.boot_int rfl) pa_nil)))
      (pe_one (pe_not (pe_callB call_isi (by rfl) B.isi PyProof.Rows.boot_isinstance (pa_cons (pv 0) (pa_cons (pe_bltn (v := .ty "bool") (by rfl) B.bool PyProof.Rows.boot_bool rfl) pa_nil))))))), ?_⟩
    refine ⟨_, rfl, _, _, _, _, true, rfl, .ty _, .base (.int i), kit_ty (by decide +kernel), true, rfl, ?_⟩
    refine iteT ?_
    exact ⟨_, rfl, _, _, _, _, false, rfl, .ty _, .base (.int i), kit_ty (by decide +kernel), false, rfl, q⟩
/-! ### is_between -/
def spBetween : Sp := fun vs H Q _ => ∃ i a b : Int, vs = [.int i, .int a, .int b] ∧ Q (.bl (decide (a ≤ i ∧ i ≤ b))) H
theorem cal_is_between (D : DefIn K mg "is_between" (top 6) ["thing", "low", "high"]) (c1 : C8.Cal P w K mg base 1 "is_integer" spIsInt []) : C8.Cal P w K mg base 2 "is_between" spBetween [] := by
  refine D.cal (N := ["thing", "low", "high"]) (C8.fnScope_by (by decide +kernel)) (fun vs H Q E h => ?_) (fun f cdv A outer s H vs Q E hr h => ?_)
  · obtain ⟨i, a, b, rfl, _⟩ := h
    rfl
  · obtain ⟨i, a, b, rfl, q⟩ := h
    refine ⟨_, pss_one (ps_ret (pe_and (C8.pe_c c1 hr (by decide) (by rfl) (pa_cons (pv 0) pa_nil)) (pe_one (pe_chain op_le op_le (pv 1) (pv 0) (pv 2))))), ?_⟩
    refine ⟨_, rfl, i, rfl, true, rfl, iteT ?_⟩
    refine ⟨_, rfl, _, rfl, a, i, rfl, rfl, _, rfl, ?_⟩
    by_cases h1 : a ≤ i
    · rw [decide_eq_true h1]
      refine iteT ⟨_, rfl, i, b, rfl, rfl, ?_⟩
      by_cases h2 : i ≤ b
      · show Q (.bl (decide (i ≤ b))) H
        rw [decide_eq_true h2]
        rw [decide_eq_true ⟨h1, h2⟩] at q
        exact q
      · show Q (.bl (decide (i ≤ b))) H
        rw [decide_eq_false h2]
        rw [decide_eq_false fun z => h2 z.2] at q
        exact q
    · rw [decide_eq_false h1]
      rw [decide_eq_false fun z => h1 z.1] at q
      exact iteF q
/-! ### is_price -/
def maxPrice : Int := 1000000000000000000
def spIsPrice : Sp := fun vs H Q _ => ∃ i : Int, vs = [.int i] ∧ Q (.bl (decide (0 ≤ i ∧ i ≤ maxPrice))) H
theorem cal_is_price (D : DefIn K mg "is_price" (top 7) ["thing"]) (c1 : C8.Cal P w K mg base 2 "is_between" spBetween []) (mp : ∃ u, mg "MAX_PRICE" = some u ∧ RelV (.int maxPrice) u) : C8.Cal P w K mg base 3 "is_price" spIsPrice [] := by
  refine D.cal (N := ["thing"]) (C8.fnScope_by (by decide +kernel)) (fun vs H Q E h => ?_) (fun f cdv A outer s H vs Q E hr h => ?_)
  · obtain ⟨i, rfl, _⟩ := h
    rfl
  · obtain ⟨i, rfl, q⟩ := h
    refine ⟨_, pss_one (ps_ret (C8.pe_c c1 hr (by decide) (by rfl) (pa_cons (pv 0) (pa_cons pe_int (pa_cons (C8.pe_gc (v := .int maxPrice) (by rfl) mp) pa_nil))))), ?_⟩
    exact ⟨_, rfl, i, 0, maxPrice, rfl, q⟩
/-! ### is_comparison -/
def spIsComp : Sp := fun vs H Q _ => ∃ (x : Row) (n : Nat) (v : V), vs = [v, .int (n : Int)] ∧ RowAt H v x ∧ 1 ≤ x.1 ∧ x.1 < n ∧ 0 ≤ x.2 ∧ x.2 ≤ maxPrice ∧ Q (.bl true) H
theorem cal_is_comparison (D : DefIn K mg "is_comparison" (top 8) ["thing", "places"]) (B : Bare mg) (c1 : C8.Cal P w K mg base 2 "is_between" spBetween []) (c2 : C8.Cal P w K mg base 3 "is_price" spIsPrice []) :
    C8.Cal P w K mg base 4 "is_comparison" spIsComp [] := by
  refine D.cal (N := ["thing", "places"]) (C8.fnScope_by (by decide +kernel)) (fun vs H Q E h => ?_) (fun f cdv A outer s H vs Q E hr h => ?_)
  · obtain ⟨x, n, v, rfl, _⟩ := h
    rfl
  · obtain ⟨x, n, v, rfl, ⟨c, rfl, hc⟩, h1, h2, h3, h4, q⟩ := h
    refine ⟨_, pss_cons (ps_if (PW.pt (pw_or (pt_not (pt_val (pe_callB call_isi (by rfl) B.isi PyProof.Rows.boot_isinstance (pa_cons (pv 0) (pa_cons (pe_bltn (v := .ty "tuple") (by rfl) B.tuple PyProof.Rows.boot_tuple rfl) pa_nil)))))
        (pw_or1 (pt_cmpR op_ne (pe_callB call_len_seq (by rfl) B.len PySem.boot_len (pa_cons (pv 0) pa_nil)) pe_int (nomark _))))) (pss_one (ps_ret pe_bl)) pss_nil)
      (pss_one (ps_ret (pe_and (C8.pe_c c1 hr (by decide) (by rfl) (pa_cons (pe_ix ix_tup (pv 0) pe_int (fun _ _ => rfl)) (pa_cons pe_int (pa_cons (pe_op op_sub (pv 1) pe_int) pa_nil))))
        (pe_one (C8.pe_c c2 hr (by decide) (by rfl) (pa_cons (pe_ix ix_tup (pv 0) pe_int (fun _ _ => rfl)) pa_nil)))))), ?_⟩
    refine ⟨_, rfl, _, _, _, _, true, rfl, .ty _, .base (.tup hc), kit_ty (by decide +kernel), true, rfl, iteF ?_⟩
    refine ⟨_, rfl, c, _, rfl, .inr (SqT.of hc), rfl, _, rfl, iteF ?_⟩
    refine ⟨_, rfl, c, _, 0, .int (x.1 : Int), rfl, rfl, SqT.of hc, rfl, _, rfl, n, 1, rfl, rfl, _, _, _, rfl, true, ?_, iteT ?_⟩
    · rw [decide_eq_true]
      omega
    · refine ⟨_, rfl, c, _, 1, .int x.2, rfl, rfl, SqT.of hc, rfl, _, rfl, ?_⟩
      rw [decide_eq_true ⟨h3, h4⟩]
      exact q
end
end K57
namespace K57
open PySem PySem.Spec PyProof.Rows L2
theorem at_last {xs : List V} {v : V} (h : xs[xs.length - 1]? = some v) : atI xs (-1) = some v := by
  have hl : xs.length - 1 < xs.length := (List.getElem?_eq_some_iff.mp h).1
  unfold atI ixN
  rw [if_neg (by decide), if_pos (by omega)]
  have e : (-1 + (xs.length : Int)).toNat = xs.length - 1 := by omega
  show xs[(-1 + (xs.length : Int)).toNat]? = some v
  rw [e]
  exact h
theorem at_int {xs : List V} {z : Int} (j : Nat) {v : V} (e : z = (j : Int)) (h : xs[j]? = some v) : atI xs z = some v := by
  rw [e]
  exact atI_nat h
theorem rep_one (v : V) : ∀ k : Nat, (List.replicate k [v]).flatten = List.replicate k v
  | 0 => rfl
  | k + 1 => by
    rw [List.replicate_succ, List.replicate_succ, List.flatten_cons, rep_one v k]
    rfl
theorem ext_of {α : Type} {xs : List α} {n : Nat} {f : Nat → α} (hl : xs.length = n) (h : ∀ (i : Nat) v, xs[i]? = some v → v = f i) : xs = (List.range n).map f := by
  refine List.ext_getElem? fun i => ?_
  by_cases hi : i < n
  · rw [List.getElem?_map, List.getElem?_range hi]
    have e : xs[i]? = some xs[i] := List.getElem?_eq_getElem (by omega)
    rw [e, h i _ e]
    rfl
  · rw [List.getElem?_eq_none (by omega), List.getElem?_eq_none (by rw [List.length_map, List.length_range]; omega)]
section
variable {P : Program} {w : World} {K : PySem.W.Frag} {mg : Str → Option Value} {base : Heap}
/-! ### demands -/
abbrev nDem : List Str := ["order", "found", "rank", "t", "many"]
def nV (x : Nat) : V := .int (x : Int)
def spDemands : Sp := fun vs H Q _ => ∃ (a : Addr) (xs : List Nat), vs = [.ref a] ∧ H a = some (.lst (xs.map nV)) ∧ xs.length ≤ 1000 ∧ ∀ v H', Same H H' → DemAt xs.length H' v (dem xs) → Q v H'
theorem cal_demands (D : DefIn K mg "demands" (top 10) ["order"]) (B : Bare mg) : C8.Cal P w K mg base 1 "demands" spDemands [] := by
  have nd : (nDem : List Str).Nodup := by decide +kernel
  refine D.cal (N := nDem) (C8.fnScope_by (by decide +kernel)) (fun vs H Q E h => ?_) (fun f cdv A outer s H vs Q E hr h => ?_)
  · obtain ⟨a, xs, rfl, _⟩ := h
    rfl
  · obtain ⟨a, xs, rfl, ha, hn, q⟩ := h
    refine ⟨_, pss_cons (ps_set (i := 1) nd rfl (.inl rfl) (pe_lst (pa_cons (pe_op op_rep (pe_lst (pa_cons pe_int pa_nil)) (pe_op op_add (pe_callB call_len_seq (by rfl) B.len PySem.boot_len (pa_cons (pv 0) pa_nil)) pe_int)) pa_nil)))
      (pss_cons (ps_for PassesOwn.never rfl (pi_list (pv 0)) (pg_name (i := 2) nd rfl (.inr rfl))
        (pss_one (ps_expr (pe_bm PySem.F.plainAttrs_list PySem.F.slot_list_append PySem.F.type_list_append mt_append (pv 1) (pa_cons
          (pe_lc (own := [("t", 3), ("many", 4)]) (g := gTup K 2 (gCons (gName 3) (gCons (gName 4) gNil))) (tt := tYes) rfl nd (pi_enum (by rfl) B.enum (pa_cons (pe_ix ix_list (pv 1) (pe_un un_neg pe_int) (fun _ _ => rfl)) pa_nil))
            (blkOk_by (N := nDem) (sc := C8.fnScope (top 10)) (by decide +kernel))
            (fun _ _ _ _ _ => pg_tup rfl (pgs_cons (pg_name (i := 3) nd rfl (.inl rfl)) (pgs_cons (pg_name (i := 4) nd rfl (.inl rfl)) pgs_nil)))
            (fun _ _ _ _ _ => pts_nil)
            (fun _ _ _ _ _ => pe_op op_add (pv 4) (pe_callTy call_int1 (by rfl) B.int PyProof.Rows.boot_int (pa_cons (pe_cmpR op_ge (pv 2) (pv 3) (nomark _)) pa_nil))))
          pa_nil)))))
      (pss_one (ps_ret (pv 1)))), ?_⟩
    -- found = [[0] * (len(order) + 1)]
    refine ⟨by decide, fun p0 np0 => newE np0 fun H1 s1 e1 => ?_⟩
    refine ⟨_, rfl, a, _, rfl, .inl (SqL.of (s1 _ _ ha)), _, 1, rfl, rfl, p0, _, _, rfl, rfl, e1, by omega, ?_, ?_, fun p1 np1 => newE np1 fun H2 s2 e2 => ?_⟩
    · rw [List.length_map]
      omega
    · rw [List.length_map]
      exact big (by show 1 * _ ≤ _; omega)
    refine ⟨big (by show 1 ≤ 100000; decide), fun p np => newE np fun H3 s3 e3 => ?_⟩
    have s13 : Same H H3 := s1.trans (s2.trans s3)
    have np0' : H p = none := (s1.trans s2).free np
    have hp1 : H3 p1 = some (.lst (demV xs.length (dem xs 0))) := by
      rw [s3 _ _ e2, rep_one, List.length_map]
      unfold demV
      refine congrArg (fun l => some (HO.lst l)) (List.ext_getElem? fun i => ?_)
      have e : ((xs.length : Int) + 1).toNat = xs.length + 1 := by omega
      by_cases hi : i < xs.length + 1
      · rw [List.getElem?_replicate, e, if_pos hi, List.getElem?_map, List.getElem?_range hi]
        rfl
      · rw [List.getElem?_replicate, e, if_neg hi, List.getElem?_map, List.getElem?_eq_none (by rw [List.length_range]; omega)]
        rfl
    -- for rank in order
    refine ⟨_, rfl, a, rfl, ⟨_, SqL.of (s13 _ _ ha)⟩, for_list (K := K) (a := a) (xs := xs.map nV) (fun i σ H' => ∃ y2 rs, σ = [some (.ref a), some (.ref p), y2, none, none] ∧ Same H H' ∧ H' p = some (.lst rs) ∧ rs.length = i + 1 ∧
        ∀ (k : Nat) c, rs[k]? = some c → ∃ b, c = .ref b ∧ b ≠ p ∧ H' b = some (.lst (demV xs.length (dem xs k))))
      ⟨none, [.ref p1], rfl, s13, e3, rfl, fun k c h => ?_⟩ (fun i σ H' _ ⟨_, _, _, s4, _⟩ => SqL.of (s4 _ _ ha)) ?_ ?_⟩
    · have hk : k = 0 := by
        have := (List.getElem?_eq_some_iff.mp h).1
        simp at this
        exact this
      subst hk
      cases h
      exact ⟨p1, rfl, ne_of_none e2 np, hp1⟩
    · rintro i y σ H' hi ⟨y2, rs, rfl, s4, hp, hl, hrs⟩
      have hil : i < xs.length := by
        have := (List.getElem?_eq_some_iff.mp hi).1
        rw [List.length_map] at this
        exact this
      have ex : xs[i]? = some xs[i] := List.getElem?_eq_getElem hil
      have ey : y = nV xs[i] := by
        rw [List.getElem?_map, ex] at hi
        exact (Option.some.inj hi).symm
      subst ey
      have hlast : rs[rs.length - 1]? = some rs[rs.length - 1] := List.getElem?_eq_getElem (by omega)
      obtain ⟨b, eb, nbp, hb⟩ := hrs _ _ hlast
      have ei : rs.length - 1 = i := by omega
      rw [ei] at hb
      refine ⟨_, rfl, .inl ⟨rfl, _, SqL.of hp⟩, _, rfl, 1, rfl, p, rs, _, _, rfl, rfl, SqL.of hp, at_last hlast, b, _, eb ▸ rfl, SqL.of hb,
        fun D nD => lcEnum (K := K) (a := b) (ys := demV xs.length (dem xs i)) nD (fun t v _ => v = nV (dem xs (i + 1) t)) (by rw [demV_len]; omega) (SqL.of hb) (fun t x T H4 Kt hx s5 hD hT k => ?_) fun ls H5 s5 hD hlen hR => ?_⟩
      · have htl : t < xs.length + 1 := by
          have := (List.getElem?_eq_some_iff.mp hx).1
          rw [demV_len] at this
          exact this
        have ex2 : x = nV (dem xs i t) := by
          rw [demV_at (by omega)] at hx
          exact (Option.some.inj hx).symm
        subst ex2
        refine ⟨T, _, rfl, SqT.of hT, rfl, _, _, rfl, _, _, rfl, rfl, rfl, ?_⟩
        refine ⟨_, rfl, _, rfl, _, rfl, (xs[i] : Int), (t : Int), rfl, rfl, .inr ⟨_, rfl, (dem xs i t : Int), _, rfl, rfl, ?_⟩⟩
        refine k _ _ (Same.refl _) fun _ _ => ?_
        show V.int _ = V.int _
        rw [dem_succ t ex]
        by_cases ht : t ≤ xs[i]
        · rw [if_pos ht, decide_eq_true (by omega)]
          rfl
        · rw [if_neg ht, decide_eq_false (by omega)]
          rfl
      · have hls : ls = demV xs.length (dem xs (i + 1)) := by
          have := ext_of (f := fun t => V.int (dem xs (i + 1) t : Int)) hlen hR
          rw [demV_len] at this
          exact this
        subst hls
        have nDp : D ≠ p := fun z => by
          rw [z, hp] at nD
          cases nD
        refine ⟨p, rs, _, rfl, rfl, s5 _ _ hp, bigL (by omega), _, rs ++ [.ref D], rfl, same_mut (s4.trans s5) np0', upd_same, by rw [List.length_append, hl]; rfl, fun k c hk => ?_⟩
        by_cases hkl : k < rs.length
        · rw [List.getElem?_append_left hkl] at hk
          obtain ⟨b', e', n', h'⟩ := hrs k c hk
          exact ⟨b', e', n', by rw [upd_ne n']; exact s5 _ _ h'⟩
        · have hk2 : k = i + 1 := by
            have := (List.getElem?_eq_some_iff.mp hk).1
            rw [List.length_append] at this
            have e1 : [V.ref D].length = 1 := rfl
            omega
          subst hk2
          rw [List.getElem?_append_right (by omega), hl, Nat.sub_self] at hk
          cases hk
          exact ⟨D, rfl, nDp, by rw [upd_ne nDp]; exact hD⟩
    · rintro σ H' ⟨y2, rs, rfl, s4, hp, hl, hrs⟩
      refine ⟨_, rfl, q _ _ s4 ⟨p, rs, rfl, hp, by rw [hl, List.length_map], fun k c hk => ?_⟩⟩
      obtain ⟨b, e, _, h⟩ := hrs k c hk
      exact ⟨b, e, h⟩
end
end K57
namespace K57
open PySem PySem.Spec PyProof.Rows L2
section
variable {P : Program} {w : World} {K : PySem.W.Frag} {mg : Str → Option Value} {base : Heap}
/-! ### first_prices -/
abbrev nFst : List Str := ["places", "k", "steps", "r", "j"]
/-- the outer comprehension's scope -/
def scFst : Scope := match C8.fnBody (top 12) with
  | [.Return (some (.ListComp _ _ s _)) _] => s
  | _ => C8.fnScope (top 12)
def spFirst : Sp := fun vs H Q _ => ∃ n k s : Nat, vs = [.int (n : Int), .int (k : Int), .int (s : Int)] ∧ n ≤ 1000 ∧ k ≤ 1000 ∧ s ≤ 1000 ∧ ∀ v H', Same H H' → TabAt n s H' v (first k) → Q v H'
theorem cal_first_prices (D : DefIn K mg "first_prices" (top 12) ["places", "k", "steps"]) (B : Bare mg) : C8.Cal P w K mg base 1 "first_prices" spFirst [] := by
  have nd : (nFst : List Str).Nodup := by decide +kernel
  refine D.cal (N := nFst) (C8.fnScope_by (by decide +kernel)) (fun vs H Q E h => ?_) (fun f cdv A outer s H vs Q E hr h => ?_)
  · obtain ⟨n, k, s, rfl, _⟩ := h
    rfl
  · obtain ⟨n, k, s, rfl, hn, hk, hs, q⟩ := h
    refine ⟨_, pss_one (ps_ret (pe_lc (own := [("j", 4)]) (g := gName 4) (tt := tYes) rfl nd (pi_range1 (by rfl) B.range (pa_cons (pe_op op_add (pv 0) pe_int) pa_nil))
      (blkOk_by (N := nFst) (sc := C8.fnScope (top 12)) (by decide +kernel)) (fun _ _ _ _ _ => pg_name (i := 4) nd rfl (.inr rfl)) (fun _ _ _ _ _ => pts_nil)
      (fun _ _ _ _ _ => pe_lc (own := [("r", 3)]) (g := gName 3) (tt := tYes) rfl nd (pi_range1 (by rfl) B.range (pa_cons (pe_op op_add (pv 2) pe_int) pa_nil))
        (blkOk_by (N := nFst) (sc := relS scFst (C8.fnScope (top 12))) (by decide +kernel)) (fun _ _ _ _ _ => pg_name (i := 3) nd rfl (.inl rfl)) (fun _ _ _ _ _ => pts_nil)
        (fun _ _ _ _ _ => pe_ifExp (pt_cmpR op_le (pe_callB (call_max2 rfl) (by rfl) B.max PyProof.Rows.boot_max (pa_cons (pe_op op_sub (pv 1) (pv 4)) (pa_cons pe_int pa_nil))) (pv 3) (nomark _)) pe_int pe_non)))), ?_⟩
    refine ⟨_, rfl, n, 1, rfl, rfl, (n : Int) + 1, rfl, by omega, by omega, fun D nD => ?_⟩
    have e1 : ((n : Int) + 1).toNat = n + 1 := by omega
    rw [e1]
    refine lcRange (lo := 0) (n := n + 1) nD (fun j v H' => ColAt s H' v (first k j)) (by omega) (fun j H2 Kt hj s1 hD kt => ?_) fun xs H2 s1 hD hl hR => ?_
    · refine ⟨rfl, ?_⟩
      refine ⟨_, rfl, s, 1, rfl, rfl, (s : Int) + 1, rfl, by omega, by omega, fun D2 nD2 => ?_⟩
      have e2 : ((s : Int) + 1).toNat = s + 1 := by omega
      rw [e2]
      refine lcRange (lo := 0) (n := s + 1) nD2 (fun r v _ => v = eV (first k j r)) (by omega) (fun r H3 Kt2 hr2 s2 hD2 kt2 => ?_) fun ys H3 s2 hD2 hl2 hR2 => ?_
      · refine ⟨rfl, ?_⟩
        refine ⟨_, rfl, _, rfl, k, (0 : Int) + (j : Int), rfl, rfl, (k : Int) - (0 + (j : Int)), 0, rfl, _, rfl, _, (0 : Int) + (r : Int), rfl, rfl, _, rfl, ?_⟩
        refine ite2 (fun hc => ?_) (fun hc => ?_)
        · have hc' := of_decide_eq_true hc
          refine kt2 _ _ (Same.refl _) fun _ _ => ?_
          show V.int 0 = eV (if k - j ≤ r then some 0 else none)
          rw [if_pos]
          · rfl
          · split at hc' <;> omega
        · have hc' := of_decide_eq_false (Bool.not_eq_true _ ▸ hc)
          refine kt2 _ _ (Same.refl _) fun _ _ => ?_
          show V.non = eV (if k - j ≤ r then some 0 else none)
          rw [if_neg]
          · rfl
          · split at hc' <;> omega
      · have hys : ys = colV (first k j) s := ext_of hl2 hR2
        subst hys
        exact kt _ _ s2 fun H4 sb => ⟨D2, rfl, sb _ _ (ne_new hD nD2) hD2⟩
    · exact q _ _ s1 ⟨D, xs, rfl, hD, hl, hR⟩

/-! ### least_of -/
def spLeast : Sp := fun vs H Q _ => ∃ (a : Addr) (l : List Pr), vs = [.ref a] ∧ H a = some (.lst (l.map eV)) ∧ l.length ≤ 1000 ∧ ∀ H', Same H H' → Q (eV (leastOf l)) H'
theorem cal_least_of (D : DefIn K mg "least_of" (top 13) ["prices"]) (B : Bare mg) : C8.Cal P w K mg base 1 "least_of" spLeast [] := by
  have nd : (["prices", "price"] : List Str).Nodup := by decide +kernel
  refine D.cal (N := ["prices", "price"]) (C8.fnScope_by (by decide +kernel)) (fun vs H Q E h => ?_) (fun f cdv A outer s H vs Q E hr h => ?_)
  · obtain ⟨a, l, rfl, _⟩ := h
    rfl
  · obtain ⟨a, l, rfl, ha, hl, q⟩ := h
    refine ⟨_, pss_one (ps_ret (pe_callBK (cr_minD rfl hr.units) (by rfl) B.min PyProof.Rows.boot_min (pa_cons
      (pe_lc (own := [("price", 1)]) (g := gName 1) rfl nd (pi_list (pv 0)) (blkOk_by (N := ["prices", "price"]) (sc := C8.fnScope (top 13)) (by decide +kernel)) (fun _ _ _ _ _ => pg_name (i := 1) nd rfl (.inl rfl))
        (fun _ _ _ _ _ => pts_one (pt_cmp (pc_notN (pv 1)))) (fun _ _ _ _ _ => pv 1)) pa_nil) (pk_cons pe_non pk_nil))), ?_⟩
    refine ⟨_, rfl, a, rfl, ⟨_, SqL.of ha⟩, fun D nD => lc_list (K := K) (a := a) (xs := l.map eV) (fun i H' => Same H H' ∧ H' D = some (.lst (((l.take i).filterMap id).map V.int)))
      ⟨same_new nD, upd_same⟩ (fun i H' _ ⟨s1, _⟩ => SqL.of (s1 _ _ ha)) (fun i y H' hi ⟨s1, hD⟩ => ?_) (fun H' ⟨s1, hD⟩ => ?_)⟩
    · have hil : i < l.length := by
        have := (List.getElem?_eq_some_iff.mp hi).1
        rw [List.length_map] at this
        exact this
      have ex : l[i]? = some l[i] := List.getElem?_eq_getElem hil
      have ey : y = eV l[i] := by
        rw [List.getElem?_map, ex] at hi
        exact (Option.some.inj hi).symm
      subst ey
      have len : (((l.take i).filterMap id).map V.int).length ≤ 1000 := by
        rw [List.length_map]
        refine Nat.le_trans (List.length_filterMap_le _ _) ?_
        rw [List.length_take]
        omega
      refine ⟨rfl, _, rfl, _, rfl, ?_⟩
      cases el : l[i] with
      | none =>
        refine iteF ⟨s1, ?_⟩
        rw [List.take_add_one, ex, el, List.filterMap_append]
        show H' D = some (HO.lst (List.map V.int (_ ++ [])))
        rw [List.append_nil]
        exact hD
      | some x =>
        refine iteT ⟨_, rfl, _, hD, small1000 len, same_mut s1 nD, ?_⟩
        rw [List.take_add_one, ex, el, List.filterMap_append, List.map_append, upd_same]
        rfl
    · rw [List.length_map, List.take_length] at hD
      refine ⟨D, l.filterMap id, rfl, rfl, SqL.of hD, ?_⟩
      have := q H' s1
      unfold leastOf at this
      cases e : l.filterMap id with
      | nil =>
        rw [e] at this
        exact this
      | cons y ys =>
        rw [e] at this
        exact this
end
end K57
namespace K57
open PySem PySem.Spec PyProof.Rows L2
theorem TabAt.cols {n s : Nat} {H : Hp} {v : V} {T : Tab} (h : TabAt n s H v T) : ∃ a cs, v = .ref a ∧ H a = some (.lst cs) ∧ cs.length = n + 1 ∧ ∀ j, j ≤ n → ∃ c, cs[j]? = some (.ref c) ∧ H c = some (.lst (colV (T j) s)) := by
  obtain ⟨a, cs, e, ha, hl, hr⟩ := h
  refine ⟨a, cs, e, ha, hl, fun j hj => ?_⟩
  have h1 : cs[j]? = some cs[j] := List.getElem?_eq_getElem (by omega)
  obtain ⟨c, e2, hc⟩ := hr j _ h1
  exact ⟨c, by rw [h1, e2], hc⟩
theorem te_miss {σ : L2.St} {H : Hp} {Kt : VK} {i j : Nat} {x : Pr} {p : Int} (h5 : σ[i]? = some (some (eV x))) (h2 : σ[j]? = some (some (.int p))) (k : Kt (eV (eAdd x p)) H) :
    tIf (tB (tIsN (tVar i))) (tC .non) (tOp (rI0 fun i j => .int (i + j)) (tVar i) (tVar j)) σ H Kt := by
  refine ⟨_, h5, _, rfl, ?_⟩
  cases x with
  | none => exact iteT k
  | some y => exact iteF ⟨_, h5, _, h2, _, _, rfl, rfl, k⟩
section
variable {P : Program} {w : World} {K : PySem.W.Frag} {mg : Str → Option Value} {base : Heap}
/-! ### column_after -/
abbrev nCol : List Str := ["prices", "gate", "price", "found", "r", "elder", "some"]
def spCol : Sp := fun vs H Q _ => ∃ (n s : Nat) (T : Tab) (g : Nat) (p : Int) (v : V), vs = [v, .int (g : Int), .int p] ∧ TabAt n s H v T ∧ 1 ≤ g ∧ g < n ∧ s ≤ 1000 ∧
  ∀ c H', H c = none → Same H H' → H' c = some (.lst (colV (step T g p g) s)) → Q (.ref c) H'
theorem cal_column_after (D : DefIn K mg "column_after" (top 14) ["prices", "gate", "price"]) (B : Bare mg) (cl : C8.Cal P w K mg base 1 "least_of" spLeast []) : C8.Cal P w K mg base 2 "column_after" spCol [] := by
  have nd : (nCol : List Str).Nodup := by decide +kernel
  refine D.cal (N := nCol) (C8.fnScope_by (by decide +kernel)) (fun vs H Q E h => ?_) (fun f cdv A outer s H vs Q E hr h => ?_)
  · obtain ⟨n, s, T, g, p, v, rfl, _⟩ := h
    rfl
  · obtain ⟨n, s, T, g, p, v, rfl, hT, hg1, hg2, hs, q⟩ := h
    obtain ⟨a, cs, rfl, ha, hcl, hc⟩ := hT.cols
    obtain ⟨cg, icg, hcg⟩ := hc g (by omega)
    obtain ⟨cm, icm, hcm⟩ := hc (g - 1) (by omega)
    obtain ⟨cp, icp, hcp⟩ := hc (g + 1) (by omega)
    refine ⟨_, pss_cons (ps_set (i := 3) nd rfl (.inl rfl) (pe_lst pa_nil))
      (pss_cons (ps_for PassesOwn.never rfl (pi_enum (by rfl) B.enum (pa_cons (pe_ix ix_list (pv 0) (pv 1) (fun _ _ => rfl)) pa_nil)) (pg_tup rfl (pgs_cons (pg_name (i := 4) nd rfl (.inl rfl)) (pgs_cons (pg_name (i := 5) nd rfl (.inl rfl)) pgs_nil)))
        (pss_cons (ps_set (i := 6) nd rfl (.inl rfl) (pe_lst (pa_cons (pe_ix ix_list (pe_ix ix_list (pv 0) (pe_op op_sub (pv 1) pe_int) (fun _ _ => rfl)) (pv 4) (fun _ _ => rfl))
            (pa_cons (pe_ifExp (pt_cmp (pc_isN (pv 5))) pe_non (pe_op op_add (pv 5) (pv 2))) pa_nil))))
        (C8.pss_cut (ps_if (pt_cmpR op_gt (pv 4) pe_int (nomark _))
            (pss_one (ps_expr (pe_bm PySem.F.plainAttrs_list PySem.F.slot_list_append PySem.F.type_list_append mt_append (pv 6) (pa_cons (pe_ix ix_list (pe_ix ix_list (pv 0) (pe_op op_add (pv 1) pe_int) (fun _ _ => rfl)) (pe_op op_sub (pv 4) pe_int) (fun _ _ => rfl)) pa_nil)))) pss_nil)
          (pss_one (ps_expr (pe_bm PySem.F.plainAttrs_list PySem.F.slot_list_append PySem.F.type_list_append mt_append (pv 3) (pa_cons (C8.pe_c cl hr (by decide) (by rfl) (pa_cons (pv 6) pa_nil)) pa_nil)))))))
      (pss_one (ps_ret (pv 3)))), ?_⟩
    refine ⟨Nat.zero_le _, fun q0 nq => newE nq fun H1 s1 e1 => ?_⟩
    refine ⟨_, rfl, _, rfl, a, cs, _, _, rfl, rfl, SqL.of (s1 _ _ ha), at_int g rfl icg, cg, _, rfl, SqL.of (s1 _ _ hcg),
      forEnum (K := K) (a := cg) (ys := colV (T g) s) (fun i σ H' => ∃ y4 y5 y6, σ = [some (.ref a), some (.int g), some (.int p), some (.ref q0), y4, y5, y6] ∧ Same H H' ∧ H' q0 = some (.lst ((List.range i).map fun r => eV (step T g p g r))))
        ⟨none, none, none, rfl, s1, e1⟩ (fun i σ H' _ ⟨_, _, _, _, s2, _⟩ => SqL.of (s2 _ _ hcg)) ?_ ?_⟩
    · rintro i σ H0 x T0 H' hx ⟨y4, y5, y6, rfl, s2, hq⟩ nT sT hT0
      have hi : i ≤ s := by
        have := (List.getElem?_eq_some_iff.mp hx).1
        rw [colV_len] at this
        omega
      have ex : x = eV (T g i) := by
        rw [colV_at hi] at hx
        exact (Option.some.inj hx).symm
      subst ex
      have s3 : Same H H' := s2.trans sT
      refine ⟨T0, _, rfl, SqT.of hT0, rfl, _, _, rfl, _, _, rfl, rfl, ?_⟩
      -- some = [..]
      refine ⟨_, rfl, _, rfl, (g : Int), 1, rfl, rfl, a, cs, _, _, rfl, rfl, SqL.of (s3 _ _ ha), at_int (g - 1) (by omega) icm, _, rfl, cm, _, (i : Int), _, rfl, rfl, SqL.of (s3 _ _ hcm), at_int i rfl (colV_at hi),
        te_miss (x := T g i) (p := p) rfl rfl ⟨big (by show 2 ≤ 100000; decide), fun L nL => newE nL fun H4 s4 e4 => ?_⟩⟩
      have s14 : Same H H4 := s3.trans s4
      have hq4 : H4 q0 = some (.lst ((List.range i).map fun r => eV (step T g p g r))) := s4 _ _ (sT _ _ hq)
      have nLq : L ≠ q0 := fun z => by
        rw [z, sT _ _ hq] at nL
        cases nL
      have nLH : H L = none := s3.free nL
      -- if r > 0
      refine ⟨fun σ5 H5 => σ5 = [some (.ref a), some (.int g), some (.int p), some (.ref q0), some (.int (i : Int)), some (eV (T g i)), some (.ref L)] ∧ Same H H5 ∧ H5 q0 = some (.lst ((List.range i).map fun r => eV (step T g p g r))) ∧
        ∃ l, H5 L = some (.lst (l.map eV)) ∧ l.length ≤ 1000 ∧ leastOf l = step T g p g i, ?_, ?_⟩
      · refine ⟨_, rfl, (i : Int), 0, rfl, rfl, _, rfl, ite2 (fun hc => ?_) (fun hc => ?_)⟩
        · have hi0 : 0 < i := by
            have := of_decide_eq_true hc
            omega
          refine ⟨_, rfl, .inl ⟨rfl, _, SqL.of e4⟩, _, rfl, _, rfl, (g : Int), 1, rfl, rfl, a, cs, _, _, rfl, rfl, SqL.of (s14 _ _ ha), at_int (g + 1) (by omega) icp, _, rfl, (i : Int), 1, rfl, rfl, cp, _, _, _, rfl, rfl, SqL.of (s14 _ _ hcp), at_int (i - 1) (by omega) (colV_at (by omega)),
            L, _, _, rfl, rfl, e4, bigL (by show 2 < 100000; decide), ?_⟩
          refine ⟨rfl, same_mut s14 nLH, by rw [upd_ne nLq.symm]; exact hq4, [T (g - 1) i, eAdd (T g i) p, T (g + 1) (i - 1)], upd_same, by show 3 ≤ 1000; decide, ?_⟩
          rw [leastOf3, step_at]
          cases i with
          | zero => exact absurd hi0 (Nat.lt_irrefl 0)
          | succ i => rfl
        · have hi0 : i = 0 := by
            have := of_decide_eq_false (Bool.not_eq_true _ ▸ hc)
            omega
          subst hi0
          refine ⟨rfl, s14, hq4, [T (g - 1) 0, eAdd (T g 0) p], e4, by show 2 ≤ 1000; decide, ?_⟩
          rw [leastOf2, step_at]
          show _ = eMin _ none
          cases eMin (T (g - 1) 0) (eAdd (T g 0) p) <;> rfl
      · rintro σ5 H5 ⟨rfl, s5, hq5, l, hL, hll, hle⟩
        refine ⟨_, rfl, .inl ⟨rfl, _, SqL.of hq5⟩, _, rfl, L, l, rfl, hL, hll, fun H6 s6 => ⟨q0, _, _, rfl, rfl, s6 _ _ hq5, ?_, ?_⟩⟩
        · rw [List.length_map, List.length_range]
          exact small1000 (by omega)
        · refine ⟨_, _, _, rfl, same_mut (s5.trans s6) nq, ?_⟩
          rw [upd_same, hle, List.range_succ, List.map_append]
          rfl
    · rintro σ H' ⟨y4, y5, y6, rfl, s2, hq⟩
      rw [colV_len] at hq
      exact ⟨_, rfl, q _ _ nq s2 hq⟩

/-! ### walk_prices -/
/-- a table no part of which stands at q -/
def TabB (q : Addr) (n s : Nat) (H : Hp) (v : V) (T : Tab) : Prop := ∃ a cs, v = .ref a ∧ a ≠ q ∧ H a = some (.lst cs) ∧ cs.length = n + 1 ∧ ∀ (j : Nat) c, cs[j]? = some c → ∃ b, c = .ref b ∧ b ≠ q ∧ H b = some (.lst (colV (T j) s))
theorem TabB.mono {q : Addr} {n s : Nat} {H H' : Hp} {v : V} {T : Tab} (e : SameB q H H') (h : TabB q n s H v T) : TabB q n s H' v T := by
  obtain ⟨a, cs, e1, na, ha, hl, hr⟩ := h
  refine ⟨a, cs, e1, na, e _ _ na ha, hl, fun j c h1 => ?_⟩
  obtain ⟨b, e2, nb, hb⟩ := hr j c h1
  exact ⟨b, e2, nb, e _ _ nb hb⟩
theorem TabB.tab {q : Addr} {n s : Nat} {H : Hp} {v : V} {T : Tab} (h : TabB q n s H v T) : TabAt n s H v T := by
  obtain ⟨a, cs, e1, na, ha, hl, hr⟩ := h
  refine ⟨a, cs, e1, ha, hl, fun j c h1 => ?_⟩
  obtain ⟨b, e2, nb, hb⟩ := hr j c h1
  exact ⟨b, e2, hb⟩
theorem TabAt.b {q : Addr} {n s : Nat} {H : Hp} {v : V} {T : Tab} (h : TabAt n s H v T) (hq : H q = none) : TabB q n s H v T := by
  obtain ⟨a, cs, e1, ha, hl, hr⟩ := h
  refine ⟨a, cs, e1, ne_of_none ha hq, ha, hl, fun j c h1 => ?_⟩
  obtain ⟨b, e2, hb⟩ := hr j c h1
  exact ⟨b, e2, ne_of_none hb hq, hb⟩
theorem cut_to (xs : List V) (g : Nat) (h : g ≤ xs.length) : cutV xs none (some (g : Int)) = xs.take g := by
  unfold cutV
  rw [HT.sIx_none, HT.sIx_nat, List.drop_zero, Nat.sub_zero, Nat.min_eq_left h]
theorem cut_from (xs : List V) (g : Nat) : cutV xs (some (g : Int)) none = xs.drop g := by
  unfold cutV
  rw [HT.sIx_none, HT.sIx_nat]
  by_cases h : g ≤ xs.length
  · rw [Nat.min_eq_left h]
    exact List.take_of_length_le (by rw [List.length_drop]; exact Nat.le_refl _)
  · rw [Nat.min_eq_right (by omega), List.drop_length, List.drop_of_length_le (by omega)]
    exact List.take_nil
abbrev nWalk : List Str := ["places", "comparisons", "k", "steps", "found", "gate", "price", "last"]
def spWalk : Sp := fun vs H Q _ => ∃ (n k s : Nat) (rows : List Row) (v : V), vs = [.int (n : Int), v, .int (k : Int), .int (s : Int)] ∧ RowsAt H v rows ∧ Ok n rows ∧ n ≤ 1000 ∧ k ≤ 1000 ∧ s ≤ 1000 ∧ rows.length ≤ 1000 ∧
  ∀ v' H', Same H H' → WalkAt n s k rows H' v' → Q v' H'
theorem RowsAt.row {H : Hp} {v : V} {rows : List Row} (h : RowsAt H v rows) : ∃ a vs, v = .ref a ∧ H a = some (.lst vs) ∧ vs.length = rows.length ∧ ∀ (i : Nat) x, rows[i]? = some x → ∃ c, vs[i]? = some (.ref c) ∧ H c = some (.tup [.int (x.1 : Int), .int x.2]) := by
  obtain ⟨a, vs, e, ha, hl, hr⟩ := h
  refine ⟨a, vs, e, ha, hl, fun i x hx => ?_⟩
  have hi : i < rows.length := (List.getElem?_eq_some_iff.mp hx).1
  have h1 : vs[i]? = some vs[i] := List.getElem?_eq_getElem (by omega)
  obtain ⟨c, e2, hc⟩ := hr i _ x h1 hx
  exact ⟨c, by rw [h1, e2], hc⟩
theorem cal_walk_prices (D : DefIn K mg "walk_prices" (top 15) ["places", "comparisons", "k", "steps"]) (B : Bare mg) (c1 : C8.Cal P w K mg base 1 "first_prices" spFirst []) (c2 : C8.Cal P w K mg base 2 "column_after" spCol []) :
    C8.Cal P w K mg base 3 "walk_prices" spWalk [] := by
  have nd : (nWalk : List Str).Nodup := by decide +kernel
  refine D.cal (N := nWalk) (C8.fnScope_by (by decide +kernel)) (fun vs H Q E h => ?_) (fun f cdv A outer s H vs Q E hr h => ?_)
  · obtain ⟨n, k, s, rows, v, rfl, _⟩ := h
    rfl
  · obtain ⟨n, k, s, rows, v, rfl, hR, ok, hn, hk, hs, hrl, q⟩ := h
    obtain ⟨a, vs, rfl, ha, hvl, hrow⟩ := hR.row
    refine ⟨_, pss_cons (ps_set (i := 4) nd rfl (.inl rfl) (pe_lst (pa_cons (C8.pe_c c1 hr (by decide) (by rfl) (pa_cons (pv 0) (pa_cons (pv 2) (pa_cons (pv 3) pa_nil)))) pa_nil)))
      (pss_cons (ps_for PassesOwn.never rfl (pi_list (pv 1)) (pg_tup rfl (pgs_cons (pg_name (i := 5) nd rfl (.inl rfl)) (pgs_cons (pg_name (i := 6) nd rfl (.inl rfl)) pgs_nil)))
        (pss_cons (ps_set (i := 7) nd rfl (.inl rfl) (pe_ix ix_list (pv 4) (pe_un un_neg pe_int) (fun _ _ => rfl)))
        (pss_one (ps_expr (pe_bm PySem.F.plainAttrs_list PySem.F.slot_list_append PySem.F.type_list_append mt_append (pv 4) (pa_cons
          (pe_op op_cat (pe_op op_cat (pe_slice sl_list (pv 7) po_none (po_some (pv 5))) (pe_lst (pa_cons (C8.pe_c c2 hr (by decide) (by rfl) (pa_cons (pv 7) (pa_cons (pv 5) (pa_cons (pv 6) pa_nil)))) pa_nil)))
            (pe_slice sl_list (pv 7) (po_some (pe_op op_add (pv 5) pe_int)) po_none)) pa_nil))))))
      (pss_one (ps_ret (pv 4)))), ?_⟩
    refine ⟨_, rfl, _, rfl, _, rfl, n, k, s, rfl, hn, hk, hs, fun v0 H1 s1 hT => ⟨big (by show 1 ≤ 100000; decide), fun q0 nq => newE nq fun H2 s2 e2 => ?_⟩⟩
    have s12 : Same H H2 := s1.trans s2
    have nqH : H q0 = none := s1.free nq
    refine ⟨_, rfl, a, rfl, ⟨_, SqL.of (s12 _ _ ha)⟩, for_list (K := K) (a := a) (xs := vs) (fun i σ H' => ∃ y5 y6 y7 ts, σ = [some (.int n), some (.ref a), some (.int k), some (.int s), some (.ref q0), y5, y6, y7] ∧ Same H H' ∧ H' q0 = some (.lst ts) ∧ ts.length = i + 1 ∧
        ∀ (m : Nat) t, ts[m]? = some t → TabB q0 n s H' t (tab k (rows.take m)))
      ⟨none, none, none, [v0], rfl, s12, e2, rfl, fun m t ht => ?_⟩ (fun i σ H' _ ⟨_, _, _, _, _, s4, _⟩ => SqL.of (s4 _ _ ha)) ?_ ?_⟩
    · have hm : m = 0 := by
        have := (List.getElem?_eq_some_iff.mp ht).1
        simp at this
        exact this
      subst hm
      cases ht
      exact (hT.b nq).mono (.of s2)
    · rintro i x σ H' hx ⟨y5, y6, y7, ts, rfl, s3, hq, htl, hts⟩
      have hi : i < rows.length := by
        have := (List.getElem?_eq_some_iff.mp hx).1
        omega
      have er : rows[i]? = some rows[i] := List.getElem?_eq_getElem hi
      obtain ⟨c, ic, hc⟩ := hrow i _ er
      have ex : x = .ref c := by
        rw [ic] at hx
        exact (Option.some.inj hx).symm
      subst ex
      obtain ⟨g, p, hw⟩ : ∃ g p, rows[i] = (g, p) := ⟨_, _, rfl⟩
      rw [hw] at hc er
      obtain ⟨hg1, hg2, hp⟩ := ok _ (hw ▸ List.getElem_mem hi)
      obtain ⟨tl, htl2⟩ : ∃ tl, ts[i]? = some tl := ⟨_, List.getElem?_eq_getElem (by omega)⟩
      have hlast : ts[ts.length - 1]? = some tl := by
        rw [show ts.length - 1 = i by omega]
        exact htl2
      have hT0 : TabB q0 n s H' tl (tab k (rows.take i)) := hts _ _ htl2
      obtain ⟨b, cs, eb, nb, hb, hcl, hcc⟩ := id hT0
      refine ⟨c, _, rfl, SqT.of (s3 _ _ hc), rfl, _, _, rfl, _, _, rfl, rfl, ?_⟩
      -- last = found[-1]
      refine ⟨_, rfl, 1, rfl, q0, ts, _, _, rfl, rfl, SqL.of hq, at_last hlast, ?_⟩
      -- found.append(last[:gate] + [column_after(..)] + last[gate + 1:])
      refine ⟨_, rfl, .inl ⟨rfl, _, SqL.of hq⟩, _, rfl, _, rfl, (g : Int), rfl, b, cs, eb, SqL.of hb, fun l1 n1 => newE n1 fun H3 s4 e3 => ?_⟩
      have hT3 : TabAt n s H3 tl (tab k (rows.take i)) := hT0.tab.mono s4
      refine ⟨_, rfl, _, rfl, _, rfl, n, s, tab k (rows.take i), g, p, _, rfl, hT3, hg1, hg2, hs, fun c4 H4 n4 s5 h4 => ⟨big (by show 1 ≤ 100000; decide), fun l2 n2 => newE n2 fun H5 s6 e5 => ?_⟩⟩
      refine ⟨l1, l2, _, _, rfl, rfl, (s5.trans s6) _ _ e3, e5, ?_, fun l3 n3 => newE n3 fun H6 s7 e6 => ?_⟩
      · refine big ?_
        have := cutV_length cs none (some (g : Int))
        show _ + 1 ≤ 100000
        omega
      refine ⟨_, rfl, _, rfl, (g : Int), 1, rfl, rfl, _, rfl, b, cs, eb, SqL.of ((s4.trans (s5.trans (s6.trans s7))) _ _ hb), fun l4 n4' => newE n4' fun H7 s8 e7 => ?_⟩
      refine ⟨l3, l4, _, _, rfl, rfl, s8 _ _ e6, e7, ?_, fun l5 n5 => newE n5 fun H8 s9 e8 => ?_⟩
      · refine big ?_
        have := cutV_length cs none (some (g : Int))
        have := cutV_length cs (some ((g : Int) + 1)) none
        rw [List.length_append]
        show _ + 1 + _ ≤ 100000
        omega
      have s48 : Same H' H8 := s4.trans (s5.trans (s6.trans (s7.trans (s8.trans s9))))
      refine ⟨q0, ts, _, rfl, rfl, s48 _ _ hq, small1000 (by omega), ?_⟩
      have eg : (g : Int) + 1 = ((g + 1 : Nat) : Int) := by omega
      rw [eg, cut_to cs g (by omega), cut_from cs (g + 1)] at e8
      have nl5 : l5 ≠ q0 := fun z => by
        rw [z, (s4.trans (s5.trans (s6.trans (s7.trans s8)))) _ _ hq] at n5
        cases n5
      have nc4 : c4 ≠ q0 := fun z => by
        rw [z, s4 _ _ hq] at n4
        cases n4
      refine ⟨_, _, _, ts ++ [.ref l5], rfl, same_mut (s3.trans s48) nqH, upd_same, by rw [List.length_append, htl]; rfl, fun m t ht => ?_⟩
      have sb9 : ∀ {l}, SameB q0 H8 (upd H8 q0 (.lst l)) := fun a o ne e => by rw [upd_ne ne]; exact e
      by_cases hm : m < ts.length
      · rw [List.getElem?_append_left hm] at ht
        exact (hts m t ht).mono ((SameB.of s48).trans sb9)
      · have hm2 : m = i + 1 := by
          have := (List.getElem?_eq_some_iff.mp ht).1
          rw [List.length_append] at this
          have e1 : [V.ref l5].length = 1 := rfl
          omega
        subst hm2
        rw [List.getElem?_append_right (by omega), htl, Nat.sub_self] at ht
        cases ht
        have et : rows.take (i + 1) = rows.take i ++ [(g, p)] := by
          rw [List.take_add_one, er]
          rfl
        rw [et, tab_snoc]
        refine ⟨l5, _, rfl, nl5, sb9 _ _ nl5 e8, ?_, fun j cj hj => ?_⟩
        · rw [List.length_append, List.length_append, List.length_take, List.length_drop, hcl]
          show min g (n + 1) + 1 + (n + 1 - (g + 1)) = n + 1
          omega
        · by_cases h1 : j < g
          · rw [List.getElem?_append_left (by rw [List.length_append, List.length_take, hcl]; show j < min g (n + 1) + 1; omega), List.getElem?_append_left (by rw [List.length_take, hcl]; omega), List.getElem?_take_of_lt h1] at hj
            obtain ⟨y1, y2, y3, y4⟩ := hcc j cj hj
            refine ⟨y1, y2, y3, ?_⟩
            rw [sb9 _ _ y3 (s48 _ _ y4)]
            refine congrArg (fun l => some (HO.lst l)) (colV_congr fun r _ => ?_)
            rw [step_off _ _ _ (by omega)]
          · by_cases h2 : j = g
            · subst h2
              rw [List.getElem?_append_left (by rw [List.length_append, List.length_take, hcl]; show j < min j (n + 1) + 1; omega), List.getElem?_append_right (by rw [List.length_take, hcl]; omega), List.length_take, hcl, Nat.min_eq_left (by omega), Nat.sub_self] at hj
              cases hj
              exact ⟨c4, rfl, nc4, sb9 _ _ nc4 ((s6.trans (s7.trans (s8.trans s9))) _ _ h4)⟩
            · rw [List.getElem?_append_right (by rw [List.length_append, List.length_take, hcl]; show min g (n + 1) + 1 ≤ j; omega), List.length_append, List.length_take, hcl, List.getElem?_drop] at hj
              have ej : g + 1 + (j - (min g (n + 1) + [V.ref c4].length)) = j := by
                show g + 1 + (j - (min g (n + 1) + 1)) = j
                omega
              rw [ej] at hj
              obtain ⟨y1, y2, y3, y4⟩ := hcc j cj hj
              refine ⟨y1, y2, y3, ?_⟩
              rw [sb9 _ _ y3 (s48 _ _ y4)]
              refine congrArg (fun l => some (HO.lst l)) (colV_congr fun r _ => ?_)
              rw [step_off _ _ _ (by omega)]
    · rintro σ H' ⟨y5, y6, y7, ts, rfl, s3, hq, htl, hts⟩
      exact ⟨_, rfl, q _ _ s3 ⟨q0, ts, rfl, hq, by rw [htl, hvl], fun m t ht => (hts m t ht).tab⟩⟩
end
end K57
namespace K57
open PySem PySem.Spec PyProof.Rows L2
theorem scal_eV (a b : Pr) : scal (eV a) (eV b) = true := by
  cases a <;> cases b <;> rfl
theorem eV_inj {a b : Pr} (h : eV a = eV b) : a = b := by
  cases a with
  | none =>
    cases b with
    | none => rfl
    | some y => cases h
  | some x =>
    cases b with
    | none => cases h
    | some y =>
      injection h with h
      rw [h]
theorem WalkAt.tabs {n s k : Nat} {rows : List Row} {H : Hp} {v : V} (h : WalkAt n s k rows H v) : ∃ a ts, v = .ref a ∧ H a = some (.lst ts) ∧ ts.length = rows.length + 1 ∧
    ∀ i, i ≤ rows.length → ∃ b cs, ts[i]? = some (.ref b) ∧ H b = some (.lst cs) ∧ cs.length = n + 1 ∧ ∀ j, j ≤ n → ∃ c, cs[j]? = some (.ref c) ∧ H c = some (.lst (colV (tab k (rows.take i) j) s)) := by
  obtain ⟨a, ts, e, ha, hl, hr⟩ := h
  refine ⟨a, ts, e, ha, hl, fun i hi => ?_⟩
  have h1 : ts[i]? = some ts[i] := List.getElem?_eq_getElem (by omega)
  obtain ⟨b, cs, e2, hb, hcl, hc⟩ := (hr i _ h1).cols
  exact ⟨b, cs, by rw [h1, e2], hb, hcl, hc⟩
section
variable {P : Program} {w : World} {K : PySem.W.Frag} {mg : Str → Option Value} {base : Heap}
/-! ### walk_misses -/
abbrev nMis : List Str := ["comparisons", "found", "column", "r", "missed", "at", "here", "before"]
def spMiss : Sp := fun vs H Q _ => ∃ (n s k : Nat) (rows : List Row) (vr vf : V) (j r : Nat) (v : Int), vs = [vr, vf, .int (j : Int), .int (r : Int)] ∧ RowsAt H vr rows ∧ WalkAt n s k rows H vf ∧ Ok n rows ∧ rows.length ≤ 1000 ∧
  j ≤ n ∧ r ≤ s ∧ tab k rows j r = some v ∧ ∀ (c : Addr) (ms : List Int) H', H c = none → Same H H' → H' c = some (.lst (ms.map V.int)) → ms.length ≤ 1000 → ((∀ w ∈ rows, w.2 = 1) → (ms.length : Int) = v) → Q (.ref c) H'
theorem cal_walk_misses (D : DefIn K mg "walk_misses" (top 16) ["comparisons", "found", "column", "r"]) (B : Bare mg) : C8.Cal P w K mg base 1 "walk_misses" spMiss [] := by
  have nd : (nMis : List Str).Nodup := by decide +kernel
  refine D.cal (N := nMis) (C8.fnScope_by (by decide +kernel)) (fun vs H Q E h => ?_) (fun f cdv A outer s H vs Q E hr h => ?_)
  · obtain ⟨n, s, k, rows, vr, vf, j, r, v, rfl, _⟩ := h
    rfl
  · obtain ⟨n, s, k, rows, vr, vf, j0, r0, v, rfl, hR, hW, ok, hrl, hj0, hr0, hv, q⟩ := h
    obtain ⟨a, vs, rfl, ha, hvl, hrow⟩ := hR.row
    obtain ⟨b, ts, rfl, hb, htl, htab⟩ := hW.tabs
    refine ⟨_, pss_cons (ps_set (i := 4) nd rfl (.inl rfl) (pe_lst pa_nil))
      (pss_cons (ps_for PassesOwn.never rfl (pi_range3 (by rfl) B.range (pa_cons (pe_op op_sub (pe_callB call_len_seq (by rfl) B.len PySem.boot_len (pa_cons (pv 0) pa_nil)) pe_int) (pa_cons (pe_un un_neg pe_int) (pa_cons (pe_un un_neg pe_int) pa_nil)))) (pg_name (i := 5) nd rfl (.inl rfl))
        (pss_one (ps_if (pt_cmpR op_eq (pe_ix ix_tup (pe_ix ix_list (pv 0) (pv 5) (fun _ _ => rfl)) pe_int (fun _ _ => rfl)) (pv 2) (nomark _))
          (pss_cons (ps_par (i := 6) (j := 7) rfl nd rfl rfl (by decide) rfl rfl (pa_cons (pe_ix ix_list (pe_ix ix_list (pe_ix ix_list (pv 1) (pe_op op_add (pv 5) pe_int) (fun _ _ => rfl)) (pv 2) (fun _ _ => rfl)) (pv 3) (fun _ _ => rfl)) (pa_cons (pe_ix ix_list (pv 1) (pv 5) (fun _ _ => rfl)) pa_nil)) (by rfl))
          (pss_one (ps_if (pt_cmpR op_eq (pe_ix ix_list (pe_ix ix_list (pv 7) (pe_op op_sub (pv 2) pe_int) (fun _ _ => rfl)) (pv 3) (fun _ _ => rfl)) (pv 6) (nomark _))
            (pss_one (ps_aug (i := 2) nd rfl (.inl rfl) pe_int ip_sub))
            (pss_one (ps_if (PW.pt (pw_and (pt_cmpR op_gt (pv 3) pe_int (nomark _)) (pw_and1 (pt_cmpR op_eq (pe_ix ix_list (pe_ix ix_list (pv 7) (pe_op op_add (pv 2) pe_int) (fun _ _ => rfl)) (pe_op op_sub (pv 3) pe_int) (fun _ _ => rfl)) (pv 6) (nomark _)))))
              (pss_one (ps_par (i := 2) (j := 3) rfl nd rfl rfl (by decide) rfl rfl (pa_cons (pe_op op_add (pv 2) pe_int) (pa_cons (pe_op op_sub (pv 3) pe_int) pa_nil)) (by rfl)))
              (pss_one (ps_expr (pe_bm PySem.F.plainAttrs_list PySem.F.slot_list_append PySem.F.type_list_append mt_append (pv 4) (pa_cons (pv 5) pa_nil)))))))))
          pss_nil)))
      (pss_one (ps_ret (pe_revL (pv 4))))), ?_⟩
    refine ⟨Nat.zero_le _, fun q0 nq => newE nq fun H1 s1 e1 => ?_⟩
    refine ⟨_, rfl, a, vs, rfl, .inl (SqL.of (s1 _ _ ha)), _, 1, rfl, rfl, 1, rfl, 1, rfl, (vs.length : Int) - 1, -1, -1, vs.length, rfl, ?_, ?_⟩
    · have h1 := RgC.neg (i := (vs.length : Int) - 1) (j := -1) (by omega) (by omega) (by decide) (by decide)
      have e : ((vs.length : Int) - 1 - -1).toNat = vs.length := by omega
      rw [e] at h1
      exact h1
    refine for_rangeC (fun i σ H' => ∃ (j r : Nat) (y5 y6 y7 : Option V) (ms : List Int) (v' : Int), σ = [some (.ref a), some (.ref b), some (.int (j : Int)), some (.int (r : Int)), some (.ref q0), y5, y6, y7] ∧ Same H H' ∧ H' q0 = some (.lst (ms.map V.int)) ∧ ms.length ≤ i ∧
        j ≤ n ∧ r ≤ s ∧ tab k (rows.take (rows.length - i)) j r = some v' ∧ ((∀ w ∈ rows, w.2 = 1) → (ms.length : Int) + v' = v))
      ⟨j0, r0, none, none, none, [], v, rfl, s1, e1, Nat.le_refl _, hj0, hr0, by rw [Nat.sub_zero, List.take_length]; exact hv, fun _ => by show ((0 : Nat) : Int) + v = v; omega⟩ ?_ ?_
    · rintro i σ H' hi ⟨j, r, y5, y6, y7, ms, v', rfl, s2, hq, hml, hj, hrs, ht, hsum⟩
      have hi2 : i < rows.length := by omega
      -- the number of the comparison
      obtain ⟨m, hm⟩ : ∃ m : Nat, rows.length - i = m + 1 := ⟨rows.length - i - 1, by omega⟩
      have hmi : rows.length - (i + 1) = m := by omega
      have hml2 : m < rows.length := by omega
      have eat : (vs.length : Int) - 1 + (i : Nat) * -1 = ((m : Nat) : Int) := by omega
      rw [eat]
      have er : rows[m]? = some rows[m] := List.getElem?_eq_getElem hml2
      obtain ⟨g, p, hw⟩ : ∃ g p, rows[m] = (g, p) := ⟨_, _, rfl⟩
      rw [hw] at er
      obtain ⟨c, ic, hc⟩ := hrow m _ er
      obtain ⟨hg1, hg2, hp⟩ := ok _ (hw ▸ List.getElem_mem hml2)
      have hg1 : 1 ≤ g := hg1
      have hg2 : g < n := hg2
      have hp : 0 ≤ p := hp
      have et : rows.take (m + 1) = rows.take m ++ [(g, p)] := by
        rw [List.take_add_one, er]
        rfl
      rw [hm] at ht
      obtain ⟨b1, cs1, ib1, hb1, hcl1, hc1⟩ := htab (m + 1) (by omega)
      obtain ⟨b0, cs0, ib0, hb0, hcl0, hc0⟩ := htab m (by omega)
      have ht2 := ht
      rw [et, tab_snoc] at ht2
      -- if comparisons[at][0] == column
      refine ⟨_, rfl, _, rfl, a, vs, _, _, rfl, rfl, SqL.of (s2 _ _ ha), at_int m rfl ic, c, _, 0, _, rfl, rfl, SqT.of (s2 _ _ hc), rfl, _, rfl, rfl, _, rfl, ite2 (fun hcj => ?_) (fun hcj => ?_)⟩
      · have hgj : g = j := by
          have := V.int.inj (of_decide_eq_true hcj)
          have : (g : Int) = (j : Int) := this
          omega
        subst hgj
        obtain ⟨d1, id1, hd1⟩ := hc1 g (by omega)
        obtain ⟨dm, idm, hdm⟩ := hc0 (g - 1) (by omega)
        obtain ⟨dp, idp, hdp⟩ := hc0 (g + 1) (by omega)
        -- here, before = ..
        refine ⟨_, rfl, _, rfl, (m : Int), 1, rfl, rfl, b, ts, _, _, rfl, rfl, SqL.of (s2 _ _ hb), at_int (m + 1) (by omega) ib1, _, rfl, b1, cs1, _, _, rfl, rfl, SqL.of (s2 _ _ hb1), at_int g rfl id1, _, rfl, d1, _, _, _, rfl, rfl, SqL.of (s2 _ _ hd1), at_int r rfl (colV_at hrs),
          _, rfl, _, rfl, b, ts, _, _, rfl, rfl, SqL.of (s2 _ _ hb), at_int m rfl ib0, _, _, rfl, ?_⟩
        -- if before[column - 1][r] == here
        refine ⟨_, rfl, _, rfl, (g : Int), 1, rfl, rfl, b0, cs0, _, _, rfl, rfl, SqL.of (s2 _ _ hb0), at_int (g - 1) (by omega) idm, _, rfl, dm, _, _, _, rfl, rfl, SqL.of (s2 _ _ hdm), at_int r rfl (colV_at hrs), _, rfl, scal_eV _ _, _, rfl, ite2 (fun h1 => ?_) (fun h1 => ?_)⟩
        · have e1 : tab k (rows.take m) (g - 1) r = some v' := by
            rw [eV_inj (of_decide_eq_true h1)]
            exact ht
          refine ⟨_, rfl, (g : Int), 1, rfl, rfl, g - 1, r, some (.int (m : Int)), some (eV (tab k (rows.take (m + 1)) g r)), some (.ref b0), ms, v', ?_, s2, hq, by omega, by omega, hrs, by rw [hmi]; exact e1, hsum⟩
          have e2 : (g : Int) - 1 = ((g - 1 : Nat) : Int) := by omega
          rw [← e2]
          rfl
        · have n1 : tab k (rows.take m) (g - 1) r ≠ some v' := fun z => by
            refine h1 (decide_eq_true ?_)
            rw [z, ht]
          have h1f := of_decide_eq_false (Bool.not_eq_true _ ▸ h1)
          -- elif r > 0 and before[column + 1][r - 1] == here
          refine ⟨_, rfl, (r : Int), 0, rfl, rfl, _, rfl, ?_⟩
          have miss : diag (tab k (rows.take m)) g r ≠ some v' → tab k (rows.take m) g r = some (v' - p) := fun n2 => by
            have e3 : eMin (eMin (tab k (rows.take m) (g - 1) r) (eAdd (tab k (rows.take m) g r) p)) (diag (tab k (rows.take m)) g r) = some v' := by
              rw [← step_at]
              exact ht2
            have e4 := eMin3 e3 n1 n2
            cases e5 : tab k (rows.take m) g r with
            | none =>
              rw [e5] at e4
              cases e4
            | some x =>
              rw [e5] at e4
              have e6 : x + p = v' := Option.some.inj e4
              rw [show v' - p = x by omega]
          by_cases hr0' : 0 < r
          · rw [decide_eq_true (show (0 : Int) < (r : Int) by omega)]
            refine iteT ?_
            refine ⟨_, rfl, _, rfl, (g : Int), 1, rfl, rfl, b0, cs0, _, _, rfl, rfl, SqL.of (s2 _ _ hb0), at_int (g + 1) (by omega) idp, _, rfl, (r : Int), 1, rfl, rfl, dp, _, _, _, rfl, rfl, SqL.of (s2 _ _ hdp), at_int (r - 1) (by omega) (colV_at (by omega)), _, rfl, scal_eV _ _, _, rfl, ite2 (fun h2 => ?_) (fun h2 => ?_)⟩
            · have e1 : tab k (rows.take m) (g + 1) (r - 1) = some v' := by
                rw [eV_inj (of_decide_eq_true h2)]
                exact ht
              refine ⟨_, rfl, (g : Int), 1, rfl, rfl, _, rfl, (r : Int), 1, rfl, rfl, _, _, rfl, g + 1, r - 1, some (.int (m : Int)), some (eV (tab k (rows.take (m + 1)) g r)), some (.ref b0), ms, v', ?_, s2, hq, by omega, by omega, by omega, by rw [hmi]; exact e1, hsum⟩
              have e2 : (g : Int) + 1 = ((g + 1 : Nat) : Int) := by omega
              have e3 : (r : Int) - 1 = ((r - 1 : Nat) : Int) := by omega
              rw [← e2, ← e3]
              rfl
            · have n2 : diag (tab k (rows.take m)) g r ≠ some v' := fun z => by
                cases r with
                | zero => exact absurd hr0' (Nat.lt_irrefl 0)
                | succ r =>
                  have z : tab k (rows.take m) (g + 1) r = some v' := z
                  refine h2 (decide_eq_true ?_)
                  show eV (tab k (rows.take m) (g + 1) r) = _
                  rw [z, ht]
              refine ⟨_, rfl, .inl ⟨rfl, _, SqL.of hq⟩, _, rfl, q0, _, _, rfl, rfl, hq, by rw [List.length_map]; exact small1000 (by omega), ?_⟩
              refine ⟨g, r, _, _, _, ms ++ [(m : Int)], v' - p, rfl, same_mut s2 nq, by rw [upd_same, List.map_append]; rfl, by rw [List.length_append]; exact Nat.succ_le_succ hml, hj, hrs, by rw [hmi]; exact miss n2, fun hu => ?_⟩
              have h3 := hsum hu
              have h4 : p = 1 := hu _ (hw ▸ List.getElem_mem hml2)
              rw [List.length_append]
              show ((ms.length + 1 : Nat) : Int) + (v' - p) = v
              omega
          · rw [decide_eq_false (show ¬ (0 : Int) < (r : Int) by omega)]
            refine iteF ?_
            refine iteF ?_
            have n2 : diag (tab k (rows.take m)) g r ≠ some v' := fun z => by
              have : r = 0 := by omega
              subst this
              cases z
            refine ⟨_, rfl, .inl ⟨rfl, _, SqL.of hq⟩, _, rfl, q0, _, _, rfl, rfl, hq, by rw [List.length_map]; exact small1000 (by omega), ?_⟩
            refine ⟨g, r, _, _, _, ms ++ [(m : Int)], v' - p, rfl, same_mut s2 nq, by rw [upd_same, List.map_append]; rfl, by rw [List.length_append]; exact Nat.succ_le_succ hml, hj, hrs, by rw [hmi]; exact miss n2, fun hu => ?_⟩
            have h3 := hsum hu
            have h4 : p = 1 := hu _ (hw ▸ List.getElem_mem hml2)
            rw [List.length_append]
            show ((ms.length + 1 : Nat) : Int) + (v' - p) = v
            omega
      · have hgj : j ≠ g := fun z => by
          subst z
          exact hcj (decide_eq_true rfl)
        refine ⟨j, r, _, _, _, ms, v', rfl, s2, hq, by omega, hj, hrs, ?_, hsum⟩
        rw [hmi]
        rw [step_off _ _ _ hgj] at ht2
        exact ht2
    · rintro σ H' ⟨j, r, y5, y6, y7, ms, v', rfl, s2, hq, hml, hj, hrs, ht, hsum⟩
      refine ⟨_, rfl, q0, _, rfl, SqL.of hq, fun p1 np1 => newE np1 fun H2 s3 e3 => ?_⟩
      rw [← List.map_reverse] at e3
      refine q p1 ms.reverse H2 (s2.free np1) (s2.trans s3) e3 (by rw [List.length_reverse]; omega) fun hu => ?_
      have h1 := hsum hu
      rw [hvl, Nat.sub_self, List.take_zero] at ht
      have h2 := first_zero (k := k) (j := j) (r := r) ht
      rw [List.length_reverse]
      omega
end
end K57
namespace K57
open PySem PySem.Spec PyProof.Rows L2
theorem DemAt.cells {n : Nat} {H : Hp} {v : V} {d : Nat → Nat → Nat} (h : DemAt n H v d) : ∃ a rs, v = .ref a ∧ H a = some (.lst rs) ∧ ∀ k, k ≤ n → ∃ b, rs[k]? = some (.ref b) ∧ H b = some (.lst (demV n (d k))) := by
  obtain ⟨a, rs, e, ha, hl, hr⟩ := h
  refine ⟨a, rs, e, ha, fun k hk => ?_⟩
  have h1 : rs[k]? = some rs[k] := List.getElem?_eq_getElem (by omega)
  obtain ⟨b, e2, hb⟩ := hr k _ h1
  exact ⟨b, by rw [h1, e2], hb⟩
/-- the best so far, of the places that were seen -/
def BestAt (d : Nat → Nat → Nat) (rows : List Row) (seen : Nat → Nat → Prop) (H : Hp) (v : V) : Prop :=
  (v = .non ∧ ∀ k t, seen k t → entry d rows k t = none) ∨
  ∃ (b : Addr) (c : Int) (k t : Nat) (m : Addr) (ms : List Int), v = .ref b ∧ H b = some (.tup [.int c, .int (k : Int), .int (t : Int), .ref m]) ∧ H m = some (.lst (ms.map V.int)) ∧ ms.length ≤ 1000 ∧
    ((∀ w ∈ rows, w.2 = 1) → (ms.length : Int) = c) ∧ seen k t ∧ entry d rows k t = some c ∧ ∀ k' t' q, seen k' t' → entry d rows k' t' = some q → c ≤ q
theorem BestAt.mono {d : Nat → Nat → Nat} {rows : List Row} {seen : Nat → Nat → Prop} {H H' : Hp} {v : V} (s : Same H H') (h : BestAt d rows seen H v) : BestAt d rows seen H' v := by
  rcases h with h | ⟨b, c, k, t, m, ms, e, hb, hm, r⟩
  · exact .inl h
  · exact .inr ⟨b, c, k, t, m, ms, e, s _ _ hb, s _ _ hm, r⟩
theorem BestAt.iff {d : Nat → Nat → Nat} {rows : List Row} {seen seen' : Nat → Nat → Prop} {H : Hp} {v : V} (e : ∀ k t, seen k t ↔ seen' k t) (h : BestAt d rows seen H v) : BestAt d rows seen' H v := by
  rcases h with ⟨h1, h2⟩ | ⟨b, c, k, t, m, ms, e1, hb, hm, hl, hu, hs, he, hq⟩
  · exact .inl ⟨h1, fun k t z => h2 k t ((e k t).mpr z)⟩
  · exact .inr ⟨b, c, k, t, m, ms, e1, hb, hm, hl, hu, (e k t).mp hs, he, fun k' t' q z => hq k' t' q ((e k' t').mpr z)⟩
section
variable {P : Program} {w : World} {K : PySem.W.Frag} {mg : Str → Option Value} {base : Heap}
/-! ### least_spoil -/
abbrev nSpo : List Str := ["places", "comparisons", "table", "best", "k", "found", "t", "price"]
def spSpoil : Sp := fun vs H Q _ => ∃ (n : Nat) (rows : List Row) (vr vt : V) (d : Nat → Nat → Nat), vs = [.int (n : Int), vr, vt] ∧ RowsAt H vr rows ∧ Ok n rows ∧ DemAt n H vt d ∧ (∀ k t, d k t ≤ k) ∧ 1 ≤ n ∧ n ≤ 100 ∧ rows.length ≤ 1000 ∧
  ∀ v H', Same H H' → BestAt d rows (fun k t => 1 ≤ k ∧ k < n ∧ 1 ≤ t ∧ t < n) H' v → Q v H'
theorem cal_least_spoil (D : DefIn K mg "least_spoil" (top 17) ["places", "comparisons", "table"]) (B : Bare mg) (c1 : C8.Cal P w K mg base 3 "walk_prices" spWalk []) (c2 : C8.Cal P w K mg base 1 "walk_misses" spMiss []) :
    C8.Cal P w K mg base 4 "least_spoil" spSpoil [] := by
  have nd : (nSpo : List Str).Nodup := by decide +kernel
  refine D.cal (N := nSpo) (C8.fnScope_by (by decide +kernel)) (fun vs H Q E h => ?_) (fun f cdv A outer s H vs Q E hr h => ?_)
  · obtain ⟨n, rows, vr, vt, d, rfl, _⟩ := h
    rfl
  · obtain ⟨n, rows, vr, vt, d, rfl, hR, ok, hD, hdk, hn1, hn, hrl, q⟩ := h
    obtain ⟨a, rs, rfl, ha, hcell⟩ := hD.cells
    refine ⟨_, pss_cons (ps_set (i := 3) nd rfl (.inl rfl) pe_non)
      (pss_cons (ps_for PassesOwn.never rfl (pi_range2 (by rfl) B.range (pa_cons pe_int (pa_cons (pv 0) pa_nil))) (pg_name (i := 4) nd rfl (.inl rfl))
        (pss_cons (ps_set (i := 5) nd rfl (.inl rfl) (C8.pe_c c1 hr (by decide) (by rfl) (pa_cons (pv 0) (pa_cons (pv 1) (pa_cons (pv 4) (pa_cons (pe_op op_sub (pv 4) pe_int) pa_nil))))))
        (pss_one (ps_for PassesOwn.never rfl (pi_range2 (by rfl) B.range (pa_cons pe_int (pa_cons (pv 0) pa_nil))) (pg_name (i := 6) nd rfl (.inl rfl))
          (pss_cons (ps_set (i := 7) nd rfl (.inl rfl) (pe_ifExp (pt_cmpR op_gt (pe_ix ix_list (pe_ix ix_list (pv 2) (pv 4) (fun _ _ => rfl)) (pv 6) (fun _ _ => rfl)) pe_int (nomark _))
              (pe_ix ix_list (pe_ix ix_list (pe_ix ix_list (pv 5) (pe_un un_neg pe_int) (fun _ _ => rfl)) (pv 6) (fun _ _ => rfl)) (pe_op op_sub (pe_ix ix_list (pe_ix ix_list (pv 2) (pv 4) (fun _ _ => rfl)) (pv 6) (fun _ _ => rfl)) pe_int) (fun _ _ => rfl)) pe_non))
          (pss_one (ps_if (PW.pt (pw_and (pt_cmp (pc_notN (pv 7))) (pw_and1 (PW.pt (pw_or (pt_cmp (pc_isN (pv 3))) (pw_or1 (pt_cmpR op_lt (pv 7) (pe_ix ix_tup (pv 3) pe_int (fun _ _ => rfl)) (nomark _))))))))
            (pss_one (ps_set (i := 3) nd rfl (.inl rfl) (pe_tup (pa_cons (pv 7) (pa_cons (pv 4) (pa_cons (pv 6) (pa_cons
              (C8.pe_c c2 hr (by decide) (by rfl) (pa_cons (pv 1) (pa_cons (pv 5) (pa_cons (pv 6) (pa_cons (pe_op op_sub (pe_ix ix_list (pe_ix ix_list (pv 2) (pv 4) (fun _ _ => rfl)) (pv 6) (fun _ _ => rfl)) pe_int) pa_nil))))) pa_nil)))))))
            pss_nil)))))))
      (pss_one (ps_ret (pv 3)))), ?_⟩
    refine ⟨_, rfl, 1, n, rfl, ⟨by decide, by decide, by omega, by omega⟩, ?_⟩
    have en : ((n : Int) - 1).toNat = n - 1 := by omega
    rw [en]
    refine for_range (lo := 1) (n := n - 1) (fun i σ H' => ∃ yb y4 y5 y6 y7, σ = [some (.int n), some vr, some (.ref a), some yb, y4, y5, y6, y7] ∧ Same H H' ∧ BestAt d rows (fun k t => 1 ≤ k ∧ k < 1 + i ∧ 1 ≤ t ∧ t < n) H' yb)
      ⟨.non, none, none, none, none, rfl, Same.refl _, .inl ⟨rfl, fun k t z => by omega⟩⟩ ?_ ?_
    · rintro i σ H0 hi ⟨yb0, y4, y5, y6, y7, rfl, s0, hB0⟩
      have ek : (1 : Int) + (i : Nat) = ((1 + i : Nat) : Int) := by omega
      rw [ek]
      obtain ⟨k0, hk0⟩ : ∃ k0, k0 = 1 + i := ⟨_, rfl⟩
      rw [← hk0]
      have hk1 : 1 ≤ k0 := by omega
      have hkn : k0 < n := by omega
      obtain ⟨bk, ibk, hbk⟩ := hcell k0 (by omega)
      -- found = walk_prices(places, comparisons, k, k - 1)
      have ek1 : (k0 : Int) - 1 = ((k0 - 1 : Nat) : Int) := by omega
      refine ⟨_, rfl, _, rfl, _, rfl, _, rfl, (k0 : Int), 1, rfl, rfl, n, k0, k0 - 1, rows, vr, ?_, hR.mono s0, ok, by omega, by omega, by omega, hrl, fun vf H1 s1 hW => ?_⟩
      · show [V.int (n : Int), vr, V.int (k0 : Int), V.int ((k0 : Int) - 1)] ++ [] = _
        rw [ek1]
        rfl
      obtain ⟨fa, ts, rfl, hfa, htl, htab⟩ := hW.tabs
      obtain ⟨tb, cs, itb, htb, hcl, hcs⟩ := htab rows.length (Nat.le_refl _)
      rw [List.take_length] at hcs
      have hlast : ts[ts.length - 1]? = some (.ref tb) := by
        rw [show ts.length - 1 = rows.length by omega]
        exact itb
      have s01 : Same H H1 := s0.trans s1
      refine ⟨_, rfl, 1, n, rfl, ⟨by decide, by decide, by omega, by omega⟩, ?_⟩
      rw [en]
      refine for_range (lo := 1) (n := n - 1) (fun m σ H' => ∃ yb y6 y7, σ = [some (.int n), some vr, some (.ref a), some yb, some (.int (k0 : Int)), some (.ref fa), y6, y7] ∧ Same H1 H' ∧
          BestAt d rows (fun k t => (1 ≤ k ∧ k < k0 ∧ 1 ≤ t ∧ t < n) ∨ (k = k0 ∧ 1 ≤ t ∧ t < 1 + m)) H' yb)
        ⟨yb0, y6, y7, rfl, Same.refl _, (hB0.mono s1).iff fun k t => by omega⟩ ?_ ?_
      · rintro m σ H' hm ⟨yb, y6, y7, rfl, s2, hB⟩
        have et : (1 : Int) + (m : Nat) = ((1 + m : Nat) : Int) := by omega
        rw [et]
        obtain ⟨t0, ht0⟩ : ∃ t0, t0 = 1 + m := ⟨_, rfl⟩
        rw [← ht0] at hB ⊢
        have s02 : Same H H' := s01.trans s2
        have htn : t0 < n := by omega
        obtain ⟨tc, itc, htc⟩ := hcs t0 (by omega)
        have hat : (demV n (d k0))[t0]? = some (.int (d k0 t0 : Int)) := demV_at (by omega)
        have hdk0 := hdk k0 t0
        -- what the next place sees
        have seen : ∀ k t, ((1 ≤ k ∧ k < k0 ∧ 1 ≤ t ∧ t < n) ∨ (k = k0 ∧ 1 ≤ t ∧ t < 1 + (m + 1))) ↔ (((1 ≤ k ∧ k < k0 ∧ 1 ≤ t ∧ t < n) ∨ (k = k0 ∧ 1 ≤ t ∧ t < t0)) ∨ (k = k0 ∧ t = t0)) := fun k t => by omega
        have stay : entry d rows k0 t0 = none → BestAt d rows (fun k t => (1 ≤ k ∧ k < k0 ∧ 1 ≤ t ∧ t < n) ∨ (k = k0 ∧ 1 ≤ t ∧ t < 1 + (m + 1))) H' yb := fun e => by
          refine BestAt.iff (fun k t => (seen k t).symm) ?_
          rcases hB with ⟨h1, h2⟩ | ⟨b, c, k, t, mm, ms, e1, hb, hm, hl, hu, hs, he, hq⟩
          · refine .inl ⟨h1, fun k t z => ?_⟩
            rcases z with z | ⟨rfl, rfl⟩
            · exact h2 k t z
            · exact e
          · refine .inr ⟨b, c, k, t, mm, ms, e1, hb, hm, hl, hu, .inl hs, he, fun k' t' q z => ?_⟩
            rcases z with z | ⟨rfl, rfl⟩
            · exact hq k' t' q z
            · intro z2
              rw [e] at z2
              cases z2
        -- price = ..
        refine ⟨_, rfl, _, rfl, a, rs, _, _, rfl, rfl, SqL.of (s02 _ _ ha), at_int k0 rfl ibk, _, rfl, bk, _, _, _, rfl, rfl, SqL.of (s02 _ _ hbk), at_int t0 rfl hat, _, 0, rfl, rfl, _, rfl, ?_⟩
        by_cases hd0 : 0 < d k0 t0
        · rw [decide_eq_true (show (0 : Int) < (d k0 t0 : Int) by omega)]
          have ed : (d k0 t0 : Int) - 1 = ((d k0 t0 - 1 : Nat) : Int) := by omega
          have ee : entry d rows k0 t0 = tab k0 rows t0 (d k0 t0 - 1) := if_pos hd0
          refine iteT ⟨_, rfl, 1, rfl, fa, ts, _, _, rfl, rfl, SqL.of (s2 _ _ hfa), at_last hlast, _, rfl, tb, cs, _, _, rfl, rfl, SqL.of (s2 _ _ htb), at_int t0 rfl itc,
            _, rfl, _, rfl, a, rs, _, _, rfl, rfl, SqL.of (s02 _ _ ha), at_int k0 rfl ibk, _, rfl, bk, _, _, _, rfl, rfl, SqL.of (s02 _ _ hbk), at_int t0 rfl hat, _, 1, rfl, rfl,
            tc, _, _, _, rfl, rfl, SqL.of (s2 _ _ htc), at_int (d k0 t0 - 1) ed (colV_at (by omega)), ?_⟩
          rw [← ee]
          -- if price is not None and (best is None or price < best[0])
          refine ⟨_, rfl, _, rfl, ?_⟩
          cases ec : entry d rows k0 t0 with
          | none =>
            refine iteF ?_
            refine iteF ?_
            exact ⟨yb, _, _, rfl, s2, stay ec⟩
          | some c =>
            refine iteT ?_
            have enter : (∀ k' t' q, ((1 ≤ k' ∧ k' < k0 ∧ 1 ≤ t' ∧ t' < n) ∨ (k' = k0 ∧ 1 ≤ t' ∧ t' < t0)) → entry d rows k' t' = some q → c ≤ q) →
                ∀ (H4 : Hp) (b : Addr) (mm : Addr) (ms : List Int), H4 b = some (.tup [.int c, .int (k0 : Int), .int (t0 : Int), .ref mm]) → H4 mm = some (.lst (ms.map V.int)) → ms.length ≤ 1000 → ((∀ w ∈ rows, w.2 = 1) → (ms.length : Int) = c) →
                BestAt d rows (fun k t => (1 ≤ k ∧ k < k0 ∧ 1 ≤ t ∧ t < n) ∨ (k = k0 ∧ 1 ≤ t ∧ t < 1 + (m + 1))) H4 (.ref b) := by
              intro hmin H4 b mm ms hb hmm hl hu
              refine BestAt.iff (fun k t => (seen k t).symm) (.inr ⟨b, c, k0, t0, mm, ms, rfl, hb, hmm, hl, hu, .inr ⟨rfl, rfl⟩, ec, fun k' t' q z e => ?_⟩)
              rcases z with z | ⟨rfl, rfl⟩
              · exact hmin k' t' q z e
              · rw [ec] at e
                cases e
                exact Int.le_refl _
            have hv : tab k0 rows t0 (d k0 t0 - 1) = some c := by rw [← ee]; exact ec
            refine ⟨_, rfl, _, rfl, ?_⟩
            rcases hB with ⟨rfl, h2⟩ | ⟨b, cb, kb, tb', mb, msb, rfl, hb, hmb, hlb, hub, hsb, heb, hqb⟩
            · refine iteT ?_
              refine iteT ?_
              refine ⟨_, rfl, _, rfl, _, rfl, _, rfl, _, rfl, _, rfl, _, rfl, _, rfl, a, rs, _, _, rfl, rfl, SqL.of (s02 _ _ ha), at_int k0 rfl ibk, _, rfl, bk, _, _, _, rfl, rfl, SqL.of (s02 _ _ hbk), at_int t0 rfl hat, _, 1, rfl, rfl,
                n, k0 - 1, k0, rows, vr, .ref fa, t0, d k0 t0 - 1, c, ?_, hR.mono s02, hW.mono s2, ok, hrl, by omega, by omega, hv, fun mm ms H4 nmm s4 hmm hml hmu => ⟨big (by show 4 ≤ 100000; decide), fun b nb => newE nb fun H5 s5 hb5 => ?_⟩⟩
              · show [vr, V.ref fa, V.int (t0 : Int), V.int ((d k0 t0 : Int) - 1)] ++ [] = _
                rw [ed]
                rfl
              · exact ⟨.ref b, _, _, rfl, s2.trans (s4.trans s5), enter (fun k' t' q z e => by rw [h2 k' t' z] at e; cases e) H5 b mm ms hb5 (s5 _ _ hmm) hml hmu⟩
            · refine iteF ?_
              refine ⟨_, rfl, _, rfl, b, _, 0, .int cb, rfl, rfl, SqT.of hb, rfl, c, cb, rfl, rfl, _, rfl, ?_⟩
              by_cases hlt : c < cb
              · rw [decide_eq_true hlt]
                refine iteT ?_
                refine ⟨_, rfl, _, rfl, _, rfl, _, rfl, _, rfl, _, rfl, _, rfl, _, rfl, a, rs, _, _, rfl, rfl, SqL.of (s02 _ _ ha), at_int k0 rfl ibk, _, rfl, bk, _, _, _, rfl, rfl, SqL.of (s02 _ _ hbk), at_int t0 rfl hat, _, 1, rfl, rfl,
                  n, k0 - 1, k0, rows, vr, .ref fa, t0, d k0 t0 - 1, c, ?_, hR.mono s02, hW.mono s2, ok, hrl, by omega, by omega, hv, fun mm ms H4 nmm s4 hmm hml hmu => ⟨big (by show 4 ≤ 100000; decide), fun b5 nb => newE nb fun H5 s5 hb5 => ?_⟩⟩
                · show [vr, V.ref fa, V.int (t0 : Int), V.int ((d k0 t0 : Int) - 1)] ++ [] = _
                  rw [ed]
                  rfl
                · exact ⟨.ref b5, _, _, rfl, s2.trans (s4.trans s5), enter (fun k' t' q z e => by have := hqb k' t' q z e; omega) H5 b5 mm ms hb5 (s5 _ _ hmm) hml hmu⟩
              · rw [decide_eq_false hlt]
                refine iteF ?_
                refine ⟨.ref b, _, _, rfl, s2, BestAt.iff (fun k t => (seen k t).symm) (.inr ⟨b, cb, kb, tb', mb, msb, rfl, hb, hmb, hlb, hub, .inl hsb, heb, fun k' t' q z e => ?_⟩)⟩
                rcases z with z | ⟨rfl, rfl⟩
                · exact hqb k' t' q z e
                · rw [ec] at e
                  cases e
                  omega
        · rw [decide_eq_false (show ¬ (0 : Int) < (d k0 t0 : Int) by omega)]
          refine iteF ?_
          refine ⟨_, rfl, _, rfl, ?_⟩
          refine iteF ?_
          refine iteF ?_
          exact ⟨yb, _, _, rfl, s2, stay (if_neg hd0)⟩
      · rintro σ H' ⟨yb, y6, y7, rfl, s2, hB⟩
        refine ⟨yb, _, _, _, _, rfl, s01.trans s2, hB.iff fun k t => ?_⟩
        omega
    · rintro σ H' ⟨yb, y4, y5, y6, y7, rfl, s2, hB⟩
      refine ⟨_, rfl, q _ _ s2 (hB.iff fun k t => ?_)⟩
      omega

/-! ### with_unit_prices -/
def spUnit : Sp := fun vs H Q _ => ∃ (rows : List Row) (v : V), vs = [v] ∧ RowsAt H v rows ∧ rows.length ≤ 1000 ∧ ∀ v' H', Same H H' → RowsAt H' v' (rows.map fun x => (x.1, 1)) → Q v' H'
theorem cal_with_unit_prices (D : DefIn K mg "with_unit_prices" (top 18) ["comparisons"]) : C8.Cal P w K mg base 1 "with_unit_prices" spUnit [] := by
  have nd : (["comparisons", "gate", "price"] : List Str).Nodup := by decide +kernel
  refine D.cal (N := ["comparisons", "gate", "price"]) (C8.fnScope_by (by decide +kernel)) (fun vs H Q E h => ?_) (fun f cdv A outer s H vs Q E hr h => ?_)
  · obtain ⟨rows, v, rfl, _⟩ := h
    rfl
  · obtain ⟨rows, v, rfl, hR, hl, q⟩ := h
    obtain ⟨a, vs, rfl, ha, hvl, hrow⟩ := hR.row
    refine ⟨_, pss_one (ps_ret (pe_lc (own := [("gate", 1), ("price", 2)]) (g := gTup K 2 (gCons (gName 1) (gCons (gName 2) gNil))) (tt := tYes) rfl nd (pi_list (pv 0))
      (blkOk_by (N := ["comparisons", "gate", "price"]) (sc := C8.fnScope (top 18)) (by decide +kernel))
      (fun _ _ _ _ _ => pg_tup rfl (pgs_cons (pg_name (i := 1) nd rfl (.inl rfl)) (pgs_cons (pg_name (i := 2) nd rfl (.inl rfl)) pgs_nil))) (fun _ _ _ _ _ => pts_nil)
      (fun _ _ _ _ _ => pe_tup (pa_cons (pv 1) (pa_cons pe_int pa_nil))))), ?_⟩
    refine ⟨_, rfl, a, rfl, ⟨_, SqL.of ha⟩, fun D0 nD => lcList (K := K) (a := a) (ys := vs) nD (fun i v H' => ∀ x, rows[i]? = some x → RowAt H' v (x.1, 1)) (by omega) (SqL.of ha) (fun i x H1 Kt hx s1 hD kt => ?_) fun xs H1 s1 hD hxl hR1 => ?_⟩
    · have hi : i < rows.length := by
        have := (List.getElem?_eq_some_iff.mp hx).1
        omega
      obtain ⟨c, ic, hc⟩ := hrow i _ (List.getElem?_eq_getElem hi)
      have ex : x = .ref c := by
        rw [ic] at hx
        exact (Option.some.inj hx).symm
      subst ex
      refine ⟨c, _, rfl, SqT.of (s1 _ _ hc), rfl, _, _, rfl, _, _, rfl, rfl, rfl, ?_⟩
      refine ⟨_, rfl, big (by show 2 ≤ 100000; decide), fun p np => newE np fun H2 s2 e2 => ?_⟩
      refine kt _ _ s2 fun H3 sb x hx3 => ?_
      rw [List.getElem?_eq_getElem hi] at hx3
      cases hx3
      exact ⟨p, rfl, sb _ _ (ne_new hD np) e2⟩
    · refine q _ _ s1 ⟨D0, xs, rfl, hD, by rw [hxl, List.length_map, hvl], fun i c x h1 h2 => ?_⟩
      rw [List.getElem?_map] at h2
      cases e : rows[i]? with
      | none =>
        rw [e] at h2
        cases h2
      | some y =>
        rw [e] at h2
        cases h2
        exact hR1 i c h1 y e
end
end K57
namespace K57
open PySem PySem.Spec PyProof.Rows L2
/-! ### lists of comparisons, put together -/
def RowsL (H : Hp) (vs : List V) (rows : List Row) : Prop := vs.length = rows.length ∧ ∀ (i : Nat) c x, vs[i]? = some c → rows[i]? = some x → RowAt H c x
theorem RowsAt.l {H : Hp} {v : V} {rows : List Row} (h : RowsAt H v rows) : ∃ a vs, v = .ref a ∧ H a = some (.lst vs) ∧ RowsL H vs rows := by
  obtain ⟨a, vs, e, ha, hl, hr⟩ := h
  exact ⟨a, vs, e, ha, hl, hr⟩
theorem RowsL.at {H : Hp} {a : Addr} {vs : List V} {rows : List Row} (h : RowsL H vs rows) (ha : H a = some (.lst vs)) : RowsAt H (.ref a) rows := ⟨a, vs, rfl, ha, h.1, h.2⟩
theorem RowsL.mono {H H' : Hp} {vs : List V} {rows : List Row} (s : Same H H') (h : RowsL H vs rows) : RowsL H' vs rows := ⟨h.1, fun i c x h1 h2 => (h.2 i c x h1 h2).mono s⟩
theorem RowsL.take {H : Hp} {vs : List V} {rows : List Row} (h : RowsL H vs rows) (n : Nat) : RowsL H (vs.take n) (rows.take n) := by
  refine ⟨by rw [List.length_take, List.length_take, h.1], fun i c x h1 h2 => ?_⟩
  by_cases hi : i < n
  · rw [List.getElem?_take_of_lt hi] at h1 h2
    exact h.2 i c x h1 h2
  · rw [List.getElem?_eq_none (by rw [List.length_take]; omega)] at h1
    cases h1
theorem RowsL.drop {H : Hp} {vs : List V} {rows : List Row} (h : RowsL H vs rows) (n : Nat) : RowsL H (vs.drop n) (rows.drop n) := by
  refine ⟨by rw [List.length_drop, List.length_drop, h.1], fun i c x h1 h2 => ?_⟩
  rw [List.getElem?_drop] at h1 h2
  exact h.2 _ c x h1 h2
theorem RowsL.append {H : Hp} {vs ws : List V} {rows rows' : List Row} (h : RowsL H vs rows) (h' : RowsL H ws rows') : RowsL H (vs ++ ws) (rows ++ rows') := by
  refine ⟨by rw [List.length_append, List.length_append, h.1, h'.1], fun i c x h1 h2 => ?_⟩
  by_cases hi : i < vs.length
  · rw [List.getElem?_append_left hi] at h1
    rw [List.getElem?_append_left (by rw [← h.1]; exact hi)] at h2
    exact h.2 i c x h1 h2
  · rw [List.getElem?_append_right (by omega)] at h1
    rw [List.getElem?_append_right (by rw [← h.1]; omega), ← h.1] at h2
    exact h'.2 _ c x h1 h2
theorem RowsL.one {H : Hp} {c : V} {x : Row} (h : RowAt H c x) : RowsL H [c] [x] := by
  refine ⟨rfl, fun i c' x' h1 h2 => ?_⟩
  cases i with
  | zero =>
    cases h1
    cases h2
    exact h
  | succ i => cases h1
/-- what a schedule with n places may hold -/
def OkM (n : Nat) (rows : List Row) : Prop := ∀ x ∈ rows, 1 ≤ x.1 ∧ x.1 < n ∧ 0 ≤ x.2 ∧ x.2 ≤ maxPrice
theorem OkM.ok {n : Nat} {rows : List Row} (h : OkM n rows) : Ok n rows := fun x hx => ⟨(h x hx).1, (h x hx).2.1, (h x hx).2.2.1⟩
theorem OkM.append {n : Nat} {a b : List Row} (h : OkM n a) (h' : OkM n b) : OkM n (a ++ b) := fun x hx => (List.mem_append.mp hx).elim (h x) (h' x)
theorem OkM.take {n : Nat} {a : List Row} (h : OkM n a) (i : Nat) : OkM n (a.take i) := fun x hx => h x (List.mem_of_mem_take hx)
theorem OkM.drop {n : Nat} {a : List Row} (h : OkM n a) (i : Nat) : OkM n (a.drop i) := fun x hx => h x (List.mem_of_mem_drop hx)

/-! ### the object -/
theorem kf : ¬ (("place_count" : Str) = "rows") := by decide +kernel
def flds (n : Nat) (l : Addr) : List (Str × V) := putF "rows" (.ref l) (putF "place_count" (.int (n : Int)) [])
theorem flds_rows (n : Nat) (l : Addr) : (flds n l).lookup ("rows" : Str) = some (.ref l) := by
  unfold flds
  rw [lookup_putF, if_pos rfl]
theorem flds_count (n : Nat) (l : Addr) : (flds n l).lookup ("place_count" : Str) = some (.int (n : Int)) := by
  unfold flds
  rw [lookup_putF, if_neg kf, lookup_putF, if_pos rfl]
theorem flds_no (n : Nat) (l : Addr) {m : Str} (h1 : ¬ m = "rows") (h2 : ¬ m = "place_count") : (flds n l).lookup m = none := by
  unfold flds
  rw [lookup_putF, if_neg h1, lookup_putF, if_neg h2]
  all_goals rfl
/-- a Schedule stands at v: n places, the comparisons rows -/
def SchAt (C : Addr) (H : Hp) (v : V) (n : Nat) (rows : List Row) : Prop := ∃ a dx l, v = .ref a ∧ H a = some (.ins C dx (flds n l)) ∧ RowsAt H (.ref l) rows
theorem SchAt.mono {C : Addr} {H H' : Hp} {v : V} {n : Nat} {rows : List Row} (s : Same H H') (h : SchAt C H v n rows) : SchAt C H' v n rows := by
  obtain ⟨a, dx, l, e, ha, hr⟩ := h
  exact ⟨a, dx, l, e, s _ _ ha, hr.mono s⟩
/-- what the walk asks of the class as the top has made it -/
structure Cl (K : PySem.W.Frag) (C : Addr) : Prop where
  cl : Cls K C
  nP : NoAttr K C "place_count"
  nR : NoAttr K C "rows"
/-- the module's constants -/
structure Consts (mg : Str → Option Value) : Prop where
  places : ∃ u, mg "MAX_PLACES" = some u ∧ RelV (.int 12) u
  comps : ∃ u, mg "MAX_COMPARISONS" = some u ∧ RelV (.int 400) u
  price : ∃ u, mg "MAX_PRICE" = some u ∧ RelV (.int maxPrice) u
section
variable {P : Program} {w : World} {K : PySem.W.Frag} {mg : Str → Option Value} {base : Heap}
/-- a method of the class, its parameters ps -/
structure MethIn (K : PySem.W.Frag) (C : Addr) (m qual : Str) (st : Stmt) (ps : List Str) : Prop where
  ex : ∃ (f : Addr) (fd : FuncData), Meth K C m f ∧ C8.Fun K m qual st f fd ∧ Binds K fd ps []
theorem MethIn.met {C : Addr} {m qual : Str} {st : Stmt} {N ps : List Str} {k : Nat} {sp : Sp} (c : Cls K C) (D : MethIn K C m qual st ps) (S : FnScope N ps (C8.fnScope st)) (len : ∀ vs H Q E, sp vs H Q E → vs.length = ps.length)
    (hbody : ∀ (f : Addr) (cdv : Value) (A : Around) (outer : List Env) (s : Shared) (H : Hp) (vs : List V) (Q : VK) (E : XK), Room k (A.deeper (envOfC qual (C8.fnScope st) s.heap.objs.size f cdv)) → sp vs H Q E →
      ∃ t, PSs (cxOf CX0 P w K mg base N qual (C8.fnScope st) f cdv A outer s H E).nox (C8.fnBody st) t ∧ t { nx := fun _ H' => Q .non H', rt := Q } (start N vs) H) : C8.Met P w K mg base (k + 1) C m sp [] := by
  obtain ⟨f, fd, me, F, b⟩ := D.ex
  exact C8.met0 c me F b S len fun cdv A outer s H vs Q E hr h => hbody f cdv A outer s H vs Q E hr h
/-- the class's own __init__ -/
structure InitIn (K : PySem.W.Frag) (C : Addr) (qual : Str) (st : Stmt) (ps : List Str) : Prop where
  ex : ∃ (f : Addr) (fd : FuncData), Mk K C f ∧ C8.Fun K "__init__" qual st f fd ∧ Binds K fd ps []
theorem InitIn.mak {C : Addr} {x qual : Str} {st : Stmt} {N ps : List Str} {k : Nat} {sp : Sp} (D : InitIn K C qual st ps) (hm : mg x = some (.ref C)) (S : FnScope N ps (C8.fnScope st)) (len : ∀ vs H Q E, sp vs H Q E → vs.length = ps.length)
    (hbody : ∀ (f : Addr) (cdv : Value) (A : Around) (outer : List Env) (s : Shared) (H : Hp) (vs : List V) (Q : VK) (E : XK), Room k (A.deeper (envOfC qual (C8.fnScope st) s.heap.objs.size f cdv)) → sp vs H Q E →
      ∃ t, PSs (cxOf CX0 P w K mg base N qual (C8.fnScope st) f cdv A outer s H E).nox (C8.fnBody st) t ∧ t { nx := fun _ H' => Q .non H', rt := Q } (start N vs) H) : C8.Mak P w K mg base (k + 1) x C sp [] := by
  obtain ⟨f, fd, M, F, b⟩ := D.ex
  exact C8.mak0 M hm F b .nil S len fun cdv A outer s H vs Q E hr h => hbody f cdv A outer s H vs Q E hr h
/-! ### Schedule.__init__ -/
abbrev nIni : List Str := ["self", "places", "comparisons", "at", "comparison"]
def spInit (C : Addr) : Sp := fun vs H Q _ => ∃ (p dx : Addr) (n : Nat) (rows : List Row) (v : V), vs = [.ref p, .int (n : Int), v] ∧ H p = some (.ins C dx []) ∧ RowsAt H v rows ∧ OkM n rows ∧ 1 ≤ n ∧ n ≤ 12 ∧ rows.length ≤ 400 ∧
  ∀ H', (∀ b o, H b = some o → b ≠ p → H' b = some o) → SchAt C H' (.ref p) n rows → Q .non H'
theorem mak_schedule {C : Addr} (D : InitIn K C "Schedule.__init__" (kls 0) ["self", "places", "comparisons"]) (T : Cl K C) (hm : mg "Schedule" = some (.ref C)) (B : Bare mg) (N : Consts mg)
    (c1 : C8.Cal P w K mg base 2 "is_between" spBetween []) (c2 : C8.Cal P w K mg base 4 "is_comparison" spIsComp []) : C8.Mak P w K mg base 5 "Schedule" C (spInit C) [] := by
  have nd : (nIni : List Str).Nodup := by decide +kernel
  refine D.mak (N := nIni) hm (C8.fnScope_by (by decide +kernel)) (fun vs H Q E h => ?_) (fun f cdv A outer s H vs Q E hr h => ?_)
  · obtain ⟨p, dx, n, rows, v, rfl, _⟩ := h
    rfl
  · obtain ⟨p, dx, n, rows, v, rfl, hp, hR, ok, hn1, hn, hl, q⟩ := h
    obtain ⟨a, vs, rfl, ha, hvl, hrow⟩ := hR.row
    refine ⟨_, pss_cons (ps_if (pt_not (pt_val (C8.pe_c c1 hr (by decide) (by rfl) (pa_cons (pv 1) (pa_cons pe_int (pa_cons (C8.pe_gc (v := .int 12) (by rfl) N.places) pa_nil)))))) (pss_one ps_never) pss_nil)
      (pss_cons (ps_if (PW.pt (pw_or (pt_not (pt_val (pe_callB call_isi (by rfl) B.isi PyProof.Rows.boot_isinstance (pa_cons (pv 2) (pa_cons (pe_bltn (v := .ty "list") (by rfl) B.list PyProof.Rows.boot_list rfl) pa_nil)))))
          (pw_or1 (pt_cmpR op_gt (pe_callB call_len_seq (by rfl) B.len PySem.boot_len (pa_cons (pv 2) pa_nil)) (C8.pe_gc (v := .int 400) (by rfl) N.comps) (nomark _))))) (pss_one ps_never) pss_nil)
      (pss_cons (ps_for PassesOwn.never rfl (pi_enum (by rfl) B.enum (pa_cons (pv 2) pa_nil)) (pg_tup rfl (pgs_cons (pg_name (i := 3) nd rfl (.inl rfl)) (pgs_cons (pg_name (i := 4) nd rfl (.inl rfl)) pgs_nil)))
        (pss_one (ps_if (pt_not (pt_val (C8.pe_c c2 hr (by decide) (by rfl) (pa_cons (pv 4) (pa_cons (pv 1) pa_nil))))) (pss_one ps_never) pss_nil)))
      (pss_cons (ps_fld (pv 0) (pv 1) rfl)
      (pss_one (ps_fld (pv 0) (pe_callTy call_list_of (by rfl) B.list PyProof.Rows.boot_list (pa_cons (pv 2) pa_nil)) rfl))))), ?_⟩
    refine ⟨_, rfl, _, 1, 12, rfl, true, ?_, iteF ?_⟩
    · rw [decide_eq_true ⟨by omega, by omega⟩]
    refine ⟨_, rfl, _, _, _, _, true, rfl, .ty _, .base (.lst ha), kit_ty (by decide +kernel), true, rfl, iteF ?_⟩
    refine ⟨_, rfl, a, vs, rfl, .inl (SqL.of ha), _, 400, rfl, rfl, _, rfl, ?_⟩
    rw [decide_eq_false (by omega)]
    refine iteF ?_
    refine ⟨_, rfl, a, vs, rfl, SqL.of ha, forEnum (K := K) (a := a) (ys := vs) (fun i σ H' => ∃ y3 y4, σ = [some (.ref p), some (.int n), some (.ref a), y3, y4] ∧ Same H H') ⟨none, none, rfl, Same.refl _⟩ (fun i σ H' _ ⟨_, _, _, s1⟩ => SqL.of (s1 _ _ ha)) ?_ ?_⟩
    · rintro i σ H0 x T0 H' hx ⟨y3, y4, rfl, s1⟩ nT sT hT0
      have hi : i < rows.length := by
        have := (List.getElem?_eq_some_iff.mp hx).1
        omega
      obtain ⟨c, ic, hc⟩ := hrow i _ (List.getElem?_eq_getElem hi)
      have ex : x = .ref c := by
        rw [ic] at hx
        exact (Option.some.inj hx).symm
      subst ex
      have s2 := s1.trans sT
      obtain ⟨o1, o2, o3, o4⟩ := ok _ (List.getElem_mem hi)
      refine ⟨T0, _, rfl, SqT.of hT0, rfl, _, _, rfl, _, _, rfl, rfl, ?_⟩
      refine ⟨_, rfl, _, rfl, rows[i], n, .ref c, rfl, ⟨c, rfl, s2 _ _ hc⟩, o1, o2, o3, o4, true, rfl, iteF ?_⟩
      exact ⟨_, _, rfl, s2⟩
    · rintro σ H' ⟨y3, y4, rfl, s1⟩
      refine ⟨_, rfl, _, rfl, p, C, dx, [], rfl, s1 _ _ hp, T.cl, T.nP, (by show 0 < 1000; decide), ?_⟩
      have hap : a ≠ p := fun z => by
        rw [z, hp] at ha
        cases ha
      refine ⟨_, rfl, a, vs, rfl, .inl (SqL.of (by rw [upd_ne hap]; exact s1 _ _ ha)), fun l nl => ?_⟩
      have nlp : l ≠ p := fun z => by
        rw [z, upd_same] at nl
        cases nl
      have nlH : H' l = none := by
        rw [upd_ne nlp] at nl
        exact nl
      refine ⟨_, rfl, p, C, dx, _, rfl, by rw [upd_ne nlp.symm]; exact upd_same, T.cl, T.nR, (by show 1 < 1000; decide), ?_⟩
      have keep : ∀ b o, H b = some o → b ≠ p → (upd (upd (upd H' p (.ins C dx (putF "place_count" (.int (n : Int)) []))) l (.lst vs)) p (.ins C dx (putF "rows" (.ref l) (putF "place_count" (.int (n : Int)) [])))) b = some o := fun b o e nb => by
        rw [upd_ne nb, upd_ne (ne_of_none (s1 _ _ e) nlH), upd_ne nb]
        exact s1 _ _ e
      refine q _ keep ⟨p, dx, l, rfl, upd_same, l, vs, rfl, by rw [upd_ne nlp]; exact upd_same, hvl, fun i c x h1 h2 => ?_⟩
      obtain ⟨c', ic, hc⟩ := hrow i x h2
      rw [ic] at h1
      cases h1
      refine ⟨c', rfl, keep _ _ hc fun z => ?_⟩
      rw [z, hp] at hc
      cases hc
/-- what a call of the class gives -/
theorem make_ok {C : Addr} {H1 : Hp} {n : Nat} {rows : List Row} {v : V} {x dx : Addr} {Kx : Hp → Prop} (nx : H1 x = none) (ndx : H1 dx = none) (ne : dx ≠ x) (hR : RowsAt H1 v rows) (ok : OkM n rows) (h1 : 1 ≤ n) (h2 : n ≤ 12) (h3 : rows.length ≤ 400)
    (k : ∀ H2, Same H1 H2 → SchAt C H2 (.ref x) n rows → Kx H2) : spInit C [.ref x, .int (n : Int), v] (upd (upd H1 dx (.own x)) x (.ins C dx [])) (fun v H2 => v = .non ∧ Kx H2) E0 := by
  have s1 : Same H1 (upd (upd H1 dx (.own x)) x (.ins C dx [])) := fun b o e => by
    rw [upd_ne (ne_of_none e nx), upd_ne (ne_of_none e ndx)]
    exact e
  exact ⟨x, dx, n, rows, v, rfl, upd_same, hR.mono s1, ok, h1, h2, h3, fun H' kp hS => ⟨rfl, k _ (fun b o e => kp b o (s1 _ _ e) (ne_of_none e nx)) hS⟩⟩
end
end K57
namespace K57
open PySem PySem.Spec PyProof.Rows L2
section
variable {P : Program} {w : World} {K : PySem.W.Frag} {mg : Str → Option Value} {base : Heap} {C : Addr}
/-! ### places, comparisons -/
/-- the property's getter, its parameters ps -/
structure PropIn (K : PySem.W.Frag) (C : Addr) (m qual : Str) (st : Stmt) (ps : List Str) : Prop where
  ex : ∃ (p f : Addr) (fd : FuncData), PropOf K C m p f ∧ C8.Fun K m qual st f fd ∧ Binds K fd ps []
/-- a property that may be read -/
structure Prp (P : Program) (w : World) (K : PySem.W.Frag) (mg : Str → Option Value) (base : Heap) (k : Nat) (C : Addr) (m : Str) (sp : Sp) : Prop where
  ex : ∃ (p f : Addr) (fd : FuncData) (ps : List Str), Cls K C ∧ PropOf K C m p f ∧ FnOk P w K mg base CX0 k f fd ps sp ∧ Binds K fd ps []
theorem pe_prp {X : Cx} {k j : Nat} {m : Str} {sp : Sp} {e : Expr} {pos : Pos} {ta : TE} (c : Prp X.prog X.w X.K X.mg X.base k C m sp) (hr : Room j X.A) (hk : k + 1 ≤ j) (he : PE X e ta) (hab : attributeBase e m X.env (eval e X.env) = eval e X.env := by rfl) :
    PE X (.Attribute e m pos) (tProp C sp [] E0 ta) := by
  obtain ⟨p, f, fd, ps, hc, hp, F, b⟩ := c.ex
  exact pe_prop he hc hp F (hr.mono hk) b .nil pass0 hab
def spPlaces (C : Addr) : Sp := fun vs H Q _ => ∃ (n : Nat) (rows : List Row) (v : V), vs = [v] ∧ SchAt C H v n rows ∧ Q (.int (n : Int)) H
theorem prp_places (D : PropIn K C "places" "Schedule.places" (kls 2) ["self"]) (T : Cl K C) : Prp P w K mg base 1 C "places" (spPlaces C) := by
  obtain ⟨p, f, fd, hp, F, b⟩ := D.ex
  refine ⟨p, f, fd, ["self"], T.cl, hp, C8.fn0 (N := ["self"]) F (C8.fnScope_by (by decide +kernel)) (fun vs H Q E h => ?_) (fun cdv A outer s H vs Q E hr h => ?_), b⟩
  · obtain ⟨n, rows, v, rfl, _⟩ := h
    rfl
  · obtain ⟨n, rows, v, rfl, ⟨a, dx, l, rfl, ha, hR⟩, q⟩ := h
    refine ⟨_, pss_one (ps_ret (pe_fld (pv 0) rfl)), ?_⟩
    exact ⟨_, rfl, a, C, dx, _, _, rfl, ha, T.cl, T.nP, flds_count n l, q⟩
def spComps (C : Addr) : Sp := fun vs H Q _ => ∃ (n : Nat) (rows : List Row) (v : V), vs = [v] ∧ SchAt C H v n rows ∧ ∀ v' H', Same H H' → RowsAt H' v' rows → Q v' H'
theorem met_comparisons (D : MethIn K C "comparisons" "Schedule.comparisons" (kls 3) ["self"]) (T : Cl K C) (B : Bare mg) : C8.Met P w K mg base 1 C "comparisons" (spComps C) [] := by
  refine D.met (N := ["self"]) T.cl (C8.fnScope_by (by decide +kernel)) (fun vs H Q E h => ?_) (fun f cdv A outer s H vs Q E hr h => ?_)
  · obtain ⟨n, rows, v, rfl, _⟩ := h
    rfl
  · obtain ⟨n, rows, v, rfl, ⟨a, dx, l, rfl, ha, hR⟩, q⟩ := h
    obtain ⟨l', vs, e, hl, hL⟩ := hR.l
    cases e
    refine ⟨_, pss_one (ps_ret (pe_callTy call_list_of (by rfl) B.list PyProof.Rows.boot_list (pa_cons (pe_fld (pv 0) rfl) pa_nil))), ?_⟩
    exact ⟨_, rfl, a, C, dx, _, _, rfl, ha, T.cl, T.nR, flds_rows n l, l, vs, rfl, .inl (SqL.of hl), fun p np => newE np fun H1 s1 e1 => q _ _ s1 ((hL.mono s1).at e1)⟩
/-! ### with_rows, need_comparison, without, priced -/
def spWith (C : Addr) : Sp := fun vs H Q _ => ∃ (n : Nat) (rows0 rows : List Row) (v v2 : V), vs = [v, v2] ∧ SchAt C H v n rows0 ∧ RowsAt H v2 rows ∧ OkM n rows ∧ 1 ≤ n ∧ n ≤ 12 ∧ rows.length ≤ 400 ∧ ∀ v' H', Same H H' → SchAt C H' v' n rows → Q v' H'
theorem met_with_rows (D : MethIn K C "with_rows" "Schedule.with_rows" (kls 6) ["self", "rows"]) (T : Cl K C) (B : Bare mg) (N : Consts mg) (mk : C8.Mak P w K mg base 5 "Schedule" C (spInit C) []) : C8.Met P w K mg base 7 C "with_rows" (spWith C) [] := by
  refine D.met (N := ["self", "rows"]) T.cl (C8.fnScope_by (by decide +kernel)) (fun vs H Q E h => ?_) (fun f cdv A outer s H vs Q E hr h => ?_)
  · obtain ⟨n, rows0, rows, v, v2, rfl, _⟩ := h
    rfl
  · obtain ⟨n, rows0, rows, v, v2, rfl, ⟨a, dx, l, rfl, ha, hR0⟩, hR, ok, hn1, hn, hl, q⟩ := h
    obtain ⟨b, vs, rfl, hb, hL⟩ := hR.l
    refine ⟨_, pss_cons (ps_if (pt_cmpR op_gt (pe_callB call_len_seq (by rfl) B.len PySem.boot_len (pa_cons (pv 1) pa_nil)) (C8.pe_gc (v := .int 400) (by rfl) N.comps) (nomark _)) (pss_one ps_never) pss_nil)
      (pss_one (ps_ret (C8.pe_mk mk hr (by decide) (by rfl) (pa_cons (pe_fld (pv 0) rfl) (pa_cons (pv 1) pa_nil))))), ?_⟩
    refine ⟨_, rfl, b, vs, rfl, .inl (SqL.of hb), _, 400, rfl, rfl, _, rfl, ?_⟩
    rw [decide_eq_false (by rw [hL.1]; omega)]
    refine iteF ?_
    refine ⟨_, rfl, a, C, dx, _, _, rfl, ha, T.cl, T.nP, flds_count n l, _, rfl, fun x dx2 nx ndx ne => make_ok nx ndx ne hR ok hn1 hn hl fun H2 s2 hS => q _ _ s2 hS⟩
def spNeed (C : Addr) : Sp := fun vs H Q _ => ∃ (n : Nat) (rows : List Row) (v : V) (i : Nat), vs = [v, .int (i : Int)] ∧ SchAt C H v n rows ∧ i < rows.length ∧ Q .non H
theorem met_need (D : MethIn K C "need_comparison" "Schedule.need_comparison" (kls 8) ["self", "at"]) (T : Cl K C) (B : Bare mg) (c1 : C8.Cal P w K mg base 2 "is_between" spBetween []) : C8.Met P w K mg base 3 C "need_comparison" (spNeed C) [] := by
  refine D.met (N := ["self", "at"]) T.cl (C8.fnScope_by (by decide +kernel)) (fun vs H Q E h => ?_) (fun f cdv A outer s H vs Q E hr h => ?_)
  · obtain ⟨n, rows, v, i, rfl, _⟩ := h
    rfl
  · obtain ⟨n, rows, v, i, rfl, ⟨a, dx, l, rfl, ha, hR⟩, hi, q⟩ := h
    obtain ⟨l', vs, e, hl, hL⟩ := hR.l
    cases e
    refine ⟨_, pss_one (ps_if (pt_not (pt_val (C8.pe_c c1 hr (by decide) (by rfl) (pa_cons (pv 1) (pa_cons pe_int (pa_cons (pe_op op_sub (pe_callB call_len_seq (by rfl) B.len PySem.boot_len (pa_cons (pe_fld (pv 0) rfl) pa_nil)) pe_int) pa_nil)))))) (pss_one ps_never) pss_nil), ?_⟩
    refine ⟨_, rfl, _, rfl, a, C, dx, _, _, rfl, ha, T.cl, T.nR, flds_rows n l, l, vs, rfl, .inl (SqL.of hl), _, 1, rfl, rfl, _, 0, _, rfl, true, ?_, iteF q⟩
    rw [decide_eq_true ⟨by omega, by rw [hL.1]; omega⟩]
def spWithout (C : Addr) : Sp := fun vs H Q _ => ∃ (n : Nat) (rows : List Row) (v : V) (i : Nat), vs = [v, .int (i : Int)] ∧ SchAt C H v n rows ∧ i < rows.length ∧ OkM n rows ∧ 1 ≤ n ∧ n ≤ 12 ∧ rows.length ≤ 400 ∧
  ∀ v' H', Same H H' → SchAt C H' v' n (rows.take i ++ rows.drop (i + 1)) → Q v' H'
theorem met_without (D : MethIn K C "without" "Schedule.without" (kls 9) ["self", "at"]) (T : Cl K C) (m1 : C8.Met P w K mg base 3 C "need_comparison" (spNeed C) []) (m2 : C8.Met P w K mg base 7 C "with_rows" (spWith C) []) : C8.Met P w K mg base 8 C "without" (spWithout C) [] := by
  refine D.met (N := ["self", "at"]) T.cl (C8.fnScope_by (by decide +kernel)) (fun vs H Q E h => ?_) (fun f cdv A outer s H vs Q E hr h => ?_)
  · obtain ⟨n, rows, v, i, rfl, _⟩ := h
    rfl
  · obtain ⟨n, rows, v, i, rfl, hS, hi, ok, hn1, hn, hll, q⟩ := h
    obtain ⟨a, dx, l, rfl, ha, hR⟩ := id hS
    obtain ⟨l', vs, e, hl, hL⟩ := hR.l
    cases e
    refine ⟨_, pss_cons (ps_expr (C8.pe_mt m1 hr (by decide) (pv 0) (pa_cons (pv 1) pa_nil)))
      (pss_one (ps_ret (C8.pe_mt m2 hr (by decide) (pv 0) (pa_cons (pe_op op_cat (pe_slice sl_list (pe_fld (pv 0) rfl) po_none (po_some (pv 1))) (pe_slice sl_list (pe_fld (pv 0) rfl) (po_some (pe_op op_add (pv 1) pe_int)) po_none)) pa_nil)))), ?_⟩
    refine ⟨_, rfl, a, dx, _, rfl, ha, flds_no n l (by decide +kernel) (by decide +kernel), _, rfl, n, rows, _, i, rfl, hS, hi, ?_⟩
    refine ⟨_, rfl, a, dx, _, rfl, ha, flds_no n l (by decide +kernel) (by decide +kernel), ?_⟩
    refine ⟨_, rfl, a, C, dx, _, _, rfl, ha, T.cl, T.nR, flds_rows n l, _, rfl, (i : Int), rfl, l, vs, rfl, SqL.of hl, fun p1 np1 => newE np1 fun H1 s1 e1 => ?_⟩
    refine ⟨_, rfl, a, C, dx, _, _, rfl, s1 _ _ ha, T.cl, T.nR, flds_rows n l, _, rfl, (i : Int), 1, rfl, rfl, _, rfl, l, vs, rfl, SqL.of (s1 _ _ hl), fun p2 np2 => newE np2 fun H2 s2 e2 => ?_⟩
    have ei : (i : Int) + 1 = ((i + 1 : Nat) : Int) := by omega
    rw [cut_to vs i (by rw [hL.1]; omega)] at e1
    rw [ei, cut_from] at e2
    refine ⟨p1, p2, _, _, rfl, rfl, s2 _ _ e1, e2, big ?_, fun p3 np3 => newE np3 fun H3 s3 e3 => ?_⟩
    · rw [List.length_take, List.length_drop, hL.1]
      omega
    have s13 := s1.trans (s2.trans s3)
    refine ⟨n, rows, rows.take i ++ rows.drop (i + 1), _, _, rfl, hS.mono s13, RowsL.at (((hL.mono s13).take i).append ((hL.mono s13).drop (i + 1))) e3, (ok.take i).append (ok.drop (i + 1)), hn1, hn, ?_, fun v' H' s4 h4 => q _ _ (s13.trans s4) h4⟩
    rw [List.length_append, List.length_take, List.length_drop]
    omega
def spPriced (C : Addr) : Sp := fun vs H Q _ => ∃ (n : Nat) (rows : List Row) (v : V) (i g : Nat) (p0 p : Int), vs = [v, .int (i : Int), .int p] ∧ SchAt C H v n rows ∧ rows[i]? = some (g, p0) ∧ 0 ≤ p ∧ p ≤ maxPrice ∧ OkM n rows ∧ 1 ≤ n ∧ n ≤ 12 ∧ rows.length ≤ 400 ∧
  ∀ v' H', Same H H' → SchAt C H' v' n (rows.take i ++ [(g, p)] ++ rows.drop (i + 1)) → Q v' H'
theorem met_priced (D : MethIn K C "priced" "Schedule.priced" (kls 10) ["self", "at", "price"]) (T : Cl K C) (c1 : C8.Cal P w K mg base 3 "is_price" spIsPrice []) (m1 : C8.Met P w K mg base 3 C "need_comparison" (spNeed C) []) (m2 : C8.Met P w K mg base 7 C "with_rows" (spWith C) []) :
    C8.Met P w K mg base 8 C "priced" (spPriced C) [] := by
  refine D.met (N := ["self", "at", "price"]) T.cl (C8.fnScope_by (by decide +kernel)) (fun vs H Q E h => ?_) (fun f cdv A outer s H vs Q E hr h => ?_)
  · obtain ⟨n, rows, v, i, g, p0, p, rfl, _⟩ := h
    rfl
  · obtain ⟨n, rows, v, i, g, p0, p, rfl, hS, hri, hp0, hp1, ok, hn1, hn, hll, q⟩ := h
    have hi : i < rows.length := (List.getElem?_eq_some_iff.mp hri).1
    obtain ⟨a, dx, l, rfl, ha, hR⟩ := id hS
    obtain ⟨l', vs, e, hl, hL⟩ := hR.l
    cases e
    obtain ⟨ci, hci⟩ : ∃ ci, vs[i]? = some ci := ⟨_, List.getElem?_eq_getElem (by rw [hL.1]; exact hi)⟩
    obtain ⟨c, rfl, hc⟩ := hL.2 i ci _ hci hri
    refine ⟨_, pss_cons (ps_expr (C8.pe_mt m1 hr (by decide) (pv 0) (pa_cons (pv 1) pa_nil)))
      (pss_cons (ps_if (pt_not (pt_val (C8.pe_c c1 hr (by decide) (by rfl) (pa_cons (pv 2) pa_nil)))) (pss_one ps_never) pss_nil)
      (pss_one (ps_ret (C8.pe_mt m2 hr (by decide) (pv 0) (pa_cons (pe_op op_cat (pe_op op_cat (pe_slice sl_list (pe_fld (pv 0) rfl) po_none (po_some (pv 1)))
          (pe_lst (pa_cons (pe_tup (pa_cons (pe_ix ix_tup (pe_ix ix_list (pe_fld (pv 0) rfl) (pv 1) (fun _ _ => rfl)) pe_int (fun _ _ => rfl)) (pa_cons (pv 2) pa_nil))) pa_nil)))
        (pe_slice sl_list (pe_fld (pv 0) rfl) (po_some (pe_op op_add (pv 1) pe_int)) po_none)) pa_nil))))), ?_⟩
    refine ⟨_, rfl, a, dx, _, rfl, ha, flds_no n l (by decide +kernel) (by decide +kernel), _, rfl, n, rows, _, i, rfl, hS, hi, ?_⟩
    refine ⟨_, rfl, p, rfl, true, ?_, iteF ?_⟩
    · rw [decide_eq_true ⟨hp0, hp1⟩]
    refine ⟨_, rfl, a, dx, _, rfl, ha, flds_no n l (by decide +kernel) (by decide +kernel), ?_⟩
    refine ⟨_, rfl, a, C, dx, _, _, rfl, ha, T.cl, T.nR, flds_rows n l, _, rfl, (i : Int), rfl, l, vs, rfl, SqL.of hl, fun p1 np1 => newE np1 fun H1 s1 e1 => ?_⟩
    refine ⟨_, rfl, a, C, dx, _, _, rfl, s1 _ _ ha, T.cl, T.nR, flds_rows n l, _, rfl, l, vs, (i : Int), _, rfl, rfl, SqL.of (s1 _ _ hl), at_int i rfl hci, c, _, 0, _, rfl, rfl, SqT.of (s1 _ _ hc), rfl, _, rfl, big (by show 2 ≤ 100000; decide), fun p2 np2 => newE np2 fun H2 s2 e2 => ?_⟩
    refine ⟨big (by show 1 ≤ 100000; decide), fun p3 np3 => newE np3 fun H3 s3 e3 => ?_⟩
    have ei : (i : Int) + 1 = ((i + 1 : Nat) : Int) := by omega
    rw [cut_to vs i (by rw [hL.1]; omega)] at e1
    have s23 := s2.trans s3
    refine ⟨p1, p3, _, _, rfl, rfl, s23 _ _ e1, e3, big ?_, fun p4 np4 => newE np4 fun H4 s4 e4 => ?_⟩
    · rw [List.length_take, hL.1]
      show _ + 1 ≤ 100000
      omega
    have s14 := s1.trans (s23.trans s4)
    refine ⟨_, rfl, a, C, dx, _, _, rfl, s14 _ _ ha, T.cl, T.nR, flds_rows n l, _, rfl, (i : Int), 1, rfl, rfl, _, rfl, l, vs, rfl, SqL.of (s14 _ _ hl), fun p5 np5 => newE np5 fun H5 s5 e5 => ?_⟩
    rw [ei, cut_from] at e5
    refine ⟨p4, p5, _, _, rfl, rfl, s5 _ _ e4, e5, big ?_, fun p6 np6 => newE np6 fun H6 s6 e6 => ?_⟩
    · rw [List.length_append, List.length_take, List.length_drop, hL.1]
      show _ + 1 + _ ≤ 100000
      omega
    have s56 := s5.trans s6
    have s16 := s14.trans s56
    have hrow : RowAt H6 (.ref p2) (g, p) := ⟨p2, rfl, s56 _ _ (s4 _ _ (s3 _ _ e2))⟩
    refine ⟨n, rows, rows.take i ++ [(g, p)] ++ rows.drop (i + 1), _, _, rfl, hS.mono s16, RowsL.at ((((hL.mono s16).take i).append (RowsL.one hrow)).append ((hL.mono s16).drop (i + 1))) e6, ?_, hn1, hn, ?_, fun v' H' s7 h7 => q _ _ (s16.trans s7) h7⟩
    · refine ((ok.take i).append fun x hx => ?_).append (ok.drop (i + 1))
      rw [List.mem_singleton] at hx
      subst hx
      have := ok _ (List.mem_of_getElem? hri)
      exact ⟨this.1, this.2.1, hp0, hp1⟩
    · rw [List.length_append, List.length_append, List.length_take, List.length_drop]
      show _ + 1 + _ ≤ 400
      omega
end
end K57
namespace K57
open PySem PySem.Spec PyProof.Rows L2
def unit (rows : List Row) : List Row := rows.map fun x => (x.1, 1)
theorem unit_ok {n : Nat} {rows : List Row} (h : OkM n rows) : OkM n (unit rows) := fun x hx => by
  obtain ⟨y, hy, rfl⟩ := List.mem_map.mp hx
  have := h y hy
  exact ⟨this.1, this.2.1, (by show (0 : Int) ≤ 1; decide), (by show (1 : Int) ≤ maxPrice; decide)⟩
theorem unit_one {rows : List Row} : ∀ x ∈ unit rows, x.2 = 1 := fun x hx => by
  obtain ⟨y, hy, rfl⟩ := List.mem_map.mp hx
  rfl
theorem unit_len (rows : List Row) : (unit rows).length = rows.length := List.length_map ..
theorem unit_unit (rows : List Row) : unit (unit rows) = unit rows := by
  unfold unit
  rw [List.map_map]
  rfl
def Full (n : Nat) : Nat → Nat → Prop := fun k t => 1 ≤ k ∧ k < n ∧ 1 ≤ t ∧ t < n
/-- the best of all places, where there is one -/
theorem best_cost {n : Nat} {xs : List Nat} {rows : List Row} {H : Hp} {v : V} (o : Order n xs) (ne : xs ≠ List.range n) (h : BestAt (dem xs) rows (Full n) H v) :
    ∃ (b : Addr) (c : Int) (k t : Nat) (m : Addr) (ms : List Int), v = .ref b ∧ H b = some (.tup [.int c, .int (k : Int), .int (t : Int), .ref m]) ∧ H m = some (.lst (ms.map V.int)) ∧ ms.length ≤ 1000 ∧ ((∀ w ∈ rows, w.2 = 1) → (ms.length : Int) = c) ∧ Cost n (dem xs) rows c := by
  rcases h with ⟨_, h2⟩ | ⟨b, c, k, t, m, ms, e1, hb, hm, hl, hu, hs, he, hq⟩
  · obtain ⟨k, t, a1, a2, a3, a4, e⟩ := entry_there o ne rows
    exact absurd (h2 k t ⟨a1, a2, a3, a4⟩) e
  · exact ⟨b, c, k, t, m, ms, e1, hb, hm, hl, hu, ⟨k, t, hs.1, hs.2.1, hs.2.2.1, hs.2.2.2, he⟩, fun k' t' q a1 a2 a3 a4 e => hq k' t' q ⟨a1, a2, a3, a4⟩ e⟩
/-- an order at v -/
def OrdAt (H : Hp) (v : V) (xs : List Nat) : Prop := ∃ a, v = .ref a ∧ H a = some (.lst (xs.map nV))
theorem OrdAt.mono {H H' : Hp} {v : V} {xs : List Nat} (s : Same H H') (h : OrdAt H v xs) : OrdAt H' v xs := by
  obtain ⟨a, e, ha⟩ := h
  exact ⟨a, e, s _ _ ha⟩
section
variable {P : Program} {w : World} {K : PySem.W.Frag} {mg : Str → Option Value} {base : Heap} {C : Addr}
/-! ### fewest_spoil -/
def spFew (C : Addr) : Sp := fun vs H Q _ => ∃ (n : Nat) (rows : List Row) (v vt : V) (d : Nat → Nat → Nat), vs = [v, vt] ∧ SchAt C H v n rows ∧ DemAt n H vt d ∧ (∀ k t, d k t ≤ k) ∧ OkM n rows ∧ 1 ≤ n ∧ n ≤ 12 ∧ rows.length ≤ 400 ∧
  ∀ v' H', Same H H' → BestAt d (unit rows) (Full n) H' v' → Q v' H'
theorem cal_fewest_spoil (D : DefIn K mg "fewest_spoil" (top 20) ["schedule", "table"]) (c1 : C8.Cal P w K mg base 4 "least_spoil" spSpoil []) (c2 : C8.Cal P w K mg base 1 "with_unit_prices" spUnit [])
    (p1 : Prp P w K mg base 1 C "places" (spPlaces C)) (m1 : C8.Met P w K mg base 1 C "comparisons" (spComps C) []) : C8.Cal P w K mg base 5 "fewest_spoil" (spFew C) [] := by
  refine D.cal (N := ["schedule", "table"]) (C8.fnScope_by (by decide +kernel)) (fun vs H Q E h => ?_) (fun f cdv A outer s H vs Q E hr h => ?_)
  · obtain ⟨n, rows, v, vt, d, rfl, _⟩ := h
    rfl
  · obtain ⟨n, rows, v, vt, d, rfl, hS, hD, hdk, ok, hn1, hn, hl, q⟩ := h
    obtain ⟨a, dx, l, rfl, ha, hR⟩ := id hS
    refine ⟨_, pss_one (ps_ret (C8.pe_c c1 hr (by decide) (by rfl) (pa_cons (pe_prp p1 hr (by decide) (pv 0)) (pa_cons (C8.pe_c c2 hr (by decide) (by rfl) (pa_cons (C8.pe_mt0 m1 hr (by decide) (pv 0)) pa_nil)) (pa_cons (pv 1) pa_nil))))), ?_⟩
    refine ⟨_, rfl, a, dx, _, rfl, ha, n, rows, _, rfl, hS, _, rfl, a, dx, _, rfl, ha, flds_no n l (by decide +kernel) (by decide +kernel), n, rows, _, rfl, hS, fun v1 H1 s1 h1 => ⟨rows, _, rfl, h1, by omega, fun v2 H2 s2 h2 => ⟨_, rfl, ?_⟩⟩⟩
    have s12 := s1.trans s2
    exact ⟨n, unit rows, _, _, d, rfl, h2, (unit_ok ok).ok, hD.mono s12, hdk, hn1, by omega, by rw [unit_len]; omega, fun v' H' s3 hB => q _ _ (s12.trans s3) hB⟩
/-! ### borne_of, borne -/
def borneV (c : Int) : V := if 0 < c then .int (c - 1) else .non
def spBorneOf : Sp := fun vs H Q _ => ∃ (v : V) (b : Addr) (c : Int) (r : List V), vs = [v, .ref b] ∧ H b = some (.tup (.int c :: r)) ∧ Q (borneV c) H
theorem cal_borne_of (D : DefIn K mg "borne_of" (top 21) ["schedule", "spoil"]) : C8.Cal P w K mg base 1 "borne_of" spBorneOf [] := by
  refine D.cal (N := ["schedule", "spoil"]) (C8.fnScope_by (by decide +kernel)) (fun vs H Q E h => ?_) (fun f cdv A outer s H vs Q E hr h => ?_)
  · obtain ⟨v, b, c, r, rfl, _⟩ := h
    rfl
  · obtain ⟨v, b, c, r, rfl, hb, q⟩ := h
    refine ⟨_, pss_cons (ps_if (pt_cmp (pc_isN (pv 1))) (pss_one ps_never) pss_nil)
      (pss_one (ps_ret (pe_ifExp (pt_cmpR op_gt (pe_ix ix_tup (pv 1) pe_int (fun _ _ => rfl)) pe_int (nomark _)) (pe_op op_sub (pe_ix ix_tup (pv 1) pe_int (fun _ _ => rfl)) pe_int) pe_non))), ?_⟩
    refine ⟨_, rfl, _, rfl, iteF ?_⟩
    refine ⟨_, rfl, b, _, 0, .int c, rfl, rfl, SqT.of hb, at_int 0 rfl rfl, c, 0, rfl, rfl, _, rfl, ?_⟩
    unfold borneV at q
    by_cases hc : 0 < c
    · rw [decide_eq_true hc]
      rw [if_pos hc] at q
      exact iteT ⟨_, rfl, b, _, 0, .int c, rfl, rfl, SqT.of hb, at_int 0 rfl rfl, c, 1, rfl, rfl, q⟩
    · rw [decide_eq_false hc]
      rw [if_neg hc] at q
      exact iteF q
/-- what borne, spoiling, cheapest are asked at -/
structure AskAt (C : Addr) (H : Hp) (vs : List V) (n : Nat) (rows : List Row) (xs : List Nat) : Prop where
  ex : ∃ v vo, vs = [v, vo] ∧ SchAt C H v n rows ∧ OrdAt H vo xs
  ok : OkM n rows
  n1 : 1 ≤ n
  n12 : n ≤ 12
  len : rows.length ≤ 400
  ord : Order n xs
  ne : xs ≠ List.range n
def spBorne (C : Addr) : Sp := fun vs H Q _ => ∃ (n : Nat) (rows : List Row) (xs : List Nat), AskAt C H vs n rows xs ∧ ∀ c H', Same H H' → Cost n (dem xs) (unit rows) c → Q (borneV c) H'
theorem cal_borne (D : DefIn K mg "borne" (top 22) ["schedule", "order"]) (c1 : C8.Cal P w K mg base 1 "borne_of" spBorneOf []) (c2 : C8.Cal P w K mg base 5 "fewest_spoil" (spFew C) []) (c3 : C8.Cal P w K mg base 1 "demands" spDemands []) : C8.Cal P w K mg base 6 "borne" (spBorne C) [] := by
  refine D.cal (N := ["schedule", "order"]) (C8.fnScope_by (by decide +kernel)) (fun vs H Q E h => ?_) (fun f cdv A outer s H vs Q E hr h => ?_)
  · obtain ⟨n, rows, xs, ⟨⟨v, vo, rfl, _⟩, _⟩, _⟩ := h
    rfl
  · obtain ⟨n, rows, xs, ⟨⟨v, vo, rfl, hS, a, rfl, ha⟩, ok, hn1, hn, hl, o, ne⟩, q⟩ := h
    refine ⟨_, pss_one (ps_ret (C8.pe_c c1 hr (by decide) (by rfl) (pa_cons (pv 0) (pa_cons (C8.pe_c c2 hr (by decide) (by rfl) (pa_cons (pv 0) (pa_cons (C8.pe_c c3 hr (by decide) (by rfl) (pa_cons (pv 1) pa_nil)) pa_nil))) pa_nil)))), ?_⟩
    refine ⟨_, rfl, _, rfl, _, rfl, a, xs, rfl, ha, by rw [o.len]; omega, fun v1 H1 s1 hD => ?_⟩
    rw [o.len] at hD
    refine ⟨n, rows, _, _, dem xs, rfl, hS.mono s1, hD, dem_le xs, ok, hn1, hn, hl, fun v2 H2 s2 hB => ?_⟩
    obtain ⟨b, c, k, t, m, ms, rfl, hb, hm, hml, hu, hC⟩ := best_cost o ne hB
    exact ⟨_, b, c, _, rfl, hb, q c H2 (s1.trans s2) hC⟩
/-! ### spoiling, cheapest -/
def spSpoiling (C : Addr) : Sp := fun vs H Q _ => ∃ (n : Nat) (rows : List Row) (xs : List Nat), AskAt C H vs n rows xs ∧
  ∀ (b m : Addr) (ms : List Int) (x0 x2 x3 : V) c H', Same H H' → Cost n (dem xs) (unit rows) c → H' b = some (.tup [x0, .ref m, x2, x3]) → H' m = some (.lst (ms.map V.int)) → (ms.length : Int) = c → Q (.ref b) H'
theorem cal_spoiling (D : DefIn K mg "spoiling" (top 23) ["schedule", "order"]) (c2 : C8.Cal P w K mg base 5 "fewest_spoil" (spFew C) []) (c3 : C8.Cal P w K mg base 1 "demands" spDemands []) : C8.Cal P w K mg base 6 "spoiling" (spSpoiling C) [] := by
  have nd : (["schedule", "order", "spoil", "price", "k", "t", "missed"] : List Str).Nodup := by decide +kernel
  refine D.cal (N := ["schedule", "order", "spoil", "price", "k", "t", "missed"]) (C8.fnScope_by (by decide +kernel)) (fun vs H Q E h => ?_) (fun f cdv A outer s H vs Q E hr h => ?_)
  · obtain ⟨n, rows, xs, ⟨⟨v, vo, rfl, _⟩, _⟩, _⟩ := h
    rfl
  · obtain ⟨n, rows, xs, ⟨⟨v, vo, rfl, hS, a, rfl, ha⟩, ok, hn1, hn, hl, o, ne⟩, q⟩ := h
    refine ⟨_, pss_cons (ps_set (i := 2) nd rfl (.inl rfl) (C8.pe_c c2 hr (by decide) (by rfl) (pa_cons (pv 0) (pa_cons (C8.pe_c c3 hr (by decide) (by rfl) (pa_cons (pv 1) pa_nil)) pa_nil))))
      (pss_cons (ps_if (pt_cmp (pc_isN (pv 2))) (pss_one ps_never) pss_nil)
      (pss_cons (ps_asg (pv 2) (pg_tup rfl (pgs_cons (pg_name (i := 3) nd rfl (.inl rfl)) (pgs_cons (pg_name (i := 4) nd rfl (.inl rfl)) (pgs_cons (pg_name (i := 5) nd rfl (.inl rfl)) (pgs_cons (pg_name (i := 6) nd rfl (.inl rfl)) pgs_nil))))))
      (pss_one (ps_ret (pe_tup (pa_cons pe_str (pa_cons (pv 6) (pa_cons (pv 4) (pa_cons (pv 5) pa_nil))))))))), ?_⟩
    refine ⟨_, rfl, _, rfl, a, xs, rfl, ha, by rw [o.len]; omega, fun v1 H1 s1 hD => ?_⟩
    rw [o.len] at hD
    refine ⟨n, rows, _, _, dem xs, rfl, hS.mono s1, hD, dem_le xs, ok, hn1, hn, hl, fun v2 H2 s2 hB => ?_⟩
    obtain ⟨b, c, k, t, m, ms, rfl, hb, hm, hml, hu, hC⟩ := best_cost o ne hB
    refine ⟨_, rfl, _, rfl, iteF ?_⟩
    refine ⟨_, rfl, b, _, rfl, SqT.of hb, rfl, _, _, rfl, _, _, rfl, _, _, rfl, _, _, rfl, rfl, ?_⟩
    refine ⟨_, rfl, _, rfl, _, rfl, big (by show 4 ≤ 100000; decide), fun p np => newE np fun H3 s3 e3 => ?_⟩
    exact q p m ms _ _ _ c H3 (s1.trans (s2.trans s3)) hC e3 (s3 _ _ hm) (hu unit_one)
def spCheapest (C : Addr) : Sp := fun vs H Q _ => ∃ (n : Nat) (rows : List Row) (xs : List Nat), AskAt C H vs n rows xs ∧
  ∀ (b : Addr) (x0 x1 x3 x4 : V) c H', Same H H' → Cost n (dem xs) rows c → H' b = some (.tup [x0, x1, .int c, x3, x4]) → Q (.ref b) H'
theorem cal_cheapest (D : DefIn K mg "cheapest" (top 25) ["schedule", "order"]) (c1 : C8.Cal P w K mg base 4 "least_spoil" spSpoil []) (c3 : C8.Cal P w K mg base 1 "demands" spDemands [])
    (p1 : Prp P w K mg base 1 C "places" (spPlaces C)) (m1 : C8.Met P w K mg base 1 C "comparisons" (spComps C) []) : C8.Cal P w K mg base 6 "cheapest" (spCheapest C) [] := by
  have nd : (["schedule", "order", "spoil", "price", "k", "t", "missed"] : List Str).Nodup := by decide +kernel
  refine D.cal (N := ["schedule", "order", "spoil", "price", "k", "t", "missed"]) (C8.fnScope_by (by decide +kernel)) (fun vs H Q E h => ?_) (fun f cdv A outer s H vs Q E hr h => ?_)
  · obtain ⟨n, rows, xs, ⟨⟨v, vo, rfl, _⟩, _⟩, _⟩ := h
    rfl
  · obtain ⟨n, rows, xs, ⟨⟨v, vo, rfl, hS, oa, rfl, hoa⟩, ok, hn1, hn, hl, o, ne⟩, q⟩ := h
    obtain ⟨a, dx, l, rfl, ha, hR⟩ := id hS
    refine ⟨_, pss_cons (ps_set (i := 2) nd rfl (.inl rfl) (C8.pe_c c1 hr (by decide) (by rfl) (pa_cons (pe_prp p1 hr (by decide) (pv 0)) (pa_cons (C8.pe_mt0 m1 hr (by decide) (pv 0)) (pa_cons (C8.pe_c c3 hr (by decide) (by rfl) (pa_cons (pv 1) pa_nil)) pa_nil)))))
      (pss_cons (ps_if (pt_cmp (pc_isN (pv 2))) (pss_one ps_never) pss_nil)
      (pss_cons (ps_asg (pv 2) (pg_tup rfl (pgs_cons (pg_name (i := 3) nd rfl (.inl rfl)) (pgs_cons (pg_name (i := 4) nd rfl (.inl rfl)) (pgs_cons (pg_name (i := 5) nd rfl (.inl rfl)) (pgs_cons (pg_name (i := 6) nd rfl (.inl rfl)) pgs_nil))))))
      (pss_one (ps_ret (pe_tup (pa_cons pe_str (pa_cons (pv 6) (pa_cons (pv 3) (pa_cons (pv 4) (pa_cons (pv 5) pa_nil)))))))))), ?_⟩
    refine ⟨_, rfl, a, dx, _, rfl, ha, n, rows, _, rfl, hS, _, rfl, a, dx, _, rfl, ha, flds_no n l (by decide +kernel) (by decide +kernel), n, rows, _, rfl, hS, fun v1 H1 s1 h1 => ?_⟩
    refine ⟨_, rfl, oa, xs, rfl, s1 _ _ hoa, by rw [o.len]; omega, fun v2 H2 s2 hD => ?_⟩
    rw [o.len] at hD
    refine ⟨n, rows, _, _, dem xs, rfl, h1.mono s2, ok.ok, hD, dem_le xs, hn1, by omega, by omega, fun v3 H3 s3 hB => ?_⟩
    obtain ⟨b, c, k, t, m, ms, rfl, hb, hm, hml, hu, hC⟩ := best_cost o ne hB
    refine ⟨_, rfl, _, rfl, iteF ?_⟩
    refine ⟨_, rfl, b, _, rfl, SqT.of hb, rfl, _, _, rfl, _, _, rfl, _, _, rfl, _, _, rfl, rfl, ?_⟩
    refine ⟨_, rfl, _, rfl, _, rfl, _, rfl, big (by show 5 ≤ 100000; decide), fun p np => newE np fun H4 s4 e4 => ?_⟩
    exact q p _ _ _ _ c H4 (s1.trans (s2.trans (s3.trans s4))) hC e4
end
end K57
namespace K57
open PySem PySem.Spec PyProof.Rows L2
/-- the bag that the law draws from: its number, its seed, its place, its cells -/
def BagAt (H : Hp) (b c : Addr) : Prop := ∃ (x s : Int) (i : Nat) (ns : List Int), H b = some (.lst [.int x, .int s, .int (i : Int), .ref c]) ∧ c ≠ b ∧ H c = some (.lst (ns.map V.int)) ∧ ns.length ≤ 1000
theorem BagAt.mono {H H' : Hp} {b c : Addr} (s : Same H H') (h : BagAt H b c) : BagAt H' b c := by
  obtain ⟨x, t, i, ns, hb, ne, hc, hl⟩ := h
  exact ⟨x, t, i, ns, s _ _ hb, ne, s _ _ hc, hl⟩
theorem ints_of : ∀ {xs : List V}, (∀ (i : Nat) v, xs[i]? = some v → ∃ z : Int, v = .int z) → ∃ ms : List Int, xs = ms.map V.int
  | [], _ => ⟨[], rfl⟩
  | x :: r, h => by
    obtain ⟨z, rfl⟩ := h 0 x rfl
    obtain ⟨ms, rfl⟩ := ints_of (xs := r) fun i v e => h (i + 1) v e
    exact ⟨z :: ms, rfl⟩
theorem sameB_upd {b : Addr} {H H' : Hp} {o : HO} (s : SameB b H H') : SameB b H (upd H' b o) := fun a u ne e => by
  rw [upd_ne ne]
  exact s a u ne e
section
variable {P : Program} {w : World} {K : PySem.W.Frag} {mg : Str → Option Value} {base : Heap}
/-! ### _law_bag -/
def spBag (K : PySem.W.Frag) : Sp := fun vs H Q _ => ∃ (a : Addr) (ns : List Int), vs = [.ref a] ∧ SqL K H a (ns.map V.int) ∧ ns.length ≤ 1000 ∧ ∀ b c H', Same H H' → BagAt H' b c → Q (.ref b) H'
theorem cal_bag (D : DefIn K mg "_law_bag" (top 35) ["_law_script"]) (B : Bare mg) : C8.Cal P w K mg base 1 "_law_bag" (spBag K) [] := by
  have nd : (["_law_script", "_law_cell"] : List Str).Nodup := by decide +kernel
  refine D.cal (N := ["_law_script", "_law_cell"]) (C8.fnScope_by (by decide +kernel)) (fun vs H Q E h => ?_) (fun f cdv A outer s H vs Q E hr h => ?_)
  · obtain ⟨a, ns, rfl, _⟩ := h
    rfl
  · obtain ⟨a, ns, rfl, ha, hn, q⟩ := h
    refine ⟨_, pss_one (ps_ret (pe_lst (pa_cons pe_int (pa_cons pe_int (pa_cons pe_int (pa_cons (pe_lc (own := [("_law_cell", 1)]) (g := gName 1) (tt := tYes) rfl nd (pi_list (pe_slice sl_list (pv 0) po_none (po_some pe_int)))
      (blkOk_by (N := ["_law_script", "_law_cell"]) (sc := C8.fnScope (top 35)) (by decide +kernel)) (fun _ _ _ _ _ => pg_name (i := 1) nd rfl (.inl rfl)) (fun _ _ _ _ _ => pts_nil)
      (fun _ _ _ _ _ => pe_callB call_abs (by rfl) B.abs PyProof.Rows.boot_abs (pa_cons (pv 1) pa_nil))) pa_nil)))))), ?_⟩
    refine ⟨_, rfl, (63 : Int), rfl, a, _, rfl, ha, fun p1 np1 => newE np1 fun H1 s1 e1 => ?_⟩
    have hcl := cutV_length (ns.map V.int) none (some 63)
    rw [List.length_map] at hcl
    refine ⟨p1, rfl, ⟨_, SqL.of e1⟩, fun D0 nD => lcList (K := K) (a := p1) (ys := cutV (ns.map V.int) none (some 63)) nD (fun i v _ => ∃ z : Int, v = .int z) (by omega) (SqL.of e1) (fun i x H2 Kt hx s2 hD kt => ?_) fun xs H2 s2 hD hxl hR => ?_⟩
    · have hm : x ∈ ns.map V.int := by
        have h1 := List.mem_of_getElem? hx
        unfold cutV at h1
        exact List.mem_of_mem_drop (List.mem_of_mem_take h1)
      obtain ⟨z, _, rfl⟩ := List.mem_map.mp hm
      exact ⟨rfl, _, rfl, z, rfl, kt _ _ (Same.refl _) fun _ _ => ⟨_, rfl⟩⟩
    · obtain ⟨ms, rfl⟩ := ints_of hR
      rw [List.length_map] at hxl
      refine ⟨big (by show 4 ≤ 100000; decide), fun p2 np2 => newE np2 fun H3 s3 e3 => ?_⟩
      refine q p2 D0 H3 (s1.trans (s2.trans s3)) ⟨0, 1234567891, 0, ms, e3, ne_of_none hD np2, s3 _ _ hD, by omega⟩
/-! ### _law_take -/
abbrev nTak : List Str := ["_law_bag_here", "_law_many", "_law_cell", "_law_value", "_law_first", "_law_second"]
def spTake : Sp := fun vs H Q _ => ∃ (b c : Addr) (m : Int), vs = [.ref b, .int m] ∧ BagAt H b c ∧ 0 < m ∧ m < 2 ^ 100 ∧ ∀ z H', 0 ≤ z → z < m → SameB b H H' → BagAt H' b c → Q (.int z) H'
theorem cal_take (D : DefIn K mg "_law_take" (top 36) ["_law_bag_here", "_law_many"]) (B : Bare mg) : C8.Cal P w K mg base 1 "_law_take" spTake [] := by
  have nd : (nTak : List Str).Nodup := by decide +kernel
  refine D.cal (N := nTak) (C8.fnScope_by (by decide +kernel)) (fun vs H Q E h => ?_) (fun f cdv A outer s H vs Q E hr h => ?_)
  · obtain ⟨b, c, m, rfl, _⟩ := h
    rfl
  · obtain ⟨b, c, m, rfl, hB, hm0, hm1, q⟩ := h
    refine ⟨_, C8.pss_cut (ps_if (pt_cmpR op_eq (pe_ix ix_list (pv 0) pe_int (fun _ _ => rfl)) pe_int (nomark _))
        (pss_cons (ps_set (i := 2) nd rfl (.inl rfl) pe_int)
        (C8.pss_cut (ps_if (pt_cmpR op_lt (pe_ix ix_list (pv 0) pe_int (fun _ _ => rfl)) (pe_callB call_len_seq (by rfl) B.len PySem.boot_len (pa_cons (pe_ix ix_list (pv 0) pe_int (fun _ _ => rfl)) pa_nil)) (nomark _))
          (pss_one (ps_set (i := 2) nd rfl (.inl rfl) (pe_ix ix_list (pe_ix ix_list (pv 0) pe_int (fun _ _ => rfl)) (pe_ix ix_list (pv 0) pe_int (fun _ _ => rfl)) (fun _ _ => rfl)))) pss_nil)
        (pss_cons (ps_augS (pv 0) pe_int get_list pe_int ip_add set_list)
        (C8.pss_cut (ps_if (pt_cmpR op_ge (pv 2) pe_int (nomark _)) (pss_one (ps_asg (pv 2) (pg_sub (pv 0) pe_int set_list))) pss_nil)
        (pss_one (ps_asg (pe_op op_mod (pe_op op_add (pe_op op_add (pe_op op_mul (pe_ix ix_list (pv 0) pe_int (fun _ _ => rfl)) pe_int) (pe_op op_mod (pv 2) pe_int)) (pe_op op_mul pe_int (pe_ix ix_list (pv 0) pe_int (fun _ _ => rfl)))) pe_int) (pg_sub (pv 0) pe_int set_list)))))))
        pss_nil)
      (pss_cons (ps_if (pt_cmpR op_gt (pe_ix ix_list (pv 0) pe_int (fun _ _ => rfl)) pe_int (nomark _))
        (pss_cons (ps_set (i := 3) nd rfl (.inl rfl) (pe_op op_mod (pe_ix ix_list (pv 0) pe_int (fun _ _ => rfl)) (pv 1)))
        (pss_cons (ps_asg (pe_op op_fdivW (pe_ix ix_list (pv 0) pe_int (fun _ _ => rfl)) (pv 1)) (pg_sub (pv 0) pe_int set_list))
        (pss_one (ps_ret (pv 3))))) pss_nil)
      (pss_cons (ps_set (i := 4) nd rfl (.inl rfl) (pe_op op_mod (pe_op op_mul (pe_op op_add (pe_ix ix_list (pv 0) pe_int (fun _ _ => rfl)) pe_int) pe_int) pe_int))
      (pss_cons (ps_set (i := 5) nd rfl (.inl rfl) (pe_op op_mod (pe_op op_mul (pe_op op_mod (pe_op op_mul (pv 4) (pv 4)) pe_int) pe_int) pe_int))
      (pss_cons (ps_if (pt_cmpR op_gt (pv 1) pe_int (nomark _)) (pss_one (ps_ret (pe_op op_mod (pe_op op_add (pe_op op_mul (pv 5) pe_int) (pv 4)) (pv 1)))) pss_nil)
      (pss_one (ps_ret (pe_op op_mod (pe_op op_fdiv (pv 5) pe_int) (pv 1)))))))), ?_⟩
    refine ⟨fun σ' H' => ∃ y2, σ' = [some (.ref b), some (.int m), y2, none, none, none] ∧ SameB b H H' ∧ BagAt H' b c, ?_, ?_⟩
    · obtain ⟨x, t, i, ns, hb, ncb, hc, hl⟩ := id hB
      refine ⟨_, rfl, b, _, 0, .int x, rfl, rfl, SqL.of hb, rfl, rfl, _, rfl, ite2 (fun hx => ?_) (fun hx => ?_)⟩
      · -- the place's cell
        refine ⟨fun σ' H' => ∃ z : Int, σ' = [some (.ref b), some (.int m), some (.int z), none, none, none] ∧ H' = H, ?_, ?_⟩
        · refine ⟨_, rfl, b, _, 2, .int (i : Int), rfl, rfl, SqL.of hb, rfl, _, rfl, b, _, 3, .ref c, rfl, rfl, SqL.of hb, rfl, c, _, rfl, .inl (SqL.of hc), _, _, rfl, rfl, _, rfl, ite2 (fun hi => ?_) (fun hi => ?_)⟩
          · have hil : i < ns.length := by
              have := of_decide_eq_true hi
              rw [List.length_map] at this
              omega
            have hg : (ns.map V.int)[i]? = some (.int ns[i]) := by
              rw [List.getElem?_map, List.getElem?_eq_getElem hil]
              rfl
            exact ⟨_, rfl, b, _, 3, .ref c, rfl, rfl, SqL.of hb, rfl, _, rfl, b, _, 2, .int (i : Int), rfl, rfl, SqL.of hb, rfl, c, _, (i : Int), .int ns[i], rfl, rfl, SqL.of hc, at_int i rfl hg, ns[i], rfl, rfl⟩
          · exact ⟨0, rfl, rfl⟩
        · rintro σ1 H1 ⟨z, rfl, rfl⟩
          -- the place goes on
          refine ⟨_, rfl, b, _, 2, 2, .int (i : Int), rfl, rfl, SqL.of hb, by decide, rfl, rfl, (i : Int), 1, rfl, rfl, b, _, 2, 2, rfl, rfl, hb, rfl, ?_⟩
          refine newU (p := b) (H := H1) (o := .lst [.int x, .int t, .int ((i : Int) + 1), .ref c]) ?_
          intro H2 s2 e2
          have ei : (i : Int) + 1 = ((i + 1 : Nat) : Int) := by omega
          rw [ei] at e2
          refine ⟨fun σ' H' => ∃ x', σ' = [some (.ref b), some (.int m), some (.int z), none, none, none] ∧ SameB b H2 H' ∧ H' b = some (.lst [.int x', .int t, .int ((i + 1 : Nat) : Int), .ref c]), ?_, ?_⟩
          · refine ⟨_, rfl, z, _, rfl, rfl, _, rfl, ite2 (fun _ => ?_) (fun _ => ?_)⟩
            · refine ⟨_, rfl, _, rfl, b, _, 0, 0, rfl, rfl, e2, rfl, z, rfl, sameB_upd (SameB.refl _ _), upd_same⟩
            · exact ⟨x, rfl, SameB.refl _ _, e2⟩
          · rintro σ3 H3 ⟨x', rfl, s3, e3⟩
            refine ⟨_, rfl, b, _, 1, .int t, rfl, rfl, SqL.of e3, rfl, t, _, rfl, rfl, .inr (by decide), _, rfl, z, _, rfl, rfl, (by show (0 : Int) < 2147483647; decide), _, _, rfl, rfl, _, rfl, b, _, 2, _, rfl, rfl, SqL.of e3, rfl, _, _, rfl, rfl, .inl (by decide), _, _, rfl, rfl,
              _, _, rfl, rfl, (by show (0 : Int) < 2147483647; decide), ?_⟩
            refine ⟨_, rfl, b, _, 1, 1, rfl, rfl, e3, rfl, ?_⟩
            refine ⟨_, rfl, sameB_upd (s2.trans s3), x', _, i + 1, ns, upd_same, ncb, ?_, hl⟩
            rw [upd_ne ncb]
            exact s3 _ _ ncb (s2 _ _ ncb hc)
      · exact ⟨none, rfl, SameB.refl _ _, hB⟩
    · rintro σ1 H1 ⟨y2, rfl, s1, hB1⟩
      obtain ⟨x, t, i, ns, hb, ncb, hc, hl⟩ := id hB1
      refine ⟨_, rfl, b, _, 0, .int x, rfl, rfl, SqL.of hb, rfl, x, _, rfl, rfl, _, rfl, ite2 (fun hx => ?_) (fun hx => ?_)⟩
      · refine ⟨_, rfl, b, _, 0, .int x, rfl, rfl, SqL.of hb, rfl, _, rfl, x, m, rfl, rfl, hm0, ?_⟩
        refine ⟨_, rfl, b, _, 0, .int x, rfl, rfl, SqL.of hb, rfl, _, rfl, x, m, rfl, rfl, wide_div (b := 100) hm0 (by omega) (by decide) (by decide), ?_⟩
        refine ⟨_, rfl, b, _, 0, 0, rfl, rfl, hb, rfl, ?_⟩
        refine ⟨_, rfl, q _ _ (Int.emod_nonneg x (by omega)) (Int.emod_lt_of_pos x hm0) (sameB_upd s1) ⟨_, t, i, ns, upd_same, ncb, by rw [upd_ne ncb]; exact hc, hl⟩⟩
      · -- from the seed
        refine ⟨_, rfl, b, _, 1, .int t, rfl, rfl, SqL.of hb, rfl, t, _, rfl, rfl, _, _, rfl, rfl, .inr (by decide), _, _, rfl, rfl, (by show (0 : Int) < 1000000007; decide), ?_⟩
        obtain ⟨y, hy⟩ : ∃ y : Int, y = (t + 1) * 39373 % 1000000007 := ⟨_, rfl⟩
        have hy0 : 0 ≤ y := by rw [hy]; exact Int.emod_nonneg _ (by decide)
        have hy1 : y < 1000000007 := by rw [hy]; exact Int.emod_lt_of_pos _ (by decide)
        show gName 4 (V.int ((t + 1) * 39373 % 1000000007)) _ H1 _
        rw [← hy]
        refine ⟨_, rfl, _, rfl, y, y, rfl, rfl, .inl ⟨by omega, by omega⟩, _, _, rfl, rfl, (by show (0 : Int) < 998244353; decide), _, _, rfl, rfl, .inr (by decide), _, _, rfl, rfl, (by show (0 : Int) < 998244353; decide), ?_⟩
        obtain ⟨u, hu⟩ : ∃ u : Int, u = y * y % 998244353 * 30011 % 998244353 := ⟨_, rfl⟩
        show gName 5 (V.int (y * y % 998244353 * 30011 % 998244353)) _ H1 _
        rw [← hu]
        refine ⟨_, rfl, m, _, rfl, rfl, _, rfl, ite2 (fun _ => ?_) (fun _ => ?_)⟩
        · exact ⟨_, rfl, u, _, rfl, rfl, .inr (by decide), _, rfl, _, y, rfl, rfl, _, rfl, _, m, rfl, rfl, hm0, q _ _ (Int.emod_nonneg _ (by omega)) (Int.emod_lt_of_pos _ hm0) s1 hB1⟩
        · exact ⟨_, rfl, u, _, rfl, rfl, ⟨by decide, by decide⟩, _, rfl, _, m, rfl, rfl, hm0, q _ _ (Int.emod_nonneg _ (by omega)) (Int.emod_lt_of_pos _ hm0) s1 hB1⟩
end
end K57
namespace K57
open PySem PySem.Spec PyProof.Rows L2
theorem sameB_mut {b q : Addr} {H H' : Hp} {o : HO} (s : SameB b H H') (h : H q = none) : SameB b H (upd H' q o) := fun a u ne e => by
  rw [upd_ne (ne_of_none e h)]
  exact s a u ne e
theorem sameB_free {b q : Addr} {H H' : Hp} (s : SameB b H H') (h : H' q = none) (ne : q ≠ b) : H q = none := by
  cases e : H q with
  | none => rfl
  | some o =>
    rw [s q o ne e] at h
    cases h
theorem BagAt.ne {H : Hp} {b c q : Addr} (h : BagAt H b c) (hq : H q = none) : q ≠ b := fun z => by
  obtain ⟨x, s, i, ns, hb, _⟩ := h
  rw [z, hb] at hq
  cases hq
theorem BagAt.neC {H : Hp} {b c q : Addr} (h : BagAt H b c) (hq : H q = none) : q ≠ c := fun z => by
  obtain ⟨x, s, i, ns, _, _, hc, _⟩ := h
  rw [z, hc] at hq
  cases hq
theorem BagAt.upd {H : Hp} {b c q : Addr} {o : HO} (h : BagAt H b c) (hb : q ≠ b) (hc : q ≠ c) : BagAt (upd H q o) b c := by
  obtain ⟨x, s, i, ns, h1, h2, h3, h4⟩ := h
  exact ⟨x, s, i, ns, by rw [upd_ne (Ne.symm hb)]; exact h1, h2, by rw [upd_ne (Ne.symm hc)]; exact h3, h4⟩
section
variable {P : Program} {w : World} {K : PySem.W.Frag} {mg : Str → Option Value} {base : Heap}
/-! ### _law_places, _law_most, _law_price -/
def spPl : Sp := fun vs H Q _ => ∃ (b c : Addr) (lo hi : Int), vs = [.ref b, .int lo, .int hi] ∧ BagAt H b c ∧ lo ≤ hi ∧ hi - lo ≤ 1000 ∧ ∀ z H', lo ≤ z → z ≤ hi → SameB b H H' → BagAt H' b c → Q (.int z) H'
theorem cal_places (D : DefIn K mg "_law_places" (top 37) ["_law_bag_here", "_law_least", "_law_most_here"]) (ct : C8.Cal P w K mg base 1 "_law_take" spTake []) : C8.Cal P w K mg base 2 "_law_places" spPl [] := by
  refine D.cal (N := ["_law_bag_here", "_law_least", "_law_most_here"]) (C8.fnScope_by (by decide +kernel)) (fun vs H Q E h => ?_) (fun f cdv A outer s H vs Q E hr h => ?_)
  · obtain ⟨b, c, lo, hi, rfl, _⟩ := h
    rfl
  · obtain ⟨b, c, lo, hi, rfl, hB, h1, h2, q⟩ := h
    refine ⟨_, pss_one (ps_ret (pe_op op_add (pv 1) (C8.pe_c ct hr (by decide) (by rfl) (pa_cons (pv 0) (pa_cons (pe_op op_add (pe_op op_sub (pv 2) (pv 1)) pe_int) pa_nil))))), ?_⟩
    exact ⟨_, rfl, _, rfl, _, rfl, _, rfl, hi, lo, rfl, rfl, _, 1, rfl, rfl, b, c, _, rfl, hB, by omega, by omega, fun z H' z0 z1 s1 hB1 => ⟨lo, z, rfl, rfl, q _ _ (by omega) (by omega) s1 hB1⟩⟩
def spMost : Sp := fun vs H Q _ => ∃ (b c : Addr) (u v : Int), vs = [.ref b, .int u, .int v] ∧ BagAt H b c ∧ ∀ z H', (z = u ∨ z = v) → SameB b H H' → BagAt H' b c → Q (.int z) H'
theorem cal_most (D : DefIn K mg "_law_most" (top 43) ["_law_bag_here", "_law_most_here", "_law_greatest"]) (B : Bare mg) (ct : C8.Cal P w K mg base 1 "_law_take" spTake []) : C8.Cal P w K mg base 2 "_law_most" spMost [] := by
  refine D.cal (N := ["_law_bag_here", "_law_most_here", "_law_greatest"]) (C8.fnScope_by (by decide +kernel)) (fun vs H Q E h => ?_) (fun f cdv A outer s H vs Q E hr h => ?_)
  · obtain ⟨b, c, u, v, rfl, _⟩ := h
    rfl
  · obtain ⟨b, c, u, v, rfl, hB, q⟩ := h
    refine ⟨_, pss_one (ps_ret (pe_ix ix_list (pe_lst (pa_cons (pv 1) (pa_cons (pv 2) pa_nil))) (pe_callTy call_int1 (by rfl) B.int PyProof.Rows.boot_int (pa_cons (pe_cmpR op_eq (C8.pe_c ct hr (by decide) (by rfl) (pa_cons (pv 0) (pa_cons pe_int pa_nil))) pe_int (nomark _)) pa_nil)) (fun _ _ => rfl))), ?_⟩
    refine ⟨_, rfl, _, rfl, big (by show 2 ≤ 100000; decide), fun p np => newE np fun H1 s1 e1 => ?_⟩
    refine ⟨_, rfl, b, c, 8, rfl, hB.mono s1, by decide, by decide, fun z H2 z0 z1 s2 hB2 => ?_⟩
    refine ⟨rfl, .inr ⟨_, rfl, ?_⟩⟩
    have npb := hB.ne np
    have hp : H2 p = some (.lst [.int u, .int v]) := s2 _ _ npb e1
    by_cases hz : z = 0
    · subst hz
      exact ⟨p, _, 1, .int v, rfl, rfl, SqL.of hp, rfl, q _ _ (.inr rfl) ((SameB.of s1).trans s2) hB2⟩
    · refine ⟨p, _, 0, .int u, rfl, ?_, SqL.of hp, rfl, q _ _ (.inl rfl) ((SameB.of s1).trans s2) hB2⟩
      rw [decide_eq_false (fun e => hz (V.int.inj e))]
      rfl
def spPrice : Sp := fun vs H Q _ => ∃ (b c : Addr), vs = [.ref b] ∧ BagAt H b c ∧ ∀ z H', 0 ≤ z → z ≤ maxPrice → SameB b H H' → BagAt H' b c → Q (.int z) H'
theorem cal_price (D : DefIn K mg "_law_price" (top 39) ["_law_bag_here"]) (ct : C8.Cal P w K mg base 1 "_law_take" spTake []) : C8.Cal P w K mg base 2 "_law_price" spPrice [] := by
  refine D.cal (N := ["_law_bag_here"]) (C8.fnScope_by (by decide +kernel)) (fun vs H Q E h => ?_) (fun f cdv A outer s H vs Q E hr h => ?_)
  · obtain ⟨b, c, rfl, _⟩ := h
    rfl
  · obtain ⟨b, c, rfl, hB, q⟩ := h
    refine ⟨_, pss_one (ps_ret (pe_ix ix_list (pe_lst (pa_cons pe_int (pa_cons (C8.pe_c ct hr (by decide) (by rfl) (pa_cons (pv 0) (pa_cons pe_int pa_nil))) (pa_cons (C8.pe_c ct hr (by decide) (by rfl) (pa_cons (pv 0) (pa_cons (pe_op op_add (pe_op op_pow pe_int pe_int) pe_int) pa_nil))) (pa_cons (pe_op op_pow pe_int pe_int) pa_nil)))))
      (C8.pe_c ct hr (by decide) (by rfl) (pa_cons (pv 0) (pa_cons pe_int pa_nil))) (fun _ _ => rfl))), ?_⟩
    have e18 : ((10 : Int) ^ (18 : Int).toNat) = maxPrice := by decide
    refine ⟨_, rfl, b, c, 4, rfl, hB, by decide, by decide, fun z1 H1 a1 a2 s1 hB1 => ?_⟩
    refine ⟨_, rfl, 10, 18, rfl, rfl, ⟨by decide, by decide, by decide⟩, _, 1, rfl, rfl, b, c, maxPrice + 1, ?_, hB1, by decide, by decide, fun z2 H2 a3 a4 s2 hB2 => ?_⟩
    · show [V.ref b, V.int ((10 : Int) ^ (18 : Int).toNat + 1)] ++ [] = _
      rw [e18]
      rfl
    refine ⟨10, 18, rfl, rfl, ⟨by decide, by decide, by decide⟩, big (by show 4 ≤ 100000; decide), fun p np => newE np fun H3 s3 e3 => ?_⟩
    refine ⟨_, rfl, b, c, 4, rfl, hB2.mono s3, by decide, by decide, fun z3 H4 a5 a6 s4 hB4 => ?_⟩
    have hp := s4 _ _ (hB2.ne np) e3
    have sa : SameB b H H4 := s1.trans (s2.trans ((SameB.of s3).trans s4))
    have hz : z3 = 0 ∨ z3 = 1 ∨ z3 = 2 ∨ z3 = 3 := by omega
    rcases hz with rfl | rfl | rfl | rfl
    · exact ⟨p, _, 0, .int 1, rfl, rfl, SqL.of hp, rfl, q _ _ (by decide) (by decide) sa hB4⟩
    · exact ⟨p, _, 1, .int z1, rfl, rfl, SqL.of hp, rfl, q _ _ a1 (by unfold maxPrice; omega) sa hB4⟩
    · exact ⟨p, _, 2, .int z2, rfl, rfl, SqL.of hp, rfl, q _ _ a3 (by omega) sa hB4⟩
    · refine ⟨p, _, 3, .int maxPrice, rfl, rfl, SqL.of hp, ?_, q _ _ (by decide) (by decide) sa hB4⟩
      show some (V.int ((10 : Int) ^ (18 : Int).toNat)) = _
      rw [e18]
/-! ### _law_gates -/
abbrev nGat : List Str := ["_law_bag_here", "_law_places_here", "_law_most_here", "_law_way", "_law_at", "_law_found", "_law_k", "_law_gate"]
def spGates : Sp := fun vs H Q _ => ∃ (b c : Addr) (n : Nat) (m : Int), vs = [.ref b, .int (n : Int), .int m] ∧ BagAt H b c ∧ 2 ≤ n ∧ n ≤ 12 ∧ 0 ≤ m ∧ m ≤ 200 ∧
  ∀ (q : Addr) (gs : List Nat) H', q ≠ b → SameB b H H' → BagAt H' b c → H' q = some (.lst (gs.map nV)) → (gs.length : Int) ≤ m → (∀ g ∈ gs, 1 ≤ g ∧ g < n) → Q (.ref q) H'
theorem cal_gates (D : DefIn K mg "_law_gates" (top 38) ["_law_bag_here", "_law_places_here", "_law_most_here"]) (B : Bare mg) (ct : C8.Cal P w K mg base 1 "_law_take" spTake []) : C8.Cal P w K mg base 2 "_law_gates" spGates [] := by
  have nd : (nGat : List Str).Nodup := by decide +kernel
  refine D.cal (N := nGat) (C8.fnScope_by (by decide +kernel)) (fun vs H Q E h => ?_) (fun f cdv A outer s H vs Q E hr h => ?_)
  · obtain ⟨b, c, n, m, rfl, _⟩ := h
    rfl
  · obtain ⟨b, c, n, m, rfl, hB, hn1, hn, hm0, hm1, q⟩ := h
    refine ⟨_, pss_cons (ps_par (i := 3) (j := 4) rfl nd rfl rfl (by decide) rfl rfl (pa_cons (C8.pe_c ct hr (by decide) (by rfl) (pa_cons (pv 0) (pa_cons pe_int pa_nil))) (pa_cons (C8.pe_c ct hr (by decide) (by rfl) (pa_cons (pv 0) (pa_cons pe_int pa_nil))) pa_nil)) (by rfl))
      (pss_cons (ps_set (i := 5) nd rfl (.inl rfl) (pe_lst pa_nil))
      (pss_cons (ps_for PassesOwn.never rfl (pi_range1 (by rfl) B.range (pa_cons (pe_op op_mul (C8.pe_c ct hr (by decide) (by rfl) (pa_cons (pv 0) (pa_cons (pe_op op_add (pv 2) pe_int) pa_nil))) (pe_callTy call_int1 (by rfl) B.int PyProof.Rows.boot_int (pa_cons (pe_cmpR op_gt (pv 1) pe_int (nomark _)) pa_nil))) pa_nil)) (pg_name (i := 6) nd rfl (.inl rfl))
        (pss_cons (ps_set (i := 7) nd rfl (.inl rfl) (pe_op op_add pe_int (C8.pe_c ct hr (by decide) (by rfl) (pa_cons (pv 0) (pa_cons (pe_op op_sub (pv 1) pe_int) pa_nil)))))
        (C8.pss_cut (ps_if (pt_cmpR op_eq (pv 3) pe_int (nomark _)) (pss_one (ps_set (i := 7) nd rfl (.inl rfl) (pe_op op_add pe_int (pe_op op_mod (pe_op op_add (pv 4) (pv 6)) (pe_op op_sub (pv 1) pe_int))))) pss_nil)
        (C8.pss_cut (ps_if (pt_cmpR op_eq (pv 3) pe_int (nomark _)) (pss_one (ps_set (i := 7) nd rfl (.inl rfl) (pe_op op_sub (pe_op op_sub (pv 1) pe_int) (pe_op op_mod (pe_op op_add (pv 4) (pv 6)) (pe_op op_sub (pv 1) pe_int))))) pss_nil)
        (C8.pss_cut (ps_if (PW.pt (pw_and (pt_cmpR op_eq (pv 3) pe_int (nomark _)) (pw_and1 (pt_cmpR op_gt (pe_op op_mod (pv 7) pe_int) pe_int (nomark _))))) (pss_one (ps_set (i := 7) nd rfl (.inl rfl) (pe_op op_add pe_int (pe_op op_mod (pe_op op_add (pv 4) (pe_op op_mod (pv 6) pe_int)) (pe_op op_sub (pv 1) pe_int))))) pss_nil)
        (pss_one (ps_expr (pe_bm PySem.F.plainAttrs_list PySem.F.slot_list_append PySem.F.type_list_append mt_append (pv 5) (pa_cons (pv 7) pa_nil)))))))))
      (pss_one (ps_ret (pv 5))))), ?_⟩
    refine ⟨_, rfl, b, c, 4, rfl, hB, by decide, by decide, fun wy H1 a1 a2 s1 hB1 => ⟨_, rfl, b, c, 12, rfl, hB1, by decide, by decide, fun at0 H2 a3 a4 s2 hB2 => ⟨_, _, rfl, ?_⟩⟩⟩
    refine ⟨Nat.zero_le _, fun p np => newE np fun H3 s3 e3 => ?_⟩
    have s02 := s1.trans s2
    have npb : p ≠ b := hB2.ne np
    have npc : p ≠ c := hB2.neC np
    have npH : H p = none := sameB_free s02 np npb
    refine ⟨_, rfl, _, rfl, m, 1, rfl, rfl, b, c, m + 1, rfl, hB2.mono s3, by omega, by omega, fun z H4 z0 z1 s4 hB4 => ?_⟩
    have s04 : SameB b H H4 := s02.trans ((SameB.of s3).trans s4)
    have e4 : H4 p = some (.lst []) := s4 _ _ npb e3
    refine ⟨_, rfl, (n : Int), 1, rfl, rfl, .inr ⟨_, rfl, z, 1, rfl, ?_, .inr (by decide), z * 1, rfl, by omega, by omega, ?_⟩⟩
    · rw [decide_eq_true (show (1 : Int) < (n : Int) by omega)]
      rfl
    have ez : (z * 1).toNat = z.toNat := by rw [Int.mul_one]
    rw [ez]
    refine for_range (lo := 0) (n := z.toNat) (fun i σ H' => ∃ y6 y7 gs, σ = [some (.ref b), some (.int n), some (.int m), some (.int wy), some (.int at0), some (.ref p), y6, y7] ∧ SameB b H H' ∧ BagAt H' b c ∧ H' p = some (.lst (gs.map nV)) ∧ gs.length = i ∧ ∀ g ∈ gs, 1 ≤ g ∧ g < n)
      ⟨none, none, [], rfl, s04, hB4, e4, rfl, fun g hg => by cases hg⟩ ?_ ?_
    · rintro i σ H5 hi ⟨y6, y7, gs, rfl, s5, hB5, hp5, hgl, hgs⟩
      refine ⟨_, rfl, _, rfl, (n : Int), 1, rfl, rfl, b, c, (n : Int) - 1, rfl, hB5, by omega, by omega, fun g0 H6 g1 g2 s6 hB6 => ⟨1, g0, rfl, rfl, ?_⟩⟩
      have hp6 := s6 _ _ npb hp5
      have md : ∀ x : Int, 0 ≤ x % ((n : Int) - 1) ∧ x % ((n : Int) - 1) < (n : Int) - 1 := fun x => ⟨Int.emod_nonneg x (by omega), Int.emod_lt_of_pos x (by omega)⟩
      refine ⟨fun σ' H' => ∃ g : Int, σ' = [some (.ref b), some (.int n), some (.int m), some (.int wy), some (.int at0), some (.ref p), some (.int (0 + (i : Int))), some (.int g)] ∧ 1 ≤ g ∧ g < n ∧ H' = H6, ?_, ?_⟩
      · refine ⟨_, rfl, rfl, _, rfl, ite2 (fun _ => ?_) (fun _ => ?_)⟩
        · have := md (at0 + (0 + (i : Int)))
          exact ⟨_, rfl, _, rfl, at0, _, rfl, rfl, _, rfl, (n : Int), 1, rfl, rfl, _, _, rfl, rfl, (by show (0 : Int) < (n : Int) - 1; omega), 1, _, rfl, rfl, _, rfl, by omega, by omega, rfl⟩
        · exact ⟨_, rfl, by omega, by omega, rfl⟩
      rintro σ7 H7 ⟨g, rfl, hg1, hg2, rfl⟩
      refine ⟨fun σ' H' => ∃ g : Int, σ' = [some (.ref b), some (.int n), some (.int m), some (.int wy), some (.int at0), some (.ref p), some (.int (0 + (i : Int))), some (.int g)] ∧ 1 ≤ g ∧ g < n ∧ H' = H7, ?_, ?_⟩
      · refine ⟨_, rfl, rfl, _, rfl, ite2 (fun _ => ?_) (fun _ => ?_)⟩
        · have := md (at0 + (0 + (i : Int)))
          exact ⟨_, rfl, (n : Int), 1, rfl, rfl, _, rfl, _, rfl, at0, _, rfl, rfl, _, rfl, (n : Int), 1, rfl, rfl, _, _, rfl, rfl, (by show (0 : Int) < (n : Int) - 1; omega), _, _, rfl, rfl, _, rfl, by omega, by omega, rfl⟩
        · exact ⟨_, rfl, hg1, hg2, rfl⟩
      rintro σ8 H8 ⟨g', rfl, hg1', hg2', rfl⟩
      refine ⟨fun σ' H' => ∃ g : Int, σ' = [some (.ref b), some (.int n), some (.int m), some (.int wy), some (.int at0), some (.ref p), some (.int (0 + (i : Int))), some (.int g)] ∧ 1 ≤ g ∧ g < n ∧ H' = H8, ?_, ?_⟩
      · refine ⟨_, rfl, rfl, _, rfl, ?_⟩
        by_cases hw : V.int wy = V.int 3
        · rw [decide_eq_true hw]
          refine iteT ?_
          refine ⟨_, rfl, g', 3, rfl, rfl, (by show (0 : Int) < 3; decide), _, 0, rfl, rfl, _, rfl, ite2 (fun _ => ?_) (fun _ => ?_)⟩
          · have := md (at0 + (0 + (i : Int)) % 2)
            exact ⟨_, rfl, _, rfl, 0 + (i : Int), 2, rfl, rfl, (by show (0 : Int) < 2; decide), at0, _, rfl, rfl, _, rfl, (n : Int), 1, rfl, rfl, _, _, rfl, rfl, (by show (0 : Int) < (n : Int) - 1; omega), 1, _, rfl, rfl, _, rfl, by omega, by omega, rfl⟩
          · exact ⟨_, rfl, hg1', hg2', rfl⟩
        · rw [decide_eq_false hw]
          refine iteF ?_
          refine iteF ?_
          exact ⟨_, rfl, hg1', hg2', rfl⟩
      rintro σ9 H9 ⟨g9, rfl, hg3, hg4, rfl⟩
      refine ⟨_, rfl, .inl ⟨rfl, _, SqL.of hp6⟩, _, rfl, p, _, _, rfl, rfl, hp6, by rw [List.length_map]; exact small1000 (by omega), ?_⟩
      have eg : V.int g9 = nV g9.toNat := by
        show V.int g9 = V.int (g9.toNat : Int)
        rw [Int.toNat_of_nonneg (by omega)]
      refine ⟨_, _, gs ++ [g9.toNat], rfl, sameB_mut (s5.trans s6) npH, hB6.upd npb npc, ?_, by rw [List.length_append, hgl]; rfl, fun g hg => ?_⟩
      · rw [upd_same, List.map_append, eg]
        rfl
      · rcases List.mem_append.mp hg with h | h
        · exact hgs g h
        · rw [List.mem_singleton] at h
          omega
    · rintro σ H' ⟨y6, y7, gs, rfl, s5, hB5, hp5, hgl, hgs⟩
      exact ⟨_, rfl, q p gs H' npb s5 hB5 hp5 (by omega) hgs⟩
end
end K57
namespace K57
open PySem PySem.Spec PyProof.Rows L2
/-- comparisons are pairs: they stand where lists change -/
theorem RowsL.monoB {b : Addr} {l : List V} {H H' : Hp} {vs : List V} {rows : List Row} (s : SameB b H H') (hb : H b = some (.lst l)) (h : RowsL H vs rows) : RowsL H' vs rows := by
  refine ⟨h.1, fun i c x h1 h2 => ?_⟩
  obtain ⟨a, rfl, ha⟩ := h.2 i c x h1 h2
  refine ⟨a, rfl, s _ _ (fun z => ?_) ha⟩
  rw [z, hb] at ha
  cases ha
theorem BagAt.list {H : Hp} {b c : Addr} (h : BagAt H b c) : ∃ l, H b = some (.lst l) := by
  obtain ⟨x, s, i, ns, hb, _⟩ := h
  exact ⟨_, hb⟩
/-- a list of comparisons is not the bag -/
theorem RowsAt.monoB {b c : Addr} {H H' : Hp} {v : V} {rows : List Row} (s : SameB b H H') (hB : BagAt H b c) (h : RowsAt H v rows) : RowsAt H' v rows := by
  obtain ⟨a, vs, rfl, ha, hL⟩ := h.l
  obtain ⟨x, t, i, ns, hb, _⟩ := hB
  have nab : a ≠ b := fun z => by
    rw [z, hb] at ha
    have e1 := Option.some.inj ha
    injection e1 with e2
    subst e2
    obtain ⟨y, hy⟩ : ∃ y, rows[0]? = some y := ⟨_, List.getElem?_eq_getElem (by rw [← hL.1]; show 0 < 4; decide)⟩
    obtain ⟨a', e, _⟩ := hL.2 0 _ y rfl hy
    cases e
  exact (hL.monoB s hb).at (s _ _ nab ha)
theorem OrdAt.monoB {b c : Addr} {H H' : Hp} {v : V} {xs : List Nat} (s : SameB b H H') (hB : BagAt H b c) (h : OrdAt H v xs) : OrdAt H' v xs := by
  obtain ⟨a, rfl, ha⟩ := h
  obtain ⟨x, t, i, ns, hb, _⟩ := hB
  refine ⟨a, rfl, s _ _ (fun z => ?_) ha⟩
  rw [z, hb] at ha
  have e1 := Option.some.inj ha
  injection e1 with e2
  have e3 : (xs.map nV)[3]? = some (.ref c) := by rw [← e2]; rfl
  rw [List.getElem?_map] at e3
  cases e4 : xs[3]? with
  | none =>
    rw [e4] at e3
    cases e3
  | some y =>
    rw [e4] at e3
    cases e3
section
variable {P : Program} {w : World} {K : PySem.W.Frag} {mg : Str → Option Value} {base : Heap}
/-! ### _law_comparisons -/
abbrev nCmp : List Str := ["_law_bag_here", "_law_places_here", "_law_most_here", "_law_dear", "_law_gate"]
def spComp : Sp := fun vs H Q _ => ∃ (b c : Addr) (n : Nat) (m : Int), vs = [.ref b, .int (n : Int), .int m] ∧ BagAt H b c ∧ 2 ≤ n ∧ n ≤ 12 ∧ 0 ≤ m ∧ m ≤ 200 ∧
  ∀ (v : V) (rows : List Row) H', SameB b H H' → BagAt H' b c → RowsAt H' v rows → OkM n rows → rows.length ≤ 200 → Q v H'
theorem cal_comparisons (D : DefIn K mg "_law_comparisons" (top 40) ["_law_bag_here", "_law_places_here", "_law_most_here"]) (B : Bare mg) (ct : C8.Cal P w K mg base 1 "_law_take" spTake []) (cp : C8.Cal P w K mg base 2 "_law_price" spPrice [])
    (cg : C8.Cal P w K mg base 2 "_law_gates" spGates []) : C8.Cal P w K mg base 3 "_law_comparisons" spComp [] := by
  have nd : (nCmp : List Str).Nodup := by decide +kernel
  refine D.cal (N := nCmp) (C8.fnScope_by (by decide +kernel)) (fun vs H Q E h => ?_) (fun f cdv A outer s H vs Q E hr h => ?_)
  · obtain ⟨b, c, n, m, rfl, _⟩ := h
    rfl
  · obtain ⟨b, c, n, m, rfl, hB, hn1, hn, hm0, hm1, q⟩ := h
    refine ⟨_, pss_cons (ps_set (i := 3) nd rfl (.inr rfl) (pe_cmpR op_gt (C8.pe_c ct hr (by decide) (by rfl) (pa_cons (pv 0) (pa_cons pe_int pa_nil))) pe_int (nomark _)))
      (pss_one (ps_ret (pe_lc (own := [("_law_gate", 4)]) (g := gName 4) (tt := tYes) rfl nd (pi_list (C8.pe_c cg hr (by decide) (by rfl) (pa_cons (pv 0) (pa_cons (pv 1) (pa_cons (pv 2) pa_nil)))))
        (blkOk_by (N := nCmp) (sc := C8.fnScope (top 40)) (by decide +kernel)) (fun _ _ _ _ _ => pg_name (i := 4) nd rfl (.inl rfl)) (fun _ _ _ _ _ => pts_nil)
        (fun _ _ _ _ _ => pe_tup (pa_cons (pv 4) (pa_cons (pe_ix (ix_list : IxR _ (rIxL K)) (pe_lst (pa_cons pe_int (pa_cons (C8.pe_c cp hr (by decide) (by rfl) (pa_cons (pv 0) pa_nil)) pa_nil))) (pe_callTy call_int1 (by rfl) B.int PyProof.Rows.boot_int (pa_cons (pv 3) pa_nil)) (fun _ _ => rfl)) pa_nil)))))), ?_⟩
    refine ⟨_, rfl, b, c, 3, rfl, hB, by decide, by decide, fun z H1 z0 z1 s1 hB1 => ⟨z, 0, rfl, rfl, ?_⟩⟩
    obtain ⟨dear, hd⟩ : ∃ k, k = decide ((0 : Int) < z) := ⟨_, rfl⟩
    show gName 3 (V.bl (decide ((0 : Int) < z))) _ H1 _
    rw [← hd]
    refine ⟨_, rfl, _, rfl, _, rfl, b, c, n, m, rfl, hB1, hn1, hn, hm0, hm1, fun p gs H2 npb s2 hB2 hp hgl hgs => ⟨p, rfl, ⟨_, SqL.of hp⟩, fun D0 nD => ?_⟩⟩
    have nDb : D0 ≠ b := hB2.ne nD
    have nDc : D0 ≠ c := hB2.neC nD
    have nDp : p ≠ D0 := ne_of_none hp nD
    have s02 : SameB b H H2 := s1.trans s2
    refine lc_list (K := K) (a := p) (xs := gs.map nV) (fun i H' => SameB b H2 H' ∧ BagAt H' b c ∧ ∃ xs rows, H' D0 = some (.lst xs) ∧ rows.length = i ∧ RowsL H' xs rows ∧ OkM n rows)
      ⟨.of (same_new nD), hB2.upd nDb nDc, [], [], upd_same, rfl, ⟨rfl, fun i c x h _ => by simp at h⟩, fun x hx => by cases hx⟩ (fun i H' _ ⟨s3, _⟩ => SqL.of (s3 _ _ npb hp)) (fun i y H' hi ⟨s3, hB3, xs, rows, hD, hrl, hL, hok⟩ => ?_) (fun H' ⟨s3, hB3, xs, rows, hD, hrl, hL, hok⟩ => ?_)
    · have hil : i < gs.length := by
        have := (List.getElem?_eq_some_iff.mp hi).1
        rw [List.length_map] at this
        exact this
      have ey : y = nV gs[i] := by
        rw [List.getElem?_map, List.getElem?_eq_getElem hil] at hi
        exact (Option.some.inj hi).symm
      subst ey
      obtain ⟨g1, g2⟩ := hgs _ (List.getElem_mem hil)
      refine ⟨rfl, _, rfl, _, rfl, b, c, rfl, hB3, fun pr H4 p0 p1 s4 hB4 => ⟨big (by show 2 ≤ 100000; decide), fun l nl => newE nl fun H5 s5 e5 => ?_⟩⟩
      refine ⟨_, rfl, .inr ⟨dear, rfl, ?_⟩⟩
      have fin : ∀ x : Int, 0 ≤ x → x ≤ maxPrice → ∀ (r : Addr) (H6 : Hp), H5 r = none → Same H5 H6 → H6 r = some (.tup [nV gs[i], .int x]) → ∃ acc, H6 D0 = some (.lst acc) ∧ acc.length < sizeLine ∧
          SameB b H2 (upd H6 D0 (.lst (acc ++ [.ref r]))) ∧ BagAt (upd H6 D0 (.lst (acc ++ [.ref r]))) b c ∧ ∃ xs rows, (upd H6 D0 (.lst (acc ++ [.ref r]))) D0 = some (.lst xs) ∧ rows.length = i + 1 ∧ RowsL (upd H6 D0 (.lst (acc ++ [.ref r]))) xs rows ∧ OkM n rows := by
        intro x x0 x1 r H6 nr s6 hr6
        have s36 : SameB b H' H6 := s4.trans ((SameB.of s5).trans (.of s6))
        have hD6 := s36 _ _ nDb hD
        obtain ⟨lb, hlb⟩ := hB3.list
        refine ⟨xs, hD6, ?_, sameB_mut (s3.trans s36) nD, ((hB4.mono s5).mono s6).upd nDb nDc, xs ++ [.ref r], rows ++ [(gs[i], x)], upd_same, by rw [List.length_append, hrl]; rfl, ?_, hok.append fun y hy => ?_⟩
        · rw [hL.1]
          exact bigL (by omega)
        · refine RowsL.monoB (b := D0) (H := H6) (fun a u ne e => by rw [upd_ne ne]; exact e) hD6 ((hL.monoB s36 hlb).append (RowsL.one ⟨r, rfl, hr6⟩))
        · rw [List.mem_singleton] at hy
          subst hy
          exact ⟨g1, g2, x0, x1⟩
      cases dear with
      | true =>
        refine ⟨l, _, 1, .int pr, rfl, rfl, SqL.of e5, rfl, big (by show 2 ≤ 100000; decide), fun r nr => newE nr fun H6 s6 e6 => fin pr p0 p1 r H6 nr s6 e6⟩
      | false =>
        refine ⟨l, _, 0, .int 1, rfl, rfl, SqL.of e5, rfl, big (by show 2 ≤ 100000; decide), fun r nr => newE nr fun H6 s6 e6 => fin 1 (by decide) (by decide) r H6 nr s6 e6⟩
    · rw [List.length_map] at hrl
      exact q _ rows _ (s02.trans s3) hB3 (hL.at hD) hok (by omega)
/-! ### _law_gates_of -/
def spGatesOf : Sp := fun vs H Q _ => ∃ (rows : List Row) (v : V), vs = [v] ∧ RowsAt H v rows ∧ rows.length ≤ 1000 ∧ ∀ p H', Same H H' → H' p = some (.lst (rows.map fun x => nV x.1)) → Q (.ref p) H'
theorem cal_gates_of (D : DefIn K mg "_law_gates_of" (top 42) ["_law_rows"]) : C8.Cal P w K mg base 1 "_law_gates_of" spGatesOf [] := by
  have nd : (["_law_rows", "_law_gate", "_law_price_here"] : List Str).Nodup := by decide +kernel
  refine D.cal (N := ["_law_rows", "_law_gate", "_law_price_here"]) (C8.fnScope_by (by decide +kernel)) (fun vs H Q E h => ?_) (fun f cdv A outer s H vs Q E hr h => ?_)
  · obtain ⟨rows, v, rfl, _⟩ := h
    rfl
  · obtain ⟨rows, v, rfl, hR, hl, q⟩ := h
    obtain ⟨a, vs, rfl, ha, hvl, hrow⟩ := hR.row
    refine ⟨_, pss_one (ps_ret (pe_lc (own := [("_law_gate", 1), ("_law_price_here", 2)]) (g := gTup K 2 (gCons (gName 1) (gCons (gName 2) gNil))) (tt := tYes) rfl nd (pi_list (pv 0))
      (blkOk_by (N := ["_law_rows", "_law_gate", "_law_price_here"]) (sc := C8.fnScope (top 42)) (by decide +kernel))
      (fun _ _ _ _ _ => pg_tup rfl (pgs_cons (pg_name (i := 1) nd rfl (.inl rfl)) (pgs_cons (pg_name (i := 2) nd rfl (.inl rfl)) pgs_nil))) (fun _ _ _ _ _ => pts_nil)
      (fun _ _ _ _ _ => pv 1))), ?_⟩
    refine ⟨_, rfl, a, rfl, ⟨_, SqL.of ha⟩, fun D0 nD => lcList (K := K) (a := a) (ys := vs) nD (fun i v _ => ∀ x, rows[i]? = some x → v = nV x.1) (by omega) (SqL.of ha) (fun i x H1 Kt hx s1 hD kt => ?_) fun xs H1 s1 hD hxl hR1 => ?_⟩
    · have hi : i < rows.length := by
        have := (List.getElem?_eq_some_iff.mp hx).1
        omega
      obtain ⟨c, ic, hc⟩ := hrow i _ (List.getElem?_eq_getElem hi)
      have ex : x = .ref c := by
        rw [ic] at hx
        exact (Option.some.inj hx).symm
      subst ex
      refine ⟨c, _, rfl, SqT.of (s1 _ _ hc), rfl, _, _, rfl, _, _, rfl, rfl, rfl, ?_⟩
      refine ⟨_, rfl, kt _ _ (Same.refl _) fun _ _ x hx3 => ?_⟩
      rw [List.getElem?_eq_getElem hi] at hx3
      cases hx3
      rfl
    · refine q D0 H1 s1 ?_
      rw [hD]
      refine congrArg (fun l => some (HO.lst l)) (List.ext_getElem? fun i => ?_)
      by_cases hi : i < rows.length
      · have e : xs[i]? = some xs[i] := List.getElem?_eq_getElem (by omega)
        rw [e, List.getElem?_map, List.getElem?_eq_getElem hi]
        exact congrArg some (hR1 i _ e _ (List.getElem?_eq_getElem hi))
      · rw [List.getElem?_eq_none (by omega), List.getElem?_eq_none (by rw [List.length_map]; omega)]
end
end K57
namespace K57
open PySem PySem.Spec PyProof.Rows L2
theorem rg_nat (n : Nat) : rgV 0 (n : Int) = (List.range n).map nV := by
  unfold rgV
  rw [show ((n : Int) - 0).toNat = n by omega]
  refine List.map_congr_left fun i _ => ?_
  show V.int (0 + (i : Int)) = V.int (i : Int)
  rw [Int.zero_add]
theorem order_of_perm {n : Nat} {xs : List Nat} (h : xs.Perm (List.range n)) : Order n xs :=
  ⟨by rw [h.length_eq, List.length_range], fun x hx => List.mem_range.mp (h.mem_iff.mp hx), h.nodup_iff.mpr List.nodup_range⟩
theorem erase_perm {ls : List Nat} {k : Nat} (h : k < ls.length) : (ls[k] :: ls.eraseIdx k).Perm ls := by
  have e1 : ls.eraseIdx k = ls.take k ++ ls.drop (k + 1) := List.eraseIdx_eq_take_drop_succ ls k
  have e2 : ls = ls.take k ++ ls[k] :: ls.drop (k + 1) := by
    rw [← List.drop_eq_getElem_cons h, List.take_append_drop]
  rw [e1]
  refine List.Perm.trans List.perm_middle.symm ?_
  exact List.Perm.of_eq e2.symm
theorem map_erase (ls : List Nat) (k : Nat) : (ls.map nV).eraseIdx k = (ls.eraseIdx k).map nV := by
  rw [List.eraseIdx_eq_take_drop_succ, List.eraseIdx_eq_take_drop_succ, List.map_append, List.map_take, List.map_drop]
theorem ixN_of {n : Nat} {z : Int} (h0 : 0 ≤ z) (h1 : z < n) : ixN n z = some z.toNat := by
  unfold ixN
  rw [if_pos h0, if_pos h1]
section
variable {P : Program} {w : World} {K : PySem.W.Frag} {mg : Str → Option Value} {base : Heap}
/-! ### _law_order -/
abbrev nOrd : List Str := ["_law_bag_here", "_law_places_here", "_law_left", "_law_found", "_law_way", "_law_k", "_law_one", "_law_other"]
def spOrder : Sp := fun vs H Q _ => ∃ (b c : Addr) (n : Nat), vs = [.ref b, .int (n : Int)] ∧ BagAt H b c ∧ 1 ≤ n ∧ n ≤ 12 ∧
  ∀ (v : V) (xs : List Nat) H', SameB b H H' → BagAt H' b c → OrdAt H' v xs → Order n xs → Q v H'
theorem cal_order (D : DefIn K mg "_law_order" (top 41) ["_law_bag_here", "_law_places_here"]) (B : Bare mg) (ct : C8.Cal P w K mg base 1 "_law_take" spTake []) : C8.Cal P w K mg base 2 "_law_order" spOrder [] := by
  have nd : (nOrd : List Str).Nodup := by decide +kernel
  refine D.cal (N := nOrd) (C8.fnScope_by (by decide +kernel)) (fun vs H Q E h => ?_) (fun f cdv A outer s H vs Q E hr h => ?_)
  · obtain ⟨b, c, n, rfl, _⟩ := h
    rfl
  · obtain ⟨b, c, n, rfl, hB, hn1, hn, q⟩ := h
    refine ⟨_, pss_cons (ps_par3 (i := 2) (j := 3) (l := 4) rfl nd rfl rfl rfl (by decide) (by decide) (by decide) rfl rfl rfl (pa_cons (pe_listRg rfl (by rfl) B.list (prg_1 (by rfl) B.range (pv 1))) (pa_cons (pe_lst pa_nil) (pa_cons (C8.pe_c ct hr (by decide) (by rfl) (pa_cons (pv 0) (pa_cons pe_int pa_nil))) pa_nil))) (by rfl))
      (pss_cons (ps_for PassesOwn.never rfl (pi_range1 (by rfl) B.range (pa_cons (pv 1) pa_nil)) (pg_name (i := 5) nd rfl (.inl rfl))
        (pss_one (ps_expr (pe_bm PySem.F.plainAttrs_list PySem.F.slot_list_append PySem.F.type_list_append mt_append (pv 3) (pa_cons
          (pe_bm PySem.F.plainAttrs_list PySem.F.slot_list_pop PySem.F.type_list_pop mt_popAt (pv 2) (pa_cons (C8.pe_c ct hr (by decide) (by rfl) (pa_cons (pv 0) (pa_cons (pe_callB call_len_seq (by rfl) B.len PySem.boot_len (pa_cons (pv 2) pa_nil)) pa_nil))) pa_nil)) pa_nil)))))
      (pss_cons (ps_if (pt_cmpR op_eq (pv 4) pe_int (nomark _)) (pss_one (ps_ret (pe_revL (pe_listRg rfl (by rfl) B.list (prg_1 (by rfl) B.range (pv 1)))))) pss_nil)
      (C8.pss_cut (ps_if (pt_cmpR op_eq (pv 4) pe_int (nomark _))
          (pss_cons (ps_set (i := 3) nd rfl (.inl rfl) (pe_listRg rfl (by rfl) B.list (prg_1 (by rfl) B.range (pv 1))))
          (pss_one (ps_for PassesOwn.never rfl (pi_range1 (by rfl) B.range (pa_cons (C8.pe_c ct hr (by decide) (by rfl) (pa_cons (pv 0) (pa_cons pe_int pa_nil))) pa_nil)) (pg_name (i := 5) nd rfl (.inl rfl))
            (pss_cons (ps_par (i := 6) (j := 7) rfl nd rfl rfl (by decide) rfl rfl (pa_cons (C8.pe_c ct hr (by decide) (by rfl) (pa_cons (pv 0) (pa_cons (pv 1) pa_nil))) (pa_cons (C8.pe_c ct hr (by decide) (by rfl) (pa_cons (pv 0) (pa_cons (pv 1) pa_nil))) pa_nil)) (by rfl))
            (pss_one (ps_asg (pe_tup (pa_cons (pe_ix ix_list (pv 3) (pv 7) (fun _ _ => rfl)) (pa_cons (pe_ix ix_list (pv 3) (pv 6) (fun _ _ => rfl)) pa_nil))) (pg_tup rfl (pgs_cons (pg_sub (pv 3) (pv 6) set_list) (pgs_cons (pg_sub (pv 3) (pv 7) set_list) pgs_nil))))))))) pss_nil)
        (pss_one (ps_ret (pv 3)))))), ?_⟩
    have rgok : RgOk 0 (n : Int) := RgOk.of_le (by decide) (by omega) (by decide) (by omega)
    refine ⟨_, rfl, n, rfl, rgok, fun l nl => newE nl fun H1 s1 e1 => ⟨Nat.zero_le _, fun p np => newE np fun H2 s2 e2 => ?_⟩⟩
    rw [rg_nat] at e1
    have s02 := s1.trans s2
    have nlb : l ≠ b := hB.ne nl
    have nlc : l ≠ c := hB.neC nl
    have npb : p ≠ b := (hB.mono s1).ne np
    have npc : p ≠ c := (hB.mono s1).neC np
    have nlp : l ≠ p := ne_of_none e1 np
    have npH : H p = none := s1.free np
    refine ⟨_, rfl, b, c, 6, rfl, hB.mono s02, by decide, by decide, fun wy H3 w0 w1 s3 hB3 => ⟨_, _, _, rfl, ?_⟩⟩
    have s03 : SameB b H H3 := (SameB.of s02).trans s3
    -- for k in range(places)
    refine ⟨_, rfl, n, rfl, by omega, by omega, ?_⟩
    rw [Int.toNat_natCast]
    refine for_range (lo := 0) (n := n) (fun i σ H' => ∃ y5 ls fs, σ = [some (.ref b), some (.int n), some (.ref l), some (.ref p), some (.int wy), y5, none, none] ∧ SameB b H H' ∧ BagAt H' b c ∧ H' l = some (.lst (ls.map nV)) ∧ H' p = some (.lst (fs.map nV)) ∧ fs.length = i ∧ (fs ++ ls).Perm (List.range n))
      ⟨none, List.range n, [], rfl, s03, hB3, s3 _ _ nlb (s2 _ _ e1), s3 _ _ npb e2, rfl, List.Perm.refl _⟩ ?_ ?_
    · rintro i σ H' hi ⟨y5, ls, fs, rfl, s4, hB4, hl4, hp4, hfl, hperm⟩
      have hlen : ls.length + i = n := by
        have := hperm.length_eq
        rw [List.length_append, List.length_range] at this
        omega
      refine ⟨_, rfl, .inl ⟨rfl, _, SqL.of hp4⟩, _, rfl, .inl ⟨rfl, _, SqL.of hl4⟩, _, rfl, _, rfl, l, _, rfl, .inl (SqL.of hl4), b, c, ((ls.map nV).length : Int), rfl, hB4, ?_, ?_, fun z H5 z0 z1 s5 hB5 => ?_⟩
      · rw [List.length_map]
        omega
      · rw [List.length_map]
        omega
      rw [List.length_map] at z1
      have hz : z.toNat < ls.length := by omega
      have hl5 := s5 _ _ nlb hl4
      have hp5 := s5 _ _ npb hp4
      refine ⟨l, _, z, z.toNat, nV ls[z.toNat], rfl, rfl, hl5, by omega, by omega, ?_, ?_, ?_⟩
      · exact seqIndex_of z0 (by rw [List.length_map]; exact z1)
      · rw [List.getElem?_map, List.getElem?_eq_getElem hz]
        rfl
      · refine ⟨p, _, _, rfl, rfl, by rw [upd_ne nlp.symm]; exact hp5, by rw [List.length_map]; exact small1000 (by omega), ?_⟩
        refine ⟨_, ls.eraseIdx z.toNat, fs ++ [ls[z.toNat]], rfl, sameB_mut (sameB_mut (s4.trans s5) nl) npH, (hB5.upd nlb nlc).upd npb npc, ?_, ?_, by rw [List.length_append, hfl]; rfl, ?_⟩
        · rw [upd_ne nlp, upd_same, map_erase]
        · rw [upd_same, List.map_append]
          rfl
        · rw [List.append_assoc]
          refine List.Perm.trans (List.Perm.append_left fs ?_) hperm
          exact erase_perm hz
    · rintro σ H' ⟨y5, ls, fs, rfl, s4, hB4, hl4, hp4, hfl, hperm⟩
      have hls : ls = [] := by
        have := hperm.length_eq
        rw [List.length_append, List.length_range] at this
        exact List.eq_nil_of_length_eq_zero (by omega)
      subst hls
      rw [List.append_nil] at hperm
      -- if way == 0
      refine ⟨_, rfl, rfl, _, rfl, ite2 (fun _ => ?_) (fun _ => ?_)⟩
      · refine ⟨_, rfl, n, rfl, rgok, fun p2 np2 => newE np2 fun H5 s5 e5 => ?_⟩
        refine ⟨p2, _, rfl, SqL.of e5, fun p3 np3 => newE np3 fun H6 s6 e6 => ?_⟩
        rw [rg_nat, ← List.map_reverse] at e6
        exact q _ _ _ (s4.trans ((SameB.of s5).trans (.of s6))) ((hB4.mono s5).mono s6) ⟨p3, rfl, e6⟩ (order_of_perm (List.reverse_perm _))
      · -- if way == 1
        refine ⟨fun σ' H' => ∃ (y5 y6 y7 : Option V) (q3 : Addr) (xs : List Nat), σ' = [some (.ref b), some (.int n), some (.ref l), some (.ref q3), some (.int wy), y5, y6, y7] ∧ SameB b H H' ∧ BagAt H' b c ∧ H' q3 = some (.lst (xs.map nV)) ∧ xs.Perm (List.range n), ?_, ?_⟩
        · refine ⟨_, rfl, rfl, _, rfl, ite2 (fun _ => ?_) (fun _ => ?_)⟩
          · refine ⟨_, rfl, n, rfl, rgok, fun p2 np2 => newE np2 fun H5 s5 e5 => ?_⟩
            rw [rg_nat] at e5
            have n2b : p2 ≠ b := hB4.ne np2
            have n2c : p2 ≠ c := hB4.neC np2
            have n2H : H p2 = none := sameB_free s4 np2 n2b
            refine ⟨_, rfl, b, c, 4, rfl, hB4.mono s5, by decide, by decide, fun t H6 t0 t1 s6 hB6 => ⟨t, rfl, by omega, by omega, ?_⟩⟩
            refine for_range (lo := 0) (n := t.toNat) (fun i σ H' => ∃ (y5 y6 y7 : Option V) (xs : List Nat), σ = [some (.ref b), some (.int n), some (.ref l), some (.ref p2), some (.int wy), y5, y6, y7] ∧ SameB b H H' ∧ BagAt H' b c ∧ H' p2 = some (.lst (xs.map nV)) ∧ xs.Perm (List.range n))
              ⟨_, _, _, _, rfl, s4.trans ((SameB.of s5).trans s6), hB6, s6 _ _ n2b e5, List.Perm.refl _⟩ ?_ ?_
            · rintro i σ H7 hi ⟨y5, y6, y7, xs, rfl, s7, hB7, hx7, hp7⟩
              have hxl : xs.length = n := by rw [hp7.length_eq, List.length_range]
              refine ⟨_, rfl, _, rfl, b, c, n, rfl, hB7, by omega, by omega, fun u H8 u0 u1 s8 hB8 => ⟨_, rfl, _, rfl, b, c, n, rfl, hB8, by omega, by omega, fun v H9 v0 v1 s9 hB9 => ⟨_, _, rfl, ?_⟩⟩⟩
              have hx9 := s9 _ _ n2b (s8 _ _ n2b hx7)
              have hu : u.toNat < xs.length := by omega
              have hv : v.toNat < xs.length := by omega
              have gu : (xs.map nV)[u.toNat]? = some (nV xs[u.toNat]) := by
                rw [List.getElem?_map, List.getElem?_eq_getElem hu]
                rfl
              have gv : (xs.map nV)[v.toNat]? = some (nV xs[v.toNat]) := by
                rw [List.getElem?_map, List.getElem?_eq_getElem hv]
                rfl
              refine ⟨_, rfl, _, rfl, p2, _, v, _, rfl, rfl, SqL.of hx9, at_int v.toNat (by omega) gv, _, rfl, _, rfl, p2, _, u, _, rfl, rfl, SqL.of hx9, at_int u.toNat (by omega) gu, big (by show 2 ≤ 100000; decide), fun T nT => newE nT fun H10 s10 e10 => ?_⟩
              have hx10 := s10 _ _ hx9
              refine ⟨T, _, rfl, SqT.of e10, rfl, _, _, rfl, _, rfl, _, rfl, p2, _, u, u.toNat, rfl, rfl, hx10, ixN_of u0 (by rw [List.length_map]; omega), _, _, rfl, _, rfl, _, rfl, p2, _, v, v.toNat, rfl, rfl, upd_same, ixN_of v0 (by rw [List.length_set, List.length_map]; omega), rfl, ?_⟩
              refine ⟨_, _, _, (xs.set u.toNat xs[v.toNat]).set v.toNat xs[u.toNat], rfl, sameB_mut (sameB_mut (s7.trans (s8.trans (s9.trans (.of s10)))) n2H) n2H, ((hB9.mono s10).upd n2b n2c).upd n2b n2c, ?_, ?_⟩
              · rw [upd_same, List.map_set, List.map_set]
              · exact List.Perm.trans (List.set_set_perm hu hv) hp7
            · rintro σ H7 ⟨y5, y6, y7, xs, rfl, s7, hB7, hx7, hp7⟩
              exact ⟨_, _, _, p2, xs, rfl, s7, hB7, hx7, hp7⟩
          · exact ⟨_, _, _, p, fs, rfl, s4, hB4, hp4, hperm⟩
        · rintro σ' H7 ⟨y5, y6, y7, q3, xs, rfl, s7, hB7, hx7, hp7⟩
          exact ⟨_, rfl, q _ xs _ s7 hB7 ⟨q3, rfl, hx7⟩ (order_of_perm hp7)⟩
end
end K57
namespace K57
open PySem PySem.Spec PyProof.Rows L2
/-- list(xs), said without the place where it stands -/
def rListOf (K : PySem.W.Frag) : List V → Hp → VK → Prop := fun xs H Q => ∃ p ys, xs = [.ref p] ∧ (SqL K H p ys ∨ SqT K H p ys) ∧ ∀ l, H l = none → Q (.ref l) (upd H l (.lst ys))
/-- what _law_cost and the laws over it are asked at -/
structure LawAt (H : Hp) (n : Nat) (vr vo : V) (rows : List Row) (xs : List Nat) : Prop where
  rws : RowsAt H vr rows
  ordA : OrdAt H vo xs
  ok : OkM n rows
  n1 : 2 ≤ n
  n12 : n ≤ 12
  len : rows.length ≤ 200
  ord : Order n xs
  ne : xs ≠ List.range n
theorem LawAt.mono {H H' : Hp} {n : Nat} {vr vo : V} {rows : List Row} {xs : List Nat} (s : Same H H') (h : LawAt H n vr vo rows xs) : LawAt H' n vr vo rows xs :=
  ⟨h.rws.mono s, h.ordA.mono s, h.ok, h.n1, h.n12, h.len, h.ord, h.ne⟩
theorem LawAt.monoB {b c : Addr} {H H' : Hp} {n : Nat} {vr vo : V} {rows : List Row} {xs : List Nat} (s : SameB b H H') (hB : BagAt H b c) (h : LawAt H n vr vo rows xs) : LawAt H' n vr vo rows xs :=
  ⟨h.rws.monoB s hB, h.ordA.monoB s hB, h.ok, h.n1, h.n12, h.len, h.ord, h.ne⟩
section
variable {P : Program} {w : World} {K : PySem.W.Frag} {mg : Str → Option Value} {base : Heap} {C : Addr}
/-! ### _law_cost -/
def spCost : Sp := fun vs H Q _ => ∃ (n : Nat) (vr vo : V) (rows : List Row) (xs : List Nat), vs = [.int (n : Int), vr, vo] ∧ LawAt H n vr vo rows xs ∧ ∀ c H', Same H H' → Cost n (dem xs) rows c → Q (.int c) H'
theorem cal_cost (D : DefIn K mg "_law_cost" (top 44) ["_law_places_here", "_law_rows", "_law_order_here"]) (B : Bare mg) (mk : C8.Mak P w K mg base 5 "Schedule" C (spInit C) []) (cc : C8.Cal P w K mg base 6 "cheapest" (spCheapest C) []) : C8.Cal P w K mg base 7 "_law_cost" spCost [] := by
  refine D.cal (N := ["_law_places_here", "_law_rows", "_law_order_here"]) (C8.fnScope_by (by decide +kernel)) (fun vs H Q E h => ?_) (fun f cdv A outer s H vs Q E hr h => ?_)
  · obtain ⟨n, vr, vo, rows, xs, rfl, _⟩ := h
    rfl
  · obtain ⟨n, vr, vo, rows, xs, rfl, L, q⟩ := h
    obtain ⟨oa, rfl, ho⟩ := L.ordA
    refine ⟨_, pss_one (ps_ret (pe_ix ix_tup (C8.pe_c cc hr (by decide) (by rfl) (pa_cons (C8.pe_mk mk hr (by decide) (by rfl) (pa_cons (pv 0) (pa_cons (pv 1) pa_nil)))
      (pa_cons (pe_callTy call_list_of (by rfl) B.list PyProof.Rows.boot_list (pa_cons (pv 2) pa_nil)) pa_nil))) pe_int (fun _ _ => rfl))), ?_⟩
    have n1 := L.n1
    have nl := L.len
    refine ⟨_, rfl, _, rfl, fun x dx nx ndx ne => make_ok nx ndx ne L.rws L.ok (by omega) L.n12 (by omega) fun H1 s1 hS => ?_⟩
    refine ⟨_, rfl, oa, _, rfl, .inl (SqL.of (s1 _ _ ho)), fun p np => newE np fun H2 s2 e2 => ?_⟩
    exact ⟨n, rows, xs, ⟨⟨_, _, rfl, hS.mono s2, p, rfl, e2⟩, L.ok, by omega, L.n12, by omega, L.ord, L.ne⟩, fun b x0 x1 x3 x4 c H3 s3 hC hb => ⟨b, _, 2, .int c, rfl, rfl, SqT.of hb, rfl, q c H3 (s1.trans (s2.trans s3)) hC⟩⟩
/-! ### _law_one_right -/
abbrev nOne : List Str := ["_law_places_here", "_law_rows", "_law_order_here", "_law_one", "_law_gate", "_law_fewest", "_law_most_here", "_law_many", "_law_price_here"]
def spOne : Sp := fun vs H Q _ => ∃ (n : Nat) (vr vo : V) (rows : List Row) (xs : List Nat), vs = [.int (n : Int), vr, vo] ∧ LawAt H n vr vo rows xs ∧ ∀ H', Same H H' → Q (.bl true) H'
theorem scal_self (c : Int) : scal (borneV c) (borneV c) = true := by
  unfold borneV
  split <;> rfl
theorem cal_one_right (D : DefIn K mg "_law_one_right" (top 45) ["_law_places_here", "_law_rows", "_law_order_here"]) (B : Bare mg) (mk : C8.Mak P w K mg base 5 "Schedule" C (spInit C) []) (cco : C8.Cal P w K mg base 7 "_law_cost" spCost [])
    (cgo : C8.Cal P w K mg base 1 "_law_gates_of" spGatesOf []) (csp : C8.Cal P w K mg base 6 "spoiling" (spSpoiling C) []) (cbo : C8.Cal P w K mg base 6 "borne" (spBorne C) []) : C8.Cal P w K mg base 8 "_law_one_right" spOne [] := by
  have nd : (nOne : List Str).Nodup := by decide +kernel
  refine D.cal (N := nOne) (C8.fnScope_by (by decide +kernel)) (fun vs H Q E h => ?_) (fun f cdv A outer s H vs Q E hr h => ?_)
  · obtain ⟨n, vr, vo, rows, xs, rfl, _⟩ := h
    rfl
  · obtain ⟨n, vr, vo, rows, xs, rfl, L, q⟩ := h
    obtain ⟨oa, rfl, ho⟩ := L.ordA
    have n1 := L.n1
    have nl := L.len
    refine ⟨_, pss_cons (ps_setLc (i := 3) (own := [("_law_gate", 4)]) (g := gName 4) (tt := tYes) rfl nd rfl rfl (sw_true rfl rfl rfl (by decide +kernel)) (pi_list (C8.pe_c cgo hr (by decide) (by rfl) (pa_cons (pv 1) pa_nil)))
        (blkOk_by (N := nOne) (sc := C8.fnScope (top 45)) (by decide +kernel)) (fun _ _ _ _ _ => pg_name (i := 4) nd rfl (.inl rfl)) (fun _ _ _ _ _ => pts_nil) (fun _ _ _ _ _ => pe_tup (pa_cons (pv 4) (pa_cons pe_int pa_nil))))
      (pss_cons (ps_par (i := 5) (j := 6) rfl nd rfl rfl (by decide) rfl rfl (pa_cons
          (C8.pe_c csp hr (by decide) (by rfl) (pa_cons (C8.pe_mk mk hr (by decide) (by rfl) (pa_cons (pv 0) (pa_cons (pv 3) pa_nil))) (pa_cons (pe_callTy call_list_of (by rfl) B.list PyProof.Rows.boot_list (pa_cons (pv 2) pa_nil)) pa_nil))) (pa_cons
          (C8.pe_c cbo hr (by decide) (by rfl) (pa_cons (C8.pe_mk mk hr (by decide) (by rfl) (pa_cons (pv 0) (pa_cons (pv 3) pa_nil))) (pa_cons (pe_callTy call_list_of (by rfl) B.list PyProof.Rows.boot_list (pa_cons (pv 2) pa_nil)) pa_nil))) pa_nil)) (by rfl))
      (pss_cons (ps_set (i := 7) nd rfl (.inl rfl) (C8.pe_c cco hr (by decide) (by rfl) (pa_cons (pv 0) (pa_cons (pv 3) (pa_cons (pv 2) pa_nil)))))
      (pss_cons (ps_if (PW.pt (pw_or (pt_cmpR op_ne (pv 7) (pe_callB call_len_seq (by rfl) B.len PySem.boot_len (pa_cons (pe_ix ix_tup (pv 5) pe_int (fun _ _ => rfl)) pa_nil)) (nomark _))
          (pw_or1 (pt_cmpR op_ne (pv 6) (pe_ix ix_list (pe_lst (pa_cons (pe_op op_sub (pv 7) pe_int) (pa_cons pe_non pa_nil))) (pe_callTy call_int1 (by rfl) B.int PyProof.Rows.boot_int (pa_cons (pe_cmpR op_eq (pv 7) pe_int (nomark _)) pa_nil)) (fun _ _ => rfl)) (nomark _))))) (pss_one (ps_ret pe_bl)) pss_nil)
      (pss_one (ps_ret (pe_cmpR op_eq (C8.pe_c cco hr (by decide) (by rfl) (pa_cons (pv 0) (pa_cons
          (pe_lc (own := [("_law_gate", 4), ("_law_price_here", 8)]) (g := gTup K 2 (gCons (gName 4) (gCons (gName 8) gNil))) (tt := tYes) rfl nd (pi_list (pv 1)) (blkOk_by (N := nOne) (sc := C8.fnScope (top 45)) (by decide +kernel))
            (fun _ _ _ _ _ => pg_tup rfl (pgs_cons (pg_name (i := 4) nd rfl (.inl rfl)) (pgs_cons (pg_name (i := 8) nd rfl (.inl rfl)) pgs_nil))) (fun _ _ _ _ _ => pts_nil) (fun _ _ _ _ _ => pe_tup (pa_cons (pv 4) (pa_cons pe_int pa_nil))))
          (pa_cons (pv 2) pa_nil)))) pe_int (nomark _))))))), ?_⟩
    -- one = [(gate, 1) ..]
    refine ⟨_, rfl, rows, _, rfl, L.rws, by omega, fun p1 H1 s1 hp1 => ⟨p1, rfl, ⟨_, SqL.of hp1⟩, fun D0 nD => ?_⟩⟩
    refine lcList (K := K) (a := p1) (ys := rows.map fun x => nV x.1) nD (fun i v H' => ∀ x, rows[i]? = some x → RowAt H' v (x.1, 1)) (by rw [List.length_map]; omega) (SqL.of hp1) (fun i x H2 Kt hx s2 hD kt => ?_) fun ys H2 s2 hD hyl hR => ?_
    · rw [List.getElem?_map] at hx
      cases e : rows[i]? with
      | none =>
        rw [e] at hx
        cases hx
      | some y =>
        rw [e] at hx
        cases hx
        refine ⟨rfl, _, rfl, big (by show 2 ≤ 100000; decide), fun p np => newE np fun H3 s3 e3 => ?_⟩
        refine kt _ _ s3 fun H4 sb x hx4 => ?_
        rw [e] at hx4
        cases hx4
        exact ⟨p, rfl, sb _ _ (ne_new hD np) e3⟩
    have hU : RowsAt H2 (.ref D0) (unit rows) := by
      refine ⟨D0, ys, rfl, hD, by rw [hyl, List.length_map, unit_len], fun i c x h1 h2 => ?_⟩
      unfold unit at h2
      rw [List.getElem?_map] at h2
      cases e : rows[i]? with
      | none =>
        rw [e] at h2
        cases h2
      | some y =>
        rw [e] at h2
        cases h2
        exact hR i c h1 y e
    have s02 := s1.trans s2
    have okU := unit_ok L.ok
    have lenU : (unit rows).length ≤ 400 := by rw [unit_len]; omega
    -- fewest, most
    refine ⟨_, rfl, _, rfl, fun x dx nx ndx ne => make_ok nx ndx ne hU okU (by omega) L.n12 lenU fun H3 s3 hS => ?_⟩
    refine ⟨_, rfl, oa, _, rfl, .inl (SqL.of (s3 _ _ (s02 _ _ ho))), fun p3 np3 => newE np3 fun H4 s4 e4 => ?_⟩
    refine ⟨n, unit rows, xs, ⟨⟨_, _, rfl, hS.mono s4, p3, rfl, e4⟩, okU, by omega, L.n12, lenU, L.ord, L.ne⟩, fun bf mf ms x0 x2 x3 c1 H5 s5 hC1 hbf hmf hml => ?_⟩
    have s35 := s3.trans (s4.trans s5)
    have s05 := s02.trans s35
    refine ⟨_, rfl, _, rfl, fun x' dx' nx' ndx' ne' => make_ok nx' ndx' ne' (hU.mono s35) okU (by omega) L.n12 lenU fun H6 s6 hS6 => ?_⟩
    refine ⟨_, rfl, oa, _, rfl, .inl (SqL.of (s6 _ _ (s05 _ _ ho))), fun p6 np6 => newE np6 fun H7 s7 e7 => ?_⟩
    refine ⟨n, unit rows, xs, ⟨⟨_, _, rfl, hS6.mono s7, p6, rfl, e7⟩, okU, by omega, L.n12, lenU, L.ord, L.ne⟩, fun c2 H8 s8 hC2 => ⟨_, _, rfl, ?_⟩⟩
    have s58 := s6.trans (s7.trans s8)
    have s08 := s05.trans s58
    rw [unit_unit] at hC1 hC2
    -- many
    refine ⟨_, rfl, _, rfl, _, rfl, n, .ref D0, .ref oa, unit rows, xs, rfl, ⟨hU.mono (s35.trans s58), ⟨oa, rfl, s08 _ _ ho⟩, okU, L.n1, L.n12, by rw [unit_len]; omega, L.ord, L.ne⟩, fun c3 H9 s9 hC3 => ?_⟩
    have e12 := hC1.uniq hC2
    have e13 := hC1.uniq hC3
    subst e12
    subst e13
    have hc0 : 0 ≤ c1 := by omega
    have s09 := s08.trans s9
    have s59 := s58.trans s9
    -- the test
    refine ⟨_, rfl, _, rfl, bf, _, 1, .ref mf, rfl, rfl, SqT.of (s59 _ _ hbf), rfl, mf, _, rfl, .inl (SqL.of (s59 _ _ hmf)), rfl, _, rfl, ?_⟩
    rw [List.length_map, hml, decide_eq_true rfl]
    refine iteF ?_
    refine ⟨_, rfl, _, rfl, c1, 1, rfl, rfl, big (by show 2 ≤ 100000; decide), fun p10 np10 => newE np10 fun H10 s10 e10 => ?_⟩
    refine ⟨_, rfl, rfl, .inr ⟨_, rfl, p10, _, _, borneV c1, rfl, rfl, SqL.of e10, ?_, scal_self c1, _, rfl, ?_⟩⟩
    · unfold borneV
      by_cases hc : c1 = 0
      · subst hc
        rfl
      · rw [if_pos (show 0 < c1 by omega), decide_eq_false (fun z => hc (V.int.inj z))]
        rfl
    rw [decide_eq_true rfl]
    refine iteF ?_
    -- price 0 for all
    have s0x := s09.trans s10
    obtain ⟨ra, rvs, erow, hra, hvl, hrow⟩ := L.rws.row
    refine ⟨_, rfl, _, rfl, ra, erow, ⟨_, SqL.of (s0x _ _ hra)⟩, fun D1 nD1 => ?_⟩
    refine lcList (K := K) (a := ra) (ys := rvs) nD1 (fun i v H' => ∀ x, rows[i]? = some x → RowAt H' v (x.1, 0)) (by omega) (SqL.of (s0x _ _ hra)) (fun i x H11 Kt hx s11 hD1 kt => ?_) fun zs H11 s11 hD1 hzl hR1 => ?_
    · have hi : i < rows.length := by
        have := (List.getElem?_eq_some_iff.mp hx).1
        omega
      obtain ⟨c, ic, hc⟩ := hrow i _ (List.getElem?_eq_getElem hi)
      have ex : x = .ref c := by
        rw [ic] at hx
        exact (Option.some.inj hx).symm
      subst ex
      refine ⟨c, _, rfl, SqT.of (s11 _ _ (s0x _ _ hc)), rfl, _, _, rfl, _, _, rfl, rfl, rfl, ?_⟩
      refine ⟨_, rfl, big (by show 2 ≤ 100000; decide), fun p np => newE np fun H12 s12 e12 => ?_⟩
      refine kt _ _ s12 fun H13 sb x hx3 => ?_
      rw [List.getElem?_eq_getElem hi] at hx3
      cases hx3
      exact ⟨p, rfl, sb _ _ (ne_new hD1 np) e12⟩
    have hZ : RowsAt H11 (.ref D1) (rows.map fun x => (x.1, 0)) := by
      refine ⟨D1, zs, rfl, hD1, by rw [hzl, List.length_map, hvl], fun i c x h1 h2 => ?_⟩
      rw [List.getElem?_map] at h2
      cases e : rows[i]? with
      | none =>
        rw [e] at h2
        cases h2
      | some y =>
        rw [e] at h2
        cases h2
        exact hR1 i c h1 y e
    have okZ : OkM n (rows.map fun x => (x.1, 0)) := fun x hx => by
      obtain ⟨y, hy, rfl⟩ := List.mem_map.mp hx
      have := L.ok y hy
      exact ⟨this.1, this.2.1, Int.le_refl 0, (by show (0 : Int) ≤ maxPrice; decide)⟩
    have s0y := s0x.trans s11
    refine ⟨_, rfl, n, .ref D1, .ref oa, rows.map fun x => (x.1, 0), xs, rfl, ⟨hZ, ⟨oa, rfl, s0y _ _ ho⟩, okZ, L.n1, L.n12, by rw [List.length_map]; exact nl, L.ord, L.ne⟩, fun c4 H12 s12 hC4 => ⟨rfl, ?_⟩⟩
    have e4 : c4 = 0 := hC4.zero fun x hx => by
      obtain ⟨y, hy, rfl⟩ := List.mem_map.mp hx
      rfl
    subst e4
    rw [decide_eq_true rfl]
    exact q _ (s0y.trans s12)
end
end K57
namespace K57
open PySem PySem.Spec PyProof.Rows L2
/-! ### == and != of data with a Lean type -/
def rEqM (K : PySem.W.Frag) (α : Type) [DecidableEq α] [PySem.W.Datum α] : R2 := fun x y H Q => ∃ u v : α, Dp K H x (PySem.W.Datum.toD u) ∧ Dp K H y (PySem.W.Datum.toD v) ∧ Q (.bl (decide (u = v))) H
def rNeM (K : PySem.W.Frag) (α : Type) [DecidableEq α] [PySem.W.Datum α] : R2 := fun x y H Q => ∃ u v : α, Dp K H x (PySem.W.Datum.toD u) ∧ Dp K H y (PySem.W.Datum.toD v) ∧ Q (.bl (decide (u ≠ v))) H
section
variable {X : Cx} {α : Type} [DecidableEq α] [PySem.W.Datum α]
theorem op_eqM (hu : X.A.units + 64 < cLine) (hd : PySem.W.Datum.depth α ≤ 64) : OpR X (compareOp .Eq) (rEqM X.K α) := by
  intro pins s σ H x y v u Q I rx ry h
  obtain ⟨d, e, hd1, he1, q⟩ := h
  exact PySem.W.eq_datum (Dp.reads I _ x v hd1 rx) (Dp.reads I _ y u he1 ry) (by omega) ⟨.bl _, H, I, rfl, q⟩
theorem op_neM (hu : X.A.units + 64 < cLine) (hd : PySem.W.Datum.depth α ≤ 64) : OpR X (compareOp .NotEq) (rNeM X.K α) := by
  intro pins s σ H x y v u Q I rx ry h
  obtain ⟨d, e, hd1, he1, q⟩ := h
  exact PySem.W.ne_datum (Dp.reads I _ x v hd1 rx) (Dp.reads I _ y u he1 ry) (by omega) ⟨.bl _, H, I, rfl, q⟩
end
theorem dp_ints {K : PySem.W.Frag} {H : Hp} : ∀ ns : List Int, DpAll K H (ns.map V.int) (ns.map PySem.W.Datum.toD)
  | [] => .nil
  | n :: r => .cons (.int n) (dp_ints r)
theorem dp_intsL {K : PySem.W.Frag} {H : Hp} {a : Addr} {ns : List Int} (h : H a = some (.lst (ns.map V.int))) : Dp K H (.ref a) (PySem.W.Datum.toD ns) := .lst (SqL.of h) (dp_ints ns)
theorem nV_ints (xs : List Nat) : xs.map nV = (xs.map fun (x : Nat) => (x : Int)).map V.int := by
  rw [List.map_map]
  rfl
def rowI (rows : List Row) : List (Int × Int) := rows.map fun x => ((x.1 : Int), x.2)
theorem dp_rows {K : PySem.W.Frag} {H : Hp} : ∀ (rows : List Row) (vs : List V), RowsL H vs rows → DpAll K H vs ((rowI rows).map PySem.W.Datum.toD)
  | [], vs, h => by
    have e : vs = [] := List.eq_nil_of_length_eq_zero h.1
    subst e
    exact .nil
  | x :: r, [], h => by
    have := h.1
    cases this
  | x :: r, v :: vs, h => by
    obtain ⟨a, rfl, ha⟩ := h.2 0 v x rfl rfl
    refine .cons (.tup (SqT.of ha) (.cons (.int _) (.cons (.int _) .nil))) (dp_rows r vs ⟨Nat.succ.inj h.1, fun i c y h1 h2 => h.2 (i + 1) c y h1 h2⟩)
theorem row_split {rows : List Row} {i : Nat} {x : Row} (h : rows[i]? = some x) : rows = rows.take i ++ x :: rows.drop (i + 1) := by
  obtain ⟨hi, e⟩ := List.getElem?_eq_some_iff.mp h
  rw [← e, ← List.drop_eq_getElem_cons hi, List.take_append_drop]
/-- what the laws about one price ask, of the three costs -/
theorem changed {n : Nat} {xs : List Nat} {rows : List Row} {i g : Nat} {p m c cl cs : Int} (ok : OkM n rows) (h : rows[i]? = some (g, p)) (hm : 0 ≤ m) (h0 : Cost n (dem xs) rows c) (h1 : Cost n (dem xs) (rows.take i ++ [(g, p + m)] ++ rows.drop (i + 1)) cl)
    (h2 : Cost n (dem xs) (rows.take i ++ rows.drop (i + 1)) cs) : c ≤ cl ∧ cl ≤ c + m ∧ cs ≤ c ∧ c ≤ cs + p := by
  have e := row_split h
  have o := ok _ (List.mem_of_getElem? h)
  have h0' : Cost n (dem xs) (rows.take i ++ (g, p) :: rows.drop (i + 1)) c := by rw [← e]; exact h0
  have h1' : Cost n (dem xs) (rows.take i ++ (g, p + m) :: rows.drop (i + 1)) cl := by
    rw [List.append_assoc] at h1
    exact h1
  refine ⟨h1'.le h0' fun k => raise_le _ _ _ g (by omega), h0'.lip h1' fun k => raise_lip _ _ _ g p hm, h0'.le h2 fun k => without_le (ok.take i).ok o.1 o.2.2.1, h2.lip h0' fun k => without_lip o.2.2.1⟩
section
variable {P : Program} {w : World} {K : PySem.W.Frag} {mg : Str → Option Value} {base : Heap} {C : Addr}
/-! ### _law_changed_right -/
abbrev nChg : List Str := ["_law_bag_here", "_law_places_here", "_law_rows", "_law_order_here", "_law_cost_here", "_law_at", "_law_gate", "_law_price_here", "_law_more", "_law_later", "_law_less", "_law_schedule", "_law_some", "_law_one"]
def spChg : Sp := fun vs H Q _ => ∃ (b c : Addr) (n : Nat) (vr vo : V) (rows : List Row) (xs : List Nat), vs = [.ref b, .int (n : Int), vr, vo] ∧ BagAt H b c ∧ LawAt H n vr vo rows xs ∧ rows ≠ [] ∧ ∀ H', SameB b H H' → BagAt H' b c → Q (.bl true) H'
theorem cal_changed_right (D : DefIn K mg "_law_changed_right" (top 46) ["_law_bag_here", "_law_places_here", "_law_rows", "_law_order_here"]) (B : Bare mg) (mk : C8.Mak P w K mg base 5 "Schedule" C (spInit C) []) (cco : C8.Cal P w K mg base 7 "_law_cost" spCost [])
    (ct : C8.Cal P w K mg base 1 "_law_take" spTake []) (cch : C8.Cal P w K mg base 6 "cheapest" (spCheapest C) []) (mp : C8.Met P w K mg base 8 C "priced" (spPriced C) []) (mw : C8.Met P w K mg base 8 C "without" (spWithout C) []) :
    C8.Cal P w K mg base 9 "_law_changed_right" spChg [] := by
  have nd : (nChg : List Str).Nodup := by decide +kernel
  refine D.cal (N := nChg) (C8.fnScope_by (by decide +kernel)) (fun vs H Q E h => ?_) (fun f cdv A outer s H vs Q E hr h => ?_)
  · obtain ⟨b, c, n, vr, vo, rows, xs, rfl, _⟩ := h
    rfl
  · obtain ⟨b, c, n, vr, vo, rows, xs, rfl, hB, L, hne, q⟩ := h
    obtain ⟨oa, rfl, ho0⟩ := L.ordA
    obtain ⟨ra, rvs, rfl, hra0, hL0⟩ := L.rws.l
    have n1 := L.n1
    have nl := L.len
    have hpos : 0 < rows.length := List.length_pos_iff.mpr hne
    refine ⟨_, pss_cons (ps_par (i := 4) (j := 5) rfl nd rfl rfl (by decide) rfl rfl (pa_cons (C8.pe_c cco hr (by decide) (by rfl) (pa_cons (pv 1) (pa_cons (pv 2) (pa_cons (pv 3) pa_nil)))) (pa_cons
          (C8.pe_c ct hr (by decide) (by rfl) (pa_cons (pv 0) (pa_cons (pe_callB call_len_seq (by rfl) B.len PySem.boot_len (pa_cons (pv 2) pa_nil)) pa_nil))) pa_nil)) (by rfl))
      (pss_cons (ps_asg (pe_ix ix_list (pv 2) (pv 5) (fun _ _ => rfl)) (pg_tup rfl (pgs_cons (pg_name (i := 6) nd rfl (.inl rfl)) (pgs_cons (pg_name (i := 7) nd rfl (.inl rfl)) pgs_nil))))
      (pss_cons (ps_set (i := 8) nd rfl (.inl rfl) (C8.pe_c ct hr (by decide) (by rfl) (pa_cons (pv 0) (pa_cons (pe_op op_add (pe_op op_sub (pe_op op_pow pe_int pe_int) (pv 7)) pe_int) pa_nil))))
      (pss_cons (ps_set (i := 9) nd rfl (.inl rfl) (C8.pe_c cco hr (by decide) (by rfl) (pa_cons (pv 1) (pa_cons
          (pe_op op_cat (pe_op op_cat (pe_slice sl_list (pv 2) po_none (po_some (pv 5))) (pe_lst (pa_cons (pe_tup (pa_cons (pv 6) (pa_cons (pe_op op_add (pv 7) (pv 8)) pa_nil))) pa_nil)))
            (pe_slice sl_list (pv 2) (po_some (pe_op op_add (pv 5) pe_int)) po_none)) (pa_cons (pv 3) pa_nil)))))
      (pss_cons (ps_set (i := 10) nd rfl (.inl rfl) (C8.pe_c cco hr (by decide) (by rfl) (pa_cons (pv 1) (pa_cons
          (pe_op op_cat (pe_slice sl_list (pv 2) po_none (po_some (pv 5))) (pe_slice sl_list (pv 2) (po_some (pe_op op_add (pv 5) pe_int)) po_none)) (pa_cons (pv 3) pa_nil)))))
      (pss_cons (ps_set (i := 11) nd rfl (.inl rfl) (C8.pe_mk mk hr (by decide) (by rfl) (pa_cons (pv 1) (pa_cons (pe_callTy call_list_of (by rfl) B.list PyProof.Rows.boot_list (pa_cons (pv 2) pa_nil)) pa_nil))))
      (pss_cons (ps_set (i := 12) nd rfl (.inl rfl) (pe_lst (pa_cons (pv 11) (pa_cons (C8.pe_mt mp hr (by decide) (pv 11) (pa_cons (pv 5) (pa_cons (pe_op op_add (pv 7) (pv 8)) pa_nil))) (pa_cons (C8.pe_mt mw hr (by decide) (pv 11) (pa_cons (pv 5) pa_nil)) pa_nil)))))
      (pss_cons (ps_if (pt_cmpR (op_neM (α := List Int) hr.units (by decide))
          (pe_lc (own := [("_law_one", 13)]) (g := gName 13) (tt := tYes) rfl nd (pi_list (pv 12)) (blkOk_by (N := nChg) (sc := C8.fnScope (top 46)) (by decide +kernel)) (fun _ _ _ _ _ => pg_name (i := 13) nd rfl (.inl rfl)) (fun _ _ _ _ _ => pts_nil)
            (fun _ _ _ _ _ => pe_ix (ix_tup : IxR _ (rIxT K)) (C8.pe_c cch hr (by decide) (by rfl) (pa_cons (pv 13) (pa_cons (pe_callTy (call_list_of : CallR _ _ (rListOf K)) (by rfl) B.list PyProof.Rows.boot_list (pa_cons (pv 3) pa_nil)) pa_nil))) pe_int (fun _ _ => rfl)))
          (pe_lst (pa_cons (pv 4) (pa_cons (pv 9) (pa_cons (pv 10) pa_nil)))) (nomark _)) (pss_one (ps_ret pe_bl)) pss_nil)
      (pss_one (ps_ret (pe_and (pe_chain op_le op_le (pv 4) (pv 9) (pe_op op_add (pv 4) (pv 8))) (pe_one (pe_chain op_le op_le (pv 10) (pv 4) (pe_op op_add (pv 10) (pv 7)))))))))))))), ?_⟩
    -- cost_here, at
    refine ⟨_, rfl, _, rfl, _, rfl, n, _, _, rows, xs, rfl, L, fun c0 H1 s1 hC0 => ?_⟩
    refine ⟨_, rfl, _, rfl, ra, _, rfl, .inl (SqL.of (s1 _ _ hra0)), b, c, (rvs.length : Int), rfl, hB.mono s1, by rw [hL0.1]; omega, by rw [hL0.1]; omega, fun zi H2 i0 i1 s2 hB2 => ⟨_, _, rfl, ?_⟩⟩
    rw [hL0.1] at i1
    obtain ⟨i, rfl⟩ : ∃ i : Nat, zi = (i : Int) := ⟨zi.toNat, by omega⟩
    have hi : i < rows.length := by omega
    have L2' : LawAt H2 n (.ref ra) (.ref oa) rows xs := (L.mono s1).monoB s2 (hB.mono s1)
    obtain ⟨g, p, hgp⟩ : ∃ g p, rows[i]? = some (g, p) := ⟨rows[i].1, rows[i].2, List.getElem?_eq_getElem hi⟩
    obtain ⟨o1, o2, o3, o4⟩ := L.ok _ (List.mem_of_getElem? hgp)
    have o1 : 1 ≤ g := o1
    have o2 : g < n := o2
    have o3 : 0 ≤ p := o3
    have o4 : p ≤ maxPrice := o4
    obtain ⟨ra', rvs2, e, hra2, hL2⟩ := L2'.rws.l
    cases e
    obtain ⟨ci, hci⟩ : ∃ ci, rvs2[i]? = some ci := ⟨_, List.getElem?_eq_getElem (by rw [hL2.1]; exact hi)⟩
    obtain ⟨cc, rfl, hcc⟩ := hL2.2 i ci _ hci hgp
    -- gate, price
    refine ⟨_, rfl, _, rfl, ra, _, (i : Int), _, rfl, rfl, SqL.of hra2, at_int i rfl hci, cc, _, rfl, SqT.of hcc, rfl, _, _, rfl, _, _, rfl, rfl, ?_⟩
    -- more
    have e18 : ((10 : Int) ^ (18 : Int).toNat) = maxPrice := by decide
    refine ⟨_, rfl, 10, 18, rfl, rfl, ⟨by decide, by decide, by decide⟩, _, rfl, (10 : Int) ^ (18 : Int).toNat, p, rfl, rfl, _, 1, rfl, rfl, b, c, maxPrice - p + 1, ?_, hB2, by omega, ?_, fun m H3 m0 m1 s3 hB3 => ?_⟩
    · show [V.ref b, V.int ((10 : Int) ^ (18 : Int).toNat - p + 1)] ++ [] = _
      rw [e18]
      rfl
    · have : maxPrice = 1000000000000000000 := rfl
      omega
    have L3 : LawAt H3 n (.ref ra) (.ref oa) rows xs := L2'.monoB s3 hB2
    have s03 : SameB b H H3 := (SameB.of s1).trans (s2.trans s3)
    obtain ⟨ra', rvs3, e, hra3, hL3⟩ := L3.rws.l
    cases e
    obtain ⟨oa', e, ho3⟩ := L3.ordA
    cases e
    have ei : (i : Int) + 1 = ((i + 1 : Nat) : Int) := by omega
    have okL : OkM n (rows.take i ++ [(g, p + m)] ++ rows.drop (i + 1)) := by
      refine ((L.ok.take i).append fun x hx => ?_).append (L.ok.drop (i + 1))
      rw [List.mem_singleton] at hx
      subst hx
      exact ⟨o1, o2, by show 0 ≤ p + m; omega, by show p + m ≤ maxPrice; omega⟩
    have okS : OkM n (rows.take i ++ rows.drop (i + 1)) := (L.ok.take i).append (L.ok.drop (i + 1))
    have lenL : (rows.take i ++ [(g, p + m)] ++ rows.drop (i + 1)).length = rows.length := by
      rw [List.length_append, List.length_append, List.length_take, List.length_drop]
      show min i rows.length + 1 + (rows.length - (i + 1)) = rows.length
      omega
    have lenS : (rows.take i ++ rows.drop (i + 1)).length ≤ rows.length := by
      rw [List.length_append, List.length_take, List.length_drop]
      omega
    -- later
    refine ⟨_, rfl, _, rfl, _, rfl, (i : Int), rfl, ra, rvs3, rfl, SqL.of hra3, fun p1 np1 => newE np1 fun H4 s4 e4 => ?_⟩
    refine ⟨_, rfl, _, rfl, _, rfl, p, m, rfl, rfl, big (by show 2 ≤ 100000; decide), fun p2 np2 => newE np2 fun H5 s5 e5 => ⟨big (by show 1 ≤ 100000; decide), fun p3 np3 => newE np3 fun H6 s6 e6 => ?_⟩⟩
    rw [cut_to rvs3 i (by rw [hL3.1]; omega)] at e4
    have s56 := s5.trans s6
    refine ⟨p1, p3, _, _, rfl, rfl, s56 _ _ e4, e6, big (by rw [List.length_take, hL3.1]; show _ + 1 ≤ 100000; omega), fun p4 np4 => newE np4 fun H7 s7 e7 => ?_⟩
    have s47 := s4.trans (s56.trans s7)
    refine ⟨_, rfl, _, rfl, (i : Int), 1, rfl, rfl, _, rfl, ra, rvs3, rfl, SqL.of (s47 _ _ hra3), fun p5 np5 => newE np5 fun H8 s8 e8 => ?_⟩
    rw [ei, cut_from] at e8
    refine ⟨p4, p5, _, _, rfl, rfl, s8 _ _ e7, e8, big (by rw [List.length_append, List.length_take, List.length_drop, hL3.1]; show _ + 1 + _ ≤ 100000; omega), fun p6 np6 => newE np6 fun H9 s9 e9 => ?_⟩
    have s89 := s8.trans s9
    have s39 := s47.trans s89
    have hrow : RowAt H9 (.ref p2) (g, p + m) := ⟨p2, rfl, s89 _ _ (s7 _ _ (s6 _ _ e5))⟩
    refine ⟨_, rfl, n, _, _, _, xs, rfl, ⟨RowsL.at ((((hL3.mono s39).take i).append (RowsL.one hrow)).append ((hL3.mono s39).drop (i + 1))) e9, ⟨oa, rfl, s39 _ _ ho3⟩, okL, L.n1, L.n12, by rw [lenL]; exact nl, L.ord, L.ne⟩, fun cl H10 s10 hCl => ?_⟩
    have s3a := s39.trans s10
    -- less
    refine ⟨_, rfl, _, rfl, _, rfl, (i : Int), rfl, ra, rvs3, rfl, SqL.of (s3a _ _ hra3), fun q1 nq1 => newE nq1 fun H11 s11 e11 => ?_⟩
    refine ⟨_, rfl, _, rfl, (i : Int), 1, rfl, rfl, _, rfl, ra, rvs3, rfl, SqL.of (s11 _ _ (s3a _ _ hra3)), fun q2 nq2 => newE nq2 fun H12 s12 e12 => ?_⟩
    rw [cut_to rvs3 i (by rw [hL3.1]; omega)] at e11
    rw [ei, cut_from] at e12
    refine ⟨q1, q2, _, _, rfl, rfl, s12 _ _ e11, e12, big (by rw [List.length_take, List.length_drop, hL3.1]; omega), fun q3 nq3 => newE nq3 fun H13 s13 e13 => ?_⟩
    have s3b := s3a.trans (s11.trans (s12.trans s13))
    refine ⟨_, rfl, n, _, _, _, xs, rfl, ⟨RowsL.at (((hL3.mono s3b).take i).append ((hL3.mono s3b).drop (i + 1))) e13, ⟨oa, rfl, s3b _ _ ho3⟩, okS, L.n1, L.n12, by omega, L.ord, L.ne⟩, fun cs H14 s14 hCs => ?_⟩
    have s3c := s3b.trans s14
    -- schedule
    refine ⟨_, rfl, _, rfl, ra, rvs3, rfl, .inl (SqL.of (s3c _ _ hra3)), fun q4 nq4 => newE nq4 fun H15 s15 e15 => fun x dx nx ndx ne => make_ok nx ndx ne (RowsL.at (hL3.mono (s3c.trans s15)) e15) L.ok (by omega) L.n12 (by omega) fun H16 s16 hS => ?_⟩
    have s3d := s3c.trans (s15.trans s16)
    -- some
    obtain ⟨sa, sdx, sl, e, hsa, _⟩ := id hS
    cases e
    refine ⟨_, rfl, _, rfl, _, sdx, _, rfl, hsa, flds_no n sl (by decide +kernel) (by decide +kernel), _, rfl, _, rfl, _, rfl, p, m, rfl, rfl, n, rows, _, i, g, p, p + m, rfl, hS, hgp, by omega, by omega, L.ok, by omega, L.n12, by omega, fun v2 H17 s17 hS2 => ?_⟩
    refine ⟨_, rfl, _, sdx, _, rfl, s17 _ _ hsa, flds_no n sl (by decide +kernel) (by decide +kernel), _, rfl, n, rows, _, i, rfl, hS.mono s17, hi, L.ok, by omega, L.n12, by omega, fun v3 H18 s18 hS3 => ⟨big (by show 3 ≤ 100000; decide), fun q5 nq5 => newE nq5 fun H19 s19 e19 => ?_⟩⟩
    have s3e := s3d.trans (s17.trans (s18.trans s19))
    have sch : ∀ (k : Nat) v, [V.ref x, v2, v3][k]? = some v → ∃ rs cc, SchAt C H19 v n rs ∧ OkM n rs ∧ rs.length ≤ 400 ∧ (∀ c', Cost n (dem xs) rs c' → c' = cc) ∧ cc = ([c0, cl, cs] : List Int).getD k 0 := by
      intro k v hk
      match k, hk with
      | 0, hk =>
        cases hk
        exact ⟨rows, c0, hS.mono (s17.trans (s18.trans s19)), L.ok, by omega, fun c' h => h.uniq hC0, rfl⟩
      | 1, hk =>
        cases hk
        exact ⟨_, cl, hS2.mono (s18.trans s19), okL, by omega, fun c' h => h.uniq hCl, rfl⟩
      | 2, hk =>
        cases hk
        exact ⟨_, cs, hS3.mono s19, okS, by omega, fun c' h => h.uniq hCs, rfl⟩
      | k + 3, hk => cases hk
    -- the costs of the three objects
    refine ⟨_, rfl, q5, rfl, ⟨_, SqL.of e19⟩, fun D0 nD => ?_⟩
    refine lcList (K := K) (a := q5) (ys := [V.ref x, v2, v3]) nD (fun k v _ => v = V.int (([c0, cl, cs] : List Int).getD k 0)) (by show 3 ≤ 90000; decide) (SqL.of e19) (fun k v H20 Kt hv s20 hD kt => ?_) fun ys H20 s20 hD hyl hRy => ?_
    · obtain ⟨rs, c', hSk, okk, lenk, hck, hc'⟩ := sch k v hv
      refine ⟨rfl, _, rfl, _, rfl, oa, _, rfl, .inl (SqL.of (s20 _ _ (s3e _ _ ho3))), fun q6 nq6 => newE nq6 fun H21 s21 e21 => ?_⟩
      refine ⟨n, rs, xs, ⟨⟨_, _, rfl, hSk.mono (s20.trans s21), q6, rfl, e21⟩, okk, by omega, L.n12, lenk, L.ord, L.ne⟩, fun bb x0 x1 x3 x4 c'' H22 s22 hC'' hbb => ?_⟩
      refine ⟨bb, _, 2, .int c'', rfl, rfl, SqT.of hbb, rfl, kt _ _ (s21.trans s22) fun _ _ => ?_⟩
      rw [hck c'' hC'', hc']
    have hys : ys = ([c0, cl, cs] : List Int).map V.int := by
      have := ext_of (f := fun k => V.int (([c0, cl, cs] : List Int).getD k 0)) hyl hRy
      rw [this]
      rfl
    subst hys
    refine ⟨_, rfl, _, rfl, _, rfl, big (by show 3 ≤ 100000; decide), fun q7 nq7 => newE nq7 fun H23 s23 e23 => ?_⟩
    refine ⟨[c0, cl, cs], [c0, cl, cs], dp_intsL (s23 _ _ hD), dp_intsL e23, _, rfl, ?_⟩
    rw [decide_eq_false (fun z => z rfl)]
    refine iteF ?_
    -- the laws
    obtain ⟨k1, k2, k3, k4⟩ := changed L.ok hgp m0 hC0 hCl hCs
    have s3f := s3e.trans (s20.trans s23)
    refine ⟨_, rfl, _, rfl, c0, cl, rfl, rfl, _, rfl, ?_⟩
    rw [decide_eq_true k1]
    refine iteT ⟨_, rfl, _, rfl, c0, m, rfl, rfl, cl, c0 + m, rfl, rfl, true, ?_, iteT ?_⟩
    · show V.bl (decide (cl ≤ c0 + m)) = _
      rw [decide_eq_true k2]
    refine ⟨_, rfl, _, rfl, cs, c0, rfl, rfl, _, rfl, ?_⟩
    rw [decide_eq_true k3]
    refine iteT ⟨_, rfl, _, rfl, cs, p, rfl, rfl, c0, cs + p, rfl, rfl, ?_⟩
    show Q (V.bl (decide (c0 ≤ cs + p))) H23
    rw [decide_eq_true k4]
    exact q H23 (s03.trans (.of s3f)) (hB3.mono s3f)
end
end K57
namespace K57
open PySem PySem.Spec PyProof.Rows L2
theorem rev_ne {n : Nat} (h : 2 ≤ n) : (List.range n).reverse ≠ List.range n := fun e => by
  have h1 : (List.range n).reverse[0]? = (List.range n)[0]? := by rw [e]
  rw [List.getElem?_reverse (by rw [List.length_range]; omega), List.length_range, List.getElem?_range (by omega), List.getElem?_range (by omega)] at h1
  have := Option.some.inj h1
  omega
theorem cast_inj {xs ys : List Nat} (h : xs.map (fun (x : Nat) => (x : Int)) = ys.map (fun (x : Nat) => (x : Int))) : xs = ys := by
  induction xs generalizing ys with
  | nil =>
    cases ys with
    | nil => rfl
    | cons y r => cases h
  | cons x r ih =>
    cases ys with
    | nil => cases h
    | cons y s =>
      rw [List.map_cons, List.map_cons] at h
      injection h with h1 h2
      rw [ih h2, Int.ofNat.inj h1]
/-- the prices below 1,000 -/
def small (rows : List Row) : List Row := rows.map fun x => (x.1, x.2 % 1000)
theorem small_ok {n : Nat} {rows : List Row} (h : OkM n rows) : OkM n (small rows) := fun x hx => by
  obtain ⟨y, hy, rfl⟩ := List.mem_map.mp hx
  have := h y hy
  refine ⟨this.1, this.2.1, Int.emod_nonneg _ (by decide), ?_⟩
  have h1 : y.2 % 1000 < 1000 := Int.emod_lt_of_pos _ (by decide)
  have h2 : maxPrice = 1000000000000000000 := rfl
  show y.2 % 1000 ≤ maxPrice
  omega
theorem great_ok {n : Nat} {rows : List Row} (h : OkM n rows) {t : Int} (h0 : 1 ≤ t) (h1 : t ≤ 1000000000000000) : OkM n ((small rows).map fun x => (x.1, x.2 * t)) := fun x hx => by
  obtain ⟨y, hy, rfl⟩ := List.mem_map.mp hx
  have o := small_ok h y hy
  obtain ⟨z, hz, e⟩ := List.mem_map.mp hy
  have y1 : y.2 < 1000 := by
    rw [← e]
    exact Int.emod_lt_of_pos _ (by decide)
  refine ⟨o.1, o.2.1, Int.mul_nonneg o.2.2.1 (by omega), ?_⟩
  show y.2 * t ≤ maxPrice
  have h2 : y.2 * t ≤ 999 * t := Int.mul_le_mul_of_nonneg_right (by omega) (by omega)
  have h3 : maxPrice = 1000000000000000000 := rfl
  omega
section
variable {P : Program} {w : World} {K : PySem.W.Frag} {mg : Str → Option Value} {base : Heap} {C : Addr}
abbrev nLaw : List Str := ["_law_script", "_law_bag_here", "_law_turn", "_law_places_here", "_law_rows", "_law_order_here", "_law_small", "_law_times", "_law_gate", "_law_price_here", "_law_great"]
def spLaw (K : PySem.W.Frag) : Sp := fun vs H Q _ => ∃ (a : Addr) (ns : List Int), vs = [.ref a] ∧ SqL K H a (ns.map V.int) ∧ ns.length ≤ 63 ∧ ∀ H', Q (.bl true) H'
theorem ok_law {f : Addr} {fd : FuncData} (F : C8.Fun K "law" "law" (top 47) f fd) (B : Bare mg) (cb : C8.Cal P w K mg base 1 "_law_bag" (spBag K) []) (ct : C8.Cal P w K mg base 1 "_law_take" spTake [])
    (cpl : C8.Cal P w K mg base 2 "_law_places" spPl []) (cmo : C8.Cal P w K mg base 2 "_law_most" spMost []) (ccm : C8.Cal P w K mg base 3 "_law_comparisons" spComp []) (cor : C8.Cal P w K mg base 2 "_law_order" spOrder [])
    (c1 : C8.Cal P w K mg base 8 "_law_one_right" spOne []) (cco : C8.Cal P w K mg base 7 "_law_cost" spCost []) (cch : C8.Cal P w K mg base 9 "_law_changed_right" spChg []) : FnOk P w K mg base CX0 10 f fd ["_law_script"] (spLaw K) := by
  have nd : (nLaw : List Str).Nodup := by decide +kernel
  refine C8.fn0 (N := nLaw) F (C8.fnScope_by (by decide +kernel)) (fun vs H Q E h => ?_) (fun cdv A outer s H vs Q E hr h => ?_)
  · obtain ⟨a, ns, rfl, _⟩ := h
    rfl
  · obtain ⟨a, ns, rfl, hS, hn, q⟩ := h
    refine ⟨_, pss_cons (ps_set (i := 1) nd rfl (.inl rfl) (C8.pe_c cb hr (by decide) (by rfl) (pa_cons (pv 0) pa_nil)))
      (pss_cons (ps_for PassesOwn.never rfl (pi_range1 (by rfl) B.range (pa_cons pe_int pa_nil)) (pg_name (i := 2) nd rfl (.inl rfl))
        (pss_cons (ps_set (i := 3) nd rfl (.inl rfl) (C8.pe_c cpl hr (by decide) (by rfl) (pa_cons (pv 1) (pa_cons pe_int (pa_cons pe_int pa_nil)))))
        (pss_cons (ps_par (i := 4) (j := 5) rfl nd rfl rfl (by decide) rfl rfl (pa_cons
            (C8.pe_c ccm hr (by decide) (by rfl) (pa_cons (pv 1) (pa_cons (pv 3) (pa_cons (C8.pe_c cmo hr (by decide) (by rfl) (pa_cons (pv 1) (pa_cons pe_int (pa_cons pe_int pa_nil)))) pa_nil)))) (pa_cons
            (C8.pe_c cor hr (by decide) (by rfl) (pa_cons (pv 1) (pa_cons (pv 3) pa_nil))) pa_nil)) (by rfl))
        (C8.pss_cut (ps_if (pt_cmpR (op_eqM (α := List Int) hr.units (by decide)) (pv 5) (pe_listRg rfl (by rfl) B.list (prg_1 (by rfl) B.range (pv 3))) (nomark _)) (pss_one (ps_set (i := 5) nd rfl (.inl rfl) (pe_revL (pv 5)))) pss_nil)
        (pss_cons (ps_if (pt_not (pt_val (C8.pe_c c1 hr (by decide) (by rfl) (pa_cons (pv 3) (pa_cons (pv 4) (pa_cons (pv 5) pa_nil)))))) (pss_one (ps_ret pe_bl)) pss_nil)
        (pss_cons (ps_asg (pe_tup (pa_cons
              (pe_lc (own := [("_law_gate", 8), ("_law_price_here", 9)]) (g := gTup K 2 (gCons (gName 8) (gCons (gName 9) gNil))) (tt := tYes) rfl nd (pi_list (pv 4)) (blkOk_by (N := nLaw) (sc := C8.fnScope (top 47)) (by decide +kernel))
                (fun _ _ _ _ _ => pg_tup rfl (pgs_cons (pg_name (i := 8) nd rfl (.inl rfl)) (pgs_cons (pg_name (i := 9) nd rfl (.inl rfl)) pgs_nil))) (fun _ _ _ _ _ => pts_nil)
                (fun _ _ _ _ _ => pe_tup (pa_cons (pv 8) (pa_cons (pe_op op_mod (pv 9) pe_int) pa_nil)))) (pa_cons
              (pe_op op_add pe_int (C8.pe_c ct hr (by decide) (by rfl) (pa_cons (pv 1) (pa_cons (pe_op op_pow pe_int pe_int) pa_nil)))) pa_nil)))
            (pg_tup rfl (pgs_cons (pg_name (i := 6) nd rfl (.inl rfl)) (pgs_cons (pg_name (i := 7) nd rfl (.inr rfl)) pgs_nil))))
        (pss_cons (ps_setLc (i := 10) (own := [("_law_gate", 8), ("_law_price_here", 9)]) (g := gTup K 2 (gCons (gName 8) (gCons (gName 9) gNil))) (tt := tYes) rfl nd rfl rfl (sw_true rfl rfl rfl (by decide +kernel)) (pi_list (pv 6))
            (blkOk_by (N := nLaw) (sc := C8.fnScope (top 47)) (by decide +kernel))
            (fun _ _ _ _ _ => pg_tup rfl (pgs_cons (pg_name (i := 8) nd rfl (.inl rfl)) (pgs_cons (pg_name (i := 9) nd rfl (.inl rfl)) pgs_nil))) (fun _ _ _ _ _ => pts_nil)
            (fun _ _ _ _ _ => pe_tup (pa_cons (pv 8) (pa_cons (pe_op op_mul (pv 9) (pv 7)) pa_nil))))
        (pss_cons (ps_if (pt_cmpR op_ne (C8.pe_c cco hr (by decide) (by rfl) (pa_cons (pv 3) (pa_cons (pv 10) (pa_cons (pv 5) pa_nil)))) (pe_op op_mul (C8.pe_c cco hr (by decide) (by rfl) (pa_cons (pv 3) (pa_cons (pv 6) (pa_cons (pv 5) pa_nil)))) (pv 7)) (nomark _)) (pss_one (ps_ret pe_bl)) pss_nil)
        (pss_one (ps_if (PW.pt (pw_and (pt_cmpR (op_neM (α := List (Int × Int)) hr.units (by decide)) (pv 4) (pe_lst pa_nil) (nomark _))
            (pw_and1 (pt_not (pt_val (C8.pe_c cch hr (by decide) (by rfl) (pa_cons (pv 1) (pa_cons (pv 3) (pa_cons (pv 4) (pa_cons (pv 5) pa_nil)))))))))) (pss_one (ps_ret pe_bl)) pss_nil))))))))))
      (pss_one (ps_ret pe_bl))), ?_⟩
    -- bag
    refine ⟨_, rfl, a, ns, rfl, hS, by omega, fun b c H1 s1 hB1 => ?_⟩
    refine ⟨2, rfl, by decide, by decide, ?_⟩
    refine for_range (lo := 0) (n := 2) (fun i σ H' => ∃ y2 y3 y4 y5 y6 y7 y10, σ = [some (.ref a), some (.ref b), y2, y3, y4, y5, y6, y7, none, none, y10] ∧ BagAt H' b c) ⟨none, none, none, none, none, none, none, rfl, hB1⟩ ?_ ?_
    · rintro i σ H2 hi ⟨y2, y3, y4, y5, y6, y7, y10, rfl, hB2⟩
      -- places
      refine ⟨_, rfl, b, c, 2, 12, rfl, hB2, by decide, by decide, fun zn H3 z0 z1 s3 hB3 => ?_⟩
      obtain ⟨n, rfl⟩ : ∃ n : Nat, zn = (n : Int) := ⟨zn.toNat, by omega⟩
      have n1 : 2 ≤ n := by omega
      have n12 : n ≤ 12 := by omega
      -- rows, order
      refine ⟨_, rfl, _, rfl, _, rfl, b, c, 60, 200, rfl, hB3, fun m H4 hm s4 hB4 => ⟨b, c, n, m, rfl, hB4, n1, n12, by omega, by omega, fun vr rows H5 s5 hB5 hR5 ok hl => ?_⟩⟩
      refine ⟨_, rfl, _, rfl, b, c, n, rfl, hB5, by omega, n12, fun vo xs H6 s6 hB6 hO6 o => ⟨_, _, rfl, ?_⟩⟩
      have hR6 := hR5.monoB s6 hB5
      -- if order == list(range(places))
      refine ⟨fun σ' H' => ∃ (vo' : V) (xs' : List Nat), σ' = [some (.ref a), some (.ref b), some (.int (0 + (i : Int))), some (.int (n : Int)), some vr, some vo', y6, y7, none, none, y10] ∧ BagAt H' b c ∧ LawAt H' n vr vo' rows xs', ?_, ?_⟩
      · obtain ⟨oa, rfl, hoa⟩ := id hO6
        refine ⟨_, rfl, _, rfl, n, rfl, RgOk.of_le (by decide) (by omega) (by decide) (by omega), fun p np => newE np fun H7 s7 e7 => ?_⟩
        rw [rg_nat] at e7
        have h7 := s7 _ _ hoa
        refine ⟨xs.map fun (x : Nat) => (x : Int), (List.range n).map fun (x : Nat) => (x : Int), dp_intsL (by rw [← nV_ints]; exact h7), dp_intsL (by rw [← nV_ints]; exact e7), _, rfl, ite2 (fun he => ?_) (fun he => ?_)⟩
        · have ex : xs = List.range n := cast_inj (of_decide_eq_true he)
          subst ex
          refine ⟨_, rfl, oa, _, rfl, SqL.of h7, fun p2 np2 => newE np2 fun H8 s8 e8 => ?_⟩
          rw [← List.map_reverse] at e8
          have s78 := s7.trans s8
          exact ⟨_, _, rfl, hB6.mono s78, ⟨hR6.mono s78, ⟨p2, rfl, e8⟩, ok, n1, n12, hl, order_of_perm (List.reverse_perm _), rev_ne n1⟩⟩
        · refine ⟨_, xs, rfl, hB6.mono s7, ⟨hR6.mono s7, ⟨oa, rfl, h7⟩, ok, n1, n12, hl, o, fun z => he (decide_eq_true ?_)⟩⟩
          rw [z]
      · rintro σ7 H7 ⟨vo', xs', rfl, hB7, L⟩
        -- if not one_right
        refine ⟨_, rfl, _, rfl, _, rfl, n, vr, vo', rows, xs', rfl, L, fun H8 s8 => ⟨true, rfl, iteF ?_⟩⟩
        have L8 := L.mono s8
        have hB8 := hB7.mono s8
        obtain ⟨ra, rvs, rfl, hra, hvl, hrow⟩ := L8.rws.row
        -- small, times
        refine ⟨_, rfl, ra, rfl, ⟨_, SqL.of hra⟩, fun D0 nD => ?_⟩
        refine lcList (K := K) (a := ra) (ys := rvs) nD (fun i v H' => ∀ x, rows[i]? = some x → RowAt H' v (x.1, x.2 % 1000)) (by omega) (SqL.of hra) (fun i x H9 Kt hx s9 hD kt => ?_) fun ys H9 s9 hD hyl hRy => ?_
        · have hi : i < rows.length := by
            have := (List.getElem?_eq_some_iff.mp hx).1
            omega
          obtain ⟨cc, ic, hc⟩ := hrow i _ (List.getElem?_eq_getElem hi)
          have ex : x = .ref cc := by
            rw [ic] at hx
            exact (Option.some.inj hx).symm
          subst ex
          refine ⟨cc, _, rfl, SqT.of (s9 _ _ hc), rfl, _, _, rfl, _, _, rfl, rfl, rfl, ?_⟩
          refine ⟨_, rfl, _, rfl, rows[i].2, 1000, rfl, rfl, (by show (0 : Int) < 1000; decide), big (by show 2 ≤ 100000; decide), fun p np => newE np fun H10 s10 e10 => ?_⟩
          refine kt _ _ s10 fun H11 sb x hx3 => ?_
          rw [List.getElem?_eq_getElem hi] at hx3
          cases hx3
          exact ⟨p, rfl, sb _ _ (ne_new hD np) e10⟩
        have hSm : RowsAt H9 (.ref D0) (small rows) := by
          refine ⟨D0, ys, rfl, hD, by rw [hyl, hvl]; unfold small; rw [List.length_map], fun i c x h1 h2 => ?_⟩
          unfold small at h2
          rw [List.getElem?_map] at h2
          cases e : rows[i]? with
          | none =>
            rw [e] at h2
            cases h2
          | some y =>
            rw [e] at h2
            cases h2
            exact hRy i c h1 y e
        have e15 : ((10 : Int) ^ (15 : Int).toNat) = 1000000000000000 := by decide
        have hB9 := hB8.mono s9
        have L9 := L8.mono s9
        refine ⟨_, rfl, 10, 15, rfl, rfl, ⟨by decide, by decide, by decide⟩, b, c, 1000000000000000, ?_, hB9, by decide, by decide, fun t H10 t0 t1 s10 hB10 => ⟨1, t, rfl, rfl, big (by show 2 ≤ 100000; decide), fun pt npt => newE npt fun H11 s11 e11 => ?_⟩⟩
        · show [V.ref b, V.int ((10 : Int) ^ (15 : Int).toNat)] ++ [] = _
          rw [e15]
          rfl
        refine ⟨pt, _, rfl, SqT.of e11, rfl, _, _, rfl, _, _, rfl, rfl, ?_⟩
        have hSm11 : RowsAt H11 (.ref D0) (small rows) := (hSm.monoB s10 hB9).mono s11
        have L11 : LawAt H11 n (.ref ra) vo' rows xs' := (L9.monoB s10 hB9).mono s11
        have hB11 := hB10.mono s11
        -- great
        have slen : (small rows).length = rows.length := List.length_map ..
        obtain ⟨sa, svs, e, hsa, hsl, hsrow⟩ := hSm11.row
        cases e
        refine ⟨_, rfl, D0, rfl, ⟨_, SqL.of hsa⟩, fun D1 nD1 => ?_⟩
        refine lcList (K := K) (a := D0) (ys := svs) nD1 (fun i v H' => ∀ x, (small rows)[i]? = some x → RowAt H' v (x.1, x.2 * (1 + t))) (by omega) (SqL.of hsa) (fun i x H12 Kt hx s12 hD1 kt => ?_) fun zs H12 s12 hD1 hzl hRz => ?_
        · have hi : i < (small rows).length := by
            have := (List.getElem?_eq_some_iff.mp hx).1
            omega
          obtain ⟨cc, ic, hc⟩ := hsrow i _ (List.getElem?_eq_getElem hi)
          have ex : x = .ref cc := by
            rw [ic] at hx
            exact (Option.some.inj hx).symm
          subst ex
          refine ⟨cc, _, rfl, SqT.of (s12 _ _ hc), rfl, _, _, rfl, _, _, rfl, rfl, rfl, ?_⟩
          refine ⟨_, rfl, _, rfl, _, rfl, (small rows)[i].2, 1 + t, rfl, rfl, .inr ⟨by omega, by omega⟩, big (by show 2 ≤ 100000; decide), fun p np => newE np fun H13 s13 e13 => ?_⟩
          refine kt _ _ s13 fun H14 sb x hx3 => ?_
          rw [List.getElem?_eq_getElem hi] at hx3
          cases hx3
          exact ⟨p, rfl, sb _ _ (ne_new hD1 np) e13⟩
        have hGr : RowsAt H12 (.ref D1) ((small rows).map fun x => (x.1, x.2 * (1 + t))) := by
          refine ⟨D1, zs, rfl, hD1, by rw [hzl, hsl, List.length_map], fun i c x h1 h2 => ?_⟩
          rw [List.getElem?_map] at h2
          cases e : (small rows)[i]? with
          | none =>
            rw [e] at h2
            cases h2
          | some y =>
            rw [e] at h2
            cases h2
            exact hRz i c h1 y e
        have L12 := L11.mono s12
        have hB12 := hB11.mono s12
        -- cost(great) != cost(small) * times
        refine ⟨_, rfl, _, rfl, _, rfl, n, _, vo', _, xs', rfl, ⟨hGr, L12.ordA, great_ok ok (by omega) (by omega), n1, n12, by rw [List.length_map, slen]; exact hl, L.ord, L.ne⟩, fun cg H13 s13 hCg => ?_⟩
        refine ⟨_, rfl, _, rfl, _, rfl, n, _, vo', _, xs', rfl, ⟨(hSm11.mono s12).mono s13, (L12.mono s13).ordA, small_ok ok, n1, n12, by rw [slen]; exact hl, L.ord, L.ne⟩, fun cs H14 s14 hCs => ?_⟩
        refine ⟨_, rfl, cs, 1 + t, rfl, rfl, .inr ⟨by omega, by omega⟩, rfl, _, rfl, ?_⟩
        have ecg : cg = cs * (1 + t) := hCg.uniq (hCs.scale (by omega))
        have hB14 := (hB12.mono s13).mono s14
        have L14 := (L12.mono s13).mono s14
        refine iteNS (congrArg V.int ecg) ?_
        -- if rows != [] and not changed_right
        obtain ⟨ra', rvs14, e, hra14, hL14⟩ := L14.rws.l
        cases e
        refine ⟨_, rfl, Nat.zero_le _, fun p15 np15 => newE np15 fun H15 s15 e15 => ?_⟩
        have L15 := L14.mono s15
        have hB15 := hB14.mono s15
        refine ⟨rowI rows, [], .lst (SqL.of (s15 _ _ hra14)) (dp_rows rows rvs14 (hL14.mono s15)), .lst (SqL.of e15) .nil, _, rfl, ?_⟩
        by_cases hne : rows = []
        · subst hne
          rw [decide_eq_false (fun z => z rfl)]
          refine iteF ?_
          refine iteF ?_
          exact ⟨_, _, _, _, _, _, _, rfl, hB15⟩
        · have hne2 : rowI rows ≠ [] := fun z => hne (List.map_eq_nil_iff.mp z)
          rw [decide_eq_true hne2]
          refine iteT ?_
          refine ⟨_, rfl, _, rfl, _, rfl, _, rfl, b, c, n, _, vo', rows, xs', rfl, hB15, L15, hne, fun H16 s16 hB16 => ⟨true, rfl, iteF ?_⟩⟩
          exact ⟨_, _, _, _, _, _, _, rfl, hB16⟩
    · rintro σ H' ⟨y2, y3, y4, y5, y6, y7, y10, rfl, hB'⟩
      exact q H'
end
end K57
namespace K57
open PySem PySem.Spec PyProof.Rows L2
section
variable {K : PySem.W.Frag} {mg : Str → Option Value} {h : Heap}
/-- a def as the top left it -/
theorem def_mk {x : Str} {st : Stmt} {ps : List Str} {f : Addr} {oc : Value} {od an : Option Addr} {sl : Array (Option Value)} {kV doc pm cdv ct : Value} (X : K.In h) (G : h.Ns mainGlobals mg)
    (a : PySem.W.nsIn K mainGlobals x = some (some (.ref f))) (l : K.lookup f = some ⟨oc, od, .func (PySem.W.fnOf x x (C8.fnArgs st) (C8.fnBody st) (C8.fnScope st) .none kV doc pm an cdv ct), sl⟩) (c : PySem.W.codeIn K cdv x = true) (k : PySem.W.keepIn K (.ref f) = true)
    (b : ∀ (kV doc pm : Value) (an : Option Addr) (cdv ct : Value) (us : List Value), us.length = ps.length → bindArgs (PySem.W.fnOf x x (C8.fnArgs st) (C8.fnBody st) (C8.fnScope st) .none kV doc pm an cdv ct) ⟨us, []⟩ = pure (ps.zip us)) : DefIn K mg x st ps := by
  have F : C8.Fun K x x st f (PySem.W.fnOf x x (C8.fnArgs st) (C8.fnBody st) (C8.fnScope st) .none kV doc pm an cdv ct) := ⟨oc, od, .none, kV, doc, pm, an, cdv, ct, sl, rfl, l, c⟩
  exact ⟨f, _, ⟨F, PySem.W.mg_of X G a, k⟩, F.binds rfl b⟩
theorem meth_mk {C : Addr} {m qual : Str} {st : Stmt} {ps : List Str} {f : Addr} {oc : Value} {od an : Option Addr} {sl : Array (Option Value)} {kV doc pm cdv ct : Value}
    (a : PySem.W.findIn K (.ref C) m = some (some (.ref f))) (i : PySem.W.isFn K (.ref f) = true) (l : K.lookup f = some ⟨oc, od, .func (PySem.W.fnOf m qual (C8.fnArgs st) (C8.fnBody st) (C8.fnScope st) .none kV doc pm an cdv ct), sl⟩) (c : PySem.W.codeIn K cdv qual = true) (k : PySem.W.keepIn K (.ref f) = true)
    (b : ∀ (kV doc pm : Value) (an : Option Addr) (cdv ct : Value) (us : List Value), us.length = ps.length → bindArgs (PySem.W.fnOf m qual (C8.fnArgs st) (C8.fnBody st) (C8.fnScope st) .none kV doc pm an cdv ct) ⟨us, []⟩ = pure (ps.zip us)) : MethIn K C m qual st ps := by
  have F : C8.Fun K m qual st f (PySem.W.fnOf m qual (C8.fnArgs st) (C8.fnBody st) (C8.fnScope st) .none kV doc pm an cdv ct) := ⟨oc, od, .none, kV, doc, pm, an, cdv, ct, sl, rfl, l, c⟩
  exact ⟨f, _, ⟨a, i, k⟩, F, F.binds rfl b⟩
theorem init_mk {C : Addr} {qual : Str} {st : Stmt} {ps : List Str} {f : Addr} {oc : Value} {od an : Option Addr} {sl : Array (Option Value)} {kV doc pm cdv ct : Value}
    (mk : PySem.W.makesIn K C = true) (kc : PySem.W.keepIn K (.ref C) = true)
    (a : PySem.W.findIn K (.ref C) "__init__" = some (some (.ref f))) (i : PySem.W.isFn K (.ref f) = true) (l : K.lookup f = some ⟨oc, od, .func (PySem.W.fnOf "__init__" qual (C8.fnArgs st) (C8.fnBody st) (C8.fnScope st) .none kV doc pm an cdv ct), sl⟩) (c : PySem.W.codeIn K cdv qual = true)
    (b : ∀ (kV doc pm : Value) (an : Option Addr) (cdv ct : Value) (us : List Value), us.length = ps.length → bindArgs (PySem.W.fnOf "__init__" qual (C8.fnArgs st) (C8.fnBody st) (C8.fnScope st) .none kV doc pm an cdv ct) ⟨us, []⟩ = pure (ps.zip us)) : InitIn K C qual st ps := by
  have F : C8.Fun K "__init__" qual st f (PySem.W.fnOf "__init__" qual (C8.fnArgs st) (C8.fnBody st) (C8.fnScope st) .none kV doc pm an cdv ct) := ⟨oc, od, .none, kV, doc, pm, an, cdv, ct, sl, rfl, l, c⟩
  exact ⟨f, _, ⟨mk, a, i, kc⟩, F, F.binds rfl b⟩
theorem prop_mk {C p : Addr} {m qual : Str} {st : Stmt} {ps : List Str} {f : Addr} {oc : Value} {od an : Option Addr} {sl : Array (Option Value)} {kV doc pm cdv ct : Value} {rest : List Value}
    (a : PySem.W.findIn K (.ref C) m = some (some (.ref p))) (g : PySem.W.specialIn K (.ref p) "__get__" = some (some (.builtin "property.__get__"))) (t : PySem.W.takesIn K (.ref p) = some true) (r : PySem.W.recIn K p "property" = some (.ref f :: rest))
    (l : K.lookup f = some ⟨oc, od, .func (PySem.W.fnOf m qual (C8.fnArgs st) (C8.fnBody st) (C8.fnScope st) .none kV doc pm an cdv ct), sl⟩) (c : PySem.W.codeIn K cdv qual = true)
    (b : ∀ (kV doc pm : Value) (an : Option Addr) (cdv ct : Value) (us : List Value), us.length = ps.length → bindArgs (PySem.W.fnOf m qual (C8.fnArgs st) (C8.fnBody st) (C8.fnScope st) .none kV doc pm an cdv ct) ⟨us, []⟩ = pure (ps.zip us)) : PropIn K C m qual st ps := by
  have F : C8.Fun K m qual st f (PySem.W.fnOf m qual (C8.fnArgs st) (C8.fnBody st) (C8.fnScope st) .none kV doc pm an cdv ct) := ⟨oc, od, .none, kV, doc, pm, an, cdv, ct, sl, rfl, l, c⟩
  exact ⟨p, f, _, ⟨a, g, t, ⟨rest, r⟩⟩, F, F.binds rfl b⟩
end
/-- the class, whole -/
structure ClassIn (K : PySem.W.Frag) (mg : Str → Option Value) (C : Addr) : Prop where
  name : mg "Schedule" = some (.ref C)
  cl : Cl K C
  init : InitIn K C "Schedule.__init__" (kls 0) ["self", "places", "comparisons"]
  places : PropIn K C "places" "Schedule.places" (kls 2) ["self"]
  comparisons : MethIn K C "comparisons" "Schedule.comparisons" (kls 3) ["self"]
  with_rows : MethIn K C "with_rows" "Schedule.with_rows" (kls 6) ["self", "rows"]
  need : MethIn K C "need_comparison" "Schedule.need_comparison" (kls 8) ["self", "at"]
  without : MethIn K C "without" "Schedule.without" (kls 9) ["self", "at"]
  priced : MethIn K C "priced" "Schedule.priced" (kls 10) ["self", "at", "price"]
/-- the program's defs -/
structure ProgIn (K : PySem.W.Frag) (mg : Str → Option Value) : Prop where
  is_integer : DefIn K mg "is_integer" (top 5) ["thing"]
  is_between : DefIn K mg "is_between" (top 6) ["thing", "low", "high"]
  is_price : DefIn K mg "is_price" (top 7) ["thing"]
  is_comparison : DefIn K mg "is_comparison" (top 8) ["thing", "places"]
  demands : DefIn K mg "demands" (top 10) ["order"]
  first_prices : DefIn K mg "first_prices" (top 12) ["places", "k", "steps"]
  least_of : DefIn K mg "least_of" (top 13) ["prices"]
  column_after : DefIn K mg "column_after" (top 14) ["prices", "gate", "price"]
  walk_prices : DefIn K mg "walk_prices" (top 15) ["places", "comparisons", "k", "steps"]
  walk_misses : DefIn K mg "walk_misses" (top 16) ["comparisons", "found", "column", "r"]
  least_spoil : DefIn K mg "least_spoil" (top 17) ["places", "comparisons", "table"]
  with_unit_prices : DefIn K mg "with_unit_prices" (top 18) ["comparisons"]
  fewest_spoil : DefIn K mg "fewest_spoil" (top 20) ["schedule", "table"]
  borne_of : DefIn K mg "borne_of" (top 21) ["schedule", "spoil"]
  borne : DefIn K mg "borne" (top 22) ["schedule", "order"]
  spoiling : DefIn K mg "spoiling" (top 23) ["schedule", "order"]
  cheapest : DefIn K mg "cheapest" (top 25) ["schedule", "order"]
/-- the law's defs -/
structure LawIn (K : PySem.W.Frag) (mg : Str → Option Value) : Prop where
  bag : DefIn K mg "_law_bag" (top 35) ["_law_script"]
  take : DefIn K mg "_law_take" (top 36) ["_law_bag_here", "_law_many"]
  places : DefIn K mg "_law_places" (top 37) ["_law_bag_here", "_law_least", "_law_most_here"]
  gates : DefIn K mg "_law_gates" (top 38) ["_law_bag_here", "_law_places_here", "_law_most_here"]
  price : DefIn K mg "_law_price" (top 39) ["_law_bag_here"]
  comparisons : DefIn K mg "_law_comparisons" (top 40) ["_law_bag_here", "_law_places_here", "_law_most_here"]
  order : DefIn K mg "_law_order" (top 41) ["_law_bag_here", "_law_places_here"]
  gates_of : DefIn K mg "_law_gates_of" (top 42) ["_law_rows"]
  most : DefIn K mg "_law_most" (top 43) ["_law_bag_here", "_law_most_here", "_law_greatest"]
  cost : DefIn K mg "_law_cost" (top 44) ["_law_places_here", "_law_rows", "_law_order_here"]
  one_right : DefIn K mg "_law_one_right" (top 45) ["_law_places_here", "_law_rows", "_law_order_here"]
  changed_right : DefIn K mg "_law_changed_right" (top 46) ["_law_bag_here", "_law_places_here", "_law_rows", "_law_order_here"]
/-- the law, from what the top has left -/
theorem law_of {P : Program} {w : World} {K : PySem.W.Frag} {mg : Str → Option Value} {base : Heap} {C f : Addr} {fd : FuncData} (B : Bare mg) (N : Consts mg) (c : ClassIn K mg C) (d : ProgIn K mg) (l : LawIn K mg) (F : C8.Fun K "law" "law" (top 47) f fd) :
    FnOk P w K mg base CX0 10 f fd ["_law_script"] (spLaw K) := by
  have a1 := cal_is_integer (P := P) (w := w) (base := base) d.is_integer B
  have a2 := cal_is_between d.is_between a1
  have a3 := cal_is_price d.is_price a2 N.price
  have a4 := cal_is_comparison d.is_comparison B a2 a3
  have b1 := cal_demands (P := P) (w := w) (base := base) d.demands B
  have b2 := cal_first_prices (P := P) (w := w) (base := base) d.first_prices B
  have b3 := cal_least_of (P := P) (w := w) (base := base) d.least_of B
  have b4 := cal_column_after d.column_after B b3
  have b5 := cal_walk_prices d.walk_prices B b2 b4
  have b6 := cal_walk_misses (P := P) (w := w) (base := base) d.walk_misses B
  have b7 := cal_least_spoil d.least_spoil B b5 b6
  have b8 := cal_with_unit_prices (P := P) (w := w) (base := base) d.with_unit_prices
  have mk := mak_schedule c.init c.cl c.name B N a2 a4
  have m1 := prp_places (P := P) (w := w) (mg := mg) (base := base) c.places c.cl
  have m2 := met_comparisons (P := P) (w := w) (base := base) c.comparisons c.cl B
  have m3 := met_with_rows c.with_rows c.cl B N mk
  have m4 := met_need c.need c.cl B a2
  have m5 := met_without c.without c.cl m4 m3
  have m6 := met_priced c.priced c.cl a3 m4 m3
  have e1 := cal_fewest_spoil d.fewest_spoil b7 b8 m1 m2
  have e2 := cal_borne_of (P := P) (w := w) (base := base) d.borne_of
  have e3 := cal_borne d.borne e2 e1 b1
  have e4 := cal_spoiling d.spoiling e1 b1
  have e5 := cal_cheapest d.cheapest b7 b1 m1 m2
  have l1 := cal_bag (P := P) (w := w) (base := base) l.bag B
  have l2 := cal_take (P := P) (w := w) (base := base) l.take B
  have l3 := cal_places l.places l2
  have l4 := cal_most l.most B l2
  have l5 := cal_price l.price l2
  have l6 := cal_gates l.gates B l2
  have l7 := cal_comparisons l.comparisons B l2 l5 l6
  have l8 := cal_order l.order B l2
  have l9 := cal_gates_of (P := P) (w := w) (base := base) l.gates_of
  have k1 := cal_cost l.cost B mk e5
  have k2 := cal_one_right l.one_right B mk k1 l9 e4 e3
  have k3 := cal_changed_right l.changed_right B mk k1 l2 e5 m6 m5
  exact ok_law F B l1 l2 l3 l4 l7 l8 k2 k1 k3
end K57
namespace K57
open PySem PySem.Spec PyProof.Rows L2
section
variable {K : PySem.W.Frag} {mg : Str → Option Value} {h : Heap}
theorem bare_mk (X : K.In h) (G : h.Ns mainGlobals mg) (z1 : PySem.W.nsIn K mainGlobals "isinstance" = some none) (z2 : PySem.W.nsIn K mainGlobals "int" = some none) (z3 : PySem.W.nsIn K mainGlobals "bool" = some none)
    (z4 : PySem.W.nsIn K mainGlobals "tuple" = some none) (z5 : PySem.W.nsIn K mainGlobals "list" = some none) (z6 : PySem.W.nsIn K mainGlobals "len" = some none) (z7 : PySem.W.nsIn K mainGlobals "range" = some none)
    (z8 : PySem.W.nsIn K mainGlobals "enumerate" = some none) (z9 : PySem.W.nsIn K mainGlobals "max" = some none) (z10 : PySem.W.nsIn K mainGlobals "min" = some none) (z11 : PySem.W.nsIn K mainGlobals "abs" = some none) : Bare mg :=
  ⟨PySem.W.mg_none_of X G z1, PySem.W.mg_none_of X G z2, PySem.W.mg_none_of X G z3, PySem.W.mg_none_of X G z4, PySem.W.mg_none_of X G z5, PySem.W.mg_none_of X G z6, PySem.W.mg_none_of X G z7, PySem.W.mg_none_of X G z8, PySem.W.mg_none_of X G z9, PySem.W.mg_none_of X G z10, PySem.W.mg_none_of X G z11⟩
theorem consts_mk {t1 t2 t3 : Tok} (X : K.In h) (G : h.Ns mainGlobals mg) (p1 : PySem.W.nsIn K mainGlobals "MAX_PLACES" = some (some (.int 12 t1))) (p2 : PySem.W.nsIn K mainGlobals "MAX_COMPARISONS" = some (some (.int 400 t2)))
    (p3 : PySem.W.nsIn K mainGlobals "MAX_PRICE" = some (some (.int 1000000000000000000 t3))) : Consts mg :=
  ⟨⟨_, PySem.W.mg_of X G p1, t1, rfl⟩, ⟨_, PySem.W.mg_of X G p2, t2, rfl⟩, ⟨_, PySem.W.mg_of X G p3, t3, rfl⟩⟩
theorem class_mk {C : Addr} (X : K.In h) (G : h.Ns mainGlobals mg) (aC : PySem.W.nsIn K mainGlobals "Schedule" = some (some (.ref C))) (pg : PySem.W.plainGet K C Str.empty = true) (hd : PySem.W.hasDictIn K C = true) (po : PySem.W.plainOver K C = true)
    (sa : PySem.W.findIn K (.ref C) "__setattr__" = some (some (.builtin "object.__setattr__"))) (nP : PySem.W.findIn K (.ref C) "place_count" = some none) (nR : PySem.W.findIn K (.ref C) "rows" = some none)
    (init : InitIn K C "Schedule.__init__" (kls 0) ["self", "places", "comparisons"]) (places : PropIn K C "places" "Schedule.places" (kls 2) ["self"]) (comparisons : MethIn K C "comparisons" "Schedule.comparisons" (kls 3) ["self"])
    (with_rows : MethIn K C "with_rows" "Schedule.with_rows" (kls 6) ["self", "rows"]) (need : MethIn K C "need_comparison" "Schedule.need_comparison" (kls 8) ["self", "at"]) (without : MethIn K C "without" "Schedule.without" (kls 9) ["self", "at"])
    (priced : MethIn K C "priced" "Schedule.priced" (kls 10) ["self", "at", "price"]) : ClassIn K mg C :=
  ⟨PySem.W.mg_of X G aC, ⟨⟨pg, hd, po, sa⟩, nP, nR⟩, init, places, comparisons, with_rows, need, without, priced⟩
/-- the law as it is called -/
theorem end_mk {l : PySem.W.OpenLaw} {w : World} {fa C f : Addr} {oc : Value} {od an : Option Addr} {sl : Array (Option Value)} {kV doc pm cdv ct : Value} (X : K.In h) (G : h.Ns mainGlobals mg) (hfa : mg "law" = some (.ref fa))
    (B : Bare mg) (N : Consts mg) (c : ClassIn K mg C) (d : ProgIn K mg) (lw : LawIn K mg) (a : PySem.W.nsIn K mainGlobals "law" = some (some (.ref f)))
    (lk : K.lookup f = some ⟨oc, od, .func (PySem.W.fnOf "law" "law" (C8.fnArgs (top 47)) (C8.fnBody (top 47)) (C8.fnScope (top 47)) .none kV doc pm an cdv ct), sl⟩) (cd : PySem.W.codeIn K cdv "law" = true) :
    ∃ fd : FuncData, (∀ (s : Shared) (v : Value), BindsTo s fd ⟨[v], []⟩ [("_law_script", v)]) ∧ ∀ base : Heap, K.In base → base.Ns mainGlobals mg → FnOk l.prog w K mg base CX0 10 fa fd ["_law_script"] (spLaw K) := by
  have e := hfa.symm.trans (PySem.W.mg_of X G a)
  cases e
  have F : C8.Fun K "law" "law" (top 47) fa (PySem.W.fnOf "law" "law" (C8.fnArgs (top 47)) (C8.fnBody (top 47)) (C8.fnScope (top 47)) .none kV doc pm an cdv ct) := ⟨oc, od, .none, kV, doc, pm, an, cdv, ct, sl, rfl, lk, cd⟩
  exact ⟨_, fun s v => .of_eq rfl, fun base _ _ => law_of B N c d lw F⟩
end
end K57
open PySem PySem.W PyProof.Rows
set_option maxHeartbeats 0 in
theorem PySem.Challenge.cw_bearsmisses_k57_whole_prices_changed_holds : PySem.Challenge.rw_bearsmisses_k57_whole_prices_changed.Holds := by
  w_on; o_law; k_head; (case hw => w_witness2)
  k_fill
  refine L2.walk_of (l := PySem.Challenge.rw_bearsmisses_k57_whole_prices_changed) (n := 63) (k := 10) (x := "_law_script") (CX := fun _ => L2.CX0) (sp := fun w => K57.spLaw _) rfl (by decide) rfl ⟨rfl, by decide, by decide⟩ (fun w h Y => PySem.W.kIn_of Y) ?F (fun _ _ a ns hl _ hS => ⟨a, ns, rfl, hS, hl, fun _ => rfl⟩) (fun _ _ _ _ _ h => h)
  case F =>
    intro w mg fa h KX G hmg
    refine' K57.end_mk KX G hmg ?q_B ?q_N ?q_CI ?q_d ?q_lw ?q_a ?q_l ?q_c
    case q_B =>
      refine' K57.bare_mk KX G ?q_z1 ?q_z2 ?q_z3 ?q_z4 ?q_z5 ?q_z6 ?q_z7 ?q_z8 ?q_z9 ?q_z10 ?q_z11
      (case q_z1 => k_is); (case q_z2 => k_is); (case q_z3 => k_is); (case q_z4 => k_is); (case q_z5 => k_is); (case q_z6 => k_is); (case q_z7 => k_is); (case q_z8 => k_is); (case q_z9 => k_is); (case q_z10 => k_is); (case q_z11 => k_is)
    case q_N =>
      refine' K57.consts_mk KX G ?q_p1 ?q_p2 ?q_p3
      (case q_p1 => k_is); (case q_p2 => k_is); (case q_p3 => k_is)
    case q_CI =>
      refine' K57.class_mk KX G ?q_aC ?q_pg ?q_hd ?q_po ?q_sa ?q_nP ?q_nR (K57.init_mk ?q_mk ?q_kc ?q_ia ?q_ii ?q_il ?q_ic (fun _ _ _ _ _ _ us hl => match us, hl with | [_, _, _], _ => rfl)) (K57.prop_mk ?q_pa ?q_pg2 ?q_pt ?q_pr ?q_pl ?q_pc (fun _ _ _ _ _ _ us hl => match us, hl with | [_], _ => rfl)) (K57.meth_mk ?q_ma3 ?q_mi3 ?q_ml3 ?q_mc3 ?q_mk3 (fun _ _ _ _ _ _ us hl => match us, hl with | [_], _ => rfl)) (K57.meth_mk ?q_ma6 ?q_mi6 ?q_ml6 ?q_mc6 ?q_mk6 (fun _ _ _ _ _ _ us hl => match us, hl with | [_, _], _ => rfl)) (K57.meth_mk ?q_ma8 ?q_mi8 ?q_ml8 ?q_mc8 ?q_mk8 (fun _ _ _ _ _ _ us hl => match us, hl with | [_, _], _ => rfl)) (K57.meth_mk ?q_ma9 ?q_mi9 ?q_ml9 ?q_mc9 ?q_mk9 (fun _ _ _ _ _ _ us hl => match us, hl with | [_, _], _ => rfl)) (K57.meth_mk ?q_ma10 ?q_mi10 ?q_ml10 ?q_mc10 ?q_mk10 (fun _ _ _ _ _ _ us hl => match us, hl with | [_, _, _], _ => rfl))
      (case q_aC => k_is)
      (case q_pg => k_is)
      (case q_hd => k_is)
      (case q_po => k_is)
      (case q_sa => k_is)
      (case q_nP => k_is)
      (case q_nR => k_is)
      (case q_mk => k_is)
      (case q_kc => k_is)
      (case q_ia => k_is)
      (case q_ii => k_is)
      (case q_il => k_is)
      (case q_ic => k_is)
      (case q_pa => k_is)
      (case q_pg2 => k_is)
      (case q_pt => k_is)
      (case q_pr => k_is)
      (case q_pl => k_is)
      (case q_pc => k_is)
      (case q_ma3 => k_is)
      (case q_mi3 => k_is)
      (case q_ml3 => k_is)
      (case q_mc3 => k_is)
      (case q_mk3 => k_is)
      (case q_ma6 => k_is)
      (case q_mi6 => k_is)
      (case q_ml6 => k_is)
      (case q_mc6 => k_is)
      (case q_mk6 => k_is)
      (case q_ma8 => k_is)
      (case q_mi8 => k_is)
      (case q_ml8 => k_is)
      (case q_mc8 => k_is)
      (case q_mk8 => k_is)
      (case q_ma9 => k_is)
      (case q_mi9 => k_is)
      (case q_ml9 => k_is)
      (case q_mc9 => k_is)
      (case q_mk9 => k_is)
      (case q_ma10 => k_is)
      (case q_mi10 => k_is)
      (case q_ml10 => k_is)
      (case q_mc10 => k_is)
      (case q_mk10 => k_is)
    case q_d =>
      refine' ⟨?q_d5, ?q_d6, ?q_d7, ?q_d8, ?q_d10, ?q_d12, ?q_d13, ?q_d14, ?q_d15, ?q_d16, ?q_d17, ?q_d18, ?q_d20, ?q_d21, ?q_d22, ?q_d23, ?q_d25⟩
      case q_d5 =>
        refine' K57.def_mk KX G ?q_a5 ?q_l5 ?q_c5 ?q_k5 (fun _ _ _ _ _ _ us hl => match us, hl with | [_], _ => rfl)
        (case q_a5 => k_is); (case q_l5 => k_is); (case q_c5 => k_is); (case q_k5 => k_is)
      case q_d6 =>
        refine' K57.def_mk KX G ?q_a6 ?q_l6 ?q_c6 ?q_k6 (fun _ _ _ _ _ _ us hl => match us, hl with | [_, _, _], _ => rfl)
        (case q_a6 => k_is); (case q_l6 => k_is); (case q_c6 => k_is); (case q_k6 => k_is)
      case q_d7 =>
        refine' K57.def_mk KX G ?q_a7 ?q_l7 ?q_c7 ?q_k7 (fun _ _ _ _ _ _ us hl => match us, hl with | [_], _ => rfl)
        (case q_a7 => k_is); (case q_l7 => k_is); (case q_c7 => k_is); (case q_k7 => k_is)
      case q_d8 =>
        refine' K57.def_mk KX G ?q_a8 ?q_l8 ?q_c8 ?q_k8 (fun _ _ _ _ _ _ us hl => match us, hl with | [_, _], _ => rfl)
        (case q_a8 => k_is); (case q_l8 => k_is); (case q_c8 => k_is); (case q_k8 => k_is)
      case q_d10 =>
        refine' K57.def_mk KX G ?q_a10 ?q_l10 ?q_c10 ?q_k10 (fun _ _ _ _ _ _ us hl => match us, hl with | [_], _ => rfl)
        (case q_a10 => k_is); (case q_l10 => k_is); (case q_c10 => k_is); (case q_k10 => k_is)
      case q_d12 =>
        refine' K57.def_mk KX G ?q_a12 ?q_l12 ?q_c12 ?q_k12 (fun _ _ _ _ _ _ us hl => match us, hl with | [_, _, _], _ => rfl)
        (case q_a12 => k_is); (case q_l12 => k_is); (case q_c12 => k_is); (case q_k12 => k_is)
      case q_d13 =>
        refine' K57.def_mk KX G ?q_a13 ?q_l13 ?q_c13 ?q_k13 (fun _ _ _ _ _ _ us hl => match us, hl with | [_], _ => rfl)
        (case q_a13 => k_is); (case q_l13 => k_is); (case q_c13 => k_is); (case q_k13 => k_is)
      case q_d14 =>
        refine' K57.def_mk KX G ?q_a14 ?q_l14 ?q_c14 ?q_k14 (fun _ _ _ _ _ _ us hl => match us, hl with | [_, _, _], _ => rfl)
        (case q_a14 => k_is); (case q_l14 => k_is); (case q_c14 => k_is); (case q_k14 => k_is)
      case q_d15 =>
        refine' K57.def_mk KX G ?q_a15 ?q_l15 ?q_c15 ?q_k15 (fun _ _ _ _ _ _ us hl => match us, hl with | [_, _, _, _], _ => rfl)
        (case q_a15 => k_is); (case q_l15 => k_is); (case q_c15 => k_is); (case q_k15 => k_is)
      case q_d16 =>
        refine' K57.def_mk KX G ?q_a16 ?q_l16 ?q_c16 ?q_k16 (fun _ _ _ _ _ _ us hl => match us, hl with | [_, _, _, _], _ => rfl)
        (case q_a16 => k_is); (case q_l16 => k_is); (case q_c16 => k_is); (case q_k16 => k_is)
      case q_d17 =>
        refine' K57.def_mk KX G ?q_a17 ?q_l17 ?q_c17 ?q_k17 (fun _ _ _ _ _ _ us hl => match us, hl with | [_, _, _], _ => rfl)
        (case q_a17 => k_is); (case q_l17 => k_is); (case q_c17 => k_is); (case q_k17 => k_is)
      case q_d18 =>
        refine' K57.def_mk KX G ?q_a18 ?q_l18 ?q_c18 ?q_k18 (fun _ _ _ _ _ _ us hl => match us, hl with | [_], _ => rfl)
        (case q_a18 => k_is); (case q_l18 => k_is); (case q_c18 => k_is); (case q_k18 => k_is)
      case q_d20 =>
        refine' K57.def_mk KX G ?q_a20 ?q_l20 ?q_c20 ?q_k20 (fun _ _ _ _ _ _ us hl => match us, hl with | [_, _], _ => rfl)
        (case q_a20 => k_is); (case q_l20 => k_is); (case q_c20 => k_is); (case q_k20 => k_is)
      case q_d21 =>
        refine' K57.def_mk KX G ?q_a21 ?q_l21 ?q_c21 ?q_k21 (fun _ _ _ _ _ _ us hl => match us, hl with | [_, _], _ => rfl)
        (case q_a21 => k_is); (case q_l21 => k_is); (case q_c21 => k_is); (case q_k21 => k_is)
      case q_d22 =>
        refine' K57.def_mk KX G ?q_a22 ?q_l22 ?q_c22 ?q_k22 (fun _ _ _ _ _ _ us hl => match us, hl with | [_, _], _ => rfl)
        (case q_a22 => k_is); (case q_l22 => k_is); (case q_c22 => k_is); (case q_k22 => k_is)
      case q_d23 =>
        refine' K57.def_mk KX G ?q_a23 ?q_l23 ?q_c23 ?q_k23 (fun _ _ _ _ _ _ us hl => match us, hl with | [_, _], _ => rfl)
        (case q_a23 => k_is); (case q_l23 => k_is); (case q_c23 => k_is); (case q_k23 => k_is)
      case q_d25 =>
        refine' K57.def_mk KX G ?q_a25 ?q_l25 ?q_c25 ?q_k25 (fun _ _ _ _ _ _ us hl => match us, hl with | [_, _], _ => rfl)
        (case q_a25 => k_is); (case q_l25 => k_is); (case q_c25 => k_is); (case q_k25 => k_is)
    case q_lw =>
      refine' ⟨?q_d35, ?q_d36, ?q_d37, ?q_d38, ?q_d39, ?q_d40, ?q_d41, ?q_d42, ?q_d43, ?q_d44, ?q_d45, ?q_d46⟩
      case q_d35 =>
        refine' K57.def_mk KX G ?q_a35 ?q_l35 ?q_c35 ?q_k35 (fun _ _ _ _ _ _ us hl => match us, hl with | [_], _ => rfl)
        (case q_a35 => k_is); (case q_l35 => k_is); (case q_c35 => k_is); (case q_k35 => k_is)
      case q_d36 =>
        refine' K57.def_mk KX G ?q_a36 ?q_l36 ?q_c36 ?q_k36 (fun _ _ _ _ _ _ us hl => match us, hl with | [_, _], _ => rfl)
        (case q_a36 => k_is); (case q_l36 => k_is); (case q_c36 => k_is); (case q_k36 => k_is)
      case q_d37 =>
        refine' K57.def_mk KX G ?q_a37 ?q_l37 ?q_c37 ?q_k37 (fun _ _ _ _ _ _ us hl => match us, hl with | [_, _, _], _ => rfl)
        (case q_a37 => k_is); (case q_l37 => k_is); (case q_c37 => k_is); (case q_k37 => k_is)
      case q_d38 =>
        refine' K57.def_mk KX G ?q_a38 ?q_l38 ?q_c38 ?q_k38 (fun _ _ _ _ _ _ us hl => match us, hl with | [_, _, _], _ => rfl)
        (case q_a38 => k_is); (case q_l38 => k_is); (case q_c38 => k_is); (case q_k38 => k_is)
      case q_d39 =>
        refine' K57.def_mk KX G ?q_a39 ?q_l39 ?q_c39 ?q_k39 (fun _ _ _ _ _ _ us hl => match us, hl with | [_], _ => rfl)
        (case q_a39 => k_is); (case q_l39 => k_is); (case q_c39 => k_is); (case q_k39 => k_is)
      case q_d40 =>
        refine' K57.def_mk KX G ?q_a40 ?q_l40 ?q_c40 ?q_k40 (fun _ _ _ _ _ _ us hl => match us, hl with | [_, _, _], _ => rfl)
        (case q_a40 => k_is); (case q_l40 => k_is); (case q_c40 => k_is); (case q_k40 => k_is)
      case q_d41 =>
        refine' K57.def_mk KX G ?q_a41 ?q_l41 ?q_c41 ?q_k41 (fun _ _ _ _ _ _ us hl => match us, hl with | [_, _], _ => rfl)
        (case q_a41 => k_is); (case q_l41 => k_is); (case q_c41 => k_is); (case q_k41 => k_is)
      case q_d42 =>
        refine' K57.def_mk KX G ?q_a42 ?q_l42 ?q_c42 ?q_k42 (fun _ _ _ _ _ _ us hl => match us, hl with | [_], _ => rfl)
        (case q_a42 => k_is); (case q_l42 => k_is); (case q_c42 => k_is); (case q_k42 => k_is)
      case q_d43 =>
        refine' K57.def_mk KX G ?q_a43 ?q_l43 ?q_c43 ?q_k43 (fun _ _ _ _ _ _ us hl => match us, hl with | [_, _, _], _ => rfl)
        (case q_a43 => k_is); (case q_l43 => k_is); (case q_c43 => k_is); (case q_k43 => k_is)
      case q_d44 =>
        refine' K57.def_mk KX G ?q_a44 ?q_l44 ?q_c44 ?q_k44 (fun _ _ _ _ _ _ us hl => match us, hl with | [_, _, _], _ => rfl)
        (case q_a44 => k_is); (case q_l44 => k_is); (case q_c44 => k_is); (case q_k44 => k_is)
      case q_d45 =>
        refine' K57.def_mk KX G ?q_a45 ?q_l45 ?q_c45 ?q_k45 (fun _ _ _ _ _ _ us hl => match us, hl with | [_, _, _], _ => rfl)
        (case q_a45 => k_is); (case q_l45 => k_is); (case q_c45 => k_is); (case q_k45 => k_is)
      case q_d46 =>
        refine' K57.def_mk KX G ?q_a46 ?q_l46 ?q_c46 ?q_k46 (fun _ _ _ _ _ _ us hl => match us, hl with | [_, _, _, _], _ => rfl)
        (case q_a46 => k_is); (case q_l46 => k_is); (case q_c46 => k_is); (case q_k46 => k_is)
    (case q_a => k_is); (case q_l => k_is); (case q_c => k_is)
