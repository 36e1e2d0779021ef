/- Lists of events: words and plain laws. Conditions: none. -/
import Derived.Test.YthpinlcfcgnilaaYHQ
namespace Go.Proofs.YthpinlcfcgnilaaX
open Go.RowKit
set_option linter.unusedVariables false
/-- An event: At, Kind, Flow, N. -/
abbrev Ev := Int × Int × Int × Int
def ev0 : Ev := (0, 0, 0, 0)
def evC (x : Ev) : List Value := [.int .i64 x.1, .int .i64 x.2.1, .int .i64 x.2.2.1, .int .i64 x.2.2.2]
theorem evC_len (x : Ev) : (evC x).length = 4 := rfl
def evD : D Ev where
  sz := 4
  rep := fun _ x cs => cs = evC x
  len := by rintro G x cs rfl; rfl
  one := by
    rintro G x cs rfl u hu
    simp only [evC, List.mem_cons, List.not_mem_nil, or_false] at hu
    rcases hu with rfl | rfl | rfl | rfl <;> rfl
  mono := fun _ h => h
theorem At.ev {G : Mem} {A : Option Addr} {xs : List Ev} (R : List (Nat × Row)) (h : rowAt evD G A xs) (i : Nat) (hi : i < xs.length) : At G R A (i * 4) (evC (xs.getD i ev0)) := by
  obtain ⟨cs, h1, h2⟩ := At.of_rowAt R h i hi
  have h1 : cs = evC xs[i] := h1
  have e : xs.getD i ev0 = xs[i] := by simp [List.getD, hi]
  rw [e, ← h1]
  exact h2
theorem evD_reps {G : Mem} : ∀ {xs : List Ev}, repsD evD G xs (xs.flatMap evC)
  | [] => rfl
  | x :: r => ⟨evC x, r.flatMap evC, rfl, rfl, evD_reps⟩
theorem evD_eq {G : Mem} : ∀ {xs : List Ev} {cs : List Value}, repsD evD G xs cs → cs = xs.flatMap evC
  | [], _, h => h
  | x :: r, _, ⟨c0, c1, rfl, h0, h1⟩ => by
    have h0 : c0 = evC x := h0
    rw [h0, evD_eq h1, List.flatMap_cons]
theorem at_evs {G : Mem} {A : Option Addr} {xs : List Ev} (R : List (Nat × Row)) (h : rowAt evD G A xs) : At G R A 0 (xs.flatMap evC) := by
  obtain ⟨cs, h1, h2⟩ := At.all R h
  rw [← evD_eq h1]
  exact h2
theorem ones_ev {l : List Ev} : ∀ u ∈ l.flatMap evC, u.oneCell' = true := fun u hu => by
  obtain ⟨x, _, hx⟩ := List.mem_flatMap.mp hu
  simp only [evC, List.mem_cons, List.not_mem_nil, or_false] at hx
  rcases hx with rfl | rfl | rfl | rfl <;> rfl
theorem evs_len (l : List Ev) : (l.flatMap evC).length = l.length * 4 := flat_len evC_len l
def evOf (x : Item) : Ev := (x.1, x.2.1, x.2.2.1, x.2.2.2.1)
/-- Those of another flow. -/
def offE (k : Int) (xs : List Ev) : List Ev := xs.filter (fun e => decide (e.2.2.1 ≠ k))
theorem offE_take {k : Int} {xs : List Ev} {i : Nat} (h : i < xs.length) : offE k (xs.take (i + 1)) = offE k (xs.take i) ++ if (xs.getD i ev0).2.2.1 ≠ k then [xs.getD i ev0] else [] := by
  have e : xs.getD i ev0 = xs[i] := by simp [List.getD, h]
  rw [e, List.take_succ_eq_append_getElem h]
  unfold offE
  rw [List.filter_append, List.filter_cons]
  by_cases hk : xs[i].2.2.1 ≠ k
  · rw [if_pos (decide_eq_true hk), if_pos hk]; rfl
  · rw [if_neg (by simpa using hk), if_neg hk]; rfl
/-- Behind all that do not come later. -/
def insE : List Ev → Ev → List Ev
  | [], x => [x]
  | y :: s, x => if y.1 ≤ x.1 then y :: insE s x else x :: y :: s
theorem insE_at : ∀ {xs : List Ev} {x : Ev} {i : Nat}, i ≤ xs.length → (∀ j, j < i → (xs.getD j ev0).1 ≤ x.1) → (i = xs.length ∨ ¬ (xs.getD i ev0).1 ≤ x.1) → xs.take i ++ [x] ++ xs.drop i = insE xs x
  | [], x, i, hi, _, _ => by
    have : i = 0 := by simpa using hi
    subst this
    rfl
  | y :: s, x, 0, _, _, h => by
    have h : ¬ y.1 ≤ x.1 := by
      rcases h with h | h
      · simp at h
      · exact h
    unfold insE
    rw [if_neg h]
    rfl
  | y :: s, x, i + 1, hi, hj, h => by
    have h0 : y.1 ≤ x.1 := hj 0 (Nat.succ_pos _)
    have ih := insE_at (xs := s) (x := x) (i := i) (by simpa using hi) (fun j hj' => hj (j + 1) (by omega)) (by
      rcases h with h | h
      · exact .inl (by simpa using h)
      · exact .inr h)
    unfold insE
    rw [if_pos h0, ← ih]
    simp
theorem insE_of (s : List Item) (x : Item) : (insI s x).map evOf = insE (s.map evOf) (evOf x) := by
  induction s with
  | nil => rfl
  | cons y s ih =>
    unfold insI
    rw [List.map_cons]
    unfold insE
    by_cases h : y.1 ≤ x.1
    · rw [if_pos h, if_pos (show (evOf y).1 ≤ (evOf x).1 from h), List.map_cons, ih]
    · rw [if_neg h, if_neg (show ¬ (evOf y).1 ≤ (evOf x).1 from h)]
      rfl
theorem offE_of (k : Int) (s : List Item) : (s.filter (fun x => decide (x.2.2.1 ≠ k))).map evOf = offE k (s.map evOf) := by
  unfold offE
  rw [List.filter_map]
  rfl
end Go.Proofs.YthpinlcfcgnilaaX
