/- A heap in a list: plain laws. Conditions: none. -/
import Derived.Test.YthpinlcfcgnilaaYH0
namespace Go.Proofs.YthpinlcfcgnilaaX
open Go.RowKit
set_option linter.unusedVariables false
/-- An event and when it was pushed: At, Kind, Flow, N, order. -/
abbrev Item := Int × Int × Int × Int × Int
def it0 : Item := (0, 0, 0, 0, 0)
def itC (x : Item) : List Value := [.int .i64 x.1, .int .i64 x.2.1, .int .i64 x.2.2.1, .int .i64 x.2.2.2.1, .int .u64 x.2.2.2.2]
theorem itC_len (x : Item) : (itC x).length = 5 := rfl
def ltI (a b : Item) : Prop := a.1 < b.1 ∨ (a.1 = b.1 ∧ a.2.2.2.2 < b.2.2.2.2)
instance (a b : Item) : Decidable (ltI a b) := by unfold ltI; exact inferInstance
theorem ltI_irr (a : Item) : ¬ ltI a a := by unfold ltI; omega
theorem ltI_as {a b : Item} (h : ltI a b) : ¬ ltI b a := by unfold ltI at *; omega
theorem le_tr {a b c : Item} (h : ¬ ltI b a) (k : ¬ ltI c b) : ¬ ltI c a := by unfold ltI at *; omega
theorem lt_tr {a b c : Item} (h : ltI a b) (k : ltI b c) : ltI a c := by unfold ltI at *; omega
theorem lt_le {a b c : Item} (h : ltI a b) (k : ¬ ltI c b) : ltI a c := by unfold ltI at *; omega
def at_ (l : List Item) (j : Nat) : Item := l.getD j it0
def swp (l : List Item) (i j : Nat) : List Item := (l.set i (at_ l j)).set j (at_ l i)
theorem swp_len (l : List Item) (i j : Nat) : (swp l i j).length = l.length := by simp [swp]
theorem at_get {l : List Item} {j : Nat} (h : j < l.length) : at_ l j = l[j] := by simp [at_, List.getD, h]
theorem set_at {l : List Item} {i j : Nat} {x : Item} (h : i < l.length) : at_ (l.set i x) j = if i = j then x else at_ l j := by
  unfold at_
  simp only [List.getD_eq_getElem?_getD, List.getElem?_set]
  by_cases e : i = j
  · subst e; simp [h]
  · simp [e]
theorem swp_at {l : List Item} {i j k : Nat} (hi : i < l.length) (hj : j < l.length) : at_ (swp l i j) k = if k = j then at_ l i else if k = i then at_ l j else at_ l k := by
  unfold swp
  rw [set_at (by rw [List.length_set]; exact hj), set_at hi]
  by_cases e : j = k
  · rw [if_pos e, if_pos e.symm]
  · rw [if_neg e, if_neg (Ne.symm e)]
    by_cases e2 : i = k
    · rw [if_pos e2, if_pos e2.symm]
    · rw [if_neg e2, if_neg (Ne.symm e2)]
theorem swp_perm {l : List Item} {i j : Nat} (hi : i < l.length) (hj : j < l.length) : (swp l i j).Perm l := by
  unfold swp
  rw [at_get hi, at_get hj]
  exact List.set_set_perm hi hj
/-- Each of the list is not ahead of what it hangs on, as far as that lies from r on. -/
def HeapFrom (l : List Item) (r : Nat) : Prop := ∀ j, 0 < j → j < l.length → r ≤ (j - 1) / 2 → ¬ ltI (at_ l j) (at_ l ((j - 1) / 2))
/-- The same but for i, which may rise. -/
structure UpOk (l : List Item) (i : Nat) : Prop where
  a : ∀ j, 0 < j → j < l.length → j ≠ i → ¬ ltI (at_ l j) (at_ l ((j - 1) / 2))
  b : ∀ j, 0 < j → j < l.length → (j - 1) / 2 = i → 0 < i → ¬ ltI (at_ l j) (at_ l ((i - 1) / 2))
/-- The same but for what hangs on i, which may sink. -/
structure DownOk (l : List Item) (i r : Nat) : Prop where
  a : ∀ j, 0 < j → j < l.length → r ≤ (j - 1) / 2 → (j - 1) / 2 ≠ i → ¬ ltI (at_ l j) (at_ l ((j - 1) / 2))
  b : ∀ j, 0 < j → j < l.length → (j - 1) / 2 = i → 0 < i → r ≤ (i - 1) / 2 → ¬ ltI (at_ l j) (at_ l ((i - 1) / 2))
theorem up_new {l : List Item} (h : HeapFrom l 0) (x : Item) : UpOk (l ++ [x]) l.length := by
  have old : ∀ j, j < l.length → at_ (l ++ [x]) j = at_ l j := fun j hj => by
    show ((l ++ [x])[j]?).getD it0 = (l[j]?).getD it0
    rw [List.getElem?_append_left hj]
  refine ⟨fun j h0 h1 h2 => ?_, fun j h0 h1 h2 h3 => ?_⟩
  · rw [List.length_append] at h1
    have hj : j < l.length := by simp at h1; omega
    rw [old j hj, old _ (by omega)]
    exact h j h0 hj (Nat.zero_le _)
  · rw [List.length_append] at h1
    simp at h1
    omega
theorem up_end {l : List Item} {i : Nat} (h : UpOk l i) (he : i = 0 ∨ ¬ ltI (at_ l i) (at_ l ((i - 1) / 2))) : HeapFrom l 0 := by
  intro j h0 h1 _
  by_cases e : j = i
  · subst e
    rcases he with he | he
    · omega
    · exact he
  · exact h.a j h0 h1 e
theorem up_step {l : List Item} {i : Nat} (h : UpOk l i) (h0 : 0 < i) (hi : i < l.length) (hl : ltI (at_ l i) (at_ l ((i - 1) / 2))) : UpOk (swp l i ((i - 1) / 2)) ((i - 1) / 2) := by
  have hp : (i - 1) / 2 < l.length := by omega
  have hne : (i - 1) / 2 ≠ i := by omega
  refine ⟨fun j k0 k1 k2 => ?_, fun j k0 k1 k2 k3 => ?_⟩
  · rw [swp_len] at k1
    rw [swp_at hi hp, swp_at hi hp, if_neg k2]
    by_cases e : j = i
    · subst e
      rw [if_pos rfl, if_pos rfl]
      exact ltI_as hl
    · rw [if_neg e]
      by_cases e2 : (j - 1) / 2 = (i - 1) / 2
      · rw [if_pos e2]
        have := h.a j k0 k1 e
        rw [e2] at this
        exact fun h2 => this (lt_tr h2 hl)
      · rw [if_neg e2]
        by_cases e3 : (j - 1) / 2 = i
        · rw [if_pos e3]
          exact h.b j k0 k1 e3 h0
        · rw [if_neg e3]
          exact h.a j k0 k1 e
  · rw [swp_len] at k1
    have k4 : ((i - 1) / 2 - 1) / 2 ≠ (i - 1) / 2 := by omega
    have k5 : ((i - 1) / 2 - 1) / 2 ≠ i := by omega
    have k6 : j ≠ (i - 1) / 2 := by omega
    rw [swp_at hi hp, swp_at hi hp, if_neg k6, if_neg k4, if_neg k5]
    have hg := h.a ((i - 1) / 2) k3 hp hne
    by_cases e : j = i
    · rw [if_pos e]
      exact hg
    · rw [if_neg e]
      have := h.a j k0 k1 e
      rw [k2] at this
      exact le_tr hg this
theorem down_end {l : List Item} {i r : Nat} (h : DownOk l i r) (he : ∀ j, 0 < j → j < l.length → (j - 1) / 2 = i → ¬ ltI (at_ l j) (at_ l i)) : HeapFrom l r := by
  intro j h0 h1 h2
  by_cases e : (j - 1) / 2 = i
  · rw [e]
    exact he j h0 h1 e
  · exact h.a j h0 h1 h2 e
theorem down_step {l : List Item} {i k r : Nat} (h : DownOk l i r) (hr : r ≤ i) (hk0 : 0 < k) (hk : k < l.length) (hki : (k - 1) / 2 = i) (hm : ∀ j, 0 < j → j < l.length → (j - 1) / 2 = i → ¬ ltI (at_ l j) (at_ l k)) (hl : ltI (at_ l k) (at_ l i)) : DownOk (swp l i k) k r := by
  have hi : i < l.length := by omega
  refine ⟨fun j k0 k1 k2 k3 => ?_, fun j k0 k1 k2 k3 k4 => ?_⟩
  · rw [swp_len] at k1
    rw [swp_at hi hk, swp_at hi hk, if_neg k3]
    by_cases e : j = k
    · subst e
      rw [if_pos rfl, if_pos hki]
      exact ltI_as hl
    · rw [if_neg e]
      by_cases e2 : j = i
      · rw [if_pos e2, if_neg (by omega)]
        subst e2
        exact h.b k hk0 hk hki k0 k2
      · rw [if_neg e2]
        by_cases e3 : (j - 1) / 2 = i
        · rw [if_pos e3]
          exact hm j k0 k1 e3
        · rw [if_neg e3]
          exact h.a j k0 k1 k2 e3
  · rw [swp_len] at k1
    rw [swp_at hi hk, swp_at hi hk, if_neg (by omega), if_neg (by omega), if_neg (show (k - 1) / 2 ≠ k by omega), if_pos hki]
    have := h.a j k0 k1 (by omega) (by omega)
    rw [k2] at this
    exact this
theorem heap_min {l : List Item} (h : HeapFrom l 0) : ∀ j, j < l.length → ¬ ltI (at_ l j) (at_ l 0) := by
  intro j
  induction j using Nat.strongRecOn with
  | _ j ih =>
    intro hj
    by_cases e : j = 0
    · subst e; exact ltI_irr _
    · have h1 := ih ((j - 1) / 2) (by omega) (by omega)
      exact le_tr h1 (h j (by omega) hj (Nat.zero_le _))
/-- The last one laid first, the list shorter by one. -/
def popL (l : List Item) : List Item := (l.set 0 (at_ l (l.length - 1))).take (l.length - 1)
theorem popL_len {l : List Item} : (popL l).length = l.length - 1 := by simp [popL]
theorem pop_down {l : List Item} (h : HeapFrom l 0) : DownOk (popL l) 0 0 := by
  have hat : ∀ j, 0 < j → j < l.length - 1 → at_ (popL l) j = at_ l j := fun j h0 h1 => by
    unfold popL at_
    simp only [List.getD_eq_getElem?_getD, List.getElem?_take, List.getElem?_set]
    rw [if_pos h1, if_neg (by omega)]
  refine ⟨fun j h0 h1 _ h2 => ?_, fun j _ _ _ h3 => absurd h3 (by omega)⟩
  rw [popL_len] at h1
  rw [hat j h0 h1, hat _ (by omega) (by omega)]
  exact h j h0 (by omega) (Nat.zero_le _)
theorem popL_perm {l : List Item} (h : 0 < l.length) : (at_ l 0 :: popL l).Perm l := by
  cases l with
  | nil => simp at h
  | cons x l =>
    cases hl : l.reverse with
    | nil =>
      have : l = [] := by simpa using hl
      subst this
      exact List.Perm.refl _
    | cons y r =>
      have e : l = r.reverse ++ [y] := by
        have := congrArg List.reverse hl
        simpa using this
      subst e
      have h1 : at_ (x :: (r.reverse ++ [y])) ((x :: (r.reverse ++ [y])).length - 1) = y := by
        unfold at_
        simp [List.getD]
      have h2 : popL (x :: (r.reverse ++ [y])) = y :: r.reverse := by
        unfold popL
        rw [h1]
        simp
      rw [h2]
      show (x :: y :: r.reverse).Perm _
      exact List.Perm.cons _ (List.perm_append_singleton y r.reverse).symm
/-- What waits, in the order in which it comes. -/
def SortedI (s : List Item) : Prop := s.Pairwise ltI
theorem pop_head {l s : List Item} {x : Item} (h : HeapFrom l 0) (hp : l.Perm (x :: s)) (hs : SortedI (x :: s)) : at_ l 0 = x ∧ (popL l).Perm s := by
  have hlen := hp.length_eq
  simp at hlen
  have h0 : 0 < l.length := by omega
  have e : at_ l 0 = x := by
    have hm : at_ l 0 ∈ x :: s := hp.mem_iff.mp (by rw [at_get h0]; exact List.getElem_mem h0)
    rcases List.mem_cons.mp hm with h1 | h1
    · exact h1
    · have h2 := (List.pairwise_cons.mp hs).1 _ h1
      have hx : x ∈ l := hp.mem_iff.mpr (by simp)
      obtain ⟨j, hj, he⟩ := List.getElem_of_mem hx
      have := heap_min h j hj
      rw [at_get hj, he] at this
      exact absurd h2 this
  refine ⟨e, ?_⟩
  have h1 := (popL_perm h0).trans hp
  rw [e] at h1
  exact h1.cons_inv
/-- Behind all that do not come later. -/
def insI : List Item → Item → List Item
  | [], x => [x]
  | y :: s, x => if y.1 ≤ x.1 then y :: insI s x else x :: y :: s
theorem insI_perm (s : List Item) (x : Item) : (insI s x).Perm (x :: s) := by
  induction s with
  | nil => exact List.Perm.refl _
  | cons y s ih =>
    unfold insI
    split
    · exact (List.Perm.cons y ih).trans (List.Perm.swap x y s)
    · exact List.Perm.refl _
theorem insI_sorted {s : List Item} {x : Item} (hs : SortedI s) (hx : ∀ y ∈ s, y.2.2.2.2 < x.2.2.2.2) : SortedI (insI s x) := by
  induction s with
  | nil => exact List.pairwise_singleton _ _
  | cons y s ih =>
    obtain ⟨h1, h2⟩ := List.pairwise_cons.mp hs
    unfold insI
    split
    · rename_i hle
      refine List.pairwise_cons.mpr ⟨fun z hz => ?_, ih h2 (fun z hz => hx z (by simp [hz]))⟩
      rcases List.mem_cons.mp ((insI_perm s x).mem_iff.mp hz) with rfl | hz
      · have := hx y (by simp)
        unfold ltI
        omega
      · exact h1 z hz
    · rename_i hle
      refine List.pairwise_cons.mpr ⟨fun z hz => ?_, hs⟩
      rcases List.mem_cons.mp hz with rfl | hz
      · unfold ltI; omega
      · have h3 := h1 z hz
        unfold ltI at *
        omega
theorem heap_from_end {l : List Item} {r : Nat} (h : l.length ≤ 2 * r + 1) : HeapFrom l r := by
  intro j h0 h1 h2
  omega
theorem heap_down {l : List Item} {r : Nat} (h : HeapFrom l (r + 1)) : DownOk l r r :=
  ⟨fun j h0 h1 h2 h3 => h j h0 h1 (by omega), fun j _ _ _ h3 h4 => absurd h4 (by omega)⟩
theorem perm_at {l s : List Item} (h : l.Perm s) {j : Nat} (hj : j < l.length) : at_ l j ∈ s := h.mem_iff.mp (by rw [at_get hj]; exact List.getElem_mem hj)
theorem kid_r {l : List Item} {i : Nat} (h : ltI (at_ l (2 * i + 2)) (at_ l (2 * i + 1))) : ∀ j, 0 < j → j < l.length → (j - 1) / 2 = i → ¬ ltI (at_ l j) (at_ l (2 * i + 2)) := by
  intro j h0 h1 h2
  rcases (show j = 2 * i + 1 ∨ j = 2 * i + 2 by omega) with rfl | rfl
  · exact ltI_as h
  · exact ltI_irr _
theorem kid_l {l : List Item} {i : Nat} (h : ¬ ltI (at_ l (2 * i + 2)) (at_ l (2 * i + 1))) : ∀ j, 0 < j → j < l.length → (j - 1) / 2 = i → ¬ ltI (at_ l j) (at_ l (2 * i + 1)) := by
  intro j h0 h1 h2
  rcases (show j = 2 * i + 1 ∨ j = 2 * i + 2 by omega) with rfl | rfl
  · exact ltI_irr _
  · exact h
theorem kid_one {l : List Item} {i : Nat} (h : l.length ≤ 2 * i + 2) : ∀ j, 0 < j → j < l.length → (j - 1) / 2 = i → ¬ ltI (at_ l j) (at_ l (2 * i + 1)) := by
  intro j h0 h1 h2
  rcases (show j = 2 * i + 1 by omega) with rfl
  exact ltI_irr _
def blC (b : Bool) : List Value := [.bool b]
theorem blC_len (b : Bool) : (blC b).length = 1 := rfl
theorem blC_rep (n : Nat) : List.replicate n (Value.bool false) = (List.replicate n false).flatMap blC := by
  induction n with
  | zero => rfl
  | succ n ih => rw [List.replicate_succ, List.replicate_succ, List.flatMap_cons, ← ih]; rfl
theorem flatMap_take {α : Type} {f : α → List Value} {z : Nat} (hz : ∀ x, (f x).length = z) : ∀ (l : List α) (m : Nat), (l.flatMap f).take (m * z) = (l.take m).flatMap f
  | _, 0 => by simp
  | [], m + 1 => by simp
  | x :: l, m + 1 => by
    have ih := flatMap_take hz l m
    rw [List.flatMap_cons, List.take_succ_cons, List.flatMap_cons, ← ih, Nat.add_mul, Nat.one_mul, Nat.add_comm, List.take_append, hz, List.take_of_length_le (by rw [hz]; omega), Nat.add_sub_cancel_left]
/-- The first k numbers, pushed. -/
def itI (xs : List Int) (j : Nat) : Item := (xs.getD j 0, 0, 0, (j : Int), (j : Int))
def pushL (xs : List Int) (k : Nat) : List Item := (List.range k).map (itI xs)
theorem pushL_succ (xs : List Int) (k : Nat) : pushL xs (k + 1) = pushL xs k ++ [itI xs k] := by simp [pushL, List.range_succ]
theorem pushL_mem {xs : List Int} {k : Nat} {x : Item} (h : x ∈ pushL xs k) : ∃ j, j < k ∧ x = itI xs j := by
  obtain ⟨j, hj, he⟩ := List.mem_map.mp h
  exact ⟨j, List.mem_range.mp hj, he.symm⟩
theorem pushL_nodup (xs : List Int) (k : Nat) : (pushL xs k).Nodup := by
  unfold pushL
  rw [List.nodup_iff_pairwise_ne, List.pairwise_map]
  refine List.Pairwise.imp ?_ (List.pairwise_lt_range (n := k))
  intro a b hab h
  have h2 : (a : Int) = (b : Int) := congrArg (fun z : Item => z.2.2.2.2) h
  omega
theorem at_mem {l : List Item} {j : Nat} (h : j < l.length) : at_ l j ∈ l := by rw [at_get h]; exact List.getElem_mem h
theorem at_zero {l : List Item} : at_ l 0 = l.getD 0 it0 := rfl
theorem getD_setB {l : List Bool} {i j : Nat} (h : i ≠ j) : (l.set i true).getD j false = l.getD j false := by
  simp only [List.getD_eq_getElem?_getD, List.getElem?_set, if_neg h]
/-- What is left of the pushed ones, in a heap; z: the last one taken. -/
structure Left (xs : List Int) (l : List Item) (bs : List Bool) (z : Item) (k : Nat) : Prop where
  heap : HeapFrom l 0
  of : ∀ x ∈ l, ∃ j, j < xs.length ∧ x = itI xs j
  nodup : l.Nodup
  seen : ∀ j, j < xs.length → itI xs j ∈ l → bs.getD j false = false
  last : 0 < k → (∃ j, j < xs.length ∧ z = itI xs j) ∧ ∀ x ∈ l, ltI z x
theorem left_zero {xs : List Int} {l : List Item} {z : Item} (h : HeapFrom l 0) (hp : l.Perm (pushL xs xs.length)) : Left xs l (List.replicate xs.length false) z 0 := by
  refine ⟨h, fun x hx => pushL_mem (hp.mem_iff.mp hx), hp.nodup_iff.mpr (pushL_nodup _ _), fun j hj _ => ?_, fun h => absurd h (by omega)⟩
  simp [List.getD, hj]
theorem left_step {xs : List Int} {l l' : List Item} {bs : List Bool} {z : Item} {k j : Nat} (h : Left xs l bs z k) (h0 : 0 < l.length) (hj : j < xs.length) (he : at_ l 0 = itI xs j) (h' : HeapFrom l' 0) (hp : l'.Perm (popL l)) : Left xs l' (bs.set j true) (itI xs j) (k + 1) := by
  have hpp := popL_perm h0
  have hsub : ∀ x ∈ l', x ∈ l ∧ x ≠ at_ l 0 := fun x hx => by
    have h1 := hp.mem_iff.mp hx
    have h2 := (List.nodup_cons.mp (hpp.nodup_iff.mpr h.nodup)).1
    exact ⟨hpp.mem_iff.mp (List.mem_cons_of_mem _ h1), fun e => h2 (e ▸ h1)⟩
  refine ⟨h', fun x hx => h.of x (hsub x hx).1, hp.nodup_iff.mpr (List.nodup_cons.mp (hpp.nodup_iff.mpr h.nodup)).2, fun i hi hx => ?_, fun _ => ⟨⟨j, hj, rfl⟩, fun x hx => ?_⟩⟩
  · obtain ⟨h1, h2⟩ := hsub _ hx
    have hne : j ≠ i := fun e => h2 (by rw [he, e])
    rw [getD_setB hne]
    exact h.seen i hi h1
  · obtain ⟨h1, h2⟩ := hsub _ hx
    obtain ⟨i, hi, hix⟩ := h.of x h1
    obtain ⟨q, hq, hqe⟩ := List.getElem_of_mem h1
    have h3 := heap_min h.heap q hq
    rw [at_get hq, hqe, he] at h3
    have hne : i ≠ j := fun e => h2 (by rw [he, hix, e])
    subst hix
    unfold ltI itI at *
    dsimp only at *
    omega
end Go.Proofs.YthpinlcfcgnilaaX
