/- A heap beside a list: plain laws. Conditions: none. -/
import Derived.Test.YthpinlcfcgnilaaYH3
import Derived.Test.YthpinlcfcgnilaaYH6
namespace Go.Proofs.YthpinlcfcgnilaaX
open Go.RowKit
set_option linter.unusedVariables false
theorem X.joinC {C : Ctx} {cur : Cur} {k : List CK} {s : S} {R : List (Nat × Row)} {G : Mem} (cur2 : Cur) (k2 : List CK) (s2 : S) (HJ : X C cur2 k2 s2 R G) (K : X C cur2 k2 s2 R G → X C cur k s R G) : X C cur k s R G := K HJ
abbrev Op5 := Int × (Int × (Int × (Int × Int)))
def op0 : Op5 := (0, 0, 0, 0, 0)
def opC (x : Op5) : List Value := [.int .i64 x.1, .int .i64 x.2.1, .int .i64 x.2.2.1, .int .i64 x.2.2.2.1, .int .i64 x.2.2.2.2]
def opD : D Op5 := D.pair (D.int .i64) (D.pair (D.int .i64) (D.pair (D.int .i64) (D.pair (D.int .i64) (D.int .i64))))
theorem At.op {G : Mem} {A : Option Addr} {xs : List Op5} (R : List (Nat × Row)) (h : rowAt opD G A xs) (i : Nat) (hi : i < xs.length) : At G R A (i * 5) (opC (xs.getD i op0)) := by
  obtain ⟨cs, ⟨c0, c1, rfl, ⟨rfl, _⟩, c2, c3, rfl, ⟨rfl, _⟩, c4, c5, rfl, ⟨rfl, _⟩, c6, c7, rfl, ⟨rfl, _⟩, ⟨rfl, _⟩⟩, h2⟩ := At.of_rowAt R h i hi
  have e : xs.getD i op0 = xs[i] := by simp [List.getD, hi]
  rw [e]
  exact h2
/-- A heap and the list of what waits in it, in order; q: the next one's number. -/
def Plays (l : List Item) (q : Int) (xs : List Ev) : Prop := ∃ S : List Item, HeapFrom l 0 ∧ l.Perm S ∧ SortedI S ∧ (∀ y ∈ S, y.2.2.2.2 < q) ∧ xs = S.map evOf
theorem plays_nil : Plays [] 0 [] := ⟨[], fun j h0 h1 => absurd h1 (Nat.not_lt_zero _), List.Perm.refl _, List.Pairwise.nil, fun _ h => absurd h List.not_mem_nil, rfl⟩
theorem plays_len {l : List Item} {q : Int} {xs : List Ev} (h : Plays l q xs) : xs.length = l.length := by
  obtain ⟨S, _, hp, _, _, rfl⟩ := h
  rw [List.length_map, hp.length_eq]
theorem plays_heap {l : List Item} {q : Int} {xs : List Ev} (h : Plays l q xs) : HeapFrom l 0 := by
  obtain ⟨S, hh, _⟩ := h
  exact hh
theorem plays_head {l : List Item} {q : Int} {xs : List Ev} (h : Plays l q xs) (h0 : 0 < l.length) : xs.getD 0 ev0 = evOf (l.getD 0 it0) := by
  obtain ⟨S, hh, hp, hs, _, rfl⟩ := h
  cases S with
  | nil => have := hp.length_eq; simp at this; subst this; simp at h0
  | cons x S =>
    have := (pop_head hh hp hs).1
    have h2 : l.getD 0 it0 = x := this
    rw [h2]
    rfl
theorem plays_push {l l' : List Item} {q : Int} {xs : List Ev} {x : Item} (h : Plays l q xs) (hq : x.2.2.2.2 = q) (hl : HeapFrom l' 0) (hp' : l'.Perm (l ++ [x])) : Plays l' (q + 1) (insE xs (evOf x)) := by
  obtain ⟨S, hh, hp, hs, hlt, rfl⟩ := h
  refine ⟨insI S x, hl, ?_, insI_sorted hs (fun y hy => by rw [hq]; exact hlt y hy), fun y hy => ?_, (insE_of S x).symm⟩
  · exact (hp'.trans (List.perm_append_singleton x l)).trans ((List.Perm.cons x hp).trans (insI_perm S x).symm)
  · rcases List.mem_cons.mp ((insI_perm S x).mem_iff.mp hy) with rfl | hy
    · omega
    · have := hlt y hy; omega
theorem plays_pop {l l' : List Item} {q : Int} {xs : List Ev} (h : Plays l q xs) (h0 : 0 < l.length) (hl : HeapFrom l' 0) (hp' : l'.Perm (popL l)) : Plays l' q (xs.drop 1) := by
  obtain ⟨S, hh, hp, hs, hlt, rfl⟩ := h
  cases S with
  | nil => have := hp.length_eq; simp at this; subst this; simp at h0
  | cons x S =>
    exact ⟨S, hl, hp'.trans (pop_head hh hp hs).2, (List.pairwise_cons.mp hs).2, fun y hy => hlt y (List.mem_cons_of_mem _ hy), rfl⟩
def keepI (k : Int) (x : Item) : Bool := decide (x.2.2.1 ≠ k)
theorem plays_drop {l l' : List Item} {q : Int} {xs : List Ev} (k : Int) (h : Plays l q xs) (hl : HeapFrom l' 0) (hp' : l'.Perm (l.filter (keepI k))) : Plays l' q (offE k xs) := by
  obtain ⟨S, hh, hp, hs, hlt, rfl⟩ := h
  exact ⟨S.filter (keepI k), hl, hp'.trans (hp.filter _), hs.filter _, fun y hy => hlt y (List.mem_filter.mp hy).1, (offE_of k S).symm⟩
/-- Where a list was cut down to what is kept: w kept ones ahead, the ones from j on untouched. -/
structure Cutting (l l' : List Item) (k : Int) (w j : Nat) : Prop where
  len : l'.length = l.length
  wj : w ≤ j
  jl : j ≤ l.length
  kept : l'.take w = (l.take j).filter (keepI k)
  rest : l'.drop j = l.drop j
theorem cutting_at {l l' : List Item} {k : Int} {w j : Nat} (h : Cutting l l' k w j) (hj : j < l.length) : at_ l' j = at_ l j := by
  have h1 := congrArg (fun z : List Item => z[0]?) h.rest
  simp only [List.getElem?_drop, Nat.add_zero] at h1
  unfold at_
  rw [List.getD_eq_getElem?_getD, List.getD_eq_getElem?_getD, h1]
theorem cutting_start {l : List Item} {k : Int} {i : Nat} (hi : i < l.length) (ha : ∀ j, j < i → (at_ l j).2.2.1 ≠ k) (hk : (at_ l i).2.2.1 = k) : Cutting l l k i (i + 1) := by
  refine ⟨rfl, by omega, by omega, ?_, rfl⟩
  have h1 : (l.take i).filter (keepI k) = l.take i := by
    refine List.filter_eq_self.mpr fun x hx => ?_
    obtain ⟨j, hj, rfl⟩ := List.getElem_of_mem hx
    rw [List.length_take] at hj
    have := ha j (by omega)
    rw [at_get (by omega)] at this
    rw [List.getElem_take]
    exact decide_eq_true this
  rw [List.take_succ_eq_append_getElem hi, List.filter_append, h1, List.filter_cons]
  rw [at_get hi] at hk
  rw [if_neg (by simp [keepI, hk])]
  simp
theorem cutting_skip {l l' : List Item} {k : Int} {w j : Nat} (h : Cutting l l' k w j) (hj : j < l.length) (hk : (at_ l' j).2.2.1 = k) : Cutting l l' k w (j + 1) := by
  rw [cutting_at h hj, at_get hj] at hk
  refine ⟨h.len, by have := h.wj; omega, hj, ?_, ?_⟩
  · rw [List.take_succ_eq_append_getElem hj, List.filter_append, ← h.kept, List.filter_cons, if_neg (by simp [keepI, hk])]
    simp
  · have := congrArg (fun z : List Item => z.drop 1) h.rest
    simpa [List.drop_drop] using this
theorem cutting_keep {l l' : List Item} {k : Int} {w j : Nat} (h : Cutting l l' k w j) (hj : j < l.length) (hk : (at_ l' j).2.2.1 ≠ k) : Cutting l (l'.set w (at_ l' j)) k (w + 1) (j + 1) := by
  have hwj := h.wj
  have e := cutting_at h hj
  have hk' := hk
  rw [e, at_get hj] at hk'
  have hw : w < l'.length := by rw [h.len]; omega
  refine ⟨by rw [List.length_set, h.len], by omega, hj, ?_, ?_⟩
  · rw [List.take_succ_eq_append_getElem hj, List.filter_append, ← h.kept, List.filter_cons, if_pos (by simp [keepI, hk']), e, at_get hj]
    rw [List.take_succ_eq_append_getElem (by rw [List.length_set]; exact hw), List.getElem_set_self, List.take_set_of_le (Nat.le_refl _)]
    simp
  · rw [List.drop_set_of_lt (by omega)]
    have := congrArg (fun z : List Item => z.drop 1) h.rest
    simpa [List.drop_drop] using this
theorem cutting_end {l l' : List Item} {k : Int} {w j : Nat} (h : Cutting l l' k w j) (hj : l.length ≤ j) : l'.take w = l.filter (keepI k) := by
  rw [h.kept, List.take_of_length_le hj]
theorem keep_all {l : List Item} {k : Int} (ha : ∀ j, j < l.length → (at_ l j).2.2.1 ≠ k) : l.filter (keepI k) = l := by
  refine List.filter_eq_self.mpr fun x hx => ?_
  obtain ⟨j, hj, rfl⟩ := List.getElem_of_mem hx
  have := ha j hj
  rw [at_get hj] at this
  exact decide_eq_true this
end Go.Proofs.YthpinlcfcgnilaaX
