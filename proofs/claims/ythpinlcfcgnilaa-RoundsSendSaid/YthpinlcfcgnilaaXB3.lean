/- Rounds that go on: words and plain laws. Conditions: none. -/
import Derived.Test.YthpinlcfcgnilaaXB2
namespace Go.Proofs.YthpinlcfcgnilaaX
open Go.RowKit
set_option linter.unusedVariables false
def sumI : List Int → Int
  | [] => 0
  | x :: l => x + sumI l
theorem sumI_snoc (l : List Int) (x : Int) : sumI (l ++ [x]) = sumI l + x := by
  induction l with
  | nil => simp [sumI]
  | cons y l ih => simp only [List.cons_append, sumI, ih]; omega
theorem sumI_take {l : List Int} {i : Nat} (h : i < l.length) : sumI (l.take (i + 1)) = sumI (l.take i) + l.getD i 0 := by
  rw [List.take_succ_eq_append_getElem h, sumI_snoc]
  simp [h]
theorem sumI_bounds {l : List Int} (h : ∀ x ∈ l, 0 ≤ x ∧ x ≤ 1073741824) : 0 ≤ sumI l ∧ sumI l ≤ l.length * 1073741824 := by
  induction l with
  | nil => simp [sumI]
  | cons y l ih =>
    have h1 := ih (fun x hx => h x (by simp [hx]))
    have h2 := h y (by simp)
    simp only [sumI, List.length_cons]
    push_cast
    omega
def quI (p : Int) (ws : List Int) : Int := max (sumI ws - p) 0
def nH (mk : Bool) (h : Int) : Int := if mk = true then tw h 1048576 else tw h 0
def nW (mk : Bool) (m u h : Int) : Int := if mk = true then max (u - pt u (h / 2)) (2 * m) else min (u + m) 1073741824
def mkd (p st : Int) (ws : List Int) : Bool := decide (quI p ws > st)
/-- The first k flows have gone a round. -/
def mixH (mk : Bool) (hs : List Int) (n k : Nat) : List Int := (List.range n).map (fun j => if j < k then nH mk (hs.getD j 0) else hs.getD j 0)
def mixW (mk : Bool) (m : Int) (ws hs : List Int) (n k : Nat) : List Int := (List.range n).map (fun j => if j < k then nW mk m (ws.getD j 0) (nH mk (hs.getD j 0)) else ws.getD j 0)
theorem mixH_len (mk : Bool) (hs : List Int) (n k : Nat) : (mixH mk hs n k).length = n := by simp [mixH]
theorem mixW_len (mk : Bool) (m : Int) (ws hs : List Int) (n k : Nat) : (mixW mk m ws hs n k).length = n := by simp [mixW]
theorem mixH_at {mk : Bool} {hs : List Int} {n k j : Nat} (h : j < n) : (mixH mk hs n k).getD j 0 = if j < k then nH mk (hs.getD j 0) else hs.getD j 0 := by
  simp [mixH, List.getD, h]
theorem mixW_at {mk : Bool} {m : Int} {ws hs : List Int} {n k j : Nat} (h : j < n) : (mixW mk m ws hs n k).getD j 0 = if j < k then nW mk m (ws.getD j 0) (nH mk (hs.getD j 0)) else ws.getD j 0 := by
  simp [mixW, List.getD, h]
theorem mixH_zero (mk : Bool) {hs : List Int} {n : Nat} (h : hs.length = n) : mixH mk hs n 0 = hs := by
  apply List.ext_getElem
  · rw [mixH_len, h]
  · intro i h1 h2
    simp [mixH, List.getD, h2]
theorem mixW_zero (mk : Bool) (m : Int) (hs : List Int) {ws : List Int} {n : Nat} (h : ws.length = n) : mixW mk m ws hs n 0 = ws := by
  apply List.ext_getElem
  · rw [mixW_len, h]
  · intro i h1 h2
    simp [mixW, List.getD, h2]
theorem mixH_set {mk : Bool} {hs : List Int} {n k : Nat} {x : Int} (h : x = nH mk (hs.getD k 0)) : (mixH mk hs n k).set k x = mixH mk hs n (k + 1) := by
  subst h
  apply List.ext_getElem
  · simp [mixH]
  · intro i h1 h2
    rw [List.getElem_set]
    simp only [mixH, List.getElem_map, List.getElem_range]
    by_cases e : k = i
    · subst e; simp
    · rw [if_neg e]
      by_cases e2 : i < k
      · rw [if_pos e2, if_pos (by omega)]
      · rw [if_neg e2, if_neg (by omega)]
theorem mixW_set {mk : Bool} {m : Int} {ws hs : List Int} {n k : Nat} {x : Int} (h : x = nW mk m (ws.getD k 0) (nH mk (hs.getD k 0))) : (mixW mk m ws hs n k).set k x = mixW mk m ws hs n (k + 1) := by
  subst h
  apply List.ext_getElem
  · simp [mixW]
  · intro i h1 h2
    rw [List.getElem_set]
    simp only [mixW, List.getElem_map, List.getElem_range]
    by_cases e : k = i
    · subst e; simp
    · rw [if_neg e]
      by_cases e2 : i < k
      · rw [if_pos e2, if_pos (by omega)]
      · rw [if_neg e2, if_neg (by omega)]
def nextH (mk : Bool) (hs : List Int) (n : Nat) : List Int := mixH mk hs n n
def nextW (mk : Bool) (m : Int) (ws hs : List Int) (n : Nat) : List Int := mixW mk m ws hs n n
theorem cW_range {ms : Int} {ws : List Int} {n : Nat} : ∀ x ∈ cW ms ws n, 2 * cM ms ≤ x ∧ x ≤ 1073741824 := by
  intro x hx
  obtain ⟨i, _, rfl⟩ := List.mem_map.mp hx
  have := cM_range ms
  unfold cw
  omega
theorem cH_range {hs : List Int} {n : Nat} : ∀ x ∈ cH hs n, 0 ≤ x ∧ x ≤ 1048576 := by
  intro x hx
  obtain ⟨i, _, rfl⟩ := List.mem_map.mp hx
  unfold ch
  omega
theorem tw_range {x y : Int} (hx : 0 ≤ x ∧ x ≤ 1048576) (hy : 0 ≤ y ∧ y ≤ 1048576) : 0 ≤ tw x y ∧ tw x y ≤ 1048576 := by
  unfold tw
  omega
theorem nH_range {mk : Bool} {h : Int} (hh : 0 ≤ h ∧ h ≤ 1048576) : 0 ≤ nH mk h ∧ nH mk h ≤ 1048576 := by
  unfold nH
  split
  · exact tw_range hh (by omega)
  · exact tw_range hh (by omega)
theorem pt_range {u f : Int} (hu : 0 ≤ u ∧ u ≤ 1073741824) (hf : 0 ≤ f ∧ f ≤ 1048576) : 0 ≤ pt u f ∧ pt u f ≤ u := by
  unfold pt
  have h1 : 0 ≤ u * f := Int.mul_nonneg hu.1 hf.1
  have h2 : u * f ≤ u * 1048576 := Int.mul_le_mul_of_nonneg_left hf.2 hu.1
  omega
theorem nW_range {mk : Bool} {m u h : Int} (hm : 1 ≤ m ∧ m ≤ 65536) (hu : 2 * m ≤ u ∧ u ≤ 1073741824) (hh : 0 ≤ h ∧ h ≤ 1048576) : 2 * m ≤ nW mk m u h ∧ nW mk m u h ≤ 1073741824 := by
  have h1 := pt_range (u := u) (f := h / 2) (by omega) (by omega)
  unfold nW
  split <;> omega
end Go.Proofs.YthpinlcfcgnilaaX
