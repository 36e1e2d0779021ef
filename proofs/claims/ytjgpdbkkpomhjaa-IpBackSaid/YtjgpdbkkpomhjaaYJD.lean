/- Parts that were decoded, and their order. Plain definitions and laws. Conditions: none. -/
import Derived.Test.YtjgpdbkkpomhjaaYJB
import Derived.Test.YtjgpdbkkpomhjaaYCR
namespace Go.Proofs.YtjgpdbkkpomhjaaX
open Go.RowKit
set_option linter.unusedVariables false
/-- A part: its header and what it brings. -/
abbrev Pk := Ih × ByteArray
def pk0 : Pk := (ih0, ⟨#[]⟩)
def pkC (x : Pk) : List Value := [.int .u8 x.1.x0, .int .u8 x.1.x1, .int .u8 x.1.x2, .int .u16 x.1.x3, .int .u16 x.1.x4, .int .u8 x.1.x5, .int .u8 x.1.x6, .int .u8 x.1.x7, .int .u8 x.1.x8, .int .u8 x.1.x9, .int .u8 x.1.y0, .int .u8 x.1.y1, .int .u8 x.1.y2, .string x.2]
theorem pkC_len (x : Pk) : (pkC x).length = 14 := rfl
theorem pkC_one (x : Pk) : ∀ u ∈ pkC x, u.oneCell' = true := by
  intro u hu
  simp only [pkC, List.mem_cons, List.not_mem_nil, or_false] at hu
  rcases hu with rfl | rfl | rfl | rfl | rfl | rfl | rfl | rfl | rfl | rfl | rfl | rfl | rfl | rfl <;> rfl
def pkD : D Pk where
  sz := 14
  rep := fun _ x cs => cs = pkC x
  len := by rintro G x cs rfl; rfl
  one := by rintro G x cs rfl; exact pkC_one x
  mono := fun _ h => h
theorem At.pk {G : Mem} {A : Option Addr} {xs : List Pk} (R : List (Nat × Row)) (h : rowAt pkD G A xs) (i : Nat) (hi : i < xs.length) : At G R A (i * 14) (pkC (xs.getD i pk0)) := by
  obtain ⟨cs, h1, h2⟩ := At.of_rowAt R h i hi
  have h1 : cs = pkC xs[i] := h1
  have e : xs.getD i pk0 = xs[i] := by simp [List.getD, hi]
  rw [e, ← h1]
  exact h2
theorem pkD_reps {G : Mem} : ∀ {xs : List Pk}, repsD pkD G xs (xs.flatMap pkC)
  | [] => rfl
  | x :: r => ⟨pkC x, r.flatMap pkC, rfl, rfl, pkD_reps⟩
/-- A part's place. -/
def plI (x : Pk) : Int := x.1.x4 % 8192
def cmpI (a b : Int) : Int := if a < b then -1 else if b < a then 1 else 0
section
variable {α : Type} (pl : α → Int)
/-- Put in behind all that are not behind it. -/
def insP (l : List α) (p : α) : List α := l.takeWhile (fun x => decide (pl x ≤ pl p)) ++ p :: l.dropWhile (fun x => decide (pl x ≤ pl p))
def sortI (l : List α) : List α := l.foldl (insP pl) []
def SortedP (l : List α) : Prop := l.Pairwise (fun x y => pl x ≤ pl y)
variable {pl}
theorem insP_perm (l : List α) (p : α) : (insP pl l p).Perm (p :: l) := by
  unfold insP
  refine List.perm_middle.trans ?_
  rw [List.takeWhile_append_dropWhile]
theorem sortI_snoc (l : List α) (p : α) : sortI pl (l ++ [p]) = insP pl (sortI pl l) p := by
  unfold sortI
  rw [List.foldl_append]
  rfl
theorem sortI_perm : ∀ l : List α, (sortI pl l).Perm l := by
  have key : ∀ (l acc : List α), (l.foldl (insP pl) acc).Perm (acc ++ l) := by
    intro l
    induction l with
    | nil => intro acc; simp
    | cons x l ih =>
      intro acc
      rw [List.foldl_cons]
      refine (ih _).trans ?_
      refine ((insP_perm acc x).append_right l).trans ?_
      rw [List.cons_append]
      exact List.perm_middle.symm
  intro l
  have := key l []
  rwa [List.nil_append] at this
theorem sortI_len (l : List α) : (sortI pl l).length = l.length := (sortI_perm l).length_eq
theorem insP_at {l : List α} {p : α} {k : Nat} (d : α) (hk : k ≤ l.length) (h1 : ∀ j, j < k → pl (l.getD j d) ≤ pl p) (h2 : k = l.length ∨ pl p < pl (l.getD k d)) : insP pl l p = l.take k ++ p :: l.drop k := by
  have ht : l.takeWhile (fun x => decide (pl x ≤ pl p)) = l.take k ∧ l.dropWhile (fun x => decide (pl x ≤ pl p)) = l.drop k := by
    induction l generalizing k with
    | nil => simp at hk; subst hk; simp
    | cons x l ih =>
      cases k with
      | zero =>
        rcases h2 with h2 | h2
        · simp at h2
        · have : ¬ pl x ≤ pl p := by simpa using h2
          simp [this]
      | succ k =>
        have hx : pl x ≤ pl p := by simpa using h1 0 (by omega)
        have hi := ih (k := k) (by simpa using hk) (fun j hj => by simpa using h1 (j + 1) (by omega)) (by simpa using h2)
        simp [hx, hi.1, hi.2]
  unfold insP
  rw [ht.1, ht.2]
theorem SortedP.get {l : List α} (h : SortedP pl l) {i j : Nat} (d : α) (hij : i ≤ j) (hj : j < l.length) : pl (l.getD i d) ≤ pl (l.getD j d) := by
  have hi : i < l.length := by omega
  rcases Nat.lt_or_eq_of_le hij with h1 | rfl
  · have := List.pairwise_iff_getElem.mp h i j hi hj h1
    simpa [List.getD, hi, hj] using this
  · exact Int.le_refl _
theorem insP_sorted {l : List α} (h : SortedP pl l) (p : α) : SortedP pl (insP pl l p) := by
  unfold insP
  induction l with
  | nil => simp [SortedP]
  | cons x l ih =>
    have h := List.pairwise_cons.mp h
    by_cases hx : pl x ≤ pl p
    · have hi := ih h.2
      simp only [List.takeWhile_cons, hx, decide_true, if_true, List.dropWhile_cons, List.cons_append]
      refine List.pairwise_cons.mpr ⟨fun y hy => ?_, hi⟩
      have hy2 : y ∈ p :: l := by
        have := (List.perm_middle (l₁ := l.takeWhile (fun x => decide (pl x ≤ pl p))) (a := p) (l₂ := l.dropWhile (fun x => decide (pl x ≤ pl p)))).mem_iff.mp hy
        rwa [List.takeWhile_append_dropWhile] at this
      rcases List.mem_cons.mp hy2 with rfl | hy3
      · exact hx
      · exact h.1 y hy3
    · simp only [List.takeWhile_cons, hx, decide_false, List.dropWhile_cons, List.nil_append, Bool.false_eq_true, if_false]
      refine List.pairwise_cons.mpr ⟨fun y hy => ?_, List.pairwise_cons.mpr h⟩
      rcases List.mem_cons.mp hy with rfl | hy
      · omega
      · have := h.1 y hy; omega
theorem sortI_sorted (l : List α) : SortedP pl (sortI pl l) := by
  have key : ∀ (l acc : List α), SortedP pl acc → SortedP pl (l.foldl (insP pl) acc) := by
    intro l
    induction l with
    | nil => intro acc h; exact h
    | cons x l ih => intro acc h; exact ih _ (insP_sorted h x)
  exact key l [] List.Pairwise.nil
/-- One on its way through what is in order. -/
def mid (X : List α) (S : List α) (p : α) (Y : List α) (k : Nat) : List α := X ++ (S.take k ++ p :: S.drop k) ++ Y
theorem mid_len (X S : List α) (p : α) (Y : List α) (k : Nat) : (mid X S p Y k).length = X.length + (S.length + 1) + Y.length := by
  simp only [mid, List.length_append, List.length_cons, List.length_take, List.length_drop]
  omega
theorem mid_at {X S Y : List α} {p : α} {k : Nat} (d : α) (hk : k ≤ S.length) : (mid X S p Y k).getD (X.length + k) d = p := by
  simp only [mid, List.getD, List.append_assoc]
  rw [List.getElem?_append_right (by omega), List.getElem?_append_right (by rw [List.length_take]; omega)]
  have : X.length + k - X.length - (S.take k).length = 0 := by rw [List.length_take]; omega
  rw [this]
  rfl
theorem mid_ahead {X S Y : List α} {p : α} {k : Nat} (d : α) (hk : k < S.length) : (mid X S p Y (k + 1)).getD (X.length + k) d = S.getD k d := by
  simp only [mid, List.getD, List.append_assoc]
  rw [List.getElem?_append_right (by omega), List.getElem?_append_left (by rw [List.length_take]; omega), List.getElem?_take, if_pos (by omega), show X.length + k - X.length = k by omega]
theorem mid_swap {X S Y : List α} {p x : α} {k i j : Nat} (d : α) (hk : k < S.length) (hx : x = S.getD k d) (hi : i = X.length + k + 1) (hj : j = X.length + k) : ((mid X S p Y (k + 1)).set i x).set j p = mid X S p Y k := by
  subst hi hj hx
  have e : S.take (k + 1) = S.take k ++ [S.getD k d] := by rw [List.take_succ_eq_append_getElem hk]; simp [List.getD, hk]
  have e2 : S.drop k = S.getD k d :: S.drop (k + 1) := by rw [List.drop_eq_getElem_cons hk]; simp [List.getD, hk]
  have hl : (S.take k).length = k := by rw [List.length_take]; omega
  simp only [mid, e, e2, List.append_assoc]
  rw [List.set_append, if_neg (by omega), List.set_append, if_neg (by omega), List.set_append, if_neg (by omega), List.set_append, if_neg (by omega)]
  rw [show X.length + k + 1 - X.length - (S.take k).length = 1 by omega, show X.length + k - X.length - (S.take k).length = 0 by omega]
  rfl
theorem mid_ins {X S Y : List α} {p : α} {k : Nat} (d : α) (hS : SortedP pl S) (hk : k ≤ S.length) (h1 : k = 0 ∨ pl (S.getD (k - 1) d) ≤ pl p) (h2 : k = S.length ∨ pl p < pl (S.getD k d)) : mid X S p Y k = X ++ insP pl S p ++ Y := by
  rw [insP_at d hk (fun j hj => ?_) h2]
  · rfl
  · rcases h1 with h1 | h1
    · omega
    · exact Int.le_trans (hS.get d (by omega) (by omega)) h1
theorem mid_step {X S Y : List α} {p : α} {k a i j : Nat} (d : α) (hX : X.length = a) (hk : k < S.length) {l : List α} (hl : l = mid X S p Y (k + 1)) (hi : i = a + k + 1) (hj : j = a + k) : (l.set i (l.getD j d)).set j (l.getD i d) = mid X S p Y k := by
  have h1 : l.getD i d = p := by
    rw [hl, hi, ← hX, Nat.add_assoc]
    exact mid_at d (by omega)
  have h2 : l.getD j d = S.getD k d := by
    rw [hl, hj, ← hX]
    exact mid_ahead d hk
  rw [h1, h2, hl]
  exact mid_swap d hk rfl (by rw [hX]; exact hi) (by rw [hX]; exact hj)
theorem mid_mem {X S Y : List α} {p : α} {k : Nat} {x : α} (h : x ∈ mid X S p Y k) : x ∈ X ∨ x ∈ S ∨ x = p ∨ x ∈ Y := by
  simp only [mid, List.mem_append, List.mem_cons] at h
  rcases h with (h | h | h | h) | h
  · exact .inl h
  · exact .inr (.inl (List.mem_of_mem_take h))
  · exact .inr (.inr (.inl h))
  · exact .inr (.inl (List.mem_of_mem_drop h))
  · exact .inr (.inr (.inr h))
/-- A row whose places from a on, below i, are put in order. -/
def insR (pl : α → Int) (l : List α) (a i : Nat) : List α := l.take a ++ sortI pl ((l.take i).drop a) ++ l.drop i
variable {pl : α → Int}
theorem insR_mid {l : List α} {a i : Nat} (d : α) (ha : a ≤ i) (hi : i < l.length) : insR pl l a i = mid (l.take a) (sortI pl ((l.take i).drop a)) (l.getD i d) (l.drop (i + 1)) (sortI pl ((l.take i).drop a)).length := by
  have e : l.drop i = l.getD i d :: l.drop (i + 1) := by rw [List.drop_eq_getElem_cons hi]; simp [List.getD, hi]
  simp only [insR, mid, e, List.take_length, List.drop_length, List.append_assoc]
  rfl
theorem insR_next {l : List α} {a i : Nat} (d : α) (ha : a ≤ i) (hi : i < l.length) : l.take a ++ insP pl (sortI pl ((l.take i).drop a)) (l.getD i d) ++ l.drop (i + 1) = insR pl l a (i + 1) := by
  have e : (l.take (i + 1)).drop a = (l.take i).drop a ++ [l.getD i d] := by
    rw [List.take_succ_eq_append_getElem hi, List.drop_append_of_le_length (by rw [List.length_take]; omega)]
    simp [List.getD, hi]
  unfold insR
  rw [e, sortI_snoc]
theorem insR_one (l : List α) (a : Nat) : insR pl l a (a + 1) = l := by
  unfold insR
  have : sortI pl ((l.take (a + 1)).drop a) = (l.take (a + 1)).drop a := by
    rcases h : (l.take (a + 1)).drop a with _ | ⟨x, _ | ⟨y, r⟩⟩
    · rfl
    · rfl
    · have := congrArg List.length h
      simp only [List.length_drop, List.length_take, List.length_cons] at this
      omega
  rw [this]
  have e2 : l.take a ++ (l.take (a + 1)).drop a = l.take (a + 1) := by
    rcases Nat.lt_or_ge a l.length with h | h
    · rw [List.take_succ_eq_append_getElem h, List.drop_append_of_le_length (by rw [List.length_take]; omega), List.drop_of_length_le (by rw [List.length_take]; omega), List.nil_append]
    · rw [List.take_of_length_le h, List.take_of_length_le (by omega), List.drop_of_length_le h, List.append_nil]
  rw [e2, List.take_append_drop]
theorem insR_same (l : List α) (a : Nat) : insR pl l a a = l := by
  unfold insR
  rw [List.drop_of_length_le (by rw [List.length_take]; omega)]
  show l.take a ++ [] ++ l.drop a = l
  rw [List.append_nil, List.take_append_drop]
theorem insR_len (l : List α) {a i : Nat} (ha : a ≤ i) : (insR pl l a i).length = l.length := by
  unfold insR
  simp only [List.length_append, sortI_len, List.length_take, List.length_drop]
  omega
theorem insR_perm (l : List α) {a i : Nat} (ha : a ≤ i) : (insR pl l a i).Perm l := by
  unfold insR
  have h1 : (l.take a ++ sortI pl ((l.take i).drop a) ++ l.drop i).Perm (l.take a ++ (l.take i).drop a ++ l.drop i) := ((sortI_perm _).append_left _).append_right _
  refine h1.trans ?_
  have e2 : l.take a ++ (l.take i).drop a = l.take i := by
    have := List.take_append_drop a (l.take i)
    rwa [List.take_take, Nat.min_eq_left ha] at this
  rw [e2, List.take_append_drop]
theorem getD_mem {l : List α} {i : Nat} {d : α} (h : i < l.length) : l.getD i d ∈ l := by
  have : l.getD i d = l[i] := by simp [List.getD, h]
  rw [this]
  exact List.getElem_mem h
end
theorem cmpI_lt {a b : Int} : cmpI a b < 0 ↔ a < b := by
  unfold cmpI
  split
  · simp; omega
  · split <;> simp <;> omega
end Go.Proofs.YtjgpdbkkpomhjaaX
