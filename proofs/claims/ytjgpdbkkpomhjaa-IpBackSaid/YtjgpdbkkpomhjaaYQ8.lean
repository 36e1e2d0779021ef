/- Parts of a packet that lie one behind the other: plain definitions and laws. Conditions: none. -/
import Derived.Test.YtjgpdbkkpomhjaaYQ7
import Derived.Test.YtjgpdbkkpomhjaaYJC
import Derived.Test.YtjgpdbkkpomhjaaYJG
namespace Go.Proofs.YtjgpdbkkpomhjaaX
open Go.RowKit
set_option linter.unusedVariables false
/-- A part's bytes. -/
def encP (x : Pk) : List Int := (encI x.1 x.2).1
theorem raw_wsum {h : Ih} {n k : Int} : wsum false (rawI h n k) = wsum false (rawI h n 0) + k := by
  simp only [rawI, wsum]
  omega
theorem fold_fill {s : Int} (h : 0 ≤ s) : fold16 (s + (65535 - fold16 s)) = 65535 := by
  unfold fold16
  split <;> split <;> omega
theorem decI_raw {h : Ih} (hh : h.ok) (h4 : h.x4 < 32768) {d : ByteArray} {N k : Int} (hN : N = 20 + (d.size : Int)) (hn : N ≤ 65535) (hk : 0 ≤ k ∧ k ≤ 65535) (hck : cks (rawI h N k) = 0) : decI (rawI h N k ++ bytesL d) = ((h, d), 0) := by
  have h04 := hh.h4
  have hl : (rawI h N k ++ bytesL d).length = 20 + d.size := by rw [List.length_append, bytesL_length]; rfl
  have ht : totI (rawI h N k ++ bytesL d) = N := by show N / 256 * 256 + N % 256 = N; omega
  have hf : fragI (rawI h N k ++ bytesL d) = h.x4 := by show h.x4 / 256 * 256 + h.x4 % 256 = h.x4; omega
  have h0 : (rawI h N k ++ bytesL d).getD 0 0 = 69 := rfl
  have h20 : (rawI h N k ++ bytesL d).take 20 = rawI h N k := List.take_left' rfl
  have e : hdI (rawI h N k ++ bytesL d) = h := by
    obtain ⟨x0, x1, x2, x3, x4, x5, x6, x7, x8, x9, y0, y1, y2⟩ := h
    show (⟨x0, x1, x2, x3 / 256 * 256 + x3 % 256, x4 / 256 * 256 + x4 % 256, x5, x6, x7, x8, x9, y0, y1, y2⟩ : Ih) = _
    rw [show x3 / 256 * 256 + x3 % 256 = x3 by omega, show x4 / 256 * 256 + x4 % 256 = x4 by omega]
  rw [decI_fine (by omega) (by rw [h0, ht]; omega) (by rw [ht]; omega) (by rw [h20]; exact hck) (by rw [hf]; omega)]
  rw [ht, List.take_of_length_le (by omega), List.drop_left' (show (rawI h N k).length = 20 from rfl), strOf_bytesL, e]
theorem decI_enc {h : Ih} (hh : h.ok) (h4 : h.x4 < 32768) {d : ByteArray} (hd : d.size ≤ 65515) : decI (encI h d).1 = ((h, d), 0) := by
  have hn : 0 ≤ 20 + (d.size : Int) ∧ 20 + (d.size : Int) ≤ 65535 := by omega
  have hs := sumI_range hh hn
  have hE : (encI h d).1 = rawI h (20 + (d.size : Int)) (sumI h (20 + (d.size : Int))) ++ bytesL d := by rw [encI_fine (by omega) (by omega)]
  rw [hE]
  refine decI_raw hh h4 rfl hn.2 hs ?_
  have hw := wsum_bounds (rawI h (20 + (d.size : Int)) 0) false (rawI_bytes hh hn (by omega))
  unfold cks
  rw [raw_wsum]
  unfold sumI cks
  rw [fold_fill hw.1]
  rfl
/-- A part at a place; m: do more come? -/
structure Lnk (s : Nat) (m : Bool) (x : Pk) : Prop where
  pl : plI x * 8 = (s : Int)
  mo : moreI x.1 = m
  sz : m = true → 0 < x.2.size ∧ x.2.size % 8 = 0
/-- Parts that lie one behind the other from a place on. -/
def chn (m : Bool) : Nat → List Pk → Prop
  | _, [] => False
  | s, [x] => Lnk s m x
  | s, x :: y :: r => Lnk s true x ∧ chn m (s + x.2.size) (y :: r)
def catD (l : List Pk) : List Int := l.flatMap fun x => bytesL x.2
theorem catD_cons (x : Pk) (l : List Pk) : catD (x :: l) = bytesL x.2 ++ catD l := List.flatMap_cons
theorem catD_app (l r : List Pk) : catD (l ++ r) = catD l ++ catD r := List.flatMap_append
theorem catD_one (x : Pk) : catD [x] = bytesL x.2 := by rw [catD_cons]; exact List.append_nil _
theorem chn_app {m : Bool} {r : List Pk} : ∀ {l : List Pk} {s : Nat}, chn true s l → chn m (s + (catD l).length) r → chn m s (l ++ r)
  | [], _, h, _ => h.elim
  | [x], s, h, h2 => by
    cases r with
    | nil => exact h2.elim
    | cons y r =>
      refine ⟨h, ?_⟩
      rwa [catD_one, bytesL_length] at h2
  | x :: y :: l, s, h, h2 => by
    refine ⟨h.1, chn_app h.2 ?_⟩
    rwa [catD_cons, List.length_append, bytesL_length, ← Nat.add_assoc] at h2
theorem chn_row : ∀ {l : List Pk} {acc : List Int}, chn false acc.length l → rowI acc l = (acc ++ catD l, true)
  | [], _, h => h.elim
  | [x], acc, h => by
    rw [rowI, if_neg (fun e => e h.pl), if_pos (show ([] : List Pk).length = 0 from rfl), h.mo, catD_one]
    rfl
  | x :: y :: l, acc, h => by
    rw [rowI, if_neg (fun e => e h.1.pl), if_neg (by simp), if_neg (by rw [h.1.mo]; decide), chn_row (acc := acc ++ bytesL x.2) (by rw [List.length_append, bytesL_length]; exact h.2), catD_cons x, List.append_assoc]
theorem chn_low {m : Bool} : ∀ {l : List Pk} {s : Nat}, chn m s l → ∀ x ∈ l, (s : Int) ≤ plI x * 8
  | [], _, h => h.elim
  | [x], s, h => by
    intro y hy
    rw [List.mem_singleton.1 hy, h.pl]
    exact Int.le_refl _
  | x :: y :: l, s, h => by
    intro z hz
    rcases List.mem_cons.1 hz with rfl | hz
    · rw [h.1.pl]; exact Int.le_refl _
    · have := chn_low h.2 z hz
      omega
theorem chn_up {m : Bool} : ∀ {l : List Pk} {s : Nat}, chn m s l → l.Pairwise (fun x y => plI x < plI y)
  | [], _, h => h.elim
  | [x], s, h => List.pairwise_singleton _ _
  | x :: y :: l, s, h => by
    refine List.pairwise_cons.mpr ⟨fun z hz => ?_, chn_up h.2⟩
    have h1 := chn_low h.2 z hz
    have h2 := h.1.pl
    have h3 := (h.1.sz rfl).1
    omega
theorem sorted_one {α : Type} {pl : α → Int} : ∀ {l l' : List α}, l.Pairwise (fun x y => pl x < pl y) → l'.Perm l → SortedP pl l' → l' = l
  | [], l', _, h, _ => List.Perm.eq_nil h
  | x :: r, [], _, h, _ => by have := h.length_eq; simp at this
  | x :: r, y :: t, hu, h, hs => by
    have hu := List.pairwise_cons.mp hu
    have hs2 := List.pairwise_cons.mp hs
    have hxy : y = x := by
      rcases List.mem_cons.1 (h.mem_iff.mp List.mem_cons_self) with e | hy
      · exact e
      · rcases List.mem_cons.1 (h.mem_iff.mpr List.mem_cons_self) with e | hx
        · exact e.symm
        · have h1 := hu.1 y hy
          have h2 := hs2.1 x hx
          omega
    subst hxy
    rw [sorted_one hu.2 (List.Perm.cons_inv h) hs2.2]
theorem chn_map {m : Bool} : ∀ {l l' : List Pk} {s : Nat}, l'.map (fun x : Pk => (x.1.x4, x.2)) = l.map (fun x : Pk => (x.1.x4, x.2)) → chn m s l → chn m s l' ∧ catD l' = catD l
  | [], l', _, _, h => h.elim
  | [x], l', s, e, h => by
    cases l' with
    | nil => simp at e
    | cons x' t =>
      cases t with
      | cons a b => simp at e
      | nil =>
        simp only [List.map_cons, List.map_nil, List.cons.injEq, Prod.mk.injEq, and_true] at e
        refine ⟨⟨?_, ?_, ?_⟩, ?_⟩
        · unfold plI; rw [e.1]; exact h.pl
        · unfold moreI; rw [e.1]; exact h.mo
        · rw [e.2]; exact h.sz
        · rw [catD_one, catD_one, e.2]
  | x :: y :: l, l', s, e, h => by
    cases l' with
    | nil => simp at e
    | cons x' t =>
      cases t with
      | nil => simp at e
      | cons y' t =>
        have e2 := List.cons.inj (show (x'.1.x4, x'.2) :: (y' :: t).map (fun x : Pk => (x.1.x4, x.2)) = (x.1.x4, x.2) :: (y :: l).map (fun x : Pk => (x.1.x4, x.2)) from e)
        have e1 := Prod.mk.inj e2.1
        have ih := chn_map (l := y :: l) (l' := y' :: t) e2.2 h.2
        refine ⟨⟨⟨?_, ?_, ?_⟩, ?_⟩, ?_⟩
        · unfold plI; rw [e1.1]; exact h.1.pl
        · unfold moreI; rw [e1.1]; exact h.1.mo
        · rw [e1.2]; exact h.1.sz
        · rw [e1.2]; exact ih.1
        · rw [catD_cons, catD_cons x, ih.2, e1.2]
/-- Each of a row parted anew. -/
theorem chn_flat {m : Bool} (F : Nat → List Pk) : ∀ {L : List Pk} {s i : Nat}, chn m s L → (∀ j, ∀ hj : j < L.length, ∀ s m, Lnk s m L[j] → chn m s (F (i + j)) ∧ catD (F (i + j)) = bytesL L[j].2) → chn m s ((List.range' i L.length).flatMap F) ∧ catD ((List.range' i L.length).flatMap F) = catD L
  | [], _, _, h, _ => h.elim
  | [x], s, i, h, hF => by
    have h1 := hF 0 (by simp) s m h
    simp only [List.length_singleton, List.range'_one, List.flatMap_singleton]
    rw [catD_one]
    exact h1
  | x :: y :: l, s, i, h, hF => by
    have h1 : chn true s (F i) ∧ catD (F i) = bytesL x.2 := hF 0 (by simp) s true h.1
    have ih := chn_flat F (i := i + 1) h.2 (fun j hj s m hl => by
      have := hF (j + 1) (by simpa using hj) s m hl
      rw [show i + 1 + j = i + (j + 1) by omega]
      exact this)
    rw [show (x :: y :: l).length = (y :: l).length + 1 from rfl, List.range'_succ, List.flatMap_cons]
    refine ⟨chn_app h1.1 ?_, ?_⟩
    · rw [h1.2]
      show chn m (s + (bytesL x.2).length) _
      rw [bytesL_length]
      exact ih.1
    · rw [catD_app, h1.2, ih.2, catD_cons x]
/-- The parts of a part. -/
def sP (x : Pk) (mtu : Int) : List Pk := if 20 + (x.2.size : Int) ≤ mtu then [x] else (List.range (nS x.2 (mS mtu))).map fun j => (frI x.1 (fragS x.1 x.2 (mS mtu) j), datS x.2 (mS mtu) j)
theorem splS_is (x : Pk) (mtu : Int) : splS x.1 x.2 mtu = (sP x mtu).map encP := by
  unfold splS sP
  split
  · rfl
  · rw [List.map_map]; rfl
theorem bytesL_cut (d : ByteArray) (a b : Nat) : bytesL (d.extract a b) = ((bytesL d).take b).drop a := by
  unfold bytesL
  rw [ByteArray.data_extract, Array.toList_extract, List.extract_eq_take_drop, List.drop_take, List.map_take, List.map_drop]
theorem sP_go {x : Pk} {M n s : Nat} {m : Bool} (hM : 0 < M) (h8 : M % 8 = 0) (hl : Lnk s m x) (hp : x.1.x4 % 8192 + (x.2.size : Int) / 8 ≤ 8191) (h1 : (n - 1) * M < x.2.size) (h2 : x.2.size ≤ n * M) : ∀ k j, j + k = n → 0 < k → chn m (s + j * M) ((List.range' j k).map fun j => (frI x.1 (fragS x.1 x.2 M j), datS x.2 M j)) ∧ catD ((List.range' j k).map fun j => (frI x.1 (fragS x.1 x.2 M j), datS x.2 M j)) = (bytesL x.2).drop (j * M)
  | 0, _, _, h => absurd h (Nat.lt_irrefl 0)
  | k + 1, j, hj, _ => by
    have hjn : j * M ≤ (n - 1) * M := Nat.mul_le_mul_right _ (by omega)
    have hjM : (j * M) % 8 = 0 := by rw [Nat.mul_mod, h8]; simp
    have hz : (datS x.2 M j).size = min (j * M + M) x.2.size - j * M := by unfold datS; rw [ByteArray.size_extract]; omega
    have hpl : plI (frI x.1 (fragS x.1 x.2 M j), datS x.2 M j) * 8 = ((s + j * M : Nat) : Int) := by
      have h3 := hl.pl
      show (fragS x.1 x.2 M j) % 8192 * 8 = _
      unfold plI at h3
      unfold fragS moreS
      split <;> omega
    have hmo : moreI (frI x.1 (fragS x.1 x.2 M j)) = if j * M + M < x.2.size then true else m := by
      rw [← hl.mo]
      show (fragS x.1 x.2 M j / 8192 % 2 == 1) = if j * M + M < x.2.size then true else (x.1.x4 / 8192 % 2 == 1)
      unfold fragS moreS
      split
      · rw [show (x.1.x4 % 8192 + ((j * M : Nat) : Int) / 8 + 8192) / 8192 % 2 = 1 by omega]; rfl
      · rw [show (x.1.x4 % 8192 + ((j * M : Nat) : Int) / 8 + x.1.x4 / 8192 % 2 * 8192) / 8192 % 2 = x.1.x4 / 8192 % 2 by omega]
    have hd : bytesL (datS x.2 M j) = ((bytesL x.2).take (min (j * M + M) x.2.size)).drop (j * M) := bytesL_cut _ _ _
    have hs1 : (j + 1) * M = j * M + M := Nat.succ_mul _ _
    cases k with
    | zero =>
      have hn : (j + 1) * M = n * M := by rw [show j + 1 = n by omega]
      have hge : ¬ j * M + M < x.2.size := by omega
      rw [if_neg hge] at hmo
      simp only [Nat.zero_add, List.range'_one, List.map_cons, List.map_nil]
      refine ⟨⟨hpl, hmo, fun hm => ?_⟩, ?_⟩
      · have := hl.sz hm
        show 0 < (datS x.2 M j).size ∧ (datS x.2 M j).size % 8 = 0
        omega
      · rw [catD_one, hd, List.take_of_length_le (by rw [bytesL_length]; omega)]
    | succ k =>
      have hj1 : (j + 1) * M ≤ (n - 1) * M := Nat.mul_le_mul_right _ (by omega)
      have hlt : j * M + M < x.2.size := by omega
      rw [if_pos hlt] at hmo
      have ih := sP_go hM h8 hl hp h1 h2 (k + 1) (j + 1) (by omega) (by omega)
      rw [hs1, ← Nat.add_assoc] at ih
      have hz2 : (datS x.2 M j).size = M := by omega
      rw [List.range'_succ, List.map_cons]
      refine ⟨?_, ?_⟩
      · rw [List.range'_succ, List.map_cons] at ih ⊢
        refine ⟨⟨hpl, hmo, fun _ => ?_⟩, ?_⟩
        · show 0 < (datS x.2 M j).size ∧ (datS x.2 M j).size % 8 = 0
          omega
        · show chn m (s + j * M + (datS x.2 M j).size) _
          rw [hz2]
          exact ih.1
      · rw [catD_cons, ih.2, hd, Nat.min_eq_left (by omega)]
        have e : (bytesL x.2).drop (j * M + M) = ((bytesL x.2).drop (j * M)).drop M := by rw [List.drop_drop]
        rw [List.drop_take, e, show j * M + M - j * M = M by omega, List.take_append_drop]
theorem sP_chn {x : Pk} {s : Nat} {m : Bool} {mtu : Int} (hm : 28 ≤ mtu) (hl : Lnk s m x) (hp : x.1.x4 % 8192 + (x.2.size : Int) / 8 ≤ 8191) : chn m s (sP x mtu) ∧ catD (sP x mtu) = bytesL x.2 := by
  unfold sP
  split
  · exact ⟨hl, catD_one x⟩
  · rename_i h
    have hM : (mS mtu : Int) = (mtu - 20) / 8 * 8 := by unfold mS; omega
    generalize mS mtu = M at hM
    have h0 : 0 < x.2.size := by omega
    have hn : 0 < nS x.2 M := by unfold nS; exact Nat.div_pos (by omega) (by omega)
    have h1 : (nS x.2 M - 1) * M < x.2.size := by
      have h3 : nS x.2 M * M ≤ x.2.size + M - 1 := Nat.div_mul_le_self _ _
      rw [Nat.sub_mul]
      omega
    have h2 : x.2.size ≤ nS x.2 M * M := by
      have h3 := Nat.div_add_mod (x.2.size + M - 1) M
      have h4 := Nat.mod_lt (x.2.size + M - 1) (show M > 0 by omega)
      unfold nS
      rw [Nat.mul_comm] at h3
      omega
    have := sP_go (by omega) (by omega) hl hp h1 h2 (nS x.2 M) 0 (by omega) hn
    rw [Nat.zero_mul, Nat.add_zero, List.drop_zero] at this
    rw [List.range_eq_range']
    exact this
end Go.Proofs.YtjgpdbkkpomhjaaX
