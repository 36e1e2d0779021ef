/- Pointers beside pointers; heaps that are merged: plain laws. Conditions: none. -/
import Derived.Test.YthpinlcfcgnilaaYH7
import Derived.Test.YthpinlcfcgnilaaZC
import Derived.LaidEqlPtr
namespace Go.Proofs.YthpinlcfcgnilaaX
open Go.RowKit
set_option linter.unusedVariables false
set_option linter.unusedSimpArgs false
section
variable {C : Ctx} {k : List CK} {s : S} {R : List (Nat × Row)} {G : Mem} {arr : Array Oper} {o : Oper} {r : List Oper}
theorem X.eqOwnSame {t t' e b n : Nat} {x y : Operand} (hop : o.op = .binOp .eql t x y t') (hgd : ∀ g g', spure C.P (eqGuard .eql t x y (ptr g 0) (ptr g' 0)) = some ()) (hx : s.ev x = some (.own b 0)) (hy : s.ev y = some (.own b 0)) (hu : C.P.underlying t = some (.pointer e)) (hi : (C.P.info? e).map (fun i => i.size) = some (n + 1)) (hg : (guardOk s arr o && s.can o.dst) = true)
    (H : X C (.ops arr r) k (s.put o.dst (.v (.bool true))) R G) : X C (.ops arr (o :: r)) k s R G := by
  simp only [Bool.and_eq_true] at hg
  refine X.val _ hg.1 hg.2 (fun ρ a w hs => ?_) H
  simp only [execOp, hop, hs.ev hx, hs.ev hy, AV.real]
  refine run_v ?_
  have h1 := spure_run (hgd (ρ b) (ρ b)) w
  simp only [ptr] at h1 ⊢
  rw [run_bind_ok h1]
  obtain ⟨j, hj, hz⟩ := Option.map_eq_some_iff.mp hi
  exact run_eql_ptr_same w _ hu hj
theorem X.eqOwnOther {t t' e b b' n : Nat} {x y : Operand} {B B' : Box} (hop : o.op = .binOp .eql t x y t') (hgd : ∀ g g', spure C.P (eqGuard .eql t x y (ptr g 0) (ptr g' 0)) = some ()) (hx : s.ev x = some (.own b 0)) (hy : s.ev y = some (.own b' 0)) (hb : lk s.boxes b = some B) (hb' : lk s.boxes b' = some B') (hne : Nat.beq b b' = false) (hu : C.P.underlying t = some (.pointer e)) (hi : (C.P.info? e).map (fun i => i.size) = some (n + 1)) (hg : (guardOk s arr o && s.can o.dst) = true)
    (H : X C (.ops arr r) k (s.put o.dst (.v (.bool false))) R G) : X C (.ops arr (o :: r)) k s R G := by
  simp only [Bool.and_eq_true] at hg
  refine X.val _ hg.1 hg.2 (fun ρ a w hs => ?_) H
  simp only [execOp, hop, hs.ev hx, hs.ev hy, AV.real]
  refine run_v ?_
  have h1 := spure_run (hgd (ρ b) (ρ b')) w
  have hn : ρ b ≠ ρ b' := fun h3 => Nat.ne_of_beq_eq_false hne (hs.bi b b' B B' hb hb' h3)
  simp only [ptr] at h1 ⊢
  rw [run_bind_ok h1]
  obtain ⟨j, hj, hz⟩ := Option.map_eq_some_iff.mp hi
  exact run_eql_ptr_other w hu hj (by omega) (fun e => hn (congrArg Addr.block e)) (hs.bx b B hb) (hs.bx b' B' hb')
/-- make: a row of a told length, of whatever size. -/
theorem made_many (zc : Array Value) {α : Type} {f : α → List Value} {d : α} (hf : f d = zc.toList) (hp : 0 < zc.size) (n : Nat) : (madeCells zc (n * zc.size)).toList = (List.replicate n d).flatMap f := by
  have hl : ∀ m, ((List.replicate m d).flatMap f).length = m * zc.size := fun m => by
    induction m with
    | zero => simp
    | succ m ih => rw [List.replicate_succ, List.flatMap_cons, List.length_append, ih, hf, Array.length_toList, Nat.add_mul, Nat.one_mul, Nat.add_comm]
  have key : ∀ m i, i < m * zc.size → ((List.replicate m d).flatMap f)[i]? = some zc[i % zc.size]! := by
    intro m
    induction m with
    | zero => intro i hi; simp at hi
    | succ m ih =>
      intro i hi
      rw [List.replicate_succ, List.flatMap_cons, hf]
      by_cases h : i < zc.size
      · rw [List.getElem?_append_left (by simpa using h), Nat.mod_eq_of_lt h]
        simp [h]
      · have hz : zc.toList.length = zc.size := Array.length_toList
        rw [List.getElem?_append_right (by omega), hz, ih (i - zc.size) (by rw [Nat.add_mul, Nat.one_mul] at hi; omega), Nat.mod_eq_sub_mod (by omega : zc.size ≤ i)]
  apply List.ext_getElem?
  intro i
  by_cases h : i < n * zc.size
  · rw [key n i h]
    simp [madeCells, h]
  · rw [List.getElem?_eq_none (by rw [Array.length_toList, size_madeCells]; omega), List.getElem?_eq_none (by rw [hl]; omega)]
theorem X.makeK {α : Type} {t e bytes size : Nat} (nm : Nat) (z : Value) (f : α → List Value) (d : α) {x y : Operand} {n : Nat} (hop : o.op = .makeSlice t x y) (hx : s.ev x = some (.v (.int .i64 (n : Int)))) (hy : s.ev y = some (.v (.int .i64 (n : Int))))
    (ht : C.P.underlying t = some (.slice e)) (hinfo : (C.P.info? e).map (fun i => (i.zero, i.size, i.bytes)) = some (some z, size, bytes)) (hz : f d = z.cells.toList) (hs0 : z.cells.size = size) (hp : 0 < size) (hg : (guardOk s arr o && s.can o.dst) = true) (hb : bytes * n ≤ 281474976710656) (hm : n ≤ 1000000) (hc : n * size ≤ 16777216)
    (H : ∀ A, X C (.ops arr r) k (s.put o.dst (.v (.slice A n n))) ((nm, ⟨e, size, .slice A n n, n, (List.replicate n d).flatMap f⟩) :: R) G) : X C (.ops arr (o :: r)) k s R G := by
  simp only [Bool.and_eq_true] at hg
  refine X.op hg.1 fun ρ a w hs next hnx => ?_
  obtain ⟨i0, hi, hzz⟩ := Option.map_eq_some_iff.1 hinfo
  simp only [Prod.mk.injEq] at hzz
  obtain ⟨hz0, hz1, hz2⟩ := hzz
  obtain ⟨w', r1, r2, r3⟩ := run_makeSlice_full (w := w) (P := C.P) 0 t e i0 z size ht hi hz0 hz1 .i64 .i64 n hc (by rw [hz2]; exact hb) (by simp only [maxLen]; omega) (Nat.zero_le _)
  rw [← hs0, made_many z.cells hz (by omega)] at r2
  rw [hs0] at r2
  have hrun : (execOp a.eval o).run C.P w = .ok (.value (.slice (some ⟨w.heap.size, 0, none⟩) n n)) w' := by
    unfold execOp
    simp only [hop, hs.ev hx, hs.ev hy, AV.real]
    exact run_v r1
  refine wp_value hrun (hnx ρ _ _ _ _ _ (H (some ⟨w.heap.size, 0, none⟩)) ?_)
  exact (hs.row nm (q := ⟨e, size, .slice (some ⟨w.heap.size, 0, none⟩) n n, n, (List.replicate n d).flatMap f⟩) (old := none) (fun g h => by cases h) r3 r2 (fun g hg' => .inr (by simp [Value.ownBlock] at hg'; omega))).put (x := .v _) hg.2
end
theorem X.rowIs {C : Ctx} {k : List CK} {s : S} {R : List (Nat × Row)} {G : Mem} {cur : Cur} {i n c : Nat} {q : Row} {A : Option Addr} (hq : lk R i = some q) (hqv : q.v = .slice A n c) (hn : q.n = n) (h0 : 0 < n) (H : A.isNone = false → X C cur k s R G) : X C cur k s R G := fun ρ a w hs => by
  obtain ⟨o1, o2⟩ := hs.rw i q hq
  have hb : A.isNone = false := by
    rcases o2 with ⟨h2, h3⟩ | ⟨g, cap, cur', h2, _⟩
    · omega
    · rw [hqv] at h2
      injection h2 with h4
      rw [h4]
      rfl
  exact H hb ρ a w hs
theorem ones_it {l : List Item} : ∀ u ∈ l.flatMap itC, u.oneCell' = true := fun u hu => by
  obtain ⟨x, _, hx⟩ := List.mem_flatMap.mp hu
  simp only [itC, List.mem_cons, List.not_mem_nil, or_false] at hx
  rcases hx with rfl | rfl | rfl | rfl | rfl <;> rfl
/-- Put in one behind the other. -/
def insF (xs ys : List Ev) : List Ev := ys.foldl insE xs
theorem insE_len : ∀ (xs : List Ev) (e : Ev), (insE xs e).length = xs.length + 1
  | [], e => rfl
  | x :: xs, e => by
    unfold insE
    split
    · simp [insE_len xs e]
    · simp
theorem insF_len (xs : List Ev) : ∀ ys : List Ev, (insF xs ys).length = xs.length + ys.length := by
  intro ys
  induction ys generalizing xs with
  | nil => rfl
  | cons y ys ih =>
    show (insF (insE xs y) ys).length = _
    rw [ih, insE_len, List.length_cons]
    omega
theorem insF_step {xs ys : List Ev} {j : Nat} (h : j < ys.length) : insF xs (ys.take (j + 1)) = insE (insF xs (ys.take j)) (ys.getD j ev0) := by
  unfold insF
  rw [List.take_succ_eq_append_getElem h, List.foldl_append]
  simp [List.getD, h]
theorem insF_all {xs ys : List Ev} {j : Nat} (h : ys.length ≤ j) : insF xs (ys.take j) = insF xs ys := by rw [List.take_of_length_le h]
/-- Two lists of the same items, both rising, are one. -/
theorem asc_unique : ∀ {S s : List Item}, SortedI S → AscI s → s.Perm S → s = S := by
  intro S
  induction S with
  | nil => intro s _ _ h; exact h.eq_nil
  | cons x S ih =>
    intro s hS hs hp
    cases s with
    | nil => have := hp.length_eq; simp at this
    | cons y t =>
      obtain ⟨hx, hS2⟩ := List.pairwise_cons.mp hS
      have hxy : x = y := by
        by_cases e : x = y
        · exact e
        · exfalso
          have hy : y ∈ S := by
            have := hp.mem_iff.mp (List.mem_cons_self)
            rcases List.mem_cons.mp this with h | h
            · exact absurd h.symm e
            · exact h
          have hlt : ltI x y := hx y hy
          have hxt : x ∈ t := by
            have := hp.mem_iff.mpr (List.mem_cons_self)
            rcases List.mem_cons.mp this with h | h
            · exact absurd h e
            · exact h
          obtain ⟨i, hi, he⟩ := List.getElem_of_mem hxt
          have := hs 0 (i + 1) (by omega) (by simpa using hi)
          have e1 : at_ (y :: t) (i + 1) = x := by simp [at_, List.getD, hi, he]
          have e2 : at_ (y :: t) 0 = y := rfl
          rw [e1, e2] at this
          exact this hlt
      subst hxy
      have ht : AscI t := fun i j hij hj => by
        have := hs (i + 1) (j + 1) (by omega) (by simpa using hj)
        exact this
      rw [ih hS2 ht (List.Perm.cons_inv hp)]
theorem asc_plays {l s : List Item} {q : Int} {xs : List Ev} (h : Plays l q xs) (hp : s.Perm l) (hs : AscI s) : s.map evOf = xs := by
  obtain ⟨S, _, hpS, hS, _, rfl⟩ := h
  rw [asc_unique hS hs (hp.trans hpS)]
/-- Told one by one. -/
theorem told_all {s : List Item} {e : List Ev} (hl : e.length = s.length) (h : ∀ j, j < s.length → e.getD j ev0 = evOf (at_ s j)) : e = s.map evOf := by
  apply List.ext_getElem (by simpa using hl)
  intro j h1 h2
  have := h j (by omega)
  simp only [List.getD, h1, List.getElem?_eq_getElem, Option.getD_some, at_] at this
  rw [List.getElem_map, this]
  have h3 : j < s.length := by omega
  simp [List.getD, h3]
theorem told_step {s : List Item} {e : List Ev} {i : Nat} (hi : i < e.length) (h : ∀ j, j < i → e.getD j ev0 = evOf (at_ s j)) : ∀ j, j < i + 1 → (e.set i (evOf (at_ s i))).getD j ev0 = evOf (at_ s j) := by
  intro j hj
  by_cases he : j = i
  · subst he
    simp [List.getD, hi]
  · have h1 := h j (by omega)
    simp only [List.getD] at h1 ⊢
    rw [List.getElem?_set_ne (by omega)]
    exact h1
end Go.Proofs.YthpinlcfcgnilaaX
