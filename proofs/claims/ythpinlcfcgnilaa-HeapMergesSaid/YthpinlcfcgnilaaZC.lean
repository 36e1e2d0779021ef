/- slices.SortFunc of items, as a call that writes into a row of the own; plain. Conditions: none. -/
import Derived.Test.YthpinlcfcgnilaaZZ
import Derived.Test.YthpinlcfcgnilaaZR
import Derived.Test.YthpinlcfcgnilaaYHQ
import Derived.Test.YthpinlcfcgnilaaYCR
namespace Go.Proofs.YthpinlcfcgnilaaX
open Go.RowKit
set_option linter.unusedVariables false
set_option linter.unusedSimpArgs false
instance : Inhabited Item := ⟨it0⟩
/-- What the program's own comparing function says. -/
def cfI (x y : Item) : Int := Go.Proofs.YthpinlcfcgnilaaZ.orI (Go.Proofs.YthpinlcfcgnilaaZ.cmpI x.1 y.1) (Go.Proofs.YthpinlcfcgnilaaZ.cmpI x.2.2.2.2 y.2.2.2.2)
theorem ltOf_cfI (x y : Item) : Go.Proofs.ltOf cfI x y = decide (ltI x y) := by
  unfold Go.Proofs.ltOf cfI ltI Go.Proofs.YthpinlcfcgnilaaZ.orI Go.Proofs.YthpinlcfcgnilaaZ.cmpI
  apply decide_eq_decide.mpr
  constructor
  · intro h
    by_cases h1 : x.1 < y.1
    · exact .inl h1
    · by_cases h2 : y.1 < x.1
      · simp [h1, h2] at h
      · simp [h1, h2] at h
        by_cases h3 : x.2.2.2.2 < y.2.2.2.2
        · exact .inr ⟨by omega, h3⟩
        · by_cases h4 : y.2.2.2.2 < x.2.2.2.2
          · simp [h3, h4] at h
          · simp [h3, h4] at h
  · rintro (h | ⟨h1, h2⟩)
    · simp [h]
    · rw [if_neg (show ¬ x.1 < y.1 by omega), if_neg (show ¬ y.1 < x.1 by omega), if_pos h2]
      simp
theorem swo_cfI : Go.Sort.SWO (Go.Proofs.ltOf cfI) where
  irrefl x := by rw [ltOf_cfI]; exact decide_eq_false (ltI_irr x)
  trans x y z h k := by
    rw [ltOf_cfI] at *
    exact decide_eq_true (lt_tr (of_decide_eq_true h) (of_decide_eq_true k))
  ntrans x y z h k := by
    rw [ltOf_cfI] at *
    exact decide_eq_false (le_tr (a := z) (b := y) (c := x) (of_decide_eq_false k) (of_decide_eq_false h))
/-- Whatever was there stays, and the draws went up: so many draws, and new blocks. -/
theorem world_grown {w w' : World} (h : Go.Proofs.YthpinlcfcgnilaaZ.BelowD w.heap.size w w') : ∃ q os', w' = Go.Sort.grow (w.drewN q) os' := by
  refine ⟨w'.drawn - w.drawn, w'.heap.extract w.heap.size w'.heap.size, ?_⟩
  have e1 : w.drawn + (w'.drawn - w.drawn) = w'.drawn := Nat.add_sub_of_le h.drawn
  have e2 : w.heap ++ w'.heap.extract w.heap.size w'.heap.size = w'.heap := by
    apply Array.ext_getElem?
    intro k
    rw [Array.getElem?_append]
    by_cases hk : k < w.heap.size
    · rw [if_pos hk, h.block k hk]
    · rw [if_neg hk, Array.getElem?_extract]
      split
      · congr 1; omega
      · rename_i h2
        rw [Array.getElem?_eq_none]
        omega
  have h1 := h.os
  have h2 := h.tape
  have h3 := h.output
  unfold Go.Sort.grow World.drewN
  rw [e1]
  cases w
  cases w'
  simp only at *
  rw [e2]
  subst h1 h2 h3
  rfl
theorem cmp77 (x y : Item) (W : World) : Calls Try.prog 77 (#[.agg (itC x).toArray, .agg (itC y).toArray] ++ #[]) W fun e w' => e = .returned (.int .i64 (cfI x y)) ∧ ∃ q os', w' = Go.Sort.grow (W.drewN q) os' := by
  have h := Go.Proofs.YthpinlcfcgnilaaZ.less77_ok x.1 x.2.1 x.2.2.1 x.2.2.2.1 x.2.2.2.2 y.1 y.2.1 y.2.2.1 y.2.2.2.1 y.2.2.2.2 (fun _ => none) W (fun _ _ h => by cases h)
  exact h.mono fun e w' ⟨v, G', rows, h1, h2, _, _, _, h6, _⟩ => ⟨by rw [h1, h6]; rfl, world_grown h2⟩
theorem flatK_items (l : List Item) : Go.Sort.flatK itC 5 l.toArray = (l.flatMap itC).toArray := by
  refine Go.Sort.ext_get! (by simp [flat_len itC_len]) fun t ht => ?_
  have ht' : t < l.length * 5 := by simpa using ht
  rw [Go.Sort.get_flatK _ _ _ _ (by simpa using ht')]
  have hq : t / 5 < l.length := by omega
  have h := flat_at itC_len l (t / 5) (t % 5) it0 hq (Nat.mod_lt _ (by decide))
  rw [show t / 5 * 5 + t % 5 = t by omega] at h
  have e : l.toArray[t / 5]! = l.getD (t / 5) it0 := by simp [List.getD, hq]
  rw [e]
  have h1 : (l.flatMap itC).toArray[t]! = ((l.flatMap itC)[t]?).getD default := by simp
  rw [h1, h]
  simp
/-- Sorted by At and order. -/
def AscI (l : List Item) : Prop := ∀ i j, i < j → j < l.length → ¬ ltI (at_ l j) (at_ l i)
theorem Sort76_ok (A : Option Addr) (n c : Nat) (l : List Item) (G : Mem) (hl : l.length = n) (h0 : 0 < n) (hn : n < 4611686018427387904) : CallsR Try.prog 76 [.v (.slice A n c), .fn 77 []] G ⟨89, 5, .slice A n c, n, l.flatMap itC⟩ (fun v cs => v = .tuple #[] ∧ ∃ l', l'.Perm l ∧ AscI l' ∧ cs = l'.flatMap itC) := by
  intro w vs hcl hw hq hg
  simp only [clAll, clAV, Option.some.injEq] at hcl
  subst hcl
  obtain ⟨h1, h2⟩ := hq
  rcases h2 with ⟨_, h3⟩ | ⟨g, cap, cur, hv, _, hh, hle, hcm, hcs, htk⟩
  · simp only at h3; omega
  simp only at h1 hv hh hle hcs htk
  injection hv with hv1 hv2 hv3
  subst hv1 hv3
  have hlt : g < w.heap.size := (Array.getElem?_eq_some_iff.1 hh).1
  have hd : l.toArray.size = n := by simpa using hl
  have hH : Go.Sort.HoldsK itC 5 w g 0 l.toArray := by
    intro j hj
    rw [flatK_items] at hj ⊢
    have hj' : j < n * 5 := by simpa [flat_len itC_len, hl] using hj
    have hjc : j < cur.size := by rw [hcs]; exact Nat.lt_of_lt_of_le hj' (Nat.mul_le_mul_right 5 hle)
    have hcell : cur[j]? = some ((l.flatMap itC).toArray[j]!) := by
      have e : (cur.toList.take (n * 5))[j]? = cur[j]? := by rw [List.getElem?_take, if_pos hj']; simp
      have hj3 : j < (l.flatMap itC).length := by rw [h1]; exact hj'
      rw [← e, htk, List.getElem?_eq_getElem hj3, getElem!_pos _ j (by simpa using hj3), List.getElem_toArray]
    refine ⟨?_, ?_⟩
    · show w.cell? ⟨g, 0 + j, none⟩ = some _
      simp only [World.cell?, hh, Nat.zero_add]
      exact hcell
    · simp only [World.frozen?, hh]
      simp
  have hcon := AnyQ.slices_SortFunc (P := Try.prog) (ρ := sortRen) sortLays 5 Try.isAgg89 Try.sizeOf89 itC itC_len (fun x v hv => by
    simp only [itC, List.mem_cons, List.not_mem_nil, or_false] at hv
    rcases hv with rfl | rfl | rfl | rfl | rfl <;> rfl) cfI swo_cfI 77 #[] g 0 c l.toArray w (enters_of Try.func77 (by kernel_rfl) rfl) (fun m os dk _ x y => cmp77 x y _) hH hlt (by rw [hd]; exact hn)
  rw [hd] at hcon
  refine hcon.mono ?_
  rintro e w' ⟨rfl, d', q, os, ⟨hp1, _, hp3⟩, hs, rfl⟩
  rw [hd] at hp1
  have hdl : d'.toList.length = n := by simpa using hp1
  have hF : Go.Sort.flatK itC 5 d' = (d'.toList.flatMap itC).toArray := by
    have := flatK_items d'.toList
    simpa using this
  have hFl : (d'.toList.flatMap itC).length = n * 5 := by rw [flat_len itC_len, hdl]
  have hnew : (Go.Proofs.sortWorldK itC 5 w g 0 q d' os).heap[g]? = some (.cells (Go.Sort.putCells id 0 (Go.Sort.flatK itC 5 d') cur) 89 (0, 0)) := by
    unfold Go.Proofs.sortWorldK Go.Sort.putRowK Go.Sort.putRow
    rw [Go.Sort.heap_grow_old _ _ (by simpa [Go.Sort.mapBlock, Go.Sort.ahead] using hlt)]
    show (w.heap.modify g _)[g]? = _
    rw [Array.getElem?_modify, if_pos rfl, hh]
    rfl
  have htake : (Go.Sort.putCells id 0 (Go.Sort.flatK itC 5 d') cur).toList.take (n * 5) = d'.toList.flatMap itC := by
    apply List.ext_getElem?
    intro j
    by_cases hj : j < n * 5
    · have hjc : j < cur.size := by rw [hcs]; exact Nat.lt_of_lt_of_le hj (Nat.mul_le_mul_right 5 hle)
      have hj3 : j < (d'.toList.flatMap itC).length := by rw [hFl]; exact hj
      rw [List.getElem?_take, if_pos hj, Array.getElem?_toList, List.getElem?_eq_getElem hj3]
      unfold Go.Sort.putCells
      rw [Array.getElem?_mapIdx, Array.getElem?_eq_getElem hjc, Option.map_some, if_pos ⟨Nat.zero_le _, by rw [hF, Nat.zero_add, List.size_toArray]; exact hj3⟩, hF, Nat.sub_zero, getElem!_pos _ j (by simpa using hj3), List.getElem_toArray]
      rfl
    · rw [List.getElem?_eq_none (by rw [List.length_take]; omega), List.getElem?_eq_none (by omega)]
  refine ⟨_, d'.toList.flatMap itC, rfl, ⟨rfl, rfl, rfl, ?_, fun k hk hne => ?_⟩, ⟨hFl, .inr ⟨g, c, _, rfl, Nat.zero_le _, hnew, hle, hcm, ?_, htake⟩⟩, rfl, d'.toList, ?_, ?_, rfl⟩
  · simp [Go.Proofs.sortWorldK, Go.Sort.grow, Go.Sort.putRowK, Go.Sort.putRow, Go.Sort.mapBlock, Go.Sort.ahead]
  · have hkg : g ≠ k := fun e => hne (by rw [e]; rfl)
    unfold Go.Proofs.sortWorldK Go.Sort.putRowK Go.Sort.putRow
    rw [Go.Sort.heap_grow_old _ _ (by simpa [Go.Sort.mapBlock, Go.Sort.ahead] using hk)]
    show (w.heap.modify g _)[k]? = _
    rw [Array.getElem?_modify, if_neg hkg]
  · simp [Go.Sort.putCells, hcs]
  · have e1 : (d'.extract 0 n).toList = d'.toList := by rw [← hp1]; simp
    have e2 : (l.toArray.extract 0 n).toList = l := by rw [← hd]; simp
    rw [e1, e2] at hp3
    exact hp3
  · intro i j hij hj
    have h := hs i j (Nat.zero_le _) hij (by omega)
    rw [ltOf_cfI] at h
    have hj2 : j < d'.size := by omega
    have hi2 : i < d'.size := by omega
    have ea : ∀ k, k < d'.size → d'[k]! = at_ d'.toList k := fun k hk => by simp [at_, List.getD, hk]
    rw [ea _ hj2, ea _ hi2] at h
    exact of_decide_eq_false h
end Go.Proofs.YthpinlcfcgnilaaX
