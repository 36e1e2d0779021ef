/- A row's tail, cleared. Conditions: none. -/
import Derived.Test.YthpinlcfcgnilaaYH0
namespace Go.Proofs.YthpinlcfcgnilaaX
open Go.RowKit
open Go.Proofs.YthpinlcfcgnilaaW.PrintLast
set_option linter.unusedVariables false
set_option linter.unusedSimpArgs false
section
variable {C : Ctx} {k : List CK} {s : S} {R : List (Nat × Row)} {G : Mem} {arr : Array Oper} {o : Oper} {r : List Oper}
/-- clear of a row's tail: the row is told up to it. -/
theorem X.clearTail {i t n m c : Nat} {q : Row} {A : Option Addr} {x : Operand} {z : Value} (hop : o.op = .call { callee := .builtin .clear, args := #[x], argTypes := #[t] }) (hx : s.ev x = some (.v (.slice (cutA A c m q.size) (n - m) (c - m)))) (hq : lk R i = some q) (hqv : q.v = .slice A n c) (hqn : q.n = n) (hm : m < n)
    (ht : C.P.underlying t = some (.slice q.e)) (hz : spure C.P (zeroValue q.e) = some z) (hzs : z.cells.size = q.size) (hpos : 0 < q.size) (h1 : z.cells.toList.all one = true) (hg : (guardOk s arr o && s.can o.dst) = true)
    (H : X C (.ops arr r) k (s.put o.dst (.v (.tuple #[]))) ((i, { q with v := .slice A m c, n := m, cells := q.cells.take (m * q.size) }) :: R) G) : X C (.ops arr (o :: r)) k s R G := by
  simp only [Bool.and_eq_true] at hg
  refine X.op hg.1 fun ρ a w hs next hnx => ?_
  obtain ⟨o1, o2⟩ := hs.rw i q hq
  rcases o2 with ⟨h2, h3⟩ | ⟨g, cap, cur, h2, h3, hgg, h4, h5, h6, htake⟩
  · omega
  · have hqv' := hqv
    rw [h2] at hqv
    injection hqv with hA hn hc
    subst hA hc
    rw [hqn] at h4 o1 htake
    have hmc : ¬ cap = m := by omega
    have hcut : cutA (some (⟨g, 0, none⟩ : Addr)) cap m q.size = some ⟨g, m * q.size, none⟩ := by
      unfold cutA
      rw [if_neg hmc]
      simp only [Option.map_some, add_ptr, Nat.zero_add]
    have hone : ∀ v ∈ (Builtin.zeroCells z.cells (n - m)).toList, v.oneCell' = true := fun v hv => by
      refine one_of (List.all_eq_true.mp h1 v ?_)
      simp only [Builtin.zeroCells, Array.toList_map, List.mem_map] at hv
      obtain ⟨j, _, hj⟩ := hv
      rw [← hj, getElem!_pos z.cells (j % z.cells.size) (Nat.mod_lt _ (by omega))]
      exact Array.getElem_mem_toList _
    have hsz : (Builtin.zeroCells z.cells (n - m)).toList.length = (n - m) * q.size := by rw [Array.length_toList, size_zeroCells, hzs]
    have hle : m * q.size + (n - m) * q.size ≤ cur.size := by
      rw [h6, ← Nat.add_mul]
      exact Nat.mul_le_mul_right _ (by omega)
    have hst := run_storeCells_at C.P g (m * q.size) q.e (Builtin.zeroCells z.cells (n - m)).toList 0 cur w hgg (by rw [hsz, Nat.add_zero]; exact hle) hone
    simp only [Nat.add_zero] at hst
    obtain ⟨d, hd⟩ : ∃ d, n - m = d + 1 := ⟨n - m - 1, by omega⟩
    have hclr : (Builtin.clear_ #[t] o.type #[.slice (some ⟨g, m * q.size, none⟩) (n - m) (cap - m)]).run C.P w = .ok (.tuple #[]) (w.setRow g (splice cur.toList (m * q.size) (Builtin.zeroCells z.cells (n - m)).toList).toArray) := by
      rw [hd] at hst ⊢
      simp [Builtin.clear_, run_underlying ht, spure_run hz, hst, splice]
    have hrun : (execOp a.eval o).run C.P w = .ok (.value (.tuple #[])) (w.setRow g (splice cur.toList (m * q.size) (Builtin.zeroCells z.cells (n - m)).toList).toArray) := by
      unfold execOp
      simp only [hop]
      unfold resolve
      have e1 : (#[x] : Array Operand).map a.eval = #[.slice (some ⟨g, m * q.size, none⟩) (n - m) (cap - m)] := by simp [hs.ev hx, AV.real, hcut]
      simp only [e1]
      rw [run_bind_ok (show (pure _ : Sem Deferred).run C.P w = .ok _ w from rfl)]
      unfold invoke
      exact run_v hclr
    refine wp_value hrun (hnx ρ _ _ _ _ _ H ?_)
    have hmd := md_setRow w g (splice cur.toList (m * q.size) (Builtin.zeroCells z.cells (n - m)).toList).toArray
    have hgr : w.grownBy (w.setRow g (splice cur.toList (m * q.size) (Builtin.zeroCells z.cells (n - m)).toList).toArray) (some g) := ⟨hmd.os, hmd.tape, hmd.output, hmd.size, fun x hx hn => hmd.block x hx (fun e => hn (by rw [e]))⟩
    have hb : q.v.ownBlock = some g := by rw [h2]; rfl
    refine (hs.row i (q := { q with v := .slice (some ⟨g, 0, none⟩) m cap, n := m, cells := q.cells.take (m * q.size) }) (old := some g) (fun g' h => ⟨q, hq, by rw [hb, ← h]⟩) hgr ?_ (fun g' h => .inl ?_)).put (x := .v (.tuple #[])) hg.2
    · have hle2 : m * q.size ≤ n * q.size := Nat.mul_le_mul_right _ (by omega)
      refine ⟨by dsimp only; rw [List.length_take, o1]; exact Nat.min_eq_left hle2, .inr ⟨g, cap, _, rfl, h3, setRow_heap w g cur _ q.e (0, 0) hgg, by dsimp only; omega, h5, ?_, ?_⟩⟩
      · simp only [splice, List.size_toArray, List.length_append, List.length_take, List.length_drop, Array.length_toList, hsz]; omega
      · dsimp only
        rw [← htake, List.take_take, Nat.min_eq_left hle2]
        simp only [splice]
        rw [List.append_assoc, List.take_append_of_le_length (by rw [List.length_take, Array.length_toList]; omega), List.take_take, Nat.min_self]
    · simpa [Value.ownBlock] using h
end
end Go.Proofs.YthpinlcfcgnilaaX
