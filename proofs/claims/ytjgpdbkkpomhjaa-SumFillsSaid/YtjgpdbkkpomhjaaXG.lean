/- Room made ahead; an array of the own that is led to by a pointer from now on only read. Conditions: none. -/
import Derived.Test.YtjgpdbkkpomhjaaXP
namespace Go.Proofs.YtjgpdbkkpomhjaaX
open Go.RowKit
open Go.Proofs.YtjgpdbkkpomhjaaW.PrintLast Go.Proofs.YtjgpdbkkpomhjaaW.PrintWords
set_option linter.unusedVariables false
set_option linter.unusedSimpArgs false
set_option maxRecDepth 100000
theorem run_grow_nil {P : Program} (w : World) (t ti ty e : TypeId) (i : TypeInfo) (z : Value) (ht : P.underlying t = some (.slice e)) (hti : P.underlying ti = some (.int .i64)) (hi : P.info? e = some i) (hz : i.zero = some z) (hs : i.size = 1)
    (n : Nat) (h0 : 0 < n) (h48 : n * i.bytes ≤ 140737488355328) (h63 : n ≤ 140737488355328) :
    (Builtin.append_ #[t, ti] ty #[.slice none 0 0, .int .i64 (n : Int)]).run P w =
      .ok (.slice (some ⟨w.heap.size, 0, none⟩) n (grownCap w n 0 e)) (w.drew.alloc (.cells (Builtin.zeroCells z.cells n ++ Builtin.zeroCells z.cells (grownCap w n 0 e - n)) e)) := by
  have hn : n ≠ 0 := by omega
  have hn2 : ¬ n = 0 := hn
  have hw : IntKind.i64.wrap (n : Int) = n := wi64 (by omega) (by omega)
  have h63' : ¬ (9223372036854775807 < (n : Int)) := by omega
  have h48' : ¬ (281474976710656 < Builtin.nextslicecap n 0 * i.bytes) := by rw [nextslicecap_zero h0]; omega
  have hlt : ¬ ((n : Int) < 0) := by omega
  have hn0 : ¬ ((n : Int) ≤ 0) := by omega
  have hmx : ¬ (9223372036854775807 < max (n : Int) 0) := by omega
  have h4 : ¬ (281474976710656 < (n : Int) * (i.bytes : Int)) := by
    have h5 : ((n * i.bytes : Nat) : Int) ≤ 140737488355328 := Int.ofNat_le.mpr h48
    rw [Int.natCast_mul] at h5
    intro h6
    exact absurd (Int.lt_of_lt_of_le h6 h5) (by decide)
  simp [Builtin.append_, run_underlying ht, run_underlying hti, sizeOf, typeInfo, zeroValue, hi, hz, hs, asInt, asIntOf, hw, hlt, hn0, hmx, h4, hn, h63', h48', Question.forced, run_firstCells_none, newRow, grownCap]
section
variable {C : Ctx} {k : List CK} {s : S} {R : List (Nat × Row)} {G : Mem} {arr : Array Oper} {o : Oper} {r : List Oper}
theorem X.growNil {t ti e bytes : Nat} (nm : Nat) (z : Value) {x y : Operand} {m : Int} (hop : o.op = .call { callee := .builtin .append, args := #[x, y], argTypes := #[t, ti] }) (hx : s.ev x = some (.v (.slice none 0 0))) (hy : s.ev y = some (.v (.int .i64 m)))
    (ht : C.P.underlying t = some (.slice e)) (hti : C.P.underlying ti = some (.int .i64)) (hinfo : (C.P.info? e).map (fun i => (i.zero, i.size, i.bytes)) = some (some z, 1, bytes)) (hz : z.cells.size = 1) (hg : (guardOk s arr o && s.can o.dst) = true) (h0 : 0 < m) (hb : m.toNat * bytes ≤ 140737488355328) (hm : m ≤ 140737488355328)
    (H : ∀ A c, m.toNat ≤ c → X C (.ops arr r) k (s.put o.dst (.v (.slice A m.toNat c))) ((nm, ⟨e, 1, .slice A 0 c, 0, []⟩) :: R) G) : X C (.ops arr (o :: r)) k s R G := by
  simp only [Bool.and_eq_true] at hg
  refine X.op hg.1 fun ρ a w hs next hnx => ?_
  obtain ⟨i0, hi, hzz⟩ := Option.map_eq_some_iff.1 hinfo
  simp only [Prod.mk.injEq] at hzz
  obtain ⟨hz0, hz1, hz2⟩ := hzz
  obtain ⟨n, rfl⟩ : ∃ n : Nat, m = n := ⟨m.toNat, by omega⟩
  simp only [Int.toNat_natCast] at *
  have r1 := run_grow_nil (P := C.P) w t ti o.type e i0 z ht hti hi hz0 hz1 n (by omega) (by rw [hz2]; exact hb) (by omega)
  have hmax : n ≤ maxLen := by simp only [maxLen]; omega
  have hge := grownCap_ge w n 0 e
  have hcm : grownCap w n 0 e ≤ maxLen := grownCap_le_maxLen w n 0 e hmax
  have hown : (w.drew.alloc (.cells (Builtin.zeroCells z.cells n ++ Builtin.zeroCells z.cells (grownCap w n 0 e - n)) e)).ownsRow 0 e 1 (.slice (some ⟨w.heap.size, 0, none⟩) 0 (grownCap w n 0 e)) 0 [] := by
    refine ⟨rfl, .inr ⟨w.heap.size, _, _, rfl, Nat.zero_le _, heap_alloc_new w.drew _, Nat.zero_le _, hcm, ?_, rfl⟩⟩
    simp only [Array.size_append, size_zeroCells, hz, ← Nat.add_mul]
    omega
  have hgr : w.grownBy (w.drew.alloc (.cells (Builtin.zeroCells z.cells n ++ Builtin.zeroCells z.cells (grownCap w n 0 e - n)) e)) none := ⟨rfl, rfl, rfl, by simp, fun k hk _ => heap_alloc_old w.drew _ hk⟩
  have hrun : (execOp a.eval o).run C.P w = .ok (.value (.slice (some ⟨w.heap.size, 0, none⟩) n (grownCap w n 0 e))) (w.drew.alloc (.cells (Builtin.zeroCells z.cells n ++ Builtin.zeroCells z.cells (grownCap w n 0 e - n)) e)) := by
    unfold execOp
    simp only [hop]
    unfold resolve
    have e1 : (#[x, y] : Array Operand).map a.eval = #[.slice none 0 0, .int .i64 (n : Int)] := by simp [hs.ev hx, hs.ev hy, AV.real]
    simp only [e1]
    rw [run_bind_ok (show (pure _ : Sem Deferred).run C.P w = .ok _ w from rfl)]
    unfold invoke
    exact run_v r1
  refine wp_value hrun (hnx ρ _ _ _ _ _ (H (some ⟨w.heap.size, 0, none⟩) (grownCap w n 0 e) hge) ?_)
  exact (hs.row nm (q := ⟨e, 1, .slice (some ⟨w.heap.size, 0, none⟩) 0 (grownCap w n 0 e), 0, []⟩) (old := none) (fun g h => by cases h) hgr hown (fun g hg' => .inr (by simp [Value.ownBlock] at hg'; omega))).put (x := .v _) hg.2
theorem X.boxOut {cur : Cur} {t b bt : Nat} {kd : IntKind} {cs : List AV} (ns : List Int) (hx : lk s.tmps t = some (.own b 0)) (hb : lk s.boxes b = some ⟨bt, cs⟩) (hc : cs = ns.map (fun n => .v (.int kd n))) (hM : ∀ g, ¬ C.M.can g) (hr : ∀ n ∈ ns, IntKind.lo kd ≤ n ∧ n ≤ IntKind.hi kd)
    (H : ∀ g G', Ge G C.w0.heap.size G' → rowAt (D.int kd) G' (some ⟨g, 0, none⟩) ns → X C cur k ⟨s.n, (t, .v (.pointer (some ⟨g, 0, none⟩))) :: s.tmps, s.boxes.filter (fun p => p.1 != b)⟩ R G') : X C cur k s R G := by
  intro ρ a w hs
  have hle : C.w0.heap.size ≤ ρ b := (hs.bo b _ hb).resolve_right (hM _)
  have hN : G (ρ b) = none := by
    cases e : G (ρ b) with
    | none => rfl
    | some q => exact absurd rfl (hs.gb _ _ _ _ e hb)
  subst hc
  have hrow : rowAt (D.int kd) (updG G (ρ b) ((⟨bt, ns.map (fun n => .v (.int kd n))⟩ : Box).obj ρ)) (some ⟨ρ b, 0, none⟩) ns := fun i hi => by
    refine ⟨_, [.int kd ns[i]], rfl, ⟨rfl, hr _ (List.getElem_mem hi)⟩, fun j v hj => ?_⟩
    cases j with
    | succ j => simp at hj
    | zero =>
      simp only [List.getElem?_cons_zero, Option.some.injEq] at hj
      subst hj
      have e1 : (⟨ρ b, 0, none⟩ : Addr).add (i * (D.int kd).sz + 0) = ⟨ρ b, i, none⟩ := by rw [add_ptr]; show (⟨ρ b, 0 + (i * 1 + 0), none⟩ : Addr) = _; simp
      rw [e1]
      unfold cellG
      simp only [updG_at]
      simp [Box.obj, List.getElem?_map, hi, AV.real]
  refine H (ρ b) _ (updG_ge (Ge.refl G _) hle hN) hrow ρ a w ?_
  have h := hs.boxG hb
  refine ⟨fun i x hi => ?_, h.sz, h.df, h.bx, h.bo, h.bi, h.rw, h.ro, h.ri, h.rb, h.g, h.gb, h.gr, h.fr, h.pn⟩
  rw [lk_cons] at hi
  by_cases e : t = i
  · subst e
    rw [if_pos rfl] at hi
    injection hi with hi
    subst hi
    have := hs.tm t _ hx
    exact this
  · rw [if_neg e] at hi
    exact h.tm i x hi
end
end Go.Proofs.YtjgpdbkkpomhjaaX
