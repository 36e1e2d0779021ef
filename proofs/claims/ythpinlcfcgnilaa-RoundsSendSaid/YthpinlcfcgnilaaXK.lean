/- append of what lies elsewhere. Conditions: none. -/
import Derived.Test.YthpinlcfcgnilaaXQ
import Derived.Maps.AppendAt
namespace Go.Proofs.YthpinlcfcgnilaaX
open Go.RowKit
set_option linter.unusedVariables false
set_option linter.unusedSimpArgs false
theorem run_append_nothing {P : Program} {w : World} (base : Nat) (t ty e : TypeId) (i : TypeInfo) (size c2 : Nat) (ht : P.underlying t = some (.slice e)) (hi : P.info? e = some i)
    (v : Value) (n : Nat) (xs : List Value) (hown : w.ownsRow base e size v n xs) :
    (Builtin.append_ #[t, t] ty #[v, .slice none 0 c2]).run P w = .ok v w := by
  rcases hown.2 with ⟨rfl, rfl⟩ | ⟨g, cap, cur, rfl, _, _, hnc, _⟩
  · simp [Builtin.append_, run_underlying ht, sizeOf, typeInfo, hi, Builtin.lenOf, Builtin.firstCells]
  · simp [Builtin.append_, run_underlying ht, sizeOf, typeInfo, hi, Builtin.lenOf, Builtin.firstCells, hnc, storeCells]
section
variable {C : Ctx} {k : List CK} {s : S} {R : List (Nat × Row)} {G : Mem} {arr : Array Oper} {o : Oper} {r : List Oper}
/-- append: to a row of the call's own (named i), or to nil; what is appended lies somewhere. -/
theorem X.appendW (i : Nat) (q : Row) (t bytes : Nat) (z : Value) {x y : Operand} {n c m c2 : Nat} {A B : Option Addr} {news : List Value}
    (hop : o.op = .call { callee := .builtin .append, args := #[x, y], argTypes := #[t, t] }) (hx : s.ev x = some (.v (.slice A n c))) (hy : s.ev y = some (.v (.slice B m c2)))
    (ht : C.P.underlying t = some (.slice q.e)) (hinfo : (C.P.info? q.e).map (fun i => (i.zero, i.size, i.bytes)) = some (some z, q.size, bytes)) (hz : z.cells.size = q.size) (h0 : 0 < q.size) (hg : (guardOk s arr o && s.can o.dst) = true)
    (hq : lk R i = some q ∨ (A = none ∧ c = 0 ∧ q.n = 0 ∧ q.cells = [])) (hqv : q.v = .slice A n c) (hqn : q.n = n) (hn : news.length = m * q.size) (hat : At G R B 0 news) (hB : ∀ w, Mm G R w → B = none → m = 0) (h1 : ∀ u ∈ news, u.oneCell' = true) (hb : (n + m) * bytes ≤ 140737488355328) (hb0 : 0 < bytes)
    (H : ∀ A' c', n + m ≤ c' → X C (.ops arr r) k (s.put o.dst (.v (.slice A' (n + m) c'))) ((i, ⟨q.e, q.size, .slice A' (n + m) c', n + m, q.cells ++ news⟩) :: R) G) : X C (.ops arr (o :: r)) k s R G := by
  simp only [Bool.and_eq_true] at hg
  refine X.op hg.1 fun ρ a w hs next hnx => ?_
  obtain ⟨i0, hi, hzz⟩ := Option.map_eq_some_iff.1 hinfo
  simp only [Prod.mk.injEq] at hzz
  obtain ⟨hz0, hz1, hz2⟩ := hzz
  have hown : w.ownsRow 0 q.e q.size (.slice A n c) n q.cells := by
    rcases hq with hq | ⟨rfl, rfl, h3, h4⟩
    · have := hs.rw i q hq
      rw [hqv, hqn] at this
      exact this
    · rw [hqn] at h3
      subst h3
      rw [h4]
      exact World.ownsRow_nil w 0 q.e q.size
  have hold : ∀ g, (Value.slice A n c).ownBlock = some g → ∃ p, lk R i = some p ∧ p.v.ownBlock = some g := fun g hg' => by
    rcases hq with hq | ⟨rfl, _⟩
    · exact ⟨q, hq, by rw [hqv]; exact hg'⟩
    · simp [Value.ownBlock] at hg'
  have hmax : n + m ≤ maxLen := by
    have := Nat.le_trans (Nat.le_mul_of_pos_right (n + m) hb0) hb
    simp only [maxLen]; omega
  have hex : ∃ v' w', (Builtin.append_ #[t, t] o.type #[.slice A n c, .slice B m c2]).run C.P w = .ok v' w' ∧ w'.ownsRow 0 q.e q.size v' (n + m) (q.cells ++ news) ∧ w.grownBy w' (Value.slice A n c).ownBlock ∧ (v'.ownBlock = (Value.slice A n c).ownBlock ∨ v'.ownBlock = some w.heap.size) := by
    cases B with
    | none =>
      obtain rfl := hB w hs.mm rfl
      have hnil : news = [] := List.eq_nil_of_length_eq_zero (by simpa using hn)
      subst hnil
      exact ⟨_, w, run_append_nothing 0 t o.type q.e i0 q.size c2 ht hi _ n q.cells hown, by simpa using hown, ⟨rfl, rfl, rfl, Nat.le_refl _, fun _ _ _ => rfl⟩, .inl rfl⟩
    | some ad =>
      obtain ⟨v', w', r1, r2, r3, _, r5⟩ := run_append_own_at (P := C.P) w 0 t o.type q.e i0 z q.size bytes ht hi hz0 hz1 hz2 hz h0 _ n q.cells hown ad m c2 news hn (fun j u hj => by
        have := (hat w hs.mm j u hj).2
        simpa [adr] using this) h1 hmax hb (Nat.zero_le _)
      exact ⟨v', w', r1, r2, r3, r5⟩
  obtain ⟨v', w', r1, r2, r3, r5⟩ := hex
  obtain ⟨A', c', hv', hle⟩ : ∃ A' c', v' = .slice A' (n + m) c' ∧ n + m ≤ c' := by
    rcases r2.2 with ⟨h2, h3⟩ | ⟨g, cap, cur, h2, _, _, h3, _⟩
    · exact ⟨none, 0, by rw [h2, h3], by omega⟩
    · exact ⟨_, cap, h2, h3⟩
  subst hv'
  have hrun : (execOp a.eval o).run C.P w = .ok (.value (.slice A' (n + m) c')) w' := by
    unfold execOp
    simp only [hop]
    unfold resolve
    have e : (#[x, y] : Array Operand).map a.eval = #[.slice A n c, .slice B m c2] := by simp [hs.ev hx, hs.ev hy, AV.real]
    simp only [e]
    rw [run_bind_ok (show (pure _ : Sem Deferred).run C.P w = .ok _ w from rfl)]
    unfold invoke
    exact run_v r1
  refine wp_value hrun (hnx ρ _ _ _ _ _ (H A' c' hle) ?_)
  exact (hs.row i (q := ⟨q.e, q.size, .slice A' (n + m) c', n + m, q.cells ++ news⟩) hold r3 r2 (fun g hg' => by
    rcases r5 with h | h
    · exact .inl (by rw [← h]; exact hg')
    · exact .inr (by rw [show (Value.slice A' (n + m) c').ownBlock = some g from hg'] at h; injection h with h; omega))).put (x := .v _) hg.2

end
end Go.Proofs.YthpinlcfcgnilaaX
