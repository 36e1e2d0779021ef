/- A slice compared with nil; rows of nothing. Conditions: none. -/
import Derived.Test.YthpinlcfcgnilaaXK
namespace Go.Proofs.YthpinlcfcgnilaaX
open Go.RowKit
set_option linter.unusedVariables false
set_option linter.unusedSimpArgs false
section
variable {C : Ctx} {k : List CK} {s : S} {R : List (Nat × Row)} {G : Mem} {arr : Array Oper} {o : Oper} {r : List Oper}
theorem run_eqNil {P : Program} {t e n c : Nat} {A : Option Addr} {w : World} (hu : P.underlying t = some (.slice e)) : (Op.equal t (.slice A n c) (.slice none 0 0)).run P w = .ok A.isNone w := by
  have h : ∀ d, (Op.equalIn (d + 1) t (.slice A n c) (.slice none 0 0)).run P w = .ok A.isNone w := fun d => by
    simp only [Op.equalIn]
    rw [run_bind_ok (run_underlying hu w)]
    cases A <;> rfl
  exact h 9999
theorem X.eqNil {t t' e n c : Nat} {A : Option Addr} {x y : Operand} (hop : o.op = .binOp .eql t x y t') (hgd : spure C.P (eqGuard .eql t x y (.slice A n c) (.slice none 0 0)) = some ()) (hx : s.ev x = some (.v (.slice A n c))) (hy : s.ev y = some (.v (.slice none 0 0))) (hu : C.P.underlying t = some (.slice e)) (hg : (guardOk s arr o && s.can o.dst) = true)
    (H : X C (.ops arr r) k (s.put o.dst (.v (.bool A.isNone))) R G) : X C (.ops arr (o :: r)) k s R G := by
  simp only [Bool.and_eq_true] at hg
  refine X.val _ hg.1 hg.2 (fun ρ a w hs => ?_) H
  simp only [execOp, hop, hs.ev hx, hs.ev hy, AV.real]
  refine run_v ?_
  simp only [binOp]
  rw [run_bind_ok (spure_run hgd w), run_bind_ok (run_eqNil hu)]
  rfl
theorem X.neNil {t t' e n c : Nat} {A : Option Addr} {x y : Operand} (hop : o.op = .binOp .neq t x y t') (hgd : spure C.P (eqGuard .neq t x y (.slice A n c) (.slice none 0 0)) = some ()) (hx : s.ev x = some (.v (.slice A n c))) (hy : s.ev y = some (.v (.slice none 0 0))) (hu : C.P.underlying t = some (.slice e)) (hg : (guardOk s arr o && s.can o.dst) = true)
    (H : X C (.ops arr r) k (s.put o.dst (.v (.bool (!A.isNone)))) R G) : X C (.ops arr (o :: r)) k s R G := by
  simp only [Bool.and_eq_true] at hg
  refine X.val _ hg.1 hg.2 (fun ρ a w hs => ?_) H
  simp only [execOp, hop, hs.ev hx, hs.ev hy, AV.real]
  refine run_v ?_
  simp only [binOp]
  rw [run_bind_ok (spure_run hgd w), run_bind_ok (run_eqNil hu)]
  rfl
/-- nil, as a row of the own. -/
theorem X.nilRow {cur : Cur} (i e size : Nat) (hi : lk R i = none) (H : X C cur k s ((i, ⟨e, size, .slice none 0 0, 0, []⟩) :: R) G) : X C cur k s R G := fun ρ a w hs => by
  refine H ρ a w ⟨hs.tm, hs.sz, hs.df, hs.bx, hs.bo, hs.bi, fun j q hj => ?_, fun j q x hj hx => ?_, fun j l q p x hj hl h1 h2 => ?_, fun j l q b hj hl hx => ?_, hs.g, hs.gb, fun x o' j q hx hj h1 => ?_, hs.fr, hs.pn⟩
  · rw [lk_cons] at hj
    by_cases h : i = j
    · rw [if_pos h] at hj
      injection hj with hj
      subst hj
      exact World.ownsRow_nil w 0 e size
    · rw [if_neg h] at hj
      exact hs.rw j q hj
  · rw [lk_cons] at hj
    by_cases h : i = j
    · rw [if_pos h] at hj
      injection hj with hj
      subst hj
      simp [Value.ownBlock] at hx
    · rw [if_neg h] at hj
      exact hs.ro j q x hj hx
  · rw [lk_cons] at hj hl
    by_cases h : i = j
    · rw [if_pos h] at hj
      injection hj with hj
      subst hj
      simp [Value.ownBlock] at h1
    · rw [if_neg h] at hj
      by_cases h' : i = l
      · rw [if_pos h'] at hl
        injection hl with hl
        subst hl
        simp [Value.ownBlock] at h2
      · rw [if_neg h'] at hl
        exact hs.ri j l q p x hj hl h1 h2
  · rw [lk_cons] at hj
    by_cases h : i = j
    · rw [if_pos h] at hj
      injection hj with hj
      subst hj
      simp [Value.ownBlock] at hx
    · rw [if_neg h] at hj
      exact hs.rb j l q b hj hl hx
  · rw [lk_cons] at hj
    by_cases h : i = j
    · rw [if_pos h] at hj
      injection hj with hj
      subst hj
      simp [Value.ownBlock] at h1
    · rw [if_neg h] at hj
      exact hs.gr x o' j q hx hj h1
/-- A row's room. -/
theorem X.capLe {cur : Cur} {i n c : Nat} {q : Row} {A : Option Addr} (hq : lk R i = some q) (hqv : q.v = .slice A n c) (H : n ≤ c → c ≤ maxLen → X C cur k s R G) : X C cur k s R G := fun ρ a w hs => by
  obtain ⟨o1, o2⟩ := hs.rw i q hq
  have hb : n ≤ c ∧ c ≤ maxLen := by
    rcases o2 with ⟨h2, h3⟩ | ⟨g, cap, cur', h2, _, _, h4, h5, _⟩
    · rw [hqv] at h2
      injection h2 with _ h6 h7
      subst h6 h7
      exact ⟨Nat.le_refl _, Nat.zero_le _⟩
    · rw [hqv] at h2
      injection h2 with _ h6 h7
      subst h7
      exact ⟨by omega, h5⟩
  exact H hb.1 hb.2 ρ a w hs
theorem splice_ints {kd : IntKind} {l : List Int} {j : Nat} {x : Int} (h : j < l.length) : splice (l.map (Value.int kd)) j [.int kd x] = (l.set j x).map (Value.int kd) := by
  unfold splice
  apply List.ext_getElem?
  intro m
  simp only [List.length_singleton, List.getElem?_append, List.length_append, List.length_take, List.length_map]
  by_cases h1 : m < j
  · rw [if_pos (by omega), if_pos (by omega), List.getElem?_take_of_lt h1, List.getElem?_map, List.getElem?_map, List.getElem?_set_ne (by omega)]
  · by_cases h2 : m = j
    · subst h2
      rw [if_pos (by omega), if_neg (by omega), Nat.min_eq_left (by omega), Nat.sub_self, List.getElem?_map, List.getElem?_set_self h]
      rfl
    · rw [if_neg (by omega), Nat.min_eq_left (by omega), List.getElem?_drop, List.getElem?_map, List.getElem?_map, List.getElem?_set_ne (by omega)]
      rw [show j + 1 + (m - (j + 1)) = m by omega]
theorem splice_ints1 {kd : IntKind} {l : List Int} {j : Nat} {x : Int} (h : j < l.length) : splice (l.map (Value.int kd)) (j * 1) [.int kd x] = (l.set j x).map (Value.int kd) := by
  rw [Nat.mul_one]
  exact splice_ints h
end
end Go.Proofs.YthpinlcfcgnilaaX
