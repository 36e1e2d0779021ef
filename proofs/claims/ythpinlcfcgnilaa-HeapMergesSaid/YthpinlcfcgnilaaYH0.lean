/- Pointers looked at for nil; rows made shorter; rows of a told length. Conditions: none. -/
import Derived.Test.YthpinlcfcgnilaaYX
import Derived.Laws.OwnMore
namespace Go.Proofs.YthpinlcfcgnilaaX
open Go.RowKit
open Go.Proofs.YthpinlcfcgnilaaW.PrintLast
set_option linter.unusedVariables false
set_option linter.unusedSimpArgs false
theorem nil_run {P : Program} {f : Operand → Value} {o : Oper} {x : Operand} {a : Addr} (w : World) (hop : o.op = .nilCheck x) (hx : f x = .pointer (some a)) : (execOp f o).run P w = .ok (.value (.pointer (some a))) w := by
  simp only [execOp, hop, hx]
  rfl
section
variable {C : Ctx} {k : List CK} {s : S} {R : List (Nat × Row)} {G : Mem} {arr : Array Oper} {o : Oper} {r : List Oper}
theorem X.nilElt {x : Operand} {A : Option Addr} {j : Nat} (hop : o.op = .nilCheck x) (hx : s.ev x = some (.v (elt A j))) (hg : (guardOk s arr o && s.can o.dst) = true)
    (H : X C (.ops arr r) k (s.put o.dst (.v (elt A j))) R G) : X C (.ops arr (o :: r)) k s R G := by
  simp only [Bool.and_eq_true] at hg
  exact X.val _ hg.1 hg.2 (fun ρ a w hs => nil_run w hop (hs.ev hx)) H
end
section
variable {C : Ctx} {arr : Array Oper} {ρ0 : Nat → Nat} {F : List Pin} {RF : List (Nat × Row)} {G0 G : Mem} {ds : List Nat} {n : Nat} {l l' : Array Bool} {k : List CK} {s : S} {R : List (Nat × Row)}
theorem XD.nilOwn {i : Nat} (o : Oper) {x : Operand} {b off : Nat} (hQ : QOk C) (ho : arr[i]? = some o) (hc : takeB .any arr ds l l' i = true) (hop : o.op = .nilCheck x) (hx : s.ev x = some (.own b off)) (hg : (guardOk s arr o && s.can o.dst) = true) (hd : F.all (offPin o.dst) = true)
    (H : XD C arr ρ0 F RF G0 ds n l' k (s.put o.dst (.own b off)) R G) : XD C arr ρ0 F RF G0 ds (n + 1) l k s R G := by
  refine XD.takeV (.own b off) hQ ho hc hg (fun ρ a w hs => ?_) hd H
  have e1 : (s.pinned F).ev x = some (.own b off) := by cases x <;> exact hx
  exact nil_run w hop (hs.ev e1)
theorem XD.nilElt {i : Nat} (o : Oper) {x : Operand} {A : Option Addr} {j : Nat} (hQ : QOk C) (ho : arr[i]? = some o) (hc : takeB .any arr ds l l' i = true) (hop : o.op = .nilCheck x) (hx : s.ev x = some (.v (elt A j))) (hg : (guardOk s arr o && s.can o.dst) = true) (hd : F.all (offPin o.dst) = true)
    (H : XD C arr ρ0 F RF G0 ds n l' k (s.put o.dst (.v (elt A j))) R G) : XD C arr ρ0 F RF G0 ds (n + 1) l k s R G := by
  refine XD.takeV (.v (elt A j)) hQ ho hc hg (fun ρ a w hs => ?_) hd H
  have e1 : (s.pinned F).ev x = some (.v (elt A j)) := by cases x <;> exact hx
  exact nil_run w hop (hs.ev e1)
end
theorem X.joinCG {C : Ctx} {cur : Cur} {k : List CK} {s : S} {R : List (Nat × Row)} {G : Mem} (cur2 : Cur) (k2 : List CK) (s2 : S) (HJ : ∀ G2, Ge G C.w0.heap.size G2 → X C cur2 k2 s2 R G2) (K : (∀ G2, Ge G C.w0.heap.size G2 → X C cur2 k2 s2 R G2) → X C cur k s R G) : X C cur k s R G := K HJ
theorem X.castS {C : Ctx} {cur : Cur} {k : List CK} {s : S} {R : List (Nat × Row)} {G : Mem} (s' : S) (h : s = s') (H : X C cur k s' R G) : X C cur k s R G := by
  subst h
  exact H
/-- A row of the own, told up to a place. -/
theorem X.shrink {C : Ctx} {cur : Cur} {k : List CK} {s : S} {R : List (Nat × Row)} {G : Mem} {i e size n m c : Nat} {A : Option Addr} {cs : List Value} (hm : m ≤ n) (H : X C cur k s ((i, ⟨e, size, .slice A m c, m, cs.take (m * size)⟩) :: R) G) : X C cur k s ((i, ⟨e, size, .slice A n c, n, cs⟩) :: R) G := fun ρ a w hs => by
  have key : ∀ j q, lk ((i, (⟨e, size, .slice A m c, m, cs.take (m * size)⟩ : Row)) :: R) j = some q → ∃ q', lk ((i, (⟨e, size, .slice A n c, n, cs⟩ : Row)) :: R) j = some q' ∧ q'.v.ownBlock = q.v.ownBlock ∧ (w.ownsRow 0 q'.e q'.size q'.v q'.n q'.cells → w.ownsRow 0 q.e q.size q.v q.n q.cells) := by
    intro j q hj
    rw [lk_cons] at hj
    by_cases h : i = j
    · rw [if_pos h] at hj
      injection hj with hj
      subst hj
      refine ⟨⟨e, size, .slice A n c, n, cs⟩, by rw [lk_cons, if_pos h], by cases A <;> rfl, ?_⟩
      rintro ⟨h1, h2⟩
      have hle : m * size ≤ n * size := Nat.mul_le_mul_right _ hm
      refine ⟨by rw [List.length_take, h1]; exact Nat.min_eq_left hle, ?_⟩
      rcases h2 with ⟨h2, h3⟩ | ⟨g, cap, cur', h2, h3, h4, h5, h6, h7, h8⟩
      · injection h2 with h9 h10 h11
        dsimp only at h3
        have : m = 0 := by omega
        exact .inl ⟨by rw [this, h9, h11], this⟩
      · injection h2 with h9 h10 h11
        subst h9 h11
        refine .inr ⟨g, _, cur', rfl, h3, h4, Nat.le_trans hm h5, h6, h7, ?_⟩
        dsimp only at h8 ⊢
        rw [← h8, List.take_take, Nat.min_eq_left hle]
    · rw [if_neg h] at hj
      exact ⟨q, by rw [lk_cons, if_neg h]; exact hj, rfl, id⟩
  refine H ρ a w ⟨hs.tm, hs.sz, hs.df, hs.bx, hs.bo, hs.bi, fun j q hj => ?_, fun j q x hj hx => ?_, fun j l q p x hj hl h1 h2 => ?_, fun j l q b hj hl hx => ?_, hs.g, hs.gb, fun x o' j q hx hj h1 => ?_, hs.fr, hs.pn⟩
  · obtain ⟨q', h1, h2, h3⟩ := key j q hj
    exact h3 (hs.rw j q' h1)
  · obtain ⟨q', h1, h2, h3⟩ := key j q hj
    exact hs.ro j q' x h1 (h2.trans hx)
  · obtain ⟨q', h3, h4, h5⟩ := key j q hj
    obtain ⟨p', h6, h7, h8⟩ := key l p hl
    exact hs.ri j l q' p' x h3 h6 (h4.trans h1) (h7.trans h2)
  · obtain ⟨q', h3, h4, h5⟩ := key j q hj
    exact hs.rb j l q' b h3 hl (h4.trans hx)
  · obtain ⟨q', h3, h4, h5⟩ := key j q hj
    exact hs.gr x o' j q' hx h3 (h4.trans h1)
theorem made_one (z : Value) (n : Nat) : (madeCells #[z] (n * 1)).toList = List.replicate n z := by
  apply List.ext_getElem
  · rw [Array.length_toList, size_madeCells, List.length_replicate, Nat.mul_one]
  · intro i h1 h2
    simp [madeCells, Nat.mod_one]
section
variable {C : Ctx} {k : List CK} {s : S} {R : List (Nat × Row)} {G : Mem} {arr : Array Oper} {o : Oper} {r : List Oper}
/-- make: a row of a told length, of ones that take one cell. -/
theorem X.makeN {t e bytes : Nat} (nm : Nat) (z : Value) {x y : Operand} {n : Nat} (hop : o.op = .makeSlice t x y) (hx : s.ev x = some (.v (.int .i64 (n : Int)))) (hy : s.ev y = some (.v (.int .i64 (n : Int))))
    (ht : C.P.underlying t = some (.slice e)) (hinfo : (C.P.info? e).map (fun i => (i.zero, i.size, i.bytes)) = some (some z, 1, bytes)) (hz : z.cells = #[z]) (hg : (guardOk s arr o && s.can o.dst) = true) (hb : bytes * n ≤ 281474976710656) (hm : n ≤ 1000000)
    (H : ∀ A, X C (.ops arr r) k (s.put o.dst (.v (.slice A n n))) ((nm, ⟨e, 1, .slice A n n, n, List.replicate n z⟩) :: R) G) : X C (.ops arr (o :: r)) k s R G := by
  simp only [Bool.and_eq_true] at hg
  refine X.op hg.1 fun ρ a w hs next hnx => ?_
  obtain ⟨i0, hi, hzz⟩ := Option.map_eq_some_iff.1 hinfo
  simp only [Prod.mk.injEq] at hzz
  obtain ⟨hz0, hz1, hz2⟩ := hzz
  obtain ⟨w', r1, r2, r3⟩ := run_makeSlice_full (w := w) (P := C.P) 0 t e i0 z 1 ht hi hz0 hz1 .i64 .i64 n (by omega) (by rw [hz2]; exact hb) (by simp only [maxLen]; omega) (Nat.zero_le _)
  rw [hz, made_one] at r2
  have hrun : (execOp a.eval o).run C.P w = .ok (.value (.slice (some ⟨w.heap.size, 0, none⟩) n n)) w' := by
    unfold execOp
    simp only [hop, hs.ev hx, hs.ev hy, AV.real]
    exact run_v r1
  refine wp_value hrun (hnx ρ _ _ _ _ _ (H (some ⟨w.heap.size, 0, none⟩)) ?_)
  exact (hs.row nm (q := ⟨e, 1, .slice (some ⟨w.heap.size, 0, none⟩) n n, n, List.replicate n z⟩) (old := none) (fun g h => by cases h) r3 r2 (fun g hg' => .inr (by simp [Value.ownBlock] at hg'; omega))).put (x := .v _) hg.2
end
end Go.Proofs.YthpinlcfcgnilaaX
