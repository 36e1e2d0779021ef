/- A part of a law's proof. Conditions: none. -/
import Derived.Test.YtjgpdbkkpomhjaaQYS
namespace Go.Proofs.YtjgpdbkkpomhjaaX
open Go.RowKit
open Go.Proofs.YtjgpdbkkpomhjaaW.PrintLast
set_option linter.unusedVariables false
set_option linter.unusedSimpArgs false
theorem run_boundsM {P : Program} {isS : Bool} {len cap lo hi m : Nat} {l : Option Value} {h z : Value} (hl : bndV l 0 lo) (hh : bndV (some h) len hi) (hz : bndV (some z) 0 m) (h1 : lo ≤ hi) (h2 : hi ≤ m) (h3 : m ≤ cap) (w : World) : (Instr.sliceBounds isS len cap l (some h) (some z)).run P w = .ok (lo, hi, m) w := by
  unfold Instr.sliceBounds
  obtain ⟨ki, i, rfl, h4, rfl⟩ := hh
  obtain ⟨kj, j, rfl, h5, rfl⟩ := hz
  cases l with
  | none =>
    simp only [bndV] at hl
    subst hl
    simp only
    rw [run_bind_ok (run_bound h5 (by omega) w), run_bind_ok (run_bound h4 (by omega) w)]
    rfl
  | some v =>
    obtain ⟨ki2, i2, rfl, h6, rfl⟩ := hl
    simp only
    rw [run_bind_ok (run_bound h5 (by omega) w), run_bind_ok (run_bound h4 (by omega) w), run_bind_ok (run_bound h6 (by omega) w)]
    rfl
theorem run_cutM {P : Program} {t e sz n c lo hi m : Nat} {A : Option Addr} {l : Option Value} {h z : Value} (ht : P.underlying t = some (.slice e)) (hsz : spure P (sizeOf e) = some sz) (hl : bndV l 0 lo) (hh : bndV (some h) n hi) (hz : bndV (some z) 0 m) (h1 : lo ≤ hi) (h2 : hi ≤ m) (h3 : m ≤ c) (w : World) : (Instr.sliceAt t (.slice A n c) l (some h) (some z)).run P w = .ok (.slice (cutA A m lo sz) (hi - lo) (m - lo)) w := by
  unfold Instr.sliceAt
  rw [run_bind_ok (run_underlying ht w)]
  simp only
  unfold Instr.slice
  rw [run_bind_ok (run_underlying ht w)]
  simp only
  rw [run_bind_ok (run_boundsM hl hh hz h1 h2 h3 w)]
  simp only
  rw [run_bind_ok (spure_run hsz w)]
  rfl
theorem rowAt_cutM {α : Type} {d : D α} {G : Mem} {A : Option Addr} {xs : List α} {lo hi m : Nat} (h : rowAt d G A xs) (h1 : lo ≤ hi) (h2 : hi ≤ xs.length) (hm : hi ≤ m) : rowAt d G (cutA A m lo d.sz) ((xs.take hi).drop lo) := fun i hi' => by
  have hlen : ((xs.take hi).drop lo).length = hi - lo := by simp; omega
  rw [hlen] at hi'
  obtain ⟨ad, cs, rfl, h3, h4⟩ := h (lo + i) (by omega)
  have hne : ¬ m = lo := by omega
  refine ⟨ad.add (lo * d.sz), cs, by simp [cutA, hne], ?_, fun j v hj => ?_⟩
  · rw [List.getElem_drop, List.getElem_take]
    exact h3
  · rw [add_add, ← Nat.add_assoc, ← Nat.add_mul]
    exact h4 j v hj
theorem rep_sliceN {α : Type} {d : D α} {G : Mem} {A : Option Addr} {c n : Nat} {xs : List α} (hn : xs.length = n) (h1 : n ≤ c) (h2 : c ≤ maxLen) (h : rowAt d G A xs) : (D.slice d).rep G xs [.slice A n c] := by
  subst hn
  exact rep_slice h1 h2 h
section
variable {C : Ctx} {cur : Cur} {k : List CK} {s : S} {R : List (Nat × Row)} {G : Mem} {arr : Array Oper} {o : Oper} {r : List Oper}
theorem X.cutM {t e sz n c : Nat} {A : Option Addr} {x h z : Operand} {l : Option Operand} {lv : Option Value} {hv zv : Value} (lo hi m : Nat) (h0 : lo ≤ hi) (h2 : hi ≤ m) (h3 : m ≤ c) (hl : bndV lv 0 lo) (hh : bndV (some hv) n hi) (hz : bndV (some zv) 0 m)
    (H : X C (.ops arr r) k (s.put o.dst (.v (.slice (cutA A m lo sz) (hi - lo) (m - lo)))) R G) (hop : o.op = .slice t x l (some h) (some z) := by kernel_rfl) (hx : s.ev x = some (.v (.slice A n c)) := by kernel_rfl) (hlv : evO s l = some lv := by kernel_rfl) (hhv : evO s (some h) = some (some hv) := by kernel_rfl) (hzv : evO s (some z) = some (some zv) := by kernel_rfl) (ht : C.P.underlying t = some (.slice e) := by kernel_rfl) (hsz : spure C.P (sizeOf e) = some sz := by kernel_rfl) (hg : (guardOk s arr o && s.can o.dst) = true := by kernel_rfl) : X C (.ops arr (o :: r)) k s R G := by
  simp only [Bool.and_eq_true] at hg
  refine X.val _ hg.1 hg.2 (fun ρ a w hs => ?_) H
  have e1 := evO_ok hs hhv
  have e2 := evO_ok hs hzv
  simp only [Option.map_some, Option.some.injEq] at e1 e2
  simp only [execOp, hop, hs.ev hx, evO_ok hs hlv, AV.real, Option.map_some, e1, e2]
  exact run_v (run_cutM ht hsz hl hh hz h0 h2 h3 w)
theorem X.freezeT {α : Type} {d : D α} {i n c : Nat} {q : Row} {A : Option Addr} (xs : List α) (hqv : q.v = .slice A n c) (hd : 0 < d.sz) (hr : ∀ G', Le G G' → repsD d G' xs q.cells) (hn : R.all (fun p => p.1 != i) = true) (hM : ∀ x, ¬ C.M.can x)
    (H : ∀ G', Ge G C.w0.heap.size G' → rowAt d G' A xs → X C cur k s R G') : X C cur k s ((i, q) :: R) G := by
  refine X.freeze (i := i) (q := q) (R' := R) (by rw [lk_cons, if_pos rfl]) hqv (fun j p hj => ?_) (fun G' hG hc => H G' hG ?_) hM
  · have hne : j ≠ i := by
      have := List.all_eq_true.mp hn _ (lk_mem hj)
      simpa using this
    exact ⟨hne, by rw [lk_cons, if_neg (Ne.symm hne)]; exact hj⟩
  · exact rowAt_of_cells (hr G' hG.le) hd hc
end
section
variable {C : Ctx} {k : List CK} {s : S} {R : List (Nat × Row)} {G : Mem} {arr : Array Oper} {o : Oper} {r : List Oper}
end
section
variable {C : Ctx} {arr : Array Oper} {ρ0 : Nat → Nat} {F : List Pin} {RF : List (Nat × Row)} {G0 G : Mem} {ds : List Nat} {n : Nat} {l l' : Array Bool} {k : List CK} {s : S} {R : List (Nat × Row)}
end
section
variable {C : Ctx} {k : List CK} {s : S} {R : List (Nat × Row)} {G : Mem} {arr : Array Oper} {o : Oper} {r : List Oper}
end
def flen (ps : List (List Int)) : Nat := ps.flatten.length
theorem flat_take {ps : List (List Int)} {i : Nat} (h : i < ps.length) : (ps.take (i + 1)).flatten = (ps.take i).flatten ++ ps.getD i [] := by
  rw [List.take_succ_eq_append_getElem h, List.flatten_append]
  simp [List.getD, h]
theorem flen_le {ps : List (List Int)} (i : Nat) : (ps.take i).flatten.length ≤ flen ps := by
  have : ps.flatten = (ps.take i).flatten ++ (ps.drop i).flatten := by rw [← List.flatten_append, List.take_append_drop]
  unfold flen
  rw [this, List.length_append]
  omega
end Go.Proofs.YtjgpdbkkpomhjaaX
