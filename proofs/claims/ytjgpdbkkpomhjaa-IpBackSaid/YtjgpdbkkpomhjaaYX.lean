/- Cuts that tell their room, tables of slices that stay. Conditions: none. -/
import Derived.Test.YtjgpdbkkpomhjaaYS
namespace Go.Proofs.YtjgpdbkkpomhjaaX
open Go.RowKit
open Go.Proofs.YtjgpdbkkpomhjaaW.PrintLast
set_option linter.unusedVariables false
set_option linter.unusedSimpArgs false
theorem run_boundsM {P : Program} {isS : Bool} {len cap lo hi m : Nat} {l : Option Value} {h z : Value} (hl : bndV l 0 lo) (hh : bndV (some h) len hi) (hz : bndV (some z) 0 m) (h1 : lo ≤ hi) (h2 : hi ≤ m) (h3 : m ≤ cap) (w : World) : (Instr.sliceBounds isS len cap l (some h) (some z)).run P w = .ok (lo, hi, m) w := by
  unfold Instr.sliceBounds
  obtain ⟨ki, i, rfl, h4, rfl⟩ := hh
  obtain ⟨kj, j, rfl, h5, rfl⟩ := hz
  cases l with
  | none =>
    simp only [bndV] at hl
    subst hl
    simp only
    rw [run_bind_ok (run_bound h5 (by omega) w), run_bind_ok (run_bound h4 (by omega) w)]
    rfl
  | some v =>
    obtain ⟨ki2, i2, rfl, h6, rfl⟩ := hl
    simp only
    rw [run_bind_ok (run_bound h5 (by omega) w), run_bind_ok (run_bound h4 (by omega) w), run_bind_ok (run_bound h6 (by omega) w)]
    rfl
theorem run_cutM {P : Program} {t e sz n c lo hi m : Nat} {A : Option Addr} {l : Option Value} {h z : Value} (ht : P.underlying t = some (.slice e)) (hsz : spure P (sizeOf e) = some sz) (hl : bndV l 0 lo) (hh : bndV (some h) n hi) (hz : bndV (some z) 0 m) (h1 : lo ≤ hi) (h2 : hi ≤ m) (h3 : m ≤ c) (w : World) : (Instr.sliceAt t (.slice A n c) l (some h) (some z)).run P w = .ok (.slice (cutA A m lo sz) (hi - lo) (m - lo)) w := by
  unfold Instr.sliceAt
  rw [run_bind_ok (run_underlying ht w)]
  simp only
  unfold Instr.slice
  rw [run_bind_ok (run_underlying ht w)]
  simp only
  rw [run_bind_ok (run_boundsM hl hh hz h1 h2 h3 w)]
  simp only
  rw [run_bind_ok (spure_run hsz w)]
  rfl
theorem rowAt_cutM {α : Type} {d : D α} {G : Mem} {A : Option Addr} {xs : List α} {lo hi m : Nat} (h : rowAt d G A xs) (h1 : lo ≤ hi) (h2 : hi ≤ xs.length) (hm : hi ≤ m) : rowAt d G (cutA A m lo d.sz) ((xs.take hi).drop lo) := fun i hi' => by
  have hlen : ((xs.take hi).drop lo).length = hi - lo := by simp; omega
  rw [hlen] at hi'
  obtain ⟨ad, cs, rfl, h3, h4⟩ := h (lo + i) (by omega)
  have hne : ¬ m = lo := by omega
  refine ⟨ad.add (lo * d.sz), cs, by simp [cutA, hne], ?_, fun j v hj => ?_⟩
  · rw [List.getElem_drop, List.getElem_take]
    exact h3
  · rw [add_add, ← Nat.add_assoc, ← Nat.add_mul]
    exact h4 j v hj
theorem rep_sliceN {α : Type} {d : D α} {G : Mem} {A : Option Addr} {c n : Nat} {xs : List α} (hn : xs.length = n) (h1 : n ≤ c) (h2 : c ≤ maxLen) (h : rowAt d G A xs) : (D.slice d).rep G xs [.slice A n c] := by
  subst hn
  exact rep_slice h1 h2 h
section
variable {C : Ctx} {cur : Cur} {k : List CK} {s : S} {R : List (Nat × Row)} {G : Mem} {arr : Array Oper} {o : Oper} {r : List Oper}
/-- x[lo:hi:m], x a slice. -/
theorem X.cutM {t e sz n c : Nat} {A : Option Addr} {x h z : Operand} {l : Option Operand} {lv : Option Value} {hv zv : Value} (lo hi m : Nat) (h0 : lo ≤ hi) (h2 : hi ≤ m) (h3 : m ≤ c) (hl : bndV lv 0 lo) (hh : bndV (some hv) n hi) (hz : bndV (some zv) 0 m)
    (H : X C (.ops arr r) k (s.put o.dst (.v (.slice (cutA A m lo sz) (hi - lo) (m - lo)))) R G) (hop : o.op = .slice t x l (some h) (some z) := by kernel_rfl) (hx : s.ev x = some (.v (.slice A n c)) := by kernel_rfl) (hlv : evO s l = some lv := by kernel_rfl) (hhv : evO s (some h) = some (some hv) := by kernel_rfl) (hzv : evO s (some z) = some (some zv) := by kernel_rfl) (ht : C.P.underlying t = some (.slice e) := by kernel_rfl) (hsz : spure C.P (sizeOf e) = some sz := by kernel_rfl) (hg : (guardOk s arr o && s.can o.dst) = true := by kernel_rfl) : X C (.ops arr (o :: r)) k s R G := by
  simp only [Bool.and_eq_true] at hg
  refine X.val _ hg.1 hg.2 (fun ρ a w hs => ?_) H
  have e1 := evO_ok hs hhv
  have e2 := evO_ok hs hzv
  simp only [Option.map_some, Option.some.injEq] at e1 e2
  simp only [execOp, hop, hs.ev hx, evO_ok hs hlv, AV.real, Option.map_some, e1, e2]
  exact run_v (run_cutM ht hsz hl hh hz h0 h2 h3 w)
/-- A row of the own that is only read from now on. -/
theorem X.freezeT {α : Type} {d : D α} {i n c : Nat} {q : Row} {A : Option Addr} (xs : List α) (hqv : q.v = .slice A n c) (hd : 0 < d.sz) (hr : ∀ G', Le G G' → repsD d G' xs q.cells) (hn : R.all (fun p => p.1 != i) = true) (hM : ∀ x, ¬ C.M.can x)
    (H : ∀ G', Ge G C.w0.heap.size G' → rowAt d G' A xs → X C cur k s R G') : X C cur k s ((i, q) :: R) G := by
  refine X.freeze (i := i) (q := q) (R' := R) (by rw [lk_cons, if_pos rfl]) hqv (fun j p hj => ?_) (fun G' hG hc => H G' hG ?_) hM
  · have hne : j ≠ i := by
      have := List.all_eq_true.mp hn _ (lk_mem hj)
      simpa using this
    exact ⟨hne, by rw [lk_cons, if_neg (Ne.symm hne)]; exact hj⟩
  · exact rowAt_of_cells (hr G' hG.le) hd hc
end
theorem At.rowInt {kd : IntKind} {G : Mem} {R : List (Nat × Row)} {i n c k : Nat} {r : Row} {A : Option Addr} {ns : List Int} (h : lk R i = some r) (hv : r.v = .slice A n c) (hc : r.cells = ns.map (Value.int kd)) (hk : k < ns.length) : At G R A (k * 1) [.int kd (ns.getD k 0)] := by
  have h1 := At.of_row (G := G) (i := i) h hv
  rw [hc] at h1
  have h2 := h1.sub (vs := [.int kd (ns.getD k 0)]) k (fun j v hj => by
    cases j with
    | zero =>
      simp only [List.length_cons, List.getElem?_cons_zero, Option.some.injEq] at hj
      subst hj
      simp [List.getD, hk]
    | succ j => simp at hj)
  rw [Nat.zero_add] at h2
  rwa [Nat.mul_one]
theorem rem_run {P : Program} {f : Operand → Value} {o : Oper} {t t' : Nat} {x y : Operand} {kd : IntKind} {a b : Int} (w : World) (hop : o.op = .binOp .rem t x y t') (hx : f x = .int kd a) (hy : f y = .int kd b) (hb : b ≠ 0) : (execOp f o).run P w = .ok (.value (.int kd (Int.tmod a b))) w := by
  simp only [execOp, hop, hx, hy]
  refine run_v ?_
  have h3 : (eqGuard .rem t x y (.int kd a) (.int kd b)).run P w = .ok () w := by simp [eqGuard]
  have h2 : (Op.intDiv .rem kd a b).run P w = .ok (.int kd (Int.tmod a b)) w := by simp only [Op.intDiv, hb, if_false]; rfl
  first
    | (rw [binOp_rem]; exact h2)
    | (rw [run_bind_ok h3, binOp_rem]; exact h2)
theorem quo_run {P : Program} {f : Operand → Value} {o : Oper} {t t' : Nat} {x y : Operand} {kd : IntKind} {a b : Int} (w : World) (hop : o.op = .binOp .quo t x y t') (hx : f x = .int kd a) (hy : f y = .int kd b) (hb : b ≠ 0) : (execOp f o).run P w = .ok (.value (.int kd (kd.wrap (Int.tdiv a b)))) w := by
  simp only [execOp, hop, hx, hy]
  refine run_v ?_
  have h3 : (eqGuard .quo t x y (.int kd a) (.int kd b)).run P w = .ok () w := by simp [eqGuard]
  have h2 : (Op.intDiv .quo kd a b).run P w = .ok (.int kd (kd.wrap (Int.tdiv a b))) w := by simp only [Op.intDiv, hb, if_false]; rfl
  first
    | (rw [binOp_quo]; exact h2)
    | (rw [run_bind_ok h3, binOp_quo]; exact h2)
section
variable {C : Ctx} {k : List CK} {s : S} {R : List (Nat × Row)} {G : Mem} {arr : Array Oper} {o : Oper} {r : List Oper}
theorem X.rem {t t' : Nat} {x y : Operand} {kd : IntKind} {a b : Int} (hop : o.op = .binOp .rem t x y t') (hx : s.ev x = some (.v (.int kd a))) (hy : s.ev y = some (.v (.int kd b))) (hg : (guardOk s arr o && s.can o.dst) = true) (hb : b ≠ 0)
    (H : X C (.ops arr r) k (s.put o.dst (.v (.int kd (Int.tmod a b)))) R G) : X C (.ops arr (o :: r)) k s R G := by
  simp only [Bool.and_eq_true] at hg
  exact X.val _ hg.1 hg.2 (fun ρ a w hs => rem_run w hop (hs.ev hx) (hs.ev hy) hb) H
theorem X.quo {t t' : Nat} {x y : Operand} {kd : IntKind} {a b : Int} (hop : o.op = .binOp .quo t x y t') (hx : s.ev x = some (.v (.int kd a))) (hy : s.ev y = some (.v (.int kd b))) (hg : (guardOk s arr o && s.can o.dst) = true) (hb : b ≠ 0)
    (H : X C (.ops arr r) k (s.put o.dst (.v (.int kd (kd.wrap (Int.tdiv a b))))) R G) : X C (.ops arr (o :: r)) k s R G := by
  simp only [Bool.and_eq_true] at hg
  exact X.val _ hg.1 hg.2 (fun ρ a w hs => quo_run w hop (hs.ev hx) (hs.ev hy) hb) H
end
section
variable {C : Ctx} {arr : Array Oper} {ρ0 : Nat → Nat} {F : List Pin} {RF : List (Nat × Row)} {G0 G : Mem} {ds : List Nat} {n : Nat} {l l' : Array Bool} {k : List CK} {s : S} {R : List (Nat × Row)}
theorem XD.rem {i : Nat} (o : Oper) {t t' : Nat} {x y : Operand} {kd : IntKind} {a b : Int} (hQ : QOk C) (ho : arr[i]? = some o) (hc : takeB .any arr ds l l' i = true) (hop : o.op = .binOp .rem t x y t') (hx : s.ev x = some (.v (.int kd a))) (hy : s.ev y = some (.v (.int kd b))) (hg : (guardOk s arr o && s.can o.dst) = true) (hd : F.all (offPin o.dst) = true) (hb : b ≠ 0)
    (H : XD C arr ρ0 F RF G0 ds n l' k (s.put o.dst (.v (.int kd (Int.tmod a b)))) R G) : XD C arr ρ0 F RF G0 ds (n + 1) l k s R G := by
  refine XD.takeV (.v (.int kd (Int.tmod a b))) hQ ho hc hg (fun ρ ac w hs => ?_) hd H
  have e1 : (s.pinned F).ev x = some (.v (.int kd a)) := by cases x <;> exact hx
  have e2 : (s.pinned F).ev y = some (.v (.int kd b)) := by cases y <;> exact hy
  exact rem_run w hop (hs.ev e1) (hs.ev e2) hb
theorem XD.quo {i : Nat} (o : Oper) {t t' : Nat} {x y : Operand} {kd : IntKind} {a b : Int} (hQ : QOk C) (ho : arr[i]? = some o) (hc : takeB .any arr ds l l' i = true) (hop : o.op = .binOp .quo t x y t') (hx : s.ev x = some (.v (.int kd a))) (hy : s.ev y = some (.v (.int kd b))) (hg : (guardOk s arr o && s.can o.dst) = true) (hd : F.all (offPin o.dst) = true) (hb : b ≠ 0)
    (H : XD C arr ρ0 F RF G0 ds n l' k (s.put o.dst (.v (.int kd (kd.wrap (Int.tdiv a b))))) R G) : XD C arr ρ0 F RF G0 ds (n + 1) l k s R G := by
  refine XD.takeV (.v (.int kd (kd.wrap (Int.tdiv a b)))) hQ ho hc hg (fun ρ ac w hs => ?_) hd H
  have e1 : (s.pinned F).ev x = some (.v (.int kd a)) := by cases x <;> exact hx
  have e2 : (s.pinned F).ev y = some (.v (.int kd b)) := by cases y <;> exact hy
  exact quo_run w hop (hs.ev e1) (hs.ev e2) hb
end
/-- Ways that come together in whatever state J tells. -/
theorem X.joinJ {C : Ctx} {cur : Cur} {k : List CK} {s : S} {R : List (Nat × Row)} {G : Mem} (cur2 : Cur) (k2 : List CK) (J : S → List (Nat × Row) → Mem → Prop) (HJ : ∀ s2 R2 G2, J s2 R2 G2 → X C cur2 k2 s2 R2 G2) (K : (∀ s2 R2 G2, J s2 R2 G2 → X C cur2 k2 s2 R2 G2) → X C cur k s R G) : X C cur k s R G := K HJ
theorem shl_run {P : Program} {f : Operand → Value} {o : Oper} {t t' : Nat} {x y : Operand} {kd ky : IntKind} {a b : Int} (w : World) (hop : o.op = .binOp .shl t x y t') (hx : f x = .int kd a) (hy : f y = .int ky b) (hb : 0 ≤ b) : (execOp f o).run P w = .ok (.value (.int kd (bshl kd a b.toNat))) w := by
  simp only [execOp, hop, hx, hy]
  refine run_v ?_
  have h3 : (eqGuard .shl t x y (.int kd a) (.int ky b)).run P w = .ok () w := by simp [eqGuard]
  have h2 : (Op.shift .shl kd a ky b).run P w = .ok (.int kd (bshl kd a b.toNat)) w := by
    unfold Op.shift
    rw [if_neg (by omega)]
    rfl
  have h4 : binOp .shl t (.int kd a) (.int ky b) = Op.shift .shl kd a ky b := by simp [binOp]
  first
    | (rw [h4]; exact h2)
    | (rw [run_bind_ok h3, h4]; exact h2)
section
variable {C : Ctx} {k : List CK} {s : S} {R : List (Nat × Row)} {G : Mem} {arr : Array Oper} {o : Oper} {r : List Oper}
theorem X.shl {t t' : Nat} {x y : Operand} {kd ky : IntKind} {a b : Int} (hb : 0 ≤ b) (H : X C (.ops arr r) k (s.put o.dst (.v (.int kd (bshl kd a b.toNat)))) R G) (hop : o.op = .binOp .shl t x y t' := by kernel_rfl) (hx : s.ev x = some (.v (.int kd a)) := by kernel_rfl) (hy : s.ev y = some (.v (.int ky b)) := by kernel_rfl) (hg : (guardOk s arr o && s.can o.dst) = true := by kernel_rfl) : X C (.ops arr (o :: r)) k s R G := by
  simp only [Bool.and_eq_true] at hg
  exact X.val _ hg.1 hg.2 (fun ρ a w hs => shl_run w hop (hs.ev hx) (hs.ev hy) hb) H
end
/-! ### Rows of structs, told as a list -/
theorem flat_len {α : Type} {f : α → List Value} {z : Nat} (hz : ∀ x, (f x).length = z) : ∀ l : List α, (l.flatMap f).length = l.length * z
  | [] => by simp
  | x :: l => by rw [List.flatMap_cons, List.length_append, hz, flat_len hz l, List.length_cons, Nat.add_mul, Nat.one_mul, Nat.add_comm]
theorem flat_at {α : Type} {f : α → List Value} {z : Nat} (hz : ∀ x, (f x).length = z) : ∀ (l : List α) (k j : Nat) (d : α), k < l.length → j < z → (l.flatMap f)[k * z + j]? = (f (l.getD k d))[j]?
  | [], k, j, d, h, _ => by simp at h
  | x :: l, 0, j, d, _, hj => by
    rw [List.flatMap_cons, Nat.zero_mul, Nat.zero_add, List.getElem?_append_left (by rw [hz]; exact hj)]
    rfl
  | x :: l, k + 1, j, d, h, hj => by
    have e : (k + 1) * z + j = z + (k * z + j) := by rw [Nat.add_mul, Nat.one_mul]; omega
    rw [List.flatMap_cons, e, List.getElem?_append_right (by rw [hz]; omega), hz, Nat.add_sub_cancel_left]
    exact flat_at hz l k j d (by simpa using h) hj
theorem At.rowF {α : Type} (f : α → List Value) {z : Nat} (hz : ∀ x, (f x).length = z) {G : Mem} {R : List (Nat × Row)} {i n c k : Nat} {r : Row} {A : Option Addr} {l : List α} (d : α) (h : lk R i = some r) (hv : r.v = .slice A n c) (hc : r.cells = l.flatMap f) (hk : k < l.length) : At G R A (k * z) (f (l.getD k d)) := by
  have h1 := At.of_row (G := G) (i := i) h hv
  rw [hc] at h1
  have h2 := h1.sub (vs := f (l.getD k d)) (k * z) (fun j v hj => by
    have hlt : j < z := by
      have := (List.getElem?_eq_some_iff.mp hj).1
      rw [hz] at this
      exact this
    rw [flat_at hz l k j d hk hlt]
    exact hj)
  rwa [Nat.zero_add] at h2
theorem flat_snoc {α : Type} (f : α → List Value) (l : List α) (x : α) : l.flatMap f ++ f x = (l ++ [x]).flatMap f := by simp
theorem flat_pos {α : Type} {f : α → List Value} {z : Nat} (hz : ∀ x, (f x).length = z) (hp : 0 < z) {l : List α} (h : 0 < l.length) : 0 < (l.flatMap f).length := by
  rw [flat_len hz]
  exact Nat.mul_pos h hp
theorem splice_flat {α : Type} {f : α → List Value} {z : Nat} (hz : ∀ x, (f x).length = z) (x : α) : ∀ (l : List α) (k : Nat), k < l.length → splice (l.flatMap f) (k * z) (f x) = (l.set k x).flatMap f
  | [], k, h => by simp at h
  | y :: l, 0, _ => by
    unfold splice
    rw [Nat.zero_mul, List.take_zero, List.nil_append, Nat.zero_add, hz, List.flatMap_cons, List.set_cons_zero, List.flatMap_cons, List.drop_append_of_le_length (by rw [hz]; exact Nat.le_refl _), List.drop_of_length_le (by rw [hz]; exact Nat.le_refl _), List.nil_append]
  | y :: l, k + 1, h => by
    have ih := splice_flat hz x l k (by simpa using h)
    unfold splice at ih ⊢
    have e : (k + 1) * z = z + k * z := by rw [Nat.add_mul, Nat.one_mul, Nat.add_comm]
    rw [List.set_cons_succ, List.flatMap_cons, List.flatMap_cons, ← ih, e]
    rw [List.take_append, List.drop_append, List.take_of_length_le (by rw [hz]; omega), List.drop_of_length_le (by rw [hz]; omega)]
    simp only [hz, List.nil_append, List.append_assoc]
    rw [show z + k * z - z = k * z by omega, show z + k * z + z - z = k * z + z by omega]
/-- So many bytes are in all parts. -/
def flen (ps : List (List Int)) : Nat := ps.flatten.length
theorem flat_take {ps : List (List Int)} {i : Nat} (h : i < ps.length) : (ps.take (i + 1)).flatten = (ps.take i).flatten ++ ps.getD i [] := by
  rw [List.take_succ_eq_append_getElem h, List.flatten_append]
  simp [List.getD, h]
theorem flen_le {ps : List (List Int)} (i : Nat) : (ps.take i).flatten.length ≤ flen ps := by
  have : ps.flatten = (ps.take i).flatten ++ (ps.drop i).flatten := by rw [← List.flatten_append, List.take_append_drop]
  unfold flen
  rw [this, List.length_append]
  omega
end Go.Proofs.YtjgpdbkkpomhjaaX
