/- Rules: three operations that may come now; orders that come to one state told with names; a struct's box told as memory that stays. Conditions: none. -/
import Derived.Test.YtjgpdbkkpomhjaaYX
namespace Go.Proofs.YtjgpdbkkpomhjaaX
open Go.RowKit
open Go.Proofs.YtjgpdbkkpomhjaaW.PrintLast
set_option linter.unusedVariables false
set_option linter.unusedSimpArgs false
/-- Cells that stay. -/
def CellsG (G : Mem) (A : Option Addr) (vs : List Value) : Prop := ∀ j v, vs[j]? = some v → A.isSome = true ∧ cellG G (adr A j) = some v
theorem CellsG.mono {G G' : Mem} {A : Option Addr} {vs : List Value} (h : CellsG G A vs) (hl : Le G G') : CellsG G' A vs := fun j v hj => ⟨(h j v hj).1, cellG_le hl (h j v hj).2⟩
theorem At.of_cells {G : Mem} (R : List (Nat × Row)) {A : Option Addr} {vs : List Value} (h : CellsG G A vs) : At G R A 0 vs := fun w hw j v hj => by
  rw [Nat.zero_add]
  exact ⟨(h j v hj).1, cell_of_G hw.1 (h j v hj).2⟩
/-- Numbers that lie in such cells. -/
theorem CellsG.ints {G : Mem} {g : Nat} {vs : List Value} (h : CellsG G (some ⟨g, 0, none⟩) vs) {kd : IntKind} (o : Nat) (ns : List Int) (hv : (vs.drop o).take ns.length = ns.map (Value.int kd)) (hr : ∀ n ∈ ns, IntKind.lo kd ≤ n ∧ n ≤ IntKind.hi kd) : rowAt (D.int kd) G (some ⟨g, o, none⟩) ns := fun i hi => by
  refine ⟨_, [.int kd ns[i]], rfl, ⟨rfl, hr _ (List.getElem_mem hi)⟩, fun j v hj => ?_⟩
  cases j with
  | succ j => simp at hj
  | zero =>
    simp only [List.getElem?_cons_zero, Option.some.injEq] at hj
    subst hj
    have e1 : (⟨g, o, none⟩ : Addr).add (i * (D.int kd).sz + 0) = ⟨g, o + i, none⟩ := by rw [add_ptr]; show (⟨g, o + (i * 1 + 0), none⟩ : Addr) = _; simp
    have e2 : vs[o + i]? = some (.int kd ns[i]) := by
      have := congrArg (fun l => l[i]?) hv
      simp only [List.getElem?_take, hi, if_true, List.getElem?_drop, List.getElem?_map, List.getElem?_eq_getElem hi, Option.map_some] at this
      exact this
    have h3 := (h _ _ e2).2
    rw [e1, ← h3]
    congr 1
    simp only [adr, Option.getD_some, add_ptr, Nat.zero_add]
section
variable {C : Ctx} {arr : Array Oper} {ρ0 : Nat → Nat} {F : List Pin} {RF : List (Nat × Row)} {G0 G : Mem} {ds : List Nat} {l : Array Bool} {k : List CK} {s : S} {R : List (Nat × Row)}
/-- Three that may come now. -/
theorem XD.three {i j m : Nat} {li lj lm : Array Bool} {n : Nat} (oi oj om : Oper) (hoi : arr[i]? = some oi) (hoj : arr[j]? = some oj) (hom : arr[m]? = some om) (hc : ((Region.ready .any arr l == [i, j, m]) && ((l.setIfInBounds i true == li) && ((l.setIfInBounds j true == lj) && (l.setIfInBounds m true == lm)))) = true) (hdi : F.all (offPin oi.dst) = true) (hdj : F.all (offPin oj.dst) = true) (hdm : F.all (offPin om.dst) = true)
    (Hi : X C (.ops arr [oi]) (.loop (fun s' R' G' => PinsOk s' F ∧ Le G0 G' ∧ pickL R' (RF.map (·.1)) = RF ∧ XD C arr ρ0 F RF G0 ds n li k s' R' G') :: k) s R G)
    (Hj : X C (.ops arr [oj]) (.loop (fun s' R' G' => PinsOk s' F ∧ Le G0 G' ∧ pickL R' (RF.map (·.1)) = RF ∧ XD C arr ρ0 F RF G0 ds n lj k s' R' G') :: k) s R G)
    (Hm : X C (.ops arr [om]) (.loop (fun s' R' G' => PinsOk s' F ∧ Le G0 G' ∧ pickL R' (RF.map (·.1)) = RF ∧ XD C arr ρ0 F RF G0 ds n lm k s' R' G') :: k) s R G) : XD C arr ρ0 F RF G0 ds (n + 1) l k s R G := by
  intro hr hp hG hR ρ a w hs ha
  simp only [Bool.and_eq_true, beq_iff_eq] at hc
  obtain ⟨h1, rfl, rfl, rfl⟩ := hc
  refine wpAnyLast_all h1 (by simp) fun q hq => ?_
  rcases List.mem_cons.1 hq with rfl | hq
  · exact XD.core oi hoi hdi Hi hr hp hG hR hs ha
  · rcases List.mem_cons.1 hq with rfl | hq
    · exact XD.core oj hoj hdj Hj hr hp hG hR hs ha
    · obtain rfl : q = m := by simpa using hq
      exact XD.core om hom hdm Hm hr hp hG hR hs ha
/-- Orders that come to one state, told with names. -/
theorem XD.joinA {n : Nat} {α : Type} (s2 : α → S) (R2 : α → List (Nat × Row)) (l2 : Array Bool) (n2 : Nat)
    (HJ : ∀ x G2, Ge G C.w0.heap.size G2 → XD C arr ρ0 F RF G0 ds n2 l2 k (s2 x) (R2 x) G2) (K : (∀ x G2, Ge G C.w0.heap.size G2 → XD C arr ρ0 F RF G0 ds n2 l2 k (s2 x) (R2 x) G2) → XD C arr ρ0 F RF G0 ds n l k s R G) : XD C arr ρ0 F RF G0 ds n l k s R G := K HJ
theorem XD.rows {n : Nat} (ids : List Nat) {R' : List (Nat × Row)} (h : pickL R ids = R') (hF : pickL R' (RF.map (·.1)) = RF) (H : XD C arr ρ0 F RF G0 ds n l k s R' G) : XD C arr ρ0 F RF G0 ds n l k s R G := fun hr hp hG hR ρ a w hs ha =>
  H hr hp hG hF ρ a w (hs.sub rfl (fun _ _ h => h) (fun _ _ h => h) (fun i q hi => pickL_lk (ids := ids) (by rw [h]; exact hi))) ha
/-- A struct's box that is only read from now on. -/
theorem X.boxOutS {cur : Cur} {t b bt : Nat} {cs : List AV} (vs : List Value) (hx : lk s.tmps t = some (.own b 0)) (hb : lk s.boxes b = some ⟨bt, cs⟩) (hc : cs = vs.map .v) (hM : ∀ g, ¬ C.M.can g)
    (H : ∀ g G', Ge G C.w0.heap.size G' → CellsG G' (some ⟨g, 0, none⟩) vs → X C cur k ⟨s.n, (t, .v (elt (some ⟨g, 0, none⟩) 0)) :: s.tmps, s.boxes.filter (fun p => p.1 != b)⟩ R G') : X C cur k s R G := by
  intro ρ a w hs
  have hle : C.w0.heap.size ≤ ρ b := (hs.bo b _ hb).resolve_right (hM _)
  have hN : G (ρ b) = none := by
    cases e : G (ρ b) with
    | none => rfl
    | some q => exact absurd rfl (hs.gb _ _ _ _ e hb)
  subst hc
  have hrow : CellsG (updG G (ρ b) ((⟨bt, vs.map .v⟩ : Box).obj ρ)) (some ⟨ρ b, 0, none⟩) vs := fun j v hj => by
    refine ⟨rfl, ?_⟩
    have e1 : adr (some (⟨ρ b, 0, none⟩ : Addr)) j = ⟨ρ b, j, none⟩ := by simp only [adr, Option.getD_some, add_ptr, Nat.zero_add]
    rw [e1]
    unfold cellG
    simp only [updG_at]
    simp [Box.obj, hj, AV.real]
  refine H (ρ b) _ (updG_ge (Ge.refl G _) hle hN) hrow ρ a w ?_
  have h := hs.boxG hb
  refine ⟨fun i x hi => ?_, h.sz, h.df, h.bx, h.bo, h.bi, h.rw, h.ro, h.ri, h.rb, h.g, h.gb, h.gr, h.fr, h.pn⟩
  rw [lk_cons] at hi
  by_cases e : t = i
  · subst e
    rw [if_pos rfl] at hi
    injection hi with hi
    subst hi
    have := hs.tm t _ hx
    rw [this]
    simp [AV.real, elt, adr, add_ptr, ptr]
  · rw [if_neg e] at hi
    exact h.tm i x hi
end
end Go.Proofs.YtjgpdbkkpomhjaaX
