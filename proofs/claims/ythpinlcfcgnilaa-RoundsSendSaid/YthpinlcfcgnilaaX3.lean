/- Events of the reckoning on rows: what the call itself made, read, cut, appended to, written, handed on; strings and bytes. Conditions: none. -/
import Derived.Test.YthpinlcfcgnilaaX2
import Derived.Maps.AppendAt
import Derived.Laws.BytesString
namespace Go.Proofs.YthpinlcfcgnilaaX
open Go.RowKit
set_option linter.unusedVariables false
set_option linter.unusedSimpArgs false

/-- What the memory holds, for a reader. -/
def Mm (G : Mem) (R : List (Nat × Row)) (w : World) : Prop := Hold G w ∧ ∀ i r, lk R i = some r → w.ownsRow 0 r.e r.size r.v r.n r.cells
theorem St.mm {w0 w : World} {M : Mk} {ρ : Nat → Nat} {G : Mem} {R : List (Nat × Row)} {s : S} {a : Act} (h : St w0 M ρ G R s a w) : Mm G R w := ⟨h.g, h.rw⟩
def adr (A : Option Addr) (k : Nat) : Addr := (A.getD default).add k
/-- A pointer to a cell behind an address. -/
def elt (A : Option Addr) (k : Nat) : Value := .pointer (some (adr A k))
/-- The cells from place k on. -/
def At (G : Mem) (R : List (Nat × Row)) (A : Option Addr) (k : Nat) (vs : List Value) : Prop :=
  ∀ w, Mm G R w → ∀ j v, vs[j]? = some v → A.isSome = true ∧ w.cell? (adr A (k + j)) = some v
theorem add_add (a : Addr) (i j : Nat) : (a.add i).add j = a.add (i + j) := by
  unfold Addr.add
  by_cases h : i = 0
  · subst h; simp
  · by_cases h2 : j = 0
    · subst h2; simp [h]
    · rw [if_neg h2, if_neg h, if_neg (by omega)]
      simp [Nat.add_assoc]
theorem add_zero (a : Addr) : a.add 0 = a := by simp [Addr.add]
theorem adr_add (A : Option Addr) (k j : Nat) : (adr A k).add j = adr A (k + j) := add_add _ _ _
theorem At.sub {G : Mem} {R : List (Nat × Row)} {A : Option Addr} {k : Nat} {cs vs : List Value} (h : At G R A k cs) (o : Nat) (hs : ∀ j v, vs[j]? = some v → cs[o + j]? = some v) : At G R A (k + o) vs := fun w hw j v hj => by
  have := h w hw (o + j) v (hs j v hj)
  rwa [← Nat.add_assoc] at this
theorem At.of_rowAt {α : Type} {d : D α} {G : Mem} {A : Option Addr} {xs : List α} (R : List (Nat × Row)) (h : rowAt d G A xs) (i : Nat) (hi : i < xs.length) : ∃ cs, d.rep G xs[i] cs ∧ At G R A (i * d.sz) cs := by
  obtain ⟨ad, cs, rfl, h2, h3⟩ := h i hi
  exact ⟨cs, h2, fun w hw j v hj => ⟨rfl, cell_of_G hw.1 (h3 j v hj)⟩⟩
theorem At.of_row {G : Mem} {R : List (Nat × Row)} {i n c : Nat} {r : Row} {A : Option Addr} (h : lk R i = some r) (hv : r.v = .slice A n c) : At G R A 0 r.cells := fun w hw j v hj => by
  have ho := hw.2 i r h
  obtain ⟨o1, o2⟩ := ho
  rcases o2 with ⟨h2, h3⟩ | ⟨g, cap, cur, h2, _, hg, _, _, _, htake⟩
  · rw [h3, Nat.zero_mul] at o1
    rw [List.eq_nil_of_length_eq_zero o1] at hj
    simp at hj
  · rw [hv] at h2
    injection h2 with h2 _ _
    subst h2
    refine ⟨rfl, ?_⟩
    rw [Nat.zero_add]
    have e : adr (some (⟨g, 0, none⟩ : Addr)) j = ⟨g, j, none⟩ := by simp only [adr, Option.getD_some, add_ptr, Nat.zero_add]
    rw [e, cell_of_row w g j cur _ _ hg]
    rw [← htake, List.getElem?_take] at hj
    split at hj
    · simpa using hj
    · cases hj
/-- All cells of a row that stays. -/
theorem At.all {α : Type} {d : D α} {G : Mem} (R : List (Nat × Row)) {A : Option Addr} {xs : List α} (h : rowAt d G A xs) : ∃ cs, repsD d G xs cs ∧ At G R A 0 cs := by
  have key : ∀ n, n ≤ xs.length → ∃ cs, repsD d G (xs.take n) cs ∧ ∀ j v, cs[j]? = some v → ∃ ad, A = some ad ∧ cellG G (ad.add j) = some v := by
    intro n
    induction n with
    | zero => intro _; exact ⟨[], rfl, fun j v h => by simp at h⟩
    | succ n ih =>
      intro hn
      obtain ⟨cs, h1, h2⟩ := ih (by omega)
      obtain ⟨ad, c, hA, h3, h4⟩ := h n (by omega)
      refine ⟨cs ++ c, ?_, fun j v hj => ?_⟩
      · rw [List.take_succ_eq_append_getElem (by omega)]
        exact h1.append (.single h3)
      · have hl : cs.length = n * d.sz := by rw [h1.len, List.length_take, Nat.min_eq_left (by omega)]
        by_cases hjl : j < cs.length
        · rw [List.getElem?_append_left hjl] at hj
          exact h2 j v hj
        · rw [List.getElem?_append_right (by omega)] at hj
          refine ⟨ad, hA, ?_⟩
          have := h4 (j - cs.length) v hj
          rwa [show n * d.sz + (j - cs.length) = j by omega] at this
  obtain ⟨cs, h1, h2⟩ := key xs.length (Nat.le_refl _)
  rw [List.take_length] at h1
  refine ⟨cs, h1, fun w hw j v hj => ?_⟩
  obtain ⟨ad, rfl, h3⟩ := h2 j v hj
  exact ⟨rfl, by rw [Nat.zero_add]; exact cell_of_G hw.1 h3⟩
theorem rowAt_of_cells {α : Type} {d : D α} {G : Mem} {A : Option Addr} {xs : List α} {cs : List Value} (hr : repsD d G xs cs) (hd : 0 < d.sz) (h : ∀ j v, cs[j]? = some v → ∃ ad, A = some ad ∧ cellG G (ad.add j) = some v) : rowAt d G A xs := fun i hi => by
  obtain ⟨c, h1, h2⟩ := hr.get i hi
  have hl := d.len h1
  cases c with
  | nil => simp at hl; omega
  | cons c0 c =>
    obtain ⟨ad, hA, _⟩ := h _ _ (h2 0 c0 rfl)
    refine ⟨ad, c0 :: c, hA, h1, fun j v hj => ?_⟩
    obtain ⟨ad', hA', h3⟩ := h _ _ (h2 j v hj)
    rw [hA] at hA'
    injection hA' with e
    subst e
    exact h3
def cutA (A : Option Addr) (c lo sz : Nat) : Option Addr := if c = lo then A else A.map (·.add (lo * sz))
theorem rowAt_cut {α : Type} {d : D α} {G : Mem} {A : Option Addr} {xs : List α} {c lo hi : Nat} (h : rowAt d G A xs) (h1 : lo ≤ hi) (h2 : hi ≤ xs.length) (hc : xs.length ≤ c) : rowAt d G (cutA A c lo d.sz) ((xs.take hi).drop lo) := fun i hi' => by
  have hlen : ((xs.take hi).drop lo).length = hi - lo := by simp; omega
  rw [hlen] at hi'
  obtain ⟨ad, cs, rfl, h3, h4⟩ := h (lo + i) (by omega)
  have hne : ¬ c = lo := by omega
  refine ⟨ad.add (lo * d.sz), cs, by simp [cutA, hne], ?_, fun j v hj => ?_⟩
  · rw [List.getElem_drop, List.getElem_take]
    exact h3
  · rw [add_add, ← Nat.add_assoc, ← Nat.add_mul]
    exact h4 j v hj
section
variable {C : Ctx} {cur : Cur} {k : List CK} {s : S} {R : List (Nat × Row)} {G : Mem} {arr : Array Oper} {o : Oper} {r : List Oper}
theorem run_index {P : Program} {t e sz n c : Nat} {A : Option Addr} {ki : IntKind} {i : Int} (ht : P.underlying t = some (.slice e)) (hsz : spure P (sizeOf e) = some sz) (h0 : 0 ≤ i) (h1 : i < n) (hA : A.isSome = true) (w : World) : (Instr.indexAt t (.slice A n c) (.int ki i)).run P w = .ok (elt A (i.toNat * sz)) w := by
  obtain ⟨ad, rfl⟩ := Option.isSome_iff_exists.1 hA
  unfold Instr.indexAt
  rw [run_bind_ok (show (asIntOf (.int ki i)).run P w = .ok (ki, i) w from rfl)]
  simp only
  rw [run_bind_ok (run_underlying ht w)]
  simp only
  rw [run_bind_ok (show (pure (some ad, n, e) : Sem (Option Addr × Nat × TypeId)).run P w = .ok _ w from rfl)]
  simp only
  rw [run_bind_ok (run_underlying ht w)]
  simp only [h0, h1, and_self, if_true]
  rw [run_bind_ok (spure_run hsz w)]
  rfl
/-- x[i], its address. -/
theorem X.index {t e sz n c : Nat} {A : Option Addr} {ki : IntKind} {i : Int} {x ix : Operand} (hop : o.op = .indexAddr t x ix) (hx : s.ev x = some (.v (.slice A n c))) (hi : s.ev ix = some (.v (.int ki i))) (ht : C.P.underlying t = some (.slice e)) (hsz : spure C.P (sizeOf e) = some sz) (hg : (guardOk s arr o && s.can o.dst) = true) (h0 : 0 ≤ i) (h1 : i < n) (hA : ∀ w, Mm G R w → A.isSome = true)
    (H : X C (.ops arr r) k (s.put o.dst (.v (elt A (i.toNat * sz)))) R G) : X C (.ops arr (o :: r)) k s R G := by
  simp only [Bool.and_eq_true] at hg
  refine X.val _ hg.1 hg.2 (fun ρ a w hs => ?_) H
  simp only [execOp, hop, hs.ev hx, hs.ev hi, AV.real]
  exact run_v (run_index ht hsz h0 h1 (hA w hs.mm) w)
theorem X.field {t f n j : Nat} {A : Option Addr} {x : Operand} (hop : o.op = .fieldAddr t x f) (hx : s.ev x = some (.v (elt A j))) (hf : fieldOff C.P t f = some n) (hg : (guardOk s arr o && s.can o.dst) = true) (H : X C (.ops arr r) k (s.put o.dst (.v (elt A (j + n)))) R G) : X C (.ops arr (o :: r)) k s R G := by
  simp only [Bool.and_eq_true] at hg
  refine X.val _ hg.1 hg.2 (fun ρ a w hs => ?_) H
  simp only [execOp, hop, hs.ev hx, AV.real]
  refine run_v ?_
  unfold fieldOff at hf
  split at hf
  · rename_i fs hu
    split at hf
    · rename_i fd hfd
      split at hf
      · rename_i m hm
        injection hf with hf
        subst hf
        unfold Instr.fieldAt
        rw [run_bind_ok (run_underlying hu w)]
        simp only [hfd]
        rw [run_bind_ok (show (Instr.sureAddr (elt A j)).run C.P w = .ok (adr A j) w from rfl)]
        have h2 : (fieldPlace (adr A j) fd).run C.P w = .ok (adr A (j + fd.offset)) w := by
          unfold fieldPlace
          rw [run_bind_ok (spure_run hm w)]
          simp only [Nat.add_eq_zero_iff, Nat.one_ne_zero, and_false, if_false, adr_add]
          rfl
        rw [run_bind_ok h2]
        rfl
      · cases hf
    · cases hf
  · cases hf
def ldRes (P : Program) (t : TypeId) (vs : List Value) : Option Value := match spure P (isAgg t) with
  | some false => match vs with
    | [v] => some v
    | _ => none
  | some true => match spure P (sizeOf t) with
    | some n => if Nat.beq vs.length n then some (.agg vs.toArray) else none
    | none => none
  | none => none
theorem run_loadAt {P : Program} {t : Nat} {vs : List Value} {z : Value} {ad : Addr} {w : World} (hz : ldRes P t vs = some z) (hc : ∀ j v, vs[j]? = some v → w.cell? (ad.add j) = some v) : (Instr.loadAt t (.pointer (some ad))).run P w = .ok z w := by
  unfold Instr.loadAt
  rw [run_bind_ok (show (Instr.sureAddr (.pointer (some ad))).run P w = .ok ad w from rfl)]
  unfold loadVar
  unfold ldRes at hz
  split at hz
  · rename_i ha
    split at hz
    · injection hz with hz
      subst hz
      rw [run_bind_ok (spure_run ha w)]
      have := hc 0 _ rfl
      rw [add_zero] at this
      simp [load, Sem.run, this]
    · cases hz
  · rename_i ha
    split at hz
    · rename_i n hn
      split at hz
      · rename_i hl
        injection hz with hz
        subst hz
        have e : vs.length = n := Nat.eq_of_beq_eq_true hl
        rw [run_bind_ok (spure_run ha w)]
        simp only [if_true]
        rw [run_bind_ok (spure_run hn w), ← e, run_bind_ok (run_loadCells_list (cs := vs) (a := ad) (h := hc) ..)]
        rfl
      · cases hz
    · cases hz
  · cases hz
/-- A load behind an address. -/
theorem X.load {t j : Nat} {A : Option Addr} {x : Operand} {z : Value} (vs : List Value) (hop : o.op = .load t x) (hx : s.ev x = some (.v (elt A j))) (hat : At G R A j vs) (hz : ldRes C.P t vs = some z) (hg : (guardOk s arr o && s.can o.dst) = true) (H : X C (.ops arr r) k (s.put o.dst (.v z)) R G) : X C (.ops arr (o :: r)) k s R G := by
  simp only [Bool.and_eq_true] at hg
  refine X.val _ hg.1 hg.2 (fun ρ a w hs => ?_) H
  simp only [execOp, hop, hs.ev hx, AV.real]
  refine run_v (run_loadAt hz fun i v hi => ?_)
  rw [adr_add]
  exact (hat w hs.mm i v hi).2

/-! #### Cuts -/
theorem run_bound {P : Program} {ki : IntKind} {i : Int} {y : Nat} {code : BoundsCode} (h0 : 0 ≤ i) (h1 : i ≤ y) (w : World) : (Instr.sliceBound (.int ki i) y code).run P w = .ok i.toNat w := by
  unfold Instr.sliceBound
  rw [run_bind_ok (show (asIntOf (.int ki i)).run P w = .ok (ki, i) w from rfl)]
  simp only [h0, h1, and_self, if_true]
  rfl
/-- The bounds of a cut: what is told of each. -/
def bndV (x : Option Value) (d : Nat) (n : Nat) : Prop := match x with
  | none => n = d
  | some v => ∃ ki i, v = .int ki i ∧ 0 ≤ i ∧ n = i.toNat
theorem run_bounds {P : Program} {isS : Bool} {len cap lo hi : Nat} {l h : Option Value} (hl : bndV l 0 lo) (hh : bndV h len hi) (h1 : lo ≤ hi) (h2 : hi ≤ cap) (w : World) : (Instr.sliceBounds isS len cap l h none).run P w = .ok (lo, hi, cap) w := by
  unfold Instr.sliceBounds
  have p1 : ∀ (x : Nat), (pure x : Sem Nat).run P w = .ok x w := fun _ => rfl
  cases h with
  | none =>
    simp only [bndV] at hh
    subst hh
    cases l with
    | none =>
      simp only [bndV] at hl
      subst hl
      rfl
    | some v =>
      obtain ⟨ki, i, rfl, h3, rfl⟩ := hl
      simp only
      rw [run_bind_ok (p1 cap), run_bind_ok (p1 _), run_bind_ok (run_bound h3 (by omega) w)]
      rfl
  | some v =>
    obtain ⟨ki, i, rfl, h3, rfl⟩ := hh
    cases l with
    | none =>
      simp only [bndV] at hl
      subst hl
      simp only
      rw [run_bind_ok (p1 cap), run_bind_ok (run_bound h3 (by omega) w)]
      rfl
    | some v =>
      obtain ⟨ki2, i2, rfl, h4, rfl⟩ := hl
      simp only
      rw [run_bind_ok (p1 cap), run_bind_ok (run_bound h3 (by omega) w), run_bind_ok (run_bound h4 (by omega) w)]
      rfl
theorem run_cut {P : Program} {t e sz n c lo hi : Nat} {A : Option Addr} {l h : Option Value} (ht : P.underlying t = some (.slice e)) (hsz : spure P (sizeOf e) = some sz) (hl : bndV l 0 lo) (hh : bndV h n hi) (h1 : lo ≤ hi) (h2 : hi ≤ c) (w : World) : (Instr.sliceAt t (.slice A n c) l h none).run P w = .ok (.slice (cutA A c lo sz) (hi - lo) (c - lo)) w := by
  unfold Instr.sliceAt
  rw [run_bind_ok (run_underlying ht w)]
  simp only
  unfold Instr.slice
  rw [run_bind_ok (run_underlying ht w)]
  simp only
  rw [run_bind_ok (run_bounds hl hh h1 h2 w)]
  simp only
  rw [run_bind_ok (spure_run hsz w)]
  rfl
theorem run_cut_str {P : Program} {t lo hi : Nat} {b : ByteArray} {l h : Option Value} (ht : P.underlying t = some .string) (hl : bndV l 0 lo) (hh : bndV h b.size hi) (h1 : lo ≤ hi) (h2 : hi ≤ b.size) (w : World) : (Instr.sliceAt t (.string b) l h none).run P w = .ok (.string (b.extract lo hi)) w := by
  unfold Instr.sliceAt
  rw [run_bind_ok (run_underlying ht w)]
  simp only
  unfold Instr.slice
  rw [run_bind_ok (run_underlying ht w)]
  simp only [Option.isSome_none, Bool.false_eq_true, if_false]
  rw [run_bind_ok (run_bounds hl hh h1 h2 w)]
  rfl
def evO (s : S) : Option Operand → Option (Option Value)
  | none => some none
  | some x => match s.ev x with
    | some (.v z) => some (some z)
    | _ => none
theorem evO_ok {ρ : Nat → Nat} {a : Act} {w : World} {x : Option Operand} {z : Option Value} (hs : St C.w0 C.M ρ G R s a w) (h : evO s x = some z) : x.map a.eval = z := by
  cases x with
  | none => simp only [evO, Option.some.injEq] at h; subst h; rfl
  | some x =>
    simp only [evO] at h
    split at h
    · rename_i z' hz
      injection h with h
      subst h
      simp only [Option.map_some, hs.ev hz, AV.real]
    · cases h
/-- x[lo:hi], x a slice. -/
theorem X.cut {t e sz n c : Nat} {A : Option Addr} {x : Operand} {l h : Option Operand} {lv hv : Option Value} (lo hi : Nat) (hop : o.op = .slice t x l h none) (hx : s.ev x = some (.v (.slice A n c))) (hlv : evO s l = some lv) (hhv : evO s h = some hv) (ht : C.P.underlying t = some (.slice e)) (hsz : spure C.P (sizeOf e) = some sz) (hg : (guardOk s arr o && s.can o.dst) = true) (hl : bndV lv 0 lo) (hh : bndV hv n hi) (h1 : lo ≤ hi) (h2 : hi ≤ c)
    (H : X C (.ops arr r) k (s.put o.dst (.v (.slice (cutA A c lo sz) (hi - lo) (c - lo)))) R G) : X C (.ops arr (o :: r)) k s R G := by
  simp only [Bool.and_eq_true] at hg
  refine X.val _ hg.1 hg.2 (fun ρ a w hs => ?_) H
  simp only [execOp, hop, hs.ev hx, evO_ok hs hlv, evO_ok hs hhv, AV.real, Option.map_none]
  exact run_v (run_cut ht hsz hl hh h1 h2 w)
theorem X.cutStr {t : Nat} {b : ByteArray} {x : Operand} {l h : Option Operand} {lv hv : Option Value} (lo hi : Nat) (hop : o.op = .slice t x l h none) (hx : s.ev x = some (.v (.string b))) (hlv : evO s l = some lv) (hhv : evO s h = some hv) (ht : C.P.underlying t = some .string) (hg : (guardOk s arr o && s.can o.dst) = true) (hl : bndV lv 0 lo) (hh : bndV hv b.size hi) (h1 : lo ≤ hi) (h2 : hi ≤ b.size)
    (H : X C (.ops arr r) k (s.put o.dst (.v (.string (b.extract lo hi)))) R G) : X C (.ops arr (o :: r)) k s R G := by
  simp only [Bool.and_eq_true] at hg
  refine X.val _ hg.1 hg.2 (fun ρ a w hs => ?_) H
  simp only [execOp, hop, hs.ev hx, evO_ok hs hlv, evO_ok hs hhv, AV.real, Option.map_none]
  exact run_v (run_cut_str ht hl hh h1 h2 w)

/-! #### New rows -/
/-- A run that makes one block. -/
def snew {α : Type} (P : Program) : Sem α → Nat → Option (Obj × α)
  | .new o k, g => (spure P (k g)).map (o, ·)
  | .program k, g => snew P (k P) g
  | .mark _ k, g => snew P k g
  | _, _ => none
theorem snew_run {α : Type} {P : Program} : ∀ {s : Sem α} {o : Obj} {x : α} {w : World}, snew P s w.heap.size = some (o, x) → s.run P w = .ok x (w.alloc o) := by
  intro s
  induction s with
  | new ob k ih =>
    intro o x w h
    simp only [snew, Option.map_eq_some_iff, Prod.mk.injEq] at h
    obtain ⟨y, h1, rfl, rfl⟩ := h
    exact spure_run h1 _
  | program k ih => intro o x w h; exact ih P (by simpa [snew] using h)
  | mark m k ih => intro o x w h; exact ih (by simpa [snew] using h)
  | _ => intro o x w h; simp [snew] at h
def plainOps (o : Oper) : List Operand := match o.op with
  | .buildSlice _ _ ps => ps.toList.map (·.2)
  | .makeSlice _ x y => [x, y]
  | _ => [.tmp 0]
def isLit : Op → Bool
  | .buildSlice .. | .makeSlice .. => true
  | _ => false
theorem exec_lit {f g : Operand → Value} (hp : isLit o.op = true) (h : ∀ x ∈ plainOps o, f x = g x) : execOp f o = execOp g o := by
  obtain ⟨dst, op, ty, pos, af, gd⟩ := o
  simp only at hp
  simp only [plainOps] at h
  cases op with
  | buildSlice t n ps =>
    have : (ps.map fun (i, x) => (i, f x)) = (ps.map fun (i, x) => (i, g x)) := by
      apply Array.map_congr_left
      intro p hp
      obtain ⟨i, x⟩ := p
      simp only [Prod.mk.injEq, true_and]
      exact h x (List.mem_map.mpr ⟨(i, x), Array.mem_toList_iff.mpr hp, rfl⟩)
    simp only [execOp, this]
  | makeSlice t x y => simp [execOp, h x (by simp), h y (by simp)]
  | _ => simp [isLit] at hp
theorem lk_shadow {β : Type} {l : List (Nat × β)} {i j : Nat} {x y : β} (h : lk ((i, x) :: l) j = some y) : (j = i ∧ y = x) ∨ (j ≠ i ∧ lk l j = some y) := by
  rw [lk_cons] at h
  by_cases e : i = j
  · rw [if_pos e] at h
    injection h with h
    exact .inl ⟨e.symm, h.symm⟩
  · rw [if_neg e] at h
    exact .inr ⟨Ne.symm e, h⟩
/-- A row that is told anew: its block is its own old one, or new. -/
theorem St.row {ρ : Nat → Nat} {a : Act} {w w' : World} (i : Nat) {q : Row} {old : Option Nat} (hs : St C.w0 C.M ρ G R s a w) (hold : ∀ g, old = some g → ∃ p, lk R i = some p ∧ p.v.ownBlock = some g) (hg : w.grownBy w' old) (hq : w'.ownsRow 0 q.e q.size q.v q.n q.cells) (hat : ∀ g, q.v.ownBlock = some g → old = some g ∨ w.heap.size ≤ g) : St C.w0 C.M ρ G ((i, q) :: R) s a w' := by
  have k := Md.of_grown hg
  have keep : ∀ {x : Nat} {o' : Obj}, w.heap[x]? = some o' → old ≠ some x → w'.heap[x]? = some o' := fun {x o'} hx hn => (hg.block x (Array.getElem?_eq_some_iff.1 hx).1 (fun e => hn e.symm)).trans hx
  have nb : ∀ {j b}, lk s.boxes j = some b → old ≠ some (ρ j) := fun {j b} hj e => by
    obtain ⟨p, hp, hpb⟩ := hold _ e
    exact hs.rb i j p b hp hj hpb
  have ng : ∀ {x o'}, G x = some o' → old ≠ some x := fun {x o'} hx e => by
    obtain ⟨p, hp, hpb⟩ := hold _ e
    exact hs.gr x o' i p hx hp hpb
  have nr : ∀ {j p x}, j ≠ i → lk R j = some p → p.v.ownBlock = some x → old ≠ some x := fun {j p x} hn hj hx e => by
    obtain ⟨p', hp, hpb⟩ := hold _ e
    exact hn (hs.ri j i p p' x hj hp hx hpb)
  have qb : ∀ {x}, q.v.ownBlock = some x → (∃ p, lk R i = some p ∧ p.v.ownBlock = some x) ∨ w.heap.size ≤ x := fun {x} hx => by
    rcases hat x hx with h | h
    · exact .inl (hold _ h)
    · exact .inr h
  refine ⟨hs.tm, hs.sz, hs.df, fun j b hj => keep (hs.bx j b hj) (nb hj), hs.bo, hs.bi, fun j p hj => ?_, fun j p x hj hx => ?_, fun j l p p' x hj hl h1 h2 => ?_, fun j l p b hj hl e => ?_, fun x o' hx => keep (hs.g x o' hx) (ng hx), hs.gb, fun x o' j p hx hj e => ?_, ?_, hs.pn⟩
  · rcases lk_shadow hj with ⟨rfl, rfl⟩ | ⟨hn, hj⟩
    · exact hq
    · obtain ⟨o1, o2⟩ := hs.rw j p hj
      refine ⟨o1, ?_⟩
      rcases o2 with o2 | ⟨g, cap, cur, hv, hb', hh, rest⟩
      · exact .inl o2
      · exact .inr ⟨g, cap, cur, hv, hb', keep hh (nr hn hj (by rw [hv]; rfl)), rest⟩
  · rcases lk_shadow hj with ⟨rfl, rfl⟩ | ⟨hn, hj⟩
    · rcases qb hx with ⟨p, hp, hpb⟩ | h
      · exact hs.ro _ p x hp hpb
      · exact .inl (Nat.le_trans hs.fr.size h)
    · exact hs.ro j p x hj hx
  · rcases lk_shadow hj with ⟨rfl, rfl⟩ | ⟨hn, hj⟩
    · rcases lk_shadow hl with ⟨rfl, rfl⟩ | ⟨hn2, hl⟩
      · rfl
      · rcases qb h1 with ⟨p1, hp, hpb⟩ | h
        · exact hs.ri _ l p1 p' x hp hl hpb h2
        · have := hs.r_lt hl h2
          omega
    · rcases lk_shadow hl with ⟨e1, e2⟩ | ⟨hn2, hl⟩
      · rw [e2] at h2
        rcases qb h2 with ⟨p1, hp, hpb⟩ | h
        · rw [e1]
          exact hs.ri j _ p p1 x hj hp h1 hpb
        · have := hs.r_lt hj h1
          omega
      · exact hs.ri j l p p' x hj hl h1 h2
  · rcases lk_shadow hj with ⟨rfl, rfl⟩ | ⟨hn, hj⟩
    · rcases qb e with ⟨p1, hp, hpb⟩ | h
      · exact hs.rb _ l p1 b hp hl hpb
      · have := hs.b_lt hl
        omega
    · exact hs.rb j l p b hj hl e
  · rcases lk_shadow hj with ⟨rfl, rfl⟩ | ⟨hn, hj⟩
    · rcases qb e with ⟨p1, hp, hpb⟩ | h
      · exact hs.gr x o' _ p1 hx hp hpb
      · have := hs.g_lt hx
        omega
    · exact hs.gr x o' j p hx hj e
  · exact hs.fr.md k (fun x hx => by
      obtain ⟨p, hp, hpb⟩ := hold x hx
      exact hs.ro i p x hp hpb)
/-- A slice literal, a make: its cells. -/
theorem X.lit (nm : Nat) (e size n : Nat) (cs : List Value) (hp : (isLit o.op && ((plainOps o).all s.plain && (guardOk s arr o && (s.can o.dst && (Nat.beq cs.length (n * size) && Nat.ble n 9223372036854775807))))) = true) (hrun : ∀ g, snew C.P (execOp s.real o) g = some (.cells cs.toArray e (0, 0), .value (.slice (some ⟨g, 0, none⟩) n n)))
    (H : ∀ A, X C (.ops arr r) k (s.put o.dst (.v (.slice A n n))) ((nm, ⟨e, size, .slice A n n, n, cs⟩) :: R) G) : X C (.ops arr (o :: r)) k s R G := by
  simp only [Bool.and_eq_true, List.all_eq_true] at hp
  refine X.op hp.2.2.1 fun ρ a w hs next hn => ?_
  have he : execOp a.eval o = execOp s.real o := exec_lit hp.1 (fun x hx => by
    obtain ⟨z, h1, h2⟩ := S.plain_real (hp.2.1 x hx)
    rw [h2]
    exact hs.ev h1)
  refine wp_value (by rw [he]; exact snew_run (hrun w.heap.size)) (hn ρ _ _ _ _ _ (H (some ⟨w.heap.size, 0, none⟩)) ?_)
  have hrow : St C.w0 C.M ρ G ((nm, ⟨e, size, .slice (some ⟨w.heap.size, 0, none⟩) n n, n, cs⟩) :: R) s a (w.alloc (.cells cs.toArray e)) := by
    refine hs.row nm (old := none) (fun g h => by cases h) (World.grownBy_alloc w _ none) ?_ (fun g h => .inr ?_)
    · exact ⟨Nat.eq_of_beq_eq_true hp.2.2.2.2.1, .inr ⟨w.heap.size, n, cs.toArray, rfl, Nat.zero_le _, heap_alloc_new w _, Nat.le_refl _, Nat.ble_eq.mp hp.2.2.2.2.2, by simpa using Nat.eq_of_beq_eq_true hp.2.2.2.2.1, by rw [← Nat.eq_of_beq_eq_true hp.2.2.2.2.1]; simp⟩⟩
    · simp [Value.ownBlock] at h; omega
  exact hrow.put (x := .v _) hp.2.2.2.1
/-- append: to a row of the call's own (named i), or to nil; what is appended lies somewhere. -/
theorem X.append (i : Nat) (q : Row) (t bytes : Nat) (z : Value) {x y : Operand} {n c m c2 : Nat} {A B : Option Addr} {news : List Value}
    (hop : o.op = .call { callee := .builtin .append, args := #[x, y], argTypes := #[t, t] }) (hx : s.ev x = some (.v (.slice A n c))) (hy : s.ev y = some (.v (.slice B m c2)))
    (ht : C.P.underlying t = some (.slice q.e)) (hinfo : (C.P.info? q.e).map (fun i => (i.zero, i.size, i.bytes)) = some (some z, q.size, bytes)) (hz : z.cells.size = q.size) (h0 : 0 < q.size) (hg : (guardOk s arr o && s.can o.dst) = true)
    (hq : lk R i = some q ∨ (A = none ∧ c = 0 ∧ q.n = 0 ∧ q.cells = [])) (hqv : q.v = .slice A n c) (hqn : q.n = n) (hn : news.length = m * q.size) (hat : At G R B 0 news) (hB : ∀ w, Mm G R w → B = none → m = 0 ∧ c2 = 0) (h1 : ∀ u ∈ news, u.oneCell' = true) (hb : (n + m) * bytes ≤ 140737488355328) (hb0 : 0 < bytes)
    (H : ∀ A' c', n + m ≤ c' → X C (.ops arr r) k (s.put o.dst (.v (.slice A' (n + m) c'))) ((i, ⟨q.e, q.size, .slice A' (n + m) c', n + m, q.cells ++ news⟩) :: R) G) : X C (.ops arr (o :: r)) k s R G := by
  simp only [Bool.and_eq_true] at hg
  refine X.op hg.1 fun ρ a w hs next hnx => ?_
  obtain ⟨i0, hi, hzz⟩ := Option.map_eq_some_iff.1 hinfo
  simp only [Prod.mk.injEq] at hzz
  obtain ⟨hz0, hz1, hz2⟩ := hzz
  have hown : w.ownsRow 0 q.e q.size (.slice A n c) n q.cells := by
    rcases hq with hq | ⟨rfl, rfl, h3, h4⟩
    · have := hs.rw i q hq
      rw [hqv, hqn] at this
      exact this
    · rw [hqn] at h3
      subst h3
      rw [h4]
      exact World.ownsRow_nil w 0 q.e q.size
  have hold : ∀ g, (Value.slice A n c).ownBlock = some g → ∃ p, lk R i = some p ∧ p.v.ownBlock = some g := fun g hg' => by
    rcases hq with hq | ⟨rfl, _⟩
    · exact ⟨q, hq, by rw [hqv]; exact hg'⟩
    · simp [Value.ownBlock] at hg'
  have hmax : n + m ≤ maxLen := by
    have := Nat.le_trans (Nat.le_mul_of_pos_right (n + m) hb0) hb
    simp only [maxLen]; omega
  have hex : ∃ v' w', (Builtin.append_ #[t, t] o.type #[.slice A n c, .slice B m c2]).run C.P w = .ok v' w' ∧ w'.ownsRow 0 q.e q.size v' (n + m) (q.cells ++ news) ∧ w.grownBy w' (Value.slice A n c).ownBlock ∧ (v'.ownBlock = (Value.slice A n c).ownBlock ∨ v'.ownBlock = some w.heap.size) := by
    cases B with
    | none =>
      obtain ⟨rfl, rfl⟩ := hB w hs.mm rfl
      have hnil : news = [] := List.eq_nil_of_length_eq_zero (by simpa using hn)
      subst hnil
      exact ⟨_, w, run_append_owned_none (P := C.P) (w := w) (base := 0) (t := t) (ty := o.type) (e := q.e) (i := i0) (size := q.size) (ht := ht) (hi := hi) (v := .slice A n c) (n := n) (xs := q.cells) (hown := hown), by simpa using hown, ⟨rfl, rfl, rfl, Nat.le_refl _, fun _ _ _ => rfl⟩, .inl rfl⟩
    | some ad =>
      obtain ⟨v', w', r1, r2, r3, _, r5⟩ := run_append_own_at (P := C.P) w 0 t o.type q.e i0 z q.size bytes ht hi hz0 hz1 hz2 hz h0 _ n q.cells hown ad m c2 news hn (fun j u hj => by
        have := (hat w hs.mm j u hj).2
        simpa [adr] using this) h1 hmax hb (Nat.zero_le _)
      exact ⟨v', w', r1, r2, r3, r5⟩
  obtain ⟨v', w', r1, r2, r3, r5⟩ := hex
  obtain ⟨A', c', hv', hle⟩ : ∃ A' c', v' = .slice A' (n + m) c' ∧ n + m ≤ c' := by
    rcases r2.2 with ⟨h2, h3⟩ | ⟨g, cap, cur, h2, _, _, h3, _⟩
    · exact ⟨none, 0, by rw [h2, h3], by omega⟩
    · exact ⟨_, cap, h2, h3⟩
  subst hv'
  have hrun : (execOp a.eval o).run C.P w = .ok (.value (.slice A' (n + m) c')) w' := by
    unfold execOp
    simp only [hop]
    unfold resolve
    have e : (#[x, y] : Array Operand).map a.eval = #[.slice A n c, .slice B m c2] := by simp [hs.ev hx, hs.ev hy, AV.real]
    simp only [e]
    rw [run_bind_ok (show (pure _ : Sem Deferred).run C.P w = .ok _ w from rfl)]
    unfold invoke
    exact run_v r1
  refine wp_value hrun (hnx ρ _ _ _ _ _ (H A' c' hle) ?_)
  exact (hs.row i (q := ⟨q.e, q.size, .slice A' (n + m) c', n + m, q.cells ++ news⟩) hold r3 r2 (fun g hg' => by
    rcases r5 with h | h
    · exact .inl (by rw [← h]; exact hg')
    · exact .inr (by rw [show (Value.slice A' (n + m) c').ownBlock = some g from hg'] at h; injection h with h; omega))).put (x := .v _) hg.2

/-- A store into a row of the call's own. -/
theorem X.storeElem {i t j n c : Nat} {q : Row} {A : Option Addr} {x y : Operand} {z : Value} (hop : o.op = .store t x y) (hx : s.ev x = some (.v (elt A j))) (hy : s.ev y = some (.v z)) (hq : lk R i = some q) (hqv : q.v = .slice A n c) (hsz : spure C.P (sizeOf t) = some z.cells.size) (hl : j + z.cells.size ≤ q.cells.length) (h1 : z.cells.toList.all one = true) (hpos : 0 < z.cells.size) (hg : (guardOk s arr o && s.can o.dst) = true)
    (H : X C (.ops arr r) k (s.put o.dst (.v undef)) ((i, { q with cells := splice q.cells j z.cells.toList }) :: R) G) : X C (.ops arr (o :: r)) k s R G := by
  simp only [Bool.and_eq_true] at hg
  refine X.op hg.1 fun ρ a w hs next hnx => ?_
  obtain ⟨o1, o2⟩ := hs.rw i q hq
  rcases o2 with ⟨h2, h3⟩ | ⟨g, cap, cur, h2, h3, hgg, h4, h5, h6, htake⟩
  · rw [h3, Nat.zero_mul] at o1
    omega
  · have hqv' := hqv
    rw [h2] at hqv
    injection hqv with hA hn hc
    subst hA
    have hlen : q.n * q.size ≤ cur.size := by rw [h6]; exact Nat.mul_le_mul_right _ h4
    have hadr : adr (some (⟨g, 0, none⟩ : Addr)) j = ⟨g, j, none⟩ := by simp only [adr, Option.getD_some, add_ptr, Nat.zero_add]
    have hone : ∀ v ∈ z.cells.toList, v.oneCell' = true := fun v hv => one_of (List.all_eq_true.mp h1 v hv)
    have hst := run_storeCells_at C.P g j q.e z.cells.toList 0 cur w hgg (by simp; omega) hone
    simp only [Nat.add_zero] at hst
    have hrun : (Instr.storeAt t (elt (some ⟨g, 0, none⟩) j) z).run C.P w = .ok () (w.setRow g (splice cur.toList j z.cells.toList).toArray) := by
      unfold Instr.storeAt
      rw [run_bind_ok (show (Instr.sureAddr (elt (some ⟨g, 0, none⟩) j)).run C.P w = .ok ⟨g, j, none⟩ w by rw [← hadr]; rfl)]
      unfold storeVar
      rw [run_bind_ok (spure_run hsz w)]
      simp only [ne_eq, not_true_eq_false, if_false]
      rw [hst]
      rfl
    refine wp_skip' (w' := w.setRow g (splice cur.toList j z.cells.toList).toArray) ?_ (hnx ρ _ _ _ _ _ H ?_)
    · simp only [execOp, hop, hs.ev hx, hs.ev hy, AV.real]
      rw [run_bind_ok hrun]
      rfl
    · have hm := md_setRow w g (splice cur.toList j z.cells.toList).toArray
      have hgr : w.grownBy (w.setRow g (splice cur.toList j z.cells.toList).toArray) (some g) := ⟨hm.os, hm.tape, hm.output, hm.size, fun x hx hn => hm.block x hx (fun e => hn (by rw [e]))⟩
      have hb : q.v.ownBlock = some g := by rw [h2]; rfl
      have hcl : j + z.cells.size ≤ q.n * q.size := by rw [← o1]; exact hl
      refine (hs.row i (q := { q with cells := splice q.cells j z.cells.toList }) (old := some g) (fun g' h => ⟨q, hq, by rw [hb, ← h]⟩) hgr ?_ (fun g' h => .inl (by rw [← h]; exact hb.symm))).put (x := .v undef) hg.2
      refine ⟨by simp only [splice, List.length_append, List.length_take, List.length_drop, Array.length_toList]; omega, .inr ⟨g, cap, (splice cur.toList j z.cells.toList).toArray, h2, h3, setRow_heap w g cur _ q.e (0, 0) hgg, h4, h5, by simp only [splice, List.size_toArray, List.length_append, List.length_take, List.length_drop, Array.length_toList]; omega, ?_⟩⟩
      simp only [splice, ← htake]
      apply List.ext_getElem?
      intro x
      simp only [List.getElem?_take, List.getElem?_append, List.getElem?_drop, List.length_append, List.length_take, List.length_drop, Array.length_toList]
      repeat' split
      all_goals (first | rfl | (exfalso; omega) | (congr 1; omega) | (simp; omega))
/-- A row of the call's own is from now on only read. -/
theorem X.freeze {i n c : Nat} {q : Row} {A : Option Addr} {R' : List (Nat × Row)} (hq : lk R i = some q) (hqv : q.v = .slice A n c) (hR : ∀ j p, lk R' j = some p → j ≠ i ∧ lk R j = some p)
    (H : ∀ G', Ge G C.w0.heap.size G' → (∀ j v, q.cells[j]? = some v → ∃ ad, A = some ad ∧ cellG G' (ad.add j) = some v) → X C cur k s R' G') (hM : ∀ x, ¬ C.M.can x) : X C cur k s R G := by
  intro ρ a w hs
  have hg : Hold G w := hs.g
  let G' : Mem := fun x => if q.v.ownBlock = some x then w.heap[x]? else G x
  have e1 : ∀ x, q.v.ownBlock = some x → G' x = w.heap[x]? := fun x h => if_pos h
  have e2 : ∀ x, q.v.ownBlock ≠ some x → G' x = G x := fun x h => if_neg h
  have hle : Le G G' := fun x o' hx => by
    by_cases hb : q.v.ownBlock = some x
    · rw [e1 x hb]; exact hg x o' hx
    · rw [e2 x hb]; exact hx
  have hhold : Hold G' w := fun x o' hx => by
    by_cases hb : q.v.ownBlock = some x
    · rw [e1 x hb] at hx; exact hx
    · rw [e2 x hb] at hx; exact hg x o' hx
  refine H G' ⟨hle, fun x o' hx => ?_⟩ (fun j v hj => ?_) ρ a w ⟨hs.tm, hs.sz, hs.df, hs.bx, hs.bo, hs.bi, fun j p hj => hs.rw j p (hR j p hj).2, fun j p x hj hx => hs.ro j p x (hR j p hj).2 hx, fun j l p p' x hj hl h1 h2 => hs.ri j l p p' x (hR j p hj).2 (hR l p' hl).2 h1 h2, fun j l p b hj hl => hs.rb j l p b (hR j p hj).2 hl, hhold, fun x o' j b hx hj => ?_, fun x o' j p hx hj e => ?_, hs.fr, hs.pn⟩
  · by_cases hb : q.v.ownBlock = some x
    · rcases hs.ro i q x hq hb with h | h
      · exact .inr h
      · exact absurd h (hM x)
    · rw [e2 x hb] at hx; exact .inl hx
  · have := At.of_row (G := G) hq hqv w hs.mm j v hj
    obtain ⟨ad, rfl⟩ := Option.isSome_iff_exists.1 this.1
    refine ⟨ad, rfl, ?_⟩
    have hc := this.2
    rw [Nat.zero_add] at hc
    have hbl : (ad.add j).block = ad.block := by unfold Addr.add; split <;> rfl
    have hG : G' (ad.add j).block = w.heap[(ad.add j).block]? := e1 _ (by rw [hqv, hbl]; rfl)
    simp only [adr, Option.getD_some] at hc
    unfold cellG
    rw [hG]
    exact hc
  · by_cases hb : q.v.ownBlock = some x
    · exact fun e => hs.rb i j q b hq hj (by rw [e]; exact hb)
    · rw [e2 x hb] at hx; exact hs.gb x o' j b hx hj
  · by_cases hb : q.v.ownBlock = some x
    · exact (hR j p hj).1 (hs.ri j i p q x (hR j p hj).2 hq e hb)
    · rw [e2 x hb] at hx; exact hs.gr x o' j p hx (hR j p hj).2 e
/-- Rows of the call's own told as memory that stays, for the time of a call. -/
def RowG (G : Mem) (q : Row) : Prop := ∀ A n c, q.v = .slice A n c → ∀ j v, q.cells[j]? = some v → ∃ ad, A = some ad ∧ cellG G (ad.add j) = some v
theorem view_ok {ρ : Nat → Nat} {a : Act} {w : World} (hs : St C.w0 C.M ρ G R s a w) : ∃ G1, Le G G1 ∧ Hold G1 w ∧ ∀ i q, lk R i = some q → RowG G1 q := by
  refine ⟨fun x => w.heap[x]?, hs.g, fun _ _ h => h, fun i q hq A n c hqv j v hj => ?_⟩
  have := At.of_row (G := G) hq hqv w hs.mm j v hj
  obtain ⟨ad, rfl⟩ := Option.isSome_iff_exists.1 this.1
  refine ⟨ad, rfl, ?_⟩
  have hc := this.2
  rw [Nat.zero_add] at hc
  exact hc
/-- A call that may read the call's own rows; of its answer what is told hangs on no memory. -/
theorem X.callV {f : FuncId} {l : List AV} (vals : List Value) {Q : Value → Prop} (hc : calls s o = some (f, l)) (hv : plainAll l = some vals) (hf : (okFn C.P f && (guardOk s arr o && s.can o.dst)) = true) (hC : ∀ G1, Le G G1 → (∀ i q, lk R i = some q → RowG G1 q) → CallsG C.P f vals G1 (fun _ v _ => Q v))
    (H : ∀ v, Q v → X C (.ops arr r) k (s.put o.dst (.v v)) R G) : X C (.ops arr (o :: r)) k s R G := by
  simp only [Bool.and_eq_true] at hf
  refine X.call hc hf.1 hf.2.1 fun ρ a w hs => ?_
  rw [plainAll_eq (ρ := ρ) hv]
  obtain ⟨G1, h1, h2, h3⟩ := view_ok hs
  refine (hC G1 h1 h3 w h2).mono ?_
  rintro e w' ⟨v, G', rows, rfl, hb, _, _, _, hp⟩
  exact ⟨v, rfl, ρ, _, R, G, H v hp, (hs.below hb).put (x := .v v) hf.2.2⟩

/-! #### Strings and bytes -/
def strOf (ns : List Int) : ByteArray := ns.foldl (fun r n => r.push (UInt8.ofNat n.toNat)) ByteArray.empty
def bytesL (b : ByteArray) : List Int := b.data.toList.map fun x => (x.toNat : Int)
theorem strOf_go (ns : List Int) : ∀ b : ByteArray, (ns.foldl (fun r n => r.push (UInt8.ofNat n.toNat)) b).data.toList = b.data.toList ++ ns.map fun n => UInt8.ofNat n.toNat := by
  induction ns with
  | nil => intro b; simp
  | cons n ns ih => intro b; rw [List.foldl_cons, ih]; simp [ByteArray.push]
theorem strOf_data (ns : List Int) : (strOf ns).data.toList = ns.map fun n => UInt8.ofNat n.toNat := by
  unfold strOf
  rw [strOf_go]
  simp
theorem strOf_size (ns : List Int) : (strOf ns).size = ns.length := by
  have := congrArg List.length (strOf_data ns)
  simpa using this
theorem bytesL_strOf {ns : List Int} (h : ∀ n ∈ ns, 0 ≤ n ∧ n ≤ 255) : bytesL (strOf ns) = ns := by
  unfold bytesL
  rw [strOf_data, List.map_map]
  conv => rhs; rw [← List.map_id ns]
  refine List.map_congr_left fun n hn => ?_
  have := h n hn
  simp only [Function.comp_apply, id_eq, UInt8.toNat_ofNat', Nat.reducePow]
  omega
theorem bytesL_range (b : ByteArray) : ∀ n ∈ bytesL b, 0 ≤ n ∧ n ≤ 255 := by
  intro n hn
  obtain ⟨x, _, rfl⟩ := List.mem_map.mp hn
  have := x.toNat_lt
  omega
theorem bytesL_length (b : ByteArray) : (bytesL b).length = b.size := by simp [bytesL]
theorem strOf_bytesL (b : ByteArray) : strOf (bytesL b) = b := by
  apply ByteArray.ext
  apply Array.toList_inj.mp
  rw [strOf_data, bytesL, List.map_map]
  conv => rhs; rw [← List.map_id b.data.toList]
  exact List.map_congr_left fun x _ => by simp
theorem strOf_inj {xs ys : List Int} (hx : ∀ n ∈ xs, 0 ≤ n ∧ n ≤ 255) (hy : ∀ n ∈ ys, 0 ≤ n ∧ n ≤ 255) : strOf xs = strOf ys ↔ xs = ys := by
  constructor
  · intro h
    rw [← bytesL_strOf hx, ← bytesL_strOf hy, h]
  · intro h; rw [h]
theorem toList_beq (a b : ByteArray) : (a.toList == b.toList) = decide (a = b) := by
  by_cases h : a = b
  · subst h; simp
  · simp only [h, decide_false, beq_eq_false_iff_ne, ne_eq]
    intro e
    apply h
    apply ByteArray.ext
    apply Array.toList_inj.mp
    simpa [ByteArray.toList_eq] using e
/-- bytes told as a string. -/
theorem X.toStr {src dst e n c : Nat} {A : Option Addr} {x : Operand} (ns : List Int) (hop : o.op = .convert src dst x) (hx : s.ev x = some (.v (.slice A n c))) (hs : C.P.underlying src = some (.slice e)) (he : C.P.underlying e = some (.int .u8)) (hd : C.P.underlying dst = some .string) (hn : ns.length = n) (hat : At G R A 0 (ns.map (Value.int .u8))) (hA : A = none → n = 0) (hg : (guardOk s arr o && s.can o.dst) = true)
    (H : X C (.ops arr r) k (s.put o.dst (.v (.string (strOf ns)))) R G) : X C (.ops arr (o :: r)) k s R G := by
  simp only [Bool.and_eq_true] at hg
  refine X.val _ hg.1 hg.2 (fun ρ a w hst => ?_) H
  simp only [execOp, hop, hst.ev hx, AV.real]
  refine run_v ?_
  rw [run_convert_bytes_string w src dst e A n c hs he hd]
  cases A with
  | none =>
    have h0 : n = 0 := hA rfl
    rw [h0] at hn
    rw [List.eq_nil_of_length_eq_zero hn]
    rfl
  | some ad =>
    refine run_bytesToString w ad n c ns ?_
    have := run_loadCells_list (P := C.P) (w := w) (a := ad) (cs := ns.map (Value.int .u8)) (h := fun j v hj => by
      have := (hat w hst.mm j v hj).2
      simpa [adr] using this)
    simpa [hn] using this
/-- A string's bytes: a new row that stays. -/
theorem X.ofStr {src dst e : Nat} {b : ByteArray} {x : Operand} (hop : o.op = .convert src dst x) (hx : s.ev x = some (.v (.string b))) (hs : C.P.underlying src = some .string) (hd : C.P.underlying dst = some (.slice e)) (he : C.P.underlying e = some (.int .u8)) (hb : b.size ≤ maxLen) (hg : (guardOk s arr o && s.can o.dst) = true)
    (H : ∀ A c G', Ge G C.w0.heap.size G' → b.size ≤ c → c ≤ maxLen → rowAt (D.int .u8) G' A (bytesL b) → A.isSome = true → X C (.ops arr r) k (s.put o.dst (.v (.slice A b.size c))) R G') : X C (.ops arr (o :: r)) k s R G := by
  simp only [Bool.and_eq_true] at hg
  refine X.op hg.1 fun ρ a w hst next hnx => ?_
  have hrun := run_bytes_of_string (P := C.P) w src dst e b hs hd he
  generalize hcap : grownCap w b.size 0 e = cap at hrun
  generalize hob : Obj.cells (bytesRow b cap) e ((bytesRow b cap).size, (bytesRow b cap).size + 1) = ob at hrun
  have hc1 : b.size ≤ cap := by rw [← hcap]; exact grownCap_ge w b.size 0 e
  have hc2 : cap ≤ maxLen := by rw [← hcap]; exact grownCap_le_maxLen w b.size 0 e hb
  let G' : Mem := fun x => if x = w.heap.size then some ob else G x
  have hle : Le G G' := fun x o' hx => by
    have := hst.g_lt hx
    show (if x = w.heap.size then some ob else G x) = some o'
    rw [if_neg (by omega)]
    exact hx
  have hnew : G' w.heap.size = some ob := if_pos rfl
  have hbel : Below w.heap.size w (w.drew.alloc ob) := (((Below.refl _ w).drew).alloc (Nat.le_refl _) ob)
  refine wp_value (z := .slice (some ⟨w.heap.size, 0, none⟩) b.size cap) (w' := w.drew.alloc ob) ?_ (hnx ρ _ _ _ _ _ (H (some ⟨w.heap.size, 0, none⟩) cap G' ⟨hle, fun x o' hx => ?_⟩ hc1 hc2 (fun i hi => ?_) rfl) ?_)
  · simp only [execOp, hop, hst.ev hx, AV.real]
    exact run_v hrun
  · by_cases hxe : x = w.heap.size
    · exact .inr (by rw [hxe]; exact hst.fr.size)
    · have : G' x = G x := if_neg hxe
      rw [this] at hx; exact .inl hx
  · have hbr := bytesL_range b _ (List.getElem_mem hi)
    rw [bytesL_length] at hi
    refine ⟨_, [.int .u8 (bytesL b)[i]], rfl, ⟨rfl, hbr.1, hbr.2⟩, fun j v hj => ?_⟩
    match j, hj with
    | 0, hj =>
      have hv : Value.int .u8 (bytesL b)[i] = v := by simpa using hj
      subst hv
      simp only [D.int, Nat.mul_one, Nat.add_zero, add_ptr, Nat.zero_add, cellG, hnew, ← hob]
      simp only [Option.isSome_none, Bool.false_eq_true, if_false, bytesRow]
      rw [Array.getElem?_append_left (by simpa using hi)]
      simp [bytesL, hi]
    | j + 1, hj => simp at hj
  · have h1 := hst.below hbel
    refine St.put ?_ (x := .v _) hg.2
    refine ⟨h1.tm, h1.sz, h1.df, h1.bx, h1.bo, h1.bi, h1.rw, h1.ro, h1.ri, h1.rb, fun x o' hx => ?_, fun x o' j q hx hj e => ?_, fun x o' j q hx hj e => ?_, h1.fr, h1.pn⟩
    · by_cases hxe : x = w.heap.size
      · subst hxe
        rw [hnew] at hx
        injection hx with hx
        rw [← hx]
        exact heap_alloc_new w.drew ob
      · have : G' x = G x := if_neg hxe
        rw [this] at hx
        exact h1.g x o' hx
    · by_cases hxe : x = w.heap.size
      · have := hst.b_lt hj
        omega
      · have : G' x = G x := if_neg hxe
        rw [this] at hx
        exact hst.gb x o' j q hx hj e
    · by_cases hxe : x = w.heap.size
      · have := hst.r_lt hj e
        omega
      · have : G' x = G x := if_neg hxe
        rw [this] at hx
        exact hst.gr x o' j q hx hj e
end
end Go.Proofs.YthpinlcfcgnilaaX
