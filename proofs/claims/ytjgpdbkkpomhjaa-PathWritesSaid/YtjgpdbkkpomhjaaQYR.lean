/- A part of a law's proof. Conditions: none. -/
import Derived.Test.YtjgpdbkkpomhjaaQYA
import Derived.OpenShut
import Derived.ChangeSlices
import Derived.ChangeArms
import Derived.Below
namespace Go.Proofs.YtjgpdbkkpomhjaaX
open Go.RowKit
set_option linter.unusedVariables false
set_option linter.unusedSimpArgs false
def memOf (w : World) : Mem := fun k => w.heap[k]?
theorem cellG_mem (w : World) (a : Addr) : cellG (memOf w) a = w.cell? a := rfl
theorem hold_mem (w : World) : Hold (memOf w) w := fun _ _ h => h
theorem CallsG.close {P : Program} {f : FuncId} {vals : List Value} {w : World} (h : CallsG P f vals (memOf w) (fun _ v rows => v = .bool true ∧ rows = [])) : Calls P f vals.toArray w (fun e w' => e = .returned (.bool true) ∧ Below w.heap.size w w') :=
  (h w (hold_mem w)).mono fun e w' ⟨v, G', rows, h1, h2, _, _, _, h6, _⟩ => ⟨by rw [h1, h6], h2⟩
def Reads {α : Type} (P : Program) (t : TypeId) (d : D α) : Prop :=
  ∀ {H : Type} {enc : TypeId × Value → H} {w : World} {base : Nat} {spare : Nat → Bool} {held : Bool} {fuel : Nat} {cs : List Value} {x : DataW H × List MemPlace}, DataW.trod enc P w base spare held fuel t cs = some x → ∃ y, d.rep (memOf w) y cs
theorem Reads.int {P : Program} {t : TypeId} {k : IntKind} (ht : P.underlying t = some (.int k)) : Reads P t (D.int k) := fun h => by
  obtain ⟨n, rfl, _, hw⟩ := DataW.trod_int ht h
  refine ⟨n, rfl, ?_⟩
  cases k <;> simp [Lit.wf, IntKind.min, IntKind.max, IntKind.signed, IntKind.bits] at hw <;> simp only [IntKind.lo, IntKind.hi] <;> omega
theorem cells?_each {w : World} {base n : Nat} {a : Addr} {cs : List Value} (h : w.cells? base a n = some cs) : cs.length = n ∧ ∀ j v, cs[j]? = some v → w.cell? (a.add j) = some v := by
  obtain ⟨h1, h2, h3⟩ := World.cells?_some h
  refine ⟨h2, fun j v hj => ?_⟩
  have hlt := (List.getElem?_eq_some_iff.mp hj).1
  rw [h3 j (by omega), hj]
theorem rowAt_choose {α : Type} {d : D α} {G : Mem} {A : Option Addr} (n : Nat) (h : ∀ i, i < n → ∃ ad x cs, A = some ad ∧ d.rep G x cs ∧ ∀ j v, cs[j]? = some v → cellG G (ad.add (i * d.sz + j)) = some v) : ∃ xs : List α, xs.length = n ∧ rowAt d G A xs := by
  induction n with
  | zero => exact ⟨[], rfl, rowAt.nil _ _ _⟩
  | succ n ih =>
    obtain ⟨xs, hl, hr⟩ := ih (fun i hi => h i (by omega))
    obtain ⟨ad, x, cs, hA, h1, h2⟩ := h n (by omega)
    refine ⟨xs ++ [x], by simp [hl], fun i hi => ?_⟩
    by_cases e : i < xs.length
    · rw [List.getElem_append_left e]
      exact hr i e
    · have e2 : i = n := by simp at hi; omega
      subst e2
      refine ⟨ad, cs, hA, ?_, h2⟩
      rw [List.getElem_append_right (by omega)]
      simpa using h1
theorem Reads.slice {α : Type} {d : D α} {P : Program} {t e : TypeId} (ht : P.underlying t = some (.slice e)) (hc : P.cellsOf e = d.sz) (hd : Reads P e d) : Reads P t (D.slice d) := fun {H enc w base spare held fuel cs x} h => by
  rcases DataW.trod_slice ht h with ⟨rfl, _⟩ | ⟨a, len, cap, elems, rest, n, _, rfl, _, hb, hl, hm, hlen, hel, _⟩
  · exact ⟨[], none, 0, rfl, Nat.le_refl _, Nat.zero_le _, rowAt.nil _ _ _⟩
  · obtain ⟨xs, hx, hr⟩ := rowAt_choose (d := d) (G := memOf w) (A := some a) len (fun i hi => by
      have h1 := hel i hi
      rw [List.getElem?_eq_getElem (by omega)] at h1
      obtain ⟨cs, hcs, htr⟩ := Option.bind_eq_some_iff.mp h1
      obtain ⟨y, hy⟩ := hd htr
      obtain ⟨hlc, hce⟩ := cells?_each hcs
      exact ⟨a, y, cs, rfl, hy, fun j v hj => by rw [cellG_mem, ← add_add, ← hc]; exact hce j v hj⟩)
    subst hx
    exact ⟨xs, some a, cap, rfl, hl, hm, hr⟩
def D.arr {α : Type} (n : Nat) (d : D α) : D (List α) where
  sz := n * d.sz
  rep := fun G xs cs => xs.length = n ∧ repsD d G xs cs
  len := by rintro G x cs ⟨rfl, h⟩; exact h.len
  one := by rintro G x cs ⟨_, h⟩; exact h.one
  mono := by rintro G G' x cs hl ⟨h1, h2⟩; exact ⟨h1, h2.mono hl⟩
theorem repsD_choose {α : Type} {d : D α} {G : Mem} : ∀ (n : Nat) (cs : List Value), cs.length = n * d.sz → (∀ i, i < n → ∃ x, d.rep G x ((cs.drop (i * d.sz)).take d.sz)) → ∃ xs, xs.length = n ∧ repsD d G xs cs
  | 0, cs, hl, _ => ⟨[], rfl, List.eq_nil_of_length_eq_zero (by omega)⟩
  | n + 1, cs, hl, h => by
    rw [Nat.add_mul, Nat.one_mul] at hl
    obtain ⟨x, hx⟩ := h 0 (by omega)
    obtain ⟨xs, h1, h2⟩ := repsD_choose (d := d) (G := G) n (cs.drop d.sz) (by rw [List.length_drop]; omega) (fun i hi => by
      obtain ⟨y, hy⟩ := h (i + 1) (by omega)
      refine ⟨y, ?_⟩
      rw [List.drop_drop, show d.sz + i * d.sz = (i + 1) * d.sz by rw [Nat.add_mul, Nat.one_mul, Nat.add_comm]]
      exact hy)
    refine ⟨x :: xs, by simp [h1], cs.take d.sz, cs.drop d.sz, (List.take_append_drop _ _).symm, ?_, h2⟩
    rw [Nat.zero_mul, List.drop_zero] at hx
    exact hx
theorem Reads.arr {α : Type} {d : D α} {P : Program} {t e : TypeId} {n : Nat} (ht : P.underlying t = some (.array n e)) (hc : P.cellsOf e = d.sz) (hct : P.cellsOf t = n * d.sz) (hd : Reads P e d) : Reads P t (D.arr n d) := fun {H enc w base spare held fuel cs x} h => by
  obtain ⟨xs, m, _, _, hl, hx, hel⟩ := DataW.trod_array ht h
  obtain ⟨ys, h1, h2⟩ := repsD_choose (d := d) (G := memOf w) n cs (by rw [hl, hct]) (fun i hi => by
    have h1 := hel i hi
    rw [List.getElem?_eq_getElem (by omega), hc] at h1
    exact hd h1)
  exact ⟨ys, h1, h2⟩
def ReadsFs {α : Type} (P : Program) (fs : List Field) (o : Nat) (d : D α) : Prop :=
  ∀ {H : Type} {enc : TypeId × Value → H} {w : World} {base : Nat} {spare : Nat → Bool} {held : Bool} {fuel : Nat} {cs : List Value}, cs.length = o + d.sz →
    (∀ f ∈ fs, ∃ x, DataW.trod enc P w base spare held fuel f.type ((cs.drop f.offset).take (P.cellsOf f.type)) = some x) → ∃ y, d.rep (memOf w) y (cs.drop o)
theorem ReadsFs.one {α : Type} {d : D α} {P : Program} {f : Field} {o : Nat} (ho : f.offset = o) (hc : P.cellsOf f.type = d.sz) (hd : Reads P f.type d) : ReadsFs P [f] o d := fun {H enc w base spare held fuel cs} hl h => by
  obtain ⟨x, hx⟩ := h f (by simp)
  rw [ho, hc, List.take_of_length_le (by rw [List.length_drop]; omega)] at hx
  exact hd hx
theorem ReadsFs.cons {α β : Type} {d : D α} {d' : D β} {P : Program} {f : Field} {fs : List Field} {o : Nat} (ho : f.offset = o) (hc : P.cellsOf f.type = d.sz) (hd : Reads P f.type d) (hr : ReadsFs P fs (o + d.sz) d') : ReadsFs P (f :: fs) o (D.pair d d') := fun {H enc w base spare held fuel cs} hl h => by
  obtain ⟨x, hx⟩ := h f (by simp)
  rw [ho, hc] at hx
  obtain ⟨y, hy⟩ := hd hx
  obtain ⟨z, hz⟩ := hr (cs := cs) (by rw [hl, Nat.add_assoc]; rfl) (fun g hg => h g (by simp [hg]))
  refine ⟨(y, z), (cs.drop o).take d.sz, cs.drop (o + d.sz), ?_, hy, hz⟩
  rw [← List.drop_drop]
  exact (List.take_append_drop _ _).symm
theorem Reads.struct {α : Type} {d : D α} {P : Program} {t : TypeId} {fs : Array Field} (ht : P.underlying t = some (.struct fs)) (hct : P.cellsOf t = d.sz) (hd : ReadsFs P fs.toList 0 d) : Reads P t d := fun {H enc w base spare held fuel cs x} h => by
  obtain ⟨xs, n, _, _, hl, hx, hel⟩ := DataW.trod_struct ht h
  have := hd (cs := cs) (enc := enc) (w := w) (base := base) (spare := spare) (held := held) (fuel := n) (by rw [hl, hct, Nat.zero_add]) (fun f hf => by
    obtain ⟨i, hi⟩ := List.getElem?_of_mem hf
    have h1 := hel i f (by simpa using hi)
    have hlt := (List.getElem?_eq_some_iff.mp hi).1
    rw [List.getElem?_eq_getElem (by rw [hx]; simpa using hlt)] at h1
    exact ⟨_, h1⟩)
  simpa using this
theorem Reads.trod {α : Type} {d : D α} {P : Program} {t : TypeId} (hd : Reads P t d) {H : Type} {enc : TypeId × Value → H} {w : World} {base : Nat} {spare : Nat → Bool} {held : Bool} {v : Value} {x : DataW H} {ps : List MemPlace} (h : DataW.Trod enc P w base spare held t v x ps) : ∃ y, d.rep (memOf w) y v.cells.toList := by
  obtain ⟨fuel, h⟩ := h
  exact hd h
def fsIn (P : Program) (t : TypeId) : Array Field := match P.underlying t with
  | some (.struct fs) => fs
  | _ => #[]
def fld (P : Program) (t : TypeId) (i : Nat) : Field := ((fsIn P t)[i]?).getD default
end Go.Proofs.YtjgpdbkkpomhjaaX
namespace Go.Proofs.YtjgpdbkkpomhjaaX
set_option linter.unusedVariables false
theorem arr3 {α : Type} {d : D α} {G : Mem} {xs : List α} {cs : List Value} (h : (D.arr 3 d).rep G xs cs) : ∃ ax ay az kx ky kz, xs = [ax, ay, az] ∧ cs = kx ++ (ky ++ kz) ∧ d.rep G ax kx ∧ d.rep G ay ky ∧ d.rep G az kz := by
  obtain ⟨hl, hr⟩ := h
  match xs, hl, hr with
  | [ax, ay, az], _, h1 =>
    obtain ⟨kx, tx, rfl, rx, ky, ty, rfl, ry, kz, tz, rfl, rz, h0_⟩ := h1
    have h0_ : tz = [] := h0_
    subst h0_
    exact ⟨ax, ay, az, kx, ky, kz, rfl, by simp, rx, ry, rz⟩
end Go.Proofs.YtjgpdbkkpomhjaaX
