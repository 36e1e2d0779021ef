/- Rows of slices of bytes, told by where each lies. Plain definitions and laws. Conditions: none. -/
import Derived.Test.YtjgpdbkkpomhjaaYX
namespace Go.Proofs.YtjgpdbkkpomhjaaX
open Go.RowKit
set_option linter.unusedVariables false
abbrev Sv := Option Addr × Nat × Nat
def sv0 : Sv := (none, 0, 0)
def svC (x : Sv) : List Value := [.slice x.1 x.2.1 x.2.2]
theorem svC_len (x : Sv) : (svC x).length = 1 := rfl
theorem svC_one (x : Sv) : ∀ u ∈ svC x, u.oneCell' = true := by
  intro u hu
  rw [List.mem_singleton.1 hu]
  rfl
def svD : D Sv where
  sz := 1
  rep := fun _ x cs => cs = svC x
  len := by rintro G x cs rfl; rfl
  one := by rintro G x cs rfl; exact svC_one x
  mono := fun _ h => h
theorem At.sv {G : Mem} {A : Option Addr} {xs : List Sv} (R : List (Nat × Row)) (h : rowAt svD G A xs) (i : Nat) (hi : i < xs.length) : At G R A (i * 1) (svC (xs.getD i sv0)) := by
  obtain ⟨cs, h1, h2⟩ := At.of_rowAt R h i hi
  have h1 : cs = svC xs[i] := h1
  have e : xs.getD i sv0 = xs[i] := by simp [List.getD, hi]
  rw [e, ← h1]
  exact h2
theorem svD_reps {G : Mem} : ∀ {xs : List Sv}, repsD svD G xs (xs.flatMap svC)
  | [] => rfl
  | x :: r => ⟨svC x, r.flatMap svC, rfl, rfl, svD_reps⟩
theorem svD_eq {G : Mem} : ∀ {xs : List Sv} {cs : List Value}, repsD svD G xs cs → cs = xs.flatMap svC
  | [], _, h => h
  | x :: r, _, ⟨c0, c1, rfl, h0, h1⟩ => by
    have h0 : c0 = svC x := h0
    rw [h0, svD_eq h1, List.flatMap_cons]
theorem at_svs {G : Mem} {A : Option Addr} {xs : List Sv} (R : List (Nat × Row)) (h : rowAt svD G A xs) : At G R A 0 (xs.flatMap svC) := by
  obtain ⟨cs, h1, h2⟩ := At.all R h
  rw [← svD_eq h1]
  exact h2
theorem ones_sv {l : List Sv} : ∀ u ∈ l.flatMap svC, u.oneCell' = true := fun u hu => by
  obtain ⟨x, _, hx⟩ := List.mem_flatMap.mp hu
  exact svC_one x u hx
theorem svs_len (l : List Sv) : (l.flatMap svC).length = l.length * 1 := flat_len svC_len l
/-- Where a list of bytes lies. -/
structure Tl1 (G : Mem) (b : List Int) (x : Sv) : Prop where
  n : x.2.1 = b.length
  le : b.length ≤ x.2.2
  mx : x.2.2 ≤ maxLen
  at_ : rowAt (D.int .u8) G x.1 b
def Tl (G : Mem) : List (List Int) → List Sv → Prop
  | [], [] => True
  | b :: q, x :: L => Tl1 G b x ∧ Tl G q L
  | [], _ :: _ => False
  | _ :: _, [] => False
theorem Tl.mono {G G' : Mem} (hl : Le G G') : ∀ {q : List (List Int)} {L : List Sv}, Tl G q L → Tl G' q L
  | [], [], _ => trivial
  | b :: q, x :: L, h => ⟨⟨h.1.n, h.1.le, h.1.mx, h.1.at_.mono hl⟩, Tl.mono hl h.2⟩
  | [], _ :: _, h => h.elim
  | _ :: _, [], h => h.elim
theorem Tl.len {G : Mem} : ∀ {q : List (List Int)} {L : List Sv}, Tl G q L → L.length = q.length
  | [], [], _ => rfl
  | b :: q, x :: L, h => by rw [List.length_cons, List.length_cons, Tl.len h.2]
  | [], _ :: _, h => h.elim
  | _ :: _, [], h => h.elim
theorem Tl.get {G : Mem} : ∀ {q : List (List Int)} {L : List Sv}, Tl G q L → ∀ i, i < q.length → Tl1 G (q.getD i []) (L.getD i sv0)
  | [], _, _, i, h => absurd h (Nat.not_lt_zero i)
  | b :: q, x :: L, h, 0, _ => h.1
  | b :: q, x :: L, h, i + 1, hi => Tl.get h.2 i (by simpa using hi)
  | _ :: _, [], h, _, _ => h.elim
theorem Tl.app {G : Mem} {q2 : List (List Int)} {L2 : List Sv} (h2 : Tl G q2 L2) : ∀ {q : List (List Int)} {L : List Sv}, Tl G q L → Tl G (q ++ q2) (L ++ L2)
  | [], [], _ => h2
  | b :: q, x :: L, h => ⟨h.1, Tl.app h2 h.2⟩
  | [], _ :: _, h => h.elim
  | _ :: _, [], h => h.elim
theorem Tl.set {G : Mem} {b : List Int} {x : Sv} (h1 : Tl1 G b x) : ∀ {q : List (List Int)} {L : List Sv}, Tl G q L → ∀ i, Tl G (q.set i b) (L.set i x)
  | [], [], _, _ => trivial
  | _ :: q, _ :: L, h, 0 => ⟨h1, h.2⟩
  | _ :: q, _ :: L, h, i + 1 => ⟨h.1, Tl.set h1 h.2 i⟩
  | [], _ :: _, h, _ => h.elim
  | _ :: _, [], h, _ => h.elim
theorem Tl.drop {G : Mem} : ∀ {q : List (List Int)} {L : List Sv}, Tl G q L → ∀ i, Tl G (q.drop i) (L.drop i)
  | [], [], _, _ => by rw [List.drop_nil, List.drop_nil]; trivial
  | _ :: q, _ :: L, h, 0 => h
  | _ :: q, _ :: L, h, i + 1 => Tl.drop h.2 i
  | [], _ :: _, h, _ => h.elim
  | _ :: _, [], h, _ => h.elim
theorem Tl.take {G : Mem} : ∀ {q : List (List Int)} {L : List Sv}, Tl G q L → ∀ i, Tl G (q.take i) (L.take i)
  | [], [], _, _ => by rw [List.take_nil, List.take_nil]; trivial
  | _ :: q, _ :: L, h, 0 => trivial
  | _ :: q, _ :: L, h, i + 1 => ⟨h.1, Tl.take h.2 i⟩
  | [], _ :: _, h, _ => h.elim
  | _ :: _, [], h, _ => h.elim
theorem tl_of {G : Mem} : ∀ {q : List (List Int)} {cs : List Value}, repsD (D.slice (D.int .u8)) G q cs → ∃ L : List Sv, cs = L.flatMap svC ∧ Tl G q L
  | [], _, h => ⟨[], h, trivial⟩
  | b :: q, _, h => by
    obtain ⟨c0, c1, rfl, ⟨A, c, rfl, h1, h2, h3⟩, h4⟩ := h
    obtain ⟨L, rfl, hL⟩ := tl_of h4
    exact ⟨(A, b.length, c) :: L, rfl, ⟨rfl, h1, h2, h3⟩, hL⟩
theorem Tl1.rep {G : Mem} {b : List Int} {x : Sv} (h : Tl1 G b x) : (D.slice (D.int .u8)).rep G b (svC x) := ⟨x.1, x.2.2, by unfold svC; rw [h.n], h.le, h.mx, h.at_⟩
theorem Tl.reps {G : Mem} : ∀ {q : List (List Int)} {L : List Sv}, Tl G q L → repsD (D.slice (D.int .u8)) G q (L.flatMap svC)
  | [], [], _ => rfl
  | b :: q, x :: L, h => ⟨svC x, L.flatMap svC, rfl, h.1.rep, Tl.reps h.2⟩
  | [], _ :: _, h => h.elim
  | _ :: _, [], h => h.elim
theorem Tl.row {G : Mem} {A : Option Addr} {q : List (List Int)} {L : List Sv} (h : Tl G q L) (hr : rowAt svD G A L) : rowAt (D.slice (D.int .u8)) G A q := fun i hi => by
  have hl := h.len
  obtain ⟨ad, cs, h1, h2, h3⟩ := hr i (by omega)
  have h2 : cs = svC L[i] := h2
  have e : q.getD i [] = q[i] := by simp [List.getD, hi]
  have e2 : L.getD i sv0 = L[i] := by simp [List.getD, show i < L.length by omega]
  have hg := h.get i hi
  rw [e, e2] at hg
  exact ⟨ad, cs, h1, by rw [h2]; exact hg.rep, h3⟩
end Go.Proofs.YtjgpdbkkpomhjaaX
