/- A way of proving what a call does: the variables and boxes of the call's own are told as a state that is reckoned forward by a function; what the state says holds of the machine's memory. Conditions: none. -/
import Derived.WalkKit
import Derived.ProofKit
namespace Go.Proofs.YthpinlcfcgnilaaX
open Go.RowKit
set_option linter.unusedVariables false
set_option linter.unusedSimpArgs false

/-! ### Runs without memory -/
/-- What a run that touches no memory gives. -/
def spure {α : Type} (P : Program) : Sem α → Option α
  | .pure a => some a
  | .program k => spure P (k P)
  | .mark _ k => spure P k
  | _ => none
theorem spure_run {α : Type} {P : Program} : ∀ {s : Sem α} {a : α}, spure P s = some a → ∀ w, s.run P w = .ok a w := by
  intro s
  induction s with
  | pure b => intro a h w; simp only [spure, Option.some.injEq] at h; subst h; rfl
  | program k ih => intro a h w; exact ih P (by simpa [spure] using h) w
  | mark m k ih => intro a h w; exact ih (by simpa [spure] using h) w
  | _ => intro a h; simp [spure] at h

/-! ### Values, boxes, states -/
inductive AV where
  | v (x : Value)
  | own (b o : Nat)
  | fn (f : FuncId) (caps : List (Nat × Nat))
  | mth (f : FuncId) (b o : Nat)
structure Box where
  t : TypeId
  cells : List AV
structure S where
  n : Nat
  tmps : List (Nat × AV)
  boxes : List (Nat × Box)
structure Row where
  e : TypeId
  size : Nat
  v : Value
  n : Nat
  cells : List Value
abbrev Mem := Nat → Option Obj

def lk {β : Type} : List (Nat × β) → Nat → Option β
  | [], _ => none
  | (j, x) :: r, i => if Nat.beq j i then some x else lk r i
theorem lk_cons {β : Type} (j : Nat) (x : β) (r : List (Nat × β)) (i : Nat) : lk ((j, x) :: r) i = if j = i then some x else lk r i := by
  rw [lk]
  by_cases h : j = i
  · rw [if_pos (by rw [h]; exact Nat.beq_refl i), if_pos h]
  · rw [if_neg (fun hh => h (Nat.eq_of_beq_eq_true hh)), if_neg h]

def ptr (b o : Nat) : Value := .pointer (some ⟨b, o, none⟩)
def AV.real (ρ : Nat → Nat) : AV → Value
  | .v x => x
  | .own b o => ptr (ρ b) o
  | .fn f cs => .func (.func f) #[] (cs.map fun p => ptr (ρ p.1) p.2).toArray
  | .mth f b o => .func (.func f) #[ptr (ρ b) o] #[]
def Box.obj (ρ : Nat → Nat) (b : Box) : Obj := .cells (b.cells.map (AV.real ρ)).toArray b.t (0, 0)

def S.ev (s : S) : Operand → Option AV
  | .tmp t => lk s.tmps t
  | .const v => some (.v v)
  | .func f => some (.fn f [])
  | .global g => some (.v (.pointer (some ⟨g, 0, none⟩)))
def S.put (s : S) (d : Option Nat) (x : AV) : S :=
  match d with
  | some d => { s with tmps := (d, x) :: s.tmps }
  | none => s
/-- The slot is one of the frame. -/
def S.can (s : S) (d : Option Nat) : Bool :=
  match d with
  | some d => Nat.blt d s.n
  | none => true

/-- What the memory holds at a moment of the call. w0: when it began; M: what was there and may be changed; G: what stays as it is. -/
structure Fr (w0 : World) (M : Nat → Prop) (w : World) : Prop where
  os : w.os = w0.os
  tape : w.tape = w0.tape
  output : w.output = w0.output
  size : w0.heap.size ≤ w.heap.size
  block : ∀ k, k < w0.heap.size → ¬ M k → w.heap[k]? = w0.heap[k]?
theorem Fr.refl (w0 : World) (M : Nat → Prop) : Fr w0 M w0 := ⟨rfl, rfl, rfl, Nat.le_refl _, fun _ _ _ => rfl⟩
theorem Fr.below {w0 w : World} {M : Nat → Prop} (h : Fr w0 M w) (hM : ∀ k, ¬ M k) : Below w0.heap.size w0 w := ⟨h.os, h.tape, h.output, h.size, fun k hk => h.block k hk (hM k)⟩
/-- A step that changes only blocks of S (or new ones). -/
structure Md (S : Nat → Prop) (w w' : World) : Prop where
  os : w'.os = w.os
  tape : w'.tape = w.tape
  output : w'.output = w.output
  size : w.heap.size ≤ w'.heap.size
  block : ∀ k, k < w.heap.size → ¬ S k → w'.heap[k]? = w.heap[k]?
theorem Md.refl (S : Nat → Prop) (w : World) : Md S w w := ⟨rfl, rfl, rfl, Nat.le_refl _, fun _ _ _ => rfl⟩
theorem Md.mono {S S' : Nat → Prop} {w w' : World} (h : Md S w w') (hS : ∀ k, S k → S' k) : Md S' w w' := ⟨h.os, h.tape, h.output, h.size, fun k hk hn => h.block k hk (fun h => hn (hS k h))⟩
theorem Md.trans {S : Nat → Prop} {a b c : World} (h : Md S a b) (k : Md S b c) : Md S a c := ⟨k.os.trans h.os, k.tape.trans h.tape, k.output.trans h.output, Nat.le_trans h.size k.size, fun i hi hn => (k.block i (Nat.lt_of_lt_of_le hi h.size) hn).trans (h.block i hi hn)⟩
theorem Md.of_below {w w' : World} (h : Below w.heap.size w w') (S : Nat → Prop) : Md S w w' := ⟨h.os, h.tape, h.output, h.size, fun k hk _ => h.block k hk⟩
theorem Md.of_grown {w w' : World} {row : Option Nat} (h : w.grownBy w' row) : Md (fun k => row = some k) w w' := ⟨h.os, h.tape, h.output, h.size, fun k hk hn => h.block k hk (fun e => hn e.symm)⟩
theorem Fr.md {w0 w w' : World} {M S : Nat → Prop} (h : Fr w0 M w) (k : Md S w w') (hS : ∀ i, S i → w0.heap.size ≤ i ∨ M i) : Fr w0 M w' :=
  ⟨k.os.trans h.os, k.tape.trans h.tape, k.output.trans h.output, Nat.le_trans h.size k.size, fun i hi hn => (k.block i (Nat.lt_of_lt_of_le hi h.size) (fun hs => by rcases hS i hs with h1 | h1; exact absurd hi (by omega); exact hn h1)).trans (h.block i hi hn)⟩

structure Rw (w : World) (r : Row) : Prop where
  own : w.ownsRow 0 r.e r.size r.v r.n r.cells
/-- What the call may change of what was there; boxes that lie at a known place. -/
structure Mk where
  can : Nat → Prop
  pin : Nat → Option Nat
structure St (w0 : World) (M : Mk) (ρ : Nat → Nat) (G : Mem) (R : List (Nat × Row)) (s : S) (a : Act) (w : World) : Prop where
  tm : ∀ i x, lk s.tmps i = some x → a.tmps[i]? = some (x.real ρ)
  sz : a.tmps.size = s.n
  df : a.defers = []
  bx : ∀ i b, lk s.boxes i = some b → w.heap[ρ i]? = some (b.obj ρ)
  bo : ∀ i b, lk s.boxes i = some b → w0.heap.size ≤ ρ i ∨ M.can (ρ i)
  bi : ∀ i j b c, lk s.boxes i = some b → lk s.boxes j = some c → ρ i = ρ j → i = j
  rw : ∀ i r, lk R i = some r → w.ownsRow 0 r.e r.size r.v r.n r.cells
  ro : ∀ i r k, lk R i = some r → r.v.ownBlock = some k → w0.heap.size ≤ k ∨ M.can k
  ri : ∀ i j r q k, lk R i = some r → lk R j = some q → r.v.ownBlock = some k → q.v.ownBlock = some k → i = j
  rb : ∀ i j r b, lk R i = some r → lk s.boxes j = some b → r.v.ownBlock ≠ some (ρ j)
  g : ∀ k o, G k = some o → w.heap[k]? = some o
  gb : ∀ k o j b, G k = some o → lk s.boxes j = some b → ρ j ≠ k
  gr : ∀ k o i r, G k = some o → lk R i = some r → r.v.ownBlock ≠ some k
  fr : Fr w0 M.can w
  pn : ∀ b g, M.pin b = some g → 1000 ≤ b ∧ ρ b = g

section
variable {w0 w w' : World} {M : Mk} {ρ : Nat → Nat} {G : Mem} {R : List (Nat × Row)} {s : S} {a : Act}
theorem St.ev {x : Operand} {y : AV} (h : St w0 M ρ G R s a w) (hx : s.ev x = some y) : a.eval x = y.real ρ := by
  cases x with
  | tmp t =>
    have := h.tm t y hx
    simp [Act.eval, Array.getD_eq_getD_getElem?, this]
  | const v => simp only [S.ev, Option.some.injEq] at hx; subst hx; rfl
  | func f => simp only [S.ev, Option.some.injEq] at hx; subst hx; rfl
  | global g => simp only [S.ev, Option.some.injEq] at hx; subst hx; rfl
theorem St.put {d : Option Nat} {x : AV} (h : St w0 M ρ G R s a w) (hd : s.can d = true) : St w0 M ρ G R (s.put d x) (a.put d (x.real ρ)) w := by
  cases d with
  | none => exact h
  | some d =>
    have hlt : d < s.n := Nat.blt_eq.mp hd
    refine ⟨fun i y hy => ?_, ?_, h.df, h.bx, h.bo, h.bi, h.rw, h.ro, h.ri, h.rb, h.g, h.gb, h.gr, h.fr, h.pn⟩
    · simp only [S.put, lk_cons] at hy
      by_cases e : d = i
      · subst e
        rw [if_pos rfl] at hy
        injection hy with hy
        subst hy
        simp [Act.put, Array.getElem?_setIfInBounds, h.sz, hlt]
      · rw [if_neg e] at hy
        simp [Act.put, Array.getElem?_setIfInBounds, e, h.tm i y hy]
    · simp [Act.put, S.put, h.sz]
/-- A step that keeps boxes, rows and what stays. -/
theorem St.keep {Z : Nat → Prop} (h : St w0 M ρ G R s a w) (k : Md Z w w') (hZ : ∀ i, Z i → (w0.heap.size ≤ i ∨ M.can i)) (hb : ∀ i b, lk s.boxes i = some b → ¬ Z (ρ i)) (hr : ∀ i r q, lk R i = some r → r.v.ownBlock = some q → ¬ Z q) (hg : ∀ q o, G q = some o → ¬ Z q) : St w0 M ρ G R s a w' := by
  have old : ∀ {q : Nat} {o : Obj}, w.heap[q]? = some o → ¬ Z q → w'.heap[q]? = some o := fun {q o} hq hn => (k.block q (Array.getElem?_eq_some_iff.1 hq).1 hn).trans hq
  refine ⟨h.tm, h.sz, h.df, fun i b hi => old (h.bx i b hi) (hb i b hi), h.bo, h.bi, fun i r hi => ?_, h.ro, h.ri, h.rb, fun q o hq => old (h.g q o hq) (hg q o hq), h.gb, h.gr, h.fr.md k hZ, h.pn⟩
  obtain ⟨h1, h2⟩ := h.rw i r hi
  refine ⟨h1, ?_⟩
  rcases h2 with h2 | ⟨g, cap, cur, hv, hb', hh, rest⟩
  · exact .inl h2
  · exact .inr ⟨g, cap, cur, hv, hb', old hh (hr i r g hi (by rw [hv]; rfl)), rest⟩
theorem St.below (h : St w0 M ρ G R s a w) (k : Below w.heap.size w w') : St w0 M ρ G R s a w' :=
  h.keep (Z := fun _ => False) (Md.of_below k _) (fun _ h => h.elim) (fun _ _ _ h => h) (fun _ _ _ _ _ h => h) (fun _ _ _ h => h)
theorem St.b_lt {i : Nat} {b : Box} (h : St w0 M ρ G R s a w) (hi : lk s.boxes i = some b) : ρ i < w.heap.size := (Array.getElem?_eq_some_iff.1 (h.bx i b hi)).1
theorem St.r_lt {i q : Nat} {r : Row} (h : St w0 M ρ G R s a w) (hi : lk R i = some r) (hq : r.v.ownBlock = some q) : q < w.heap.size := ((h.rw i r hi).lt q hq).2
theorem St.g_lt {q : Nat} {o : Obj} (h : St w0 M ρ G R s a w) (hq : G q = some o) : q < w.heap.size := (Array.getElem?_eq_some_iff.1 (h.g q o hq)).1

/-! ### Boxes -/
def AV.far (d : Nat) : AV → Bool
  | .v _ => true
  | .own b _ => !Nat.beq b d
  | .fn _ cs => cs.all fun p => !Nat.beq p.1 d
  | .mth _ b _ => !Nat.beq b d
def S.fresh (s : S) (d : Nat) : Bool := Nat.blt d 1000 && (lk s.boxes d).isNone && s.tmps.all (fun p => p.2.far d) && s.boxes.all (fun p => p.2.cells.all (AV.far d))
def upd (ρ : Nat → Nat) (d g : Nat) : Nat → Nat := fun i => if i = d then g else ρ i
theorem AV.real_far {d g : Nat} {x : AV} (h : x.far d = true) : x.real (upd ρ d g) = x.real ρ := by
  cases x with
  | v x => rfl
  | own b o =>
    simp only [AV.far, Bool.not_eq_true'] at h
    have : b ≠ d := fun e => by rw [e, Nat.beq_refl] at h; cases h
    simp [AV.real, upd, this]
  | mth f b o =>
    simp only [AV.far, Bool.not_eq_true'] at h
    have : b ≠ d := fun e => by rw [e, Nat.beq_refl] at h; cases h
    simp [AV.real, upd, this]
  | fn f cs =>
    simp only [AV.far, List.all_eq_true] at h
    simp only [AV.real]
    congr 2
    refine List.map_congr_left fun p hp => ?_
    have := h p hp
    simp only [Bool.not_eq_true'] at this
    have : p.1 ≠ d := fun e => by rw [e, Nat.beq_refl] at this; cases this
    simp [upd, this]
theorem map_real_far {d g : Nat} {l : List AV} (h : l.all (AV.far d) = true) : l.map (AV.real (upd ρ d g)) = l.map (AV.real ρ) :=
  List.map_congr_left fun x hx => AV.real_far (List.all_eq_true.mp h x hx)
theorem lk_mem {β : Type} {l : List (Nat × β)} {i : Nat} {x : β} (h : lk l i = some x) : (i, x) ∈ l := by
  induction l with
  | nil => simp [lk] at h
  | cons p r ih =>
    obtain ⟨j, y⟩ := p
    rw [lk_cons] at h
    by_cases e : j = i
    · rw [if_pos e] at h
      injection h with h
      subst e h
      exact List.mem_cons_self
    · rw [if_neg e] at h
      exact List.mem_cons_of_mem _ (ih h)
theorem own_alloc' {r : Row} (h : w.ownsRow 0 r.e r.size r.v r.n r.cells) (o : Obj) : (w.alloc o).ownsRow 0 r.e r.size r.v r.n r.cells := h.alloc o
theorem md_alloc (w : World) (o : Obj) (Z : Nat → Prop) : Md Z w (w.alloc o) := ⟨rfl, rfl, rfl, by simp, fun k hk _ => heap_alloc_old w o hk⟩
theorem St.alloc {o : Obj} (h : St w0 M ρ G R s a w) : St w0 M ρ G R s a (w.alloc o) :=
  h.keep (md_alloc w o (fun _ => False)) (fun _ h => h.elim) (fun _ _ _ h => h) (fun _ _ _ _ _ h => h) (fun _ _ _ h => h)
/-- A new box. -/
theorem St.box {d : Nat} {t : TypeId} {cells : List AV} (h : St w0 M ρ G R s a w) (hd : s.fresh d = true) (hc : cells.all (AV.far d) = true) :
    St w0 M (upd ρ d w.heap.size) G R { s with boxes := (d, ⟨t, cells⟩) :: s.boxes } a (w.alloc (.cells (cells.map (AV.real ρ)).toArray t)) := by
  have h1 := h.alloc (o := .cells (cells.map (AV.real ρ)).toArray t)
  simp only [S.fresh, Bool.and_eq_true, List.all_eq_true] at hd
  have hbx : ∀ i b, lk s.boxes i = some b → i ≠ d ∧ b.cells.all (AV.far d) = true := fun i b hi => by
    refine ⟨fun e => ?_, ?_⟩
    · subst e
      rw [hi] at hd
      simp at hd
    · exact List.all_eq_true.mpr (hd.2 _ (lk_mem hi))
  have hnew : ∀ i, i ≠ d → upd ρ d w.heap.size i = ρ i := fun i hi => if_neg hi
  have hd' : upd ρ d w.heap.size d = w.heap.size := if_pos rfl
  refine ⟨fun i x hi => ?_, h1.sz, h1.df, fun i b hi => ?_, fun i b hi => ?_, fun i j b c hi hj e => ?_, h1.rw, h1.ro, h1.ri, fun i j r b hi hj => ?_, h1.g, fun k o j b hk hj => ?_, h1.gr, h1.fr, fun b g hb => ?_⟩
  · rw [h.tm i x hi, AV.real_far (hd.1.2 _ (lk_mem hi))]
  · rw [lk_cons] at hi
    by_cases e : d = i
    · subst e
      rw [if_pos rfl] at hi
      injection hi with hi
      subst hi
      rw [hd', Box.obj, map_real_far hc]
      exact heap_alloc_new w _
    · rw [if_neg e] at hi
      rw [hnew i (Ne.symm e), Box.obj, map_real_far (hbx i b hi).2]
      exact h1.bx i b hi
  · rw [lk_cons] at hi
    by_cases e : d = i
    · subst e
      rw [hd']
      exact .inl h.fr.size
    · rw [if_neg e] at hi
      rw [hnew i (Ne.symm e)]
      exact h.bo i b hi
  · rw [lk_cons] at hi hj
    by_cases ei : d = i
    · by_cases ej : d = j
      · exact ei.symm.trans ej
      · subst ei
        rw [if_neg ej] at hj
        rw [hd', hnew j (Ne.symm ej)] at e
        have := h.b_lt hj
        omega
    · rw [if_neg ei] at hi
      by_cases ej : d = j
      · subst ej
        rw [hd', hnew i (Ne.symm ei)] at e
        have := h.b_lt hi
        omega
      · rw [if_neg ej] at hj
        rw [hnew i (Ne.symm ei), hnew j (Ne.symm ej)] at e
        exact h.bi i j b c hi hj e
  · rw [lk_cons] at hj
    by_cases e : d = j
    · subst e
      rw [hd']
      intro hq
      have := h.r_lt hi hq
      omega
    · rw [if_neg e] at hj
      rw [hnew j (Ne.symm e)]
      exact h.rb i j r b hi hj
  · rw [lk_cons] at hj
    by_cases e : d = j
    · subst e
      rw [hd']
      have := h.g_lt hk
      omega
    · rw [if_neg e] at hj
      rw [hnew j (Ne.symm e)]
      exact h.gb k o j b hk hj
  · obtain ⟨h2, h3⟩ := h1.pn b g hb
    have hlt := Nat.blt_eq.mp hd.1.1.1
    exact ⟨h2, (hnew b (by omega)).trans h3⟩
def one : Value → Bool
  | .agg _ => false
  | .tuple _ => false
  | _ => true
theorem one_of {v : Value} (h : one v = true) : v.oneCell' = true := by cases v <;> first | rfl | cases h
theorem add_ptr (g o n : Nat) : (⟨g, o, none⟩ : Addr).add n = ⟨g, o + n, none⟩ := by
  unfold Addr.add
  split <;> simp_all
/-- What a box's cells are, some of them written anew. -/
def splice {β : Type} (l : List β) (o : Nat) (xs : List β) : List β := l.take o ++ xs ++ l.drop (o + xs.length)
theorem map_splice {β γ : Type} (f : β → γ) (l : List β) (o : Nat) (xs : List β) : (splice l o xs).map f = splice (l.map f) o (xs.map f) := by simp [splice, List.map_take, List.map_drop]
theorem md_setRow (w : World) (g : Nat) (cs : Array Value) : Md (fun k => k = g) w (w.setRow g cs) := ⟨rfl, rfl, rfl, by simp [World.setRow], fun k hk hn => by
  simp only [World.setRow, Array.getElem?_modify]
  rw [if_neg (fun e => hn e.symm)]⟩
theorem St.write {d : Nat} {b : Box} {o : Nat} {xs : List AV} (h : St w0 M ρ G R s a w) (hb : lk s.boxes d = some b) (hl : o + xs.length ≤ b.cells.length) :
    St w0 M ρ G R { s with boxes := (d, ⟨b.t, splice b.cells o xs⟩) :: s.boxes } a (w.setRow (ρ d) (splice (b.cells.map (AV.real ρ)) o (xs.map (AV.real ρ))).toArray) := by
  have hd : ∀ i c, lk s.boxes i = some c → i ≠ d → ρ i ≠ ρ d := fun i c hi hn e => hn (h.bi i d c b hi hb e)
  have k := md_setRow w (ρ d) (splice (b.cells.map (AV.real ρ)) o (xs.map (AV.real ρ))).toArray
  have old : ∀ {q : Nat} {o' : Obj}, w.heap[q]? = some o' → q ≠ ρ d → (w.setRow (ρ d) (splice (b.cells.map (AV.real ρ)) o (xs.map (AV.real ρ))).toArray).heap[q]? = some o' := fun {q o'} hq hn => (k.block q (Array.getElem?_eq_some_iff.1 hq).1 hn).trans hq
  refine ⟨h.tm, h.sz, h.df, fun i c hi => ?_, fun i c hi => ?_, fun i j c q hi hj e => ?_, fun i r hi => ?_, h.ro, h.ri, fun i j r c hi hj => ?_, fun q o' hq => old (h.g q o' hq) (fun e => h.gb q o' d b hq hb e.symm), fun q o' j c hq hj => ?_, h.gr, ?_, h.pn⟩
  · rw [lk_cons] at hi
    by_cases e : d = i
    · subst e
      rw [if_pos rfl] at hi
      injection hi with hi
      subst hi
      have := setRow_heap w (ρ d) (b.cells.map (AV.real ρ)).toArray (splice (b.cells.map (AV.real ρ)) o (xs.map (AV.real ρ))).toArray b.t (0, 0) (h.bx d b hb)
      rw [this, Box.obj, map_splice]
    · rw [if_neg e] at hi
      exact old (h.bx i c hi) (hd i c hi (Ne.symm e))
  · rw [lk_cons] at hi
    by_cases e : d = i
    · subst e; exact h.bo d b hb
    · rw [if_neg e] at hi; exact h.bo i c hi
  · have hx : ∀ i c, lk ((d, (⟨b.t, splice b.cells o xs⟩ : Box)) :: s.boxes) i = some c → ∃ c', lk s.boxes i = some c' := fun i c hi => by
      rw [lk_cons] at hi
      by_cases e : d = i
      · subst e; exact ⟨b, hb⟩
      · rw [if_neg e] at hi; exact ⟨c, hi⟩
    obtain ⟨c', hc⟩ := hx i c hi
    obtain ⟨q', hq⟩ := hx j q hj
    exact h.bi i j c' q' hc hq e
  · obtain ⟨h1, h2⟩ := h.rw i r hi
    refine ⟨h1, ?_⟩
    rcases h2 with h2 | ⟨g, cap, cur, hv, hb', hh, rest⟩
    · exact .inl h2
    · exact .inr ⟨g, cap, cur, hv, hb', old hh (fun e => h.rb i d r b hi hb (by rw [hv, ← e]; rfl)), rest⟩
  · rw [lk_cons] at hj
    by_cases e : d = j
    · subst e; exact h.rb i d r b hi hb
    · rw [if_neg e] at hj; exact h.rb i j r c hi hj
  · rw [lk_cons] at hj
    by_cases e : d = j
    · subst e; exact h.gb q o' d b hq hb
    · rw [if_neg e] at hj; exact h.gb q o' j c hq hj
  · exact h.fr.md k (fun i hi => by subst hi; exact h.bo d b hb)
end

/-! ### One operation on what is known -/
def S.real (s : S) : Operand → Value := fun x => match s.ev x with
  | some (.v z) => z
  | _ => undef
def S.plain (s : S) (x : Operand) : Bool := match s.ev x with
  | some (.v _) => true
  | _ => false
def S.box (s : S) (d : Option Nat) (t : TypeId) (cells : List AV) : Option S :=
  match d with
  | some d => if s.can (some d) && (s.fresh d && cells.all (AV.far d)) then some { s with tmps := (d, .own d 0) :: s.tmps, boxes := (d, ⟨t, cells⟩) :: s.boxes } else none
  | none => none
def cellsOfAV : AV → List AV
  | .v z => z.cells.toList.map .v
  | x => [x]
/-- The whole of a struct, an array. -/
def plainAll : List AV → Option (List Value)
  | [] => some []
  | .v z :: r => (plainAll r).map (z :: ·)
  | _ :: _ => none
def oneAV : AV → Bool
  | .v z => one z
  | _ => true
def isPure : Op → Bool
  | .binOp .. | .unOp .. | .convert .. | .extract .. | .index .. | .field .. | .build .. | .fieldAddr .. | .indexAddr .. | .slice .. => true
  | .call { callee := .builtin b, .. } => (match b with | .len | .cap | .min | .max => true | _ => false)
  | _ => false
def operandsOf : Op → List Operand
  | .binOp _ _ x y _ => [x, y]
  | .unOp _ _ x => [x]
  | .convert _ _ x => [x]
  | .extract x _ => [x]
  | .index _ x y => [x, y]
  | .field _ x _ => [x]
  | .build _ ps => ps.toList.map (·.2)
  | .fieldAddr _ x _ => [x]
  | .indexAddr _ x y => [x, y]
  | .slice _ x l h m => x :: (l.toList ++ h.toList ++ m.toList)
  | .call c => c.args.toList
  | _ => []
def pureStep (P : Program) (o : Oper) (s : S) : Option S :=
  if isPure o.op && (s.can o.dst && (operandsOf o.op).all s.plain) then
    match spure P (execOp s.real o) with
    | some (.value z) => some (s.put o.dst (.v z))
    | _ => none
  else none
def fieldOff (P : Program) (t : TypeId) (f : Nat) : Option Nat :=
  match P.underlying t with
  | some (.struct fs) => match fs[f]? with
    | some fd => match spure P (sizeOf fd.type) with
      | some (_ + 1) => some fd.offset
      | _ => none
    | none => none
  | _ => none
def opStep (P : Program) (o : Oper) (s : S) : Option S :=
  match o.op with
  | .move x | .assign x => match s.ev x with
    | some y => if s.can o.dst then some (s.put o.dst y) else none
    | none => none
  | .pick c x y => match s.ev c, s.ev x, s.ev y with
    | some (.v (.bool true)), some x, some _ => if s.can o.dst then some (s.put o.dst x) else none
    | some (.v (.bool false)), some _, some y => if s.can o.dst then some (s.put o.dst y) else none
    | _, _, _ => none
  | .alloc t => match spure P (zeroValue t) with
    | some z => s.box o.dst t (z.cells.toList.map .v)
    | none => none
  | .box t x => match s.ev x with
    | some y => s.box o.dst t (cellsOfAV y)
    | none => none
  | .load t x => match s.ev x with
    | some (.own b off) => match lk s.boxes b, spure P (isAgg t), spure P (sizeOf t) with
      | some bx, some false, _ => match bx.cells[off]? with
        | some y => if s.can o.dst then some (s.put o.dst y) else none
        | none => none
      | some bx, some true, some n => match plainAll ((bx.cells.drop off).take n) with
        | some l => if s.can o.dst && Nat.ble (off + n) bx.cells.length then some (s.put o.dst (.v (.agg l.toArray))) else none
        | none => none
      | _, _, _ => none
    | _ => none
  | .store t p x => match s.ev p, s.ev x with
    | some (.own b off), some y => match lk s.boxes b, spure P (sizeOf t) with
      | some bx, some n => if Nat.beq (cellsOfAV y).length n && (Nat.ble (off + n) bx.cells.length && ((cellsOfAV y).all oneAV && s.can o.dst)) then
          some ({ s with boxes := (b, ⟨bx.t, splice bx.cells off (cellsOfAV y)⟩) :: s.boxes }.put o.dst (.v undef)) else none
      | _, _ => none
    | _, _ => none
  | .fieldAddr t x f => match s.ev x with
    | some (.own b off) => match fieldOff P t f with
      | some n => if s.can o.dst then some (s.put o.dst (.own b (off + n))) else none
      | none => none
    | _ => pureStep P o s
  | .indexAddr t x i => match s.ev x, s.ev i with
    | some (.own b off), some (.v (.int _ j)) => match P.underlying t with
      | some (.array len e) => match spure P (sizeOf e) with
        | some n => match j with
          | .ofNat j => if Nat.blt j len && s.can o.dst then some (s.put o.dst (.own b (off + j * n))) else none
          | _ => none
        | none => none
      | _ => none
    | _, _ => pureStep P o s
  | .nilCheck x => match s.ev x with
    | some (.own b off) => if s.can o.dst then some (s.put o.dst (.own b off)) else none
    | _ => none
  | .makeFunc (.func f) first caps =>
    if first.size == 0 then
      match (caps.toList.mapM fun x => match s.ev x with | some (.own b off) => some (b, off) | _ => none) with
      | some l => if s.can o.dst then some (s.put o.dst (.fn f l)) else none
      | none => none
    else match first.toList, caps.toList with
      | [x], [] => match s.ev x with
        | some (.own b off) => if s.can o.dst then some (s.put o.dst (.mth f b off)) else none
        | _ => none
      | _, _ => none
  | _ => pureStep P o s

/-! ### .. is what the machine does -/
theorem exec_same {f g : Operand → Value} {o : Oper} (hp : isPure o.op = true) (h : ∀ x ∈ operandsOf o.op, f x = g x) : execOp f o = execOp g o := by
  obtain ⟨dst, op, ty, pos, af, gd⟩ := o
  simp only at hp h
  have arr : ∀ (l : Array Operand), (∀ x ∈ l.toList, f x = g x) → l.map f = l.map g := fun l hl => by
    apply Array.map_congr_left
    intro x hx
    exact hl x (Array.mem_toList_iff.mpr hx)
  cases op with
  | binOp b t x y u => simp only [operandsOf] at h; simp [execOp, h x (by simp), h y (by simp)]
  | unOp b t x => simp only [operandsOf] at h; simp [execOp, h x (by simp)]
  | convert b t x => simp only [operandsOf] at h; simp [execOp, h x (by simp)]
  | extract x t => simp only [operandsOf] at h; simp [execOp, h x (by simp)]
  | index t x y => simp only [operandsOf] at h; simp [execOp, h x (by simp), h y (by simp)]
  | field t x y => simp only [operandsOf] at h; simp [execOp, h x (by simp)]
  | fieldAddr t x y => simp only [operandsOf] at h; simp [execOp, h x (by simp)]
  | indexAddr t x y => simp only [operandsOf] at h; simp [execOp, h x (by simp), h y (by simp)]
  | build t ps =>
    simp only [operandsOf] at h
    have : (ps.map fun (i, x) => (i, f x)) = (ps.map fun (i, x) => (i, g x)) := by
      apply Array.map_congr_left
      intro p hp
      obtain ⟨i, x⟩ := p
      simp only [Prod.mk.injEq, true_and]
      exact h x (List.mem_map.mpr ⟨(i, x), Array.mem_toList_iff.mpr hp, rfl⟩)
    simp only [execOp, this]
  | slice t x l hh m =>
    simp only [operandsOf] at h
    have e1 := h x (by simp)
    have e2 : l.map f = l.map g := by cases l with | none => rfl | some y => simp [h y (by simp)]
    have e3 : hh.map f = hh.map g := by cases hh with | none => rfl | some y => simp [h y (by simp)]
    have e4 : m.map f = m.map g := by cases m with | none => rfl | some y => simp [h y (by simp)]
    simp only [execOp, e1, e2, e3, e4]
  | call c =>
    obtain ⟨callee, args, tys⟩ := c
    cases callee with
    | builtin b => simp only [operandsOf] at h; simp only [execOp, resolve, arr args h]
    | value x => simp [isPure] at hp
    | invoke x n => simp [isPure] at hp
  | _ => simp [isPure] at hp
section
variable {P : Program} {w0 w : World} {M : Mk} {ρ : Nat → Nat} {G : Mem} {R : List (Nat × Row)} {s s' : S} {a : Act} {o : Oper} {next : Act → World → Prop} {Q : Exit → Act → World → Prop}
theorem wp_value {z : Value} {w' : World} (hr : (execOp a.eval o).run P w = .ok (.value z) w') (h : next (a.put o.dst z) w') : o.wp P a w next Q := by
  unfold Oper.wp
  rw [hr]
  exact h
theorem wp_skip' {w' : World} (hr : (execOp a.eval o).run P w = .ok .skip w') (h : next (a.put o.dst undef) w') : o.wp P a w next Q := by
  unfold Oper.wp
  rw [hr]
  exact h
theorem S.plain_real {x : Operand} (h : s.plain x = true) : ∃ z, s.ev x = some (.v z) ∧ s.real x = z := by
  unfold S.plain at h
  unfold S.real
  split at h
  · rename_i z hz; exact ⟨z, hz, rfl⟩
  · cases h
theorem pureStep_ok (h : pureStep P o s = some s') (hs : St w0 M ρ G R s a w) (hk : ∀ ρ' a' w', St w0 M ρ' G R s' a' w' → next a' w') : o.wp P a w next Q := by
  unfold pureStep at h
  split at h
  · rename_i hc
    simp only [Bool.and_eq_true, List.all_eq_true] at hc
    split at h
    · rename_i z hz
      injection h with h
      subst h
      have he : execOp a.eval o = execOp s.real o := exec_same hc.1 (fun x hx => by
        obtain ⟨z, h1, h2⟩ := S.plain_real (hc.2.2 x hx)
        rw [h2]
        exact hs.ev h1)
      refine wp_value (by rw [he]; exact spure_run hz w) (hk ρ _ _ ?_)
      exact hs.put (x := .v z) hc.2.1
    · cases h
  · cases h
theorem run_bind_ok {α β : Type} {s : Sem α} {f : α → Sem β} {x : α} {w w' : World} (h : s.run P w = .ok x w') : (s >>= f).run P w = (f x).run P w' := by
  rw [show (s >>= f).run P w = (s.run P w).andThen (fun y w => (f y).run P w) from Sem.run_bind ..]
  rw [h]
  rfl
theorem cells_real (y : AV) : (cellsOfAV y).map (AV.real ρ) = (y.real ρ).cells.toList := by
  cases y with
  | v z => simp [cellsOfAV, AV.real, Function.comp_def]
  | own b o => rfl
  | mth f b o => rfl
  | fn f cs => rfl
theorem St.newBox {d : Option Nat} {t : TypeId} {cells : List AV} {ty : Value} (hs : St w0 M ρ G R s a w) (h : s.box d t cells = some s') (hk : ∀ ρ' a' w', St w0 M ρ' G R s' a' w' → next a' w') :
    next (a.put d (ptr w.heap.size 0)) (w.alloc (.cells (cells.map (AV.real ρ)).toArray t)) := by
  unfold S.box at h
  cases d with
  | none => cases h
  | some d =>
    simp only at h
    split at h
    · rename_i hc
      simp only [Bool.and_eq_true] at hc
      injection h with h
      subst h
      have h1 := hs.box (t := t) hc.2.1 hc.2.2
      have h2 := h1.put (d := some d) (x := .own d 0) hc.1
      have : (AV.own d 0).real (upd ρ d w.heap.size) = ptr w.heap.size 0 := by simp [AV.real, upd]
      rw [this] at h2
      exact hk _ _ _ h2
    · cases h
theorem plainAll_eq {l : List AV} {vs : List Value} (h : plainAll l = some vs) : l.map (AV.real ρ) = vs := by
  induction l generalizing vs with
  | nil => simp only [plainAll, Option.some.injEq] at h; subst h; rfl
  | cons x r ih =>
    cases x with
    | v z =>
      simp only [plainAll, Option.map_eq_some_iff] at h
      obtain ⟨vs', h1, rfl⟩ := h
      simp [AV.real, ih h1]
    | own b o => simp [plainAll] at h
    | fn f c => simp [plainAll] at h
    | mth f b o => simp [plainAll] at h
theorem oneAV_real {y : AV} (h : oneAV y = true) : (y.real ρ).oneCell' = true := by
  cases y with
  | v z => exact one_of h
  | own b o => rfl
  | mth f b o => rfl
  | fn f c => rfl
end

section
variable {P : Program} {w0 w : World} {M : Mk} {ρ : Nat → Nat} {G : Mem} {R : List (Nat × Row)} {s s' : S} {a : Act} {o : Oper} {next : Act → World → Prop} {Q : Exit → Act → World → Prop}
theorem run_v {s : Sem Value} {w w' : World} {z : Value} (h : s.run P w = .ok z w') : (do pure (Next.value (← s)) : Sem Next).run P w = .ok (.value z) w' := by
  rw [run_bind_ok h]
  rfl
theorem size_run {t n : Nat} (h : spure P (sizeOf t) = some n) : (P.info? t).map (·.size) = some n := by
  unfold sizeOf typeInfo program at h
  simp only [bind, Sem.bind, spure, pure] at h
  cases hi : P.info? t with
  | none => rw [hi] at h; simp [stuck, Sem.bind, spure] at h
  | some i => rw [hi] at h; simpa [Sem.bind, spure] using h
theorem take_real {l : List AV} {vs : List Value} {off n : Nat} (h : plainAll ((l.drop off).take n) = some vs) (hn : off + n ≤ l.length) : vs.length = n ∧ ∀ j v, vs[j]? = some v → (l.map (AV.real ρ))[off + j]? = some v := by
  have e := plainAll_eq (ρ := ρ) h
  refine ⟨?_, fun j v hj => ?_⟩
  · rw [← e]; simp; omega
  · rw [← e] at hj
    rw [List.getElem?_map, List.getElem?_take] at hj
    split at hj
    · rw [List.getElem?_drop] at hj
      rw [List.getElem?_map]
      exact hj
    · simp at hj
theorem load_one {b off t : Nat} {bx : Box} {y : AV} (hs : St w0 M ρ G R s a w) (hb : lk s.boxes b = some bx) (ht : spure P (isAgg t) = some false) (hy : bx.cells[off]? = some y) : (Instr.loadAt t (ptr (ρ b) off)).run P w = .ok (y.real ρ) w := by
  have hc : w.cell? ⟨ρ b, off, none⟩ = some (y.real ρ) := by
    rw [cell_of_row w (ρ b) off _ _ _ (hs.bx b bx hb)]
    simp [hy]
  have h1 : (Instr.sureAddr (ptr (ρ b) off)).run P w = .ok ⟨ρ b, off, none⟩ w := rfl
  unfold Instr.loadAt
  rw [run_bind_ok h1]
  unfold loadVar
  rw [run_bind_ok (spure_run ht w)]
  simp [load, Sem.run, hc]
theorem load_all {b off t n : Nat} {bx : Box} {l : List Value} (hs : St w0 M ρ G R s a w) (hb : lk s.boxes b = some bx) (ht : spure P (isAgg t) = some true) (hn : spure P (sizeOf t) = some n) (hl : plainAll ((bx.cells.drop off).take n) = some l) (hle : off + n ≤ bx.cells.length) : (Instr.loadAt t (ptr (ρ b) off)).run P w = .ok (.agg l.toArray) w := by
  have h1 : (Instr.sureAddr (ptr (ρ b) off)).run P w = .ok ⟨ρ b, off, none⟩ w := rfl
  obtain ⟨hlen, hget⟩ := take_real (ρ := ρ) hl hle
  have hc : (loadCells ⟨ρ b, off, none⟩ n).run P w = .ok l.toArray w := by
    rw [← hlen]
    refine run_loadCells_list (cs := l) (a := ⟨ρ b, off, none⟩) (h := fun j v hj => ?_) ..
    rw [add_ptr, cell_of_row w (ρ b) (off + j) _ _ _ (hs.bx b bx hb)]
    simpa using hget j v hj
  unfold Instr.loadAt
  rw [run_bind_ok h1]
  unfold loadVar
  rw [run_bind_ok (spure_run ht w)]
  simp only [if_true]
  rw [run_bind_ok (spure_run hn w), run_bind_ok hc]
  rfl
theorem store_all {b off t n : Nat} {bx : Box} {y : AV} (hs : St w0 M ρ G R s a w) (hb : lk s.boxes b = some bx) (hn : spure P (sizeOf t) = some n) (hy : (cellsOfAV y).length = n) (hle : off + n ≤ bx.cells.length) (h1 : (cellsOfAV y).all oneAV = true) :
    (Instr.storeAt t (ptr (ρ b) off) (y.real ρ)).run P w = .ok () (w.setRow (ρ b) (splice (bx.cells.map (AV.real ρ)) off ((cellsOfAV y).map (AV.real ρ))).toArray) := by
  have h0 : (Instr.sureAddr (ptr (ρ b) off)).run P w = .ok ⟨ρ b, off, none⟩ w := rfl
  have hcells : (y.real ρ).cells.size = n := by
    have := congrArg List.length (cells_real (ρ := ρ) y)
    simp only [List.length_map, Array.length_toList] at this
    omega
  unfold Instr.storeAt
  rw [run_bind_ok h0]
  unfold storeVar
  rw [run_bind_ok (spure_run hn w)]
  simp only [hcells, ne_eq, not_true_eq_false, if_false]
  have hone : ∀ v ∈ (y.real ρ).cells.toList, v.oneCell' = true := by
    rw [← cells_real]
    intro v hv
    obtain ⟨x, hx, rfl⟩ := List.mem_map.mp hv
    exact oneAV_real (List.all_eq_true.mp h1 x hx)
  have := run_storeCells_at P (ρ b) off bx.t (y.real ρ).cells.toList 0 _ w (hs.bx b bx hb) (by simp; omega) hone
  simp only [Nat.add_zero] at this
  rw [this, cells_real]
  rfl
theorem field_run {t f n : Nat} {g off : Nat} (h : fieldOff P t f = some n) : (Instr.fieldAt t (ptr g off) f).run P w = .ok (ptr g (off + n)) w := by
  unfold fieldOff at h
  split at h
  · rename_i fs hu
    split at h
    · rename_i fd hf
      split at h
      · rename_i m hm
        injection h with h
        subst h
        unfold Instr.fieldAt
        rw [run_bind_ok (run_underlying hu w)]
        simp only [hf]
        have h0 : (Instr.sureAddr (ptr g off)).run P w = .ok ⟨g, off, none⟩ w := rfl
        rw [run_bind_ok h0]
        have h2 : (fieldPlace ⟨g, off, none⟩ fd).run P w = .ok ⟨g, off + fd.offset, none⟩ w := by
          unfold fieldPlace
          rw [run_bind_ok (spure_run hm w)]
          simp only [Nat.add_eq_zero_iff, Nat.one_ne_zero, and_false, if_false, add_ptr]
          rfl
        rw [run_bind_ok h2]
        rfl
      · cases h
    · cases h
  · cases h
theorem index_run {t e len n j : Nat} {g off : Nat} {k : IntKind} (hu : P.underlying t = some (.array len e)) (hn : spure P (sizeOf e) = some n) (hj : j < len) : (Instr.indexAt t (ptr g off) (.int k (j : Int))).run P w = .ok (ptr g (off + j * n)) w := by
  unfold Instr.indexAt
  have h0 : (asIntOf (.int k (j : Int))).run P w = .ok (k, (j : Int)) w := rfl
  rw [run_bind_ok h0]
  simp only
  rw [run_bind_ok (run_underlying hu w)]
  simp only
  have h1 : (Instr.sureAddr (ptr g off)).run P w = .ok ⟨g, off, none⟩ w := rfl
  rw [run_bind_ok h1, run_bind_ok (show (pure (some (⟨g, off, none⟩ : Addr), len, e) : Sem (Option Addr × Nat × TypeId)).run P w = .ok _ w from rfl)]
  simp only
  rw [run_bind_ok (run_underlying hu w)]
  simp only
  have h2 : (0 : Int) ≤ (j : Int) ∧ (j : Int) < (len : Int) := ⟨by omega, by omega⟩
  simp only [h2, and_self, if_true]
  rw [run_bind_ok (spure_run hn w)]
  simp only [Int.toNat_natCast, add_ptr]
  rfl
end

section
variable {P : Program} {w0 w : World} {M : Mk} {ρ : Nat → Nat} {G : Mem} {R : List (Nat × Row)} {s s' : S} {a : Act} {o : Oper} {next : Act → World → Prop} {Q : Exit → Act → World → Prop}
theorem alloc_run {t : TypeId} {z : Value} (hz : spure P (zeroValue t) = some z) : (Instr.alloc t true (.tuple #[])).run P w = .ok (ptr w.heap.size 0) (w.alloc (.cells z.cells t)) := by
  unfold Instr.alloc
  rw [run_bind_ok (spure_run hz w)]
  rfl
theorem opStep_ok (h : opStep P o s = some s') (hs : St w0 M ρ G R s a w) (hk : ∀ ρ' a' w', St w0 M ρ' G R s' a' w' → next a' w') : o.wp P a w next Q := by
  obtain ⟨dst, op, ty, pos, af, gd⟩ := o
  cases op with
  | move x =>
    simp only [opStep] at h
    split at h
    · rename_i y hy
      split at h
      · rename_i hc
        injection h with h
        subst h
        exact wp_value (z := a.eval x) rfl (by rw [hs.ev hy]; exact hk ρ _ _ (hs.put hc))
      · cases h
    · cases h
  | assign x =>
    simp only [opStep] at h
    split at h
    · rename_i y hy
      split at h
      · rename_i hc
        injection h with h
        subst h
        exact wp_value (z := a.eval x) rfl (by rw [hs.ev hy]; exact hk ρ _ _ (hs.put hc))
      · cases h
    · cases h
  | pick c x y =>
    simp only [opStep] at h
    split at h
    · rename_i x' y' hcc hx hy
      split at h
      · rename_i hc
        injection h with h
        subst h
        have e : a.eval c = .bool true := hs.ev hcc
        exact wp_value (z := a.eval x) (by simp only [execOp, e]; rfl) (by rw [hs.ev hx]; exact hk ρ _ _ (hs.put hc))
      · cases h
    · rename_i x' y' hcc hx hy
      split at h
      · rename_i hc
        injection h with h
        subst h
        have e : a.eval c = .bool false := hs.ev hcc
        exact wp_value (z := a.eval y) (by simp only [execOp, e]; rfl) (by rw [hs.ev hy]; exact hk ρ _ _ (hs.put hc))
      · cases h
    · cases h
  | alloc t =>
    simp only [opStep] at h
    split at h
    · rename_i z hz
      have e : (z.cells.toList.map AV.v).map (AV.real ρ) = z.cells.toList := by rw [List.map_map]; simp [Function.comp_def, AV.real]
      refine wp_value (z := ptr w.heap.size 0) (w' := w.alloc (.cells z.cells t)) (run_v (alloc_run hz)) ?_
      have := hs.newBox (ty := .nilFunc) h hk
      rw [e] at this
      exact this
    · cases h
  | box t x =>
    simp only [opStep] at h
    split at h
    · rename_i y hy
      refine wp_value (z := ptr w.heap.size 0) (w' := w.alloc (.cells (y.real ρ).cells t)) (by simp only [execOp, hs.ev hy]; rfl) ?_
      have := hs.newBox (ty := .nilFunc) h hk
      rw [cells_real] at this
      exact this
    · cases h
  | load t x =>
    simp only [opStep] at h
    split at h
    · rename_i b off hx
      have e : a.eval x = ptr (ρ b) off := hs.ev hx
      split at h
      · rename_i bx hb ht
        split at h
        · rename_i y hy
          split at h
          · rename_i hc
            injection h with h
            subst h
            exact wp_value (z := y.real ρ) (by simp only [execOp, e]; exact run_v (load_one hs hb ht hy)) (hk ρ _ _ (hs.put hc))
          · cases h
        · cases h
      · rename_i bx n hb ht hn
        split at h
        · rename_i l hl
          split at h
          · rename_i hc
            simp only [Bool.and_eq_true] at hc
            injection h with h
            subst h
            exact wp_value (z := .agg l.toArray) (by simp only [execOp, e]; exact run_v (load_all hs hb ht hn hl (Nat.ble_eq.mp hc.2))) (hk ρ _ _ (hs.put (x := .v (.agg l.toArray)) hc.1))
          · cases h
        · cases h
      · cases h
    · cases h
  | store t p x =>
    simp only [opStep] at h
    split at h
    · rename_i b off y hp hx
      have e : a.eval p = ptr (ρ b) off := hs.ev hp
      have e2 : a.eval x = y.real ρ := hs.ev hx
      split at h
      · rename_i bx n hb hn
        split at h
        · rename_i hc
          simp only [Bool.and_eq_true] at hc
          injection h with h
          subst h
          have hlen : (cellsOfAV y).length = n := Nat.eq_of_beq_eq_true hc.1
          have hle := Nat.ble_eq.mp hc.2.1
          have hrun := store_all (y := y) hs hb hn hlen hle hc.2.2.1
          have hst := hs.write (d := b) (b := bx) (o := off) (xs := cellsOfAV y) hb (by omega)
          refine wp_skip' (w' := w.setRow (ρ b) (splice (bx.cells.map (AV.real ρ)) off ((cellsOfAV y).map (AV.real ρ))).toArray) ?_ (hk ρ _ _ (hst.put (x := .v undef) hc.2.2.2))
          simp only [execOp, e, e2]
          rw [run_bind_ok hrun]
          rfl
        · cases h
      · cases h
    · cases h
  | fieldAddr t x f =>
    simp only [opStep] at h
    split at h
    · rename_i b off hx
      have e : a.eval x = ptr (ρ b) off := hs.ev hx
      split at h
      · rename_i n hf
        split at h
        · rename_i hc
          injection h with h
          subst h
          exact wp_value (z := ptr (ρ b) (off + n)) (by simp only [execOp, e]; exact run_v (field_run hf)) (hk ρ _ _ (hs.put (x := .own b (off + n)) hc))
        · cases h
      · cases h
    · exact pureStep_ok h hs hk
  | indexAddr t x i =>
    simp only [opStep] at h
    split at h
    · rename_i b off k j hx hi
      have e : a.eval x = ptr (ρ b) off := hs.ev hx
      have e2 : a.eval i = .int k j := hs.ev hi
      split at h
      · rename_i len el hu
        split at h
        · rename_i n hn
          split at h
          · rename_i j
            split at h
            · rename_i hc
              simp only [Bool.and_eq_true] at hc
              injection h with h
              subst h
              exact wp_value (z := ptr (ρ b) (off + j * n)) (by simp only [execOp, e, e2]; exact run_v (index_run hu hn (Nat.blt_eq.mp hc.1))) (hk ρ _ _ (hs.put (x := .own b (off + j * n)) hc.2))
            · cases h
          · cases h
        · cases h
      · cases h
    · exact pureStep_ok h hs hk
  | nilCheck x =>
    simp only [opStep] at h
    split at h
    · rename_i b off hx
      have e : a.eval x = ptr (ρ b) off := hs.ev hx
      split at h
      · rename_i hc
        injection h with h
        subst h
        exact wp_value (z := ptr (ρ b) off) (by simp only [execOp, e]; rfl) (hk ρ _ _ (hs.put (x := .own b off) hc))
      · cases h
    · cases h
  | makeFunc fn first caps =>
    cases fn with
    | func f =>
      simp only [opStep] at h
      split at h
      · rename_i h0
        split at h
        · rename_i l hl
          split at h
          · rename_i hc
            injection h with h
            subst h
            have hf : first = #[] := Array.eq_empty_of_size_eq_zero (by simpa using h0)
            have hm : ∀ (cs : List Operand) (l : List (Nat × Nat)), cs.mapM (fun x => match s.ev x with | some (.own b off) => some (b, off) | _ => none) = some l → cs.map a.eval = l.map fun p => ptr (ρ p.1) p.2 := by
              intro cs
              induction cs with
              | nil => intro l hl; simp at hl; subst hl; rfl
              | cons c r ih =>
                intro l hl
                rw [List.mapM_cons] at hl
                cases hc : s.ev c with
                | none => rw [hc] at hl; simp at hl
                | some y =>
                  rw [hc] at hl
                  cases y with
                  | v z => simp at hl
                  | fn f q => simp at hl
                  | mth f q1 q2 => simp at hl
                  | own b off =>
                    simp only [Option.bind_eq_bind, Option.bind_some] at hl
                    obtain ⟨l', h1, h2⟩ := Option.bind_eq_some_iff.mp hl
                    simp only [Option.pure_def, Option.some.injEq] at h2
                    subst h2
                    simp only [List.map_cons, ih l' h1, hs.ev hc, AV.real]
            have e : caps.map a.eval = (l.map fun p => ptr (ρ p.1) p.2).toArray := by
              apply Array.toList_inj.mp
              rw [Array.toList_map, hm _ _ hl]
            exact wp_value (z := (AV.fn f l).real ρ) (by simp only [execOp, hf, e, Array.map_empty]; rfl) (hk ρ _ _ (hs.put hc))
          · cases h
        · cases h
      · split at h
        · rename_i x hx1 hx2
          split at h
          · rename_i b off hev
            split at h
            · rename_i hc
              injection h with h
              subst h
              have hf : first = #[x] := Array.toList_inj.mp hx1
              have hf2 : caps = #[] := Array.toList_inj.mp hx2
              have e1 : a.eval x = ptr (ρ b) off := hs.ev hev
              exact wp_value (z := (AV.mth f b off).real ρ) (by simp only [execOp, hf, hf2, List.map_toArray, List.map_cons, List.map_nil, e1]; rfl) (hk ρ _ _ (hs.put hc))
            · cases h
          · cases h
        · cases h
    | _ => simp only [opStep] at h; exact pureStep_ok h hs hk
  | _ => exact pureStep_ok h hs hk
end

/-! ### The control -/
structure Ctx where
  P : Program
  Q : Exit → Act → World → Prop
  w0 : World
  M : Mk
inductive Cur where
  | code (c : Code)
  | ops (arr : Array Oper) (l : List Oper)
  | ex (e : Exit)
inductive CK where
  | seq (c : Code)
  | blk (id : Nat)
  | loop (J : S → List (Nat × Row) → Mem → Prop)
def den (C : Ctx) : List CK → Exit → Act → World → Prop
  | [], e, a, w => C.Q e a w
  | .seq c :: k, .normal, a, w => c.wp C.P (den C k) a w
  | .seq _ :: k, e, a, w => den C k e a w
  | .blk id :: k, .exit id', a, w => if id' = id then den C k .normal a w else den C k (.exit id') a w
  | .blk _ :: k, e, a, w => den C k e a w
  | .loop J :: _, .normal, a, w => ∃ ρ s R G, St C.w0 C.M ρ G R s a w ∧ J s R G
  | .loop _ :: k, e, a, w => den C k e a w
def X (C : Ctx) (cur : Cur) (k : List CK) (s : S) (R : List (Nat × Row)) (G : Mem) : Prop :=
  ∀ ρ a w, St C.w0 C.M ρ G R s a w → match cur with
    | .code c => c.wp C.P (den C k) a w
    | .ops arr l => wpList C.P arr (den C k) l a w
    | .ex e => den C k e a w
theorem den_seq (C : Ctx) (c : Code) (k : List CK) : den C (.seq c :: k) = Exit.then (c.wp C.P (den C k)) (den C k) := by
  funext e a w
  cases e <;> rfl
theorem den_blk (C : Ctx) (id : Nat) (k : List CK) : den C (.blk id :: k) = Exit.inBlock id (den C k) := by
  funext e a w
  cases e <;> rfl
def boolOf : Value → Option Bool
  | .bool b => some b
  | _ => none
def yld (s : S) (arr : Array Oper) (j : Nat) : Option (Option Bool) :=
  match (arr[j]?).bind (·.dst) with
  | some d => match lk s.tmps d with
    | some (.v z) => some (boolOf z)
    | _ => none
  | none => none
def step (P : Program) : Cur → List CK → S → Option (Cur × List CK × S)
  | .code .skip, k, s => some (.ex .normal, k, s)
  | .code (.label _), k, s => some (.ex .normal, k, s)
  | .code (.seq a b), k, s => some (.code a, .seq b :: k, s)
  | .code (.block id b), k, s => some (.code b, .blk id :: k, s)
  | .code (.exit id), k, s => some (.ex (.exit id), k, s)
  | .code .ret, k, s => some (.ex .ret, k, s)
  | .code (.region _ ops false), k, s => some (.ops ops ops.toList, k, s)
  | .code (.cond c x y), k, s => match s.ev c with
    | some (.v (.bool true)) => some (.code x, k, s)
    | some (.v (.bool false)) => some (.code y, k, s)
    | _ => none
  | .code _, _, _ => none
  | .ops _ [], k, s => some (.ex .normal, k, s)
  | .ops arr (o :: r), k, s => match o.guard with
    | none => (opStep P o s).map fun s' => (.ops arr r, k, s')
    | some (j, want) => match yld s arr j with
      | some b => if b == some want then (opStep P o s).map fun s' => (.ops arr r, k, s') else if s.can o.dst then some (.ops arr r, k, s.put o.dst (.v undef)) else none
      | none => none
  | .ex .normal, .seq c :: k, s => some (.code c, k, s)
  | .ex .normal, .blk _ :: k, s => some (.ex .normal, k, s)
  | .ex .ret, .seq _ :: k, s => some (.ex .ret, k, s)
  | .ex .ret, .blk _ :: k, s => some (.ex .ret, k, s)
  | .ex .ret, .loop _ :: k, s => some (.ex .ret, k, s)
  | .ex (.exit id), .seq _ :: k, s => some (.ex (.exit id), k, s)
  | .ex (.exit id), .blk id' :: k, s => if Nat.beq id id' then some (.ex .normal, k, s) else some (.ex (.exit id), k, s)
  | .ex (.exit id), .loop _ :: k, s => some (.ex (.exit id), k, s)
  | .ex _, _, _ => none
section
variable {C : Ctx} {cur cur' : Cur} {k k' : List CK} {s s' : S} {R : List (Nat × Row)} {G : Mem}
theorem ops_step {arr : Array Oper} {o : Oper} {r : List Oper} (hg : ∀ ρ a w, St C.w0 C.M ρ G R s a w → Region.wanted o (yielded arr a.tmps) = true) (h : opStep C.P o s = some s') (H : X C (.ops arr r) k s' R G) : X C (.ops arr (o :: r)) k s R G := by
  intro ρ a w hs
  refine wpList_step fun K hK => ?_
  rw [if_pos (hg ρ a w hs)]
  exact opStep_ok h hs (fun ρ' a' w' h' => hK _ _ (H ρ' a' w' h'))
theorem ops_skip {arr : Array Oper} {o : Oper} {r : List Oper} (hg : ∀ ρ a w, St C.w0 C.M ρ G R s a w → Region.wanted o (yielded arr a.tmps) = false) (hc : s.can o.dst = true) (H : X C (.ops arr r) k (s.put o.dst (.v undef)) R G) : X C (.ops arr (o :: r)) k s R G := by
  intro ρ a w hs
  refine wpList_step fun K hK => ?_
  rw [if_neg (by rw [hg ρ a w hs]; decide)]
  exact hK _ _ (H ρ _ _ (hs.put (x := .v undef) hc))
theorem yld_ok {arr : Array Oper} {j : Nat} {b : Option Bool} {ρ : Nat → Nat} {a : Act} {w : World} (h : yld s arr j = some b) (hs : St C.w0 C.M ρ G R s a w) : yielded arr a.tmps j = b := by
  unfold yld at h
  unfold yielded
  split at h
  · rename_i d hd
    split at h
    · rename_i z hz
      injection h with h
      have := hs.tm d _ hz
      rw [hd]
      simp only [Option.bind_some, this, AV.real]
      subst h
      cases z <;> rfl
    · cases h
  · cases h
theorem step_ok (h : step C.P cur k s = some (cur', k', s')) (H : X C cur' k' s' R G) : X C cur k s R G := by
  unfold step at h
  split at h
  · injection h with h; obtain ⟨rfl, rfl, rfl⟩ := h; exact fun ρ a w hs => wp_skip (H ρ a w hs)
  · injection h with h; obtain ⟨rfl, rfl, rfl⟩ := h; exact fun ρ a w hs => wp_label (H ρ a w hs)
  · injection h with h; obtain ⟨rfl, rfl, rfl⟩ := h
    intro ρ a w hs
    have := H ρ a w hs
    simp only [den_seq] at this
    exact wp_seq this
  · injection h with h; obtain ⟨rfl, rfl, rfl⟩ := h
    intro ρ a w hs
    have := H ρ a w hs
    simp only [den_blk] at this
    exact wp_block this
  · injection h with h; obtain ⟨rfl, rfl, rfl⟩ := h; exact fun ρ a w hs => wp_exit (H ρ a w hs)
  · injection h with h; obtain ⟨rfl, rfl, rfl⟩ := h; exact fun ρ a w hs => wp_ret (H ρ a w hs)
  · injection h with h; obtain ⟨rfl, rfl, rfl⟩ := h; exact fun ρ a w hs => wp_region_list (H ρ a w hs)
  · split at h
    · rename_i hc
      injection h with h; obtain ⟨rfl, rfl, rfl⟩ := h; exact fun ρ a w hs => wp_cond_true (hs.ev hc) (H ρ a w hs)
    · rename_i hc
      injection h with h; obtain ⟨rfl, rfl, rfl⟩ := h; exact fun ρ a w hs => wp_cond_false (hs.ev hc) (H ρ a w hs)
    · cases h
  · cases h
  · injection h with h; obtain ⟨rfl, rfl, rfl⟩ := h; exact fun ρ a w hs => wpList_nil (H ρ a w hs)
  · rename_i arr o r k s
    split at h
    · rename_i hg
      simp only [Option.map_eq_some_iff] at h
      obtain ⟨s1, h1, h2⟩ := h
      obtain ⟨rfl, rfl, rfl⟩ := h2
      exact ops_step (fun ρ a w hs => by simp [Region.wanted, hg]) h1 H
    · rename_i j want hg
      split at h
      · rename_i b hb
        split at h
        · rename_i hbw
          simp only [Option.map_eq_some_iff] at h
          obtain ⟨s1, h1, h2⟩ := h
          obtain ⟨rfl, rfl, rfl⟩ := h2
          exact ops_step (fun ρ a w hs => by simp only [Region.wanted, hg, yld_ok hb hs]; exact hbw) h1 H
        · rename_i hbw
          split at h
          · rename_i hc
            injection h with h; obtain ⟨rfl, rfl, rfl⟩ := h
            exact ops_skip (fun ρ a w hs => by simp only [Region.wanted, hg, yld_ok hb hs]; simpa using hbw) hc H
          · cases h
      · cases h
  · injection h with h; obtain ⟨rfl, rfl, rfl⟩ := h; exact fun ρ a w hs => H ρ a w hs
  · injection h with h; obtain ⟨rfl, rfl, rfl⟩ := h; exact fun ρ a w hs => H ρ a w hs
  · injection h with h; obtain ⟨rfl, rfl, rfl⟩ := h; exact fun ρ a w hs => H ρ a w hs
  · injection h with h; obtain ⟨rfl, rfl, rfl⟩ := h; exact fun ρ a w hs => H ρ a w hs
  · injection h with h; obtain ⟨rfl, rfl, rfl⟩ := h; exact fun ρ a w hs => H ρ a w hs
  · injection h with h; obtain ⟨rfl, rfl, rfl⟩ := h; exact fun ρ a w hs => H ρ a w hs
  · split at h
    · rename_i he
      injection h with h; obtain ⟨rfl, rfl, rfl⟩ := h
      intro ρ a w hs
      simp only [den, if_pos (Nat.eq_of_beq_eq_true he)]
      exact H ρ a w hs
    · rename_i he
      injection h with h; obtain ⟨rfl, rfl, rfl⟩ := h
      intro ρ a w hs
      simp only [den]
      rw [if_neg (by intro e; exact he (by rw [e]; exact Nat.beq_refl _))]
      exact H ρ a w hs
  · injection h with h; obtain ⟨rfl, rfl, rfl⟩ := h; exact fun ρ a w hs => H ρ a w hs
  · cases h
def run (P : Program) : Nat → Cur → List CK → S → Option (Cur × List CK × S)
  | 0, c, k, s => some (c, k, s)
  | n + 1, c, k, s => match step P c k s with
    | some (c', k', s') => run P n c' k' s'
    | none => none
theorem run_ok : ∀ {n : Nat} {cur : Cur} {k : List CK} {s : S}, run C.P n cur k s = some (cur', k', s') → X C cur' k' s' R G → X C cur k s R G
  | 0, cur, k, s, h, H => by
    simp only [run, Option.some.injEq, Prod.mk.injEq] at h
    obtain ⟨rfl, rfl, rfl⟩ := h
    exact H
  | n + 1, cur, k, s, h, H => by
    simp only [run] at h
    split at h
    · rename_i c1 k1 s1 h1
      exact step_ok h1 (run_ok h H)
    · cases h
/-- Some of what is known. -/
def pickL {β : Type} (l : List (Nat × β)) : List Nat → List (Nat × β)
  | [] => []
  | i :: r => match lk l i with
    | some x => (i, x) :: pickL l r
    | none => pickL l r
theorem pickL_lk {β : Type} {l : List (Nat × β)} {ids : List Nat} {i : Nat} {x : β} (h : lk (pickL l ids) i = some x) : lk l i = some x := by
  induction ids with
  | nil => simp [pickL, lk] at h
  | cons j r ih =>
    simp only [pickL] at h
    split at h
    · rename_i y hy
      rw [lk_cons] at h
      by_cases e : j = i
      · subst e
        rw [if_pos rfl] at h
        injection h with h
        subst h
        exact hy
      · rw [if_neg e] at h
        exact ih h
    · exact ih h
def S.only (s : S) (ids bids : List Nat) : S := ⟨s.n, pickL s.tmps ids, pickL s.boxes bids⟩
theorem St.sub {w0 w : World} {M : Mk} {ρ : Nat → Nat} {a : Act} {s s' : S} {R' : List (Nat × Row)} (h : St w0 M ρ G R s a w) (hn : s'.n = s.n) (ht : ∀ i x, lk s'.tmps i = some x → lk s.tmps i = some x) (hb : ∀ i x, lk s'.boxes i = some x → lk s.boxes i = some x) (hR : ∀ i r, lk R' i = some r → lk R i = some r) : St w0 M ρ G R' s' a w :=
  ⟨fun i x hi => h.tm i x (ht i x hi), h.sz.trans hn.symm, h.df, fun i b hi => h.bx i b (hb i b hi), fun i b hi => h.bo i b (hb i b hi), fun i j b c hi hj e => h.bi i j b c (hb i b hi) (hb j c hj) e,
    fun i r hi => h.rw i r (hR i r hi), fun i r k hi hk => h.ro i r k (hR i r hi) hk, fun i j r q k hi hj h1 h2 => h.ri i j r q k (hR i r hi) (hR j q hj) h1 h2, fun i j r b hi hj => h.rb i j r b (hR i r hi) (hb j b hj), h.g, fun k o j b hk hj => h.gb k o j b hk (hb j b hj), fun k o i r hk hi => h.gr k o i r hk (hR i r hi), h.fr, h.pn⟩
theorem X.sub {s' : S} {R' : List (Nat × Row)} (hn : s'.n = s.n) (ht : ∀ i x, lk s'.tmps i = some x → lk s.tmps i = some x) (hb : ∀ i x, lk s'.boxes i = some x → lk s.boxes i = some x) (hR : ∀ i r, lk R' i = some r → lk R i = some r) (H : X C cur k s' R' G) : X C cur k s R G :=
  fun ρ a w hs => H ρ a w (hs.sub hn ht hb hR)
theorem X.only {ids bids : List Nat} (H : X C cur k (s.only ids bids) R G) : X C cur k s R G :=
  X.sub (s' := s.only ids bids) rfl (fun _ _ h => pickL_lk (ids := ids) h) (fun _ _ h => pickL_lk (ids := bids) h) (fun _ _ h => h) H
/-- So many steps, and what is known then, of these slots and boxes. -/
theorem X.run (n : Nat) (ids bids : List Nat) (cur' : Cur) (k' : List CK) (s' : S) (h : (run C.P n cur k s).map (fun r => (r.1, r.2.1, r.2.2.only ids bids)) = some (cur', k', s')) (H : X C cur' k' s' R G) : X C cur k s R G := by
  obtain ⟨⟨c1, k1, s1⟩, h1, h2⟩ := Option.map_eq_some_iff.mp h
  simp only [Prod.mk.injEq] at h2
  obtain ⟨rfl, rfl, rfl⟩ := h2
  exact run_ok h1 (X.only H)
end
end Go.Proofs.YthpinlcfcgnilaaX
