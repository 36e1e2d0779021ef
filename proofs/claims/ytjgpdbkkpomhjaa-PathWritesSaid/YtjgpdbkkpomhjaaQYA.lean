/- A part of a law's proof. Conditions: none. -/
import Derived.WalkKit
import Derived.ProofKit
import Derived.Deep.LoopGhost
import Derived.Maps.AppendAt
import Derived.Laws.BytesString
namespace Go.Proofs.YtjgpdbkkpomhjaaX
open Go.RowKit
set_option linter.unusedVariables false
set_option linter.unusedSimpArgs false
def spure {α : Type} (P : Program) : Sem α → Option α
  | .pure a => some a
  | .program k => spure P (k P)
  | .mark _ k => spure P k
  | _ => none
theorem spure_run {α : Type} {P : Program} : ∀ {s : Sem α} {a : α}, spure P s = some a → ∀ w, s.run P w = .ok a w := by
  intro s
  induction s with
  | pure b => intro a h w; simp only [spure, Option.some.injEq] at h; subst h; rfl
  | program k ih => intro a h w; exact ih P (by simpa [spure] using h) w
  | mark m k ih => intro a h w; exact ih (by simpa [spure] using h) w
  | _ => intro a h; simp [spure] at h
inductive AV where
  | v (x : Value)
  | own (b o : Nat)
  | fn (f : FuncId) (caps : List (Nat × Nat))
  | mth (f : FuncId) (b o : Nat)
structure Box where
  t : TypeId
  cells : List AV
structure S where
  n : Nat
  tmps : List (Nat × AV)
  boxes : List (Nat × Box)
structure Row where
  e : TypeId
  size : Nat
  v : Value
  n : Nat
  cells : List Value
abbrev Mem := Nat → Option Obj
def lk {β : Type} : List (Nat × β) → Nat → Option β
  | [], _ => none
  | (j, x) :: r, i => if Nat.beq j i then some x else lk r i
theorem lk_cons {β : Type} (j : Nat) (x : β) (r : List (Nat × β)) (i : Nat) : lk ((j, x) :: r) i = if j = i then some x else lk r i := by
  rw [lk]
  by_cases h : j = i
  · rw [if_pos (by rw [h]; exact Nat.beq_refl i), if_pos h]
  · rw [if_neg (fun hh => h (Nat.eq_of_beq_eq_true hh)), if_neg h]
def ptr (b o : Nat) : Value := .pointer (some ⟨b, o, none⟩)
def AV.real (ρ : Nat → Nat) : AV → Value
  | .v x => x
  | .own b o => ptr (ρ b) o
  | .fn f cs => .func (.func f) #[] (cs.map fun p => ptr (ρ p.1) p.2).toArray
  | .mth f b o => .func (.func f) #[ptr (ρ b) o] #[]
def Box.obj (ρ : Nat → Nat) (b : Box) : Obj := .cells (b.cells.map (AV.real ρ)).toArray b.t (0, 0)
def S.ev (s : S) : Operand → Option AV
  | .tmp t => lk s.tmps t
  | .const v => some (.v v)
  | .func f => some (.fn f [])
  | .global g => some (.v (.pointer (some ⟨g, 0, none⟩)))
def S.put (s : S) (d : Option Nat) (x : AV) : S :=
  match d with
  | some d => { s with tmps := (d, x) :: s.tmps }
  | none => s
def S.can (s : S) (d : Option Nat) : Bool :=
  match d with
  | some d => Nat.blt d s.n
  | none => true
structure Fr (w0 : World) (M : Nat → Prop) (w : World) : Prop where
  os : w.os = w0.os
  tape : w.tape = w0.tape
  output : w.output = w0.output
  size : w0.heap.size ≤ w.heap.size
  block : ∀ k, k < w0.heap.size → ¬ M k → w.heap[k]? = w0.heap[k]?
theorem Fr.refl (w0 : World) (M : Nat → Prop) : Fr w0 M w0 := ⟨rfl, rfl, rfl, Nat.le_refl _, fun _ _ _ => rfl⟩
theorem Fr.below {w0 w : World} {M : Nat → Prop} (h : Fr w0 M w) (hM : ∀ k, ¬ M k) : Below w0.heap.size w0 w := ⟨h.os, h.tape, h.output, h.size, fun k hk => h.block k hk (hM k)⟩
structure Md (S : Nat → Prop) (w w' : World) : Prop where
  os : w'.os = w.os
  tape : w'.tape = w.tape
  output : w'.output = w.output
  size : w.heap.size ≤ w'.heap.size
  block : ∀ k, k < w.heap.size → ¬ S k → w'.heap[k]? = w.heap[k]?
theorem Md.of_below {w w' : World} (h : Below w.heap.size w w') (S : Nat → Prop) : Md S w w' := ⟨h.os, h.tape, h.output, h.size, fun k hk _ => h.block k hk⟩
theorem Md.of_grown {w w' : World} {row : Option Nat} (h : w.grownBy w' row) : Md (fun k => row = some k) w w' := ⟨h.os, h.tape, h.output, h.size, fun k hk hn => h.block k hk (fun e => hn e.symm)⟩
theorem Fr.md {w0 w w' : World} {M S : Nat → Prop} (h : Fr w0 M w) (k : Md S w w') (hS : ∀ i, S i → w0.heap.size ≤ i ∨ M i) : Fr w0 M w' :=
  ⟨k.os.trans h.os, k.tape.trans h.tape, k.output.trans h.output, Nat.le_trans h.size k.size, fun i hi hn => (k.block i (Nat.lt_of_lt_of_le hi h.size) (fun hs => by rcases hS i hs with h1 | h1; exact absurd hi (by omega); exact hn h1)).trans (h.block i hi hn)⟩
structure Mk where
  can : Nat → Prop
  pin : Nat → Option Nat
structure St (w0 : World) (M : Mk) (ρ : Nat → Nat) (G : Mem) (R : List (Nat × Row)) (s : S) (a : Act) (w : World) : Prop where
  tm : ∀ i x, lk s.tmps i = some x → a.tmps[i]? = some (x.real ρ)
  sz : a.tmps.size = s.n
  df : a.defers = []
  bx : ∀ i b, lk s.boxes i = some b → w.heap[ρ i]? = some (b.obj ρ)
  bo : ∀ i b, lk s.boxes i = some b → w0.heap.size ≤ ρ i ∨ M.can (ρ i)
  bi : ∀ i j b c, lk s.boxes i = some b → lk s.boxes j = some c → ρ i = ρ j → i = j
  rw : ∀ i r, lk R i = some r → w.ownsRow 0 r.e r.size r.v r.n r.cells
  ro : ∀ i r k, lk R i = some r → r.v.ownBlock = some k → w0.heap.size ≤ k ∨ M.can k
  ri : ∀ i j r q k, lk R i = some r → lk R j = some q → r.v.ownBlock = some k → q.v.ownBlock = some k → i = j
  rb : ∀ i j r b, lk R i = some r → lk s.boxes j = some b → r.v.ownBlock ≠ some (ρ j)
  g : ∀ k o, G k = some o → w.heap[k]? = some o
  gb : ∀ k o j b, G k = some o → lk s.boxes j = some b → ρ j ≠ k
  gr : ∀ k o i r, G k = some o → lk R i = some r → r.v.ownBlock ≠ some k
  fr : Fr w0 M.can w
  pn : ∀ b g, M.pin b = some g → 1000 ≤ b ∧ ρ b = g
section
variable {w0 w w' : World} {M : Mk} {ρ : Nat → Nat} {G : Mem} {R : List (Nat × Row)} {s : S} {a : Act}
theorem St.ev {x : Operand} {y : AV} (h : St w0 M ρ G R s a w) (hx : s.ev x = some y) : a.eval x = y.real ρ := by
  cases x with
  | tmp t =>
    have := h.tm t y hx
    simp [Act.eval, Array.getD_eq_getD_getElem?, this]
  | const v => simp only [S.ev, Option.some.injEq] at hx; subst hx; rfl
  | func f => simp only [S.ev, Option.some.injEq] at hx; subst hx; rfl
  | global g => simp only [S.ev, Option.some.injEq] at hx; subst hx; rfl
theorem St.put {d : Option Nat} {x : AV} (h : St w0 M ρ G R s a w) (hd : s.can d = true) : St w0 M ρ G R (s.put d x) (a.put d (x.real ρ)) w := by
  cases d with
  | none => exact h
  | some d =>
    have hlt : d < s.n := Nat.blt_eq.mp hd
    refine ⟨fun i y hy => ?_, ?_, h.df, h.bx, h.bo, h.bi, h.rw, h.ro, h.ri, h.rb, h.g, h.gb, h.gr, h.fr, h.pn⟩
    · simp only [S.put, lk_cons] at hy
      by_cases e : d = i
      · subst e
        rw [if_pos rfl] at hy
        injection hy with hy
        subst hy
        simp [Act.put, Array.getElem?_setIfInBounds, h.sz, hlt]
      · rw [if_neg e] at hy
        simp [Act.put, Array.getElem?_setIfInBounds, e, h.tm i y hy]
    · simp [Act.put, S.put, h.sz]
theorem St.keep {Z : Nat → Prop} (h : St w0 M ρ G R s a w) (k : Md Z w w') (hZ : ∀ i, Z i → (w0.heap.size ≤ i ∨ M.can i)) (hb : ∀ i b, lk s.boxes i = some b → ¬ Z (ρ i)) (hr : ∀ i r q, lk R i = some r → r.v.ownBlock = some q → ¬ Z q) (hg : ∀ q o, G q = some o → ¬ Z q) : St w0 M ρ G R s a w' := by
  have old : ∀ {q : Nat} {o : Obj}, w.heap[q]? = some o → ¬ Z q → w'.heap[q]? = some o := fun {q o} hq hn => (k.block q (Array.getElem?_eq_some_iff.1 hq).1 hn).trans hq
  refine ⟨h.tm, h.sz, h.df, fun i b hi => old (h.bx i b hi) (hb i b hi), h.bo, h.bi, fun i r hi => ?_, h.ro, h.ri, h.rb, fun q o hq => old (h.g q o hq) (hg q o hq), h.gb, h.gr, h.fr.md k hZ, h.pn⟩
  obtain ⟨h1, h2⟩ := h.rw i r hi
  refine ⟨h1, ?_⟩
  rcases h2 with h2 | ⟨g, cap, cur, hv, hb', hh, rest⟩
  · exact .inl h2
  · exact .inr ⟨g, cap, cur, hv, hb', old hh (hr i r g hi (by rw [hv]; rfl)), rest⟩
theorem St.below (h : St w0 M ρ G R s a w) (k : Below w.heap.size w w') : St w0 M ρ G R s a w' :=
  h.keep (Z := fun _ => False) (Md.of_below k _) (fun _ h => h.elim) (fun _ _ _ h => h) (fun _ _ _ _ _ h => h) (fun _ _ _ h => h)
theorem St.b_lt {i : Nat} {b : Box} (h : St w0 M ρ G R s a w) (hi : lk s.boxes i = some b) : ρ i < w.heap.size := (Array.getElem?_eq_some_iff.1 (h.bx i b hi)).1
theorem St.r_lt {i q : Nat} {r : Row} (h : St w0 M ρ G R s a w) (hi : lk R i = some r) (hq : r.v.ownBlock = some q) : q < w.heap.size := ((h.rw i r hi).lt q hq).2
theorem St.g_lt {q : Nat} {o : Obj} (h : St w0 M ρ G R s a w) (hq : G q = some o) : q < w.heap.size := (Array.getElem?_eq_some_iff.1 (h.g q o hq)).1
def AV.far (d : Nat) : AV → Bool
  | .v _ => true
  | .own b _ => !Nat.beq b d
  | .fn _ cs => cs.all fun p => !Nat.beq p.1 d
  | .mth _ b _ => !Nat.beq b d
def S.fresh (s : S) (d : Nat) : Bool := Nat.blt d 1000 && (lk s.boxes d).isNone && s.tmps.all (fun p => p.2.far d) && s.boxes.all (fun p => p.2.cells.all (AV.far d))
def upd (ρ : Nat → Nat) (d g : Nat) : Nat → Nat := fun i => if i = d then g else ρ i
theorem AV.real_far {d g : Nat} {x : AV} (h : x.far d = true) : x.real (upd ρ d g) = x.real ρ := by
  cases x with
  | v x => rfl
  | own b o =>
    simp only [AV.far, Bool.not_eq_true'] at h
    have : b ≠ d := fun e => by rw [e, Nat.beq_refl] at h; cases h
    simp [AV.real, upd, this]
  | mth f b o =>
    simp only [AV.far, Bool.not_eq_true'] at h
    have : b ≠ d := fun e => by rw [e, Nat.beq_refl] at h; cases h
    simp [AV.real, upd, this]
  | fn f cs =>
    simp only [AV.far, List.all_eq_true] at h
    simp only [AV.real]
    congr 2
    refine List.map_congr_left fun p hp => ?_
    have := h p hp
    simp only [Bool.not_eq_true'] at this
    have : p.1 ≠ d := fun e => by rw [e, Nat.beq_refl] at this; cases this
    simp [upd, this]
theorem map_real_far {d g : Nat} {l : List AV} (h : l.all (AV.far d) = true) : l.map (AV.real (upd ρ d g)) = l.map (AV.real ρ) :=
  List.map_congr_left fun x hx => AV.real_far (List.all_eq_true.mp h x hx)
theorem lk_mem {β : Type} {l : List (Nat × β)} {i : Nat} {x : β} (h : lk l i = some x) : (i, x) ∈ l := by
  induction l with
  | nil => simp [lk] at h
  | cons p r ih =>
    obtain ⟨j, y⟩ := p
    rw [lk_cons] at h
    by_cases e : j = i
    · rw [if_pos e] at h
      injection h with h
      subst e h
      exact List.mem_cons_self
    · rw [if_neg e] at h
      exact List.mem_cons_of_mem _ (ih h)
theorem md_alloc (w : World) (o : Obj) (Z : Nat → Prop) : Md Z w (w.alloc o) := ⟨rfl, rfl, rfl, by simp, fun k hk _ => heap_alloc_old w o hk⟩
theorem St.alloc {o : Obj} (h : St w0 M ρ G R s a w) : St w0 M ρ G R s a (w.alloc o) :=
  h.keep (md_alloc w o (fun _ => False)) (fun _ h => h.elim) (fun _ _ _ h => h) (fun _ _ _ _ _ h => h) (fun _ _ _ h => h)
theorem St.box {d : Nat} {t : TypeId} {cells : List AV} (h : St w0 M ρ G R s a w) (hd : s.fresh d = true) (hc : cells.all (AV.far d) = true) :
    St w0 M (upd ρ d w.heap.size) G R { s with boxes := (d, ⟨t, cells⟩) :: s.boxes } a (w.alloc (.cells (cells.map (AV.real ρ)).toArray t)) := by
  have h1 := h.alloc (o := .cells (cells.map (AV.real ρ)).toArray t)
  simp only [S.fresh, Bool.and_eq_true, List.all_eq_true] at hd
  have hbx : ∀ i b, lk s.boxes i = some b → i ≠ d ∧ b.cells.all (AV.far d) = true := fun i b hi => by
    refine ⟨fun e => ?_, ?_⟩
    · subst e
      rw [hi] at hd
      simp at hd
    · exact List.all_eq_true.mpr (hd.2 _ (lk_mem hi))
  have hnew : ∀ i, i ≠ d → upd ρ d w.heap.size i = ρ i := fun i hi => if_neg hi
  have hd' : upd ρ d w.heap.size d = w.heap.size := if_pos rfl
  refine ⟨fun i x hi => ?_, h1.sz, h1.df, fun i b hi => ?_, fun i b hi => ?_, fun i j b c hi hj e => ?_, h1.rw, h1.ro, h1.ri, fun i j r b hi hj => ?_, h1.g, fun k o j b hk hj => ?_, h1.gr, h1.fr, fun b g hb => ?_⟩
  · rw [h.tm i x hi, AV.real_far (hd.1.2 _ (lk_mem hi))]
  · rw [lk_cons] at hi
    by_cases e : d = i
    · subst e
      rw [if_pos rfl] at hi
      injection hi with hi
      subst hi
      rw [hd', Box.obj, map_real_far hc]
      exact heap_alloc_new w _
    · rw [if_neg e] at hi
      rw [hnew i (Ne.symm e), Box.obj, map_real_far (hbx i b hi).2]
      exact h1.bx i b hi
  · rw [lk_cons] at hi
    by_cases e : d = i
    · subst e
      rw [hd']
      exact .inl h.fr.size
    · rw [if_neg e] at hi
      rw [hnew i (Ne.symm e)]
      exact h.bo i b hi
  · rw [lk_cons] at hi hj
    by_cases ei : d = i
    · by_cases ej : d = j
      · exact ei.symm.trans ej
      · subst ei
        rw [if_neg ej] at hj
        rw [hd', hnew j (Ne.symm ej)] at e
        have := h.b_lt hj
        omega
    · rw [if_neg ei] at hi
      by_cases ej : d = j
      · subst ej
        rw [hd', hnew i (Ne.symm ei)] at e
        have := h.b_lt hi
        omega
      · rw [if_neg ej] at hj
        rw [hnew i (Ne.symm ei), hnew j (Ne.symm ej)] at e
        exact h.bi i j b c hi hj e
  · rw [lk_cons] at hj
    by_cases e : d = j
    · subst e
      rw [hd']
      intro hq
      have := h.r_lt hi hq
      omega
    · rw [if_neg e] at hj
      rw [hnew j (Ne.symm e)]
      exact h.rb i j r b hi hj
  · rw [lk_cons] at hj
    by_cases e : d = j
    · subst e
      rw [hd']
      have := h.g_lt hk
      omega
    · rw [if_neg e] at hj
      rw [hnew j (Ne.symm e)]
      exact h.gb k o j b hk hj
  · obtain ⟨h2, h3⟩ := h1.pn b g hb
    have hlt := Nat.blt_eq.mp hd.1.1.1
    exact ⟨h2, (hnew b (by omega)).trans h3⟩
def one : Value → Bool
  | .agg _ => false
  | .tuple _ => false
  | _ => true
theorem one_of {v : Value} (h : one v = true) : v.oneCell' = true := by cases v <;> first | rfl | cases h
theorem add_ptr (g o n : Nat) : (⟨g, o, none⟩ : Addr).add n = ⟨g, o + n, none⟩ := by
  unfold Addr.add
  split <;> simp_all
def splice {β : Type} (l : List β) (o : Nat) (xs : List β) : List β := l.take o ++ xs ++ l.drop (o + xs.length)
theorem map_splice {β γ : Type} (f : β → γ) (l : List β) (o : Nat) (xs : List β) : (splice l o xs).map f = splice (l.map f) o (xs.map f) := by simp [splice, List.map_take, List.map_drop]
theorem md_setRow (w : World) (g : Nat) (cs : Array Value) : Md (fun k => k = g) w (w.setRow g cs) := ⟨rfl, rfl, rfl, by simp [World.setRow], fun k hk hn => by
  simp only [World.setRow, Array.getElem?_modify]
  rw [if_neg (fun e => hn e.symm)]⟩
theorem St.write {d : Nat} {b : Box} {o : Nat} {xs : List AV} (h : St w0 M ρ G R s a w) (hb : lk s.boxes d = some b) (hl : o + xs.length ≤ b.cells.length) :
    St w0 M ρ G R { s with boxes := (d, ⟨b.t, splice b.cells o xs⟩) :: s.boxes } a (w.setRow (ρ d) (splice (b.cells.map (AV.real ρ)) o (xs.map (AV.real ρ))).toArray) := by
  have hd : ∀ i c, lk s.boxes i = some c → i ≠ d → ρ i ≠ ρ d := fun i c hi hn e => hn (h.bi i d c b hi hb e)
  have k := md_setRow w (ρ d) (splice (b.cells.map (AV.real ρ)) o (xs.map (AV.real ρ))).toArray
  have old : ∀ {q : Nat} {o' : Obj}, w.heap[q]? = some o' → q ≠ ρ d → (w.setRow (ρ d) (splice (b.cells.map (AV.real ρ)) o (xs.map (AV.real ρ))).toArray).heap[q]? = some o' := fun {q o'} hq hn => (k.block q (Array.getElem?_eq_some_iff.1 hq).1 hn).trans hq
  refine ⟨h.tm, h.sz, h.df, fun i c hi => ?_, fun i c hi => ?_, fun i j c q hi hj e => ?_, fun i r hi => ?_, h.ro, h.ri, fun i j r c hi hj => ?_, fun q o' hq => old (h.g q o' hq) (fun e => h.gb q o' d b hq hb e.symm), fun q o' j c hq hj => ?_, h.gr, ?_, h.pn⟩
  · rw [lk_cons] at hi
    by_cases e : d = i
    · subst e
      rw [if_pos rfl] at hi
      injection hi with hi
      subst hi
      have := setRow_heap w (ρ d) (b.cells.map (AV.real ρ)).toArray (splice (b.cells.map (AV.real ρ)) o (xs.map (AV.real ρ))).toArray b.t (0, 0) (h.bx d b hb)
      rw [this, Box.obj, map_splice]
    · rw [if_neg e] at hi
      exact old (h.bx i c hi) (hd i c hi (Ne.symm e))
  · rw [lk_cons] at hi
    by_cases e : d = i
    · subst e; exact h.bo d b hb
    · rw [if_neg e] at hi; exact h.bo i c hi
  · have hx : ∀ i c, lk ((d, (⟨b.t, splice b.cells o xs⟩ : Box)) :: s.boxes) i = some c → ∃ c', lk s.boxes i = some c' := fun i c hi => by
      rw [lk_cons] at hi
      by_cases e : d = i
      · subst e; exact ⟨b, hb⟩
      · rw [if_neg e] at hi; exact ⟨c, hi⟩
    obtain ⟨c', hc⟩ := hx i c hi
    obtain ⟨q', hq⟩ := hx j q hj
    exact h.bi i j c' q' hc hq e
  · obtain ⟨h1, h2⟩ := h.rw i r hi
    refine ⟨h1, ?_⟩
    rcases h2 with h2 | ⟨g, cap, cur, hv, hb', hh, rest⟩
    · exact .inl h2
    · exact .inr ⟨g, cap, cur, hv, hb', old hh (fun e => h.rb i d r b hi hb (by rw [hv, ← e]; rfl)), rest⟩
  · rw [lk_cons] at hj
    by_cases e : d = j
    · subst e; exact h.rb i d r b hi hb
    · rw [if_neg e] at hj; exact h.rb i j r c hi hj
  · rw [lk_cons] at hj
    by_cases e : d = j
    · subst e; exact h.gb q o' d b hq hb
    · rw [if_neg e] at hj; exact h.gb q o' j c hq hj
  · exact h.fr.md k (fun i hi => by subst hi; exact h.bo d b hb)
end
def S.real (s : S) : Operand → Value := fun x => match s.ev x with
  | some (.v z) => z
  | _ => undef
def S.plain (s : S) (x : Operand) : Bool := match s.ev x with
  | some (.v _) => true
  | _ => false
def S.box (s : S) (d : Option Nat) (t : TypeId) (cells : List AV) : Option S :=
  match d with
  | some d => if s.can (some d) && (s.fresh d && cells.all (AV.far d)) then some { s with tmps := (d, .own d 0) :: s.tmps, boxes := (d, ⟨t, cells⟩) :: s.boxes } else none
  | none => none
def cellsOfAV : AV → List AV
  | .v z => z.cells.toList.map .v
  | x => [x]
def plainAll : List AV → Option (List Value)
  | [] => some []
  | .v z :: r => (plainAll r).map (z :: ·)
  | _ :: _ => none
def oneAV : AV → Bool
  | .v z => one z
  | _ => true
def isPure : Op → Bool
  | .binOp .. | .unOp .. | .convert .. | .extract .. | .index .. | .field .. | .build .. | .fieldAddr .. | .indexAddr .. | .slice .. => true
  | .call { callee := .builtin b, .. } => (match b with | .len | .cap | .min | .max => true | _ => false)
  | _ => false
def operandsOf : Op → List Operand
  | .binOp _ _ x y _ => [x, y]
  | .unOp _ _ x => [x]
  | .convert _ _ x => [x]
  | .extract x _ => [x]
  | .index _ x y => [x, y]
  | .field _ x _ => [x]
  | .build _ ps => ps.toList.map (·.2)
  | .fieldAddr _ x _ => [x]
  | .indexAddr _ x y => [x, y]
  | .slice _ x l h m => x :: (l.toList ++ h.toList ++ m.toList)
  | .call c => c.args.toList
  | _ => []
def pureStep (P : Program) (o : Oper) (s : S) : Option S :=
  if isPure o.op && (s.can o.dst && (operandsOf o.op).all s.plain) then
    match spure P (execOp s.real o) with
    | some (.value z) => some (s.put o.dst (.v z))
    | _ => none
  else none
def fieldOff (P : Program) (t : TypeId) (f : Nat) : Option Nat :=
  match P.underlying t with
  | some (.struct fs) => match fs[f]? with
    | some fd => match spure P (sizeOf fd.type) with
      | some (_ + 1) => some fd.offset
      | _ => none
    | none => none
  | _ => none
def opStep (P : Program) (o : Oper) (s : S) : Option S :=
  match o.op with
  | .move x | .assign x => match s.ev x with
    | some y => if s.can o.dst then some (s.put o.dst y) else none
    | none => none
  | .pick c x y => match s.ev c, s.ev x, s.ev y with
    | some (.v (.bool true)), some x, some _ => if s.can o.dst then some (s.put o.dst x) else none
    | some (.v (.bool false)), some _, some y => if s.can o.dst then some (s.put o.dst y) else none
    | _, _, _ => none
  | .alloc t => match spure P (zeroValue t) with
    | some z => s.box o.dst t (z.cells.toList.map .v)
    | none => none
  | .box t x => match s.ev x with
    | some y => s.box o.dst t (cellsOfAV y)
    | none => none
  | .load t x => match s.ev x with
    | some (.own b off) => match lk s.boxes b, spure P (isAgg t), spure P (sizeOf t) with
      | some bx, some false, _ => match bx.cells[off]? with
        | some y => if s.can o.dst then some (s.put o.dst y) else none
        | none => none
      | some bx, some true, some n => match plainAll ((bx.cells.drop off).take n) with
        | some l => if s.can o.dst && Nat.ble (off + n) bx.cells.length then some (s.put o.dst (.v (.agg l.toArray))) else none
        | none => none
      | _, _, _ => none
    | _ => none
  | .store t p x => match s.ev p, s.ev x with
    | some (.own b off), some y => match lk s.boxes b, spure P (sizeOf t) with
      | some bx, some n => if Nat.beq (cellsOfAV y).length n && (Nat.ble (off + n) bx.cells.length && ((cellsOfAV y).all oneAV && s.can o.dst)) then
          some ({ s with boxes := (b, ⟨bx.t, splice bx.cells off (cellsOfAV y)⟩) :: s.boxes }.put o.dst (.v undef)) else none
      | _, _ => none
    | _, _ => none
  | .fieldAddr t x f => match s.ev x with
    | some (.own b off) => match fieldOff P t f with
      | some n => if s.can o.dst then some (s.put o.dst (.own b (off + n))) else none
      | none => none
    | _ => pureStep P o s
  | .indexAddr t x i => match s.ev x, s.ev i with
    | some (.own b off), some (.v (.int _ j)) => match P.underlying t with
      | some (.array len e) => match spure P (sizeOf e) with
        | some n => match j with
          | .ofNat j => if Nat.blt j len && s.can o.dst then some (s.put o.dst (.own b (off + j * n))) else none
          | _ => none
        | none => none
      | _ => none
    | _, _ => pureStep P o s
  | .nilCheck x => match s.ev x with
    | some (.own b off) => if s.can o.dst then some (s.put o.dst (.own b off)) else none
    | _ => none
  | .makeFunc (.func f) first caps =>
    if first.size == 0 then
      match (caps.toList.mapM fun x => match s.ev x with | some (.own b off) => some (b, off) | _ => none) with
      | some l => if s.can o.dst then some (s.put o.dst (.fn f l)) else none
      | none => none
    else match first.toList, caps.toList with
      | [x], [] => match s.ev x with
        | some (.own b off) => if s.can o.dst then some (s.put o.dst (.mth f b off)) else none
        | _ => none
      | _, _ => none
  | _ => pureStep P o s
theorem exec_same {f g : Operand → Value} {o : Oper} (hp : isPure o.op = true) (h : ∀ x ∈ operandsOf o.op, f x = g x) : execOp f o = execOp g o := by
  obtain ⟨dst, op, ty, pos, af, gd⟩ := o
  simp only at hp h
  have arr : ∀ (l : Array Operand), (∀ x ∈ l.toList, f x = g x) → l.map f = l.map g := fun l hl => by
    apply Array.map_congr_left
    intro x hx
    exact hl x (Array.mem_toList_iff.mpr hx)
  cases op with
  | binOp b t x y u => simp only [operandsOf] at h; simp [execOp, h x (by simp), h y (by simp)]
  | unOp b t x => simp only [operandsOf] at h; simp [execOp, h x (by simp)]
  | convert b t x => simp only [operandsOf] at h; simp [execOp, h x (by simp)]
  | extract x t => simp only [operandsOf] at h; simp [execOp, h x (by simp)]
  | index t x y => simp only [operandsOf] at h; simp [execOp, h x (by simp), h y (by simp)]
  | field t x y => simp only [operandsOf] at h; simp [execOp, h x (by simp)]
  | fieldAddr t x y => simp only [operandsOf] at h; simp [execOp, h x (by simp)]
  | indexAddr t x y => simp only [operandsOf] at h; simp [execOp, h x (by simp), h y (by simp)]
  | build t ps =>
    simp only [operandsOf] at h
    have : (ps.map fun (i, x) => (i, f x)) = (ps.map fun (i, x) => (i, g x)) := by
      apply Array.map_congr_left
      intro p hp
      obtain ⟨i, x⟩ := p
      simp only [Prod.mk.injEq, true_and]
      exact h x (List.mem_map.mpr ⟨(i, x), Array.mem_toList_iff.mpr hp, rfl⟩)
    simp only [execOp, this]
  | slice t x l hh m =>
    simp only [operandsOf] at h
    have e1 := h x (by simp)
    have e2 : l.map f = l.map g := by cases l with | none => rfl | some y => simp [h y (by simp)]
    have e3 : hh.map f = hh.map g := by cases hh with | none => rfl | some y => simp [h y (by simp)]
    have e4 : m.map f = m.map g := by cases m with | none => rfl | some y => simp [h y (by simp)]
    simp only [execOp, e1, e2, e3, e4]
  | call c =>
    obtain ⟨callee, args, tys⟩ := c
    cases callee with
    | builtin b => simp only [operandsOf] at h; simp only [execOp, resolve, arr args h]
    | value x => simp [isPure] at hp
    | invoke x n => simp [isPure] at hp
  | _ => simp [isPure] at hp
section
variable {P : Program} {w0 w : World} {M : Mk} {ρ : Nat → Nat} {G : Mem} {R : List (Nat × Row)} {s s' : S} {a : Act} {o : Oper} {next : Act → World → Prop} {Q : Exit → Act → World → Prop}
theorem wp_value {z : Value} {w' : World} (hr : (execOp a.eval o).run P w = .ok (.value z) w') (h : next (a.put o.dst z) w') : o.wp P a w next Q := by
  unfold Oper.wp
  rw [hr]
  exact h
theorem wp_skip' {w' : World} (hr : (execOp a.eval o).run P w = .ok .skip w') (h : next (a.put o.dst undef) w') : o.wp P a w next Q := by
  unfold Oper.wp
  rw [hr]
  exact h
theorem S.plain_real {x : Operand} (h : s.plain x = true) : ∃ z, s.ev x = some (.v z) ∧ s.real x = z := by
  unfold S.plain at h
  unfold S.real
  split at h
  · rename_i z hz; exact ⟨z, hz, rfl⟩
  · cases h
theorem pureStep_ok (h : pureStep P o s = some s') (hs : St w0 M ρ G R s a w) (hk : ∀ ρ' a' w', St w0 M ρ' G R s' a' w' → next a' w') : o.wp P a w next Q := by
  unfold pureStep at h
  split at h
  · rename_i hc
    simp only [Bool.and_eq_true, List.all_eq_true] at hc
    split at h
    · rename_i z hz
      injection h with h
      subst h
      have he : execOp a.eval o = execOp s.real o := exec_same hc.1 (fun x hx => by
        obtain ⟨z, h1, h2⟩ := S.plain_real (hc.2.2 x hx)
        rw [h2]
        exact hs.ev h1)
      refine wp_value (by rw [he]; exact spure_run hz w) (hk ρ _ _ ?_)
      exact hs.put (x := .v z) hc.2.1
    · cases h
  · cases h
theorem run_bind_ok {α β : Type} {s : Sem α} {f : α → Sem β} {x : α} {w w' : World} (h : s.run P w = .ok x w') : (s >>= f).run P w = (f x).run P w' := by
  rw [show (s >>= f).run P w = (s.run P w).andThen (fun y w => (f y).run P w) from Sem.run_bind ..]
  rw [h]
  rfl
theorem cells_real (y : AV) : (cellsOfAV y).map (AV.real ρ) = (y.real ρ).cells.toList := by
  cases y with
  | v z => simp [cellsOfAV, AV.real, Function.comp_def]
  | own b o => rfl
  | mth f b o => rfl
  | fn f cs => rfl
theorem St.newBox {d : Option Nat} {t : TypeId} {cells : List AV} {ty : Value} (hs : St w0 M ρ G R s a w) (h : s.box d t cells = some s') (hk : ∀ ρ' a' w', St w0 M ρ' G R s' a' w' → next a' w') :
    next (a.put d (ptr w.heap.size 0)) (w.alloc (.cells (cells.map (AV.real ρ)).toArray t)) := by
  unfold S.box at h
  cases d with
  | none => cases h
  | some d =>
    simp only at h
    split at h
    · rename_i hc
      simp only [Bool.and_eq_true] at hc
      injection h with h
      subst h
      have h1 := hs.box (t := t) hc.2.1 hc.2.2
      have h2 := h1.put (d := some d) (x := .own d 0) hc.1
      have : (AV.own d 0).real (upd ρ d w.heap.size) = ptr w.heap.size 0 := by simp [AV.real, upd]
      rw [this] at h2
      exact hk _ _ _ h2
    · cases h
theorem plainAll_eq {l : List AV} {vs : List Value} (h : plainAll l = some vs) : l.map (AV.real ρ) = vs := by
  induction l generalizing vs with
  | nil => simp only [plainAll, Option.some.injEq] at h; subst h; rfl
  | cons x r ih =>
    cases x with
    | v z =>
      simp only [plainAll, Option.map_eq_some_iff] at h
      obtain ⟨vs', h1, rfl⟩ := h
      simp [AV.real, ih h1]
    | own b o => simp [plainAll] at h
    | fn f c => simp [plainAll] at h
    | mth f b o => simp [plainAll] at h
theorem oneAV_real {y : AV} (h : oneAV y = true) : (y.real ρ).oneCell' = true := by
  cases y with
  | v z => exact one_of h
  | own b o => rfl
  | mth f b o => rfl
  | fn f c => rfl
end
section
variable {P : Program} {w0 w : World} {M : Mk} {ρ : Nat → Nat} {G : Mem} {R : List (Nat × Row)} {s s' : S} {a : Act} {o : Oper} {next : Act → World → Prop} {Q : Exit → Act → World → Prop}
theorem run_v {s : Sem Value} {w w' : World} {z : Value} (h : s.run P w = .ok z w') : (do pure (Next.value (← s)) : Sem Next).run P w = .ok (.value z) w' := by
  rw [run_bind_ok h]
  rfl
theorem take_real {l : List AV} {vs : List Value} {off n : Nat} (h : plainAll ((l.drop off).take n) = some vs) (hn : off + n ≤ l.length) : vs.length = n ∧ ∀ j v, vs[j]? = some v → (l.map (AV.real ρ))[off + j]? = some v := by
  have e := plainAll_eq (ρ := ρ) h
  refine ⟨?_, fun j v hj => ?_⟩
  · rw [← e]; simp; omega
  · rw [← e] at hj
    rw [List.getElem?_map, List.getElem?_take] at hj
    split at hj
    · rw [List.getElem?_drop] at hj
      rw [List.getElem?_map]
      exact hj
    · simp at hj
theorem load_one {b off t : Nat} {bx : Box} {y : AV} (hs : St w0 M ρ G R s a w) (hb : lk s.boxes b = some bx) (ht : spure P (isAgg t) = some false) (hy : bx.cells[off]? = some y) : (Instr.loadAt t (ptr (ρ b) off)).run P w = .ok (y.real ρ) w := by
  have hc : w.cell? ⟨ρ b, off, none⟩ = some (y.real ρ) := by
    rw [cell_of_row w (ρ b) off _ _ _ (hs.bx b bx hb)]
    simp [hy]
  have h1 : (Instr.sureAddr (ptr (ρ b) off)).run P w = .ok ⟨ρ b, off, none⟩ w := rfl
  unfold Instr.loadAt
  rw [run_bind_ok h1]
  unfold loadVar
  rw [run_bind_ok (spure_run ht w)]
  simp [load, Sem.run, hc]
theorem load_all {b off t n : Nat} {bx : Box} {l : List Value} (hs : St w0 M ρ G R s a w) (hb : lk s.boxes b = some bx) (ht : spure P (isAgg t) = some true) (hn : spure P (sizeOf t) = some n) (hl : plainAll ((bx.cells.drop off).take n) = some l) (hle : off + n ≤ bx.cells.length) : (Instr.loadAt t (ptr (ρ b) off)).run P w = .ok (.agg l.toArray) w := by
  have h1 : (Instr.sureAddr (ptr (ρ b) off)).run P w = .ok ⟨ρ b, off, none⟩ w := rfl
  obtain ⟨hlen, hget⟩ := take_real (ρ := ρ) hl hle
  have hc : (loadCells ⟨ρ b, off, none⟩ n).run P w = .ok l.toArray w := by
    rw [← hlen]
    refine run_loadCells_list (cs := l) (a := ⟨ρ b, off, none⟩) (h := fun j v hj => ?_) ..
    rw [add_ptr, cell_of_row w (ρ b) (off + j) _ _ _ (hs.bx b bx hb)]
    simpa using hget j v hj
  unfold Instr.loadAt
  rw [run_bind_ok h1]
  unfold loadVar
  rw [run_bind_ok (spure_run ht w)]
  simp only [if_true]
  rw [run_bind_ok (spure_run hn w), run_bind_ok hc]
  rfl
theorem store_all {b off t n : Nat} {bx : Box} {y : AV} (hs : St w0 M ρ G R s a w) (hb : lk s.boxes b = some bx) (hn : spure P (sizeOf t) = some n) (hy : (cellsOfAV y).length = n) (hle : off + n ≤ bx.cells.length) (h1 : (cellsOfAV y).all oneAV = true) :
    (Instr.storeAt t (ptr (ρ b) off) (y.real ρ)).run P w = .ok () (w.setRow (ρ b) (splice (bx.cells.map (AV.real ρ)) off ((cellsOfAV y).map (AV.real ρ))).toArray) := by
  have h0 : (Instr.sureAddr (ptr (ρ b) off)).run P w = .ok ⟨ρ b, off, none⟩ w := rfl
  have hcells : (y.real ρ).cells.size = n := by
    have := congrArg List.length (cells_real (ρ := ρ) y)
    simp only [List.length_map, Array.length_toList] at this
    omega
  unfold Instr.storeAt
  rw [run_bind_ok h0]
  unfold storeVar
  rw [run_bind_ok (spure_run hn w)]
  simp only [hcells, ne_eq, not_true_eq_false, if_false]
  have hone : ∀ v ∈ (y.real ρ).cells.toList, v.oneCell' = true := by
    rw [← cells_real]
    intro v hv
    obtain ⟨x, hx, rfl⟩ := List.mem_map.mp hv
    exact oneAV_real (List.all_eq_true.mp h1 x hx)
  have := run_storeCells_at P (ρ b) off bx.t (y.real ρ).cells.toList 0 _ w (hs.bx b bx hb) (by simp; omega) hone
  simp only [Nat.add_zero] at this
  rw [this, cells_real]
  rfl
theorem field_run {t f n : Nat} {g off : Nat} (h : fieldOff P t f = some n) : (Instr.fieldAt t (ptr g off) f).run P w = .ok (ptr g (off + n)) w := by
  unfold fieldOff at h
  split at h
  · rename_i fs hu
    split at h
    · rename_i fd hf
      split at h
      · rename_i m hm
        injection h with h
        subst h
        unfold Instr.fieldAt
        rw [run_bind_ok (run_underlying hu w)]
        simp only [hf]
        have h0 : (Instr.sureAddr (ptr g off)).run P w = .ok ⟨g, off, none⟩ w := rfl
        rw [run_bind_ok h0]
        have h2 : (fieldPlace ⟨g, off, none⟩ fd).run P w = .ok ⟨g, off + fd.offset, none⟩ w := by
          unfold fieldPlace
          rw [run_bind_ok (spure_run hm w)]
          simp only [Nat.add_eq_zero_iff, Nat.one_ne_zero, and_false, if_false, add_ptr]
          rfl
        rw [run_bind_ok h2]
        rfl
      · cases h
    · cases h
  · cases h
theorem index_run {t e len n j : Nat} {g off : Nat} {k : IntKind} (hu : P.underlying t = some (.array len e)) (hn : spure P (sizeOf e) = some n) (hj : j < len) : (Instr.indexAt t (ptr g off) (.int k (j : Int))).run P w = .ok (ptr g (off + j * n)) w := by
  unfold Instr.indexAt
  have h0 : (asIntOf (.int k (j : Int))).run P w = .ok (k, (j : Int)) w := rfl
  rw [run_bind_ok h0]
  simp only
  rw [run_bind_ok (run_underlying hu w)]
  simp only
  have h1 : (Instr.sureAddr (ptr g off)).run P w = .ok ⟨g, off, none⟩ w := rfl
  rw [run_bind_ok h1, run_bind_ok (show (pure (some (⟨g, off, none⟩ : Addr), len, e) : Sem (Option Addr × Nat × TypeId)).run P w = .ok _ w from rfl)]
  simp only
  rw [run_bind_ok (run_underlying hu w)]
  simp only
  have h2 : (0 : Int) ≤ (j : Int) ∧ (j : Int) < (len : Int) := ⟨by omega, by omega⟩
  simp only [h2, and_self, if_true]
  rw [run_bind_ok (spure_run hn w)]
  simp only [Int.toNat_natCast, add_ptr]
  rfl
end
section
variable {P : Program} {w0 w : World} {M : Mk} {ρ : Nat → Nat} {G : Mem} {R : List (Nat × Row)} {s s' : S} {a : Act} {o : Oper} {next : Act → World → Prop} {Q : Exit → Act → World → Prop}
theorem alloc_run {t : TypeId} {z : Value} (hz : spure P (zeroValue t) = some z) : (Instr.alloc t true (.tuple #[])).run P w = .ok (ptr w.heap.size 0) (w.alloc (.cells z.cells t)) := by
  unfold Instr.alloc
  rw [run_bind_ok (spure_run hz w)]
  rfl
theorem opStep_ok (h : opStep P o s = some s') (hs : St w0 M ρ G R s a w) (hk : ∀ ρ' a' w', St w0 M ρ' G R s' a' w' → next a' w') : o.wp P a w next Q := by
  obtain ⟨dst, op, ty, pos, af, gd⟩ := o
  cases op with
  | move x =>
    simp only [opStep] at h
    split at h
    · rename_i y hy
      split at h
      · rename_i hc
        injection h with h
        subst h
        exact wp_value (z := a.eval x) rfl (by rw [hs.ev hy]; exact hk ρ _ _ (hs.put hc))
      · cases h
    · cases h
  | assign x =>
    simp only [opStep] at h
    split at h
    · rename_i y hy
      split at h
      · rename_i hc
        injection h with h
        subst h
        exact wp_value (z := a.eval x) rfl (by rw [hs.ev hy]; exact hk ρ _ _ (hs.put hc))
      · cases h
    · cases h
  | pick c x y =>
    simp only [opStep] at h
    split at h
    · rename_i x' y' hcc hx hy
      split at h
      · rename_i hc
        injection h with h
        subst h
        have e : a.eval c = .bool true := hs.ev hcc
        exact wp_value (z := a.eval x) (by simp only [execOp, e]; rfl) (by rw [hs.ev hx]; exact hk ρ _ _ (hs.put hc))
      · cases h
    · rename_i x' y' hcc hx hy
      split at h
      · rename_i hc
        injection h with h
        subst h
        have e : a.eval c = .bool false := hs.ev hcc
        exact wp_value (z := a.eval y) (by simp only [execOp, e]; rfl) (by rw [hs.ev hy]; exact hk ρ _ _ (hs.put hc))
      · cases h
    · cases h
  | alloc t =>
    simp only [opStep] at h
    split at h
    · rename_i z hz
      have e : (z.cells.toList.map AV.v).map (AV.real ρ) = z.cells.toList := by rw [List.map_map]; simp [Function.comp_def, AV.real]
      refine wp_value (z := ptr w.heap.size 0) (w' := w.alloc (.cells z.cells t)) (run_v (alloc_run hz)) ?_
      have := hs.newBox (ty := .nilFunc) h hk
      rw [e] at this
      exact this
    · cases h
  | box t x =>
    simp only [opStep] at h
    split at h
    · rename_i y hy
      refine wp_value (z := ptr w.heap.size 0) (w' := w.alloc (.cells (y.real ρ).cells t)) (by simp only [execOp, hs.ev hy]; rfl) ?_
      have := hs.newBox (ty := .nilFunc) h hk
      rw [cells_real] at this
      exact this
    · cases h
  | load t x =>
    simp only [opStep] at h
    split at h
    · rename_i b off hx
      have e : a.eval x = ptr (ρ b) off := hs.ev hx
      split at h
      · rename_i bx hb ht
        split at h
        · rename_i y hy
          split at h
          · rename_i hc
            injection h with h
            subst h
            exact wp_value (z := y.real ρ) (by simp only [execOp, e]; exact run_v (load_one hs hb ht hy)) (hk ρ _ _ (hs.put hc))
          · cases h
        · cases h
      · rename_i bx n hb ht hn
        split at h
        · rename_i l hl
          split at h
          · rename_i hc
            simp only [Bool.and_eq_true] at hc
            injection h with h
            subst h
            exact wp_value (z := .agg l.toArray) (by simp only [execOp, e]; exact run_v (load_all hs hb ht hn hl (Nat.ble_eq.mp hc.2))) (hk ρ _ _ (hs.put (x := .v (.agg l.toArray)) hc.1))
          · cases h
        · cases h
      · cases h
    · cases h
  | store t p x =>
    simp only [opStep] at h
    split at h
    · rename_i b off y hp hx
      have e : a.eval p = ptr (ρ b) off := hs.ev hp
      have e2 : a.eval x = y.real ρ := hs.ev hx
      split at h
      · rename_i bx n hb hn
        split at h
        · rename_i hc
          simp only [Bool.and_eq_true] at hc
          injection h with h
          subst h
          have hlen : (cellsOfAV y).length = n := Nat.eq_of_beq_eq_true hc.1
          have hle := Nat.ble_eq.mp hc.2.1
          have hrun := store_all (y := y) hs hb hn hlen hle hc.2.2.1
          have hst := hs.write (d := b) (b := bx) (o := off) (xs := cellsOfAV y) hb (by omega)
          refine wp_skip' (w' := w.setRow (ρ b) (splice (bx.cells.map (AV.real ρ)) off ((cellsOfAV y).map (AV.real ρ))).toArray) ?_ (hk ρ _ _ (hst.put (x := .v undef) hc.2.2.2))
          simp only [execOp, e, e2]
          rw [run_bind_ok hrun]
          rfl
        · cases h
      · cases h
    · cases h
  | fieldAddr t x f =>
    simp only [opStep] at h
    split at h
    · rename_i b off hx
      have e : a.eval x = ptr (ρ b) off := hs.ev hx
      split at h
      · rename_i n hf
        split at h
        · rename_i hc
          injection h with h
          subst h
          exact wp_value (z := ptr (ρ b) (off + n)) (by simp only [execOp, e]; exact run_v (field_run hf)) (hk ρ _ _ (hs.put (x := .own b (off + n)) hc))
        · cases h
      · cases h
    · exact pureStep_ok h hs hk
  | indexAddr t x i =>
    simp only [opStep] at h
    split at h
    · rename_i b off k j hx hi
      have e : a.eval x = ptr (ρ b) off := hs.ev hx
      have e2 : a.eval i = .int k j := hs.ev hi
      split at h
      · rename_i len el hu
        split at h
        · rename_i n hn
          split at h
          · rename_i j
            split at h
            · rename_i hc
              simp only [Bool.and_eq_true] at hc
              injection h with h
              subst h
              exact wp_value (z := ptr (ρ b) (off + j * n)) (by simp only [execOp, e, e2]; exact run_v (index_run hu hn (Nat.blt_eq.mp hc.1))) (hk ρ _ _ (hs.put (x := .own b (off + j * n)) hc.2))
            · cases h
          · cases h
        · cases h
      · cases h
    · exact pureStep_ok h hs hk
  | nilCheck x =>
    simp only [opStep] at h
    split at h
    · rename_i b off hx
      have e : a.eval x = ptr (ρ b) off := hs.ev hx
      split at h
      · rename_i hc
        injection h with h
        subst h
        exact wp_value (z := ptr (ρ b) off) (by simp only [execOp, e]; rfl) (hk ρ _ _ (hs.put (x := .own b off) hc))
      · cases h
    · cases h
  | makeFunc fn first caps =>
    cases fn with
    | func f =>
      simp only [opStep] at h
      split at h
      · rename_i h0
        split at h
        · rename_i l hl
          split at h
          · rename_i hc
            injection h with h
            subst h
            have hf : first = #[] := Array.eq_empty_of_size_eq_zero (by simpa using h0)
            have hm : ∀ (cs : List Operand) (l : List (Nat × Nat)), cs.mapM (fun x => match s.ev x with | some (.own b off) => some (b, off) | _ => none) = some l → cs.map a.eval = l.map fun p => ptr (ρ p.1) p.2 := by
              intro cs
              induction cs with
              | nil => intro l hl; simp at hl; subst hl; rfl
              | cons c r ih =>
                intro l hl
                rw [List.mapM_cons] at hl
                cases hc : s.ev c with
                | none => rw [hc] at hl; simp at hl
                | some y =>
                  rw [hc] at hl
                  cases y with
                  | v z => simp at hl
                  | fn f q => simp at hl
                  | mth f q1 q2 => simp at hl
                  | own b off =>
                    simp only [Option.bind_eq_bind, Option.bind_some] at hl
                    obtain ⟨l', h1, h2⟩ := Option.bind_eq_some_iff.mp hl
                    simp only [Option.pure_def, Option.some.injEq] at h2
                    subst h2
                    simp only [List.map_cons, ih l' h1, hs.ev hc, AV.real]
            have e : caps.map a.eval = (l.map fun p => ptr (ρ p.1) p.2).toArray := by
              apply Array.toList_inj.mp
              rw [Array.toList_map, hm _ _ hl]
            exact wp_value (z := (AV.fn f l).real ρ) (by simp only [execOp, hf, e, Array.map_empty]; rfl) (hk ρ _ _ (hs.put hc))
          · cases h
        · cases h
      · split at h
        · rename_i x hx1 hx2
          split at h
          · rename_i b off hev
            split at h
            · rename_i hc
              injection h with h
              subst h
              have hf : first = #[x] := Array.toList_inj.mp hx1
              have hf2 : caps = #[] := Array.toList_inj.mp hx2
              have e1 : a.eval x = ptr (ρ b) off := hs.ev hev
              exact wp_value (z := (AV.mth f b off).real ρ) (by simp only [execOp, hf, hf2, List.map_toArray, List.map_cons, List.map_nil, e1]; rfl) (hk ρ _ _ (hs.put hc))
            · cases h
          · cases h
        · cases h
    | _ => simp only [opStep] at h; exact pureStep_ok h hs hk
  | _ => exact pureStep_ok h hs hk
end
structure Ctx where
  P : Program
  Q : Exit → Act → World → Prop
  w0 : World
  M : Mk
inductive Cur where
  | code (c : Code)
  | ops (arr : Array Oper) (l : List Oper)
  | ex (e : Exit)
inductive CK where
  | seq (c : Code)
  | blk (id : Nat)
  | loop (J : S → List (Nat × Row) → Mem → Prop)
def den (C : Ctx) : List CK → Exit → Act → World → Prop
  | [], e, a, w => C.Q e a w
  | .seq c :: k, .normal, a, w => c.wp C.P (den C k) a w
  | .seq _ :: k, e, a, w => den C k e a w
  | .blk id :: k, .exit id', a, w => if id' = id then den C k .normal a w else den C k (.exit id') a w
  | .blk _ :: k, e, a, w => den C k e a w
  | .loop J :: _, .normal, a, w => ∃ ρ s R G, St C.w0 C.M ρ G R s a w ∧ J s R G
  | .loop _ :: k, e, a, w => den C k e a w
def X (C : Ctx) (cur : Cur) (k : List CK) (s : S) (R : List (Nat × Row)) (G : Mem) : Prop :=
  ∀ ρ a w, St C.w0 C.M ρ G R s a w → match cur with
    | .code c => c.wp C.P (den C k) a w
    | .ops arr l => wpList C.P arr (den C k) l a w
    | .ex e => den C k e a w
theorem den_seq (C : Ctx) (c : Code) (k : List CK) : den C (.seq c :: k) = Exit.then (c.wp C.P (den C k)) (den C k) := by
  funext e a w
  cases e <;> rfl
theorem den_blk (C : Ctx) (id : Nat) (k : List CK) : den C (.blk id :: k) = Exit.inBlock id (den C k) := by
  funext e a w
  cases e <;> rfl
def boolOf : Value → Option Bool
  | .bool b => some b
  | _ => none
def yld (s : S) (arr : Array Oper) (j : Nat) : Option (Option Bool) :=
  match (arr[j]?).bind (·.dst) with
  | some d => match lk s.tmps d with
    | some (.v z) => some (boolOf z)
    | _ => none
  | none => none
def step (P : Program) : Cur → List CK → S → Option (Cur × List CK × S)
  | .code .skip, k, s => some (.ex .normal, k, s)
  | .code (.label _), k, s => some (.ex .normal, k, s)
  | .code (.seq a b), k, s => some (.code a, .seq b :: k, s)
  | .code (.block id b), k, s => some (.code b, .blk id :: k, s)
  | .code (.exit id), k, s => some (.ex (.exit id), k, s)
  | .code .ret, k, s => some (.ex .ret, k, s)
  | .code (.region _ ops false), k, s => some (.ops ops ops.toList, k, s)
  | .code (.cond c x y), k, s => match s.ev c with
    | some (.v (.bool true)) => some (.code x, k, s)
    | some (.v (.bool false)) => some (.code y, k, s)
    | _ => none
  | .code _, _, _ => none
  | .ops _ [], k, s => some (.ex .normal, k, s)
  | .ops arr (o :: r), k, s => match o.guard with
    | none => (opStep P o s).map fun s' => (.ops arr r, k, s')
    | some (j, want) => match yld s arr j with
      | some b => if b == some want then (opStep P o s).map fun s' => (.ops arr r, k, s') else if s.can o.dst then some (.ops arr r, k, s.put o.dst (.v undef)) else none
      | none => none
  | .ex .normal, .seq c :: k, s => some (.code c, k, s)
  | .ex .normal, .blk _ :: k, s => some (.ex .normal, k, s)
  | .ex .ret, .seq _ :: k, s => some (.ex .ret, k, s)
  | .ex .ret, .blk _ :: k, s => some (.ex .ret, k, s)
  | .ex .ret, .loop _ :: k, s => some (.ex .ret, k, s)
  | .ex (.exit id), .seq _ :: k, s => some (.ex (.exit id), k, s)
  | .ex (.exit id), .blk id' :: k, s => if Nat.beq id id' then some (.ex .normal, k, s) else some (.ex (.exit id), k, s)
  | .ex (.exit id), .loop _ :: k, s => some (.ex (.exit id), k, s)
  | .ex _, _, _ => none
section
variable {C : Ctx} {cur cur' : Cur} {k k' : List CK} {s s' : S} {R : List (Nat × Row)} {G : Mem}
theorem ops_step {arr : Array Oper} {o : Oper} {r : List Oper} (hg : ∀ ρ a w, St C.w0 C.M ρ G R s a w → Region.wanted o (yielded arr a.tmps) = true) (h : opStep C.P o s = some s') (H : X C (.ops arr r) k s' R G) : X C (.ops arr (o :: r)) k s R G := by
  intro ρ a w hs
  refine wpList_step fun K hK => ?_
  rw [if_pos (hg ρ a w hs)]
  exact opStep_ok h hs (fun ρ' a' w' h' => hK _ _ (H ρ' a' w' h'))
theorem ops_skip {arr : Array Oper} {o : Oper} {r : List Oper} (hg : ∀ ρ a w, St C.w0 C.M ρ G R s a w → Region.wanted o (yielded arr a.tmps) = false) (hc : s.can o.dst = true) (H : X C (.ops arr r) k (s.put o.dst (.v undef)) R G) : X C (.ops arr (o :: r)) k s R G := by
  intro ρ a w hs
  refine wpList_step fun K hK => ?_
  rw [if_neg (by rw [hg ρ a w hs]; decide)]
  exact hK _ _ (H ρ _ _ (hs.put (x := .v undef) hc))
theorem yld_ok {arr : Array Oper} {j : Nat} {b : Option Bool} {ρ : Nat → Nat} {a : Act} {w : World} (h : yld s arr j = some b) (hs : St C.w0 C.M ρ G R s a w) : yielded arr a.tmps j = b := by
  unfold yld at h
  unfold yielded
  split at h
  · rename_i d hd
    split at h
    · rename_i z hz
      injection h with h
      have := hs.tm d _ hz
      rw [hd]
      simp only [Option.bind_some, this, AV.real]
      subst h
      cases z <;> rfl
    · cases h
  · cases h
theorem step_ok (h : step C.P cur k s = some (cur', k', s')) (H : X C cur' k' s' R G) : X C cur k s R G := by
  unfold step at h
  split at h
  · injection h with h; obtain ⟨rfl, rfl, rfl⟩ := h; exact fun ρ a w hs => wp_skip (H ρ a w hs)
  · injection h with h; obtain ⟨rfl, rfl, rfl⟩ := h; exact fun ρ a w hs => wp_label (H ρ a w hs)
  · injection h with h; obtain ⟨rfl, rfl, rfl⟩ := h
    intro ρ a w hs
    have := H ρ a w hs
    simp only [den_seq] at this
    exact wp_seq this
  · injection h with h; obtain ⟨rfl, rfl, rfl⟩ := h
    intro ρ a w hs
    have := H ρ a w hs
    simp only [den_blk] at this
    exact wp_block this
  · injection h with h; obtain ⟨rfl, rfl, rfl⟩ := h; exact fun ρ a w hs => wp_exit (H ρ a w hs)
  · injection h with h; obtain ⟨rfl, rfl, rfl⟩ := h; exact fun ρ a w hs => wp_ret (H ρ a w hs)
  · injection h with h; obtain ⟨rfl, rfl, rfl⟩ := h; exact fun ρ a w hs => wp_region_list (H ρ a w hs)
  · split at h
    · rename_i hc
      injection h with h; obtain ⟨rfl, rfl, rfl⟩ := h; exact fun ρ a w hs => wp_cond_true (hs.ev hc) (H ρ a w hs)
    · rename_i hc
      injection h with h; obtain ⟨rfl, rfl, rfl⟩ := h; exact fun ρ a w hs => wp_cond_false (hs.ev hc) (H ρ a w hs)
    · cases h
  · cases h
  · injection h with h; obtain ⟨rfl, rfl, rfl⟩ := h; exact fun ρ a w hs => wpList_nil (H ρ a w hs)
  · rename_i arr o r k s
    split at h
    · rename_i hg
      simp only [Option.map_eq_some_iff] at h
      obtain ⟨s1, h1, h2⟩ := h
      obtain ⟨rfl, rfl, rfl⟩ := h2
      exact ops_step (fun ρ a w hs => by simp [Region.wanted, hg]) h1 H
    · rename_i j want hg
      split at h
      · rename_i b hb
        split at h
        · rename_i hbw
          simp only [Option.map_eq_some_iff] at h
          obtain ⟨s1, h1, h2⟩ := h
          obtain ⟨rfl, rfl, rfl⟩ := h2
          exact ops_step (fun ρ a w hs => by simp only [Region.wanted, hg, yld_ok hb hs]; exact hbw) h1 H
        · rename_i hbw
          split at h
          · rename_i hc
            injection h with h; obtain ⟨rfl, rfl, rfl⟩ := h
            exact ops_skip (fun ρ a w hs => by simp only [Region.wanted, hg, yld_ok hb hs]; simpa using hbw) hc H
          · cases h
      · cases h
  · injection h with h; obtain ⟨rfl, rfl, rfl⟩ := h; exact fun ρ a w hs => H ρ a w hs
  · injection h with h; obtain ⟨rfl, rfl, rfl⟩ := h; exact fun ρ a w hs => H ρ a w hs
  · injection h with h; obtain ⟨rfl, rfl, rfl⟩ := h; exact fun ρ a w hs => H ρ a w hs
  · injection h with h; obtain ⟨rfl, rfl, rfl⟩ := h; exact fun ρ a w hs => H ρ a w hs
  · injection h with h; obtain ⟨rfl, rfl, rfl⟩ := h; exact fun ρ a w hs => H ρ a w hs
  · injection h with h; obtain ⟨rfl, rfl, rfl⟩ := h; exact fun ρ a w hs => H ρ a w hs
  · split at h
    · rename_i he
      injection h with h; obtain ⟨rfl, rfl, rfl⟩ := h
      intro ρ a w hs
      simp only [den, if_pos (Nat.eq_of_beq_eq_true he)]
      exact H ρ a w hs
    · rename_i he
      injection h with h; obtain ⟨rfl, rfl, rfl⟩ := h
      intro ρ a w hs
      simp only [den]
      rw [if_neg (by intro e; exact he (by rw [e]; exact Nat.beq_refl _))]
      exact H ρ a w hs
  · injection h with h; obtain ⟨rfl, rfl, rfl⟩ := h; exact fun ρ a w hs => H ρ a w hs
  · cases h
def run (P : Program) : Nat → Cur → List CK → S → Option (Cur × List CK × S)
  | 0, c, k, s => some (c, k, s)
  | n + 1, c, k, s => match step P c k s with
    | some (c', k', s') => run P n c' k' s'
    | none => none
theorem run_ok : ∀ {n : Nat} {cur : Cur} {k : List CK} {s : S}, run C.P n cur k s = some (cur', k', s') → X C cur' k' s' R G → X C cur k s R G
  | 0, cur, k, s, h, H => by
    simp only [run, Option.some.injEq, Prod.mk.injEq] at h
    obtain ⟨rfl, rfl, rfl⟩ := h
    exact H
  | n + 1, cur, k, s, h, H => by
    simp only [run] at h
    split at h
    · rename_i c1 k1 s1 h1
      exact step_ok h1 (run_ok h H)
    · cases h
def pickL {β : Type} (l : List (Nat × β)) : List Nat → List (Nat × β)
  | [] => []
  | i :: r => match lk l i with
    | some x => (i, x) :: pickL l r
    | none => pickL l r
theorem pickL_lk {β : Type} {l : List (Nat × β)} {ids : List Nat} {i : Nat} {x : β} (h : lk (pickL l ids) i = some x) : lk l i = some x := by
  induction ids with
  | nil => simp [pickL, lk] at h
  | cons j r ih =>
    simp only [pickL] at h
    split at h
    · rename_i y hy
      rw [lk_cons] at h
      by_cases e : j = i
      · subst e
        rw [if_pos rfl] at h
        injection h with h
        subst h
        exact hy
      · rw [if_neg e] at h
        exact ih h
    · exact ih h
def S.only (s : S) (ids bids : List Nat) : S := ⟨s.n, pickL s.tmps ids, pickL s.boxes bids⟩
theorem St.sub {w0 w : World} {M : Mk} {ρ : Nat → Nat} {a : Act} {s s' : S} {R' : List (Nat × Row)} (h : St w0 M ρ G R s a w) (hn : s'.n = s.n) (ht : ∀ i x, lk s'.tmps i = some x → lk s.tmps i = some x) (hb : ∀ i x, lk s'.boxes i = some x → lk s.boxes i = some x) (hR : ∀ i r, lk R' i = some r → lk R i = some r) : St w0 M ρ G R' s' a w :=
  ⟨fun i x hi => h.tm i x (ht i x hi), h.sz.trans hn.symm, h.df, fun i b hi => h.bx i b (hb i b hi), fun i b hi => h.bo i b (hb i b hi), fun i j b c hi hj e => h.bi i j b c (hb i b hi) (hb j c hj) e,
    fun i r hi => h.rw i r (hR i r hi), fun i r k hi hk => h.ro i r k (hR i r hi) hk, fun i j r q k hi hj h1 h2 => h.ri i j r q k (hR i r hi) (hR j q hj) h1 h2, fun i j r b hi hj => h.rb i j r b (hR i r hi) (hb j b hj), h.g, fun k o j b hk hj => h.gb k o j b hk (hb j b hj), fun k o i r hk hi => h.gr k o i r hk (hR i r hi), h.fr, h.pn⟩
theorem X.sub {s' : S} {R' : List (Nat × Row)} (hn : s'.n = s.n) (ht : ∀ i x, lk s'.tmps i = some x → lk s.tmps i = some x) (hb : ∀ i x, lk s'.boxes i = some x → lk s.boxes i = some x) (hR : ∀ i r, lk R' i = some r → lk R i = some r) (H : X C cur k s' R' G) : X C cur k s R G :=
  fun ρ a w hs => H ρ a w (hs.sub hn ht hb hR)
theorem X.only {ids bids : List Nat} (H : X C cur k (s.only ids bids) R G) : X C cur k s R G :=
  X.sub (s' := s.only ids bids) rfl (fun _ _ h => pickL_lk (ids := ids) h) (fun _ _ h => pickL_lk (ids := bids) h) (fun _ _ h => h) H
theorem X.run (n : Nat) (ids bids : List Nat) (cur' : Cur) (k' : List CK) (s' : S) (h : (run C.P n cur k s).map (fun r => (r.1, r.2.1, r.2.2.only ids bids)) = some (cur', k', s')) (H : X C cur' k' s' R G) : X C cur k s R G := by
  obtain ⟨⟨c1, k1, s1⟩, h1, h2⟩ := Option.map_eq_some_iff.mp h
  simp only [Prod.mk.injEq] at h2
  obtain ⟨rfl, rfl, rfl⟩ := h2
  exact run_ok h1 (X.only H)
end
end Go.Proofs.YtjgpdbkkpomhjaaX
namespace Go.Proofs.YtjgpdbkkpomhjaaX
open Go.RowKit
set_option linter.unusedVariables false
set_option linter.unusedSimpArgs false
def cellG (G : Mem) (a : Addr) : Option Value := match G a.block with
  | some (.cells c _ _) => if a.spot.isSome then none else c[a.off]?
  | _ => none
def Hold (G : Mem) (w : World) : Prop := ∀ k o, G k = some o → w.heap[k]? = some o
def Le (G G' : Mem) : Prop := ∀ k o, G k = some o → G' k = some o
structure Ge (G : Mem) (n : Nat) (G' : Mem) : Prop where
  le : Le G G'
  new : ∀ k o, G' k = some o → G k = some o ∨ n ≤ k
theorem Le.refl (G : Mem) : Le G G := fun _ _ h => h
theorem Le.trans {a b c : Mem} (h : Le a b) (k : Le b c) : Le a c := fun i o hi => k i o (h i o hi)
theorem Ge.refl (G : Mem) (n : Nat) : Ge G n G := ⟨Le.refl G, fun _ _ h => .inl h⟩
theorem Ge.trans {a b c : Mem} {n : Nat} (h : Ge a n b) (k : Ge b n c) : Ge a n c := ⟨h.le.trans k.le, fun i o hi => by
  rcases k.new i o hi with h1 | h1
  · exact h.new i o h1
  · exact .inr h1⟩
theorem cell_of_G {G : Mem} {w : World} {a : Addr} {v : Value} (hg : Hold G w) (h : cellG G a = some v) : w.cell? a = some v := by
  unfold cellG at h
  split at h
  · rename_i c t f hc
    simp only [World.cell?, hg _ _ hc]
    exact h
  · cases h
theorem cellG_le {G G' : Mem} {a : Addr} {v : Value} (hl : Le G G') (h : cellG G a = some v) : cellG G' a = some v := by
  unfold cellG at h ⊢
  split at h
  · rename_i c t f hc
    rw [hl _ _ hc]
    exact h
  · cases h
structure D (α : Type) where
  sz : Nat
  rep : Mem → α → List Value → Prop
  len : ∀ {G x cs}, rep G x cs → cs.length = sz
  one : ∀ {G x cs}, rep G x cs → ∀ u ∈ cs, u.oneCell' = true
  mono : ∀ {G G' x cs}, Le G G' → rep G x cs → rep G' x cs
def rowAt {α : Type} (d : D α) (G : Mem) (A : Option Addr) (xs : List α) : Prop :=
  ∀ i (h : i < xs.length), ∃ ad cs, A = some ad ∧ d.rep G xs[i] cs ∧ ∀ j v, cs[j]? = some v → cellG G (ad.add (i * d.sz + j)) = some v
theorem rowAt.mono {α : Type} {d : D α} {G G' : Mem} {A : Option Addr} {xs : List α} (h : rowAt d G A xs) (hl : Le G G') : rowAt d G' A xs := fun i hi => by
  obtain ⟨ad, cs, h1, h2, h3⟩ := h i hi
  exact ⟨ad, cs, h1, d.mono hl h2, fun j v hj => cellG_le hl (h3 j v hj)⟩
theorem rowAt.nil {α : Type} (d : D α) (G : Mem) (A : Option Addr) : rowAt d G A [] := fun i h => absurd h (Nat.not_lt_zero i)
theorem rowAt.isSome {α : Type} {d : D α} {G : Mem} {A : Option Addr} {xs : List α} (h : rowAt d G A xs) {i : Nat} (hi : i < xs.length) : ∃ ad, A = some ad := by
  obtain ⟨ad, _, h1, _⟩ := h i hi
  exact ⟨ad, h1⟩
def IntKind.lo : IntKind → Int
  | .i8 => -128 | .i16 => -32768 | .i32 => -2147483648 | .i64 => -9223372036854775808 | _ => 0
def IntKind.hi : IntKind → Int
  | .i8 => 127 | .i16 => 32767 | .i32 => 2147483647 | .i64 => 9223372036854775807 | .u8 => 255 | .u16 => 65535 | .u32 => 4294967295 | .u64 => 18446744073709551615
def D.int (k : IntKind) : D Int where
  sz := 1
  rep := fun _ x cs => cs = [.int k x] ∧ IntKind.lo k ≤ x ∧ x ≤ IntKind.hi k
  len := fun h => by rw [h.1]; rfl
  one := fun h u hu => by rw [h.1] at hu; rw [List.mem_singleton.1 hu]; rfl
  mono := fun _ h => h
def D.str : D ByteArray where
  sz := 1
  rep := fun _ x cs => cs = [.string x] ∧ x.size ≤ maxLen
  len := fun h => by rw [h.1]; rfl
  one := fun h u hu => by rw [h.1] at hu; rw [List.mem_singleton.1 hu]; rfl
  mono := fun _ h => h
def D.slice {α : Type} (d : D α) : D (List α) where
  sz := 1
  rep := fun G xs cs => ∃ A c, cs = [.slice A xs.length c] ∧ xs.length ≤ c ∧ c ≤ maxLen ∧ rowAt d G A xs
  len := by rintro G x cs ⟨A, c, rfl, _⟩; rfl
  one := by rintro G x cs ⟨A, c, rfl, _⟩ u hu; rw [List.mem_singleton.1 hu]; rfl
  mono := by rintro G G' x cs hl ⟨A, c, h1, h2, h3, h4⟩; exact ⟨A, c, h1, h2, h3, h4.mono hl⟩
def D.pair {α β : Type} (a : D α) (b : D β) : D (α × β) where
  sz := a.sz + b.sz
  rep := fun G x cs => ∃ c0 c1, cs = c0 ++ c1 ∧ a.rep G x.1 c0 ∧ b.rep G x.2 c1
  len := by rintro G x cs ⟨c0, c1, rfl, h0, h1⟩; rw [List.length_append, a.len h0, b.len h1]
  one := by
    rintro G x cs ⟨c0, c1, rfl, h0, h1⟩ u hu
    rcases List.mem_append.1 hu with hu | hu
    · exact a.one h0 u hu
    · exact b.one h1 u hu
  mono := by rintro G G' x cs hl ⟨c0, c1, h, h0, h1⟩; exact ⟨c0, c1, h, a.mono hl h0, b.mono hl h1⟩
def repsD {α : Type} (d : D α) (G : Mem) : List α → List Value → Prop
  | [], cs => cs = []
  | x :: r, cs => ∃ c0 c1, cs = c0 ++ c1 ∧ d.rep G x c0 ∧ repsD d G r c1
theorem repsD.len {α : Type} {d : D α} {G : Mem} : ∀ {xs : List α} {cs : List Value}, repsD d G xs cs → cs.length = xs.length * d.sz
  | [], cs, h => by rw [show cs = [] from h]; simp
  | x :: r, cs, h => by
    obtain ⟨c0, c1, rfl, h0, h1⟩ := h
    rw [List.length_append, d.len h0, repsD.len h1, List.length_cons, Nat.add_mul, Nat.one_mul, Nat.add_comm]
theorem repsD.one {α : Type} {d : D α} {G : Mem} : ∀ {xs : List α} {cs : List Value}, repsD d G xs cs → ∀ u ∈ cs, u.oneCell' = true
  | [], cs, h, u, hu => by rw [show cs = [] from h] at hu; cases hu
  | x :: r, cs, h, u, hu => by
    obtain ⟨c0, c1, rfl, h0, h1⟩ := h
    rcases List.mem_append.1 hu with hu | hu
    · exact d.one h0 u hu
    · exact repsD.one h1 u hu
theorem repsD.mono {α : Type} {d : D α} {G G' : Mem} (hl : Le G G') : ∀ {xs : List α} {cs : List Value}, repsD d G xs cs → repsD d G' xs cs
  | [], _, h => h
  | x :: r, _, h => by
    obtain ⟨c0, c1, h, h0, h1⟩ := h
    exact ⟨c0, c1, h, d.mono hl h0, repsD.mono hl h1⟩
theorem repsD.get {α : Type} {d : D α} {G : Mem} : ∀ {xs : List α} {cs : List Value}, repsD d G xs cs → ∀ i (h : i < xs.length), ∃ c, d.rep G xs[i] c ∧ ∀ j v, c[j]? = some v → cs[i * d.sz + j]? = some v
  | [], _, _, i, h => absurd h (Nat.not_lt_zero i)
  | x :: r, cs, hr, i, h => by
    obtain ⟨c0, c1, rfl, h0, h1⟩ := hr
    cases i with
    | zero => exact ⟨c0, h0, fun j v hj => by rw [Nat.zero_mul, Nat.zero_add]; exact List.getElem?_append_left (List.getElem?_eq_some_iff.mp hj).1 ▸ hj⟩
    | succ i =>
      obtain ⟨c, hc, hg⟩ := repsD.get h1 i (by simpa using h)
      refine ⟨c, hc, fun j v hj => ?_⟩
      have e : (i + 1) * d.sz + j = c0.length + (i * d.sz + j) := by rw [d.len h0, Nat.add_mul, Nat.one_mul]; omega
      rw [e, List.getElem?_append_right (Nat.le_add_right _ _), Nat.add_sub_cancel_left]
      exact hg j v hj
theorem repsD.append {α : Type} {d : D α} {G : Mem} : ∀ {xs ys : List α} {cs ds : List Value}, repsD d G xs cs → repsD d G ys ds → repsD d G (xs ++ ys) (cs ++ ds)
  | [], ys, cs, ds, h, h' => by rw [show cs = [] from h]; exact h'
  | x :: r, ys, cs, ds, h, h' => by
    obtain ⟨c0, c1, rfl, h0, h1⟩ := h
    exact ⟨c0, c1 ++ ds, by rw [List.append_assoc], h0, repsD.append h1 h'⟩
theorem repsD.single {α : Type} {d : D α} {G : Mem} {x : α} {c : List Value} (h : d.rep G x c) : repsD d G [x] c := ⟨c, [], by simp, h, rfl⟩
def RowsOk (n : Nat) (w : World) (G : Mem) : List Row → Prop
  | [] => True
  | r :: l => (w.ownsRow n r.e r.size r.v r.n r.cells ∧ ∀ k, r.v.ownBlock = some k → G k = none) ∧ (∀ q ∈ l, ∀ k, r.v.ownBlock = some k → q.v.ownBlock ≠ some k) ∧ RowsOk n w G l
def PostG (G : Mem) (w : World) (Post : Mem → Value → List Row → Prop) (e : Ending) (w' : World) : Prop :=
  ∃ v G' rows, e = .returned v ∧ Below w.heap.size w w' ∧ Ge G w.heap.size G' ∧ Hold G' w' ∧ RowsOk w.heap.size w' G' rows ∧ Post G' v rows
def CallsG (P : Program) (f : FuncId) (vals : List Value) (G : Mem) (Post : Mem → Value → List Row → Prop) : Prop :=
  ∀ w, Hold G w → Calls P f vals.toArray w (PostG G w Post)
theorem CallsG.mono {P : Program} {f : FuncId} {vals : List Value} {G : Mem} {Post Post' : Mem → Value → List Row → Prop} (h : CallsG P f vals G Post) (hp : ∀ G' v rows, Le G G' → Post G' v rows → Post' G' v rows) : CallsG P f vals G Post' := fun w hw =>
  (h w hw).mono fun e w' ⟨v, G', rows, h1, h2, h3, h4, h5, h6⟩ => ⟨v, G', rows, h1, h2, h3, h4, h5, hp G' v rows h3.le h6⟩
def CtxG (P : Program) (fn : Func) (G : Mem) (w : World) (Post : Mem → Value → List Row → Prop) : Ctx := ⟨P, bodyPost P fn (PostG G w Post), w, ⟨fun _ => False, fun _ => none⟩⟩
def enumV : Nat → List Value → List (Nat × AV)
  | _, [] => []
  | i, x :: r => (i, .v x) :: enumV (i + 1) r
theorem enumV_lk : ∀ {l : List Value} {n i : Nat} {x : AV}, lk (enumV n l) i = some x → n ≤ i ∧ ∃ v, l[i - n]? = some v ∧ x = .v v
  | [], n, i, x, h => by simp [enumV, lk] at h
  | y :: r, n, i, x, h => by
    simp only [enumV, lk_cons] at h
    by_cases e : n = i
    · subst e
      rw [if_pos rfl] at h
      injection h with h
      exact ⟨Nat.le_refl _, y, by simp, h.symm⟩
    · rw [if_neg e] at h
      obtain ⟨h1, v, h2, h3⟩ := enumV_lk h
      refine ⟨by omega, v, ?_, h3⟩
      rw [show i - n = (i - (n + 1)) + 1 by omega]
      exact h2
theorem CallsG.enter {P : Program} {f : FuncId} {fn : Func} {c : Code} {vals : List Value} {G : Mem} {Post : Mem → Value → List Row → Prop} (hf : P.funcs[f]? = some fn) (hb : fn.body = some c) (hn : Nat.ble vals.length fn.ntmps = true)
    (H : ∀ w, X (CtxG P fn G w Post) (.code c) [] ⟨fn.ntmps, enumV 0 vals, []⟩ [] G) : CallsG P f vals G Post := by
  intro w hw
  refine calls_of_wp hf hb ?_
  have hle := Nat.ble_eq.mp hn
  refine H w (fun _ => 0) _ w ⟨fun i x hi => ?_, ?_, rfl, fun i b hi => ?_, fun i b hi => ?_, fun i j b c hi => ?_, fun i r hi => ?_, fun i r k hi => ?_, fun i j r q k hi => ?_, fun i j r b hi => ?_, hw, fun k o j b _ hj => ?_, fun k o i r _ hi => ?_, Fr.refl _ _, fun b g hb => by cases hb⟩
  · obtain ⟨_, v, h2, rfl⟩ := enumV_lk hi
    rw [Nat.sub_zero] at h2
    have hlt := (List.getElem?_eq_some_iff.mp h2).1
    simp only [AV.real]
    rw [Array.getElem?_append_left (by simpa using hlt)]
    simpa using h2
  · simp; omega
  all_goals (first | (simp [lk] at hi; done) | (simp [lk] at hj; done))
def resAV (P : Program) (s : S) : ResultVar → Option AV
  | .tmp t => lk s.tmps t
  | .cell p t => match lk s.tmps p with
    | some (.own b off) => match lk s.boxes b, spure P (isAgg t), spure P (sizeOf t) with
      | some bx, some false, _ => bx.cells[off]?
      | some bx, some true, some n => match plainAll ((bx.cells.drop off).take n) with
        | some l => if Nat.ble (off + n) bx.cells.length then some (.v (.agg l.toArray)) else none
        | none => none
      | _, _, _ => none
    | _ => none
def resSem (tmps : Array Value) : ResultVar → Sem Value
  | .tmp t => pure (tmps.getD t undef)
  | .cell p t => do loadVar t (← asAddr (tmps.getD p undef))
theorem results_eq (fn : Func) (tmps : Array Value) : results fn tmps = (fn.results.mapM (resSem tmps) >>= fun vs => pure (if h : vs.size = 1 then vs[0] else .tuple vs)) := by
  unfold results
  congr 2
def mkRes (vs : List Value) : Value := match vs with
  | [v] => v
  | vs => .tuple vs.toArray
def resAll (P : Program) (s : S) : List ResultVar → Option (List AV)
  | [] => some []
  | r :: l => match resAV P s r, resAll P s l with
    | some x, some xs => some (x :: xs)
    | _, _ => none
section
variable {P : Program} {w0 w : World} {M : Mk} {ρ : Nat → Nat} {G : Mem} {R : List (Nat × Row)} {s : S} {a : Act}
theorem resAV_run {r : ResultVar} {x : AV} (hs : St w0 M ρ G R s a w) (h : resAV P s r = some x) : (resSem a.tmps r).run P w = .ok (x.real ρ) w := by
  have get : ∀ {t : Nat} {y : AV}, lk s.tmps t = some y → a.tmps.getD t undef = y.real ρ := fun {t y} ht => hs.ev (x := .tmp t) ht
  cases r with
  | tmp t =>
    simp only [resAV] at h
    simp only [resSem, get h]
    rfl
  | cell p t =>
    simp only [resAV] at h
    split at h
    · rename_i b off hp
      simp only [resSem, get hp]
      have h0 : (asAddr ((AV.own b off).real ρ)).run P w = .ok ⟨ρ b, off, none⟩ w := rfl
      have hl : ∀ z, (Instr.loadAt t (ptr (ρ b) off)).run P w = .ok z w → (loadVar t ⟨ρ b, off, none⟩).run P w = .ok z w := fun z hz => by
        unfold Instr.loadAt at hz
        rwa [run_bind_ok (show (Instr.sureAddr (ptr (ρ b) off)).run P w = .ok ⟨ρ b, off, none⟩ w from rfl)] at hz
      rw [run_bind_ok h0]
      split at h
      · rename_i bx hb ht
        exact hl _ (load_one hs hb ht h)
      · rename_i bx n hb ht hn
        split at h
        · rename_i l hpl
          split at h
          · rename_i hle
            injection h with h
            subst h
            exact hl _ (load_all hs hb ht hn hpl (Nat.ble_eq.mp hle))
          · cases h
        · cases h
      · cases h
    · cases h
theorem resAll_run (hs : St w0 M ρ G R s a w) : ∀ {l : List ResultVar} {xs : List AV} {acc : Array Value}, resAll P s l = some xs →
    (l.foldlM (fun (bs : Array Value) r => (resSem a.tmps r >>= fun y => pure (bs.push y) : Sem (Array Value))) acc).run P w = .ok (acc ++ (xs.map (AV.real ρ)).toArray) w
  | [], xs, acc, h => by simp only [resAll, Option.some.injEq] at h; subst h; simp
  | r :: l, xs, acc, h => by
    simp only [resAll] at h
    split at h
    · rename_i x xs' h1 h2
      injection h with h
      subst h
      rw [List.foldlM_cons]
      have hr := resAV_run hs h1
      have hstep : (resSem a.tmps r >>= fun y => pure (acc.push y) : Sem (Array Value)).run P w = .ok (acc.push (x.real ρ)) w := by
        rw [run_bind_ok hr]; rfl
      rw [run_bind_ok hstep, resAll_run hs h2]
      simp
    · cases h
theorem results_run {fn : Func} {xs : List AV} {vs : List Value} (hs : St w0 M ρ G R s a w) (h : resAll P s fn.results.toList = some xs) (hv : xs.map (AV.real ρ) = vs) : (results fn a.tmps).run P w = .ok (mkRes vs) w := by
  rw [results_eq]
  have h1 := resAll_run (acc := #[]) hs h
  have h2 : (fn.results.mapM (resSem a.tmps)).run P w = .ok (vs.toArray) w := by
    rw [Array.mapM_eq_foldlM, ← Array.foldlM_toList]
    simpa [hv] using h1
  rw [run_bind_ok h2]
  match vs with
  | [] => rfl
  | [v] => rfl
  | v :: v' :: l => simp [mkRes]
end
theorem plainAll_real {ρ : Nat → Nat} {l : List AV} {vs : List Value} (h : plainAll l = some vs) : l.map (AV.real ρ) = vs := plainAll_eq h
def pickR (R : List (Nat × Row)) : List Nat → Option (List Row)
  | [] => some []
  | i :: l => match lk R i, pickR R l with
    | some r, some rs => some (r :: rs)
    | _, _ => none
def allDiff : List Nat → Bool
  | [] => true
  | i :: l => l.all (fun j => !Nat.beq i j) && allDiff l
theorem pickR_mem {R : List (Nat × Row)} : ∀ {ids : List Nat} {rs : List Row}, pickR R ids = some rs → ∀ q ∈ rs, ∃ j ∈ ids, lk R j = some q
  | [], rs, h, q, hq => by simp only [pickR, Option.some.injEq] at h; subst h; cases hq
  | i :: l, rs, h, q, hq => by
    simp only [pickR] at h
    split at h
    · rename_i r rs' h1 h2
      injection h with h
      subst h
      rcases List.mem_cons.1 hq with rfl | hq
      · exact ⟨i, List.mem_cons_self, h1⟩
      · obtain ⟨j, hj, hj2⟩ := pickR_mem h2 q hq
        exact ⟨j, List.mem_cons_of_mem _ hj, hj2⟩
    · cases h
theorem rowsOk_of {w0 w : World} {ρ : Nat → Nat} {G : Mem} {R : List (Nat × Row)} {s : S} {a : Act} (hs : St w0 ⟨fun _ => False, fun _ => none⟩ ρ G R s a w) : ∀ {ids : List Nat} {rs : List Row}, pickR R ids = some rs → allDiff ids = true → RowsOk w0.heap.size w G rs
  | [], rs, h, _ => by simp only [pickR, Option.some.injEq] at h; subst h; trivial
  | i :: l, rs, h, hd => by
    simp only [pickR] at h
    split at h
    · rename_i r rs' h1 h2
      injection h with h
      subst h
      simp only [allDiff, Bool.and_eq_true, List.all_eq_true] at hd
      refine ⟨⟨?_, fun k hk => ?_⟩, fun q hq k hk hk2 => ?_, rowsOk_of hs h2 hd.2⟩
      · obtain ⟨o1, o2⟩ := hs.rw i r h1
        refine ⟨o1, ?_⟩
        rcases o2 with o2 | ⟨g, cap, cur, hv, _, rest⟩
        · exact .inl o2
        · exact .inr ⟨g, cap, cur, hv, by rcases hs.ro i r g h1 (by rw [hv]; rfl) with h3 | h3; exact h3; exact h3.elim, rest⟩
      · cases hg : G k with
        | none => rfl
        | some o => exact absurd hk (hs.gr k o i r hg h1)
      · obtain ⟨j, hj, hj2⟩ := pickR_mem h2 q hq
        have := hs.ri i j r q k h1 hj2 hk hk2
        have h4 := hd.1 j hj
        rw [this, Nat.beq_refl] at h4
        cases h4
    · cases h
theorem doneG {P : Program} {fn : Func} {G G' : Mem} {w : World} {Post : Mem → Value → List Row → Prop} {e : Exit} {s : S} {R : List (Nat × Row)} {rows : List Row} (he : e = .ret ∨ e = .normal) (vs : List Value) (ids : List Nat)
    (hr : (resAll P s fn.results.toList).bind plainAll = some vs) (hR : pickR R ids = some rows) (hd : allDiff ids = true) (hG : Ge G w.heap.size G') (H : Post G' (mkRes vs) rows) : X (CtxG P fn G w Post) (.ex e) [] s R G' := by
  intro ρ a w' hs
  obtain ⟨xs, h1, h2⟩ := Option.bind_eq_some_iff.mp hr
  have hrun := results_run (fn := fn) hs h1 (plainAll_real h2)
  have hb : Below w.heap.size w w' := hs.fr.below (fun _ h => h)
  have hq : PostG G w Post (.returned (mkRes vs)) w' := ⟨_, G', rows, rfl, hb, hG, hs.g, rowsOk_of hs hR hd, H⟩
  rcases he with rfl | rfl
  · exact ⟨hs.df, _, hrun, hq⟩
  · exact ⟨hs.df, _, hrun, hq⟩
def guardOk (s : S) (arr : Array Oper) (o : Oper) : Bool := match o.guard with
  | none => true
  | some (j, want) => match yld s arr j with
    | some b => b == some want
    | none => false
section
variable {C : Ctx} {cur : Cur} {k : List CK} {s : S} {R : List (Nat × Row)} {G : Mem} {arr : Array Oper} {o : Oper} {r : List Oper}
theorem guardOk_ok {ρ : Nat → Nat} {a : Act} {w : World} (h : guardOk s arr o = true) (hs : St C.w0 C.M ρ G R s a w) : Region.wanted o (yielded arr a.tmps) = true := by
  unfold guardOk at h
  unfold Region.wanted
  split at h
  · rename_i hg; rw [hg]
  · rename_i j want hg
    rw [hg]
    split at h
    · rename_i b hb
      simp only [yld_ok hb hs]
      exact h
    · cases h
theorem X.op (hg : guardOk s arr o = true) (H : ∀ ρ a w, St C.w0 C.M ρ G R s a w → ∀ next : Act → World → Prop, (∀ ρ' a' w' s' R' G', X C (.ops arr r) k s' R' G' → St C.w0 C.M ρ' G' R' s' a' w' → next a' w') → o.wp C.P a w next (den C k)) : X C (.ops arr (o :: r)) k s R G := by
  intro ρ a w hs
  refine wpList_step fun K hK => ?_
  rw [if_pos (guardOk_ok hg hs)]
  exact H ρ a w hs K (fun ρ' a' w' s' R' G' hX hs' => hK _ _ (hX ρ' a' w' hs'))
theorem X.val (z : Value) (hg : guardOk s arr o = true) (hc : s.can o.dst = true) (h : ∀ ρ a w, St C.w0 C.M ρ G R s a w → (execOp a.eval o).run C.P w = .ok (.value z) w) (H : X C (.ops arr r) k (s.put o.dst (.v z)) R G) : X C (.ops arr (o :: r)) k s R G :=
  X.op hg fun ρ a w hs next hn => wp_value (h ρ a w hs) (hn ρ _ _ _ _ _ H (hs.put (x := .v z) hc))
theorem X.known (j : Nat) {x y : AV} (hj : lk s.tmps j = some x) (e : x = y) (H : X C cur k { s with tmps := (j, y) :: s.tmps } R G) : X C cur k s R G :=
  X.sub (s' := { s with tmps := (j, y) :: s.tmps }) rfl (fun i z hi => by
    rw [lk_cons] at hi
    by_cases ej : j = i
    · subst ej
      rw [if_pos rfl] at hi
      injection hi with hi
      rw [hj, e, hi]
    · rw [if_neg ej] at hi
      exact hi) (fun _ _ h => h) (fun _ _ h => h) H
theorem X.split (j : Nat) {b : Bool} (hj : lk s.tmps j = some (.v (.bool b))) (H1 : b = true → X C cur k { s with tmps := (j, .v (.bool true)) :: s.tmps } R G) (H2 : b = false → X C cur k { s with tmps := (j, .v (.bool false)) :: s.tmps } R G) : X C cur k s R G := by
  cases b with
  | true => exact X.known j hj rfl (H1 rfl)
  | false => exact X.known j hj rfl (H2 rfl)
theorem X.isTrue (j : Nat) {b : Bool} (hj : lk s.tmps j = some (.v (.bool b))) (h : b = true) (H : X C cur k { s with tmps := (j, .v (.bool true)) :: s.tmps } R G) : X C cur k s R G := X.known j hj (by rw [h]) H
theorem X.isFalse (j : Nat) {b : Bool} (hj : lk s.tmps j = some (.v (.bool b))) (h : b = false) (H : X C cur k { s with tmps := (j, .v (.bool false)) :: s.tmps } R G) : X C cur k s R G := X.known j hj (by rw [h]) H
theorem X.rows {R' : List (Nat × Row)} (h : ∀ i r, lk R' i = some r → lk R i = some r) (H : X C cur k s R' G) : X C cur k s R G := X.sub rfl (fun _ _ h => h) (fun _ _ h => h) h H
theorem X.loop0 {body : Code} (Inv : Nat → S → List (Nat × Row) → Mem → Prop) (m0 : Nat) (h0 : Inv m0 s R G)
    (round : ∀ m s R G, Inv m s R G → X C (.code body) (.loop (fun s R G => ∃ m', m' < m ∧ Inv m' s R G) :: k) s R G) : X C (.code (.loop body)) k s R G := by
  intro ρ a w hs
  refine wp_loop_ghost (fun m a w => ∃ ρ s R G, St C.w0 C.M ρ G R s a w ∧ Inv m s R G) m0 ⟨ρ, s, R, G, hs, h0⟩ ?_
  rintro m a w ⟨ρ, s, R, G, hs, hi⟩
  refine wp_mono (round m s R G hi ρ a w hs) ?_
  intro e a' w' hq
  cases e with
  | normal =>
    obtain ⟨ρ', s', R', G', hs', m', hlt, hi'⟩ := hq
    exact ⟨m', hlt, ρ', s', R', G', hs', hi'⟩
  | exit id => exact hq
  | goto l => exact hq
  | ret => exact hq
  | panic ch => exact hq
  | outgrown => exact hq
theorem X.loopJ {body : Code} (Inv : Nat → S → List (Nat × Row) → Mem → Prop) (m0 : Nat) (h0 : Inv m0 s R G)
    (round : ∀ m s R G, Inv m s R G → ∀ J : S → List (Nat × Row) → Mem → Prop, (∀ m' s R G, Inv m' s R G → m' < m → J s R G) → X C (.code body) (.loop J :: k) s R G) : X C (.code (.loop body)) k s R G :=
  X.loop0 Inv m0 h0 fun m s R G h => round m s R G h _ fun m' s R G h1 h2 => ⟨m', h2, h1⟩
theorem X.again {J : S → List (Nat × Row) → Mem → Prop} (h : J s R G) : X C (.ex .normal) (.loop J :: k) s R G := fun ρ a w hs => ⟨ρ, s, R, G, hs, h⟩
def okFn (P : Program) (f : FuncId) : Bool := match P.funcs[f]? with
  | some fn => !(fn.name == "runtime.NumGoroutine") && fn.body.isSome
  | none => false
theorem enters {P : Program} {f : FuncId} (h : okFn P f = true) (args : Array Value) (w : World) : (callFunc f args).run P w = .ok (.enter f args) w := by
  unfold okFn at h
  split at h
  · rename_i fn hf
    simp only [Bool.and_eq_true, Bool.not_eq_true', beq_eq_false_iff_ne] at h
    obtain ⟨c, hc⟩ := Option.isSome_iff_exists.1 h.2
    simp [callFunc, hf, h.1, hc]
  · cases h
def callArgs (s : S) : List Operand → Option (List AV)
  | [] => some []
  | x :: l => match s.ev x, callArgs s l with
    | some y, some ys => some (y :: ys)
    | _, _ => none
def capsAV (cs : List (Nat × Nat)) : List AV := cs.map fun p => .own p.1 p.2
def calls (s : S) (o : Oper) : Option (FuncId × List AV) := match o.op with
  | .call { callee := .value x, args, .. } => match s.ev x, callArgs s args.toList with
    | some (.fn f cs), some l => some (f, l ++ capsAV cs)
    | some (.mth f b off), some l => some (f, .own b off :: l)
    | _, _ => none
  | _ => none
theorem callArgs_ok {ρ : Nat → Nat} {a : Act} {w : World} (hs : St C.w0 C.M ρ G R s a w) : ∀ {l : List Operand} {ys : List AV}, callArgs s l = some ys → l.map a.eval = ys.map (AV.real ρ)
  | [], ys, h => by simp only [callArgs, Option.some.injEq] at h; subst h; rfl
  | x :: l, ys, h => by
    simp only [callArgs] at h
    split at h
    · rename_i y ys' h1 h2
      injection h with h
      subst h
      simp only [List.map_cons, hs.ev h1, callArgs_ok hs h2]
    · cases h
theorem calls_run {f : FuncId} {l : List AV} {ρ : Nat → Nat} {a : Act} {w : World} (h : calls s o = some (f, l)) (hf : okFn C.P f = true) (hs : St C.w0 C.M ρ G R s a w) : (execOp a.eval o).run C.P w = .ok (.enter f (l.map (AV.real ρ)).toArray) w := by
  unfold calls at h
  split at h
  · rename_i x args ts hop
    split at h
    · rename_i f' cs ys hx hargs
      injection h with h
      obtain ⟨rfl, rfl⟩ := h
      have e1 : a.eval x = (AV.fn f cs).real ρ := hs.ev hx
      have e2 := callArgs_ok hs hargs
      have e3 : args.map a.eval = (ys.map (AV.real ρ)).toArray := by
        apply Array.toList_inj.mp
        rw [Array.toList_map, e2]
      have e4 : (List.map (AV.real ρ) (ys ++ capsAV cs)).toArray = (ys.map (AV.real ρ)).toArray ++ (cs.map fun p => ptr (ρ p.1) p.2).toArray := by
        simp [capsAV, Function.comp_def, AV.real]
      unfold execOp
      simp only [hop]
      unfold resolve
      simp only [e1, e3, AV.real, Deferred.ofValue]
      rw [run_bind_ok (show (pure _ : Sem Deferred).run C.P w = .ok _ w from rfl)]
      unfold invoke
      rw [e4]
      simpa using enters (P := C.P) hf ((ys.map (AV.real ρ)).toArray ++ (cs.map fun p => ptr (ρ p.1) p.2).toArray) w
    · rename_i f' b off ys hx hargs
      injection h with h
      obtain ⟨rfl, rfl⟩ := h
      have e1 : a.eval x = (AV.mth f b off).real ρ := hs.ev hx
      have e2 := callArgs_ok hs hargs
      have e3 : args.map a.eval = (ys.map (AV.real ρ)).toArray := by
        apply Array.toList_inj.mp
        rw [Array.toList_map, e2]
      have e4 : (List.map (AV.real ρ) (.own b off :: ys)).toArray = #[ptr (ρ b) off] ++ (ys.map (AV.real ρ)).toArray := by
        simp [AV.real]
      unfold execOp
      simp only [hop]
      unfold resolve
      simp only [e1, e3, AV.real, Deferred.ofValue]
      rw [run_bind_ok (show (pure _ : Sem Deferred).run C.P w = .ok _ w from rfl)]
      unfold invoke
      rw [e4]
      simpa using enters (P := C.P) hf (#[ptr (ρ b) off] ++ (ys.map (AV.real ρ)).toArray) w
    · cases h
  · cases h
theorem X.call {f : FuncId} {l : List AV} (hc : calls s o = some (f, l)) (hf : okFn C.P f = true) (hg : guardOk s arr o = true) (H : ∀ ρ a w, St C.w0 C.M ρ G R s a w → Calls C.P f (l.map (AV.real ρ)).toArray w fun e w' => ∃ v, e = .returned v ∧ ∃ ρ' s' R' G', X C (.ops arr r) k s' R' G' ∧ St C.w0 C.M ρ' G' R' s' (a.put o.dst v) w') : X C (.ops arr (o :: r)) k s R G :=
  X.op hg fun ρ a w hs next hn => by
    unfold Oper.wp
    rw [calls_run hc hf hs, Oper.upon_enter]
    refine (H ρ a w hs).mono ?_
    rintro e w' ⟨v, rfl, ρ', s', R', G', hX, hs'⟩
    exact hn _ _ _ _ _ _ hX hs'
def nameRows (nm : Nat) : List Row → List (Nat × Row)
  | [] => []
  | r :: l => (nm, r) :: nameRows (nm + 1) l
theorem nameRows_lk : ∀ {l : List Row} {nm i : Nat} {q : Row}, lk (nameRows nm l) i = some q → nm ≤ i ∧ l[i - nm]? = some q
  | [], nm, i, q, h => by simp [nameRows, lk] at h
  | r :: l, nm, i, q, h => by
    simp only [nameRows, lk_cons] at h
    by_cases e : nm = i
    · subst e
      rw [if_pos rfl] at h
      exact ⟨Nat.le_refl _, by simpa using h⟩
    · rw [if_neg e] at h
      obtain ⟨h1, h2⟩ := nameRows_lk h
      refine ⟨by omega, ?_⟩
      rw [show i - nm = (i - (nm + 1)) + 1 by omega]
      exact h2
theorem lk_append {β : Type} : ∀ {l m : List (Nat × β)} {i : Nat} {x : β}, lk (l ++ m) i = some x → lk l i = some x ∨ lk m i = some x
  | [], m, i, x, h => .inr h
  | (j, y) :: l, m, i, x, h => by
    rw [List.cons_append, lk_cons] at h
    rw [lk_cons]
    by_cases e : j = i
    · rw [if_pos e] at h ⊢
      exact .inl h
    · rw [if_neg e] at h ⊢
      exact lk_append h
theorem rowsOk_get {n : Nat} {w : World} {G : Mem} : ∀ {rows : List Row} {i : Nat} {q : Row}, RowsOk n w G rows → rows[i]? = some q → (w.ownsRow n q.e q.size q.v q.n q.cells ∧ ∀ k, q.v.ownBlock = some k → G k = none)
  | [], i, q, _, h => by simp at h
  | r :: l, 0, q, h, hi => by
    have : r = q := by simpa using hi
    subst this
    exact h.1
  | r :: l, i + 1, q, h, hi => rowsOk_get h.2.2 (by simpa using hi)
theorem rowsOk_ne {n : Nat} {w : World} {G : Mem} : ∀ {rows : List Row} {i j : Nat} {p q : Row} {k : Nat}, RowsOk n w G rows → rows[i]? = some p → rows[j]? = some q → p.v.ownBlock = some k → q.v.ownBlock = some k → i = j
  | [], i, j, p, q, k, _, h, _, _, _ => by simp at h
  | r :: l, 0, 0, p, q, k, _, _, _, _, _ => rfl
  | r :: l, 0, j + 1, p, q, k, h, hi, hj, h1, h2 => by
    have : r = p := by simpa using hi
    subst this
    exact absurd h2 (h.2.1 q (List.mem_of_getElem? (by simpa using hj)) k h1)
  | r :: l, i + 1, 0, p, q, k, h, hi, hj, h1, h2 => by
    have : r = q := by simpa using hj
    subst this
    exact absurd h1 (h.2.1 p (List.mem_of_getElem? (by simpa using hi)) k h2)
  | r :: l, i + 1, j + 1, p, q, k, h, hi, hj, h1, h2 => by
    exact congrArg (· + 1) (rowsOk_ne h.2.2 (i := i) (j := j) (p := p) (q := q) (by simpa using hi) (by simpa using hj) h1 h2)
theorem St.callG {ρ : Nat → Nat} {a : Act} {w w' : World} {G' : Mem} {rows : List Row} (nm : Nat) (hs : St C.w0 C.M ρ G R s a w) (hb : Below w.heap.size w w') (hG : Ge G w.heap.size G') (hh : Hold G' w') (hr : RowsOk w.heap.size w' G' rows) : St C.w0 C.M ρ G' (nameRows nm rows ++ R) s a w' := by
  have h := hs.below hb
  have hsz := hs.fr.size
  have cases_ : ∀ {i : Nat} {q : Row}, lk (nameRows nm rows ++ R) i = some q → (nm ≤ i ∧ rows[i - nm]? = some q) ∨ (lk (nameRows nm rows) i = none ∧ lk R i = some q) := fun {i q} hi => by
    cases hx : lk (nameRows nm rows) i with
    | none =>
      refine .inr ⟨rfl, ?_⟩
      rcases lk_append hi with h1 | h1
      · rw [hx] at h1; cases h1
      · exact h1
    | some q' =>
      have : q' = q := by
        have happ : ∀ {l m : List (Nat × Row)} {i : Nat} {x : Row}, lk l i = some x → lk (l ++ m) i = some x := by
          intro l
          induction l with
          | nil => intro m i x h; simp [lk] at h
          | cons p l ih =>
            intro m i x h
            obtain ⟨j, y⟩ := p
            rw [lk_cons] at h
            rw [List.cons_append, lk_cons]
            by_cases e : j = i
            · rw [if_pos e] at h ⊢; exact h
            · rw [if_neg e] at h ⊢; exact ih h
        exact (Option.some.inj ((happ (m := R) hx).symm.trans hi))
      subst this
      exact .inl (nameRows_lk hx)
  have new_ge : ∀ {i k : Nat} {q : Row}, rows[i]? = some q → q.v.ownBlock = some k → w.heap.size ≤ k := fun {i k q} hi hk => ((rowsOk_get hr hi).1.lt k hk).1
  refine ⟨h.tm, h.sz, h.df, h.bx, h.bo, h.bi, fun i q hi => ?_, fun i q k hi hk => ?_, fun i j p q k hi hj h1 h2 => ?_, fun i j q b hi hj e => ?_, hh, fun k o j b hk hj => ?_, fun k o i q hk hi e => ?_, h.fr, h.pn⟩
  · rcases cases_ hi with ⟨_, h1⟩ | ⟨_, h1⟩
    · obtain ⟨o1, o2⟩ := (rowsOk_get hr h1).1
      refine ⟨o1, ?_⟩
      rcases o2 with o2 | ⟨g, cap, cur, hv, _, rest⟩
      · exact .inl o2
      · exact .inr ⟨g, cap, cur, hv, Nat.zero_le _, rest⟩
    · exact h.rw i q h1
  · rcases cases_ hi with ⟨_, h1⟩ | ⟨_, h1⟩
    · exact .inl (Nat.le_trans hsz (new_ge h1 hk))
    · exact h.ro i q k h1 hk
  · rcases cases_ hi with ⟨l1, q1⟩ | ⟨n1, q1⟩
    · rcases cases_ hj with ⟨l2, q2⟩ | ⟨n2, q2⟩
      · have := rowsOk_ne hr q1 q2 h1 h2
        omega
      · have := new_ge q1 h1
        have := hs.r_lt q2 h2
        omega
    · rcases cases_ hj with ⟨l2, q2⟩ | ⟨n2, q2⟩
      · have := new_ge q2 h2
        have := hs.r_lt q1 h1
        omega
      · exact h.ri i j p q k q1 q2 h1 h2
  · rcases cases_ hi with ⟨_, h1⟩ | ⟨_, h1⟩
    · have := new_ge h1 e
      have := hs.b_lt hj
      omega
    · exact h.rb i j q b h1 hj e
  · rcases hG.new k o hk with h1 | h1
    · exact h.gb k o j b h1 hj
    · have := hs.b_lt hj
      omega
  · rcases cases_ hi with ⟨_, h1⟩ | ⟨_, h1⟩
    · have := (rowsOk_get hr h1).2 k e
      rw [this] at hk
      cases hk
    · rcases hG.new k o hk with h2 | h2
      · exact h.gr k o i q h2 h1 e
      · have := hs.r_lt h1 e
        omega
theorem X.callG {f : FuncId} {l : List AV} (vals : List Value) {Post : Mem → Value → List Row → Prop} (nm : Nat) (hc : calls s o = some (f, l)) (hv : plainAll l = some vals) (hf : (okFn C.P f && (guardOk s arr o && s.can o.dst)) = true) (hC : CallsG C.P f vals G Post)
    (H : ∀ v G' rows, Ge G C.w0.heap.size G' → Post G' v rows → X C (.ops arr r) k (s.put o.dst (.v v)) (nameRows nm rows ++ R) G') : X C (.ops arr (o :: r)) k s R G := by
  simp only [Bool.and_eq_true] at hf
  refine X.call hc hf.1 hf.2.1 fun ρ a w hs => ?_
  rw [plainAll_eq (ρ := ρ) hv]
  refine (hC w hs.g).mono ?_
  rintro e w' ⟨v, G', rows, rfl, hb, hG, hh, hr, hp⟩
  refine ⟨v, rfl, ρ, _, _, G', H v G' rows ⟨hG.le, fun k o hk => ?_⟩ hp, ?_⟩
  · rcases hG.new k o hk with h1 | h1
    · exact .inl h1
    · exact .inr (Nat.le_trans hs.fr.size h1)
  · exact (hs.callG nm hb hG hh hr).put (x := .v v) hf.2.2
end
end Go.Proofs.YtjgpdbkkpomhjaaX
namespace Go.Proofs.YtjgpdbkkpomhjaaX
open Go.RowKit
set_option linter.unusedVariables false
set_option linter.unusedSimpArgs false
def Mm (G : Mem) (R : List (Nat × Row)) (w : World) : Prop := Hold G w ∧ ∀ i r, lk R i = some r → w.ownsRow 0 r.e r.size r.v r.n r.cells
theorem St.mm {w0 w : World} {M : Mk} {ρ : Nat → Nat} {G : Mem} {R : List (Nat × Row)} {s : S} {a : Act} (h : St w0 M ρ G R s a w) : Mm G R w := ⟨h.g, h.rw⟩
def adr (A : Option Addr) (k : Nat) : Addr := (A.getD default).add k
def elt (A : Option Addr) (k : Nat) : Value := .pointer (some (adr A k))
def At (G : Mem) (R : List (Nat × Row)) (A : Option Addr) (k : Nat) (vs : List Value) : Prop :=
  ∀ w, Mm G R w → ∀ j v, vs[j]? = some v → A.isSome = true ∧ w.cell? (adr A (k + j)) = some v
theorem add_add (a : Addr) (i j : Nat) : (a.add i).add j = a.add (i + j) := by
  unfold Addr.add
  by_cases h : i = 0
  · subst h; simp
  · by_cases h2 : j = 0
    · subst h2; simp [h]
    · rw [if_neg h2, if_neg h, if_neg (by omega)]
      simp [Nat.add_assoc]
theorem add_zero (a : Addr) : a.add 0 = a := by simp [Addr.add]
theorem adr_add (A : Option Addr) (k j : Nat) : (adr A k).add j = adr A (k + j) := add_add _ _ _
theorem At.sub {G : Mem} {R : List (Nat × Row)} {A : Option Addr} {k : Nat} {cs vs : List Value} (h : At G R A k cs) (o : Nat) (hs : ∀ j v, vs[j]? = some v → cs[o + j]? = some v) : At G R A (k + o) vs := fun w hw j v hj => by
  have := h w hw (o + j) v (hs j v hj)
  rwa [← Nat.add_assoc] at this
theorem At.of_rowAt {α : Type} {d : D α} {G : Mem} {A : Option Addr} {xs : List α} (R : List (Nat × Row)) (h : rowAt d G A xs) (i : Nat) (hi : i < xs.length) : ∃ cs, d.rep G xs[i] cs ∧ At G R A (i * d.sz) cs := by
  obtain ⟨ad, cs, rfl, h2, h3⟩ := h i hi
  exact ⟨cs, h2, fun w hw j v hj => ⟨rfl, cell_of_G hw.1 (h3 j v hj)⟩⟩
theorem At.of_row {G : Mem} {R : List (Nat × Row)} {i n c : Nat} {r : Row} {A : Option Addr} (h : lk R i = some r) (hv : r.v = .slice A n c) : At G R A 0 r.cells := fun w hw j v hj => by
  have ho := hw.2 i r h
  obtain ⟨o1, o2⟩ := ho
  rcases o2 with ⟨h2, h3⟩ | ⟨g, cap, cur, h2, _, hg, _, _, _, htake⟩
  · rw [h3, Nat.zero_mul] at o1
    rw [List.eq_nil_of_length_eq_zero o1] at hj
    simp at hj
  · rw [hv] at h2
    injection h2 with h2 _ _
    subst h2
    refine ⟨rfl, ?_⟩
    rw [Nat.zero_add]
    have e : adr (some (⟨g, 0, none⟩ : Addr)) j = ⟨g, j, none⟩ := by simp only [adr, Option.getD_some, add_ptr, Nat.zero_add]
    rw [e, cell_of_row w g j cur _ _ hg]
    rw [← htake, List.getElem?_take] at hj
    split at hj
    · simpa using hj
    · cases hj
theorem At.all {α : Type} {d : D α} {G : Mem} (R : List (Nat × Row)) {A : Option Addr} {xs : List α} (h : rowAt d G A xs) : ∃ cs, repsD d G xs cs ∧ At G R A 0 cs := by
  have key : ∀ n, n ≤ xs.length → ∃ cs, repsD d G (xs.take n) cs ∧ ∀ j v, cs[j]? = some v → ∃ ad, A = some ad ∧ cellG G (ad.add j) = some v := by
    intro n
    induction n with
    | zero => intro _; exact ⟨[], rfl, fun j v h => by simp at h⟩
    | succ n ih =>
      intro hn
      obtain ⟨cs, h1, h2⟩ := ih (by omega)
      obtain ⟨ad, c, hA, h3, h4⟩ := h n (by omega)
      refine ⟨cs ++ c, ?_, fun j v hj => ?_⟩
      · rw [List.take_succ_eq_append_getElem (by omega)]
        exact h1.append (.single h3)
      · have hl : cs.length = n * d.sz := by rw [h1.len, List.length_take, Nat.min_eq_left (by omega)]
        by_cases hjl : j < cs.length
        · rw [List.getElem?_append_left hjl] at hj
          exact h2 j v hj
        · rw [List.getElem?_append_right (by omega)] at hj
          refine ⟨ad, hA, ?_⟩
          have := h4 (j - cs.length) v hj
          rwa [show n * d.sz + (j - cs.length) = j by omega] at this
  obtain ⟨cs, h1, h2⟩ := key xs.length (Nat.le_refl _)
  rw [List.take_length] at h1
  refine ⟨cs, h1, fun w hw j v hj => ?_⟩
  obtain ⟨ad, rfl, h3⟩ := h2 j v hj
  exact ⟨rfl, by rw [Nat.zero_add]; exact cell_of_G hw.1 h3⟩
theorem rowAt_of_cells {α : Type} {d : D α} {G : Mem} {A : Option Addr} {xs : List α} {cs : List Value} (hr : repsD d G xs cs) (hd : 0 < d.sz) (h : ∀ j v, cs[j]? = some v → ∃ ad, A = some ad ∧ cellG G (ad.add j) = some v) : rowAt d G A xs := fun i hi => by
  obtain ⟨c, h1, h2⟩ := hr.get i hi
  have hl := d.len h1
  cases c with
  | nil => simp at hl; omega
  | cons c0 c =>
    obtain ⟨ad, hA, _⟩ := h _ _ (h2 0 c0 rfl)
    refine ⟨ad, c0 :: c, hA, h1, fun j v hj => ?_⟩
    obtain ⟨ad', hA', h3⟩ := h _ _ (h2 j v hj)
    rw [hA] at hA'
    injection hA' with e
    subst e
    exact h3
def cutA (A : Option Addr) (c lo sz : Nat) : Option Addr := if c = lo then A else A.map (·.add (lo * sz))
theorem rowAt_cut {α : Type} {d : D α} {G : Mem} {A : Option Addr} {xs : List α} {c lo hi : Nat} (h : rowAt d G A xs) (h1 : lo ≤ hi) (h2 : hi ≤ xs.length) (hc : xs.length ≤ c) : rowAt d G (cutA A c lo d.sz) ((xs.take hi).drop lo) := fun i hi' => by
  have hlen : ((xs.take hi).drop lo).length = hi - lo := by simp; omega
  rw [hlen] at hi'
  obtain ⟨ad, cs, rfl, h3, h4⟩ := h (lo + i) (by omega)
  have hne : ¬ c = lo := by omega
  refine ⟨ad.add (lo * d.sz), cs, by simp [cutA, hne], ?_, fun j v hj => ?_⟩
  · rw [List.getElem_drop, List.getElem_take]
    exact h3
  · rw [add_add, ← Nat.add_assoc, ← Nat.add_mul]
    exact h4 j v hj
section
variable {C : Ctx} {cur : Cur} {k : List CK} {s : S} {R : List (Nat × Row)} {G : Mem} {arr : Array Oper} {o : Oper} {r : List Oper}
theorem run_index {P : Program} {t e sz n c : Nat} {A : Option Addr} {ki : IntKind} {i : Int} (ht : P.underlying t = some (.slice e)) (hsz : spure P (sizeOf e) = some sz) (h0 : 0 ≤ i) (h1 : i < n) (hA : A.isSome = true) (w : World) : (Instr.indexAt t (.slice A n c) (.int ki i)).run P w = .ok (elt A (i.toNat * sz)) w := by
  obtain ⟨ad, rfl⟩ := Option.isSome_iff_exists.1 hA
  unfold Instr.indexAt
  rw [run_bind_ok (show (asIntOf (.int ki i)).run P w = .ok (ki, i) w from rfl)]
  simp only
  rw [run_bind_ok (run_underlying ht w)]
  simp only
  rw [run_bind_ok (show (pure (some ad, n, e) : Sem (Option Addr × Nat × TypeId)).run P w = .ok _ w from rfl)]
  simp only
  rw [run_bind_ok (run_underlying ht w)]
  simp only [h0, h1, and_self, if_true]
  rw [run_bind_ok (spure_run hsz w)]
  rfl
theorem X.index {t e sz n c : Nat} {A : Option Addr} {ki : IntKind} {i : Int} {x ix : Operand} (hop : o.op = .indexAddr t x ix) (hx : s.ev x = some (.v (.slice A n c))) (hi : s.ev ix = some (.v (.int ki i))) (ht : C.P.underlying t = some (.slice e)) (hsz : spure C.P (sizeOf e) = some sz) (hg : (guardOk s arr o && s.can o.dst) = true) (h0 : 0 ≤ i) (h1 : i < n) (hA : ∀ w, Mm G R w → A.isSome = true)
    (H : X C (.ops arr r) k (s.put o.dst (.v (elt A (i.toNat * sz)))) R G) : X C (.ops arr (o :: r)) k s R G := by
  simp only [Bool.and_eq_true] at hg
  refine X.val _ hg.1 hg.2 (fun ρ a w hs => ?_) H
  simp only [execOp, hop, hs.ev hx, hs.ev hi, AV.real]
  exact run_v (run_index ht hsz h0 h1 (hA w hs.mm) w)
theorem X.field {t f n j : Nat} {A : Option Addr} {x : Operand} (hop : o.op = .fieldAddr t x f) (hx : s.ev x = some (.v (elt A j))) (hf : fieldOff C.P t f = some n) (hg : (guardOk s arr o && s.can o.dst) = true) (H : X C (.ops arr r) k (s.put o.dst (.v (elt A (j + n)))) R G) : X C (.ops arr (o :: r)) k s R G := by
  simp only [Bool.and_eq_true] at hg
  refine X.val _ hg.1 hg.2 (fun ρ a w hs => ?_) H
  simp only [execOp, hop, hs.ev hx, AV.real]
  refine run_v ?_
  unfold fieldOff at hf
  split at hf
  · rename_i fs hu
    split at hf
    · rename_i fd hfd
      split at hf
      · rename_i m hm
        injection hf with hf
        subst hf
        unfold Instr.fieldAt
        rw [run_bind_ok (run_underlying hu w)]
        simp only [hfd]
        rw [run_bind_ok (show (Instr.sureAddr (elt A j)).run C.P w = .ok (adr A j) w from rfl)]
        have h2 : (fieldPlace (adr A j) fd).run C.P w = .ok (adr A (j + fd.offset)) w := by
          unfold fieldPlace
          rw [run_bind_ok (spure_run hm w)]
          simp only [Nat.add_eq_zero_iff, Nat.one_ne_zero, and_false, if_false, adr_add]
          rfl
        rw [run_bind_ok h2]
        rfl
      · cases hf
    · cases hf
  · cases hf
def ldRes (P : Program) (t : TypeId) (vs : List Value) : Option Value := match spure P (isAgg t) with
  | some false => match vs with
    | [v] => some v
    | _ => none
  | some true => match spure P (sizeOf t) with
    | some n => if Nat.beq vs.length n then some (.agg vs.toArray) else none
    | none => none
  | none => none
theorem run_loadAt {P : Program} {t : Nat} {vs : List Value} {z : Value} {ad : Addr} {w : World} (hz : ldRes P t vs = some z) (hc : ∀ j v, vs[j]? = some v → w.cell? (ad.add j) = some v) : (Instr.loadAt t (.pointer (some ad))).run P w = .ok z w := by
  unfold Instr.loadAt
  rw [run_bind_ok (show (Instr.sureAddr (.pointer (some ad))).run P w = .ok ad w from rfl)]
  unfold loadVar
  unfold ldRes at hz
  split at hz
  · rename_i ha
    split at hz
    · injection hz with hz
      subst hz
      rw [run_bind_ok (spure_run ha w)]
      have := hc 0 _ rfl
      rw [add_zero] at this
      simp [load, Sem.run, this]
    · cases hz
  · rename_i ha
    split at hz
    · rename_i n hn
      split at hz
      · rename_i hl
        injection hz with hz
        subst hz
        have e : vs.length = n := Nat.eq_of_beq_eq_true hl
        rw [run_bind_ok (spure_run ha w)]
        simp only [if_true]
        rw [run_bind_ok (spure_run hn w), ← e, run_bind_ok (run_loadCells_list (cs := vs) (a := ad) (h := hc) ..)]
        rfl
      · cases hz
    · cases hz
  · cases hz
theorem X.load {t j : Nat} {A : Option Addr} {x : Operand} {z : Value} (vs : List Value) (hop : o.op = .load t x) (hx : s.ev x = some (.v (elt A j))) (hat : At G R A j vs) (hz : ldRes C.P t vs = some z) (hg : (guardOk s arr o && s.can o.dst) = true) (H : X C (.ops arr r) k (s.put o.dst (.v z)) R G) : X C (.ops arr (o :: r)) k s R G := by
  simp only [Bool.and_eq_true] at hg
  refine X.val _ hg.1 hg.2 (fun ρ a w hs => ?_) H
  simp only [execOp, hop, hs.ev hx, AV.real]
  refine run_v (run_loadAt hz fun i v hi => ?_)
  rw [adr_add]
  exact (hat w hs.mm i v hi).2
theorem run_bound {P : Program} {ki : IntKind} {i : Int} {y : Nat} {code : BoundsCode} (h0 : 0 ≤ i) (h1 : i ≤ y) (w : World) : (Instr.sliceBound (.int ki i) y code).run P w = .ok i.toNat w := by
  unfold Instr.sliceBound
  rw [run_bind_ok (show (asIntOf (.int ki i)).run P w = .ok (ki, i) w from rfl)]
  simp only [h0, h1, and_self, if_true]
  rfl
def bndV (x : Option Value) (d : Nat) (n : Nat) : Prop := match x with
  | none => n = d
  | some v => ∃ ki i, v = .int ki i ∧ 0 ≤ i ∧ n = i.toNat
theorem run_bounds {P : Program} {isS : Bool} {len cap lo hi : Nat} {l h : Option Value} (hl : bndV l 0 lo) (hh : bndV h len hi) (h1 : lo ≤ hi) (h2 : hi ≤ cap) (w : World) : (Instr.sliceBounds isS len cap l h none).run P w = .ok (lo, hi, cap) w := by
  unfold Instr.sliceBounds
  have p1 : ∀ (x : Nat), (pure x : Sem Nat).run P w = .ok x w := fun _ => rfl
  cases h with
  | none =>
    simp only [bndV] at hh
    subst hh
    cases l with
    | none =>
      simp only [bndV] at hl
      subst hl
      rfl
    | some v =>
      obtain ⟨ki, i, rfl, h3, rfl⟩ := hl
      simp only
      rw [run_bind_ok (p1 cap), run_bind_ok (p1 _), run_bind_ok (run_bound h3 (by omega) w)]
      rfl
  | some v =>
    obtain ⟨ki, i, rfl, h3, rfl⟩ := hh
    cases l with
    | none =>
      simp only [bndV] at hl
      subst hl
      simp only
      rw [run_bind_ok (p1 cap), run_bind_ok (run_bound h3 (by omega) w)]
      rfl
    | some v =>
      obtain ⟨ki2, i2, rfl, h4, rfl⟩ := hl
      simp only
      rw [run_bind_ok (p1 cap), run_bind_ok (run_bound h3 (by omega) w), run_bind_ok (run_bound h4 (by omega) w)]
      rfl
theorem run_cut {P : Program} {t e sz n c lo hi : Nat} {A : Option Addr} {l h : Option Value} (ht : P.underlying t = some (.slice e)) (hsz : spure P (sizeOf e) = some sz) (hl : bndV l 0 lo) (hh : bndV h n hi) (h1 : lo ≤ hi) (h2 : hi ≤ c) (w : World) : (Instr.sliceAt t (.slice A n c) l h none).run P w = .ok (.slice (cutA A c lo sz) (hi - lo) (c - lo)) w := by
  unfold Instr.sliceAt
  rw [run_bind_ok (run_underlying ht w)]
  simp only
  unfold Instr.slice
  rw [run_bind_ok (run_underlying ht w)]
  simp only
  rw [run_bind_ok (run_bounds hl hh h1 h2 w)]
  simp only
  rw [run_bind_ok (spure_run hsz w)]
  rfl
def evO (s : S) : Option Operand → Option (Option Value)
  | none => some none
  | some x => match s.ev x with
    | some (.v z) => some (some z)
    | _ => none
theorem evO_ok {ρ : Nat → Nat} {a : Act} {w : World} {x : Option Operand} {z : Option Value} (hs : St C.w0 C.M ρ G R s a w) (h : evO s x = some z) : x.map a.eval = z := by
  cases x with
  | none => simp only [evO, Option.some.injEq] at h; subst h; rfl
  | some x =>
    simp only [evO] at h
    split at h
    · rename_i z' hz
      injection h with h
      subst h
      simp only [Option.map_some, hs.ev hz, AV.real]
    · cases h
theorem X.cut {t e sz n c : Nat} {A : Option Addr} {x : Operand} {l h : Option Operand} {lv hv : Option Value} (lo hi : Nat) (hop : o.op = .slice t x l h none) (hx : s.ev x = some (.v (.slice A n c))) (hlv : evO s l = some lv) (hhv : evO s h = some hv) (ht : C.P.underlying t = some (.slice e)) (hsz : spure C.P (sizeOf e) = some sz) (hg : (guardOk s arr o && s.can o.dst) = true) (hl : bndV lv 0 lo) (hh : bndV hv n hi) (h1 : lo ≤ hi) (h2 : hi ≤ c)
    (H : X C (.ops arr r) k (s.put o.dst (.v (.slice (cutA A c lo sz) (hi - lo) (c - lo)))) R G) : X C (.ops arr (o :: r)) k s R G := by
  simp only [Bool.and_eq_true] at hg
  refine X.val _ hg.1 hg.2 (fun ρ a w hs => ?_) H
  simp only [execOp, hop, hs.ev hx, evO_ok hs hlv, evO_ok hs hhv, AV.real, Option.map_none]
  exact run_v (run_cut ht hsz hl hh h1 h2 w)
def snew {α : Type} (P : Program) : Sem α → Nat → Option (Obj × α)
  | .new o k, g => (spure P (k g)).map (o, ·)
  | .program k, g => snew P (k P) g
  | .mark _ k, g => snew P k g
  | _, _ => none
theorem snew_run {α : Type} {P : Program} : ∀ {s : Sem α} {o : Obj} {x : α} {w : World}, snew P s w.heap.size = some (o, x) → s.run P w = .ok x (w.alloc o) := by
  intro s
  induction s with
  | new ob k ih =>
    intro o x w h
    simp only [snew, Option.map_eq_some_iff, Prod.mk.injEq] at h
    obtain ⟨y, h1, rfl, rfl⟩ := h
    exact spure_run h1 _
  | program k ih => intro o x w h; exact ih P (by simpa [snew] using h)
  | mark m k ih => intro o x w h; exact ih (by simpa [snew] using h)
  | _ => intro o x w h; simp [snew] at h
def plainOps (o : Oper) : List Operand := match o.op with
  | .buildSlice _ _ ps => ps.toList.map (·.2)
  | .makeSlice _ x y => [x, y]
  | _ => [.tmp 0]
def isLit : Op → Bool
  | .buildSlice .. | .makeSlice .. => true
  | _ => false
theorem exec_lit {f g : Operand → Value} (hp : isLit o.op = true) (h : ∀ x ∈ plainOps o, f x = g x) : execOp f o = execOp g o := by
  obtain ⟨dst, op, ty, pos, af, gd⟩ := o
  simp only at hp
  simp only [plainOps] at h
  cases op with
  | buildSlice t n ps =>
    have : (ps.map fun (i, x) => (i, f x)) = (ps.map fun (i, x) => (i, g x)) := by
      apply Array.map_congr_left
      intro p hp
      obtain ⟨i, x⟩ := p
      simp only [Prod.mk.injEq, true_and]
      exact h x (List.mem_map.mpr ⟨(i, x), Array.mem_toList_iff.mpr hp, rfl⟩)
    simp only [execOp, this]
  | makeSlice t x y => simp [execOp, h x (by simp), h y (by simp)]
  | _ => simp [isLit] at hp
theorem lk_shadow {β : Type} {l : List (Nat × β)} {i j : Nat} {x y : β} (h : lk ((i, x) :: l) j = some y) : (j = i ∧ y = x) ∨ (j ≠ i ∧ lk l j = some y) := by
  rw [lk_cons] at h
  by_cases e : i = j
  · rw [if_pos e] at h
    injection h with h
    exact .inl ⟨e.symm, h.symm⟩
  · rw [if_neg e] at h
    exact .inr ⟨Ne.symm e, h⟩
theorem St.row {ρ : Nat → Nat} {a : Act} {w w' : World} (i : Nat) {q : Row} {old : Option Nat} (hs : St C.w0 C.M ρ G R s a w) (hold : ∀ g, old = some g → ∃ p, lk R i = some p ∧ p.v.ownBlock = some g) (hg : w.grownBy w' old) (hq : w'.ownsRow 0 q.e q.size q.v q.n q.cells) (hat : ∀ g, q.v.ownBlock = some g → old = some g ∨ w.heap.size ≤ g) : St C.w0 C.M ρ G ((i, q) :: R) s a w' := by
  have k := Md.of_grown hg
  have keep : ∀ {x : Nat} {o' : Obj}, w.heap[x]? = some o' → old ≠ some x → w'.heap[x]? = some o' := fun {x o'} hx hn => (hg.block x (Array.getElem?_eq_some_iff.1 hx).1 (fun e => hn e.symm)).trans hx
  have nb : ∀ {j b}, lk s.boxes j = some b → old ≠ some (ρ j) := fun {j b} hj e => by
    obtain ⟨p, hp, hpb⟩ := hold _ e
    exact hs.rb i j p b hp hj hpb
  have ng : ∀ {x o'}, G x = some o' → old ≠ some x := fun {x o'} hx e => by
    obtain ⟨p, hp, hpb⟩ := hold _ e
    exact hs.gr x o' i p hx hp hpb
  have nr : ∀ {j p x}, j ≠ i → lk R j = some p → p.v.ownBlock = some x → old ≠ some x := fun {j p x} hn hj hx e => by
    obtain ⟨p', hp, hpb⟩ := hold _ e
    exact hn (hs.ri j i p p' x hj hp hx hpb)
  have qb : ∀ {x}, q.v.ownBlock = some x → (∃ p, lk R i = some p ∧ p.v.ownBlock = some x) ∨ w.heap.size ≤ x := fun {x} hx => by
    rcases hat x hx with h | h
    · exact .inl (hold _ h)
    · exact .inr h
  refine ⟨hs.tm, hs.sz, hs.df, fun j b hj => keep (hs.bx j b hj) (nb hj), hs.bo, hs.bi, fun j p hj => ?_, fun j p x hj hx => ?_, fun j l p p' x hj hl h1 h2 => ?_, fun j l p b hj hl e => ?_, fun x o' hx => keep (hs.g x o' hx) (ng hx), hs.gb, fun x o' j p hx hj e => ?_, ?_, hs.pn⟩
  · rcases lk_shadow hj with ⟨rfl, rfl⟩ | ⟨hn, hj⟩
    · exact hq
    · obtain ⟨o1, o2⟩ := hs.rw j p hj
      refine ⟨o1, ?_⟩
      rcases o2 with o2 | ⟨g, cap, cur, hv, hb', hh, rest⟩
      · exact .inl o2
      · exact .inr ⟨g, cap, cur, hv, hb', keep hh (nr hn hj (by rw [hv]; rfl)), rest⟩
  · rcases lk_shadow hj with ⟨rfl, rfl⟩ | ⟨hn, hj⟩
    · rcases qb hx with ⟨p, hp, hpb⟩ | h
      · exact hs.ro _ p x hp hpb
      · exact .inl (Nat.le_trans hs.fr.size h)
    · exact hs.ro j p x hj hx
  · rcases lk_shadow hj with ⟨rfl, rfl⟩ | ⟨hn, hj⟩
    · rcases lk_shadow hl with ⟨rfl, rfl⟩ | ⟨hn2, hl⟩
      · rfl
      · rcases qb h1 with ⟨p1, hp, hpb⟩ | h
        · exact hs.ri _ l p1 p' x hp hl hpb h2
        · have := hs.r_lt hl h2
          omega
    · rcases lk_shadow hl with ⟨e1, e2⟩ | ⟨hn2, hl⟩
      · rw [e2] at h2
        rcases qb h2 with ⟨p1, hp, hpb⟩ | h
        · rw [e1]
          exact hs.ri j _ p p1 x hj hp h1 hpb
        · have := hs.r_lt hj h1
          omega
      · exact hs.ri j l p p' x hj hl h1 h2
  · rcases lk_shadow hj with ⟨rfl, rfl⟩ | ⟨hn, hj⟩
    · rcases qb e with ⟨p1, hp, hpb⟩ | h
      · exact hs.rb _ l p1 b hp hl hpb
      · have := hs.b_lt hl
        omega
    · exact hs.rb j l p b hj hl e
  · rcases lk_shadow hj with ⟨rfl, rfl⟩ | ⟨hn, hj⟩
    · rcases qb e with ⟨p1, hp, hpb⟩ | h
      · exact hs.gr x o' _ p1 hx hp hpb
      · have := hs.g_lt hx
        omega
    · exact hs.gr x o' j p hx hj e
  · exact hs.fr.md k (fun x hx => by
      obtain ⟨p, hp, hpb⟩ := hold x hx
      exact hs.ro i p x hp hpb)
theorem X.lit (nm : Nat) (e size n : Nat) (cs : List Value) (hp : (isLit o.op && ((plainOps o).all s.plain && (guardOk s arr o && (s.can o.dst && (Nat.beq cs.length (n * size) && Nat.ble n 9223372036854775807))))) = true) (hrun : ∀ g, snew C.P (execOp s.real o) g = some (.cells cs.toArray e (0, 0), .value (.slice (some ⟨g, 0, none⟩) n n)))
    (H : ∀ A, X C (.ops arr r) k (s.put o.dst (.v (.slice A n n))) ((nm, ⟨e, size, .slice A n n, n, cs⟩) :: R) G) : X C (.ops arr (o :: r)) k s R G := by
  simp only [Bool.and_eq_true, List.all_eq_true] at hp
  refine X.op hp.2.2.1 fun ρ a w hs next hn => ?_
  have he : execOp a.eval o = execOp s.real o := exec_lit hp.1 (fun x hx => by
    obtain ⟨z, h1, h2⟩ := S.plain_real (hp.2.1 x hx)
    rw [h2]
    exact hs.ev h1)
  refine wp_value (by rw [he]; exact snew_run (hrun w.heap.size)) (hn ρ _ _ _ _ _ (H (some ⟨w.heap.size, 0, none⟩)) ?_)
  have hrow : St C.w0 C.M ρ G ((nm, ⟨e, size, .slice (some ⟨w.heap.size, 0, none⟩) n n, n, cs⟩) :: R) s a (w.alloc (.cells cs.toArray e)) := by
    refine hs.row nm (old := none) (fun g h => by cases h) (World.grownBy_alloc w _ none) ?_ (fun g h => .inr ?_)
    · exact ⟨Nat.eq_of_beq_eq_true hp.2.2.2.2.1, .inr ⟨w.heap.size, n, cs.toArray, rfl, Nat.zero_le _, heap_alloc_new w _, Nat.le_refl _, Nat.ble_eq.mp hp.2.2.2.2.2, by simpa using Nat.eq_of_beq_eq_true hp.2.2.2.2.1, by rw [← Nat.eq_of_beq_eq_true hp.2.2.2.2.1]; simp⟩⟩
    · simp [Value.ownBlock] at h; omega
  exact hrow.put (x := .v _) hp.2.2.2.1
theorem X.append (i : Nat) (q : Row) (t bytes : Nat) (z : Value) {x y : Operand} {n c m c2 : Nat} {A B : Option Addr} {news : List Value}
    (hop : o.op = .call { callee := .builtin .append, args := #[x, y], argTypes := #[t, t] }) (hx : s.ev x = some (.v (.slice A n c))) (hy : s.ev y = some (.v (.slice B m c2)))
    (ht : C.P.underlying t = some (.slice q.e)) (hinfo : (C.P.info? q.e).map (fun i => (i.zero, i.size, i.bytes)) = some (some z, q.size, bytes)) (hz : z.cells.size = q.size) (h0 : 0 < q.size) (hg : (guardOk s arr o && s.can o.dst) = true)
    (hq : lk R i = some q ∨ (A = none ∧ c = 0 ∧ q.n = 0 ∧ q.cells = [])) (hqv : q.v = .slice A n c) (hqn : q.n = n) (hn : news.length = m * q.size) (hat : At G R B 0 news) (hB : ∀ w, Mm G R w → B = none → m = 0 ∧ c2 = 0) (h1 : ∀ u ∈ news, u.oneCell' = true) (hb : (n + m) * bytes ≤ 140737488355328) (hb0 : 0 < bytes)
    (H : ∀ A' c', n + m ≤ c' → X C (.ops arr r) k (s.put o.dst (.v (.slice A' (n + m) c'))) ((i, ⟨q.e, q.size, .slice A' (n + m) c', n + m, q.cells ++ news⟩) :: R) G) : X C (.ops arr (o :: r)) k s R G := by
  simp only [Bool.and_eq_true] at hg
  refine X.op hg.1 fun ρ a w hs next hnx => ?_
  obtain ⟨i0, hi, hzz⟩ := Option.map_eq_some_iff.1 hinfo
  simp only [Prod.mk.injEq] at hzz
  obtain ⟨hz0, hz1, hz2⟩ := hzz
  have hown : w.ownsRow 0 q.e q.size (.slice A n c) n q.cells := by
    rcases hq with hq | ⟨rfl, rfl, h3, h4⟩
    · have := hs.rw i q hq
      rw [hqv, hqn] at this
      exact this
    · rw [hqn] at h3
      subst h3
      rw [h4]
      exact World.ownsRow_nil w 0 q.e q.size
  have hold : ∀ g, (Value.slice A n c).ownBlock = some g → ∃ p, lk R i = some p ∧ p.v.ownBlock = some g := fun g hg' => by
    rcases hq with hq | ⟨rfl, _⟩
    · exact ⟨q, hq, by rw [hqv]; exact hg'⟩
    · simp [Value.ownBlock] at hg'
  have hmax : n + m ≤ maxLen := by
    have := Nat.le_trans (Nat.le_mul_of_pos_right (n + m) hb0) hb
    simp only [maxLen]; omega
  have hex : ∃ v' w', (Builtin.append_ #[t, t] o.type #[.slice A n c, .slice B m c2]).run C.P w = .ok v' w' ∧ w'.ownsRow 0 q.e q.size v' (n + m) (q.cells ++ news) ∧ w.grownBy w' (Value.slice A n c).ownBlock ∧ (v'.ownBlock = (Value.slice A n c).ownBlock ∨ v'.ownBlock = some w.heap.size) := by
    cases B with
    | none =>
      obtain ⟨rfl, rfl⟩ := hB w hs.mm rfl
      have hnil : news = [] := List.eq_nil_of_length_eq_zero (by simpa using hn)
      subst hnil
      exact ⟨_, w, run_append_owned_none (P := C.P) (w := w) (base := 0) (t := t) (ty := o.type) (e := q.e) (i := i0) (size := q.size) (ht := ht) (hi := hi) (v := .slice A n c) (n := n) (xs := q.cells) (hown := hown), by simpa using hown, ⟨rfl, rfl, rfl, Nat.le_refl _, fun _ _ _ => rfl⟩, .inl rfl⟩
    | some ad =>
      obtain ⟨v', w', r1, r2, r3, _, r5⟩ := run_append_own_at (P := C.P) w 0 t o.type q.e i0 z q.size bytes ht hi hz0 hz1 hz2 hz h0 _ n q.cells hown ad m c2 news hn (fun j u hj => by
        have := (hat w hs.mm j u hj).2
        simpa [adr] using this) h1 hmax hb (Nat.zero_le _)
      exact ⟨v', w', r1, r2, r3, r5⟩
  obtain ⟨v', w', r1, r2, r3, r5⟩ := hex
  obtain ⟨A', c', hv', hle⟩ : ∃ A' c', v' = .slice A' (n + m) c' ∧ n + m ≤ c' := by
    rcases r2.2 with ⟨h2, h3⟩ | ⟨g, cap, cur, h2, _, _, h3, _⟩
    · exact ⟨none, 0, by rw [h2, h3], by omega⟩
    · exact ⟨_, cap, h2, h3⟩
  subst hv'
  have hrun : (execOp a.eval o).run C.P w = .ok (.value (.slice A' (n + m) c')) w' := by
    unfold execOp
    simp only [hop]
    unfold resolve
    have e : (#[x, y] : Array Operand).map a.eval = #[.slice A n c, .slice B m c2] := by simp [hs.ev hx, hs.ev hy, AV.real]
    simp only [e]
    rw [run_bind_ok (show (pure _ : Sem Deferred).run C.P w = .ok _ w from rfl)]
    unfold invoke
    exact run_v r1
  refine wp_value hrun (hnx ρ _ _ _ _ _ (H A' c' hle) ?_)
  exact (hs.row i (q := ⟨q.e, q.size, .slice A' (n + m) c', n + m, q.cells ++ news⟩) hold r3 r2 (fun g hg' => by
    rcases r5 with h | h
    · exact .inl (by rw [← h]; exact hg')
    · exact .inr (by rw [show (Value.slice A' (n + m) c').ownBlock = some g from hg'] at h; injection h with h; omega))).put (x := .v _) hg.2
theorem X.storeElem {i t j n c : Nat} {q : Row} {A : Option Addr} {x y : Operand} {z : Value} (hop : o.op = .store t x y) (hx : s.ev x = some (.v (elt A j))) (hy : s.ev y = some (.v z)) (hq : lk R i = some q) (hqv : q.v = .slice A n c) (hsz : spure C.P (sizeOf t) = some z.cells.size) (hl : j + z.cells.size ≤ q.cells.length) (h1 : z.cells.toList.all one = true) (hpos : 0 < z.cells.size) (hg : (guardOk s arr o && s.can o.dst) = true)
    (H : X C (.ops arr r) k (s.put o.dst (.v undef)) ((i, { q with cells := splice q.cells j z.cells.toList }) :: R) G) : X C (.ops arr (o :: r)) k s R G := by
  simp only [Bool.and_eq_true] at hg
  refine X.op hg.1 fun ρ a w hs next hnx => ?_
  obtain ⟨o1, o2⟩ := hs.rw i q hq
  rcases o2 with ⟨h2, h3⟩ | ⟨g, cap, cur, h2, h3, hgg, h4, h5, h6, htake⟩
  · rw [h3, Nat.zero_mul] at o1
    omega
  · have hqv' := hqv
    rw [h2] at hqv
    injection hqv with hA hn hc
    subst hA
    have hlen : q.n * q.size ≤ cur.size := by rw [h6]; exact Nat.mul_le_mul_right _ h4
    have hadr : adr (some (⟨g, 0, none⟩ : Addr)) j = ⟨g, j, none⟩ := by simp only [adr, Option.getD_some, add_ptr, Nat.zero_add]
    have hone : ∀ v ∈ z.cells.toList, v.oneCell' = true := fun v hv => one_of (List.all_eq_true.mp h1 v hv)
    have hst := run_storeCells_at C.P g j q.e z.cells.toList 0 cur w hgg (by simp; omega) hone
    simp only [Nat.add_zero] at hst
    have hrun : (Instr.storeAt t (elt (some ⟨g, 0, none⟩) j) z).run C.P w = .ok () (w.setRow g (splice cur.toList j z.cells.toList).toArray) := by
      unfold Instr.storeAt
      rw [run_bind_ok (show (Instr.sureAddr (elt (some ⟨g, 0, none⟩) j)).run C.P w = .ok ⟨g, j, none⟩ w by rw [← hadr]; rfl)]
      unfold storeVar
      rw [run_bind_ok (spure_run hsz w)]
      simp only [ne_eq, not_true_eq_false, if_false]
      rw [hst]
      rfl
    refine wp_skip' (w' := w.setRow g (splice cur.toList j z.cells.toList).toArray) ?_ (hnx ρ _ _ _ _ _ H ?_)
    · simp only [execOp, hop, hs.ev hx, hs.ev hy, AV.real]
      rw [run_bind_ok hrun]
      rfl
    · have hm := md_setRow w g (splice cur.toList j z.cells.toList).toArray
      have hgr : w.grownBy (w.setRow g (splice cur.toList j z.cells.toList).toArray) (some g) := ⟨hm.os, hm.tape, hm.output, hm.size, fun x hx hn => hm.block x hx (fun e => hn (by rw [e]))⟩
      have hb : q.v.ownBlock = some g := by rw [h2]; rfl
      have hcl : j + z.cells.size ≤ q.n * q.size := by rw [← o1]; exact hl
      refine (hs.row i (q := { q with cells := splice q.cells j z.cells.toList }) (old := some g) (fun g' h => ⟨q, hq, by rw [hb, ← h]⟩) hgr ?_ (fun g' h => .inl (by rw [← h]; exact hb.symm))).put (x := .v undef) hg.2
      refine ⟨by simp only [splice, List.length_append, List.length_take, List.length_drop, Array.length_toList]; omega, .inr ⟨g, cap, (splice cur.toList j z.cells.toList).toArray, h2, h3, setRow_heap w g cur _ q.e (0, 0) hgg, h4, h5, by simp only [splice, List.size_toArray, List.length_append, List.length_take, List.length_drop, Array.length_toList]; omega, ?_⟩⟩
      simp only [splice, ← htake]
      apply List.ext_getElem?
      intro x
      simp only [List.getElem?_take, List.getElem?_append, List.getElem?_drop, List.length_append, List.length_take, List.length_drop, Array.length_toList]
      repeat' split
      all_goals (first | rfl | (exfalso; omega) | (congr 1; omega) | (simp; omega))
theorem X.freeze {i n c : Nat} {q : Row} {A : Option Addr} {R' : List (Nat × Row)} (hq : lk R i = some q) (hqv : q.v = .slice A n c) (hR : ∀ j p, lk R' j = some p → j ≠ i ∧ lk R j = some p)
    (H : ∀ G', Ge G C.w0.heap.size G' → (∀ j v, q.cells[j]? = some v → ∃ ad, A = some ad ∧ cellG G' (ad.add j) = some v) → X C cur k s R' G') (hM : ∀ x, ¬ C.M.can x) : X C cur k s R G := by
  intro ρ a w hs
  have hg : Hold G w := hs.g
  let G' : Mem := fun x => if q.v.ownBlock = some x then w.heap[x]? else G x
  have e1 : ∀ x, q.v.ownBlock = some x → G' x = w.heap[x]? := fun x h => if_pos h
  have e2 : ∀ x, q.v.ownBlock ≠ some x → G' x = G x := fun x h => if_neg h
  have hle : Le G G' := fun x o' hx => by
    by_cases hb : q.v.ownBlock = some x
    · rw [e1 x hb]; exact hg x o' hx
    · rw [e2 x hb]; exact hx
  have hhold : Hold G' w := fun x o' hx => by
    by_cases hb : q.v.ownBlock = some x
    · rw [e1 x hb] at hx; exact hx
    · rw [e2 x hb] at hx; exact hg x o' hx
  refine H G' ⟨hle, fun x o' hx => ?_⟩ (fun j v hj => ?_) ρ a w ⟨hs.tm, hs.sz, hs.df, hs.bx, hs.bo, hs.bi, fun j p hj => hs.rw j p (hR j p hj).2, fun j p x hj hx => hs.ro j p x (hR j p hj).2 hx, fun j l p p' x hj hl h1 h2 => hs.ri j l p p' x (hR j p hj).2 (hR l p' hl).2 h1 h2, fun j l p b hj hl => hs.rb j l p b (hR j p hj).2 hl, hhold, fun x o' j b hx hj => ?_, fun x o' j p hx hj e => ?_, hs.fr, hs.pn⟩
  · by_cases hb : q.v.ownBlock = some x
    · rcases hs.ro i q x hq hb with h | h
      · exact .inr h
      · exact absurd h (hM x)
    · rw [e2 x hb] at hx; exact .inl hx
  · have := At.of_row (G := G) hq hqv w hs.mm j v hj
    obtain ⟨ad, rfl⟩ := Option.isSome_iff_exists.1 this.1
    refine ⟨ad, rfl, ?_⟩
    have hc := this.2
    rw [Nat.zero_add] at hc
    have hbl : (ad.add j).block = ad.block := by unfold Addr.add; split <;> rfl
    have hG : G' (ad.add j).block = w.heap[(ad.add j).block]? := e1 _ (by rw [hqv, hbl]; rfl)
    simp only [adr, Option.getD_some] at hc
    unfold cellG
    rw [hG]
    exact hc
  · by_cases hb : q.v.ownBlock = some x
    · exact fun e => hs.rb i j q b hq hj (by rw [e]; exact hb)
    · rw [e2 x hb] at hx; exact hs.gb x o' j b hx hj
  · by_cases hb : q.v.ownBlock = some x
    · exact (hR j p hj).1 (hs.ri j i p q x (hR j p hj).2 hq e hb)
    · rw [e2 x hb] at hx; exact hs.gr x o' j p hx (hR j p hj).2 e
def RowG (G : Mem) (q : Row) : Prop := ∀ A n c, q.v = .slice A n c → ∀ j v, q.cells[j]? = some v → ∃ ad, A = some ad ∧ cellG G (ad.add j) = some v
theorem view_ok {ρ : Nat → Nat} {a : Act} {w : World} (hs : St C.w0 C.M ρ G R s a w) : ∃ G1, Le G G1 ∧ Hold G1 w ∧ ∀ i q, lk R i = some q → RowG G1 q := by
  refine ⟨fun x => w.heap[x]?, hs.g, fun _ _ h => h, fun i q hq A n c hqv j v hj => ?_⟩
  have := At.of_row (G := G) hq hqv w hs.mm j v hj
  obtain ⟨ad, rfl⟩ := Option.isSome_iff_exists.1 this.1
  refine ⟨ad, rfl, ?_⟩
  have hc := this.2
  rw [Nat.zero_add] at hc
  exact hc
theorem X.callV {f : FuncId} {l : List AV} (vals : List Value) {Q : Value → Prop} (hc : calls s o = some (f, l)) (hv : plainAll l = some vals) (hf : (okFn C.P f && (guardOk s arr o && s.can o.dst)) = true) (hC : ∀ G1, Le G G1 → (∀ i q, lk R i = some q → RowG G1 q) → CallsG C.P f vals G1 (fun _ v _ => Q v))
    (H : ∀ v, Q v → X C (.ops arr r) k (s.put o.dst (.v v)) R G) : X C (.ops arr (o :: r)) k s R G := by
  simp only [Bool.and_eq_true] at hf
  refine X.call hc hf.1 hf.2.1 fun ρ a w hs => ?_
  rw [plainAll_eq (ρ := ρ) hv]
  obtain ⟨G1, h1, h2, h3⟩ := view_ok hs
  refine (hC G1 h1 h3 w h2).mono ?_
  rintro e w' ⟨v, G', rows, rfl, hb, _, _, _, hp⟩
  exact ⟨v, rfl, ρ, _, R, G, H v hp, (hs.below hb).put (x := .v v) hf.2.2⟩
def strOf (ns : List Int) : ByteArray := ns.foldl (fun r n => r.push (UInt8.ofNat n.toNat)) ByteArray.empty
def bytesL (b : ByteArray) : List Int := b.data.toList.map fun x => (x.toNat : Int)
theorem strOf_go (ns : List Int) : ∀ b : ByteArray, (ns.foldl (fun r n => r.push (UInt8.ofNat n.toNat)) b).data.toList = b.data.toList ++ ns.map fun n => UInt8.ofNat n.toNat := by
  induction ns with
  | nil => intro b; simp
  | cons n ns ih => intro b; rw [List.foldl_cons, ih]; simp [ByteArray.push]
theorem strOf_data (ns : List Int) : (strOf ns).data.toList = ns.map fun n => UInt8.ofNat n.toNat := by
  unfold strOf
  rw [strOf_go]
  simp
theorem strOf_size (ns : List Int) : (strOf ns).size = ns.length := by
  have := congrArg List.length (strOf_data ns)
  simpa using this
theorem bytesL_range (b : ByteArray) : ∀ n ∈ bytesL b, 0 ≤ n ∧ n ≤ 255 := by
  intro n hn
  obtain ⟨x, _, rfl⟩ := List.mem_map.mp hn
  have := x.toNat_lt
  omega
theorem bytesL_length (b : ByteArray) : (bytesL b).length = b.size := by simp [bytesL]
theorem X.ofStr {src dst e : Nat} {b : ByteArray} {x : Operand} (hop : o.op = .convert src dst x) (hx : s.ev x = some (.v (.string b))) (hs : C.P.underlying src = some .string) (hd : C.P.underlying dst = some (.slice e)) (he : C.P.underlying e = some (.int .u8)) (hb : b.size ≤ maxLen) (hg : (guardOk s arr o && s.can o.dst) = true)
    (H : ∀ A c G', Ge G C.w0.heap.size G' → b.size ≤ c → c ≤ maxLen → rowAt (D.int .u8) G' A (bytesL b) → A.isSome = true → X C (.ops arr r) k (s.put o.dst (.v (.slice A b.size c))) R G') : X C (.ops arr (o :: r)) k s R G := by
  simp only [Bool.and_eq_true] at hg
  refine X.op hg.1 fun ρ a w hst next hnx => ?_
  have hrun := run_bytes_of_string (P := C.P) w src dst e b hs hd he
  generalize hcap : grownCap w b.size 0 e = cap at hrun
  generalize hob : Obj.cells (bytesRow b cap) e ((bytesRow b cap).size, (bytesRow b cap).size + 1) = ob at hrun
  have hc1 : b.size ≤ cap := by rw [← hcap]; exact grownCap_ge w b.size 0 e
  have hc2 : cap ≤ maxLen := by rw [← hcap]; exact grownCap_le_maxLen w b.size 0 e hb
  let G' : Mem := fun x => if x = w.heap.size then some ob else G x
  have hle : Le G G' := fun x o' hx => by
    have := hst.g_lt hx
    show (if x = w.heap.size then some ob else G x) = some o'
    rw [if_neg (by omega)]
    exact hx
  have hnew : G' w.heap.size = some ob := if_pos rfl
  have hbel : Below w.heap.size w (w.drew.alloc ob) := (((Below.refl _ w).drew).alloc (Nat.le_refl _) ob)
  refine wp_value (z := .slice (some ⟨w.heap.size, 0, none⟩) b.size cap) (w' := w.drew.alloc ob) ?_ (hnx ρ _ _ _ _ _ (H (some ⟨w.heap.size, 0, none⟩) cap G' ⟨hle, fun x o' hx => ?_⟩ hc1 hc2 (fun i hi => ?_) rfl) ?_)
  · simp only [execOp, hop, hst.ev hx, AV.real]
    exact run_v hrun
  · by_cases hxe : x = w.heap.size
    · exact .inr (by rw [hxe]; exact hst.fr.size)
    · have : G' x = G x := if_neg hxe
      rw [this] at hx; exact .inl hx
  · have hbr := bytesL_range b _ (List.getElem_mem hi)
    rw [bytesL_length] at hi
    refine ⟨_, [.int .u8 (bytesL b)[i]], rfl, ⟨rfl, hbr.1, hbr.2⟩, fun j v hj => ?_⟩
    match j, hj with
    | 0, hj =>
      have hv : Value.int .u8 (bytesL b)[i] = v := by simpa using hj
      subst hv
      simp only [D.int, Nat.mul_one, Nat.add_zero, add_ptr, Nat.zero_add, cellG, hnew, ← hob]
      simp only [Option.isSome_none, Bool.false_eq_true, if_false, bytesRow]
      rw [Array.getElem?_append_left (by simpa using hi)]
      simp [bytesL, hi]
    | j + 1, hj => simp at hj
  · have h1 := hst.below hbel
    refine St.put ?_ (x := .v _) hg.2
    refine ⟨h1.tm, h1.sz, h1.df, h1.bx, h1.bo, h1.bi, h1.rw, h1.ro, h1.ri, h1.rb, fun x o' hx => ?_, fun x o' j q hx hj e => ?_, fun x o' j q hx hj e => ?_, h1.fr, h1.pn⟩
    · by_cases hxe : x = w.heap.size
      · subst hxe
        rw [hnew] at hx
        injection hx with hx
        rw [← hx]
        exact heap_alloc_new w.drew ob
      · have : G' x = G x := if_neg hxe
        rw [this] at hx
        exact h1.g x o' hx
    · by_cases hxe : x = w.heap.size
      · have := hst.b_lt hj
        omega
      · have : G' x = G x := if_neg hxe
        rw [this] at hx
        exact hst.gb x o' j q hx hj e
    · by_cases hxe : x = w.heap.size
      · have := hst.r_lt hj e
        omega
      · have : G' x = G x := if_neg hxe
        rw [this] at hx
        exact hst.gr x o' j q hx hj e
end
end Go.Proofs.YtjgpdbkkpomhjaaX
namespace Go.Proofs.YtjgpdbkkpomhjaaX
open Go.RowKit
set_option linter.unusedVariables false
def band (k : IntKind) (a b : Int) : Int := k.wrap ((BitVec.ofInt k.bits a &&& BitVec.ofInt k.bits b).toNat : Int)
def bor (k : IntKind) (a b : Int) : Int := k.wrap ((BitVec.ofInt k.bits a ||| BitVec.ofInt k.bits b).toNat : Int)
def bxor (k : IntKind) (a b : Int) : Int := k.wrap ((BitVec.ofInt k.bits a ^^^ BitVec.ofInt k.bits b).toNat : Int)
def bshl (k : IntKind) (a : Int) (n : Nat) : Int := k.wrap (a * 2 ^ min n k.bits)
def bshr (k : IntKind) (a : Int) (n : Nat) : Int := a.fdiv (2 ^ min n k.bits)
def imin (x y : Int) : Int := if y < x then y else x
def imax (x y : Int) : Int := if y > x then y else x
def bodyOf (f : Func) : Code := f.body.getD .skip
def cA : Code → List Nat → Code
  | c, [] => c
  | .seq a _, 0 :: p => cA a p
  | .seq _ b, _ :: p => cA b p
  | .cond _ a _, 0 :: p => cA a p
  | .cond _ _ b, _ :: p => cA b p
  | .block _ a, _ :: p => cA a p
  | .loop a, _ :: p => cA a p
  | c, _ => c
def opsC : Code → Array Oper
  | .region _ ops _ => ops
  | _ => #[]
def aA (B : Code) (p : List Nat) : Array Oper := opsC (cA B p)
def oA (B : Code) (p : List Nat) (i : Nat) : Oper := (aA B p).toList.getD i default
def lA (B : Code) (p : List Nat) (i : Nat) : List Oper := (aA B p).toList.drop i
theorem str_inj {a b : ByteArray} : a.data.toList = b.data.toList ↔ a = b :=
  ⟨fun h => ByteArray.ext (Array.toList_inj.mp h), fun h => by rw [h]⟩
theorem rowAt.so {α : Type} {d : D α} {G : Mem} {A : Option Addr} {xs : List α} (h : rowAt d G A xs) (hp : 0 < xs.length) : A.isSome = true := by
  obtain ⟨ad, h1⟩ := h.isSome hp
  rw [h1]; rfl
theorem rowSome {G : Mem} {R : List (Nat × Row)} {i n c : Nat} {q : Row} {A : Option Addr} (hq : lk R i = some q) (hv : q.v = .slice A n c) (hc : 0 < q.cells.length) (w : World) (hw : Mm G R w) : A.isSome = true := by
  have := At.of_row hq hv w hw 0 q.cells[0] (List.getElem?_eq_getElem hc)
  exact this.1
theorem At.part {G : Mem} {R : List (Nat × Row)} {A : Option Addr} {k : Nat} {cs : List Value} (h : At G R A k cs) (o m : Nat) : At G R A (k + o) ((cs.drop o).take m) :=
  h.sub o fun j v hj => by
    rw [List.getElem?_take] at hj
    split at hj
    · rwa [List.getElem?_drop] at hj
    · cases hj
theorem At.int {k : IntKind} {G : Mem} {A : Option Addr} {xs : List Int} (R : List (Nat × Row)) (h : rowAt (D.int k) G A xs) (i : Nat) (hi : i < xs.length) : At G R A (i * 1) [.int k (xs.getD i 0)] ∧ IntKind.lo k ≤ xs.getD i 0 ∧ xs.getD i 0 ≤ IntKind.hi k := by
  obtain ⟨cs, ⟨rfl, h1, h2⟩, h3⟩ := At.of_rowAt R h i hi
  have e : xs.getD i 0 = xs[i] := by simp [List.getD, hi]
  rw [e]
  exact ⟨h3, h1, h2⟩
theorem At.slice {α : Type} {d : D α} {G : Mem} {A : Option Addr} {xs : List (List α)} (R : List (Nat × Row)) (h : rowAt (D.slice d) G A xs) (i : Nat) (hi : i < xs.length) : ∃ B c, At G R A (i * 1) [.slice B (xs.getD i []).length c] ∧ (xs.getD i []).length ≤ c ∧ c ≤ maxLen ∧ rowAt d G B (xs.getD i []) := by
  obtain ⟨cs, ⟨B, c, rfl, h1, h2, h4⟩, h3⟩ := At.of_rowAt R h i hi
  have e : xs.getD i [] = xs[i] := by simp [List.getD, hi]
  rw [e]
  exact ⟨B, c, h3, h1, h2, h4⟩
theorem int_range {k : IntKind} {G : Mem} {A : Option Addr} {xs : List Int} (h : rowAt (D.int k) G A xs) : ∀ x ∈ xs, IntKind.lo k ≤ x ∧ x ≤ IntKind.hi k := fun x hx => by
  obtain ⟨i, hi, rfl⟩ := List.getElem_of_mem hx
  obtain ⟨ad, cs, _, h2, _⟩ := h i hi
  exact h2.2
theorem wrap_id {k : IntKind} {x : Int} (h0 : IntKind.lo k ≤ x) (h1 : x ≤ IntKind.hi k) : k.wrap x = x := by
  cases k <;> simp only [IntKind.lo, IntKind.hi] at h0 h1 <;> simp only [IntKind.wrap, IntKind.bits, IntKind.signed] <;> (first | (simp; omega) | (simp; split <;> omega))
theorem wi64 {x : Int} (h0 : -9223372036854775808 ≤ x) (h1 : x ≤ 9223372036854775807) : IntKind.i64.wrap x = x := wrap_id h0 h1
theorem wu64 {x : Int} (h0 : 0 ≤ x) (h1 : x ≤ 18446744073709551615) : IntKind.u64.wrap x = x := wrap_id h0 h1
theorem wu32 {x : Int} (h0 : 0 ≤ x) (h1 : x ≤ 4294967295) : IntKind.u32.wrap x = x := wrap_id h0 h1
theorem wu16 {x : Int} (h0 : 0 ≤ x) (h1 : x ≤ 65535) : IntKind.u16.wrap x = x := wrap_id h0 h1
theorem wu8 {x : Int} (h0 : 0 ≤ x) (h1 : x ≤ 255) : IntKind.u8.wrap x = x := wrap_id h0 h1
theorem u8_wrap (x : Int) : IntKind.u8.wrap x = x % 256 := by simp [IntKind.wrap, IntKind.bits, IntKind.signed]
theorem u16_wrap (x : Int) : IntKind.u16.wrap x = x % 65536 := by simp [IntKind.wrap, IntKind.bits, IntKind.signed]
theorem u32_wrap (x : Int) : IntKind.u32.wrap x = x % 4294967296 := by simp [IntKind.wrap, IntKind.bits, IntKind.signed]
theorem u64_wrap (x : Int) : IntKind.u64.wrap x = x % 18446744073709551616 := by simp [IntKind.wrap, IntKind.bits, IntKind.signed]
theorem shr_nn {k : IntKind} {a : Int} {n : Nat} (h : 0 ≤ a) : bshr k a n = a / 2 ^ min n k.bits := by
  unfold bshr
  exact Int.fdiv_eq_ediv_of_nonneg _ (Int.pow_nonneg (by decide))
theorem imin_eq (x y : Int) : imin x y = min x y := by unfold imin; omega
theorem imax_eq (x y : Int) : imax x y = max x y := by unfold imax; omega
theorem ofInt_nat {n a : Nat} (h : a < 2 ^ n) : (BitVec.ofInt n (a : Int)).toNat = a := by
  rw [BitVec.toNat_ofInt, show ((a : Int) % ((2 ^ n : Nat) : Int)) = ((a % 2 ^ n : Nat) : Int) from by simp, Int.toNat_natCast, Nat.mod_eq_of_lt h]
def IntKind.uns : IntKind → Bool
  | .u8 | .u16 | .u32 | .u64 => true
  | _ => false
theorem wrap_nat {k : IntKind} {a : Nat} (hk : IntKind.uns k = true) (h : a < 2 ^ k.bits) : k.wrap (a : Int) = (a : Int) := by
  cases k <;> simp only [IntKind.uns, Bool.false_eq_true] at hk <;> simp only [IntKind.bits] at h <;> exact wrap_id (by simp [IntKind.lo]) (by simp only [IntKind.hi]; omega)
theorem band_nat {k : IntKind} {a b : Nat} (hk : IntKind.uns k = true) (ha : a < 2 ^ k.bits) (hb : b < 2 ^ k.bits) : band k (a : Int) (b : Int) = ((a &&& b : Nat) : Int) := by
  unfold band
  rw [BitVec.toNat_and, ofInt_nat ha, ofInt_nat hb, wrap_nat hk (Nat.lt_of_le_of_lt Nat.and_le_left ha)]
theorem bor_nat {k : IntKind} {a b : Nat} (hk : IntKind.uns k = true) (ha : a < 2 ^ k.bits) (hb : b < 2 ^ k.bits) : bor k (a : Int) (b : Int) = ((a ||| b : Nat) : Int) := by
  unfold bor
  rw [BitVec.toNat_or, ofInt_nat ha, ofInt_nat hb, wrap_nat hk (Nat.or_lt_two_pow ha hb)]
theorem bxor_nat {k : IntKind} {a b : Nat} (hk : IntKind.uns k = true) (ha : a < 2 ^ k.bits) (hb : b < 2 ^ k.bits) : bxor k (a : Int) (b : Int) = ((a ^^^ b : Nat) : Int) := by
  unfold bxor
  rw [BitVec.toNat_xor, ofInt_nat ha, ofInt_nat hb, wrap_nat hk (Nat.xor_lt_two_pow ha hb)]
theorem band_low {k : IntKind} {a : Int} {m : Nat} (hk : IntKind.uns k = true) (h0 : 0 ≤ a) (h1 : a < 2 ^ k.bits) (hm : m ≤ k.bits) : band k a ((2 ^ m - 1 : Nat) : Int) = a % 2 ^ m := by
  obtain ⟨n, rfl⟩ := Int.eq_ofNat_of_zero_le h0
  have hlt : n < 2 ^ k.bits := by exact_mod_cast h1
  have h2 : (2 : Nat) ^ m - 1 < 2 ^ k.bits := Nat.lt_of_lt_of_le (Nat.sub_lt (Nat.two_pow_pos m) Nat.one_pos) (Nat.pow_le_pow_right (by decide) hm)
  rw [band_nat hk hlt h2, Nat.and_two_pow_sub_one_eq_mod]
  simp
theorem wdiv_i64 {x y : Int} (h0 : 0 ≤ x) (h1 : x ≤ 9223372036854775807) (hy : 0 < y) : IntKind.i64.wrap (Int.tdiv x y) = x / y := by
  have h2 := Int.ediv_nonneg h0 (Int.le_of_lt hy)
  have h3 := Int.ediv_le_self y h0
  rw [Int.tdiv_eq_ediv_of_nonneg h0, wi64 (by omega) (by omega)]
theorem wdiv_u32 {x y : Int} (h0 : 0 ≤ x) (h1 : x ≤ 4294967295) (hy : 0 < y) : IntKind.u32.wrap (Int.tdiv x y) = x / y := by
  have h2 := Int.ediv_nonneg h0 (Int.le_of_lt hy)
  have h3 := Int.ediv_le_self y h0
  rw [Int.tdiv_eq_ediv_of_nonneg h0, wu32 (by omega) (by omega)]
theorem wdiv_u8 {x y : Int} (h0 : 0 ≤ x) (h1 : x ≤ 255) (hy : 0 < y) : IntKind.u8.wrap (Int.tdiv x y) = x / y := by
  have h2 := Int.ediv_nonneg h0 (Int.le_of_lt hy)
  have h3 := Int.ediv_le_self y h0
  rw [Int.tdiv_eq_ediv_of_nonneg h0, wu8 (by omega) (by omega)]
theorem rowLit {α : Type} {d : D α} {G : Mem} {e size n c : Nat} {A : Option Addr} {cs : List Value} {xs : List α} (h : RowG G ⟨e, size, .slice A n c, n, cs⟩) (hr : repsD d G xs cs) (hd : 0 < d.sz) : rowAt d G A xs := rowAt_of_cells hr hd (h A n c rfl)
theorem rep_int {k : IntKind} {G : Mem} {x : Int} (h0 : IntKind.lo k ≤ x) (h1 : x ≤ IntKind.hi k) : (D.int k).rep G x [.int k x] := ⟨rfl, h0, h1⟩
theorem rep_slice {α : Type} {d : D α} {G : Mem} {A : Option Addr} {c : Nat} {xs : List α} (h1 : xs.length ≤ c) (h2 : c ≤ maxLen) (h : rowAt d G A xs) : (D.slice d).rep G xs [.slice A xs.length c] := ⟨A, c, rfl, h1, h2, h⟩
theorem reps_ints {k : IntKind} {G : Mem} : ∀ {xs : List Int}, (∀ x ∈ xs, IntKind.lo k ≤ x ∧ x ≤ IntKind.hi k) → repsD (D.int k) G xs (xs.map (Value.int k))
  | [], _ => rfl
  | x :: r, h => ⟨[.int k x], _, rfl, rep_int (h x List.mem_cons_self).1 (h x List.mem_cons_self).2, reps_ints (fun y hy => h y (List.mem_cons_of_mem _ hy))⟩
theorem at_ints {k : IntKind} {G : Mem} {A : Option Addr} {xs : List Int} (R : List (Nat × Row)) (h : rowAt (D.int k) G A xs) : At G R A 0 (xs.map (Value.int k)) := by
  obtain ⟨cs, h1, h2⟩ := At.all R h
  have : ∀ {xs : List Int} {cs : List Value}, repsD (D.int k) G xs cs → cs = xs.map (Value.int k) := by
    intro xs
    induction xs with
    | nil => intro cs h; exact h
    | cons x r ih =>
      rintro cs ⟨c0, c1, rfl, ⟨rfl, _⟩, h1⟩
      rw [ih h1]; rfl
  rw [this h1] at h2
  exact h2
end Go.Proofs.YtjgpdbkkpomhjaaX
