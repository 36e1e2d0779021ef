/- Events of the reckoning: what is told of data in memory that stays; contracts of calls; entering a call and ending it; tests, loops, calls. Conditions: none. -/
import Derived.Test.YthpinlcfcgnilaaX
import Derived.Deep.LoopGhost
namespace Go.Proofs.YthpinlcfcgnilaaX
open Go.RowKit
set_option linter.unusedVariables false
set_option linter.unusedSimpArgs false

/-! ### Memory that stays -/
def cellG (G : Mem) (a : Addr) : Option Value := match G a.block with
  | some (.cells c _ _) => if a.spot.isSome then none else c[a.off]?
  | _ => none
def Hold (G : Mem) (w : World) : Prop := ∀ k o, G k = some o → w.heap[k]? = some o
def Le (G G' : Mem) : Prop := ∀ k o, G k = some o → G' k = some o
structure Ge (G : Mem) (n : Nat) (G' : Mem) : Prop where
  le : Le G G'
  new : ∀ k o, G' k = some o → G k = some o ∨ n ≤ k
theorem Le.refl (G : Mem) : Le G G := fun _ _ h => h
theorem Le.trans {a b c : Mem} (h : Le a b) (k : Le b c) : Le a c := fun i o hi => k i o (h i o hi)
theorem Ge.refl (G : Mem) (n : Nat) : Ge G n G := ⟨Le.refl G, fun _ _ h => .inl h⟩
theorem Ge.trans {a b c : Mem} {n : Nat} (h : Ge a n b) (k : Ge b n c) : Ge a n c := ⟨h.le.trans k.le, fun i o hi => by
  rcases k.new i o hi with h1 | h1
  · exact h.new i o h1
  · exact .inr h1⟩
theorem cell_of_G {G : Mem} {w : World} {a : Addr} {v : Value} (hg : Hold G w) (h : cellG G a = some v) : w.cell? a = some v := by
  unfold cellG at h
  split at h
  · rename_i c t f hc
    simp only [World.cell?, hg _ _ hc]
    exact h
  · cases h
theorem cellG_le {G G' : Mem} {a : Addr} {v : Value} (hl : Le G G') (h : cellG G a = some v) : cellG G' a = some v := by
  unfold cellG at h ⊢
  split at h
  · rename_i c t f hc
    rw [hl _ _ hc]
    exact h
  · cases h

/-! ### Kinds of data -/
structure D (α : Type) where
  sz : Nat
  rep : Mem → α → List Value → Prop
  len : ∀ {G x cs}, rep G x cs → cs.length = sz
  one : ∀ {G x cs}, rep G x cs → ∀ u ∈ cs, u.oneCell' = true
  mono : ∀ {G G' x cs}, Le G G' → rep G x cs → rep G' x cs
/-- Elements one behind the other from an address on. -/
def rowAt {α : Type} (d : D α) (G : Mem) (A : Option Addr) (xs : List α) : Prop :=
  ∀ i (h : i < xs.length), ∃ ad cs, A = some ad ∧ d.rep G xs[i] cs ∧ ∀ j v, cs[j]? = some v → cellG G (ad.add (i * d.sz + j)) = some v
theorem rowAt.mono {α : Type} {d : D α} {G G' : Mem} {A : Option Addr} {xs : List α} (h : rowAt d G A xs) (hl : Le G G') : rowAt d G' A xs := fun i hi => by
  obtain ⟨ad, cs, h1, h2, h3⟩ := h i hi
  exact ⟨ad, cs, h1, d.mono hl h2, fun j v hj => cellG_le hl (h3 j v hj)⟩
theorem rowAt.nil {α : Type} (d : D α) (G : Mem) (A : Option Addr) : rowAt d G A [] := fun i h => absurd h (Nat.not_lt_zero i)
theorem rowAt.isSome {α : Type} {d : D α} {G : Mem} {A : Option Addr} {xs : List α} (h : rowAt d G A xs) {i : Nat} (hi : i < xs.length) : ∃ ad, A = some ad := by
  obtain ⟨ad, _, h1, _⟩ := h i hi
  exact ⟨ad, h1⟩
def IntKind.lo : IntKind → Int
  | .i8 => -128 | .i16 => -32768 | .i32 => -2147483648 | .i64 => -9223372036854775808 | _ => 0
def IntKind.hi : IntKind → Int
  | .i8 => 127 | .i16 => 32767 | .i32 => 2147483647 | .i64 => 9223372036854775807 | .u8 => 255 | .u16 => 65535 | .u32 => 4294967295 | .u64 => 18446744073709551615
def D.int (k : IntKind) : D Int where
  sz := 1
  rep := fun _ x cs => cs = [.int k x] ∧ IntKind.lo k ≤ x ∧ x ≤ IntKind.hi k
  len := fun h => by rw [h.1]; rfl
  one := fun h u hu => by rw [h.1] at hu; rw [List.mem_singleton.1 hu]; rfl
  mono := fun _ h => h
def D.bool : D Bool where
  sz := 1
  rep := fun _ x cs => cs = [.bool x]
  len := fun h => by rw [h]; rfl
  one := fun h u hu => by rw [h] at hu; rw [List.mem_singleton.1 hu]; rfl
  mono := fun _ h => h
def D.str : D ByteArray where
  sz := 1
  rep := fun _ x cs => cs = [.string x] ∧ x.size ≤ maxLen
  len := fun h => by rw [h.1]; rfl
  one := fun h u hu => by rw [h.1] at hu; rw [List.mem_singleton.1 hu]; rfl
  mono := fun _ h => h
def D.slice {α : Type} (d : D α) : D (List α) where
  sz := 1
  rep := fun G xs cs => ∃ A c, cs = [.slice A xs.length c] ∧ xs.length ≤ c ∧ c ≤ maxLen ∧ rowAt d G A xs
  len := by rintro G x cs ⟨A, c, rfl, _⟩; rfl
  one := by rintro G x cs ⟨A, c, rfl, _⟩ u hu; rw [List.mem_singleton.1 hu]; rfl
  mono := by rintro G G' x cs hl ⟨A, c, h1, h2, h3, h4⟩; exact ⟨A, c, h1, h2, h3, h4.mono hl⟩
def D.pair {α β : Type} (a : D α) (b : D β) : D (α × β) where
  sz := a.sz + b.sz
  rep := fun G x cs => ∃ c0 c1, cs = c0 ++ c1 ∧ a.rep G x.1 c0 ∧ b.rep G x.2 c1
  len := by rintro G x cs ⟨c0, c1, rfl, h0, h1⟩; rw [List.length_append, a.len h0, b.len h1]
  one := by
    rintro G x cs ⟨c0, c1, rfl, h0, h1⟩ u hu
    rcases List.mem_append.1 hu with hu | hu
    · exact a.one h0 u hu
    · exact b.one h1 u hu
  mono := by rintro G G' x cs hl ⟨c0, c1, h, h0, h1⟩; exact ⟨c0, c1, h, a.mono hl h0, b.mono hl h1⟩
def D.iso {α β : Type} (d : D α) (f : β → α) : D β where
  sz := d.sz
  rep := fun G x cs => d.rep G (f x) cs
  len := d.len
  one := d.one
  mono := d.mono
/-- So many, one behind the other (an array). -/
def repsD {α : Type} (d : D α) (G : Mem) : List α → List Value → Prop
  | [], cs => cs = []
  | x :: r, cs => ∃ c0 c1, cs = c0 ++ c1 ∧ d.rep G x c0 ∧ repsD d G r c1
theorem repsD.len {α : Type} {d : D α} {G : Mem} : ∀ {xs : List α} {cs : List Value}, repsD d G xs cs → cs.length = xs.length * d.sz
  | [], cs, h => by rw [show cs = [] from h]; simp
  | x :: r, cs, h => by
    obtain ⟨c0, c1, rfl, h0, h1⟩ := h
    rw [List.length_append, d.len h0, repsD.len h1, List.length_cons, Nat.add_mul, Nat.one_mul, Nat.add_comm]
theorem repsD.one {α : Type} {d : D α} {G : Mem} : ∀ {xs : List α} {cs : List Value}, repsD d G xs cs → ∀ u ∈ cs, u.oneCell' = true
  | [], cs, h, u, hu => by rw [show cs = [] from h] at hu; cases hu
  | x :: r, cs, h, u, hu => by
    obtain ⟨c0, c1, rfl, h0, h1⟩ := h
    rcases List.mem_append.1 hu with hu | hu
    · exact d.one h0 u hu
    · exact repsD.one h1 u hu
theorem repsD.mono {α : Type} {d : D α} {G G' : Mem} (hl : Le G G') : ∀ {xs : List α} {cs : List Value}, repsD d G xs cs → repsD d G' xs cs
  | [], _, h => h
  | x :: r, _, h => by
    obtain ⟨c0, c1, h, h0, h1⟩ := h
    exact ⟨c0, c1, h, d.mono hl h0, repsD.mono hl h1⟩
theorem repsD.get {α : Type} {d : D α} {G : Mem} : ∀ {xs : List α} {cs : List Value}, repsD d G xs cs → ∀ i (h : i < xs.length), ∃ c, d.rep G xs[i] c ∧ ∀ j v, c[j]? = some v → cs[i * d.sz + j]? = some v
  | [], _, _, i, h => absurd h (Nat.not_lt_zero i)
  | x :: r, cs, hr, i, h => by
    obtain ⟨c0, c1, rfl, h0, h1⟩ := hr
    cases i with
    | zero => exact ⟨c0, h0, fun j v hj => by rw [Nat.zero_mul, Nat.zero_add]; exact List.getElem?_append_left (List.getElem?_eq_some_iff.mp hj).1 ▸ hj⟩
    | succ i =>
      obtain ⟨c, hc, hg⟩ := repsD.get h1 i (by simpa using h)
      refine ⟨c, hc, fun j v hj => ?_⟩
      have e : (i + 1) * d.sz + j = c0.length + (i * d.sz + j) := by rw [d.len h0, Nat.add_mul, Nat.one_mul]; omega
      rw [e, List.getElem?_append_right (Nat.le_add_right _ _), Nat.add_sub_cancel_left]
      exact hg j v hj
theorem repsD.append {α : Type} {d : D α} {G : Mem} : ∀ {xs ys : List α} {cs ds : List Value}, repsD d G xs cs → repsD d G ys ds → repsD d G (xs ++ ys) (cs ++ ds)
  | [], ys, cs, ds, h, h' => by rw [show cs = [] from h]; exact h'
  | x :: r, ys, cs, ds, h, h' => by
    obtain ⟨c0, c1, rfl, h0, h1⟩ := h
    exact ⟨c0, c1 ++ ds, by rw [List.append_assoc], h0, repsD.append h1 h'⟩
theorem repsD.single {α : Type} {d : D α} {G : Mem} {x : α} {c : List Value} (h : d.rep G x c) : repsD d G [x] c := ⟨c, [], by simp, h, rfl⟩

/-! ### Contracts -/
def RowsOk (n : Nat) (w : World) (G : Mem) : List Row → Prop
  | [] => True
  | r :: l => (w.ownsRow n r.e r.size r.v r.n r.cells ∧ ∀ k, r.v.ownBlock = some k → G k = none) ∧ (∀ q ∈ l, ∀ k, r.v.ownBlock = some k → q.v.ownBlock ≠ some k) ∧ RowsOk n w G l
def PostG (G : Mem) (w : World) (Post : Mem → Value → List Row → Prop) (e : Ending) (w' : World) : Prop :=
  ∃ v G' rows, e = .returned v ∧ Below w.heap.size w w' ∧ Ge G w.heap.size G' ∧ Hold G' w' ∧ RowsOk w.heap.size w' G' rows ∧ Post G' v rows
def CallsG (P : Program) (f : FuncId) (vals : List Value) (G : Mem) (Post : Mem → Value → List Row → Prop) : Prop :=
  ∀ w, Hold G w → Calls P f vals.toArray w (PostG G w Post)
theorem CallsG.mono {P : Program} {f : FuncId} {vals : List Value} {G : Mem} {Post Post' : Mem → Value → List Row → Prop} (h : CallsG P f vals G Post) (hp : ∀ G' v rows, Le G G' → Post G' v rows → Post' G' v rows) : CallsG P f vals G Post' := fun w hw =>
  (h w hw).mono fun e w' ⟨v, G', rows, h1, h2, h3, h4, h5, h6⟩ => ⟨v, G', rows, h1, h2, h3, h4, h5, hp G' v rows h3.le h6⟩
def CtxG (P : Program) (fn : Func) (G : Mem) (w : World) (Post : Mem → Value → List Row → Prop) : Ctx := ⟨P, bodyPost P fn (PostG G w Post), w, ⟨fun _ => False, fun _ => none⟩⟩
def enumV : Nat → List Value → List (Nat × AV)
  | _, [] => []
  | i, x :: r => (i, .v x) :: enumV (i + 1) r
theorem enumV_lk : ∀ {l : List Value} {n i : Nat} {x : AV}, lk (enumV n l) i = some x → n ≤ i ∧ ∃ v, l[i - n]? = some v ∧ x = .v v
  | [], n, i, x, h => by simp [enumV, lk] at h
  | y :: r, n, i, x, h => by
    simp only [enumV, lk_cons] at h
    by_cases e : n = i
    · subst e
      rw [if_pos rfl] at h
      injection h with h
      exact ⟨Nat.le_refl _, y, by simp, h.symm⟩
    · rw [if_neg e] at h
      obtain ⟨h1, v, h2, h3⟩ := enumV_lk h
      refine ⟨by omega, v, ?_, h3⟩
      rw [show i - n = (i - (n + 1)) + 1 by omega]
      exact h2
theorem CallsG.enter {P : Program} {f : FuncId} {fn : Func} {c : Code} {vals : List Value} {G : Mem} {Post : Mem → Value → List Row → Prop} (hf : P.funcs[f]? = some fn) (hb : fn.body = some c) (hn : Nat.ble vals.length fn.ntmps = true)
    (H : ∀ w, X (CtxG P fn G w Post) (.code c) [] ⟨fn.ntmps, enumV 0 vals, []⟩ [] G) : CallsG P f vals G Post := by
  intro w hw
  refine calls_of_wp hf hb ?_
  have hle := Nat.ble_eq.mp hn
  refine H w (fun _ => 0) _ w ⟨fun i x hi => ?_, ?_, rfl, fun i b hi => ?_, fun i b hi => ?_, fun i j b c hi => ?_, fun i r hi => ?_, fun i r k hi => ?_, fun i j r q k hi => ?_, fun i j r b hi => ?_, hw, fun k o j b _ hj => ?_, fun k o i r _ hi => ?_, Fr.refl _ _, fun b g hb => by cases hb⟩
  · obtain ⟨_, v, h2, rfl⟩ := enumV_lk hi
    rw [Nat.sub_zero] at h2
    have hlt := (List.getElem?_eq_some_iff.mp h2).1
    simp only [AV.real]
    rw [Array.getElem?_append_left (by simpa using hlt)]
    simpa using h2
  · simp; omega
  all_goals (first | (simp [lk] at hi; done) | (simp [lk] at hj; done))

/-! ### The end -/
def resAV (P : Program) (s : S) : ResultVar → Option AV
  | .tmp t => lk s.tmps t
  | .cell p t => match lk s.tmps p with
    | some (.own b off) => match lk s.boxes b, spure P (isAgg t), spure P (sizeOf t) with
      | some bx, some false, _ => bx.cells[off]?
      | some bx, some true, some n => match plainAll ((bx.cells.drop off).take n) with
        | some l => if Nat.ble (off + n) bx.cells.length then some (.v (.agg l.toArray)) else none
        | none => none
      | _, _, _ => none
    | _ => none
def resSem (tmps : Array Value) : ResultVar → Sem Value
  | .tmp t => pure (tmps.getD t undef)
  | .cell p t => do loadVar t (← asAddr (tmps.getD p undef))
theorem results_eq (fn : Func) (tmps : Array Value) : results fn tmps = (fn.results.mapM (resSem tmps) >>= fun vs => pure (if h : vs.size = 1 then vs[0] else .tuple vs)) := by
  unfold results
  congr 2
def mkRes (vs : List Value) : Value := match vs with
  | [v] => v
  | vs => .tuple vs.toArray
def resAll (P : Program) (s : S) : List ResultVar → Option (List AV)
  | [] => some []
  | r :: l => match resAV P s r, resAll P s l with
    | some x, some xs => some (x :: xs)
    | _, _ => none
section
variable {P : Program} {w0 w : World} {M : Mk} {ρ : Nat → Nat} {G : Mem} {R : List (Nat × Row)} {s : S} {a : Act}
theorem resAV_run {r : ResultVar} {x : AV} (hs : St w0 M ρ G R s a w) (h : resAV P s r = some x) : (resSem a.tmps r).run P w = .ok (x.real ρ) w := by
  have get : ∀ {t : Nat} {y : AV}, lk s.tmps t = some y → a.tmps.getD t undef = y.real ρ := fun {t y} ht => hs.ev (x := .tmp t) ht
  cases r with
  | tmp t =>
    simp only [resAV] at h
    simp only [resSem, get h]
    rfl
  | cell p t =>
    simp only [resAV] at h
    split at h
    · rename_i b off hp
      simp only [resSem, get hp]
      have h0 : (asAddr ((AV.own b off).real ρ)).run P w = .ok ⟨ρ b, off, none⟩ w := rfl
      have hl : ∀ z, (Instr.loadAt t (ptr (ρ b) off)).run P w = .ok z w → (loadVar t ⟨ρ b, off, none⟩).run P w = .ok z w := fun z hz => by
        unfold Instr.loadAt at hz
        rwa [run_bind_ok (show (Instr.sureAddr (ptr (ρ b) off)).run P w = .ok ⟨ρ b, off, none⟩ w from rfl)] at hz
      rw [run_bind_ok h0]
      split at h
      · rename_i bx hb ht
        exact hl _ (load_one hs hb ht h)
      · rename_i bx n hb ht hn
        split at h
        · rename_i l hpl
          split at h
          · rename_i hle
            injection h with h
            subst h
            exact hl _ (load_all hs hb ht hn hpl (Nat.ble_eq.mp hle))
          · cases h
        · cases h
      · cases h
    · cases h
theorem resAll_run (hs : St w0 M ρ G R s a w) : ∀ {l : List ResultVar} {xs : List AV} {acc : Array Value}, resAll P s l = some xs →
    (l.foldlM (fun (bs : Array Value) r => (resSem a.tmps r >>= fun y => pure (bs.push y) : Sem (Array Value))) acc).run P w = .ok (acc ++ (xs.map (AV.real ρ)).toArray) w
  | [], xs, acc, h => by simp only [resAll, Option.some.injEq] at h; subst h; simp
  | r :: l, xs, acc, h => by
    simp only [resAll] at h
    split at h
    · rename_i x xs' h1 h2
      injection h with h
      subst h
      rw [List.foldlM_cons]
      have hr := resAV_run hs h1
      have hstep : (resSem a.tmps r >>= fun y => pure (acc.push y) : Sem (Array Value)).run P w = .ok (acc.push (x.real ρ)) w := by
        rw [run_bind_ok hr]; rfl
      rw [run_bind_ok hstep, resAll_run hs h2]
      simp
    · cases h
theorem results_run {fn : Func} {xs : List AV} {vs : List Value} (hs : St w0 M ρ G R s a w) (h : resAll P s fn.results.toList = some xs) (hv : xs.map (AV.real ρ) = vs) : (results fn a.tmps).run P w = .ok (mkRes vs) w := by
  rw [results_eq]
  have h1 := resAll_run (acc := #[]) hs h
  have h2 : (fn.results.mapM (resSem a.tmps)).run P w = .ok (vs.toArray) w := by
    rw [Array.mapM_eq_foldlM, ← Array.foldlM_toList]
    simpa [hv] using h1
  rw [run_bind_ok h2]
  match vs with
  | [] => rfl
  | [v] => rfl
  | v :: v' :: l => simp [mkRes]
end
theorem plainAll_real {ρ : Nat → Nat} {l : List AV} {vs : List Value} (h : plainAll l = some vs) : l.map (AV.real ρ) = vs := plainAll_eq h
def pickR (R : List (Nat × Row)) : List Nat → Option (List Row)
  | [] => some []
  | i :: l => match lk R i, pickR R l with
    | some r, some rs => some (r :: rs)
    | _, _ => none
def allDiff : List Nat → Bool
  | [] => true
  | i :: l => l.all (fun j => !Nat.beq i j) && allDiff l
theorem pickR_mem {R : List (Nat × Row)} : ∀ {ids : List Nat} {rs : List Row}, pickR R ids = some rs → ∀ q ∈ rs, ∃ j ∈ ids, lk R j = some q
  | [], rs, h, q, hq => by simp only [pickR, Option.some.injEq] at h; subst h; cases hq
  | i :: l, rs, h, q, hq => by
    simp only [pickR] at h
    split at h
    · rename_i r rs' h1 h2
      injection h with h
      subst h
      rcases List.mem_cons.1 hq with rfl | hq
      · exact ⟨i, List.mem_cons_self, h1⟩
      · obtain ⟨j, hj, hj2⟩ := pickR_mem h2 q hq
        exact ⟨j, List.mem_cons_of_mem _ hj, hj2⟩
    · cases h
theorem rowsOk_of {w0 w : World} {ρ : Nat → Nat} {G : Mem} {R : List (Nat × Row)} {s : S} {a : Act} (hs : St w0 ⟨fun _ => False, fun _ => none⟩ ρ G R s a w) : ∀ {ids : List Nat} {rs : List Row}, pickR R ids = some rs → allDiff ids = true → RowsOk w0.heap.size w G rs
  | [], rs, h, _ => by simp only [pickR, Option.some.injEq] at h; subst h; trivial
  | i :: l, rs, h, hd => by
    simp only [pickR] at h
    split at h
    · rename_i r rs' h1 h2
      injection h with h
      subst h
      simp only [allDiff, Bool.and_eq_true, List.all_eq_true] at hd
      refine ⟨⟨?_, fun k hk => ?_⟩, fun q hq k hk hk2 => ?_, rowsOk_of hs h2 hd.2⟩
      · obtain ⟨o1, o2⟩ := hs.rw i r h1
        refine ⟨o1, ?_⟩
        rcases o2 with o2 | ⟨g, cap, cur, hv, _, rest⟩
        · exact .inl o2
        · exact .inr ⟨g, cap, cur, hv, by rcases hs.ro i r g h1 (by rw [hv]; rfl) with h3 | h3; exact h3; exact h3.elim, rest⟩
      · cases hg : G k with
        | none => rfl
        | some o => exact absurd hk (hs.gr k o i r hg h1)
      · obtain ⟨j, hj, hj2⟩ := pickR_mem h2 q hq
        have := hs.ri i j r q k h1 hj2 hk hk2
        have h4 := hd.1 j hj
        rw [this, Nat.beq_refl] at h4
        cases h4
    · cases h
/-- The call comes to its end. -/
theorem doneG {P : Program} {fn : Func} {G G' : Mem} {w : World} {Post : Mem → Value → List Row → Prop} {e : Exit} {s : S} {R : List (Nat × Row)} {rows : List Row} (he : e = .ret ∨ e = .normal) (vs : List Value) (ids : List Nat)
    (hr : (resAll P s fn.results.toList).bind plainAll = some vs) (hR : pickR R ids = some rows) (hd : allDiff ids = true) (hG : Ge G w.heap.size G') (H : Post G' (mkRes vs) rows) : X (CtxG P fn G w Post) (.ex e) [] s R G' := by
  intro ρ a w' hs
  obtain ⟨xs, h1, h2⟩ := Option.bind_eq_some_iff.mp hr
  have hrun := results_run (fn := fn) hs h1 (plainAll_real h2)
  have hb : Below w.heap.size w w' := hs.fr.below (fun _ h => h)
  have hq : PostG G w Post (.returned (mkRes vs)) w' := ⟨_, G', rows, rfl, hb, hG, hs.g, rowsOk_of hs hR hd, H⟩
  rcases he with rfl | rfl
  · exact ⟨hs.df, _, hrun, hq⟩
  · exact ⟨hs.df, _, hrun, hq⟩

/-! ### Events -/
def guardOk (s : S) (arr : Array Oper) (o : Oper) : Bool := match o.guard with
  | none => true
  | some (j, want) => match yld s arr j with
    | some b => b == some want
    | none => false
section
variable {C : Ctx} {cur : Cur} {k : List CK} {s : S} {R : List (Nat × Row)} {G : Mem} {arr : Array Oper} {o : Oper} {r : List Oper}
theorem guardOk_ok {ρ : Nat → Nat} {a : Act} {w : World} (h : guardOk s arr o = true) (hs : St C.w0 C.M ρ G R s a w) : Region.wanted o (yielded arr a.tmps) = true := by
  unfold guardOk at h
  unfold Region.wanted
  split at h
  · rename_i hg; rw [hg]
  · rename_i j want hg
    rw [hg]
    split at h
    · rename_i b hb
      simp only [yld_ok hb hs]
      exact h
    · cases h
theorem X.op (hg : guardOk s arr o = true) (H : ∀ ρ a w, St C.w0 C.M ρ G R s a w → ∀ next : Act → World → Prop, (∀ ρ' a' w' s' R' G', X C (.ops arr r) k s' R' G' → St C.w0 C.M ρ' G' R' s' a' w' → next a' w') → o.wp C.P a w next (den C k)) : X C (.ops arr (o :: r)) k s R G := by
  intro ρ a w hs
  refine wpList_step fun K hK => ?_
  rw [if_pos (guardOk_ok hg hs)]
  exact H ρ a w hs K (fun ρ' a' w' s' R' G' hX hs' => hK _ _ (hX ρ' a' w' hs'))
/-- A value, by what the run gives. -/
theorem X.val (z : Value) (hg : guardOk s arr o = true) (hc : s.can o.dst = true) (h : ∀ ρ a w, St C.w0 C.M ρ G R s a w → (execOp a.eval o).run C.P w = .ok (.value z) w) (H : X C (.ops arr r) k (s.put o.dst (.v z)) R G) : X C (.ops arr (o :: r)) k s R G :=
  X.op hg fun ρ a w hs next hn => wp_value (h ρ a w hs) (hn ρ _ _ _ _ _ H (hs.put (x := .v z) hc))
/-- The same where the operation looks at no memory but what is told. -/
theorem X.pureOp (z : Value) (hp : (isPure o.op && ((operandsOf o.op).all s.plain && (guardOk s arr o && s.can o.dst))) = true) (h : ∀ w, Hold G w → (execOp s.real o).run C.P w = .ok (.value z) w) (H : X C (.ops arr r) k (s.put o.dst (.v z)) R G) : X C (.ops arr (o :: r)) k s R G := by
  simp only [Bool.and_eq_true, List.all_eq_true] at hp
  refine X.val z hp.2.2.1 hp.2.2.2 (fun ρ a w hs => ?_) H
  have he : execOp a.eval o = execOp s.real o := exec_same hp.1 (fun x hx => by
    obtain ⟨z, h1, h2⟩ := S.plain_real (hp.2.1 x hx)
    rw [h2]
    exact hs.ev h1)
  rw [he]
  exact h w hs.g
/-- A slot's value, told otherwise. -/
theorem X.known (j : Nat) {x y : AV} (hj : lk s.tmps j = some x) (e : x = y) (H : X C cur k { s with tmps := (j, y) :: s.tmps } R G) : X C cur k s R G :=
  X.sub (s' := { s with tmps := (j, y) :: s.tmps }) rfl (fun i z hi => by
    rw [lk_cons] at hi
    by_cases ej : j = i
    · subst ej
      rw [if_pos rfl] at hi
      injection hi with hi
      rw [hj, e, hi]
    · rw [if_neg ej] at hi
      exact hi) (fun _ _ h => h) (fun _ _ h => h) H
/-- A test that is not known: two ways. -/
theorem X.split (j : Nat) {b : Bool} (hj : lk s.tmps j = some (.v (.bool b))) (H1 : b = true → X C cur k { s with tmps := (j, .v (.bool true)) :: s.tmps } R G) (H2 : b = false → X C cur k { s with tmps := (j, .v (.bool false)) :: s.tmps } R G) : X C cur k s R G := by
  cases b with
  | true => exact X.known j hj rfl (H1 rfl)
  | false => exact X.known j hj rfl (H2 rfl)
/-- A test whose answer is known. -/
theorem X.isTrue (j : Nat) {b : Bool} (hj : lk s.tmps j = some (.v (.bool b))) (h : b = true) (H : X C cur k { s with tmps := (j, .v (.bool true)) :: s.tmps } R G) : X C cur k s R G := X.known j hj (by rw [h]) H
theorem X.isFalse (j : Nat) {b : Bool} (hj : lk s.tmps j = some (.v (.bool b))) (h : b = false) (H : X C cur k { s with tmps := (j, .v (.bool false)) :: s.tmps } R G) : X C cur k s R G := X.known j hj (by rw [h]) H
theorem X.mem {G' : Mem} (h : Le G' G) (H : X C cur k s R G') : X C cur k s R G := fun ρ a w hs =>
  H ρ a w ⟨hs.tm, hs.sz, hs.df, hs.bx, hs.bo, hs.bi, hs.rw, hs.ro, hs.ri, hs.rb, fun k o hk => hs.g k o (h k o hk), fun k o j b hk => hs.gb k o j b (h k o hk), fun k o i r hk => hs.gr k o i r (h k o hk), hs.fr, hs.pn⟩
theorem X.rows {R' : List (Nat × Row)} (h : ∀ i r, lk R' i = some r → lk R i = some r) (H : X C cur k s R' G) : X C cur k s R G := X.sub rfl (fun _ _ h => h) (fun _ _ h => h) h H
/-- What of the boxes' and rows' is told can go to what stays. -/
theorem X.noRows (H : X C cur k s [] G) : X C cur k s R G := X.rows (fun i r h => by simp [lk] at h) H

/-! #### Loops -/
theorem X.loop0 {body : Code} (Inv : Nat → S → List (Nat × Row) → Mem → Prop) (m0 : Nat) (h0 : Inv m0 s R G)
    (round : ∀ m s R G, Inv m s R G → X C (.code body) (.loop (fun s R G => ∃ m', m' < m ∧ Inv m' s R G) :: k) s R G) : X C (.code (.loop body)) k s R G := by
  intro ρ a w hs
  refine wp_loop_ghost (fun m a w => ∃ ρ s R G, St C.w0 C.M ρ G R s a w ∧ Inv m s R G) m0 ⟨ρ, s, R, G, hs, h0⟩ ?_
  rintro m a w ⟨ρ, s, R, G, hs, hi⟩
  refine wp_mono (round m s R G hi ρ a w hs) ?_
  intro e a' w' hq
  cases e with
  | normal =>
    obtain ⟨ρ', s', R', G', hs', m', hlt, hi'⟩ := hq
    exact ⟨m', hlt, ρ', s', R', G', hs', hi'⟩
  | exit id => exact hq
  | goto l => exact hq
  | ret => exact hq
  | panic ch => exact hq
  | outgrown => exact hq
/-- The same, what a round must hand on behind a name. -/
theorem X.loopJ {body : Code} (Inv : Nat → S → List (Nat × Row) → Mem → Prop) (m0 : Nat) (h0 : Inv m0 s R G)
    (round : ∀ m s R G, Inv m s R G → ∀ J : S → List (Nat × Row) → Mem → Prop, (∀ m' s R G, Inv m' s R G → m' < m → J s R G) → X C (.code body) (.loop J :: k) s R G) : X C (.code (.loop body)) k s R G :=
  X.loop0 Inv m0 h0 fun m s R G h => round m s R G h _ fun m' s R G h1 h2 => ⟨m', h2, h1⟩
theorem X.again {J : S → List (Nat × Row) → Mem → Prop} (h : J s R G) : X C (.ex .normal) (.loop J :: k) s R G := fun ρ a w hs => ⟨ρ, s, R, G, hs, h⟩
/-- Ways that meet again: what holds where they meet. -/
theorem X.join {c x : Code} (J : S → List (Nat × Row) → Mem → Prop) (H1 : X C (.code c) (.loop J :: k) s R G) (H2 : ∀ s R G, J s R G → X C (.code x) k s R G) : X C (.code (.seq c x)) k s R G := by
  intro ρ a w hs
  refine wp_seq (wp_mono (H1 ρ a w hs) ?_)
  intro e a' w' hq
  cases e with
  | normal =>
    obtain ⟨ρ', s', R', G', hs', hj⟩ := hq
    exact H2 s' R' G' hj ρ' a' w' hs'
  | exit id => exact hq
  | goto l => exact hq
  | ret => exact hq
  | panic ch => exact hq
  | outgrown => exact hq

/-! #### Calls -/
def okFn (P : Program) (f : FuncId) : Bool := match P.funcs[f]? with
  | some fn => !(fn.name == "runtime.NumGoroutine") && fn.body.isSome
  | none => false
theorem enters {P : Program} {f : FuncId} (h : okFn P f = true) (args : Array Value) (w : World) : (callFunc f args).run P w = .ok (.enter f args) w := by
  unfold okFn at h
  split at h
  · rename_i fn hf
    simp only [Bool.and_eq_true, Bool.not_eq_true', beq_eq_false_iff_ne] at h
    obtain ⟨c, hc⟩ := Option.isSome_iff_exists.1 h.2
    simp [callFunc, hf, h.1, hc]
  · cases h
def callArgs (s : S) : List Operand → Option (List AV)
  | [] => some []
  | x :: l => match s.ev x, callArgs s l with
    | some y, some ys => some (y :: ys)
    | _, _ => none
def capsAV (cs : List (Nat × Nat)) : List AV := cs.map fun p => .own p.1 p.2
/-- Which function is called, with what. -/
def calls (s : S) (o : Oper) : Option (FuncId × List AV) := match o.op with
  | .call { callee := .value x, args, .. } => match s.ev x, callArgs s args.toList with
    | some (.fn f cs), some l => some (f, l ++ capsAV cs)
    | some (.mth f b off), some l => some (f, .own b off :: l)
    | _, _ => none
  | _ => none
theorem callArgs_ok {ρ : Nat → Nat} {a : Act} {w : World} (hs : St C.w0 C.M ρ G R s a w) : ∀ {l : List Operand} {ys : List AV}, callArgs s l = some ys → l.map a.eval = ys.map (AV.real ρ)
  | [], ys, h => by simp only [callArgs, Option.some.injEq] at h; subst h; rfl
  | x :: l, ys, h => by
    simp only [callArgs] at h
    split at h
    · rename_i y ys' h1 h2
      injection h with h
      subst h
      simp only [List.map_cons, hs.ev h1, callArgs_ok hs h2]
    · cases h
theorem calls_run {f : FuncId} {l : List AV} {ρ : Nat → Nat} {a : Act} {w : World} (h : calls s o = some (f, l)) (hf : okFn C.P f = true) (hs : St C.w0 C.M ρ G R s a w) : (execOp a.eval o).run C.P w = .ok (.enter f (l.map (AV.real ρ)).toArray) w := by
  unfold calls at h
  split at h
  · rename_i x args ts hop
    split at h
    · rename_i f' cs ys hx hargs
      injection h with h
      obtain ⟨rfl, rfl⟩ := h
      have e1 : a.eval x = (AV.fn f cs).real ρ := hs.ev hx
      have e2 := callArgs_ok hs hargs
      have e3 : args.map a.eval = (ys.map (AV.real ρ)).toArray := by
        apply Array.toList_inj.mp
        rw [Array.toList_map, e2]
      have e4 : (List.map (AV.real ρ) (ys ++ capsAV cs)).toArray = (ys.map (AV.real ρ)).toArray ++ (cs.map fun p => ptr (ρ p.1) p.2).toArray := by
        simp [capsAV, Function.comp_def, AV.real]
      unfold execOp
      simp only [hop]
      unfold resolve
      simp only [e1, e3, AV.real, Deferred.ofValue]
      rw [run_bind_ok (show (pure _ : Sem Deferred).run C.P w = .ok _ w from rfl)]
      unfold invoke
      rw [e4]
      simpa using enters (P := C.P) hf ((ys.map (AV.real ρ)).toArray ++ (cs.map fun p => ptr (ρ p.1) p.2).toArray) w
    · rename_i f' b off ys hx hargs
      injection h with h
      obtain ⟨rfl, rfl⟩ := h
      have e1 : a.eval x = (AV.mth f b off).real ρ := hs.ev hx
      have e2 := callArgs_ok hs hargs
      have e3 : args.map a.eval = (ys.map (AV.real ρ)).toArray := by
        apply Array.toList_inj.mp
        rw [Array.toList_map, e2]
      have e4 : (List.map (AV.real ρ) (.own b off :: ys)).toArray = #[ptr (ρ b) off] ++ (ys.map (AV.real ρ)).toArray := by
        simp [AV.real]
      unfold execOp
      simp only [hop]
      unfold resolve
      simp only [e1, e3, AV.real, Deferred.ofValue]
      rw [run_bind_ok (show (pure _ : Sem Deferred).run C.P w = .ok _ w from rfl)]
      unfold invoke
      rw [e4]
      simpa using enters (P := C.P) hf (#[ptr (ρ b) off] ++ (ys.map (AV.real ρ)).toArray) w
    · cases h
  · cases h
/-- A call, whatever it does to boxes. -/
theorem X.call {f : FuncId} {l : List AV} (hc : calls s o = some (f, l)) (hf : okFn C.P f = true) (hg : guardOk s arr o = true) (H : ∀ ρ a w, St C.w0 C.M ρ G R s a w → Calls C.P f (l.map (AV.real ρ)).toArray w fun e w' => ∃ v, e = .returned v ∧ ∃ ρ' s' R' G', X C (.ops arr r) k s' R' G' ∧ St C.w0 C.M ρ' G' R' s' (a.put o.dst v) w') : X C (.ops arr (o :: r)) k s R G :=
  X.op hg fun ρ a w hs next hn => by
    unfold Oper.wp
    rw [calls_run hc hf hs, Oper.upon_enter]
    refine (H ρ a w hs).mono ?_
    rintro e w' ⟨v, rfl, ρ', s', R', G', hX, hs'⟩
    exact hn _ _ _ _ _ _ hX hs'
def nameRows (nm : Nat) : List Row → List (Nat × Row)
  | [] => []
  | r :: l => (nm, r) :: nameRows (nm + 1) l
theorem nameRows_lk : ∀ {l : List Row} {nm i : Nat} {q : Row}, lk (nameRows nm l) i = some q → nm ≤ i ∧ l[i - nm]? = some q
  | [], nm, i, q, h => by simp [nameRows, lk] at h
  | r :: l, nm, i, q, h => by
    simp only [nameRows, lk_cons] at h
    by_cases e : nm = i
    · subst e
      rw [if_pos rfl] at h
      exact ⟨Nat.le_refl _, by simpa using h⟩
    · rw [if_neg e] at h
      obtain ⟨h1, h2⟩ := nameRows_lk h
      refine ⟨by omega, ?_⟩
      rw [show i - nm = (i - (nm + 1)) + 1 by omega]
      exact h2
theorem lk_append {β : Type} : ∀ {l m : List (Nat × β)} {i : Nat} {x : β}, lk (l ++ m) i = some x → lk l i = some x ∨ lk m i = some x
  | [], m, i, x, h => .inr h
  | (j, y) :: l, m, i, x, h => by
    rw [List.cons_append, lk_cons] at h
    rw [lk_cons]
    by_cases e : j = i
    · rw [if_pos e] at h ⊢
      exact .inl h
    · rw [if_neg e] at h ⊢
      exact lk_append h
theorem rowsOk_get {n : Nat} {w : World} {G : Mem} : ∀ {rows : List Row} {i : Nat} {q : Row}, RowsOk n w G rows → rows[i]? = some q → (w.ownsRow n q.e q.size q.v q.n q.cells ∧ ∀ k, q.v.ownBlock = some k → G k = none)
  | [], i, q, _, h => by simp at h
  | r :: l, 0, q, h, hi => by
    have : r = q := by simpa using hi
    subst this
    exact h.1
  | r :: l, i + 1, q, h, hi => rowsOk_get h.2.2 (by simpa using hi)
theorem rowsOk_ne {n : Nat} {w : World} {G : Mem} : ∀ {rows : List Row} {i j : Nat} {p q : Row} {k : Nat}, RowsOk n w G rows → rows[i]? = some p → rows[j]? = some q → p.v.ownBlock = some k → q.v.ownBlock = some k → i = j
  | [], i, j, p, q, k, _, h, _, _, _ => by simp at h
  | r :: l, 0, 0, p, q, k, _, _, _, _, _ => rfl
  | r :: l, 0, j + 1, p, q, k, h, hi, hj, h1, h2 => by
    have : r = p := by simpa using hi
    subst this
    exact absurd h2 (h.2.1 q (List.mem_of_getElem? (by simpa using hj)) k h1)
  | r :: l, i + 1, 0, p, q, k, h, hi, hj, h1, h2 => by
    have : r = q := by simpa using hj
    subst this
    exact absurd h1 (h.2.1 p (List.mem_of_getElem? (by simpa using hi)) k h2)
  | r :: l, i + 1, j + 1, p, q, k, h, hi, hj, h1, h2 => by
    exact congrArg (· + 1) (rowsOk_ne h.2.2 (i := i) (j := j) (p := p) (q := q) (by simpa using hi) (by simpa using hj) h1 h2)
/-- What a call leaves that changes nothing that was there. -/
theorem St.callG {ρ : Nat → Nat} {a : Act} {w w' : World} {G' : Mem} {rows : List Row} (nm : Nat) (hs : St C.w0 C.M ρ G R s a w) (hb : Below w.heap.size w w') (hG : Ge G w.heap.size G') (hh : Hold G' w') (hr : RowsOk w.heap.size w' G' rows) : St C.w0 C.M ρ G' (nameRows nm rows ++ R) s a w' := by
  have h := hs.below hb
  have hsz := hs.fr.size
  have cases_ : ∀ {i : Nat} {q : Row}, lk (nameRows nm rows ++ R) i = some q → (nm ≤ i ∧ rows[i - nm]? = some q) ∨ (lk (nameRows nm rows) i = none ∧ lk R i = some q) := fun {i q} hi => by
    cases hx : lk (nameRows nm rows) i with
    | none =>
      refine .inr ⟨rfl, ?_⟩
      rcases lk_append hi with h1 | h1
      · rw [hx] at h1; cases h1
      · exact h1
    | some q' =>
      have : q' = q := by
        have happ : ∀ {l m : List (Nat × Row)} {i : Nat} {x : Row}, lk l i = some x → lk (l ++ m) i = some x := by
          intro l
          induction l with
          | nil => intro m i x h; simp [lk] at h
          | cons p l ih =>
            intro m i x h
            obtain ⟨j, y⟩ := p
            rw [lk_cons] at h
            rw [List.cons_append, lk_cons]
            by_cases e : j = i
            · rw [if_pos e] at h ⊢; exact h
            · rw [if_neg e] at h ⊢; exact ih h
        exact (Option.some.inj ((happ (m := R) hx).symm.trans hi))
      subst this
      exact .inl (nameRows_lk hx)
  have new_ge : ∀ {i k : Nat} {q : Row}, rows[i]? = some q → q.v.ownBlock = some k → w.heap.size ≤ k := fun {i k q} hi hk => ((rowsOk_get hr hi).1.lt k hk).1
  refine ⟨h.tm, h.sz, h.df, h.bx, h.bo, h.bi, fun i q hi => ?_, fun i q k hi hk => ?_, fun i j p q k hi hj h1 h2 => ?_, fun i j q b hi hj e => ?_, hh, fun k o j b hk hj => ?_, fun k o i q hk hi e => ?_, h.fr, h.pn⟩
  · rcases cases_ hi with ⟨_, h1⟩ | ⟨_, h1⟩
    · obtain ⟨o1, o2⟩ := (rowsOk_get hr h1).1
      refine ⟨o1, ?_⟩
      rcases o2 with o2 | ⟨g, cap, cur, hv, _, rest⟩
      · exact .inl o2
      · exact .inr ⟨g, cap, cur, hv, Nat.zero_le _, rest⟩
    · exact h.rw i q h1
  · rcases cases_ hi with ⟨_, h1⟩ | ⟨_, h1⟩
    · exact .inl (Nat.le_trans hsz (new_ge h1 hk))
    · exact h.ro i q k h1 hk
  · rcases cases_ hi with ⟨l1, q1⟩ | ⟨n1, q1⟩
    · rcases cases_ hj with ⟨l2, q2⟩ | ⟨n2, q2⟩
      · have := rowsOk_ne hr q1 q2 h1 h2
        omega
      · have := new_ge q1 h1
        have := hs.r_lt q2 h2
        omega
    · rcases cases_ hj with ⟨l2, q2⟩ | ⟨n2, q2⟩
      · have := new_ge q2 h2
        have := hs.r_lt q1 h1
        omega
      · exact h.ri i j p q k q1 q2 h1 h2
  · rcases cases_ hi with ⟨_, h1⟩ | ⟨_, h1⟩
    · have := new_ge h1 e
      have := hs.b_lt hj
      omega
    · exact h.rb i j q b h1 hj e
  · rcases hG.new k o hk with h1 | h1
    · exact h.gb k o j b h1 hj
    · have := hs.b_lt hj
      omega
  · rcases cases_ hi with ⟨_, h1⟩ | ⟨_, h1⟩
    · have := (rowsOk_get hr h1).2 k e
      rw [this] at hk
      cases hk
    · rcases hG.new k o hk with h2 | h2
      · exact h.gr k o i q h2 h1 e
      · have := hs.r_lt h1 e
        omega
theorem X.callG {f : FuncId} {l : List AV} (vals : List Value) {Post : Mem → Value → List Row → Prop} (nm : Nat) (hc : calls s o = some (f, l)) (hv : plainAll l = some vals) (hf : (okFn C.P f && (guardOk s arr o && s.can o.dst)) = true) (hC : CallsG C.P f vals G Post)
    (H : ∀ v G' rows, Ge G C.w0.heap.size G' → Post G' v rows → X C (.ops arr r) k (s.put o.dst (.v v)) (nameRows nm rows ++ R) G') : X C (.ops arr (o :: r)) k s R G := by
  simp only [Bool.and_eq_true] at hf
  refine X.call hc hf.1 hf.2.1 fun ρ a w hs => ?_
  rw [plainAll_eq (ρ := ρ) hv]
  refine (hC w hs.g).mono ?_
  rintro e w' ⟨v, G', rows, rfl, hb, hG, hh, hr, hp⟩
  refine ⟨v, rfl, ρ, _, _, G', H v G' rows ⟨hG.le, fun k o hk => ?_⟩ hp, ?_⟩
  · rcases hG.new k o hk with h1 | h1
    · exact .inl h1
    · exact .inr (Nat.le_trans hs.fr.size h1)
  · exact (hs.callG nm hb hG hh hr).put (x := .v v) hf.2.2
end
end Go.Proofs.YthpinlcfcgnilaaX
