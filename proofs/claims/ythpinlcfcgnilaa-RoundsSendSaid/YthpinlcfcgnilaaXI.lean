/- A call walked in place: the caller's boxes and rows are the callee's, too. Conditions: none. -/
import Derived.Test.YthpinlcfcgnilaaXD
import Derived.LoopN
namespace Go.Proofs.YthpinlcfcgnilaaX
open Go.RowKit
set_option linter.unusedVariables false
set_option linter.unusedSimpArgs false

def shAV : AV → AV
  | .v x => .v x
  | .own b o => .own (b + 1000) o
  | .fn f cs => .fn f (cs.map fun p => (p.1 + 1000, p.2))
  | .mth f b o => .mth f (b + 1000) o
def unAV : AV → Option AV
  | .v x => some (.v x)
  | .own b o => if Nat.ble 1000 b then some (.own (b - 1000) o) else none
  | .fn f cs => if cs.all (fun p => Nat.ble 1000 p.1) then some (.fn f (cs.map fun p => (p.1 - 1000, p.2))) else none
  | .mth f b o => if Nat.ble 1000 b then some (.mth f (b - 1000) o) else none
def unAll : List AV → Option (List AV)
  | [] => some []
  | x :: l => match unAV x, unAll l with
    | some y, some ys => some (y :: ys)
    | _, _ => none
def shBoxes : List (Nat × Box) → List (Nat × Box)
  | [] => []
  | (i, b) :: l => (i + 1000, ⟨b.t, b.cells.map shAV⟩) :: shBoxes l
def unBoxes : List (Nat × Box) → Option (List (Nat × Box))
  | [] => some []
  | (i, b) :: l => if Nat.ble 1000 i then match unAll b.cells, unBoxes l with
      | some cs, some l' => some ((i - 1000, ⟨b.t, cs⟩) :: l')
      | _, _ => none
    else unBoxes l
def enumA : Nat → List AV → List (Nat × AV)
  | _, [] => []
  | i, x :: r => (i, x) :: enumA (i + 1) r
theorem enumA_lk : ∀ {l : List AV} {n i : Nat} {x : AV}, lk (enumA n l) i = some x → n ≤ i ∧ l[i - n]? = some x
  | [], n, i, x, h => by simp [enumA, lk] at h
  | y :: r, n, i, x, h => by
    simp only [enumA, lk_cons] at h
    by_cases e : n = i
    · subst e
      rw [if_pos rfl] at h
      injection h with h
      exact ⟨Nat.le_refl _, by simp [h]⟩
    · rw [if_neg e] at h
      obtain ⟨h1, h2⟩ := enumA_lk h
      refine ⟨by omega, ?_⟩
      rw [show i - n = (i - (n + 1)) + 1 by omega]
      exact h2
def ρc (ρ : Nat → Nat) : Nat → Nat := fun i => if 1000 ≤ i then ρ (i - 1000) else 0
theorem ρc_add (ρ : Nat → Nat) (i : Nat) : ρc ρ (i + 1000) = ρ i := by simp [ρc]
theorem shAV_real {ρ : Nat → Nat} (x : AV) : (shAV x).real (ρc ρ) = x.real ρ := by
  cases x with
  | v x => rfl
  | own b o => simp [shAV, AV.real, ρc_add]
  | mth f b o => simp [shAV, AV.real, ρc_add]
  | fn f cs => simp [shAV, AV.real, ρc_add, Function.comp_def]
theorem shBoxes_lk : ∀ {l : List (Nat × Box)} {i : Nat} {b : Box}, lk (shBoxes l) i = some b → ∃ j c, i = j + 1000 ∧ lk l j = some c ∧ b = ⟨c.t, c.cells.map shAV⟩
  | [], i, b, h => by simp [shBoxes, lk] at h
  | (j, c) :: l, i, b, h => by
    simp only [shBoxes, lk_cons] at h
    by_cases e : j + 1000 = i
    · rw [if_pos e] at h
      injection h with h
      exact ⟨j, c, e.symm, by rw [lk_cons, if_pos rfl], h.symm⟩
    · rw [if_neg e] at h
      obtain ⟨j', c', rfl, h1, h2⟩ := shBoxes_lk h
      exact ⟨j', c', rfl, by rw [lk_cons, if_neg (by omega)]; exact h1, h2⟩
theorem unBoxes_lk : ∀ {l l' : List (Nat × Box)}, unBoxes l = some l' → ∀ {i : Nat} {b : Box}, lk l' i = some b → ∃ c, lk l (i + 1000) = some c ∧ b.t = c.t ∧ unAll c.cells = some b.cells
  | [], l', h, i, b, hi => by simp only [unBoxes, Option.some.injEq] at h; subst h; simp [lk] at hi
  | (j, c) :: l, l', h, i, b, hi => by
    simp only [unBoxes] at h
    split at h
    · rename_i hj
      have hj := Nat.ble_eq.mp hj
      split at h
      · rename_i cs l2 h1 h2
        injection h with h
        subst h
        rw [lk_cons] at hi
        rw [lk_cons]
        by_cases e : j - 1000 = i
        · rw [if_pos e] at hi
          injection hi with hi
          subst hi
          exact ⟨c, if_pos (by omega), rfl, h1⟩
        · rw [if_neg e] at hi
          rw [if_neg (by omega)]
          exact unBoxes_lk h2 hi
      · cases h
    · rename_i hj
      have hj : ¬ 1000 ≤ j := fun e => hj (Nat.ble_eq.mpr e)
      rw [lk_cons, if_neg (by omega)]
      exact unBoxes_lk h hi
theorem unAV_real {ρ ρ2 : Nat → Nat} (hρ : ∀ i, ρ2 (i + 1000) = ρ i) {x y : AV} (h : unAV x = some y) : x.real ρ2 = y.real ρ := by
  have hs : ∀ b, Nat.ble 1000 b = true → ρ2 b = ρ (b - 1000) := fun b hb => by
    have := Nat.ble_eq.mp hb
    rw [← hρ (b - 1000), Nat.sub_add_cancel this]
  cases x with
  | v x => simp only [unAV, Option.some.injEq] at h; subst h; rfl
  | own b o =>
    simp only [unAV] at h
    split at h
    · rename_i hb
      injection h with h
      subst h
      simp [AV.real, hs b hb]
    · cases h
  | mth f b o =>
    simp only [unAV] at h
    split at h
    · rename_i hb
      injection h with h
      subst h
      simp [AV.real, hs b hb]
    · cases h
  | fn f cs =>
    simp only [unAV] at h
    split at h
    · rename_i hb
      injection h with h
      subst h
      simp only [AV.real, List.map_map]
      congr 2
      refine List.map_congr_left fun p hp => ?_
      simp only [Function.comp_apply]
      rw [hs p.1 (List.all_eq_true.mp hb p hp)]
    · cases h
theorem unAll_real {ρ ρ2 : Nat → Nat} (hρ : ∀ i, ρ2 (i + 1000) = ρ i) : ∀ {l l' : List AV}, unAll l = some l' → l.map (AV.real ρ2) = l'.map (AV.real ρ)
  | [], l', h => by simp only [unAll, Option.some.injEq] at h; subst h; rfl
  | x :: l, l', h => by
    simp only [unAll] at h
    split at h
    · rename_i y ys h1 h2
      injection h with h
      subst h
      simp only [List.map_cons, unAV_real hρ h1, unAll_real hρ h2]
    · cases h
/-- What the callee begins with. -/
def inS (fn : Func) (l : List AV) (s : S) : S := ⟨fn.ntmps, enumA 0 (l.map shAV), shBoxes s.boxes⟩
section
variable {C : Ctx} {arr : Array Oper} {k : List CK} {s : S} {R : List (Nat × Row)} {G : Mem} {o : Oper} {r : List Oper}
theorem QOk.body {P : Program} {fn : Func} {R : Ending → World → Prop} {w0 : World} {M : Mk} : QOk ⟨P, bodyPost P fn R, w0, M⟩ := fun c a w' d v h => by
  have : (a.put d v).defers = a.defers := by cases d <;> rfl
  have h : (a.put d v).defers = [] ∧ R (.panicked c) w' := h
  rw [this] at h
  exact h
theorem X.inline {f : FuncId} {l : List AV} {fn : Func} {c : Code} (hc : calls s o = some (f, l)) (hf : (okFn C.P f && (guardOk s arr o && (s.can o.dst && Nat.ble l.length fn.ntmps))) = true) (hfn : C.P.funcs[f]? = some fn) (hb : fn.body = some c)
    (H : ∀ Q' M', (∀ b, 1000 ≤ b → (M'.pin b).isSome = true) → QOk ⟨C.P, Q', C.w0, M'⟩ →
      (∀ e s2 R2 G2 vs bs, (e = .ret ∨ e = .normal) → (resAll C.P s2 fn.results.toList).bind plainAll = some vs → unBoxes s2.boxes = some bs →
        X C (.ops arr r) k (({ n := s.n, tmps := s.tmps, boxes := bs } : S).put o.dst (.v (mkRes vs))) R2 G2 → X ⟨C.P, Q', C.w0, M'⟩ (.ex e) [] s2 R2 G2) →
      X ⟨C.P, Q', C.w0, M'⟩ (.code c) [] (inS fn l s) R G) : X C (.ops arr (o :: r)) k s R G := by
  simp only [Bool.and_eq_true] at hf
  refine X.call hc hf.1 hf.2.1 fun ρ a w hs => ?_
  have hle := Nat.ble_eq.mp hf.2.2.2
  refine calls_of_wp hfn hb ?_
  refine H (bodyPost C.P fn fun e w' => ∃ v, e = .returned v ∧ ∃ ρ' s' R' G', X C (.ops arr r) k s' R' G' ∧ St C.w0 C.M ρ' G' R' s' (a.put o.dst v) w')
    ⟨C.M.can, fun i => if 1000 ≤ i then some (ρ (i - 1000)) else none⟩ (fun b hb => by simp [hb]) QOk.body ?_ (ρc ρ) _ w ?_
  · intro e s2 R2 G2 vs bs he hr hbs HX ρ2 a2 w2 hs2
    obtain ⟨xs, h1, h2⟩ := Option.bind_eq_some_iff.mp hr
    have hrun := results_run (fn := fn) hs2 h1 (plainAll_real h2)
    have hρ : ∀ i, ρ2 (i + 1000) = ρ i := fun i => (hs2.pn (i + 1000) (ρ i) (by simp)).2
    have hst : St C.w0 C.M ρ G2 R2 ⟨s.n, s.tmps, bs⟩ a w2 := by
      refine ⟨hs.tm, hs.sz, hs.df, fun i b hi => ?_, fun i b hi => ?_, fun i j b c hi hj e => ?_, hs2.rw, hs2.ro, hs2.ri, fun i j r b hi hj => ?_, hs2.g, fun k o j b hk hj => ?_, hs2.gr, hs2.fr, hs.pn⟩
      · obtain ⟨c2, h3, h4, h5⟩ := unBoxes_lk hbs hi
        have := hs2.bx _ _ h3
        rw [hρ i] at this
        rw [this, Box.obj, Box.obj, h4, unAll_real hρ h5]
      · obtain ⟨c2, h3, _⟩ := unBoxes_lk hbs hi
        have := hs2.bo _ _ h3
        rwa [hρ i] at this
      · obtain ⟨c2, h3, _⟩ := unBoxes_lk hbs hi
        obtain ⟨c3, h4, _⟩ := unBoxes_lk hbs hj
        have := hs2.bi _ _ _ _ h3 h4 (by rw [hρ, hρ]; exact e)
        omega
      · obtain ⟨c3, h4, _⟩ := unBoxes_lk hbs hj
        have := hs2.rb _ _ _ _ hi h4
        rwa [hρ j] at this
      · obtain ⟨c3, h4, _⟩ := unBoxes_lk hbs hj
        have := hs2.gb _ _ _ _ hk h4
        rwa [hρ j] at this
    rcases he with rfl | rfl
    · exact ⟨hs2.df, _, hrun, _, rfl, ρ, _, R2, G2, HX, hst.put (x := .v _) hf.2.2.1⟩
    · exact ⟨hs2.df, _, hrun, _, rfl, ρ, _, R2, G2, HX, hst.put (x := .v _) hf.2.2.1⟩
  · have hmap : (l.map shAV).map (AV.real (ρc ρ)) = l.map (AV.real ρ) := by
      rw [List.map_map]
      exact List.map_congr_left fun x _ => shAV_real x
    refine ⟨fun i x hi => ?_, ?_, rfl, fun i b hi => ?_, fun i b hi => ?_, fun i j b c hi hj e => ?_, hs.rw, hs.ro, hs.ri, fun i j r b hi hj => ?_, hs.g, fun k o j b hk hj => ?_, hs.gr, hs.fr, fun b g hb => ?_⟩
    · obtain ⟨_, h2⟩ := enumA_lk hi
      rw [Nat.sub_zero] at h2
      have h3 : (l.map (AV.real ρ))[i]? = some (x.real (ρc ρ)) := by rw [← hmap, List.getElem?_map, h2]; rfl
      have hlt := (List.getElem?_eq_some_iff.mp h3).1
      rw [Array.getElem?_append_left (by simpa using hlt)]
      simpa using h3
    · simp [inS]; omega
    · obtain ⟨j, c, rfl, h1, rfl⟩ := shBoxes_lk hi
      rw [ρc_add, hs.bx j c h1, Box.obj, Box.obj]
      simp only [List.map_map]
      rw [show c.cells.map (AV.real (ρc ρ) ∘ shAV) = c.cells.map (AV.real ρ) from List.map_congr_left fun x _ => shAV_real x]
    · obtain ⟨j, c, rfl, h1, rfl⟩ := shBoxes_lk hi
      rw [ρc_add]
      exact hs.bo j c h1
    · obtain ⟨i', c1, rfl, h1, rfl⟩ := shBoxes_lk hi
      obtain ⟨j', c2, rfl, h2, rfl⟩ := shBoxes_lk hj
      rw [ρc_add, ρc_add] at e
      rw [hs.bi i' j' c1 c2 h1 h2 e]
    · obtain ⟨j', c2, rfl, h2, rfl⟩ := shBoxes_lk hj
      rw [ρc_add]
      exact hs.rb i j' r c2 hi h2
    · obtain ⟨j', c2, rfl, h2, rfl⟩ := shBoxes_lk hj
      rw [ρc_add]
      exact hs.gb k o j' c2 hk h2
    · simp only at hb
      split at hb
      · rename_i h1
        injection hb with hb
        exact ⟨h1, by rw [← hb]; simp [ρc, h1]⟩
      · cases hb
theorem X.tellR {cur : Cur} (ids : List Nat) {R' : List (Nat × Row)} (h : pickL R ids = R') (H : X C cur k s R' G) : X C cur k s R G := X.rows (fun i q hi => pickL_lk (ids := ids) (by rw [h]; exact hi)) H
theorem ones {l : List Value} (h : l.all one = true) : ∀ u ∈ l, u.oneCell' = true := fun u hu => one_of (List.all_eq_true.mp h u hu)
theorem ones_ints {kd : IntKind} {l : List Int} : ∀ u ∈ l.map (Value.int kd), u.oneCell' = true := fun u hu => by
  obtain ⟨x, _, rfl⟩ := List.mem_map.mp hu
  rfl
/-- A loop, round by round. -/
def RX (C : Ctx) (c : Code) (k : List CK) (n : Nat) (s : S) (R : List (Nat × Row)) (G : Mem) : Prop := ∀ ρ a w, St C.w0 C.M ρ G R s a w → Code.rounds C.P c (den C k) n a w
theorem X.rounds {c : Code} (n : Nat) (H : RX C c k n s R G) : X C (.code (.loop c)) k s R G := fun ρ a w hs => wp_loop_rounds n (H ρ a w hs)
theorem RX.succ {c : Code} {n : Nat} (H : ∀ J : S → List (Nat × Row) → Mem → Prop, (∀ s R G, RX C c k n s R G → J s R G) → X C (.code c) (.loop J :: k) s R G) : RX C c k (n + 1) s R G := by
  intro ρ a w hs
  have h := H (fun s R G => RX C c k n s R G) (fun _ _ _ h => h) ρ a w hs
  refine wp_mono h ?_
  intro e a' w' hq
  cases e with
  | normal =>
    obtain ⟨ρ', s', R', G', hs', hr⟩ := hq
    exact hr ρ' a' w' hs'
  | exit id => exact hq
  | goto l => exact hq
  | ret => exact hq
  | panic ch => exact hq
  | outgrown => exact hq
end
end Go.Proofs.YthpinlcfcgnilaaX
