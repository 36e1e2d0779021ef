/- Regions that draw their order: what floats is taken first; what alone may come next is walked as elsewhere. Conditions: none. -/
import Derived.Test.YthpinlcfcgnilaaX4
import Derived.Test.YthpinlcfcgnilaaWTab
namespace Go.Proofs.YthpinlcfcgnilaaX
open Go.RowKit
open Go.Proofs.YthpinlcfcgnilaaW.PrintLast
set_option linter.unusedVariables false
set_option linter.unusedSimpArgs false

theorem wp_keep {P : Program} {o : Oper} {a : Act} {w : World} {K : Act → World → Prop} {Q Q' : Exit → Act → World → Prop} (hQ : ∀ e a w, e ≠ .normal → Q e a w → Q' e a w) (h : o.wp P a w K Q) :
    o.wp P a w (fun a' w' => K a' w' ∧ ∀ t, o.dst ≠ some t → a'.tmps[t]? = a.tmps[t]?) Q' := by
  have put_ : ∀ (a : Act) v t, o.dst ≠ some t → (a.put o.dst v).tmps[t]? = a.tmps[t]? := fun a v t ht => by
    cases hd : o.dst with
    | none => rfl
    | some d =>
      have : d ≠ t := fun e => ht (by rw [hd, e])
      simp [Act.put, this]
  unfold Oper.wp at *
  generalize (execOp a.eval o).run P w = r at *
  cases r with
  | ok x w' =>
    cases x with
    | value v => exact ⟨h, put_ a v⟩
    | skip => exact ⟨h, put_ a _⟩
    | defer d => exact ⟨h, put_ _ _⟩
    | enter f args =>
      refine Calls.mono h ?_
      intro e w'' he
      cases e with
      | returned v => exact ⟨he, put_ a v⟩
      | panicked c => exact hQ _ _ _ (by simp) he
      | outgrown =>
        obtain ⟨a1, w1, h1⟩ := he
        exact ⟨a1, w1, hQ _ _ _ (by simp) h1⟩
    | row r args => exact Rows.mono h (fun v w'' he => ⟨he, put_ a v⟩)
    | _ => exact h.elim
  | halt e w' =>
    cases e with
    | panic v => exact hQ _ _ _ (by simp) h
    | _ => exact h.elim

structure Pin where
  t : Option Nat
  b : Nat
  ty : TypeId
  cells : List AV
def SF (ρ0 : Nat → Nat) (F : List Pin) (RF : List (Nat × Row)) (G : Mem) (w : World) : Prop :=
  Hold G w ∧ (∀ p ∈ F, w.heap[ρ0 p.b]? = some (.cells (p.cells.map (AV.real ρ0)).toArray p.ty (0, 0))) ∧ ∀ i q, lk RF i = some q → w.ownsRow 0 q.e q.size q.v q.n q.cells
def Pinned1 (s : S) (p : Pin) : Prop := (∀ t, p.t = some t → lk s.tmps t = some (.own p.b 0)) ∧ lk s.boxes p.b = some ⟨p.ty, p.cells⟩
def PinsOk (s : S) : List Pin → Prop
  | [] => True
  | p :: l => Pinned1 s p ∧ PinsOk s l
theorem PinsOk.each {s : S} : ∀ {F : List Pin}, PinsOk s F → ∀ p ∈ F, Pinned1 s p
  | p :: l, h, q, hq => by
    rcases List.mem_cons.1 hq with rfl | hq
    · exact h.1
    · exact PinsOk.each h.2 q hq
def hasPin (F : List Pin) (b : Nat) : Bool := F.any fun q => Nat.beq q.b b
def refsOk (F : List Pin) : Bool := F.all fun p => p.cells.all fun x => match x with
  | .v _ => true
  | .own b _ => hasPin F b
  | .fn _ cs => cs.all fun c => hasPin F c.1
  | .mth _ b _ => hasPin F b
theorem hasPin_eq {F : List Pin} {ρ ρ0 : Nat → Nat} (h : ∀ p ∈ F, ρ p.b = ρ0 p.b) {b : Nat} (hb : hasPin F b = true) : ρ b = ρ0 b := by
  obtain ⟨q, hq, e⟩ := List.any_eq_true.mp hb
  have := Nat.eq_of_beq_eq_true e
  rw [← this]
  exact h q hq
theorem refs_real {F : List Pin} {ρ ρ0 : Nat → Nat} (hr : refsOk F = true) (h : ∀ p ∈ F, ρ p.b = ρ0 p.b) {p : Pin} (hp : p ∈ F) : p.cells.map (AV.real ρ) = p.cells.map (AV.real ρ0) := by
  refine List.map_congr_left fun x hx => ?_
  have h1 := List.all_eq_true.mp (List.all_eq_true.mp hr p hp) x hx
  cases x with
  | v z => rfl
  | own b o => simp only [AV.real]; rw [hasPin_eq h h1]
  | mth f b o => simp only [AV.real]; rw [hasPin_eq h h1]
  | fn f cs =>
    simp only [AV.real]
    congr 2
    refine List.map_congr_left fun c hc => ?_
    rw [hasPin_eq h (List.all_eq_true.mp h1 c hc)]
def sameT (M : Mk) (F : List Pin) (a : Act) (ρ0 : Nat → Nat) : Prop := ∀ p ∈ F, (∀ t, p.t = some t → a.tmps[t]? = some (ptr (ρ0 p.b) 0)) ∧ (p.t = none → M.pin p.b = some (ρ0 p.b))
def offPin (d : Option Nat) (p : Pin) : Bool := match p.t with
  | some t => !(d == some t)
  | none => true
def XD (C : Ctx) (arr : Array Oper) (ρ0 : Nat → Nat) (F : List Pin) (RF : List (Nat × Row)) (G0 : Mem) (ds : List Nat) (n : Nat) (l : Array Bool) (k : List CK) (s : S) (R : List (Nat × Row)) (G : Mem) : Prop :=
  refsOk F = true → PinsOk s F → Le G0 G → pickL R (RF.map (·.1)) = RF → ∀ ρ a w, St C.w0 C.M ρ G R s a w → sameT C.M F a ρ0 → wpAnyLast C.P .any arr (den C k) (SF ρ0 F RF G0) ds n l a w
/-- The same behind what writes to what was pinned. -/
def XE (C : Ctx) (arr : Array Oper) (ρ0 : Nat → Nat) (F : List Pin) (RF : List (Nat × Row)) (G0 : Mem) (ds : List Nat) (n : Nat) (l : Array Bool) (k : List CK) (s : S) (R : List (Nat × Row)) (G : Mem) : Prop :=
  ∀ ρ a w, St C.w0 C.M ρ G R s a w → wpAnyLast C.P .any arr (den C k) (SF ρ0 F RF G0) ds n l a w
section
variable {C : Ctx} {arr : Array Oper} {ρ0 : Nat → Nat} {F : List Pin} {RF : List (Nat × Row)} {G0 G : Mem} {ds : List Nat} {n : Nat} {l l' : Array Bool} {k : List CK} {s : S} {R : List (Nat × Row)}
theorem St.pinρ {ρ : Nat → Nat} {a : Act} {w : World} (hs : St C.w0 C.M ρ G R s a w) (hp : PinsOk s F) (ha : sameT C.M F a ρ0) : ∀ p ∈ F, ρ p.b = ρ0 p.b := fun p hm => by
  cases hpt : p.t with
  | none => exact (hs.pn _ _ ((ha p hm).2 hpt)).2
  | some t =>
    have h5 := hs.tm _ _ ((hp.each p hm).1 t hpt)
    rw [(ha p hm).1 t hpt] at h5
    simp only [AV.real, ptr, Option.some.injEq, Value.pointer.injEq, Addr.mk.injEq] at h5
    exact h5.1.symm
theorem subR {R RF : List (Nat × Row)} (h : pickL R (RF.map (·.1)) = RF) : ∀ i q, lk RF i = some q → lk R i = some q := fun i q hi => pickL_lk (ids := RF.map (·.1)) (by rw [h]; exact hi)
theorem St.pinS {ρ : Nat → Nat} {a : Act} {w : World} (hs : St C.w0 C.M ρ G R s a w) (hr : refsOk F = true) (hp : PinsOk s F) (hG : Le G0 G) (hR : pickL R (RF.map (·.1)) = RF) (ha : sameT C.M F a ρ0) : SF ρ0 F RF G0 w := by
  refine ⟨fun q o hq => hs.g q o (hG q o hq), fun p hm => ?_, fun i q hi => hs.rw i q (subR hR i q hi)⟩
  have h1 := hs.pinρ hp ha
  rw [← h1 p hm, hs.bx _ _ (hp.each p hm).2, Box.obj, refs_real hr h1 hm]
def pinBoxes : List Pin → List (Nat × Box)
  | [] => []
  | p :: l => (p.b, ⟨p.ty, p.cells⟩) :: pinBoxes l
theorem pinBoxes_lk : ∀ {F : List Pin} {b : Nat} {bx : Box}, lk (pinBoxes F) b = some bx → ∃ p ∈ F, b = p.b ∧ bx = ⟨p.ty, p.cells⟩
  | [], b, bx, h => by simp [pinBoxes, lk] at h
  | p :: l, b, bx, h => by
    simp only [pinBoxes, lk_cons] at h
    by_cases e : p.b = b
    · rw [if_pos e] at h
      injection h with h
      exact ⟨p, by simp, e.symm, h.symm⟩
    · rw [if_neg e] at h
      obtain ⟨q, hq, r⟩ := pinBoxes_lk h
      exact ⟨q, by simp [hq], r⟩
def S.pinned (s : S) (F : List Pin) : S := ⟨s.n, s.tmps, pinBoxes F⟩
/-- In every world that keeps what is pinned, the state is as told, but for what is not pinned. -/
theorem St.pinned {ρ : Nat → Nat} {a : Act} {w w2 : World} (hs : St C.w0 C.M ρ G R s a w) (hr : refsOk F = true) (hp : PinsOk s F) (hG : Le G0 G) (hR : pickL R (RF.map (·.1)) = RF) (ha : sameT C.M F a ρ0) (h2 : SF ρ0 F RF G0 w2) : St w2 ⟨fun _ => True, fun _ => none⟩ ρ G0 RF (s.pinned F) a w2 := by
  have h1 := hs.pinρ hp ha
  have sub := subR hR
  refine ⟨hs.tm, hs.sz, hs.df, fun i b hi => ?_, fun _ _ _ => .inr trivial, fun i j b c hi hj e => ?_, h2.2.2, fun _ _ _ _ _ => .inr trivial, fun i j r q k hi hj h3 h4 => hs.ri i j r q k (sub _ _ hi) (sub _ _ hj) h3 h4, fun i j r b hi hj => ?_, h2.1, fun q o j b hq hj => ?_, fun k o i r hk hi => hs.gr k o i r (hG k o hk) (sub _ _ hi), Fr.refl _ _, fun b g hb => by cases hb⟩
  · obtain ⟨p, hm, rfl, rfl⟩ := pinBoxes_lk hi
    rw [h1 p hm, h2.2.1 p hm, Box.obj, refs_real hr h1 hm]
  · obtain ⟨p, hm, rfl, rfl⟩ := pinBoxes_lk hi
    obtain ⟨q, hq, rfl, rfl⟩ := pinBoxes_lk hj
    exact hs.bi _ _ _ _ (hp.each p hm).2 (hp.each q hq).2 e
  · obtain ⟨q, hq, rfl, rfl⟩ := pinBoxes_lk hj
    exact hs.rb i _ r _ (sub _ _ hi) (hp.each q hq).2
  · obtain ⟨p, hm, rfl, rfl⟩ := pinBoxes_lk hj
    exact hs.gb q o _ _ (hG q o hq) (hp.each p hm).2
/-- What an operation yields that only looks. -/
def opVal (P : Program) (o : Oper) (s : S) : Option AV :=
  match o.op with
  | .move x | .assign x => s.ev x
  | .pick c x y => match s.ev c, s.ev x, s.ev y with
    | some (.v (.bool true)), some x, some _ => some x
    | some (.v (.bool false)), some _, some y => some y
    | _, _, _ => none
  | .load t x => match s.ev x with
    | some (.own b off) => match lk s.boxes b, spure P (isAgg t), spure P (sizeOf t) with
      | some bx, some false, _ => bx.cells[off]?
      | some bx, some true, some n => match plainAll ((bx.cells.drop off).take n) with
        | some l => if Nat.ble (off + n) bx.cells.length then some (.v (.agg l.toArray)) else none
        | none => none
      | _, _, _ => none
    | _ => none
  | .fieldAddr t x f => match s.ev x with
    | some (.own b off) => match fieldOff P t f with
      | some n => some (.own b (off + n))
      | none => none
    | _ => none
  | _ => if isPure o.op && (operandsOf o.op).all s.plain then match spure P (execOp s.real o) with
      | some (.value z) => some (.v z)
      | _ => none
    else none
theorem opVal_ok {P : Program} {w0 w : World} {M : Mk} {ρ : Nat → Nat} {a : Act} {o : Oper} {y : AV} (h : opVal P o s = some y) (hs : St w0 M ρ G R s a w) : (execOp a.eval o).run P w = .ok (.value (y.real ρ)) w := by
  obtain ⟨dst, op, ty, pos, af, gd⟩ := o
  have pureCase : (if isPure op && (operandsOf op).all s.plain then match spure P (execOp s.real ⟨dst, op, ty, pos, af, gd⟩) with
      | some (.value z) => some (AV.v z)
      | _ => none
    else none) = some y → (execOp a.eval ⟨dst, op, ty, pos, af, gd⟩).run P w = .ok (.value (y.real ρ)) w := fun h => by
    split at h
    · rename_i hc
      simp only [Bool.and_eq_true, List.all_eq_true] at hc
      split at h
      · rename_i z hz
        injection h with h
        subst h
        have he : execOp a.eval ⟨dst, op, ty, pos, af, gd⟩ = execOp s.real ⟨dst, op, ty, pos, af, gd⟩ := exec_same hc.1 (fun x hx => by
          obtain ⟨z, h1, h2⟩ := S.plain_real (hc.2 x hx)
          rw [h2]
          exact hs.ev h1)
        rw [he]
        exact spure_run hz w
      · cases h
    · cases h
  cases op with
  | move x => simp only [opVal] at h; have := hs.ev h; unfold execOp; simp only [this]; rfl
  | assign x => simp only [opVal] at h; have := hs.ev h; unfold execOp; simp only [this]; rfl
  | pick c x y =>
    simp only [opVal] at h
    split at h
    · rename_i hc hx hy
      injection h with h
      subst h
      have e1 := hs.ev hc
      have e2 := hs.ev hx
      unfold execOp
      simp only [e1, e2, AV.real]
      rfl
    · rename_i hc hx hy
      injection h with h
      subst h
      have e1 := hs.ev hc
      have e2 := hs.ev hy
      unfold execOp
      simp only [e1, e2, AV.real]
      rfl
    · cases h
  | load t x =>
    simp only [opVal] at h
    split at h
    · rename_i b off hx
      have e1 : a.eval x = ptr (ρ b) off := hs.ev hx
      split at h
      · rename_i bx hb ht
        unfold execOp
        simp only [e1]
        exact run_v (load_one hs hb ht h)
      · rename_i bx n hb ht hn
        split at h
        · rename_i l hl
          split at h
          · rename_i hle
            injection h with h
            subst h
            unfold execOp
            simp only [e1]
            exact run_v (load_all hs hb ht hn hl (Nat.ble_eq.mp hle))
          · cases h
        · cases h
      · cases h
    · cases h
  | fieldAddr t x f =>
    simp only [opVal] at h
    split at h
    · rename_i b off hx
      have e1 : a.eval x = ptr (ρ b) off := hs.ev hx
      split at h
      · rename_i n hn
        injection h with h
        subst h
        unfold execOp
        simp only [e1]
        exact run_v (field_run hn)
      · cases h
    · cases h
  | _ => simp only [opVal] at h; exact pureCase h
def offGuard (s : S) (arr : Array Oper) (o : Oper) : Bool := match o.guard with
  | none => false
  | some (j, want) => match yld s arr j with
    | some b => !(b == some want)
    | none => false
theorem offGuard_ok {ρ : Nat → Nat} {a : Act} {w : World} {o : Oper} (h : offGuard s arr o = true) (hs : St C.w0 C.M ρ G R s a w) : Region.wanted o (yielded arr a.tmps) = false := by
  unfold offGuard at h
  unfold Region.wanted
  split at h
  · cases h
  · rename_i j want hg
    rw [hg]
    split at h
    · rename_i b hb
      simp only [yld_ok hb hs]
      simpa using h
    · cases h
def QOk (C : Ctx) : Prop := ∀ c a w d v, C.Q (.panic c) (a.put d v) w → C.Q (.panic c) a w
theorem den_panic (hQ : QOk C) : ∀ (k : List CK) c a w d v, den C k (.panic c) (a.put d v) w → den C k (.panic c) a w
  | [], c, a, w, d, v, h => hQ c a w d v h
  | .seq _ :: k, c, a, w, d, v, h => den_panic hQ k c a w d v h
  | .blk _ :: k, c, a, w, d, v, h => den_panic hQ k c a w d v h
  | .loop _ :: k, c, a, w, d, v, h => den_panic hQ k c a w d v h
theorem QOk.ctxG {P : Program} {fn : Func} {G : Mem} {w : World} {Post : Mem → Value → List Row → Prop} : QOk (CtxG P fn G w Post) := fun c a w' d v h => by
  have : (a.put d v).defers = a.defers := by cases d <;> rfl
  have h : (a.put d v).defers = [] ∧ PostG G w Post (.panicked c) w' := h
  rw [this] at h
  exact h
theorem offPin_ne {d : Option Nat} {p : Pin} (h : offPin d p = true) : ∀ t, p.t = some t → d ≠ some t := fun t ht e => by
  unfold offPin at h
  rw [ht, e] at h
  simp at h
theorem PinsOk.put {d : Option Nat} {y : AV} (hp : PinsOk s F) (hd : F.all (offPin d) = true) : PinsOk (s.put d y) F := by
  induction F with
  | nil => trivial
  | cons p l ih =>
    simp only [List.all_cons, Bool.and_eq_true] at hd
    refine ⟨?_, ih hp.2 hd.2⟩
    obtain ⟨h1, h2⟩ := hp.1
    refine ⟨fun t ht => ?_, ?_⟩
    · cases d with
      | none => exact h1 t ht
      | some d =>
        simp only [S.put, lk_cons]
        rw [if_neg (fun e => offPin_ne hd.1 t ht (by rw [e]))]
        exact h1 t ht
    · cases d with
      | none => exact h2
      | some d => exact h2
theorem sameT.put {M : Mk} {a : Act} {d : Option Nat} {y : Value} (ha : sameT M F a ρ0) (hd : F.all (offPin d) = true) : sameT M F (a.put d y) ρ0 := fun p hm => by
  refine ⟨fun t ht => ?_, (ha p hm).2⟩
  rw [← (ha p hm).1 t ht]
  have := offPin_ne (List.all_eq_true.1 hd p hm) t ht
  cases d with
  | none => rfl
  | some d =>
    have hne : ¬ d = t := fun e => this (by rw [e])
    simp [Act.put, Array.getElem?_setIfInBounds, hne]
/-- An operation that only looks, first. -/
theorem XD.takeV {i : Nat} {o : Oper} (y : AV) (hQ : QOk C) (ho : arr[i]? = some o) (hc : takeB .any arr ds l l' i = true) (hg : (guardOk s arr o && s.can o.dst) = true)
    (hv : ∀ ρ a w, St w ⟨fun _ => True, fun _ => none⟩ ρ G0 RF (s.pinned F) a w → (execOp a.eval o).run C.P w = .ok (.value (y.real ρ)) w) (hd : F.all (offPin o.dst) = true)
    (H : XD C arr ρ0 F RF G0 ds n l' k (s.put o.dst y) R G) : XD C arr ρ0 F RF G0 ds (n + 1) l k s R G := by
  intro hr hp hG hR ρ a w hs ha
  simp only [Bool.and_eq_true] at hg
  refine take_ (N := o.dst) l' ho rfl hc (fun c a w h => den_panic hQ k c a w _ _ h) (v := y.real ρ) (.inl ⟨guardOk_ok hg.1 hs, fun w2 h2 => hv ρ a w2 (hs.pinned hr hp hG hR ha h2)⟩) (hs.pinS hr hp hG hR ha) rfl ?_
  exact H hr (hp.put hd) hG hR ρ _ w (hs.put hg.2) (ha.put hd)
theorem XD.take {i : Nat} (o : Oper) (y : AV) (hQ : QOk C) (ho : arr[i]? = some o) (hc : takeB .any arr ds l l' i = true) (hg : (guardOk s arr o && s.can o.dst) = true)
    (hv : opVal C.P o (s.pinned F) = some y) (hd : F.all (offPin o.dst) = true)
    (H : XD C arr ρ0 F RF G0 ds n l' k (s.put o.dst y) R G) : XD C arr ρ0 F RF G0 ds (n + 1) l k s R G :=
  XD.takeV y hQ ho hc hg (fun ρ a w hs => opVal_ok hv hs) hd H
/-- An operation that its guard leaves out. -/
theorem XD.off {i : Nat} (o : Oper) (hQ : QOk C) (ho : arr[i]? = some o) (hc : takeB .any arr ds l l' i = true) (hg : (offGuard s arr o && s.can o.dst) = true) (hd : F.all (offPin o.dst) = true)
    (H : XD C arr ρ0 F RF G0 ds n l' k (s.put o.dst (.v undef)) R G) : XD C arr ρ0 F RF G0 ds (n + 1) l k s R G := by
  intro hr hp hG hR ρ a w hs ha
  simp only [Bool.and_eq_true] at hg
  refine take_ (N := o.dst) l' ho rfl hc (fun c a w h => den_panic hQ k c a w _ _ h) (v := undef) (.inr ⟨offGuard_ok hg.1 hs, rfl⟩) (hs.pinS hr hp hG hR ha) rfl ?_
  exact H hr (hp.put hd) hG hR ρ _ w (hs.put (x := .v undef) hg.2) (ha.put hd)
/-- The one operation that may come now. -/
theorem XD.one {i : Nat} (o : Oper) (ho : arr[i]? = some o) (hc : (readyB .any arr l l' i && !ds.contains i) = true) (hd : F.all (offPin o.dst) = true)
    (H : X C (.ops arr [o]) (.loop (fun s' R' G' => PinsOk s' F ∧ Le G0 G' ∧ pickL R' (RF.map (·.1)) = RF ∧ XD C arr ρ0 F RF G0 ds n l' k s' R' G') :: k) s R G) : XD C arr ρ0 F RF G0 ds (n + 1) l k s R G := by
  intro hr hp hG hR ρ a w hs ha
  simp only [readyB, Bool.and_eq_true, beq_iff_eq] at hc
  obtain ⟨⟨h1, h2⟩, _⟩ := hc
  subst h2
  have hdp := fun p (hm : p ∈ F) => offPin_ne (List.all_eq_true.1 hd p hm)
  have hx := H ρ a w hs
  simp only [wpList] at hx
  refine wpAnyLast_all h1 (by simp) fun j hj => ?_
  obtain rfl : j = i := by simpa using hj
  have fin : ∀ a' w', den C (.loop (fun s' R' G' => PinsOk s' F ∧ Le G0 G' ∧ pickL R' (RF.map (·.1)) = RF ∧ XD C arr ρ0 F RF G0 ds n (l.setIfInBounds j true) k s' R' G') :: k) .normal a' w' → (∀ t, o.dst ≠ some t → a'.tmps[t]? = a.tmps[t]?) →
      (j ∉ ds → SF ρ0 F RF G0 w → SF ρ0 F RF G0 w') ∧ wpAnyLast C.P .any arr (den C k) (SF ρ0 F RF G0) ds n (l.setIfInBounds j true) a' w' := by
    rintro a' w' ⟨ρ', s', R', G', hs', hp', hG', hR', hX⟩ ht
    have ha' : sameT C.M F a' ρ0 := fun p hm => ⟨fun t he => (ht _ (hdp p hm t he)).trans ((ha p hm).1 t he), (ha p hm).2⟩
    exact ⟨fun _ _ => hs'.pinS hr hp' hG' hR' ha', hX hr hp' hG' hR' ρ' a' w' hs' ha'⟩
  have hQQ : ∀ e a w, e ≠ .normal → den C (.loop (fun s' R' G' => PinsOk s' F ∧ Le G0 G' ∧ pickL R' (RF.map (·.1)) = RF ∧ XD C arr ρ0 F RF G0 ds n (l.setIfInBounds j true) k s' R' G') :: k) e a w → den C k e a w := fun e a w he h => by
    cases e <;> first | exact absurd rfl he | exact h
  unfold wpOp
  simp only [ho]
  split at hx
  · rename_i hw
    rw [if_pos hw]
    rcases hx with hx | ⟨hx1, a1, w1, hx2⟩
    · exact .inl (Oper.wp_mono (fun a' w' h => fin a' w' h.1 h.2) (wp_keep hQQ hx))
    · exact .inr ⟨hx1, a1, w1, hQQ _ _ _ (by simp) hx2⟩
  · rename_i hw
    rw [if_neg hw]
    refine fin _ _ hx fun t ht => ?_
    cases hdd : o.dst with
    | none => rfl
    | some d =>
      have hne : ¬ d = t := fun e => ht (by rw [hdd, e])
      simp [Act.put, Array.getElem?_setIfInBounds, hne]
/-- What writes to what is pinned, and what comes behind. -/
theorem XE.one {i : Nat} (o : Oper) (ho : arr[i]? = some o) (hc : (readyB .any arr l l' i && ds.contains i) = true)
    (H : X C (.ops arr [o]) (.loop (fun s' R' G' => XE C arr ρ0 F RF G0 ds n l' k s' R' G') :: k) s R G) : XE C arr ρ0 F RF G0 ds (n + 1) l k s R G := by
  intro ρ a w hs
  simp only [readyB, Bool.and_eq_true, beq_iff_eq, List.contains_iff_mem] at hc
  obtain ⟨⟨h1, h2⟩, hm⟩ := hc
  subst h2
  have hx := H ρ a w hs
  simp only [wpList] at hx
  refine wpAnyLast_all h1 (by simp) fun j hj => ?_
  obtain rfl : j = i := by simpa using hj
  have fin : ∀ a' w', den C (.loop (fun s' R' G' => XE C arr ρ0 F RF G0 ds n (l.setIfInBounds j true) k s' R' G') :: k) .normal a' w' →
      (j ∉ ds → SF ρ0 F RF G0 w → SF ρ0 F RF G0 w') ∧ wpAnyLast C.P .any arr (den C k) (SF ρ0 F RF G0) ds n (l.setIfInBounds j true) a' w' := by
    rintro a' w' ⟨ρ', s', R', G', hs', hX⟩
    exact ⟨fun hn => absurd hm hn, hX ρ' a' w' hs'⟩
  have hQQ : ∀ e a w, e ≠ .normal → den C (.loop (fun s' R' G' => XE C arr ρ0 F RF G0 ds n (l.setIfInBounds j true) k s' R' G') :: k) e a w → den C k e a w := fun e a w he h => by
    cases e <;> first | exact absurd rfl he | exact h
  unfold wpOp
  simp only [ho]
  split at hx
  · rename_i hw
    rw [if_pos hw]
    rcases hx with hx | ⟨hx1, a1, w1, hx2⟩
    · exact .inl (Oper.wp_mono (fun a' w' h => fin a' w' h.1) (wp_keep hQQ hx))
    · exact .inr ⟨hx1, a1, w1, hQQ _ _ _ (by simp) hx2⟩
  · rename_i hw
    rw [if_neg hw]
    exact fin _ _ hx
theorem XD.toE (H : XE C arr ρ0 F RF G0 ds n l k s R G) : XD C arr ρ0 F RF G0 ds n l k s R G := fun _ _ _ _ ρ a w hs _ => H ρ a w hs
theorem XE.done (hr : (Region.ready .any arr l == []) = true) (H : X C (.ex .normal) k s R G) : XE C arr ρ0 F RF G0 ds n l k s R G := fun ρ a w hs => done_ hr (H ρ a w hs)
theorem XE.norm (ids bids : List Nat) (s' : S) (h : s.only ids bids = s') (H : XE C arr ρ0 F RF G0 ds n l k s' R G) : XE C arr ρ0 F RF G0 ds n l k s R G := by
  subst h
  intro ρ a w hs
  exact H ρ a w (hs.sub (s' := s.only ids bids) rfl (fun _ _ h => pickL_lk (ids := ids) h) (fun _ _ h => pickL_lk (ids := bids) h) (fun _ _ h => h))
theorem X.back {J : S → List (Nat × Row) → Mem → Prop} (h : J s R G) : X C (.ops arr []) (.loop J :: k) s R G := fun ρ a w hs => ⟨ρ, s, R, G, hs, h⟩
theorem XD.done (hr : (Region.ready .any arr l == []) = true) (H : X C (.ex .normal) k s R G) : XD C arr ρ0 F RF G0 ds n l k s R G := fun hr_ hp hG hR ρ a w hs ha =>
  done_ hr (H ρ a w hs)
theorem St.drew {w0 w : World} {M : Mk} {ρ : Nat → Nat} {a : Act} (hs : St w0 M ρ G R s a w) : St w0 M ρ G R s a w.drew :=
  hs.keep (Z := fun _ => False) ⟨rfl, rfl, rfl, Nat.le_refl _, fun _ _ _ => rfl⟩ (fun _ h => h.elim) (fun _ _ _ h => h) (fun _ _ _ _ _ h => h) (fun _ _ _ h => h)
theorem XD.start {id : Nat} (F : List Pin) (RF : List (Nat × Row)) (ds : List Nat) (hm : C.P.follows .mixedOrders = true) (hr : refsOk F = true) (hp : PinsOk s F) (hM : ∀ p ∈ F, p.t = none → (C.M.pin p.b).isSome = true) (hR : pickL R (RF.map (·.1)) = RF) (H : ∀ ρ0, XD C arr ρ0 F RF G ds arr.size (Array.replicate arr.size false) k s R G) : X C (.code (.region id arr true)) k s R G := fun ρ a w hs => by
  have hT : sameT C.M F a ρ := fun p hm => ⟨fun t ht => hs.tm _ _ ((hp.each p hm).1 t ht), fun hn => by
    obtain ⟨g, hg⟩ := Option.isSome_iff_exists.1 (hM p hm hn)
    rw [hg, (hs.pn _ _ hg).2]⟩
  have hS : SF ρ F RF G w.drew := hs.drew.pinS hr hp (Le.refl _) hR hT
  exact wp_region_last_drew hm hS fun _ => H ρ hr hp (Le.refl _) hR ρ a w.drew hs.drew hT
/-- Marks, as bits of a number. -/
def lb (n m : Nat) : Array Bool := ((List.range n).map fun i => m.testBit i).toArray
theorem XD.open {id : Nat} {c : Code} (n : Nat) (F : List Pin) (RF : List (Nat × Row)) (ds : List Nat) (hc : c = .region id arr true) (hm : C.P.follows .mixedOrders = true) (hn : arr.size = n) (hl : Array.replicate n false = lb n 0) (hr : refsOk F = true) (hp : PinsOk s F) (hM : ∀ p ∈ F, p.t = none → (C.M.pin p.b).isSome = true) (hR : pickL R (RF.map (·.1)) = RF) (H : ∀ ρ0, XD C arr ρ0 F RF G ds n (lb n 0) k s R G) : X C (.code c) k s R G := by
  subst hc
  subst hn
  rw [← hl] at H
  exact XD.start F RF ds hm hr hp hM hR H
theorem XD.known (j : Nat) {x y : AV} (hj : lk s.tmps j = some x) (e : x = y) (H : XD C arr ρ0 F RF G0 ds n l k { s with tmps := (j, y) :: s.tmps } R G) : XD C arr ρ0 F RF G0 ds n l k s R G := by
  subst e
  have hlk : ∀ i, lk ((j, x) :: s.tmps) i = lk s.tmps i := fun i => by
    rw [lk_cons]
    by_cases ej : j = i
    · subst ej
      rw [if_pos rfl, hj]
    · rw [if_neg ej]
  intro hr hp hG hR ρ a w hs ha
  refine H hr ?_ hG hR ρ a w ⟨fun i x hi => hs.tm i x (by rw [← hlk i]; exact hi), hs.sz, hs.df, hs.bx, hs.bo, hs.bi, hs.rw, hs.ro, hs.ri, hs.rb, hs.g, hs.gb, hs.gr, hs.fr, hs.pn⟩ ha
  clear ha H hr
  induction F with
  | nil => trivial
  | cons p l ih =>
    obtain ⟨⟨h1, h2⟩, h3⟩ := hp
    exact ⟨⟨fun t ht => (hlk _).trans (h1 t ht), h2⟩, ih h3⟩
theorem XD.isTrue (j : Nat) {b : Bool} (hj : lk s.tmps j = some (.v (.bool b))) (h : b = true) (H : XD C arr ρ0 F RF G0 ds n l k { s with tmps := (j, .v (.bool true)) :: s.tmps } R G) : XD C arr ρ0 F RF G0 ds n l k s R G := XD.known j hj (by rw [h]) H
theorem XD.isFalse (j : Nat) {b : Bool} (hj : lk s.tmps j = some (.v (.bool b))) (h : b = false) (H : XD C arr ρ0 F RF G0 ds n l k { s with tmps := (j, .v (.bool false)) :: s.tmps } R G) : XD C arr ρ0 F RF G0 ds n l k s R G := XD.known j hj (by rw [h]) H
theorem XD.split (j : Nat) {b : Bool} (hj : lk s.tmps j = some (.v (.bool b))) (H1 : b = true → XD C arr ρ0 F RF G0 ds n l k { s with tmps := (j, .v (.bool true)) :: s.tmps } R G) (H2 : b = false → XD C arr ρ0 F RF G0 ds n l k { s with tmps := (j, .v (.bool false)) :: s.tmps } R G) : XD C arr ρ0 F RF G0 ds n l k s R G := by
  cases b with
  | true => exact XD.known j hj rfl (H1 rfl)
  | false => exact XD.known j hj rfl (H2 rfl)
/-- A simple step of an operation alone. -/
theorem X.simple {o : Oper} {r : List Oper} (hg : (guardOk s arr o && (opStep C.P o s).isSome) = true) (H : X C (.ops arr r) k ((opStep C.P o s).getD s) R G) : X C (.ops arr (o :: r)) k s R G := by
  simp only [Bool.and_eq_true] at hg
  obtain ⟨s', h⟩ := Option.isSome_iff_exists.1 hg.2
  rw [h] at H
  exact ops_step (fun ρ a w hs => guardOk_ok hg.1 hs) h H
/-- The rows, told anew. -/
theorem X.asR {cur : Cur} {R' : List (Nat × Row)} (h : R = R') (H : X C cur k s R' G) : X C cur k s R G := by subst h; exact H
/-- The state, told anew of these slots and boxes. -/
theorem XD.norm (ids bids : List Nat) (s' : S) (h : s.only ids bids = s') (hp' : PinsOk s' F) (H : XD C arr ρ0 F RF G0 ds n l k s' R G) : XD C arr ρ0 F RF G0 ds n l k s R G := by
  subst h
  intro hr hp hG hR ρ a w hs ha
  exact H hr hp' hG hR ρ a w (hs.sub (s' := s.only ids bids) rfl (fun _ _ h => pickL_lk (ids := ids) h) (fun _ _ h => pickL_lk (ids := bids) h) (fun _ _ h => h)) ha
end
end Go.Proofs.YthpinlcfcgnilaaX
