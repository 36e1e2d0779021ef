/- Drawn regions, calls in place, further events: merged. Conditions: none. -/
import Derived.Test.YthpinlcfcgnilaaZA
import Derived.Laws.StructEq
import Derived.Test.YthpinlcfcgnilaaWLast
import Derived.LoopN
import Derived.Maps.AppendAt
import Derived.ChangeKeysEq
import Derived.Laws.RangeAny
import Derived.Laws.Cover4
import Derived.Lib.AppendStr
namespace Go.Proofs.YthpinlcfcgnilaaZ
open Go.RowKit
open Go.Proofs.YthpinlcfcgnilaaW.PrintLast
set_option linter.unusedVariables false
set_option linter.unusedSimpArgs false

theorem wp_keep {P : Program} {o : Oper} {a : Act} {w : World} {K : Act → World → Prop} {Q Q' : Exit → Act → World → Prop} (hQ : ∀ e a w, e ≠ .normal → Q e a w → Q' e a w) (h : o.wp P a w K Q) :
    o.wp P a w (fun a' w' => K a' w' ∧ ∀ t, o.dst ≠ some t → a'.tmps[t]? = a.tmps[t]?) Q' := by
  have put_ : ∀ (a : Act) v t, o.dst ≠ some t → (a.put o.dst v).tmps[t]? = a.tmps[t]? := fun a v t ht => by
    cases hd : o.dst with
    | none => rfl
    | some d =>
      have : d ≠ t := fun e => ht (by rw [hd, e])
      simp [Act.put, this]
  unfold Oper.wp at *
  generalize (execOp a.eval o).run P w = r at *
  cases r with
  | ok x w' =>
    cases x with
    | value v => exact ⟨h, put_ a v⟩
    | skip => exact ⟨h, put_ a _⟩
    | defer d => exact ⟨h, put_ _ _⟩
    | enter f args =>
      refine Calls.mono h ?_
      intro e w'' he
      cases e with
      | returned v => exact ⟨he, put_ a v⟩
      | panicked c => exact hQ _ _ _ (by simp) he
      | outgrown =>
        obtain ⟨a1, w1, h1⟩ := he
        exact ⟨a1, w1, hQ _ _ _ (by simp) h1⟩
    | row r args => exact Rows.mono h (fun v w'' he => ⟨he, put_ a v⟩)
    | _ => exact h.elim
  | halt e w' =>
    cases e with
    | panic v => exact hQ _ _ _ (by simp) h
    | _ => exact h.elim

structure Pin where
  t : Option Nat
  b : Nat
  ty : TypeId
  cells : List AV
def SF (ρ0 : Nat → Nat) (F : List Pin) (RF : List (Nat × Row)) (G : Mem) (w : World) : Prop :=
  Hold G w ∧ (∀ p ∈ F, w.heap[ρ0 p.b]? = some (.cells (p.cells.map (AV.real ρ0)).toArray p.ty (0, 0))) ∧ ∀ i q, lk RF i = some q → w.ownsRow 0 q.e q.size q.v q.n q.cells
def Pinned1 (s : S) (p : Pin) : Prop := (∀ t, p.t = some t → lk s.tmps t = some (.own p.b 0)) ∧ lk s.boxes p.b = some ⟨p.ty, p.cells⟩
def PinsOk (s : S) : List Pin → Prop
  | [] => True
  | p :: l => Pinned1 s p ∧ PinsOk s l
theorem PinsOk.each {s : S} : ∀ {F : List Pin}, PinsOk s F → ∀ p ∈ F, Pinned1 s p
  | p :: l, h, q, hq => by
    rcases List.mem_cons.1 hq with rfl | hq
    · exact h.1
    · exact PinsOk.each h.2 q hq
def hasPin (F : List Pin) (b : Nat) : Bool := F.any fun q => Nat.beq q.b b
def refsOk (F : List Pin) : Bool := F.all fun p => p.cells.all fun x => match x with
  | .v _ => true
  | .own b _ => hasPin F b
  | .fn _ cs => cs.all fun c => hasPin F c.1
  | .mth _ b _ => hasPin F b
theorem hasPin_eq {F : List Pin} {ρ ρ0 : Nat → Nat} (h : ∀ p ∈ F, ρ p.b = ρ0 p.b) {b : Nat} (hb : hasPin F b = true) : ρ b = ρ0 b := by
  obtain ⟨q, hq, e⟩ := List.any_eq_true.mp hb
  have := Nat.eq_of_beq_eq_true e
  rw [← this]
  exact h q hq
theorem refs_real {F : List Pin} {ρ ρ0 : Nat → Nat} (hr : refsOk F = true) (h : ∀ p ∈ F, ρ p.b = ρ0 p.b) {p : Pin} (hp : p ∈ F) : p.cells.map (AV.real ρ) = p.cells.map (AV.real ρ0) := by
  refine List.map_congr_left fun x hx => ?_
  have h1 := List.all_eq_true.mp (List.all_eq_true.mp hr p hp) x hx
  cases x with
  | v z => rfl
  | own b o => simp only [AV.real]; rw [hasPin_eq h h1]
  | mth f b o => simp only [AV.real]; rw [hasPin_eq h h1]
  | fn f cs =>
    simp only [AV.real]
    congr 2
    refine List.map_congr_left fun c hc => ?_
    rw [hasPin_eq h (List.all_eq_true.mp h1 c hc)]
def sameT (M : Mk) (F : List Pin) (a : Act) (ρ0 : Nat → Nat) : Prop := ∀ p ∈ F, (∀ t, p.t = some t → a.tmps[t]? = some (ptr (ρ0 p.b) 0)) ∧ (p.t = none → M.pin p.b = some (ρ0 p.b))
def offPin (d : Option Nat) (p : Pin) : Bool := match p.t with
  | some t => !(d == some t)
  | none => true
def XD (C : Ctx) (arr : Array Oper) (ρ0 : Nat → Nat) (F : List Pin) (RF : List (Nat × Row)) (G0 : Mem) (ds : List Nat) (n : Nat) (l : Array Bool) (k : List CK) (s : S) (R : List (Nat × Row)) (G : Mem) : Prop :=
  refsOk F = true → PinsOk s F → Le G0 G → pickL R (RF.map (·.1)) = RF → ∀ ρ a w, St C.w0 C.M ρ G R s a w → sameT C.M F a ρ0 → wpAnyLast C.P .any arr (den C k) (SF ρ0 F RF G0) ds n l a w
/-- The same behind what writes to what was pinned. -/
def XE (C : Ctx) (arr : Array Oper) (ρ0 : Nat → Nat) (F : List Pin) (RF : List (Nat × Row)) (G0 : Mem) (ds : List Nat) (n : Nat) (l : Array Bool) (k : List CK) (s : S) (R : List (Nat × Row)) (G : Mem) : Prop :=
  ∀ ρ a w, St C.w0 C.M ρ G R s a w → wpAnyLast C.P .any arr (den C k) (SF ρ0 F RF G0) ds n l a w
section
variable {C : Ctx} {arr : Array Oper} {ρ0 : Nat → Nat} {F : List Pin} {RF : List (Nat × Row)} {G0 G : Mem} {ds : List Nat} {n : Nat} {l l' : Array Bool} {k : List CK} {s : S} {R : List (Nat × Row)}
theorem St.pinρ {ρ : Nat → Nat} {a : Act} {w : World} (hs : St C.w0 C.M ρ G R s a w) (hp : PinsOk s F) (ha : sameT C.M F a ρ0) : ∀ p ∈ F, ρ p.b = ρ0 p.b := fun p hm => by
  cases hpt : p.t with
  | none => exact (hs.pn _ _ ((ha p hm).2 hpt)).2
  | some t =>
    have h5 := hs.tm _ _ ((hp.each p hm).1 t hpt)
    rw [(ha p hm).1 t hpt] at h5
    simp only [AV.real, ptr, Option.some.injEq, Value.pointer.injEq, Addr.mk.injEq] at h5
    exact h5.1.symm
theorem subR {R RF : List (Nat × Row)} (h : pickL R (RF.map (·.1)) = RF) : ∀ i q, lk RF i = some q → lk R i = some q := fun i q hi => pickL_lk (ids := RF.map (·.1)) (by rw [h]; exact hi)
theorem St.pinS {ρ : Nat → Nat} {a : Act} {w : World} (hs : St C.w0 C.M ρ G R s a w) (hr : refsOk F = true) (hp : PinsOk s F) (hG : Le G0 G) (hR : pickL R (RF.map (·.1)) = RF) (ha : sameT C.M F a ρ0) : SF ρ0 F RF G0 w := by
  refine ⟨fun q o hq => hs.g q o (hG q o hq), fun p hm => ?_, fun i q hi => hs.rw i q (subR hR i q hi)⟩
  have h1 := hs.pinρ hp ha
  rw [← h1 p hm, hs.bx _ _ (hp.each p hm).2, Box.obj, refs_real hr h1 hm]
def pinBoxes : List Pin → List (Nat × Box)
  | [] => []
  | p :: l => (p.b, ⟨p.ty, p.cells⟩) :: pinBoxes l
theorem pinBoxes_lk : ∀ {F : List Pin} {b : Nat} {bx : Box}, lk (pinBoxes F) b = some bx → ∃ p ∈ F, b = p.b ∧ bx = ⟨p.ty, p.cells⟩
  | [], b, bx, h => by simp [pinBoxes, lk] at h
  | p :: l, b, bx, h => by
    simp only [pinBoxes, lk_cons] at h
    by_cases e : p.b = b
    · rw [if_pos e] at h
      injection h with h
      exact ⟨p, by simp, e.symm, h.symm⟩
    · rw [if_neg e] at h
      obtain ⟨q, hq, r⟩ := pinBoxes_lk h
      exact ⟨q, by simp [hq], r⟩
def S.pinned (s : S) (F : List Pin) : S := ⟨s.n, s.tmps, pinBoxes F⟩
/-- In every world that keeps what is pinned, the state is as told, but for what is not pinned. -/
theorem St.pinned {ρ : Nat → Nat} {a : Act} {w w2 : World} (hs : St C.w0 C.M ρ G R s a w) (hr : refsOk F = true) (hp : PinsOk s F) (hG : Le G0 G) (hR : pickL R (RF.map (·.1)) = RF) (ha : sameT C.M F a ρ0) (h2 : SF ρ0 F RF G0 w2) : St w2 ⟨fun _ => True, fun _ => none⟩ ρ G0 RF (s.pinned F) a w2 := by
  have h1 := hs.pinρ hp ha
  have sub := subR hR
  refine ⟨hs.tm, hs.sz, hs.df, fun i b hi => ?_, fun _ _ _ => .inr trivial, fun i j b c hi hj e => ?_, h2.2.2, fun _ _ _ _ _ => .inr trivial, fun i j r q k hi hj h3 h4 => hs.ri i j r q k (sub _ _ hi) (sub _ _ hj) h3 h4, fun i j r b hi hj => ?_, h2.1, fun q o j b hq hj => ?_, fun k o i r hk hi => hs.gr k o i r (hG k o hk) (sub _ _ hi), Fr.refl _ _, fun b g hb => by cases hb⟩
  · obtain ⟨p, hm, rfl, rfl⟩ := pinBoxes_lk hi
    rw [h1 p hm, h2.2.1 p hm, Box.obj, refs_real hr h1 hm]
  · obtain ⟨p, hm, rfl, rfl⟩ := pinBoxes_lk hi
    obtain ⟨q, hq, rfl, rfl⟩ := pinBoxes_lk hj
    exact hs.bi _ _ _ _ (hp.each p hm).2 (hp.each q hq).2 e
  · obtain ⟨q, hq, rfl, rfl⟩ := pinBoxes_lk hj
    exact hs.rb i _ r _ (sub _ _ hi) (hp.each q hq).2
  · obtain ⟨p, hm, rfl, rfl⟩ := pinBoxes_lk hj
    exact hs.gb q o _ _ (hG q o hq) (hp.each p hm).2
/-- What an operation yields that only looks. -/
def opVal (P : Program) (o : Oper) (s : S) : Option AV :=
  match o.op with
  | .move x | .assign x => s.ev x
  | .pick c x y => match s.ev c, s.ev x, s.ev y with
    | some (.v (.bool true)), some x, some _ => some x
    | some (.v (.bool false)), some _, some y => some y
    | _, _, _ => none
  | .load t x => match s.ev x with
    | some (.own b off) => match lk s.boxes b, spure P (isAgg t), spure P (sizeOf t) with
      | some bx, some false, _ => bx.cells[off]?
      | some bx, some true, some n => match plainAll ((bx.cells.drop off).take n) with
        | some l => if Nat.ble (off + n) bx.cells.length then some (.v (.agg l.toArray)) else none
        | none => none
      | _, _, _ => none
    | _ => none
  | .fieldAddr t x f => match s.ev x with
    | some (.own b off) => match fieldOff P t f with
      | some n => some (.own b (off + n))
      | none => none
    | _ => none
  | _ => if isPure o.op && (operandsOf o.op).all s.plain then match spure P (execOp s.real o) with
      | some (.value z) => some (.v z)
      | _ => none
    else none
theorem opVal_ok {P : Program} {w0 w : World} {M : Mk} {ρ : Nat → Nat} {a : Act} {o : Oper} {y : AV} (h : opVal P o s = some y) (hs : St w0 M ρ G R s a w) : (execOp a.eval o).run P w = .ok (.value (y.real ρ)) w := by
  obtain ⟨dst, op, ty, pos, af, gd⟩ := o
  have pureCase : (if isPure op && (operandsOf op).all s.plain then match spure P (execOp s.real ⟨dst, op, ty, pos, af, gd⟩) with
      | some (.value z) => some (AV.v z)
      | _ => none
    else none) = some y → (execOp a.eval ⟨dst, op, ty, pos, af, gd⟩).run P w = .ok (.value (y.real ρ)) w := fun h => by
    split at h
    · rename_i hc
      simp only [Bool.and_eq_true, List.all_eq_true] at hc
      split at h
      · rename_i z hz
        injection h with h
        subst h
        have he : execOp a.eval ⟨dst, op, ty, pos, af, gd⟩ = execOp s.real ⟨dst, op, ty, pos, af, gd⟩ := exec_same hc.1 (fun x hx => by
          obtain ⟨z, h1, h2⟩ := S.plain_real (hc.2 x hx)
          rw [h2]
          exact hs.ev h1)
        rw [he]
        exact spure_run hz w
      · cases h
    · cases h
  cases op with
  | move x => simp only [opVal] at h; have := hs.ev h; unfold execOp; simp only [this]; rfl
  | assign x => simp only [opVal] at h; have := hs.ev h; unfold execOp; simp only [this]; rfl
  | pick c x y =>
    simp only [opVal] at h
    split at h
    · rename_i hc hx hy
      injection h with h
      subst h
      have e1 := hs.ev hc
      have e2 := hs.ev hx
      unfold execOp
      simp only [e1, e2, AV.real]
      rfl
    · rename_i hc hx hy
      injection h with h
      subst h
      have e1 := hs.ev hc
      have e2 := hs.ev hy
      unfold execOp
      simp only [e1, e2, AV.real]
      rfl
    · cases h
  | load t x =>
    simp only [opVal] at h
    split at h
    · rename_i b off hx
      have e1 : a.eval x = ptr (ρ b) off := hs.ev hx
      split at h
      · rename_i bx hb ht
        unfold execOp
        simp only [e1]
        exact run_v (load_one hs hb ht h)
      · rename_i bx n hb ht hn
        split at h
        · rename_i l hl
          split at h
          · rename_i hle
            injection h with h
            subst h
            unfold execOp
            simp only [e1]
            exact run_v (load_all hs hb ht hn hl (Nat.ble_eq.mp hle))
          · cases h
        · cases h
      · cases h
    · cases h
  | fieldAddr t x f =>
    simp only [opVal] at h
    split at h
    · rename_i b off hx
      have e1 : a.eval x = ptr (ρ b) off := hs.ev hx
      split at h
      · rename_i n hn
        injection h with h
        subst h
        unfold execOp
        simp only [e1]
        exact run_v (field_run hn)
      · cases h
    · cases h
  | _ => simp only [opVal] at h; exact pureCase h
def offGuard (s : S) (arr : Array Oper) (o : Oper) : Bool := match o.guard with
  | none => false
  | some (j, want) => match yld s arr j with
    | some b => !(b == some want)
    | none => false
theorem offGuard_ok {ρ : Nat → Nat} {a : Act} {w : World} {o : Oper} (h : offGuard s arr o = true) (hs : St C.w0 C.M ρ G R s a w) : Region.wanted o (yielded arr a.tmps) = false := by
  unfold offGuard at h
  unfold Region.wanted
  split at h
  · cases h
  · rename_i j want hg
    rw [hg]
    split at h
    · rename_i b hb
      simp only [yld_ok hb hs]
      simpa using h
    · cases h
def QOk (C : Ctx) : Prop := ∀ c a w d v, C.Q (.panic c) (a.put d v) w → C.Q (.panic c) a w
theorem den_panic (hQ : QOk C) : ∀ (k : List CK) c a w d v, den C k (.panic c) (a.put d v) w → den C k (.panic c) a w
  | [], c, a, w, d, v, h => hQ c a w d v h
  | .seq _ :: k, c, a, w, d, v, h => den_panic hQ k c a w d v h
  | .blk _ :: k, c, a, w, d, v, h => den_panic hQ k c a w d v h
  | .loop _ :: k, c, a, w, d, v, h => den_panic hQ k c a w d v h
theorem QOk.ctxG {P : Program} {fn : Func} {G : Mem} {w : World} {Post : Mem → Value → List Row → Prop} : QOk (CtxG P fn G w Post) := fun c a w' d v h => by
  have : (a.put d v).defers = a.defers := by cases d <;> rfl
  have h : (a.put d v).defers = [] ∧ PostG G w Post (.panicked c) w' := h
  rw [this] at h
  exact h
theorem offPin_ne {d : Option Nat} {p : Pin} (h : offPin d p = true) : ∀ t, p.t = some t → d ≠ some t := fun t ht e => by
  unfold offPin at h
  rw [ht, e] at h
  simp at h
theorem PinsOk.put {d : Option Nat} {y : AV} (hp : PinsOk s F) (hd : F.all (offPin d) = true) : PinsOk (s.put d y) F := by
  induction F with
  | nil => trivial
  | cons p l ih =>
    simp only [List.all_cons, Bool.and_eq_true] at hd
    refine ⟨?_, ih hp.2 hd.2⟩
    obtain ⟨h1, h2⟩ := hp.1
    refine ⟨fun t ht => ?_, ?_⟩
    · cases d with
      | none => exact h1 t ht
      | some d =>
        simp only [S.put, lk_cons]
        rw [if_neg (fun e => offPin_ne hd.1 t ht (by rw [e]))]
        exact h1 t ht
    · cases d with
      | none => exact h2
      | some d => exact h2
theorem sameT.put {M : Mk} {a : Act} {d : Option Nat} {y : Value} (ha : sameT M F a ρ0) (hd : F.all (offPin d) = true) : sameT M F (a.put d y) ρ0 := fun p hm => by
  refine ⟨fun t ht => ?_, (ha p hm).2⟩
  rw [← (ha p hm).1 t ht]
  have := offPin_ne (List.all_eq_true.1 hd p hm) t ht
  cases d with
  | none => rfl
  | some d =>
    have hne : ¬ d = t := fun e => this (by rw [e])
    simp [Act.put, Array.getElem?_setIfInBounds, hne]
/-- An operation that only looks, first. -/
theorem XD.takeV {i : Nat} {o : Oper} (y : AV) (hQ : QOk C) (ho : arr[i]? = some o) (hc : takeB .any arr ds l l' i = true) (hg : (guardOk s arr o && s.can o.dst) = true)
    (hv : ∀ ρ a w, St w ⟨fun _ => True, fun _ => none⟩ ρ G0 RF (s.pinned F) a w → (execOp a.eval o).run C.P w = .ok (.value (y.real ρ)) w) (hd : F.all (offPin o.dst) = true)
    (H : XD C arr ρ0 F RF G0 ds n l' k (s.put o.dst y) R G) : XD C arr ρ0 F RF G0 ds (n + 1) l k s R G := by
  intro hr hp hG hR ρ a w hs ha
  simp only [Bool.and_eq_true] at hg
  refine take_ (N := o.dst) l' ho rfl hc (fun c a w h => den_panic hQ k c a w _ _ h) (v := y.real ρ) (.inl ⟨guardOk_ok hg.1 hs, fun w2 h2 => hv ρ a w2 (hs.pinned hr hp hG hR ha h2)⟩) (hs.pinS hr hp hG hR ha) rfl ?_
  exact H hr (hp.put hd) hG hR ρ _ w (hs.put hg.2) (ha.put hd)
theorem XD.take {i : Nat} (o : Oper) (y : AV) (hQ : QOk C) (ho : arr[i]? = some o) (hc : takeB .any arr ds l l' i = true) (hg : (guardOk s arr o && s.can o.dst) = true)
    (hv : opVal C.P o (s.pinned F) = some y) (hd : F.all (offPin o.dst) = true)
    (H : XD C arr ρ0 F RF G0 ds n l' k (s.put o.dst y) R G) : XD C arr ρ0 F RF G0 ds (n + 1) l k s R G :=
  XD.takeV y hQ ho hc hg (fun ρ a w hs => opVal_ok hv hs) hd H
/-- An operation that its guard leaves out. -/
theorem XD.off {i : Nat} (o : Oper) (hQ : QOk C) (ho : arr[i]? = some o) (hc : takeB .any arr ds l l' i = true) (hg : (offGuard s arr o && s.can o.dst) = true) (hd : F.all (offPin o.dst) = true)
    (H : XD C arr ρ0 F RF G0 ds n l' k (s.put o.dst (.v undef)) R G) : XD C arr ρ0 F RF G0 ds (n + 1) l k s R G := by
  intro hr hp hG hR ρ a w hs ha
  simp only [Bool.and_eq_true] at hg
  refine take_ (N := o.dst) l' ho rfl hc (fun c a w h => den_panic hQ k c a w _ _ h) (v := undef) (.inr ⟨offGuard_ok hg.1 hs, rfl⟩) (hs.pinS hr hp hG hR ha) rfl ?_
  exact H hr (hp.put hd) hG hR ρ _ w (hs.put (x := .v undef) hg.2) (ha.put hd)
/-- The one operation that may come now. -/
theorem XD.one {i : Nat} (o : Oper) (ho : arr[i]? = some o) (hc : (readyB .any arr l l' i && !ds.contains i) = true) (hd : F.all (offPin o.dst) = true)
    (H : X C (.ops arr [o]) (.loop (fun s' R' G' => PinsOk s' F ∧ Le G0 G' ∧ pickL R' (RF.map (·.1)) = RF ∧ XD C arr ρ0 F RF G0 ds n l' k s' R' G') :: k) s R G) : XD C arr ρ0 F RF G0 ds (n + 1) l k s R G := by
  intro hr hp hG hR ρ a w hs ha
  simp only [readyB, Bool.and_eq_true, beq_iff_eq] at hc
  obtain ⟨⟨h1, h2⟩, _⟩ := hc
  subst h2
  have hdp := fun p (hm : p ∈ F) => offPin_ne (List.all_eq_true.1 hd p hm)
  have hx := H ρ a w hs
  simp only [wpList] at hx
  refine wpAnyLast_all h1 (by simp) fun j hj => ?_
  obtain rfl : j = i := by simpa using hj
  have fin : ∀ a' w', den C (.loop (fun s' R' G' => PinsOk s' F ∧ Le G0 G' ∧ pickL R' (RF.map (·.1)) = RF ∧ XD C arr ρ0 F RF G0 ds n (l.setIfInBounds j true) k s' R' G') :: k) .normal a' w' → (∀ t, o.dst ≠ some t → a'.tmps[t]? = a.tmps[t]?) →
      (j ∉ ds → SF ρ0 F RF G0 w → SF ρ0 F RF G0 w') ∧ wpAnyLast C.P .any arr (den C k) (SF ρ0 F RF G0) ds n (l.setIfInBounds j true) a' w' := by
    rintro a' w' ⟨ρ', s', R', G', hs', hp', hG', hR', hX⟩ ht
    have ha' : sameT C.M F a' ρ0 := fun p hm => ⟨fun t he => (ht _ (hdp p hm t he)).trans ((ha p hm).1 t he), (ha p hm).2⟩
    exact ⟨fun _ _ => hs'.pinS hr hp' hG' hR' ha', hX hr hp' hG' hR' ρ' a' w' hs' ha'⟩
  have hQQ : ∀ e a w, e ≠ .normal → den C (.loop (fun s' R' G' => PinsOk s' F ∧ Le G0 G' ∧ pickL R' (RF.map (·.1)) = RF ∧ XD C arr ρ0 F RF G0 ds n (l.setIfInBounds j true) k s' R' G') :: k) e a w → den C k e a w := fun e a w he h => by
    cases e <;> first | exact absurd rfl he | exact h
  unfold wpOp
  simp only [ho]
  split at hx
  · rename_i hw
    rw [if_pos hw]
    rcases hx with hx | ⟨hx1, a1, w1, hx2⟩
    · exact .inl (Oper.wp_mono (fun a' w' h => fin a' w' h.1 h.2) (wp_keep hQQ hx))
    · exact .inr ⟨hx1, a1, w1, hQQ _ _ _ (by simp) hx2⟩
  · rename_i hw
    rw [if_neg hw]
    refine fin _ _ hx fun t ht => ?_
    cases hdd : o.dst with
    | none => rfl
    | some d =>
      have hne : ¬ d = t := fun e => ht (by rw [hdd, e])
      simp [Act.put, Array.getElem?_setIfInBounds, hne]
/-- What writes to what is pinned, and what comes behind. -/
theorem XE.one {i : Nat} (o : Oper) (ho : arr[i]? = some o) (hc : (readyB .any arr l l' i && ds.contains i) = true)
    (H : X C (.ops arr [o]) (.loop (fun s' R' G' => XE C arr ρ0 F RF G0 ds n l' k s' R' G') :: k) s R G) : XE C arr ρ0 F RF G0 ds (n + 1) l k s R G := by
  intro ρ a w hs
  simp only [readyB, Bool.and_eq_true, beq_iff_eq, List.contains_iff_mem] at hc
  obtain ⟨⟨h1, h2⟩, hm⟩ := hc
  subst h2
  have hx := H ρ a w hs
  simp only [wpList] at hx
  refine wpAnyLast_all h1 (by simp) fun j hj => ?_
  obtain rfl : j = i := by simpa using hj
  have fin : ∀ a' w', den C (.loop (fun s' R' G' => XE C arr ρ0 F RF G0 ds n (l.setIfInBounds j true) k s' R' G') :: k) .normal a' w' →
      (j ∉ ds → SF ρ0 F RF G0 w → SF ρ0 F RF G0 w') ∧ wpAnyLast C.P .any arr (den C k) (SF ρ0 F RF G0) ds n (l.setIfInBounds j true) a' w' := by
    rintro a' w' ⟨ρ', s', R', G', hs', hX⟩
    exact ⟨fun hn => absurd hm hn, hX ρ' a' w' hs'⟩
  have hQQ : ∀ e a w, e ≠ .normal → den C (.loop (fun s' R' G' => XE C arr ρ0 F RF G0 ds n (l.setIfInBounds j true) k s' R' G') :: k) e a w → den C k e a w := fun e a w he h => by
    cases e <;> first | exact absurd rfl he | exact h
  unfold wpOp
  simp only [ho]
  split at hx
  · rename_i hw
    rw [if_pos hw]
    rcases hx with hx | ⟨hx1, a1, w1, hx2⟩
    · exact .inl (Oper.wp_mono (fun a' w' h => fin a' w' h.1) (wp_keep hQQ hx))
    · exact .inr ⟨hx1, a1, w1, hQQ _ _ _ (by simp) hx2⟩
  · rename_i hw
    rw [if_neg hw]
    exact fin _ _ hx
theorem XD.toE (H : XE C arr ρ0 F RF G0 ds n l k s R G) : XD C arr ρ0 F RF G0 ds n l k s R G := fun _ _ _ _ ρ a w hs _ => H ρ a w hs
theorem XE.done (hr : (Region.ready .any arr l == []) = true) (H : X C (.ex .normal) k s R G) : XE C arr ρ0 F RF G0 ds n l k s R G := fun ρ a w hs => done_ hr (H ρ a w hs)
theorem XE.norm (ids bids : List Nat) (s' : S) (h : s.only ids bids = s') (H : XE C arr ρ0 F RF G0 ds n l k s' R G) : XE C arr ρ0 F RF G0 ds n l k s R G := by
  subst h
  intro ρ a w hs
  exact H ρ a w (hs.sub (s' := s.only ids bids) rfl (fun _ _ h => pickL_lk (ids := ids) h) (fun _ _ h => pickL_lk (ids := bids) h) (fun _ _ h => h))
theorem X.back {J : S → List (Nat × Row) → Mem → Prop} (h : J s R G) : X C (.ops arr []) (.loop J :: k) s R G := fun ρ a w hs => ⟨ρ, s, R, G, hs, h⟩
theorem XD.done (hr : (Region.ready .any arr l == []) = true) (H : X C (.ex .normal) k s R G) : XD C arr ρ0 F RF G0 ds n l k s R G := fun hr_ hp hG hR ρ a w hs ha =>
  done_ hr (H ρ a w hs)
theorem St.drew {w0 w : World} {M : Mk} {ρ : Nat → Nat} {a : Act} (hs : St w0 M ρ G R s a w) : St w0 M ρ G R s a w.drew :=
  hs.keep (Z := fun _ => False) ⟨rfl, rfl, rfl, Nat.le_refl _, fun _ _ _ => rfl, Nat.le_succ _⟩ (fun _ h => h.elim) (fun _ _ _ h => h) (fun _ _ _ _ _ h => h) (fun _ _ _ h => h)
theorem XD.start {id : Nat} (F : List Pin) (RF : List (Nat × Row)) (ds : List Nat) (hm : C.P.follows .mixedOrders = true) (hr : refsOk F = true) (hp : PinsOk s F) (hM : ∀ p ∈ F, p.t = none → (C.M.pin p.b).isSome = true) (hR : pickL R (RF.map (·.1)) = RF) (H : ∀ ρ0, XD C arr ρ0 F RF G ds arr.size (Array.replicate arr.size false) k s R G) : X C (.code (.region id arr true)) k s R G := fun ρ a w hs => by
  have hT : sameT C.M F a ρ := fun p hm => ⟨fun t ht => hs.tm _ _ ((hp.each p hm).1 t ht), fun hn => by
    obtain ⟨g, hg⟩ := Option.isSome_iff_exists.1 (hM p hm hn)
    rw [hg, (hs.pn _ _ hg).2]⟩
  have hS : SF ρ F RF G w.drew := hs.drew.pinS hr hp (Le.refl _) hR hT
  exact wp_region_last_drew hm hS fun _ => H ρ hr hp (Le.refl _) hR ρ a w.drew hs.drew hT
/-- Marks, as bits of a number. -/
def lb (n m : Nat) : Array Bool := ((List.range n).map fun i => m.testBit i).toArray
theorem XD.open {id : Nat} {c : Code} (n : Nat) (F : List Pin) (RF : List (Nat × Row)) (ds : List Nat) (hc : c = .region id arr true) (hm : C.P.follows .mixedOrders = true) (hn : arr.size = n) (hl : Array.replicate n false = lb n 0) (hr : refsOk F = true) (hp : PinsOk s F) (hM : ∀ p ∈ F, p.t = none → (C.M.pin p.b).isSome = true) (hR : pickL R (RF.map (·.1)) = RF) (H : ∀ ρ0, XD C arr ρ0 F RF G ds n (lb n 0) k s R G) : X C (.code c) k s R G := by
  subst hc
  subst hn
  rw [← hl] at H
  exact XD.start F RF ds hm hr hp hM hR H
theorem XD.known (j : Nat) {x y : AV} (hj : lk s.tmps j = some x) (e : x = y) (H : XD C arr ρ0 F RF G0 ds n l k { s with tmps := (j, y) :: s.tmps } R G) : XD C arr ρ0 F RF G0 ds n l k s R G := by
  subst e
  have hlk : ∀ i, lk ((j, x) :: s.tmps) i = lk s.tmps i := fun i => by
    rw [lk_cons]
    by_cases ej : j = i
    · subst ej
      rw [if_pos rfl, hj]
    · rw [if_neg ej]
  intro hr hp hG hR ρ a w hs ha
  refine H hr ?_ hG hR ρ a w ⟨fun i x hi => hs.tm i x (by rw [← hlk i]; exact hi), hs.sz, hs.df, hs.bx, hs.bo, hs.bi, hs.rw, hs.ro, hs.ri, hs.rb, hs.g, hs.gb, hs.gr, hs.fr, hs.pn⟩ ha
  clear ha H hr
  induction F with
  | nil => trivial
  | cons p l ih =>
    obtain ⟨⟨h1, h2⟩, h3⟩ := hp
    exact ⟨⟨fun t ht => (hlk _).trans (h1 t ht), h2⟩, ih h3⟩
theorem XD.isTrue (j : Nat) {b : Bool} (hj : lk s.tmps j = some (.v (.bool b))) (h : b = true) (H : XD C arr ρ0 F RF G0 ds n l k { s with tmps := (j, .v (.bool true)) :: s.tmps } R G) : XD C arr ρ0 F RF G0 ds n l k s R G := XD.known j hj (by rw [h]) H
theorem XD.isFalse (j : Nat) {b : Bool} (hj : lk s.tmps j = some (.v (.bool b))) (h : b = false) (H : XD C arr ρ0 F RF G0 ds n l k { s with tmps := (j, .v (.bool false)) :: s.tmps } R G) : XD C arr ρ0 F RF G0 ds n l k s R G := XD.known j hj (by rw [h]) H
theorem XD.split (j : Nat) {b : Bool} (hj : lk s.tmps j = some (.v (.bool b))) (H1 : b = true → XD C arr ρ0 F RF G0 ds n l k { s with tmps := (j, .v (.bool true)) :: s.tmps } R G) (H2 : b = false → XD C arr ρ0 F RF G0 ds n l k { s with tmps := (j, .v (.bool false)) :: s.tmps } R G) : XD C arr ρ0 F RF G0 ds n l k s R G := by
  cases b with
  | true => exact XD.known j hj rfl (H1 rfl)
  | false => exact XD.known j hj rfl (H2 rfl)
/-- A simple step of an operation alone. -/
theorem X.simple {o : Oper} {r : List Oper} (hg : (guardOk s arr o && (opStep C.P o s).isSome) = true) (H : X C (.ops arr r) k ((opStep C.P o s).getD s) R G) : X C (.ops arr (o :: r)) k s R G := by
  simp only [Bool.and_eq_true] at hg
  obtain ⟨s', h⟩ := Option.isSome_iff_exists.1 hg.2
  rw [h] at H
  exact ops_step (fun ρ a w hs => guardOk_ok hg.1 hs) h H
/-- The rows, told anew. -/
theorem X.asR {cur : Cur} {R' : List (Nat × Row)} (h : R = R') (H : X C cur k s R' G) : X C cur k s R G := by subst h; exact H
/-- The state, told anew of these slots and boxes. -/
theorem XD.norm (ids bids : List Nat) (s' : S) (h : s.only ids bids = s') (hp' : PinsOk s' F) (H : XD C arr ρ0 F RF G0 ds n l k s' R G) : XD C arr ρ0 F RF G0 ds n l k s R G := by
  subst h
  intro hr hp hG hR ρ a w hs ha
  exact H hr hp' hG hR ρ a w (hs.sub (s' := s.only ids bids) rfl (fun _ _ h => pickL_lk (ids := ids) h) (fun _ _ h => pickL_lk (ids := bids) h) (fun _ _ h => h)) ha
end
end Go.Proofs.YthpinlcfcgnilaaZ


namespace Go.Proofs.YthpinlcfcgnilaaZ
open Go.RowKit
set_option linter.unusedVariables false
set_option linter.unusedSimpArgs false

def shAV : AV → AV
  | .v x => .v x
  | .own b o => .own (b + 1000) o
  | .fn f cs => .fn f (cs.map fun p => (p.1 + 1000, p.2))
  | .mth f b o => .mth f (b + 1000) o
def unAV : AV → Option AV
  | .v x => some (.v x)
  | .own b o => if Nat.ble 1000 b then some (.own (b - 1000) o) else none
  | .fn f cs => if cs.all (fun p => Nat.ble 1000 p.1) then some (.fn f (cs.map fun p => (p.1 - 1000, p.2))) else none
  | .mth f b o => if Nat.ble 1000 b then some (.mth f (b - 1000) o) else none
def unAll : List AV → Option (List AV)
  | [] => some []
  | x :: l => match unAV x, unAll l with
    | some y, some ys => some (y :: ys)
    | _, _ => none
def shBoxes : List (Nat × Box) → List (Nat × Box)
  | [] => []
  | (i, b) :: l => (i + 1000, ⟨b.t, b.cells.map shAV⟩) :: shBoxes l
def unBoxes : List (Nat × Box) → Option (List (Nat × Box))
  | [] => some []
  | (i, b) :: l => if Nat.ble 1000 i then match unAll b.cells, unBoxes l with
      | some cs, some l' => some ((i - 1000, ⟨b.t, cs⟩) :: l')
      | _, _ => none
    else unBoxes l
def enumA : Nat → List AV → List (Nat × AV)
  | _, [] => []
  | i, x :: r => (i, x) :: enumA (i + 1) r
theorem enumA_lk : ∀ {l : List AV} {n i : Nat} {x : AV}, lk (enumA n l) i = some x → n ≤ i ∧ l[i - n]? = some x
  | [], n, i, x, h => by simp [enumA, lk] at h
  | y :: r, n, i, x, h => by
    simp only [enumA, lk_cons] at h
    by_cases e : n = i
    · subst e
      rw [if_pos rfl] at h
      injection h with h
      exact ⟨Nat.le_refl _, by simp [h]⟩
    · rw [if_neg e] at h
      obtain ⟨h1, h2⟩ := enumA_lk h
      refine ⟨by omega, ?_⟩
      rw [show i - n = (i - (n + 1)) + 1 by omega]
      exact h2
def ρc (ρ : Nat → Nat) : Nat → Nat := fun i => if 1000 ≤ i then ρ (i - 1000) else 0
theorem ρc_add (ρ : Nat → Nat) (i : Nat) : ρc ρ (i + 1000) = ρ i := by simp [ρc]
theorem shAV_real {ρ : Nat → Nat} (x : AV) : (shAV x).real (ρc ρ) = x.real ρ := by
  cases x with
  | v x => rfl
  | own b o => simp [shAV, AV.real, ρc_add]
  | mth f b o => simp [shAV, AV.real, ρc_add]
  | fn f cs => simp [shAV, AV.real, ρc_add, Function.comp_def]
theorem shBoxes_lk : ∀ {l : List (Nat × Box)} {i : Nat} {b : Box}, lk (shBoxes l) i = some b → ∃ j c, i = j + 1000 ∧ lk l j = some c ∧ b = ⟨c.t, c.cells.map shAV⟩
  | [], i, b, h => by simp [shBoxes, lk] at h
  | (j, c) :: l, i, b, h => by
    simp only [shBoxes, lk_cons] at h
    by_cases e : j + 1000 = i
    · rw [if_pos e] at h
      injection h with h
      exact ⟨j, c, e.symm, by rw [lk_cons, if_pos rfl], h.symm⟩
    · rw [if_neg e] at h
      obtain ⟨j', c', rfl, h1, h2⟩ := shBoxes_lk h
      exact ⟨j', c', rfl, by rw [lk_cons, if_neg (by omega)]; exact h1, h2⟩
theorem unBoxes_lk : ∀ {l l' : List (Nat × Box)}, unBoxes l = some l' → ∀ {i : Nat} {b : Box}, lk l' i = some b → ∃ c, lk l (i + 1000) = some c ∧ b.t = c.t ∧ unAll c.cells = some b.cells
  | [], l', h, i, b, hi => by simp only [unBoxes, Option.some.injEq] at h; subst h; simp [lk] at hi
  | (j, c) :: l, l', h, i, b, hi => by
    simp only [unBoxes] at h
    split at h
    · rename_i hj
      have hj := Nat.ble_eq.mp hj
      split at h
      · rename_i cs l2 h1 h2
        injection h with h
        subst h
        rw [lk_cons] at hi
        rw [lk_cons]
        by_cases e : j - 1000 = i
        · rw [if_pos e] at hi
          injection hi with hi
          subst hi
          exact ⟨c, if_pos (by omega), rfl, h1⟩
        · rw [if_neg e] at hi
          rw [if_neg (by omega)]
          exact unBoxes_lk h2 hi
      · cases h
    · rename_i hj
      have hj : ¬ 1000 ≤ j := fun e => hj (Nat.ble_eq.mpr e)
      rw [lk_cons, if_neg (by omega)]
      exact unBoxes_lk h hi
theorem unAV_real {ρ ρ2 : Nat → Nat} (hρ : ∀ i, ρ2 (i + 1000) = ρ i) {x y : AV} (h : unAV x = some y) : x.real ρ2 = y.real ρ := by
  have hs : ∀ b, Nat.ble 1000 b = true → ρ2 b = ρ (b - 1000) := fun b hb => by
    have := Nat.ble_eq.mp hb
    rw [← hρ (b - 1000), Nat.sub_add_cancel this]
  cases x with
  | v x => simp only [unAV, Option.some.injEq] at h; subst h; rfl
  | own b o =>
    simp only [unAV] at h
    split at h
    · rename_i hb
      injection h with h
      subst h
      simp [AV.real, hs b hb]
    · cases h
  | mth f b o =>
    simp only [unAV] at h
    split at h
    · rename_i hb
      injection h with h
      subst h
      simp [AV.real, hs b hb]
    · cases h
  | fn f cs =>
    simp only [unAV] at h
    split at h
    · rename_i hb
      injection h with h
      subst h
      simp only [AV.real, List.map_map]
      congr 2
      refine List.map_congr_left fun p hp => ?_
      simp only [Function.comp_apply]
      rw [hs p.1 (List.all_eq_true.mp hb p hp)]
    · cases h
theorem unAll_real {ρ ρ2 : Nat → Nat} (hρ : ∀ i, ρ2 (i + 1000) = ρ i) : ∀ {l l' : List AV}, unAll l = some l' → l.map (AV.real ρ2) = l'.map (AV.real ρ)
  | [], l', h => by simp only [unAll, Option.some.injEq] at h; subst h; rfl
  | x :: l, l', h => by
    simp only [unAll] at h
    split at h
    · rename_i y ys h1 h2
      injection h with h
      subst h
      simp only [List.map_cons, unAV_real hρ h1, unAll_real hρ h2]
    · cases h
/-- What the callee begins with. -/
def inS (fn : Func) (l : List AV) (s : S) : S := ⟨fn.ntmps, enumA 0 (l.map shAV), shBoxes s.boxes⟩
section
variable {C : Ctx} {arr : Array Oper} {k : List CK} {s : S} {R : List (Nat × Row)} {G : Mem} {o : Oper} {r : List Oper}
theorem QOk.body {P : Program} {fn : Func} {R : Ending → World → Prop} {w0 : World} {M : Mk} : QOk ⟨P, bodyPost P fn R, w0, M⟩ := fun c a w' d v h => by
  have : (a.put d v).defers = a.defers := by cases d <;> rfl
  have h : (a.put d v).defers = [] ∧ R (.panicked c) w' := h
  rw [this] at h
  exact h
theorem X.inline {f : FuncId} {l : List AV} {fn : Func} {c : Code} (hc : calls s o = some (f, l)) (hf : (okFn C.P f && (guardOk s arr o && (s.can o.dst && Nat.ble l.length fn.ntmps))) = true) (hfn : C.P.funcs[f]? = some fn) (hb : fn.body = some c)
    (H : ∀ Q' M', (∀ b, 1000 ≤ b → (M'.pin b).isSome = true) → QOk ⟨C.P, Q', C.w0, M'⟩ →
      (∀ e s2 R2 G2 vs bs, (e = .ret ∨ e = .normal) → (resAll C.P s2 fn.results.toList).bind plainAll = some vs → unBoxes s2.boxes = some bs →
        X C (.ops arr r) k (({ n := s.n, tmps := s.tmps, boxes := bs } : S).put o.dst (.v (mkRes vs))) R2 G2 → X ⟨C.P, Q', C.w0, M'⟩ (.ex e) [] s2 R2 G2) →
      X ⟨C.P, Q', C.w0, M'⟩ (.code c) [] (inS fn l s) R G) : X C (.ops arr (o :: r)) k s R G := by
  simp only [Bool.and_eq_true] at hf
  refine X.call hc hf.1 hf.2.1 fun ρ a w hs => ?_
  have hle := Nat.ble_eq.mp hf.2.2.2
  refine calls_of_wp hfn hb ?_
  refine H (bodyPost C.P fn fun e w' => ∃ v, e = .returned v ∧ ∃ ρ' s' R' G', X C (.ops arr r) k s' R' G' ∧ St C.w0 C.M ρ' G' R' s' (a.put o.dst v) w')
    ⟨C.M.can, fun i => if 1000 ≤ i then some (ρ (i - 1000)) else none⟩ (fun b hb => by simp [hb]) QOk.body ?_ (ρc ρ) _ w ?_
  · intro e s2 R2 G2 vs bs he hr hbs HX ρ2 a2 w2 hs2
    obtain ⟨xs, h1, h2⟩ := Option.bind_eq_some_iff.mp hr
    have hrun := results_run (fn := fn) hs2 h1 (plainAll_real h2)
    have hρ : ∀ i, ρ2 (i + 1000) = ρ i := fun i => (hs2.pn (i + 1000) (ρ i) (by simp)).2
    have hst : St C.w0 C.M ρ G2 R2 ⟨s.n, s.tmps, bs⟩ a w2 := by
      refine ⟨hs.tm, hs.sz, hs.df, fun i b hi => ?_, fun i b hi => ?_, fun i j b c hi hj e => ?_, hs2.rw, hs2.ro, hs2.ri, fun i j r b hi hj => ?_, hs2.g, fun k o j b hk hj => ?_, hs2.gr, hs2.fr, hs.pn⟩
      · obtain ⟨c2, h3, h4, h5⟩ := unBoxes_lk hbs hi
        have := hs2.bx _ _ h3
        rw [hρ i] at this
        rw [this, Box.obj, Box.obj, h4, unAll_real hρ h5]
      · obtain ⟨c2, h3, _⟩ := unBoxes_lk hbs hi
        have := hs2.bo _ _ h3
        rwa [hρ i] at this
      · obtain ⟨c2, h3, _⟩ := unBoxes_lk hbs hi
        obtain ⟨c3, h4, _⟩ := unBoxes_lk hbs hj
        have := hs2.bi _ _ _ _ h3 h4 (by rw [hρ, hρ]; exact e)
        omega
      · obtain ⟨c3, h4, _⟩ := unBoxes_lk hbs hj
        have := hs2.rb _ _ _ _ hi h4
        rwa [hρ j] at this
      · obtain ⟨c3, h4, _⟩ := unBoxes_lk hbs hj
        have := hs2.gb _ _ _ _ hk h4
        rwa [hρ j] at this
    rcases he with rfl | rfl
    · exact ⟨hs2.df, _, hrun, _, rfl, ρ, _, R2, G2, HX, hst.put (x := .v _) hf.2.2.1⟩
    · exact ⟨hs2.df, _, hrun, _, rfl, ρ, _, R2, G2, HX, hst.put (x := .v _) hf.2.2.1⟩
  · have hmap : (l.map shAV).map (AV.real (ρc ρ)) = l.map (AV.real ρ) := by
      rw [List.map_map]
      exact List.map_congr_left fun x _ => shAV_real x
    refine ⟨fun i x hi => ?_, ?_, rfl, fun i b hi => ?_, fun i b hi => ?_, fun i j b c hi hj e => ?_, hs.rw, hs.ro, hs.ri, fun i j r b hi hj => ?_, hs.g, fun k o j b hk hj => ?_, hs.gr, hs.fr, fun b g hb => ?_⟩
    · obtain ⟨_, h2⟩ := enumA_lk hi
      rw [Nat.sub_zero] at h2
      have h3 : (l.map (AV.real ρ))[i]? = some (x.real (ρc ρ)) := by rw [← hmap, List.getElem?_map, h2]; rfl
      have hlt := (List.getElem?_eq_some_iff.mp h3).1
      rw [Array.getElem?_append_left (by simpa using hlt)]
      simpa using h3
    · simp [inS]; omega
    · obtain ⟨j, c, rfl, h1, rfl⟩ := shBoxes_lk hi
      rw [ρc_add, hs.bx j c h1, Box.obj, Box.obj]
      simp only [List.map_map]
      rw [show c.cells.map (AV.real (ρc ρ) ∘ shAV) = c.cells.map (AV.real ρ) from List.map_congr_left fun x _ => shAV_real x]
    · obtain ⟨j, c, rfl, h1, rfl⟩ := shBoxes_lk hi
      rw [ρc_add]
      exact hs.bo j c h1
    · obtain ⟨i', c1, rfl, h1, rfl⟩ := shBoxes_lk hi
      obtain ⟨j', c2, rfl, h2, rfl⟩ := shBoxes_lk hj
      rw [ρc_add, ρc_add] at e
      rw [hs.bi i' j' c1 c2 h1 h2 e]
    · obtain ⟨j', c2, rfl, h2, rfl⟩ := shBoxes_lk hj
      rw [ρc_add]
      exact hs.rb i j' r c2 hi h2
    · obtain ⟨j', c2, rfl, h2, rfl⟩ := shBoxes_lk hj
      rw [ρc_add]
      exact hs.gb k o j' c2 hk h2
    · simp only at hb
      split at hb
      · rename_i h1
        injection hb with hb
        exact ⟨h1, by rw [← hb]; simp [ρc, h1]⟩
      · cases hb
theorem X.tellR {cur : Cur} (ids : List Nat) {R' : List (Nat × Row)} (h : pickL R ids = R') (H : X C cur k s R' G) : X C cur k s R G := X.rows (fun i q hi => pickL_lk (ids := ids) (by rw [h]; exact hi)) H
theorem ones {l : List Value} (h : l.all one = true) : ∀ u ∈ l, u.oneCell' = true := fun u hu => one_of (List.all_eq_true.mp h u hu)
theorem ones_ints {kd : IntKind} {l : List Int} : ∀ u ∈ l.map (Value.int kd), u.oneCell' = true := fun u hu => by
  obtain ⟨x, _, rfl⟩ := List.mem_map.mp hu
  rfl
/-- A loop, round by round. -/
def RX (C : Ctx) (c : Code) (k : List CK) (n : Nat) (s : S) (R : List (Nat × Row)) (G : Mem) : Prop := ∀ ρ a w, St C.w0 C.M ρ G R s a w → Code.rounds C.P c (den C k) n a w
theorem X.rounds {c : Code} (n : Nat) (H : RX C c k n s R G) : X C (.code (.loop c)) k s R G := fun ρ a w hs => wp_loop_rounds n (H ρ a w hs)
theorem RX.succ {c : Code} {n : Nat} (H : ∀ J : S → List (Nat × Row) → Mem → Prop, (∀ s R G, RX C c k n s R G → J s R G) → X C (.code c) (.loop J :: k) s R G) : RX C c k (n + 1) s R G := by
  intro ρ a w hs
  have h := H (fun s R G => RX C c k n s R G) (fun _ _ _ h => h) ρ a w hs
  refine wp_mono h ?_
  intro e a' w' hq
  cases e with
  | normal =>
    obtain ⟨ρ', s', R', G', hs', hr⟩ := hq
    exact hr ρ' a' w' hs'
  | exit id => exact hq
  | goto l => exact hq
  | ret => exact hq
  | panic ch => exact hq
  | outgrown => exact hq
end
end Go.Proofs.YthpinlcfcgnilaaZ
