/- A part of a law's proof. Conditions: none. -/
import Derived.Test.YtjgpdbkkpomhjaaQYA
import Derived.Laws.StructEq
import Derived.Test.YtjgpdbkkpomhjaaWLast
import Derived.LoopN
import Derived.Maps.AppendAt
import Derived.ChangeKeysEq
import Derived.Laws.RangeAny
import Derived.Laws.Cover4
import Derived.Lib.AppendStr
namespace Go.Proofs.YtjgpdbkkpomhjaaX
open Go.RowKit
open Go.Proofs.YtjgpdbkkpomhjaaW.PrintLast
set_option linter.unusedVariables false
set_option linter.unusedSimpArgs false
theorem wp_keep {P : Program} {o : Oper} {a : Act} {w : World} {K : Act → World → Prop} {Q Q' : Exit → Act → World → Prop} (hQ : ∀ e a w, e ≠ .normal → Q e a w → Q' e a w) (h : o.wp P a w K Q) :
    o.wp P a w (fun a' w' => K a' w' ∧ ∀ t, o.dst ≠ some t → a'.tmps[t]? = a.tmps[t]?) Q' := by
  have put_ : ∀ (a : Act) v t, o.dst ≠ some t → (a.put o.dst v).tmps[t]? = a.tmps[t]? := fun a v t ht => by
    cases hd : o.dst with
    | none => rfl
    | some d =>
      have : d ≠ t := fun e => ht (by rw [hd, e])
      simp [Act.put, this]
  unfold Oper.wp at *
  generalize (execOp a.eval o).run P w = r at *
  cases r with
  | ok x w' =>
    cases x with
    | value v => exact ⟨h, put_ a v⟩
    | skip => exact ⟨h, put_ a _⟩
    | defer d => exact ⟨h, put_ _ _⟩
    | enter f args =>
      refine Calls.mono h ?_
      intro e w'' he
      cases e with
      | returned v => exact ⟨he, put_ a v⟩
      | panicked c => exact hQ _ _ _ (by simp) he
      | outgrown =>
        obtain ⟨a1, w1, h1⟩ := he
        exact ⟨a1, w1, hQ _ _ _ (by simp) h1⟩
    | row r args => exact Rows.mono h (fun v w'' he => ⟨he, put_ a v⟩)
    | _ => exact h.elim
  | halt e w' =>
    cases e with
    | panic v => exact hQ _ _ _ (by simp) h
    | _ => exact h.elim
structure Pin where
  t : Option Nat
  b : Nat
  ty : TypeId
  cells : List AV
def SF (ρ0 : Nat → Nat) (F : List Pin) (RF : List (Nat × Row)) (G : Mem) (w : World) : Prop :=
  Hold G w ∧ (∀ p ∈ F, w.heap[ρ0 p.b]? = some (.cells (p.cells.map (AV.real ρ0)).toArray p.ty (0, 0))) ∧ ∀ i q, lk RF i = some q → w.ownsRow 0 q.e q.size q.v q.n q.cells
def Pinned1 (s : S) (p : Pin) : Prop := (∀ t, p.t = some t → lk s.tmps t = some (.own p.b 0)) ∧ lk s.boxes p.b = some ⟨p.ty, p.cells⟩
def PinsOk (s : S) : List Pin → Prop
  | [] => True
  | p :: l => Pinned1 s p ∧ PinsOk s l
theorem PinsOk.each {s : S} : ∀ {F : List Pin}, PinsOk s F → ∀ p ∈ F, Pinned1 s p
  | p :: l, h, q, hq => by
    rcases List.mem_cons.1 hq with rfl | hq
    · exact h.1
    · exact PinsOk.each h.2 q hq
def hasPin (F : List Pin) (b : Nat) : Bool := F.any fun q => Nat.beq q.b b
def refsOk (F : List Pin) : Bool := F.all fun p => p.cells.all fun x => match x with
  | .v _ => true
  | .own b _ => hasPin F b
  | .fn _ cs => cs.all fun c => hasPin F c.1
  | .mth _ b _ => hasPin F b
theorem hasPin_eq {F : List Pin} {ρ ρ0 : Nat → Nat} (h : ∀ p ∈ F, ρ p.b = ρ0 p.b) {b : Nat} (hb : hasPin F b = true) : ρ b = ρ0 b := by
  obtain ⟨q, hq, e⟩ := List.any_eq_true.mp hb
  have := Nat.eq_of_beq_eq_true e
  rw [← this]
  exact h q hq
theorem refs_real {F : List Pin} {ρ ρ0 : Nat → Nat} (hr : refsOk F = true) (h : ∀ p ∈ F, ρ p.b = ρ0 p.b) {p : Pin} (hp : p ∈ F) : p.cells.map (AV.real ρ) = p.cells.map (AV.real ρ0) := by
  refine List.map_congr_left fun x hx => ?_
  have h1 := List.all_eq_true.mp (List.all_eq_true.mp hr p hp) x hx
  cases x with
  | v z => rfl
  | own b o => simp only [AV.real]; rw [hasPin_eq h h1]
  | mth f b o => simp only [AV.real]; rw [hasPin_eq h h1]
  | fn f cs =>
    simp only [AV.real]
    congr 2
    refine List.map_congr_left fun c hc => ?_
    rw [hasPin_eq h (List.all_eq_true.mp h1 c hc)]
def sameT (M : Mk) (F : List Pin) (a : Act) (ρ0 : Nat → Nat) : Prop := ∀ p ∈ F, (∀ t, p.t = some t → a.tmps[t]? = some (ptr (ρ0 p.b) 0)) ∧ (p.t = none → M.pin p.b = some (ρ0 p.b))
def offPin (d : Option Nat) (p : Pin) : Bool := match p.t with
  | some t => !(d == some t)
  | none => true
def XD (C : Ctx) (arr : Array Oper) (ρ0 : Nat → Nat) (F : List Pin) (RF : List (Nat × Row)) (G0 : Mem) (ds : List Nat) (n : Nat) (l : Array Bool) (k : List CK) (s : S) (R : List (Nat × Row)) (G : Mem) : Prop :=
  refsOk F = true → PinsOk s F → Le G0 G → pickL R (RF.map (·.1)) = RF → ∀ ρ a w, St C.w0 C.M ρ G R s a w → sameT C.M F a ρ0 → wpAnyLast C.P .any arr (den C k) (SF ρ0 F RF G0) ds n l a w
def XE (C : Ctx) (arr : Array Oper) (ρ0 : Nat → Nat) (F : List Pin) (RF : List (Nat × Row)) (G0 : Mem) (ds : List Nat) (n : Nat) (l : Array Bool) (k : List CK) (s : S) (R : List (Nat × Row)) (G : Mem) : Prop :=
  ∀ ρ a w, St C.w0 C.M ρ G R s a w → wpAnyLast C.P .any arr (den C k) (SF ρ0 F RF G0) ds n l a w
section
variable {C : Ctx} {arr : Array Oper} {ρ0 : Nat → Nat} {F : List Pin} {RF : List (Nat × Row)} {G0 G : Mem} {ds : List Nat} {n : Nat} {l l' : Array Bool} {k : List CK} {s : S} {R : List (Nat × Row)}
theorem St.pinρ {ρ : Nat → Nat} {a : Act} {w : World} (hs : St C.w0 C.M ρ G R s a w) (hp : PinsOk s F) (ha : sameT C.M F a ρ0) : ∀ p ∈ F, ρ p.b = ρ0 p.b := fun p hm => by
  cases hpt : p.t with
  | none => exact (hs.pn _ _ ((ha p hm).2 hpt)).2
  | some t =>
    have h5 := hs.tm _ _ ((hp.each p hm).1 t hpt)
    rw [(ha p hm).1 t hpt] at h5
    simp only [AV.real, ptr, Option.some.injEq, Value.pointer.injEq, Addr.mk.injEq] at h5
    exact h5.1.symm
theorem subR {R RF : List (Nat × Row)} (h : pickL R (RF.map (·.1)) = RF) : ∀ i q, lk RF i = some q → lk R i = some q := fun i q hi => pickL_lk (ids := RF.map (·.1)) (by rw [h]; exact hi)
theorem St.pinS {ρ : Nat → Nat} {a : Act} {w : World} (hs : St C.w0 C.M ρ G R s a w) (hr : refsOk F = true) (hp : PinsOk s F) (hG : Le G0 G) (hR : pickL R (RF.map (·.1)) = RF) (ha : sameT C.M F a ρ0) : SF ρ0 F RF G0 w := by
  refine ⟨fun q o hq => hs.g q o (hG q o hq), fun p hm => ?_, fun i q hi => hs.rw i q (subR hR i q hi)⟩
  have h1 := hs.pinρ hp ha
  rw [← h1 p hm, hs.bx _ _ (hp.each p hm).2, Box.obj, refs_real hr h1 hm]
def pinBoxes : List Pin → List (Nat × Box)
  | [] => []
  | p :: l => (p.b, ⟨p.ty, p.cells⟩) :: pinBoxes l
theorem pinBoxes_lk : ∀ {F : List Pin} {b : Nat} {bx : Box}, lk (pinBoxes F) b = some bx → ∃ p ∈ F, b = p.b ∧ bx = ⟨p.ty, p.cells⟩
  | [], b, bx, h => by simp [pinBoxes, lk] at h
  | p :: l, b, bx, h => by
    simp only [pinBoxes, lk_cons] at h
    by_cases e : p.b = b
    · rw [if_pos e] at h
      injection h with h
      exact ⟨p, by simp, e.symm, h.symm⟩
    · rw [if_neg e] at h
      obtain ⟨q, hq, r⟩ := pinBoxes_lk h
      exact ⟨q, by simp [hq], r⟩
def S.pinned (s : S) (F : List Pin) : S := ⟨s.n, s.tmps, pinBoxes F⟩
theorem St.pinned {ρ : Nat → Nat} {a : Act} {w w2 : World} (hs : St C.w0 C.M ρ G R s a w) (hr : refsOk F = true) (hp : PinsOk s F) (hG : Le G0 G) (hR : pickL R (RF.map (·.1)) = RF) (ha : sameT C.M F a ρ0) (h2 : SF ρ0 F RF G0 w2) : St w2 ⟨fun _ => True, fun _ => none⟩ ρ G0 RF (s.pinned F) a w2 := by
  have h1 := hs.pinρ hp ha
  have sub := subR hR
  refine ⟨hs.tm, hs.sz, hs.df, fun i b hi => ?_, fun _ _ _ => .inr trivial, fun i j b c hi hj e => ?_, h2.2.2, fun _ _ _ _ _ => .inr trivial, fun i j r q k hi hj h3 h4 => hs.ri i j r q k (sub _ _ hi) (sub _ _ hj) h3 h4, fun i j r b hi hj => ?_, h2.1, fun q o j b hq hj => ?_, fun k o i r hk hi => hs.gr k o i r (hG k o hk) (sub _ _ hi), Fr.refl _ _, fun b g hb => by cases hb⟩
  · obtain ⟨p, hm, rfl, rfl⟩ := pinBoxes_lk hi
    rw [h1 p hm, h2.2.1 p hm, Box.obj, refs_real hr h1 hm]
  · obtain ⟨p, hm, rfl, rfl⟩ := pinBoxes_lk hi
    obtain ⟨q, hq, rfl, rfl⟩ := pinBoxes_lk hj
    exact hs.bi _ _ _ _ (hp.each p hm).2 (hp.each q hq).2 e
  · obtain ⟨q, hq, rfl, rfl⟩ := pinBoxes_lk hj
    exact hs.rb i _ r _ (sub _ _ hi) (hp.each q hq).2
  · obtain ⟨p, hm, rfl, rfl⟩ := pinBoxes_lk hj
    exact hs.gb q o _ _ (hG q o hq) (hp.each p hm).2
def opVal (P : Program) (o : Oper) (s : S) : Option AV :=
  match o.op with
  | .move x | .assign x => s.ev x
  | .pick c x y => match s.ev c, s.ev x, s.ev y with
    | some (.v (.bool true)), some x, some _ => some x
    | some (.v (.bool false)), some _, some y => some y
    | _, _, _ => none
  | .load t x => match s.ev x with
    | some (.own b off) => match lk s.boxes b, spure P (isAgg t), spure P (sizeOf t) with
      | some bx, some false, _ => bx.cells[off]?
      | some bx, some true, some n => match plainAll ((bx.cells.drop off).take n) with
        | some l => if Nat.ble (off + n) bx.cells.length then some (.v (.agg l.toArray)) else none
        | none => none
      | _, _, _ => none
    | _ => none
  | .fieldAddr t x f => match s.ev x with
    | some (.own b off) => match fieldOff P t f with
      | some n => some (.own b (off + n))
      | none => none
    | _ => none
  | _ => if isPure o.op && (operandsOf o.op).all s.plain then match spure P (execOp s.real o) with
      | some (.value z) => some (.v z)
      | _ => none
    else none
theorem opVal_ok {P : Program} {w0 w : World} {M : Mk} {ρ : Nat → Nat} {a : Act} {o : Oper} {y : AV} (h : opVal P o s = some y) (hs : St w0 M ρ G R s a w) : (execOp a.eval o).run P w = .ok (.value (y.real ρ)) w := by
  obtain ⟨dst, op, ty, pos, af, gd⟩ := o
  have pureCase : (if isPure op && (operandsOf op).all s.plain then match spure P (execOp s.real ⟨dst, op, ty, pos, af, gd⟩) with
      | some (.value z) => some (AV.v z)
      | _ => none
    else none) = some y → (execOp a.eval ⟨dst, op, ty, pos, af, gd⟩).run P w = .ok (.value (y.real ρ)) w := fun h => by
    split at h
    · rename_i hc
      simp only [Bool.and_eq_true, List.all_eq_true] at hc
      split at h
      · rename_i z hz
        injection h with h
        subst h
        have he : execOp a.eval ⟨dst, op, ty, pos, af, gd⟩ = execOp s.real ⟨dst, op, ty, pos, af, gd⟩ := exec_same hc.1 (fun x hx => by
          obtain ⟨z, h1, h2⟩ := S.plain_real (hc.2 x hx)
          rw [h2]
          exact hs.ev h1)
        rw [he]
        exact spure_run hz w
      · cases h
    · cases h
  cases op with
  | move x => simp only [opVal] at h; have := hs.ev h; unfold execOp; simp only [this]; rfl
  | assign x => simp only [opVal] at h; have := hs.ev h; unfold execOp; simp only [this]; rfl
  | pick c x y =>
    simp only [opVal] at h
    split at h
    · rename_i hc hx hy
      injection h with h
      subst h
      have e1 := hs.ev hc
      have e2 := hs.ev hx
      unfold execOp
      simp only [e1, e2, AV.real]
      rfl
    · rename_i hc hx hy
      injection h with h
      subst h
      have e1 := hs.ev hc
      have e2 := hs.ev hy
      unfold execOp
      simp only [e1, e2, AV.real]
      rfl
    · cases h
  | load t x =>
    simp only [opVal] at h
    split at h
    · rename_i b off hx
      have e1 : a.eval x = ptr (ρ b) off := hs.ev hx
      split at h
      · rename_i bx hb ht
        unfold execOp
        simp only [e1]
        exact run_v (load_one hs hb ht h)
      · rename_i bx n hb ht hn
        split at h
        · rename_i l hl
          split at h
          · rename_i hle
            injection h with h
            subst h
            unfold execOp
            simp only [e1]
            exact run_v (load_all hs hb ht hn hl (Nat.ble_eq.mp hle))
          · cases h
        · cases h
      · cases h
    · cases h
  | fieldAddr t x f =>
    simp only [opVal] at h
    split at h
    · rename_i b off hx
      have e1 : a.eval x = ptr (ρ b) off := hs.ev hx
      split at h
      · rename_i n hn
        injection h with h
        subst h
        unfold execOp
        simp only [e1]
        exact run_v (field_run hn)
      · cases h
    · cases h
  | _ => simp only [opVal] at h; exact pureCase h
def offGuard (s : S) (arr : Array Oper) (o : Oper) : Bool := match o.guard with
  | none => false
  | some (j, want) => match yld s arr j with
    | some b => !(b == some want)
    | none => false
theorem offGuard_ok {ρ : Nat → Nat} {a : Act} {w : World} {o : Oper} (h : offGuard s arr o = true) (hs : St C.w0 C.M ρ G R s a w) : Region.wanted o (yielded arr a.tmps) = false := by
  unfold offGuard at h
  unfold Region.wanted
  split at h
  · cases h
  · rename_i j want hg
    rw [hg]
    split at h
    · rename_i b hb
      simp only [yld_ok hb hs]
      simpa using h
    · cases h
def QOk (C : Ctx) : Prop := ∀ c a w d v, C.Q (.panic c) (a.put d v) w → C.Q (.panic c) a w
theorem den_panic (hQ : QOk C) : ∀ (k : List CK) c a w d v, den C k (.panic c) (a.put d v) w → den C k (.panic c) a w
  | [], c, a, w, d, v, h => hQ c a w d v h
  | .seq _ :: k, c, a, w, d, v, h => den_panic hQ k c a w d v h
  | .blk _ :: k, c, a, w, d, v, h => den_panic hQ k c a w d v h
  | .loop _ :: k, c, a, w, d, v, h => den_panic hQ k c a w d v h
theorem QOk.ctxG {P : Program} {fn : Func} {G : Mem} {w : World} {Post : Mem → Value → List Row → Prop} : QOk (CtxG P fn G w Post) := fun c a w' d v h => by
  have : (a.put d v).defers = a.defers := by cases d <;> rfl
  have h : (a.put d v).defers = [] ∧ PostG G w Post (.panicked c) w' := h
  rw [this] at h
  exact h
theorem offPin_ne {d : Option Nat} {p : Pin} (h : offPin d p = true) : ∀ t, p.t = some t → d ≠ some t := fun t ht e => by
  unfold offPin at h
  rw [ht, e] at h
  simp at h
theorem PinsOk.put {d : Option Nat} {y : AV} (hp : PinsOk s F) (hd : F.all (offPin d) = true) : PinsOk (s.put d y) F := by
  induction F with
  | nil => trivial
  | cons p l ih =>
    simp only [List.all_cons, Bool.and_eq_true] at hd
    refine ⟨?_, ih hp.2 hd.2⟩
    obtain ⟨h1, h2⟩ := hp.1
    refine ⟨fun t ht => ?_, ?_⟩
    · cases d with
      | none => exact h1 t ht
      | some d =>
        simp only [S.put, lk_cons]
        rw [if_neg (fun e => offPin_ne hd.1 t ht (by rw [e]))]
        exact h1 t ht
    · cases d with
      | none => exact h2
      | some d => exact h2
theorem sameT.put {M : Mk} {a : Act} {d : Option Nat} {y : Value} (ha : sameT M F a ρ0) (hd : F.all (offPin d) = true) : sameT M F (a.put d y) ρ0 := fun p hm => by
  refine ⟨fun t ht => ?_, (ha p hm).2⟩
  rw [← (ha p hm).1 t ht]
  have := offPin_ne (List.all_eq_true.1 hd p hm) t ht
  cases d with
  | none => rfl
  | some d =>
    have hne : ¬ d = t := fun e => this (by rw [e])
    simp [Act.put, Array.getElem?_setIfInBounds, hne]
theorem XD.takeV {i : Nat} {o : Oper} (y : AV) (hQ : QOk C) (ho : arr[i]? = some o) (hc : takeB .any arr ds l l' i = true) (hg : (guardOk s arr o && s.can o.dst) = true)
    (hv : ∀ ρ a w, St w ⟨fun _ => True, fun _ => none⟩ ρ G0 RF (s.pinned F) a w → (execOp a.eval o).run C.P w = .ok (.value (y.real ρ)) w) (hd : F.all (offPin o.dst) = true)
    (H : XD C arr ρ0 F RF G0 ds n l' k (s.put o.dst y) R G) : XD C arr ρ0 F RF G0 ds (n + 1) l k s R G := by
  intro hr hp hG hR ρ a w hs ha
  simp only [Bool.and_eq_true] at hg
  refine take_ (N := o.dst) l' ho rfl hc (fun c a w h => den_panic hQ k c a w _ _ h) (v := y.real ρ) (.inl ⟨guardOk_ok hg.1 hs, fun w2 h2 => hv ρ a w2 (hs.pinned hr hp hG hR ha h2)⟩) (hs.pinS hr hp hG hR ha) rfl ?_
  exact H hr (hp.put hd) hG hR ρ _ w (hs.put hg.2) (ha.put hd)
theorem XD.take {i : Nat} (o : Oper) (y : AV) (hQ : QOk C) (ho : arr[i]? = some o) (hc : takeB .any arr ds l l' i = true) (hg : (guardOk s arr o && s.can o.dst) = true)
    (hv : opVal C.P o (s.pinned F) = some y) (hd : F.all (offPin o.dst) = true)
    (H : XD C arr ρ0 F RF G0 ds n l' k (s.put o.dst y) R G) : XD C arr ρ0 F RF G0 ds (n + 1) l k s R G :=
  XD.takeV y hQ ho hc hg (fun ρ a w hs => opVal_ok hv hs) hd H
theorem XD.off {i : Nat} (o : Oper) (hQ : QOk C) (ho : arr[i]? = some o) (hc : takeB .any arr ds l l' i = true) (hg : (offGuard s arr o && s.can o.dst) = true) (hd : F.all (offPin o.dst) = true)
    (H : XD C arr ρ0 F RF G0 ds n l' k (s.put o.dst (.v undef)) R G) : XD C arr ρ0 F RF G0 ds (n + 1) l k s R G := by
  intro hr hp hG hR ρ a w hs ha
  simp only [Bool.and_eq_true] at hg
  refine take_ (N := o.dst) l' ho rfl hc (fun c a w h => den_panic hQ k c a w _ _ h) (v := undef) (.inr ⟨offGuard_ok hg.1 hs, rfl⟩) (hs.pinS hr hp hG hR ha) rfl ?_
  exact H hr (hp.put hd) hG hR ρ _ w (hs.put (x := .v undef) hg.2) (ha.put hd)
theorem XD.one {i : Nat} (o : Oper) (ho : arr[i]? = some o) (hc : (readyB .any arr l l' i && !ds.contains i) = true) (hd : F.all (offPin o.dst) = true)
    (H : X C (.ops arr [o]) (.loop (fun s' R' G' => PinsOk s' F ∧ Le G0 G' ∧ pickL R' (RF.map (·.1)) = RF ∧ XD C arr ρ0 F RF G0 ds n l' k s' R' G') :: k) s R G) : XD C arr ρ0 F RF G0 ds (n + 1) l k s R G := by
  intro hr hp hG hR ρ a w hs ha
  simp only [readyB, Bool.and_eq_true, beq_iff_eq] at hc
  obtain ⟨⟨h1, h2⟩, _⟩ := hc
  subst h2
  have hdp := fun p (hm : p ∈ F) => offPin_ne (List.all_eq_true.1 hd p hm)
  have hx := H ρ a w hs
  simp only [wpList] at hx
  refine wpAnyLast_all h1 (by simp) fun j hj => ?_
  obtain rfl : j = i := by simpa using hj
  have fin : ∀ a' w', den C (.loop (fun s' R' G' => PinsOk s' F ∧ Le G0 G' ∧ pickL R' (RF.map (·.1)) = RF ∧ XD C arr ρ0 F RF G0 ds n (l.setIfInBounds j true) k s' R' G') :: k) .normal a' w' → (∀ t, o.dst ≠ some t → a'.tmps[t]? = a.tmps[t]?) →
      (j ∉ ds → SF ρ0 F RF G0 w → SF ρ0 F RF G0 w') ∧ wpAnyLast C.P .any arr (den C k) (SF ρ0 F RF G0) ds n (l.setIfInBounds j true) a' w' := by
    rintro a' w' ⟨ρ', s', R', G', hs', hp', hG', hR', hX⟩ ht
    have ha' : sameT C.M F a' ρ0 := fun p hm => ⟨fun t he => (ht _ (hdp p hm t he)).trans ((ha p hm).1 t he), (ha p hm).2⟩
    exact ⟨fun _ _ => hs'.pinS hr hp' hG' hR' ha', hX hr hp' hG' hR' ρ' a' w' hs' ha'⟩
  have hQQ : ∀ e a w, e ≠ .normal → den C (.loop (fun s' R' G' => PinsOk s' F ∧ Le G0 G' ∧ pickL R' (RF.map (·.1)) = RF ∧ XD C arr ρ0 F RF G0 ds n (l.setIfInBounds j true) k s' R' G') :: k) e a w → den C k e a w := fun e a w he h => by
    cases e <;> first | exact absurd rfl he | exact h
  unfold wpOp
  simp only [ho]
  split at hx
  · rename_i hw
    rw [if_pos hw]
    rcases hx with hx | ⟨hx1, a1, w1, hx2⟩
    · exact .inl (Oper.wp_mono (fun a' w' h => fin a' w' h.1 h.2) (wp_keep hQQ hx))
    · exact .inr ⟨hx1, a1, w1, hQQ _ _ _ (by simp) hx2⟩
  · rename_i hw
    rw [if_neg hw]
    refine fin _ _ hx fun t ht => ?_
    cases hdd : o.dst with
    | none => rfl
    | some d =>
      have hne : ¬ d = t := fun e => ht (by rw [hdd, e])
      simp [Act.put, Array.getElem?_setIfInBounds, hne]
theorem XE.one {i : Nat} (o : Oper) (ho : arr[i]? = some o) (hc : (readyB .any arr l l' i && ds.contains i) = true)
    (H : X C (.ops arr [o]) (.loop (fun s' R' G' => XE C arr ρ0 F RF G0 ds n l' k s' R' G') :: k) s R G) : XE C arr ρ0 F RF G0 ds (n + 1) l k s R G := by
  intro ρ a w hs
  simp only [readyB, Bool.and_eq_true, beq_iff_eq, List.contains_iff_mem] at hc
  obtain ⟨⟨h1, h2⟩, hm⟩ := hc
  subst h2
  have hx := H ρ a w hs
  simp only [wpList] at hx
  refine wpAnyLast_all h1 (by simp) fun j hj => ?_
  obtain rfl : j = i := by simpa using hj
  have fin : ∀ a' w', den C (.loop (fun s' R' G' => XE C arr ρ0 F RF G0 ds n (l.setIfInBounds j true) k s' R' G') :: k) .normal a' w' →
      (j ∉ ds → SF ρ0 F RF G0 w → SF ρ0 F RF G0 w') ∧ wpAnyLast C.P .any arr (den C k) (SF ρ0 F RF G0) ds n (l.setIfInBounds j true) a' w' := by
    rintro a' w' ⟨ρ', s', R', G', hs', hX⟩
    exact ⟨fun hn => absurd hm hn, hX ρ' a' w' hs'⟩
  have hQQ : ∀ e a w, e ≠ .normal → den C (.loop (fun s' R' G' => XE C arr ρ0 F RF G0 ds n (l.setIfInBounds j true) k s' R' G') :: k) e a w → den C k e a w := fun e a w he h => by
    cases e <;> first | exact absurd rfl he | exact h
  unfold wpOp
  simp only [ho]
  split at hx
  · rename_i hw
    rw [if_pos hw]
    rcases hx with hx | ⟨hx1, a1, w1, hx2⟩
    · exact .inl (Oper.wp_mono (fun a' w' h => fin a' w' h.1) (wp_keep hQQ hx))
    · exact .inr ⟨hx1, a1, w1, hQQ _ _ _ (by simp) hx2⟩
  · rename_i hw
    rw [if_neg hw]
    exact fin _ _ hx
theorem XD.toE (H : XE C arr ρ0 F RF G0 ds n l k s R G) : XD C arr ρ0 F RF G0 ds n l k s R G := fun _ _ _ _ ρ a w hs _ => H ρ a w hs
theorem XE.done (hr : (Region.ready .any arr l == []) = true) (H : X C (.ex .normal) k s R G) : XE C arr ρ0 F RF G0 ds n l k s R G := fun ρ a w hs => done_ hr (H ρ a w hs)
theorem XE.norm (ids bids : List Nat) (s' : S) (h : s.only ids bids = s') (H : XE C arr ρ0 F RF G0 ds n l k s' R G) : XE C arr ρ0 F RF G0 ds n l k s R G := by
  subst h
  intro ρ a w hs
  exact H ρ a w (hs.sub (s' := s.only ids bids) rfl (fun _ _ h => pickL_lk (ids := ids) h) (fun _ _ h => pickL_lk (ids := bids) h) (fun _ _ h => h))
theorem X.back {J : S → List (Nat × Row) → Mem → Prop} (h : J s R G) : X C (.ops arr []) (.loop J :: k) s R G := fun ρ a w hs => ⟨ρ, s, R, G, hs, h⟩
theorem XD.done (hr : (Region.ready .any arr l == []) = true) (H : X C (.ex .normal) k s R G) : XD C arr ρ0 F RF G0 ds n l k s R G := fun hr_ hp hG hR ρ a w hs ha =>
  done_ hr (H ρ a w hs)
theorem St.drew {w0 w : World} {M : Mk} {ρ : Nat → Nat} {a : Act} (hs : St w0 M ρ G R s a w) : St w0 M ρ G R s a w.drew :=
  hs.keep (Z := fun _ => False) ⟨rfl, rfl, rfl, Nat.le_refl _, fun _ _ _ => rfl⟩ (fun _ h => h.elim) (fun _ _ _ h => h) (fun _ _ _ _ _ h => h) (fun _ _ _ h => h)
theorem XD.start {id : Nat} (F : List Pin) (RF : List (Nat × Row)) (ds : List Nat) (hm : C.P.follows .mixedOrders = true) (hr : refsOk F = true) (hp : PinsOk s F) (hM : ∀ p ∈ F, p.t = none → (C.M.pin p.b).isSome = true) (hR : pickL R (RF.map (·.1)) = RF) (H : ∀ ρ0, XD C arr ρ0 F RF G ds arr.size (Array.replicate arr.size false) k s R G) : X C (.code (.region id arr true)) k s R G := fun ρ a w hs => by
  have hT : sameT C.M F a ρ := fun p hm => ⟨fun t ht => hs.tm _ _ ((hp.each p hm).1 t ht), fun hn => by
    obtain ⟨g, hg⟩ := Option.isSome_iff_exists.1 (hM p hm hn)
    rw [hg, (hs.pn _ _ hg).2]⟩
  have hS : SF ρ F RF G w.drew := hs.drew.pinS hr hp (Le.refl _) hR hT
  exact wp_region_last_drew hm hS fun _ => H ρ hr hp (Le.refl _) hR ρ a w.drew hs.drew hT
def lb (n m : Nat) : Array Bool := ((List.range n).map fun i => m.testBit i).toArray
theorem XD.open {id : Nat} {c : Code} (n : Nat) (F : List Pin) (RF : List (Nat × Row)) (ds : List Nat) (hc : c = .region id arr true) (hm : C.P.follows .mixedOrders = true) (hn : arr.size = n) (hl : Array.replicate n false = lb n 0) (hr : refsOk F = true) (hp : PinsOk s F) (hM : ∀ p ∈ F, p.t = none → (C.M.pin p.b).isSome = true) (hR : pickL R (RF.map (·.1)) = RF) (H : ∀ ρ0, XD C arr ρ0 F RF G ds n (lb n 0) k s R G) : X C (.code c) k s R G := by
  subst hc
  subst hn
  rw [← hl] at H
  exact XD.start F RF ds hm hr hp hM hR H
theorem XD.known (j : Nat) {x y : AV} (hj : lk s.tmps j = some x) (e : x = y) (H : XD C arr ρ0 F RF G0 ds n l k { s with tmps := (j, y) :: s.tmps } R G) : XD C arr ρ0 F RF G0 ds n l k s R G := by
  subst e
  have hlk : ∀ i, lk ((j, x) :: s.tmps) i = lk s.tmps i := fun i => by
    rw [lk_cons]
    by_cases ej : j = i
    · subst ej
      rw [if_pos rfl, hj]
    · rw [if_neg ej]
  intro hr hp hG hR ρ a w hs ha
  refine H hr ?_ hG hR ρ a w ⟨fun i x hi => hs.tm i x (by rw [← hlk i]; exact hi), hs.sz, hs.df, hs.bx, hs.bo, hs.bi, hs.rw, hs.ro, hs.ri, hs.rb, hs.g, hs.gb, hs.gr, hs.fr, hs.pn⟩ ha
  clear ha H hr
  induction F with
  | nil => trivial
  | cons p l ih =>
    obtain ⟨⟨h1, h2⟩, h3⟩ := hp
    exact ⟨⟨fun t ht => (hlk _).trans (h1 t ht), h2⟩, ih h3⟩
theorem XD.split (j : Nat) {b : Bool} (hj : lk s.tmps j = some (.v (.bool b))) (H1 : b = true → XD C arr ρ0 F RF G0 ds n l k { s with tmps := (j, .v (.bool true)) :: s.tmps } R G) (H2 : b = false → XD C arr ρ0 F RF G0 ds n l k { s with tmps := (j, .v (.bool false)) :: s.tmps } R G) : XD C arr ρ0 F RF G0 ds n l k s R G := by
  cases b with
  | true => exact XD.known j hj rfl (H1 rfl)
  | false => exact XD.known j hj rfl (H2 rfl)
theorem X.simple {o : Oper} {r : List Oper} (hg : (guardOk s arr o && (opStep C.P o s).isSome) = true) (H : X C (.ops arr r) k ((opStep C.P o s).getD s) R G) : X C (.ops arr (o :: r)) k s R G := by
  simp only [Bool.and_eq_true] at hg
  obtain ⟨s', h⟩ := Option.isSome_iff_exists.1 hg.2
  rw [h] at H
  exact ops_step (fun ρ a w hs => guardOk_ok hg.1 hs) h H
theorem X.asR {cur : Cur} {R' : List (Nat × Row)} (h : R = R') (H : X C cur k s R' G) : X C cur k s R G := by subst h; exact H
theorem XD.norm (ids bids : List Nat) (s' : S) (h : s.only ids bids = s') (hp' : PinsOk s' F) (H : XD C arr ρ0 F RF G0 ds n l k s' R G) : XD C arr ρ0 F RF G0 ds n l k s R G := by
  subst h
  intro hr hp hG hR ρ a w hs ha
  exact H hr hp' hG hR ρ a w (hs.sub (s' := s.only ids bids) rfl (fun _ _ h => pickL_lk (ids := ids) h) (fun _ _ h => pickL_lk (ids := bids) h) (fun _ _ h => h)) ha
end
end Go.Proofs.YtjgpdbkkpomhjaaX
namespace Go.Proofs.YtjgpdbkkpomhjaaX
open Go.RowKit
set_option linter.unusedVariables false
set_option linter.unusedSimpArgs false
def shAV : AV → AV
  | .v x => .v x
  | .own b o => .own (b + 1000) o
  | .fn f cs => .fn f (cs.map fun p => (p.1 + 1000, p.2))
  | .mth f b o => .mth f (b + 1000) o
def unAV : AV → Option AV
  | .v x => some (.v x)
  | .own b o => if Nat.ble 1000 b then some (.own (b - 1000) o) else none
  | .fn f cs => if cs.all (fun p => Nat.ble 1000 p.1) then some (.fn f (cs.map fun p => (p.1 - 1000, p.2))) else none
  | .mth f b o => if Nat.ble 1000 b then some (.mth f (b - 1000) o) else none
def unAll : List AV → Option (List AV)
  | [] => some []
  | x :: l => match unAV x, unAll l with
    | some y, some ys => some (y :: ys)
    | _, _ => none
def shBoxes : List (Nat × Box) → List (Nat × Box)
  | [] => []
  | (i, b) :: l => (i + 1000, ⟨b.t, b.cells.map shAV⟩) :: shBoxes l
def unBoxes : List (Nat × Box) → Option (List (Nat × Box))
  | [] => some []
  | (i, b) :: l => if Nat.ble 1000 i then match unAll b.cells, unBoxes l with
      | some cs, some l' => some ((i - 1000, ⟨b.t, cs⟩) :: l')
      | _, _ => none
    else unBoxes l
def enumA : Nat → List AV → List (Nat × AV)
  | _, [] => []
  | i, x :: r => (i, x) :: enumA (i + 1) r
theorem enumA_lk : ∀ {l : List AV} {n i : Nat} {x : AV}, lk (enumA n l) i = some x → n ≤ i ∧ l[i - n]? = some x
  | [], n, i, x, h => by simp [enumA, lk] at h
  | y :: r, n, i, x, h => by
    simp only [enumA, lk_cons] at h
    by_cases e : n = i
    · subst e
      rw [if_pos rfl] at h
      injection h with h
      exact ⟨Nat.le_refl _, by simp [h]⟩
    · rw [if_neg e] at h
      obtain ⟨h1, h2⟩ := enumA_lk h
      refine ⟨by omega, ?_⟩
      rw [show i - n = (i - (n + 1)) + 1 by omega]
      exact h2
def ρc (ρ : Nat → Nat) : Nat → Nat := fun i => if 1000 ≤ i then ρ (i - 1000) else 0
theorem ρc_add (ρ : Nat → Nat) (i : Nat) : ρc ρ (i + 1000) = ρ i := by simp [ρc]
theorem shAV_real {ρ : Nat → Nat} (x : AV) : (shAV x).real (ρc ρ) = x.real ρ := by
  cases x with
  | v x => rfl
  | own b o => simp [shAV, AV.real, ρc_add]
  | mth f b o => simp [shAV, AV.real, ρc_add]
  | fn f cs => simp [shAV, AV.real, ρc_add, Function.comp_def]
theorem shBoxes_lk : ∀ {l : List (Nat × Box)} {i : Nat} {b : Box}, lk (shBoxes l) i = some b → ∃ j c, i = j + 1000 ∧ lk l j = some c ∧ b = ⟨c.t, c.cells.map shAV⟩
  | [], i, b, h => by simp [shBoxes, lk] at h
  | (j, c) :: l, i, b, h => by
    simp only [shBoxes, lk_cons] at h
    by_cases e : j + 1000 = i
    · rw [if_pos e] at h
      injection h with h
      exact ⟨j, c, e.symm, by rw [lk_cons, if_pos rfl], h.symm⟩
    · rw [if_neg e] at h
      obtain ⟨j', c', rfl, h1, h2⟩ := shBoxes_lk h
      exact ⟨j', c', rfl, by rw [lk_cons, if_neg (by omega)]; exact h1, h2⟩
theorem unBoxes_lk : ∀ {l l' : List (Nat × Box)}, unBoxes l = some l' → ∀ {i : Nat} {b : Box}, lk l' i = some b → ∃ c, lk l (i + 1000) = some c ∧ b.t = c.t ∧ unAll c.cells = some b.cells
  | [], l', h, i, b, hi => by simp only [unBoxes, Option.some.injEq] at h; subst h; simp [lk] at hi
  | (j, c) :: l, l', h, i, b, hi => by
    simp only [unBoxes] at h
    split at h
    · rename_i hj
      have hj := Nat.ble_eq.mp hj
      split at h
      · rename_i cs l2 h1 h2
        injection h with h
        subst h
        rw [lk_cons] at hi
        rw [lk_cons]
        by_cases e : j - 1000 = i
        · rw [if_pos e] at hi
          injection hi with hi
          subst hi
          exact ⟨c, if_pos (by omega), rfl, h1⟩
        · rw [if_neg e] at hi
          rw [if_neg (by omega)]
          exact unBoxes_lk h2 hi
      · cases h
    · rename_i hj
      have hj : ¬ 1000 ≤ j := fun e => hj (Nat.ble_eq.mpr e)
      rw [lk_cons, if_neg (by omega)]
      exact unBoxes_lk h hi
theorem unAV_real {ρ ρ2 : Nat → Nat} (hρ : ∀ i, ρ2 (i + 1000) = ρ i) {x y : AV} (h : unAV x = some y) : x.real ρ2 = y.real ρ := by
  have hs : ∀ b, Nat.ble 1000 b = true → ρ2 b = ρ (b - 1000) := fun b hb => by
    have := Nat.ble_eq.mp hb
    rw [← hρ (b - 1000), Nat.sub_add_cancel this]
  cases x with
  | v x => simp only [unAV, Option.some.injEq] at h; subst h; rfl
  | own b o =>
    simp only [unAV] at h
    split at h
    · rename_i hb
      injection h with h
      subst h
      simp [AV.real, hs b hb]
    · cases h
  | mth f b o =>
    simp only [unAV] at h
    split at h
    · rename_i hb
      injection h with h
      subst h
      simp [AV.real, hs b hb]
    · cases h
  | fn f cs =>
    simp only [unAV] at h
    split at h
    · rename_i hb
      injection h with h
      subst h
      simp only [AV.real, List.map_map]
      congr 2
      refine List.map_congr_left fun p hp => ?_
      simp only [Function.comp_apply]
      rw [hs p.1 (List.all_eq_true.mp hb p hp)]
    · cases h
theorem unAll_real {ρ ρ2 : Nat → Nat} (hρ : ∀ i, ρ2 (i + 1000) = ρ i) : ∀ {l l' : List AV}, unAll l = some l' → l.map (AV.real ρ2) = l'.map (AV.real ρ)
  | [], l', h => by simp only [unAll, Option.some.injEq] at h; subst h; rfl
  | x :: l, l', h => by
    simp only [unAll] at h
    split at h
    · rename_i y ys h1 h2
      injection h with h
      subst h
      simp only [List.map_cons, unAV_real hρ h1, unAll_real hρ h2]
    · cases h
def inS (fn : Func) (l : List AV) (s : S) : S := ⟨fn.ntmps, enumA 0 (l.map shAV), shBoxes s.boxes⟩
section
variable {C : Ctx} {arr : Array Oper} {k : List CK} {s : S} {R : List (Nat × Row)} {G : Mem} {o : Oper} {r : List Oper}
theorem QOk.body {P : Program} {fn : Func} {R : Ending → World → Prop} {w0 : World} {M : Mk} : QOk ⟨P, bodyPost P fn R, w0, M⟩ := fun c a w' d v h => by
  have : (a.put d v).defers = a.defers := by cases d <;> rfl
  have h : (a.put d v).defers = [] ∧ R (.panicked c) w' := h
  rw [this] at h
  exact h
theorem X.inline {f : FuncId} {l : List AV} {fn : Func} {c : Code} (hc : calls s o = some (f, l)) (hf : (okFn C.P f && (guardOk s arr o && (s.can o.dst && Nat.ble l.length fn.ntmps))) = true) (hfn : C.P.funcs[f]? = some fn) (hb : fn.body = some c)
    (H : ∀ Q' M', (∀ b, 1000 ≤ b → (M'.pin b).isSome = true) → QOk ⟨C.P, Q', C.w0, M'⟩ →
      (∀ e s2 R2 G2 vs bs, (e = .ret ∨ e = .normal) → (resAll C.P s2 fn.results.toList).bind plainAll = some vs → unBoxes s2.boxes = some bs →
        X C (.ops arr r) k (({ n := s.n, tmps := s.tmps, boxes := bs } : S).put o.dst (.v (mkRes vs))) R2 G2 → X ⟨C.P, Q', C.w0, M'⟩ (.ex e) [] s2 R2 G2) →
      X ⟨C.P, Q', C.w0, M'⟩ (.code c) [] (inS fn l s) R G) : X C (.ops arr (o :: r)) k s R G := by
  simp only [Bool.and_eq_true] at hf
  refine X.call hc hf.1 hf.2.1 fun ρ a w hs => ?_
  have hle := Nat.ble_eq.mp hf.2.2.2
  refine calls_of_wp hfn hb ?_
  refine H (bodyPost C.P fn fun e w' => ∃ v, e = .returned v ∧ ∃ ρ' s' R' G', X C (.ops arr r) k s' R' G' ∧ St C.w0 C.M ρ' G' R' s' (a.put o.dst v) w')
    ⟨C.M.can, fun i => if 1000 ≤ i then some (ρ (i - 1000)) else none⟩ (fun b hb => by simp [hb]) QOk.body ?_ (ρc ρ) _ w ?_
  · intro e s2 R2 G2 vs bs he hr hbs HX ρ2 a2 w2 hs2
    obtain ⟨xs, h1, h2⟩ := Option.bind_eq_some_iff.mp hr
    have hrun := results_run (fn := fn) hs2 h1 (plainAll_real h2)
    have hρ : ∀ i, ρ2 (i + 1000) = ρ i := fun i => (hs2.pn (i + 1000) (ρ i) (by simp)).2
    have hst : St C.w0 C.M ρ G2 R2 ⟨s.n, s.tmps, bs⟩ a w2 := by
      refine ⟨hs.tm, hs.sz, hs.df, fun i b hi => ?_, fun i b hi => ?_, fun i j b c hi hj e => ?_, hs2.rw, hs2.ro, hs2.ri, fun i j r b hi hj => ?_, hs2.g, fun k o j b hk hj => ?_, hs2.gr, hs2.fr, hs.pn⟩
      · obtain ⟨c2, h3, h4, h5⟩ := unBoxes_lk hbs hi
        have := hs2.bx _ _ h3
        rw [hρ i] at this
        rw [this, Box.obj, Box.obj, h4, unAll_real hρ h5]
      · obtain ⟨c2, h3, _⟩ := unBoxes_lk hbs hi
        have := hs2.bo _ _ h3
        rwa [hρ i] at this
      · obtain ⟨c2, h3, _⟩ := unBoxes_lk hbs hi
        obtain ⟨c3, h4, _⟩ := unBoxes_lk hbs hj
        have := hs2.bi _ _ _ _ h3 h4 (by rw [hρ, hρ]; exact e)
        omega
      · obtain ⟨c3, h4, _⟩ := unBoxes_lk hbs hj
        have := hs2.rb _ _ _ _ hi h4
        rwa [hρ j] at this
      · obtain ⟨c3, h4, _⟩ := unBoxes_lk hbs hj
        have := hs2.gb _ _ _ _ hk h4
        rwa [hρ j] at this
    rcases he with rfl | rfl
    · exact ⟨hs2.df, _, hrun, _, rfl, ρ, _, R2, G2, HX, hst.put (x := .v _) hf.2.2.1⟩
    · exact ⟨hs2.df, _, hrun, _, rfl, ρ, _, R2, G2, HX, hst.put (x := .v _) hf.2.2.1⟩
  · have hmap : (l.map shAV).map (AV.real (ρc ρ)) = l.map (AV.real ρ) := by
      rw [List.map_map]
      exact List.map_congr_left fun x _ => shAV_real x
    refine ⟨fun i x hi => ?_, ?_, rfl, fun i b hi => ?_, fun i b hi => ?_, fun i j b c hi hj e => ?_, hs.rw, hs.ro, hs.ri, fun i j r b hi hj => ?_, hs.g, fun k o j b hk hj => ?_, hs.gr, hs.fr, fun b g hb => ?_⟩
    · obtain ⟨_, h2⟩ := enumA_lk hi
      rw [Nat.sub_zero] at h2
      have h3 : (l.map (AV.real ρ))[i]? = some (x.real (ρc ρ)) := by rw [← hmap, List.getElem?_map, h2]; rfl
      have hlt := (List.getElem?_eq_some_iff.mp h3).1
      rw [Array.getElem?_append_left (by simpa using hlt)]
      simpa using h3
    · simp [inS]; omega
    · obtain ⟨j, c, rfl, h1, rfl⟩ := shBoxes_lk hi
      rw [ρc_add, hs.bx j c h1, Box.obj, Box.obj]
      simp only [List.map_map]
      rw [show c.cells.map (AV.real (ρc ρ) ∘ shAV) = c.cells.map (AV.real ρ) from List.map_congr_left fun x _ => shAV_real x]
    · obtain ⟨j, c, rfl, h1, rfl⟩ := shBoxes_lk hi
      rw [ρc_add]
      exact hs.bo j c h1
    · obtain ⟨i', c1, rfl, h1, rfl⟩ := shBoxes_lk hi
      obtain ⟨j', c2, rfl, h2, rfl⟩ := shBoxes_lk hj
      rw [ρc_add, ρc_add] at e
      rw [hs.bi i' j' c1 c2 h1 h2 e]
    · obtain ⟨j', c2, rfl, h2, rfl⟩ := shBoxes_lk hj
      rw [ρc_add]
      exact hs.rb i j' r c2 hi h2
    · obtain ⟨j', c2, rfl, h2, rfl⟩ := shBoxes_lk hj
      rw [ρc_add]
      exact hs.gb k o j' c2 hk h2
    · simp only at hb
      split at hb
      · rename_i h1
        injection hb with hb
        exact ⟨h1, by rw [← hb]; simp [ρc, h1]⟩
      · cases hb
theorem X.tellR {cur : Cur} (ids : List Nat) {R' : List (Nat × Row)} (h : pickL R ids = R') (H : X C cur k s R' G) : X C cur k s R G := X.rows (fun i q hi => pickL_lk (ids := ids) (by rw [h]; exact hi)) H
theorem ones {l : List Value} (h : l.all one = true) : ∀ u ∈ l, u.oneCell' = true := fun u hu => one_of (List.all_eq_true.mp h u hu)
theorem ones_ints {kd : IntKind} {l : List Int} : ∀ u ∈ l.map (Value.int kd), u.oneCell' = true := fun u hu => by
  obtain ⟨x, _, rfl⟩ := List.mem_map.mp hu
  rfl
def RX (C : Ctx) (c : Code) (k : List CK) (n : Nat) (s : S) (R : List (Nat × Row)) (G : Mem) : Prop := ∀ ρ a w, St C.w0 C.M ρ G R s a w → Code.rounds C.P c (den C k) n a w
theorem X.rounds {c : Code} (n : Nat) (H : RX C c k n s R G) : X C (.code (.loop c)) k s R G := fun ρ a w hs => wp_loop_rounds n (H ρ a w hs)
theorem RX.succ {c : Code} {n : Nat} (H : ∀ J : S → List (Nat × Row) → Mem → Prop, (∀ s R G, RX C c k n s R G → J s R G) → X C (.code c) (.loop J :: k) s R G) : RX C c k (n + 1) s R G := by
  intro ρ a w hs
  have h := H (fun s R G => RX C c k n s R G) (fun _ _ _ h => h) ρ a w hs
  refine wp_mono h ?_
  intro e a' w' hq
  cases e with
  | normal =>
    obtain ⟨ρ', s', R', G', hs', hr⟩ := hq
    exact hr ρ' a' w' hs'
  | exit id => exact hq
  | goto l => exact hq
  | ret => exact hq
  | panic ch => exact hq
  | outgrown => exact hq
end
end Go.Proofs.YtjgpdbkkpomhjaaX
namespace Go.Proofs.YtjgpdbkkpomhjaaX
open Go.RowKit
open Go.Proofs.YtjgpdbkkpomhjaaW.PrintLast
set_option linter.unusedVariables false
set_option linter.unusedSimpArgs false
theorem rowAt.none {α : Type} {d : D α} {G : Mem} {A : Option Addr} {xs : List α} (h : rowAt d G A xs) (e : A = none) : xs.length = 0 := by
  cases xs with
  | nil => rfl
  | cons x l =>
    obtain ⟨ad, h1⟩ := h.isSome (i := 0) (by simp)
    rw [e] at h1
    cases h1
section
variable {C : Ctx} {k : List CK} {s : S} {R : List (Nat × Row)} {G : Mem} {arr : Array Oper} {o : Oper} {r : List Oper}
theorem X.toStrW {src dst e n c : Nat} {A : Option Addr} {x : Operand} (ns : List Int) (hop : o.op = .convert src dst x) (hx : s.ev x = some (.v (.slice A n c))) (hs : C.P.underlying src = some (.slice e)) (he : C.P.underlying e = some (.int .u8)) (hd : C.P.underlying dst = some .string) (hn : ns.length = n) (hat : At G R A 0 (ns.map (Value.int .u8))) (hA : ∀ w, Mm G R w → A = none → n = 0) (hg : (guardOk s arr o && s.can o.dst) = true)
    (H : X C (.ops arr r) k (s.put o.dst (.v (.string (strOf ns)))) R G) : X C (.ops arr (o :: r)) k s R G := by
  simp only [Bool.and_eq_true] at hg
  refine X.val _ hg.1 hg.2 (fun ρ a w hst => ?_) H
  simp only [execOp, hop, hst.ev hx, AV.real]
  refine run_v ?_
  rw [run_convert_bytes_string w src dst e A n c hs he hd]
  cases A with
  | none =>
    have h0 : n = 0 := hA w hst.mm rfl
    rw [h0] at hn
    rw [List.eq_nil_of_length_eq_zero hn]
    rfl
  | some ad =>
    refine run_bytesToString w ad n c ns ?_
    have := run_loadCells_list (P := C.P) (w := w) (a := ad) (cs := ns.map (Value.int .u8)) (h := fun j v hj => by
      have := (hat w hst.mm j v hj).2
      simpa [adr] using this)
    simpa [hn] using this
end
section
variable {C : Ctx} {arr : Array Oper} {ρ0 : Nat → Nat} {F : List Pin} {RF : List (Nat × Row)} {G0 G : Mem} {ds : List Nat} {m : Nat} {l l' : Array Bool} {k : List CK} {s : S} {R : List (Nat × Row)}
theorem XD.index {i : Nat} {o : Oper} {t e sz n c : Nat} {A : Option Addr} {ki : IntKind} {j : Int} {x ix : Operand} (hQ : QOk C) (ho : arr[i]? = some o) (hc : takeB .any arr ds l l' i = true) (hop : o.op = .indexAddr t x ix) (hx : s.ev x = some (.v (.slice A n c))) (hi : s.ev ix = some (.v (.int ki j))) (ht : C.P.underlying t = some (.slice e)) (hsz : spure C.P (sizeOf e) = some sz) (hg : (guardOk s arr o && s.can o.dst) = true) (h0 : 0 ≤ j) (h1 : j < n) (hA : ∀ w, Mm G0 RF w → A.isSome = true) (hd : F.all (offPin o.dst) = true)
    (H : XD C arr ρ0 F RF G0 ds m l' k (s.put o.dst (.v (elt A (j.toNat * sz)))) R G) : XD C arr ρ0 F RF G0 ds (m + 1) l k s R G :=
  XD.takeV _ hQ ho hc hg (fun ρ a w hs => by
    have e1 : a.eval x = .slice A n c := hs.ev (x := x) hx
    have e2 : a.eval ix = .int ki j := hs.ev (x := ix) hi
    simp only [execOp, hop, e1, e2]
    exact run_v (run_index ht hsz h0 h1 (hA w hs.mm) w)) hd H
theorem XD.load {i : Nat} {o : Oper} {t j : Nat} {A : Option Addr} {x : Operand} {z : Value} (vs : List Value) (hQ : QOk C) (ho : arr[i]? = some o) (hc : takeB .any arr ds l l' i = true) (hop : o.op = .load t x) (hx : s.ev x = some (.v (elt A j))) (hg : (guardOk s arr o && s.can o.dst) = true) (hat : At G0 RF A j vs) (hz : ldRes C.P t vs = some z) (hd : F.all (offPin o.dst) = true)
    (H : XD C arr ρ0 F RF G0 ds m l' k (s.put o.dst (.v z)) R G) : XD C arr ρ0 F RF G0 ds (m + 1) l k s R G :=
  XD.takeV _ hQ ho hc hg (fun ρ a w hs => by
    have e1 : a.eval x = elt A j := hs.ev (x := x) hx
    simp only [execOp, hop, e1]
    refine run_v (run_loadAt hz fun i v hi => ?_)
    rw [adr_add]
    exact (hat w hs.mm i v hi).2) hd H
theorem XD.cut {i : Nat} {o : Oper} {t e sz n c : Nat} {A : Option Addr} {x : Operand} {l0 h : Option Operand} {lv hv : Option Value} (lo hi : Nat) (hQ : QOk C) (ho : arr[i]? = some o) (hc : takeB .any arr ds l l' i = true) (hop : o.op = .slice t x l0 h none) (hx : s.ev x = some (.v (.slice A n c))) (hlv : evO s l0 = some lv) (hhv : evO s h = some hv) (ht : C.P.underlying t = some (.slice e)) (hsz : spure C.P (sizeOf e) = some sz) (hg : (guardOk s arr o && s.can o.dst) = true) (hl : bndV lv 0 lo) (hh : bndV hv n hi) (h1 : lo ≤ hi) (h2 : hi ≤ c) (hd : F.all (offPin o.dst) = true)
    (H : XD C arr ρ0 F RF G0 ds m l' k (s.put o.dst (.v (.slice (cutA A c lo sz) (hi - lo) (c - lo)))) R G) : XD C arr ρ0 F RF G0 ds (m + 1) l k s R G :=
  XD.takeV _ hQ ho hc hg (fun ρ a w hs => by
    have e1 : a.eval x = .slice A n c := hs.ev (x := x) hx
    have e2 := evO_ok (C := ⟨C.P, C.Q, w, ⟨fun _ => True, fun _ => none⟩⟩) (s := s.pinned F) hs hlv
    have e3 := evO_ok (C := ⟨C.P, C.Q, w, ⟨fun _ => True, fun _ => none⟩⟩) (s := s.pinned F) hs hhv
    simp only [execOp, hop, e1, e2, e3, Option.map_none]
    exact run_v (run_cut ht hsz hl hh h1 h2 w)) hd H
theorem XD.field {i : Nat} {o : Oper} {t f n j : Nat} {A : Option Addr} {x : Operand} (hQ : QOk C) (ho : arr[i]? = some o) (hc : takeB .any arr ds l l' i = true) (hop : o.op = .fieldAddr t x f) (hx : s.ev x = some (.v (elt A j))) (hf : fieldOff C.P t f = some n) (hg : (guardOk s arr o && s.can o.dst) = true) (hd : F.all (offPin o.dst) = true)
    (H : XD C arr ρ0 F RF G0 ds m l' k (s.put o.dst (.v (elt A (j + n)))) R G) : XD C arr ρ0 F RF G0 ds (m + 1) l k s R G :=
  XD.takeV _ hQ ho hc hg (fun ρ a w hs => by
    have e1 : a.eval x = elt A j := hs.ev (x := x) hx
    simp only [execOp, hop, e1]
    refine run_v ?_
    unfold fieldOff at hf
    split at hf
    · rename_i fs hu
      split at hf
      · rename_i fd hfd
        split at hf
        · rename_i q hm
          injection hf with hf
          subst hf
          unfold Instr.fieldAt
          rw [run_bind_ok (run_underlying hu w)]
          simp only [hfd]
          rw [run_bind_ok (show (Instr.sureAddr (elt A j)).run C.P w = .ok (adr A j) w from rfl)]
          have h2 : (fieldPlace (adr A j) fd).run C.P w = .ok (adr A (j + fd.offset)) w := by
            unfold fieldPlace
            rw [run_bind_ok (spure_run hm w)]
            simp only [Nat.add_eq_zero_iff, Nat.one_ne_zero, and_false, if_false, adr_add]
            rfl
          rw [run_bind_ok h2]
          rfl
        · cases hf
      · cases hf
    · cases hf) hd H
theorem XD.core {i : Nat} {n : Nat} (o : Oper) (ho : arr[i]? = some o) (hd : F.all (offPin o.dst) = true)
    (H : X C (.ops arr [o]) (.loop (fun s' R' G' => PinsOk s' F ∧ Le G0 G' ∧ pickL R' (RF.map (·.1)) = RF ∧ XD C arr ρ0 F RF G0 ds n (l.setIfInBounds i true) k s' R' G') :: k) s R G)
    (hr : refsOk F = true) (hp : PinsOk s F) (hG : Le G0 G) (hR : pickL R (RF.map (·.1)) = RF) {ρ : Nat → Nat} {a : Act} {w : World} (hs : St C.w0 C.M ρ G R s a w) (ha : sameT C.M F a ρ0) :
    wpOp C.P arr (den C k) i (fun a' w' => (i ∉ ds → SF ρ0 F RF G0 w → SF ρ0 F RF G0 w') ∧ wpAnyLast C.P .any arr (den C k) (SF ρ0 F RF G0) ds n (l.setIfInBounds i true) a' w') a w := by
  have hdp := fun p (hm : p ∈ F) => offPin_ne (List.all_eq_true.1 hd p hm)
  have hx := H ρ a w hs
  simp only [wpList] at hx
  have fin : ∀ a' w', den C (.loop (fun s' R' G' => PinsOk s' F ∧ Le G0 G' ∧ pickL R' (RF.map (·.1)) = RF ∧ XD C arr ρ0 F RF G0 ds n (l.setIfInBounds i true) k s' R' G') :: k) .normal a' w' → (∀ t, o.dst ≠ some t → a'.tmps[t]? = a.tmps[t]?) →
      (i ∉ ds → SF ρ0 F RF G0 w → SF ρ0 F RF G0 w') ∧ wpAnyLast C.P .any arr (den C k) (SF ρ0 F RF G0) ds n (l.setIfInBounds i true) a' w' := by
    rintro a' w' ⟨ρ', s', R', G', hs', hp', hG', hR', hX⟩ ht
    have ha' : sameT C.M F a' ρ0 := fun p hm => ⟨fun t he => (ht _ (hdp p hm t he)).trans ((ha p hm).1 t he), (ha p hm).2⟩
    exact ⟨fun _ _ => hs'.pinS hr hp' hG' hR' ha', hX hr hp' hG' hR' ρ' a' w' hs' ha'⟩
  have hQQ : ∀ e a w, e ≠ .normal → den C (.loop (fun s' R' G' => PinsOk s' F ∧ Le G0 G' ∧ pickL R' (RF.map (·.1)) = RF ∧ XD C arr ρ0 F RF G0 ds n (l.setIfInBounds i true) k s' R' G') :: k) e a w → den C k e a w := fun e a w he h => by
    cases e <;> first | exact absurd rfl he | exact h
  unfold wpOp
  simp only [ho]
  split at hx
  · rename_i hw
    rw [if_pos hw]
    rcases hx with hx | ⟨hx1, a1, w1, hx2⟩
    · exact .inl (Oper.wp_mono (fun a' w' h => fin a' w' h.1 h.2) (wp_keep hQQ hx))
    · exact .inr ⟨hx1, a1, w1, hQQ _ _ _ (by simp) hx2⟩
  · rename_i hw
    rw [if_neg hw]
    refine fin _ _ hx fun t ht => ?_
    cases hdd : o.dst with
    | none => rfl
    | some d =>
      have hne : ¬ d = t := fun e => ht (by rw [hdd, e])
      simp [Act.put, Array.getElem?_setIfInBounds, hne]
theorem XD.two {i j : Nat} {li lj : Array Bool} {n : Nat} (oi oj : Oper) (hoi : arr[i]? = some oi) (hoj : arr[j]? = some oj) (hc : ((Region.ready .any arr l == [i, j]) && ((l.setIfInBounds i true == li) && (l.setIfInBounds j true == lj))) = true) (hdi : F.all (offPin oi.dst) = true) (hdj : F.all (offPin oj.dst) = true)
    (Hi : X C (.ops arr [oi]) (.loop (fun s' R' G' => PinsOk s' F ∧ Le G0 G' ∧ pickL R' (RF.map (·.1)) = RF ∧ XD C arr ρ0 F RF G0 ds n li k s' R' G') :: k) s R G)
    (Hj : X C (.ops arr [oj]) (.loop (fun s' R' G' => PinsOk s' F ∧ Le G0 G' ∧ pickL R' (RF.map (·.1)) = RF ∧ XD C arr ρ0 F RF G0 ds n lj k s' R' G') :: k) s R G) : XD C arr ρ0 F RF G0 ds (n + 1) l k s R G := by
  intro hr hp hG hR ρ a w hs ha
  simp only [Bool.and_eq_true, beq_iff_eq] at hc
  obtain ⟨h1, rfl, rfl⟩ := hc
  refine wpAnyLast_all h1 (by simp) fun q hq => ?_
  rcases List.mem_cons.1 hq with rfl | hq
  · exact XD.core oi hoi hdi Hi hr hp hG hR hs ha
  · obtain rfl : q = j := by simpa using hq
    exact XD.core oj hoj hdj Hj hr hp hG hR hs ha
end
end Go.Proofs.YtjgpdbkkpomhjaaX
namespace Go.Proofs.YtjgpdbkkpomhjaaX
open Go.RowKit
set_option linter.unusedVariables false
section
variable {P : Program} {d : Nat} {xs ys : Array Value} {f : Field} {fs : List Field} {a b : Value} {r s : Bool} {w : World}
theorem eqf_cons (hn : (f.name == "_") = false) (ha : (part f.type xs f.offset).run P w = .ok a w) (hb : (part f.type ys f.offset).run P w = .ok b w) (he : (Op.equalIn d f.type a b).run P w = .ok r w) (hr : (Op.eqFields d xs ys fs).run P w = .ok s w) : (Op.eqFields d xs ys (f :: fs)).run P w = .ok (r && s) w := by
  have hn' : f.name ≠ "_" := by simpa using hn
  rw [Op.eqFields]
  simp only [if_pos hn', Sem.run_bind, ha, hb, he, Result.andThen_ok]
  cases r
  · simp
  · simpa using hr
theorem eqf_nil : (Op.eqFields d xs ys []).run P w = .ok true w := by simp [Op.eqFields]
theorem eqA_of {t : TypeId} {fs : Array Field} (hu : P.underlying t = some (.struct fs)) (hp : P.stoodInHeld t = false) (h : (Op.eqFields d xs ys fs.toList).run P w = .ok r w) : (Op.equalIn (d + 1) t (.agg xs) (.agg ys)).run P w = .ok r w := by
  have hf : P.fieldsOf t = fs := by simp [Program.fieldsOf, hu]
  rw [run_equalIn_struct (P := P) w d t xs ys (by rw [hf]; exact hu) hp, hf]
  exact h
end
end Go.Proofs.YtjgpdbkkpomhjaaX
namespace Go.Proofs.YtjgpdbkkpomhjaaX
open Go.RowKit
open Go.Proofs.YtjgpdbkkpomhjaaW.PrintLast
set_option linter.unusedVariables false
set_option linter.unusedSimpArgs false
def eqI (P : Program) (xs ys : Array Value) : List Field → Option Bool
  | [] => some true
  | f :: r => match f.name == "_", P.underlying f.type, spure P (isAgg f.type), xs[f.offset]?, ys[f.offset]?, eqI P xs ys r with
    | false, some (.int _), some false, some (.int k a), some (.int k' b), some s => if k = k' then some ((a == b) && s) else none
    | _, _, _, _, _, _ => none
section
variable {C : Ctx} {k : List CK} {s : S} {R : List (Nat × Row)} {G : Mem} {arr : Array Oper} {o : Oper} {r : List Oper}
end
end Go.Proofs.YtjgpdbkkpomhjaaX
namespace Go.Proofs.YtjgpdbkkpomhjaaX
open Go.RowKit
set_option linter.unusedVariables false
set_option linter.unusedSimpArgs false
theorem run_append_nothing {P : Program} {w : World} (base : Nat) (t ty e : TypeId) (i : TypeInfo) (size c2 : Nat) (ht : P.underlying t = some (.slice e)) (hi : P.info? e = some i)
    (v : Value) (n : Nat) (xs : List Value) (hown : w.ownsRow base e size v n xs) :
    (Builtin.append_ #[t, t] ty #[v, .slice none 0 c2]).run P w = .ok v w := by
  rcases hown.2 with ⟨rfl, rfl⟩ | ⟨g, cap, cur, rfl, _, _, hnc, _⟩
  · simp [Builtin.append_, run_underlying ht, sizeOf, typeInfo, hi, Builtin.lenOf, Builtin.firstCells]
  · simp [Builtin.append_, run_underlying ht, sizeOf, typeInfo, hi, Builtin.lenOf, Builtin.firstCells, hnc, storeCells]
section
variable {C : Ctx} {k : List CK} {s : S} {R : List (Nat × Row)} {G : Mem} {arr : Array Oper} {o : Oper} {r : List Oper}
theorem X.appendW (i : Nat) (q : Row) (t bytes : Nat) (z : Value) {x y : Operand} {n c m c2 : Nat} {A B : Option Addr} {news : List Value}
    (hop : o.op = .call { callee := .builtin .append, args := #[x, y], argTypes := #[t, t] }) (hx : s.ev x = some (.v (.slice A n c))) (hy : s.ev y = some (.v (.slice B m c2)))
    (ht : C.P.underlying t = some (.slice q.e)) (hinfo : (C.P.info? q.e).map (fun i => (i.zero, i.size, i.bytes)) = some (some z, q.size, bytes)) (hz : z.cells.size = q.size) (h0 : 0 < q.size) (hg : (guardOk s arr o && s.can o.dst) = true)
    (hq : lk R i = some q ∨ (A = none ∧ c = 0 ∧ q.n = 0 ∧ q.cells = [])) (hqv : q.v = .slice A n c) (hqn : q.n = n) (hn : news.length = m * q.size) (hat : At G R B 0 news) (hB : ∀ w, Mm G R w → B = none → m = 0) (h1 : ∀ u ∈ news, u.oneCell' = true) (hb : (n + m) * bytes ≤ 140737488355328) (hb0 : 0 < bytes)
    (H : ∀ A' c', n + m ≤ c' → X C (.ops arr r) k (s.put o.dst (.v (.slice A' (n + m) c'))) ((i, ⟨q.e, q.size, .slice A' (n + m) c', n + m, q.cells ++ news⟩) :: R) G) : X C (.ops arr (o :: r)) k s R G := by
  simp only [Bool.and_eq_true] at hg
  refine X.op hg.1 fun ρ a w hs next hnx => ?_
  obtain ⟨i0, hi, hzz⟩ := Option.map_eq_some_iff.1 hinfo
  simp only [Prod.mk.injEq] at hzz
  obtain ⟨hz0, hz1, hz2⟩ := hzz
  have hown : w.ownsRow 0 q.e q.size (.slice A n c) n q.cells := by
    rcases hq with hq | ⟨rfl, rfl, h3, h4⟩
    · have := hs.rw i q hq
      rw [hqv, hqn] at this
      exact this
    · rw [hqn] at h3
      subst h3
      rw [h4]
      exact World.ownsRow_nil w 0 q.e q.size
  have hold : ∀ g, (Value.slice A n c).ownBlock = some g → ∃ p, lk R i = some p ∧ p.v.ownBlock = some g := fun g hg' => by
    rcases hq with hq | ⟨rfl, _⟩
    · exact ⟨q, hq, by rw [hqv]; exact hg'⟩
    · simp [Value.ownBlock] at hg'
  have hmax : n + m ≤ maxLen := by
    have := Nat.le_trans (Nat.le_mul_of_pos_right (n + m) hb0) hb
    simp only [maxLen]; omega
  have hex : ∃ v' w', (Builtin.append_ #[t, t] o.type #[.slice A n c, .slice B m c2]).run C.P w = .ok v' w' ∧ w'.ownsRow 0 q.e q.size v' (n + m) (q.cells ++ news) ∧ w.grownBy w' (Value.slice A n c).ownBlock ∧ (v'.ownBlock = (Value.slice A n c).ownBlock ∨ v'.ownBlock = some w.heap.size) := by
    cases B with
    | none =>
      obtain rfl := hB w hs.mm rfl
      have hnil : news = [] := List.eq_nil_of_length_eq_zero (by simpa using hn)
      subst hnil
      exact ⟨_, w, run_append_nothing 0 t o.type q.e i0 q.size c2 ht hi _ n q.cells hown, by simpa using hown, ⟨rfl, rfl, rfl, Nat.le_refl _, fun _ _ _ => rfl⟩, .inl rfl⟩
    | some ad =>
      obtain ⟨v', w', r1, r2, r3, _, r5⟩ := run_append_own_at (P := C.P) w 0 t o.type q.e i0 z q.size bytes ht hi hz0 hz1 hz2 hz h0 _ n q.cells hown ad m c2 news hn (fun j u hj => by
        have := (hat w hs.mm j u hj).2
        simpa [adr] using this) h1 hmax hb (Nat.zero_le _)
      exact ⟨v', w', r1, r2, r3, r5⟩
  obtain ⟨v', w', r1, r2, r3, r5⟩ := hex
  obtain ⟨A', c', hv', hle⟩ : ∃ A' c', v' = .slice A' (n + m) c' ∧ n + m ≤ c' := by
    rcases r2.2 with ⟨h2, h3⟩ | ⟨g, cap, cur, h2, _, _, h3, _⟩
    · exact ⟨none, 0, by rw [h2, h3], by omega⟩
    · exact ⟨_, cap, h2, h3⟩
  subst hv'
  have hrun : (execOp a.eval o).run C.P w = .ok (.value (.slice A' (n + m) c')) w' := by
    unfold execOp
    simp only [hop]
    unfold resolve
    have e : (#[x, y] : Array Operand).map a.eval = #[.slice A n c, .slice B m c2] := by simp [hs.ev hx, hs.ev hy, AV.real]
    simp only [e]
    rw [run_bind_ok (show (pure _ : Sem Deferred).run C.P w = .ok _ w from rfl)]
    unfold invoke
    exact run_v r1
  refine wp_value hrun (hnx ρ _ _ _ _ _ (H A' c' hle) ?_)
  exact (hs.row i (q := ⟨q.e, q.size, .slice A' (n + m) c', n + m, q.cells ++ news⟩) hold r3 r2 (fun g hg' => by
    rcases r5 with h | h
    · exact .inl (by rw [← h]; exact hg')
    · exact .inr (by rw [show (Value.slice A' (n + m) c').ownBlock = some g from hg'] at h; injection h with h; omega))).put (x := .v _) hg.2
end
end Go.Proofs.YtjgpdbkkpomhjaaX
namespace Go.Proofs.YtjgpdbkkpomhjaaX
open Go.RowKit
set_option linter.unusedVariables false
set_option linter.unusedSimpArgs false
section
variable {C : Ctx} {k : List CK} {s : S} {R : List (Nat × Row)} {G : Mem} {arr : Array Oper} {o : Oper} {r : List Oper}
theorem X.nilRow {cur : Cur} (i e size : Nat) (hi : lk R i = none) (H : X C cur k s ((i, ⟨e, size, .slice none 0 0, 0, []⟩) :: R) G) : X C cur k s R G := fun ρ a w hs => by
  refine H ρ a w ⟨hs.tm, hs.sz, hs.df, hs.bx, hs.bo, hs.bi, fun j q hj => ?_, fun j q x hj hx => ?_, fun j l q p x hj hl h1 h2 => ?_, fun j l q b hj hl hx => ?_, hs.g, hs.gb, fun x o' j q hx hj h1 => ?_, hs.fr, hs.pn⟩
  · rw [lk_cons] at hj
    by_cases h : i = j
    · rw [if_pos h] at hj
      injection hj with hj
      subst hj
      exact World.ownsRow_nil w 0 e size
    · rw [if_neg h] at hj
      exact hs.rw j q hj
  · rw [lk_cons] at hj
    by_cases h : i = j
    · rw [if_pos h] at hj
      injection hj with hj
      subst hj
      simp [Value.ownBlock] at hx
    · rw [if_neg h] at hj
      exact hs.ro j q x hj hx
  · rw [lk_cons] at hj hl
    by_cases h : i = j
    · rw [if_pos h] at hj
      injection hj with hj
      subst hj
      simp [Value.ownBlock] at h1
    · rw [if_neg h] at hj
      by_cases h' : i = l
      · rw [if_pos h'] at hl
        injection hl with hl
        subst hl
        simp [Value.ownBlock] at h2
      · rw [if_neg h'] at hl
        exact hs.ri j l q p x hj hl h1 h2
  · rw [lk_cons] at hj
    by_cases h : i = j
    · rw [if_pos h] at hj
      injection hj with hj
      subst hj
      simp [Value.ownBlock] at hx
    · rw [if_neg h] at hj
      exact hs.rb j l q b hj hl hx
  · rw [lk_cons] at hj
    by_cases h : i = j
    · rw [if_pos h] at hj
      injection hj with hj
      subst hj
      simp [Value.ownBlock] at h1
    · rw [if_neg h] at hj
      exact hs.gr x o' j q hx hj h1
theorem X.capLe {cur : Cur} {i n c : Nat} {q : Row} {A : Option Addr} (hq : lk R i = some q) (hqv : q.v = .slice A n c) (H : n ≤ c → c ≤ maxLen → X C cur k s R G) : X C cur k s R G := fun ρ a w hs => by
  obtain ⟨o1, o2⟩ := hs.rw i q hq
  have hb : n ≤ c ∧ c ≤ maxLen := by
    rcases o2 with ⟨h2, h3⟩ | ⟨g, cap, cur', h2, _, _, h4, h5, _⟩
    · rw [hqv] at h2
      injection h2 with _ h6 h7
      subst h6 h7
      exact ⟨Nat.le_refl _, Nat.zero_le _⟩
    · rw [hqv] at h2
      injection h2 with _ h6 h7
      subst h7
      exact ⟨by omega, h5⟩
  exact H hb.1 hb.2 ρ a w hs
theorem splice_ints {kd : IntKind} {l : List Int} {j : Nat} {x : Int} (h : j < l.length) : splice (l.map (Value.int kd)) j [.int kd x] = (l.set j x).map (Value.int kd) := by
  unfold splice
  apply List.ext_getElem?
  intro m
  simp only [List.length_singleton, List.getElem?_append, List.length_append, List.length_take, List.length_map]
  by_cases h1 : m < j
  · rw [if_pos (by omega), if_pos (by omega), List.getElem?_take_of_lt h1, List.getElem?_map, List.getElem?_map, List.getElem?_set_ne (by omega)]
  · by_cases h2 : m = j
    · subst h2
      rw [if_pos (by omega), if_neg (by omega), Nat.min_eq_left (by omega), Nat.sub_self, List.getElem?_map, List.getElem?_set_self h]
      rfl
    · rw [if_neg (by omega), Nat.min_eq_left (by omega), List.getElem?_drop, List.getElem?_map, List.getElem?_map, List.getElem?_set_ne (by omega)]
      rw [show j + 1 + (m - (j + 1)) = m by omega]
theorem splice_ints1 {kd : IntKind} {l : List Int} {j : Nat} {x : Int} (h : j < l.length) : splice (l.map (Value.int kd)) (j * 1) [.int kd x] = (l.set j x).map (Value.int kd) := by
  rw [Nat.mul_one]
  exact splice_ints h
end
end Go.Proofs.YtjgpdbkkpomhjaaX
namespace Go.Proofs.YtjgpdbkkpomhjaaX
open Go.RowKit
open Go.Proofs.YtjgpdbkkpomhjaaW.PrintLast
set_option linter.unusedVariables false
set_option linter.unusedSimpArgs false
theorem cutA_zero (A : Option Addr) (c sz : Nat) : cutA A c 0 sz = A := by
  unfold cutA
  split
  · rfl
  · cases A with
    | none => rfl
    | some ad => simp [Addr.add]
def eqVal (P : Program) : Nat → TypeId → Value → Value → Option Bool
  | 0, _, _, _ => none
  | d + 1, t, x, y => match P.underlying t, x, y with
    | some (.int _), .int k a, .int k' b => if k = k' then some (a == b) else none
    | some .bool, .bool a, .bool b => some (a == b)
    | some .string, .string a, .string b => some (a == b)
    | some (.struct fs), .agg xs, .agg ys => if P.stoodInHeld t then none else
      fs.toList.foldr (fun f acc => match f.name == "_", spure P (part f.type xs f.offset), spure P (part f.type ys f.offset), acc with
        | false, some a, some b, some s => (eqVal P d f.type a b).map (· && s)
        | _, _, _, _ => none) (some true)
    | some (.array n e), .agg xs, .agg ys => match P.info? e with
      | some _ => (List.range n).foldr (fun i acc => match spure P (part e xs (i * P.cellsOf e)), spure P (part e ys (i * P.cellsOf e)), acc with
        | some a, some b, some s => (eqVal P d e a b).map (· && s)
        | _, _, _ => none) (some true)
      | none => none
    | _, _, _ => none
theorem eqVal_ok {P : Program} : ∀ {d : Nat} {t : TypeId} {x y : Value} {r : Bool}, eqVal P d t x y = some r → ∀ (m : Nat) (w : World), (Op.equalIn (d + m) t x y).run P w = .ok r w
  | 0, t, x, y, r, h => by cases h
  | d + 1, t, x, y, r, h => fun m w => by
    rw [show d + 1 + m = (d + m) + 1 by omega]
    unfold eqVal at h
    split at h
    · rename_i k0 k a k' b hu
      split at h
      · rename_i hk
        subst hk
        injection h with h
        subst h
        simp only [Op.equalIn]
        rw [run_bind_ok (run_underlying hu w)]
        simp
      · cases h
    · rename_i a b hu
      injection h with h
      subst h
      simp only [Op.equalIn]
      rw [run_bind_ok (run_underlying hu w)]
      simp
    · rename_i a b hu
      injection h with h
      subst h
      simp only [Op.equalIn]
      rw [run_bind_ok (run_underlying hu w)]
      simp
    · rename_i fs xs ys hu
      split at h
      · cases h
      · rename_i hst
        refine eqA_of hu (by simpa using hst) ?_
        generalize fs.toList = l at h
        induction l generalizing r with
        | nil => simp only [List.foldr, Option.some.injEq] at h; subst h; exact eqf_nil
        | cons f l ih =>
          simp only [List.foldr] at h
          split at h
          · rename_i a b s hn ha hb hs
            simp only [Option.map_eq_some_iff] at h
            obtain ⟨q, hq, rfl⟩ := h
            exact eqf_cons hn (spure_run ha w) (spure_run hb w) (eqVal_ok hq m w) (ih _ hs)
          · cases h
    · rename_i n e xs ys hu
      split at h
      · rename_i i hi
        rw [run_equalIn_array w (d + m) xs ys hu hi]
        generalize List.range n = l at h
        induction l generalizing r with
        | nil => simp only [List.foldr, Option.some.injEq] at h; subst h; simp [Op.eqItems]
        | cons j l ih =>
          simp only [List.foldr] at h
          split at h
          · rename_i a b s ha hb hs
            simp only [Option.map_eq_some_iff] at h
            obtain ⟨q, hq, rfl⟩ := h
            simp only [Op.eqItems]
            rw [run_bind_ok (spure_run ha w), run_bind_ok (spure_run hb w), run_bind_ok (eqVal_ok hq m w)]
            cases q
            · simp
            · simpa using ih _ hs
          · cases h
      · cases h
    · cases h
section
variable {C : Ctx} {k : List CK} {s : S} {R : List (Nat × Row)} {G : Mem} {arr : Array Oper} {o : Oper} {r : List Oper}
theorem X.eqV {t t' : Nat} {x y : Operand} {xs ys : Array Value} {b : Bool} (hop : o.op = .binOp .eql t x y t') (hgd : spure C.P (eqGuard .eql t x y (.agg xs) (.agg ys)) = some ()) (hx : s.ev x = some (.v (.agg xs))) (hy : s.ev y = some (.v (.agg ys))) (he : eqVal C.P 9 t (.agg xs) (.agg ys) = some b) (hg : (guardOk s arr o && s.can o.dst) = true)
    (H : X C (.ops arr r) k (s.put o.dst (.v (.bool b))) R G) : X C (.ops arr (o :: r)) k s R G := by
  simp only [Bool.and_eq_true] at hg
  refine X.val _ hg.1 hg.2 (fun ρ a w hs => ?_) H
  simp only [execOp, hop, hs.ev hx, hs.ev hy, AV.real]
  refine run_v ?_
  simp only [binOp]
  rw [run_bind_ok (spure_run hgd w), run_bind_ok (show (Op.equal t (.agg xs) (.agg ys)).run C.P w = .ok b w from eqVal_ok he 9991 w)]
  rfl
end
end Go.Proofs.YtjgpdbkkpomhjaaX
namespace Go.Proofs.YtjgpdbkkpomhjaaX
open Go.RowKit
open Go.Proofs.YtjgpdbkkpomhjaaW.PrintLast
set_option linter.unusedVariables false
set_option linter.unusedSimpArgs false
def updG (G : Mem) (g : Nat) (o : Obj) : Mem := fun k => if k = g then some o else G k
theorem updG_at (G : Mem) (g : Nat) (o : Obj) : updG G g o g = some o := by simp [updG]
theorem updG_ge {G G' : Mem} {g n : Nat} {o : Obj} (h : Ge G n G') (hn : n ≤ g) (hg : G g = none) : Ge G n (updG G' g o) :=
  ⟨fun k x hk => by
    unfold updG
    split
    · rename_i e; subst e; rw [hg] at hk; cases hk
    · exact h.le k x hk, fun k x hk => by
    unfold updG at hk
    split at hk
    · rename_i e; subst e; exact .inr hn
    · exact h.new k x hk⟩
section
variable {C : Ctx} {k : List CK} {s : S} {R : List (Nat × Row)} {G : Mem} {arr : Array Oper} {o : Oper} {r : List Oper}
end
end Go.Proofs.YtjgpdbkkpomhjaaX
namespace Go.Proofs.YtjgpdbkkpomhjaaX
open Go.RowKit
open Go.Proofs.YtjgpdbkkpomhjaaW.PrintLast
set_option linter.unusedVariables false
set_option linter.unusedSimpArgs false
theorem lk_filter {β : Type} {l : List (Nat × β)} {b i : Nat} {x : β} (h : lk (l.filter (fun p => p.1 != b)) i = some x) : i ≠ b ∧ lk l i = some x := by
  induction l with
  | nil => cases h
  | cons p l ih =>
    obtain ⟨j, y⟩ := p
    rw [List.filter_cons] at h
    by_cases e : j = b
    · subst e
      simp only [bne_self_eq_false, Bool.false_eq_true, if_false] at h
      obtain ⟨h1, h2⟩ := ih h
      exact ⟨h1, by rw [lk_cons, if_neg (Ne.symm h1)]; exact h2⟩
    · have e' : (j != b) = true := by simpa using e
      simp only [e', if_true] at h
      rw [lk_cons] at h
      by_cases e2 : j = i
      · subst e2
        rw [if_pos rfl] at h
        exact ⟨e, by rw [lk_cons, if_pos rfl]; exact h⟩
      · rw [if_neg e2] at h
        obtain ⟨h1, h2⟩ := ih h
        exact ⟨h1, by rw [lk_cons, if_neg e2]; exact h2⟩
def S.less (s : S) (b : Nat) : S := ⟨s.n, s.tmps, s.boxes.filter (fun p => p.1 != b)⟩
theorem St.boxG {w0 w : World} {M : Mk} {ρ : Nat → Nat} {G : Mem} {R : List (Nat × Row)} {s : S} {a : Act} {b : Nat} {bx : Box} (h : St w0 M ρ G R s a w) (hb : lk s.boxes b = some bx) : St w0 M ρ (updG G (ρ b) (bx.obj ρ)) R (s.less b) a w := by
  refine ⟨h.tm, h.sz, h.df, fun i c hi => h.bx i c (lk_filter hi).2, fun i c hi => h.bo i c (lk_filter hi).2, fun i j c q hi hj e => h.bi i j c q (lk_filter hi).2 (lk_filter hj).2 e, h.rw, h.ro, h.ri, fun i j r c hi hj => h.rb i j r c hi (lk_filter hj).2, fun q o hq => ?_, fun q o j c hq hj e => ?_, fun q o i r hq hi e => ?_, h.fr, h.pn⟩
  · unfold updG at hq
    split at hq
    · rename_i e; subst e; injection hq with hq; subst hq; exact h.bx b bx hb
    · exact h.g q o hq
  · unfold updG at hq
    split at hq
    · rename_i e2; subst e2; exact (lk_filter hj).1 (h.bi j b c bx (lk_filter hj).2 hb e)
    · exact h.gb q o j c hq (lk_filter hj).2 e
  · unfold updG at hq
    split at hq
    · rename_i e2; subst e2; exact h.rb i b r bx hi hb e
    · exact h.gr q o i r hq hi e
section
variable {C : Ctx} {k : List CK} {s : S} {R : List (Nat × Row)} {G : Mem} {arr : Array Oper} {o : Oper} {r : List Oper}
theorem X.freezeHd {cur : Cur} {i n c : Nat} {q : Row} {A : Option Addr} {kd : IntKind} (ns : List Int) (hqv : q.v = .slice A n c) (hcs : q.cells = ns.map (Value.int kd)) (hr : ∀ x ∈ ns, IntKind.lo kd ≤ x ∧ x ≤ IntKind.hi kd) (hn : R.all (fun p => p.1 != i) = true) (hM : ∀ x, ¬ C.M.can x)
    (H : ∀ G', Ge G C.w0.heap.size G' → rowAt (D.int kd) G' A ns → X C cur k s R G') : X C cur k s ((i, q) :: R) G := by
  refine X.freeze (i := i) (q := q) (R' := R) (by rw [lk_cons, if_pos rfl]) hqv (fun j p hj => ?_) (fun G' hG hc => H G' hG ?_) hM
  · have hne : j ≠ i := by
      have := List.all_eq_true.mp hn _ (lk_mem hj)
      simpa using this
    exact ⟨hne, by rw [lk_cons, if_neg (Ne.symm hne)]; exact hj⟩
  · exact rowAt_of_cells (reps_ints hr) (Nat.succ_pos 0) (by rw [← hcs]; exact hc)
end
section
variable {C : Ctx} {arr : Array Oper} {ρ0 : Nat → Nat} {F : List Pin} {RF : List (Nat × Row)} {G0 G : Mem} {ds : List Nat} {n : Nat} {l l' : Array Bool} {k : List CK} {s : S} {R : List (Nat × Row)}
theorem XD.pureMove {i : Nat} (o : Oper) {x : Operand} (y : AV) (hQ : QOk C) (ho : arr[i]? = some o) (hop : o.op = .move x) (hx : s.ev x = some y) (hc : anyB .any arr l l' i = true) (hg : (guardOk s arr o && s.can o.dst) = true) (hd : F.all (offPin o.dst) = true)
    (H : XD C arr ρ0 F RF G0 ds n l' k (s.put o.dst y) R G) : XD C arr ρ0 F RF G0 ds (n + 1) l k s R G := by
  intro hr hp hG hR ρ a w hs ha
  simp only [Bool.and_eq_true] at hg
  refine pure_ (N := o.dst) l' ho rfl hc (fun c a w h => den_panic hQ k c a w _ _ h) (v := y.real ρ) (.inl ⟨guardOk_ok hg.1 hs, fun w2 => ?_⟩) rfl ?_
  · rw [← hs.ev hx]
    simp [execOp, hop]
  · exact H hr (hp.put hd) hG hR ρ _ w (hs.put hg.2) (ha.put hd)
end
theorem strT {a b : ByteArray} (h : (a.toList == b.toList) = true) : a = b := by
  have h := eq_of_beq h
  rw [ByteArray.toList_eq, ByteArray.toList_eq] at h
  exact str_inj.mp h
theorem strF {a b : ByteArray} (h : (a.toList == b.toList) = false) : a ≠ b := fun e => by
  subst e
  simp at h
section
variable {C : Ctx} {arr : Array Oper} {ρ0 : Nat → Nat} {F : List Pin} {RF : List (Nat × Row)} {G0 G : Mem} {ds : List Nat} {n : Nat} {l l' : Array Bool} {k : List CK} {s : S} {R : List (Nat × Row)}
theorem XD.ownIndex {i : Nat} (o : Oper) {t e len b off j m : Nat} {ki : IntKind} {x ix : Operand} (hQ : QOk C) (ho : arr[i]? = some o) (hc : takeB .any arr ds l l' i = true) (hop : o.op = .indexAddr t x ix) (hx : s.ev x = some (.own b off)) (hi : s.ev ix = some (.v (.int ki (j : Int)))) (ht : C.P.underlying t = some (.array len e)) (hz : spure C.P (sizeOf e) = some m) (hj : j < len) (hg : (guardOk s arr o && s.can o.dst) = true) (hd : F.all (offPin o.dst) = true)
    (H : XD C arr ρ0 F RF G0 ds n l' k (s.put o.dst (.own b (off + j * m))) R G) : XD C arr ρ0 F RF G0 ds (n + 1) l k s R G := by
  refine XD.takeV (.own b (off + j * m)) hQ ho hc hg (fun ρ a w hs => ?_) hd H
  have h1 : (s.pinned F).ev x = some (.own b off) := by cases x <;> exact hx
  have h2 : (s.pinned F).ev ix = some (.v (.int ki (j : Int))) := by cases ix <;> exact hi
  simp only [execOp, hop, hs.ev h1, hs.ev h2, AV.real]
  exact run_v (index_run ht hz hj)
end
end Go.Proofs.YtjgpdbkkpomhjaaX
namespace Go.Proofs.YtjgpdbkkpomhjaaX
open Go.RowKit
open Go.Proofs.YtjgpdbkkpomhjaaW.PrintLast
set_option linter.unusedVariables false
set_option linter.unusedSimpArgs false
section
variable {C : Ctx} {k : List CK} {s : S} {R : List (Nat × Row)} {G : Mem} {arr : Array Oper} {o : Oper} {r : List Oper}
end
section
variable {C : Ctx} {arr : Array Oper} {ρ0 : Nat → Nat} {F : List Pin} {RF : List (Nat × Row)} {G0 G : Mem} {ds : List Nat} {n : Nat} {l l' : Array Bool} {k : List CK} {s : S} {R : List (Nat × Row)}
end
section
variable {C : Ctx} {k : List CK} {s : S} {R : List (Nat × Row)} {G : Mem} {arr : Array Oper} {o : Oper} {r : List Oper}
end
end Go.Proofs.YtjgpdbkkpomhjaaX
namespace Go.Proofs.YtjgpdbkkpomhjaaX
open Go.RowKit
open Go.Proofs.YtjgpdbkkpomhjaaW.PrintLast
set_option linter.unusedVariables false
set_option linter.unusedSimpArgs false
set_option maxRecDepth 100000
theorem run_appendStr {P : Program} (w : World) (t u ty e : TypeId) (i : TypeInfo) (ht : P.underlying t = some (.slice e)) (hu : P.underlying u = some .string) (hi : P.info? e = some i) (hz : i.zero = some (.int .u8 0)) (hsize : i.size = 1) (hby : i.bytes = 1)
    (v : Value) (n : Nat) (xs : List Value) (hown : w.ownsRow 0 e 1 v n xs) (s : ByteArray) (hb : n + s.size ≤ 140737488355328) :
    ∃ v' w', (Builtin.append_ #[t, u] ty #[v, .string s]).run P w = .ok v' w' ∧ w'.ownsRow 0 e 1 v' (n + s.size) (xs ++ Lib.strCells s) ∧ w.grownBy w' v.ownBlock ∧ (v'.ownBlock = v.ownBlock ∨ v'.ownBlock = some w.heap.size) := by
  obtain ⟨v', w', r1, r2, r3, r4⟩ := Lib.run_append_own_string (P := P) w 0 t u ty e i ht hu hi hz hsize hby v n xs hown s (by simp only [maxLen]; omega) hb (Nat.zero_le _)
  refine ⟨v', w', r1, r2, r3, ?_⟩
  have hxl : xs.length = n := by simpa using hown.1
  rcases hown.2 with ⟨rfl, rfl⟩ | ⟨g, cap, cur, rfl, hbg, hg, hnc, hcm, hcs, htake⟩
  · by_cases hm : s.size = 0
    · exact .inl (by rw [r4.2 ⟨rfl, hm⟩])
    · have hr := run_append_nil_string (P := P) w t u ty e i (.int .u8 0) ht hu hi hz s (by omega) (by omega) (by rw [hby]; omega)
      rw [r1] at hr
      injection hr with h1 h2
      exact .inr (by rw [h1]; rfl)
  · by_cases hroom : n + s.size ≤ cap
    · have hcs' : cur.size = cap := by simpa using hcs
      have hr := Lib.run_append_room_string (P := P) w t u ty e i ht hu hi hsize g n cap cur hg s hroom (by omega)
      rw [r1] at hr
      injection hr with h1 h2
      exact .inl (by rw [h1]; rfl)
    · have holds : ∀ j u, xs[j]? = some u → w.cell? ((⟨g, 0, none⟩ : Addr).add j) = some u := hown.cells (g := g) rfl
      have hr := Lib.run_append_grow_string (P := P) w t u ty e i (.int .u8 0) ht hu hi hz ⟨g, 0, none⟩ n cap xs (by rw [hsize]; simpa using hxl) holds s (by omega) (by omega) (by rw [hby]; exact growslice_fits (by omega) (by omega))
      rw [r1] at hr
      injection hr with h1 h2
      exact .inr (by rw [h1]; rfl)
theorem strCells_bytes (s : ByteArray) : Lib.strCells s = (bytesL s).map (Value.int .u8) := by
  simp [Lib.strCells, bytesL]
section
variable {C : Ctx} {k : List CK} {s : S} {R : List (Nat × Row)} {G : Mem} {arr : Array Oper} {o : Oper} {r : List Oper}
theorem X.appendStr (i : Nat) (q : Row) (t u : Nat) {x y : Operand} {n c : Nat} {A : Option Addr} {b : ByteArray}
    (hop : o.op = .call { callee := .builtin .append, args := #[x, y], argTypes := #[t, u] }) (hx : s.ev x = some (.v (.slice A n c))) (hy : s.ev y = some (.v (.string b)))
    (ht : C.P.underlying t = some (.slice q.e)) (hu : C.P.underlying u = some .string) (hinfo : (C.P.info? q.e).map (fun i => (i.zero, i.size, i.bytes)) = some (some (.int .u8 0), 1, 1)) (hqs : q.size = 1) (hg : (guardOk s arr o && s.can o.dst) = true)
    (hq : lk R i = some q ∨ (A = none ∧ c = 0 ∧ q.n = 0 ∧ q.cells = [])) (hqv : q.v = .slice A n c) (hqn : q.n = n) (hb : n + b.size ≤ 140737488355328)
    (H : ∀ A' c', n + b.size ≤ c' → X C (.ops arr r) k (s.put o.dst (.v (.slice A' (n + b.size) c'))) ((i, ⟨q.e, 1, .slice A' (n + b.size) c', n + b.size, q.cells ++ (bytesL b).map (Value.int .u8)⟩) :: R) G) : X C (.ops arr (o :: r)) k s R G := by
  simp only [Bool.and_eq_true] at hg
  refine X.op hg.1 fun ρ a w hs next hnx => ?_
  obtain ⟨i0, hi, hzz⟩ := Option.map_eq_some_iff.1 hinfo
  simp only [Prod.mk.injEq] at hzz
  obtain ⟨hz0, hz1, hz2⟩ := hzz
  have hown : w.ownsRow 0 q.e 1 (.slice A n c) n q.cells := by
    rcases hq with hq | ⟨rfl, rfl, h3, h4⟩
    · have := hs.rw i q hq
      rw [hqv, hqn, hqs] at this
      exact this
    · rw [hqn] at h3
      subst h3
      rw [h4]
      exact World.ownsRow_nil w 0 q.e 1
  have hold : ∀ g, (Value.slice A n c).ownBlock = some g → ∃ p, lk R i = some p ∧ p.v.ownBlock = some g := fun g hg' => by
    rcases hq with hq | ⟨rfl, _⟩
    · exact ⟨q, hq, by rw [hqv]; exact hg'⟩
    · simp [Value.ownBlock] at hg'
  obtain ⟨v', w', r1, r2, r3, r5⟩ := run_appendStr (P := C.P) w t u o.type q.e i0 ht hu hi hz0 hz1 hz2 (.slice A n c) n q.cells hown b hb
  rw [strCells_bytes] at r2
  obtain ⟨A', c', hv', hle⟩ : ∃ A' c', v' = .slice A' (n + b.size) c' ∧ n + b.size ≤ c' := by
    rcases r2.2 with ⟨h2, h3⟩ | ⟨g, cap, cur, h2, _, _, h3, _⟩
    · exact ⟨none, 0, by rw [h2, h3], by omega⟩
    · exact ⟨_, cap, h2, h3⟩
  subst hv'
  have hrun : (execOp a.eval o).run C.P w = .ok (.value (.slice A' (n + b.size) c')) w' := by
    unfold execOp
    simp only [hop]
    unfold resolve
    have e : (#[x, y] : Array Operand).map a.eval = #[.slice A n c, .string b] := by simp [hs.ev hx, hs.ev hy, AV.real]
    simp only [e]
    rw [run_bind_ok (show (pure _ : Sem Deferred).run C.P w = .ok _ w from rfl)]
    unfold invoke
    exact run_v r1
  refine wp_value hrun (hnx ρ _ _ _ _ _ (H A' c' hle) ?_)
  exact (hs.row i (q := ⟨q.e, 1, .slice A' (n + b.size) c', n + b.size, q.cells ++ (bytesL b).map (Value.int .u8)⟩) hold r3 r2 (fun g hg' => by
    rcases r5 with h | h
    · exact .inl (by rw [← h]; exact hg')
    · exact .inr (by rw [show (Value.slice A' (n + b.size) c').ownBlock = some g from hg'] at h; injection h with h; omega))).put (x := .v _) hg.2
end
section
variable {C : Ctx} {arr : Array Oper} {ρ0 : Nat → Nat} {F : List Pin} {RF : List (Nat × Row)} {G0 G : Mem} {ds : List Nat} {n : Nat} {l l' : Array Bool} {k : List CK} {s : S} {R : List (Nat × Row)}
end
end Go.Proofs.YtjgpdbkkpomhjaaX
namespace Go.Proofs.YtjgpdbkkpomhjaaX
open Go.RowKit
open Go.Proofs.YtjgpdbkkpomhjaaW.PrintLast
set_option linter.unusedVariables false
set_option linter.unusedSimpArgs false
set_option maxRecDepth 100000
theorem run_grow_nil {P : Program} (w : World) (t ti ty e : TypeId) (i : TypeInfo) (z : Value) (ht : P.underlying t = some (.slice e)) (hti : P.underlying ti = some (.int .i64)) (hi : P.info? e = some i) (hz : i.zero = some z) (hs : i.size = 1)
    (n : Nat) (h0 : 0 < n) (h48 : n * i.bytes ≤ 140737488355328) (h63 : n ≤ 140737488355328) :
    (Builtin.append_ #[t, ti] ty #[.slice none 0 0, .int .i64 (n : Int)]).run P w =
      .ok (.slice (some ⟨w.heap.size, 0, none⟩) n (grownCap w n 0 e)) (w.drew.alloc (.cells (Builtin.zeroCells z.cells n ++ Builtin.zeroCells z.cells (grownCap w n 0 e - n)) e)) := by
  have hn : n ≠ 0 := by omega
  have hn2 : ¬ n = 0 := hn
  have hw : IntKind.i64.wrap (n : Int) = n := wi64 (by omega) (by omega)
  have h63' : ¬ (9223372036854775807 < (n : Int)) := by omega
  have h48' : ¬ (281474976710656 < Builtin.nextslicecap n 0 * i.bytes) := by rw [nextslicecap_zero h0]; omega
  have hlt : ¬ ((n : Int) < 0) := by omega
  have hn0 : ¬ ((n : Int) ≤ 0) := by omega
  have hmx : ¬ (9223372036854775807 < max (n : Int) 0) := by omega
  have h4 : ¬ (281474976710656 < (n : Int) * (i.bytes : Int)) := by
    have h5 : ((n * i.bytes : Nat) : Int) ≤ 140737488355328 := Int.ofNat_le.mpr h48
    rw [Int.natCast_mul] at h5
    intro h6
    exact absurd (Int.lt_of_lt_of_le h6 h5) (by decide)
  simp [Builtin.append_, run_underlying ht, run_underlying hti, sizeOf, typeInfo, zeroValue, hi, hz, hs, asInt, asIntOf, hw, hlt, hn0, hmx, h4, hn, h63', h48', Question.forced, run_firstCells_none, newRow, grownCap]
section
variable {C : Ctx} {k : List CK} {s : S} {R : List (Nat × Row)} {G : Mem} {arr : Array Oper} {o : Oper} {r : List Oper}
theorem X.growNil {t ti e bytes : Nat} (nm : Nat) (z : Value) {x y : Operand} {m : Int} (hop : o.op = .call { callee := .builtin .append, args := #[x, y], argTypes := #[t, ti] }) (hx : s.ev x = some (.v (.slice none 0 0))) (hy : s.ev y = some (.v (.int .i64 m)))
    (ht : C.P.underlying t = some (.slice e)) (hti : C.P.underlying ti = some (.int .i64)) (hinfo : (C.P.info? e).map (fun i => (i.zero, i.size, i.bytes)) = some (some z, 1, bytes)) (hz : z.cells.size = 1) (hg : (guardOk s arr o && s.can o.dst) = true) (h0 : 0 < m) (hb : m.toNat * bytes ≤ 140737488355328) (hm : m ≤ 140737488355328)
    (H : ∀ A c, m.toNat ≤ c → X C (.ops arr r) k (s.put o.dst (.v (.slice A m.toNat c))) ((nm, ⟨e, 1, .slice A 0 c, 0, []⟩) :: R) G) : X C (.ops arr (o :: r)) k s R G := by
  simp only [Bool.and_eq_true] at hg
  refine X.op hg.1 fun ρ a w hs next hnx => ?_
  obtain ⟨i0, hi, hzz⟩ := Option.map_eq_some_iff.1 hinfo
  simp only [Prod.mk.injEq] at hzz
  obtain ⟨hz0, hz1, hz2⟩ := hzz
  obtain ⟨n, rfl⟩ : ∃ n : Nat, m = n := ⟨m.toNat, by omega⟩
  simp only [Int.toNat_natCast] at *
  have r1 := run_grow_nil (P := C.P) w t ti o.type e i0 z ht hti hi hz0 hz1 n (by omega) (by rw [hz2]; exact hb) (by omega)
  have hmax : n ≤ maxLen := by simp only [maxLen]; omega
  have hge := grownCap_ge w n 0 e
  have hcm : grownCap w n 0 e ≤ maxLen := grownCap_le_maxLen w n 0 e hmax
  have hown : (w.drew.alloc (.cells (Builtin.zeroCells z.cells n ++ Builtin.zeroCells z.cells (grownCap w n 0 e - n)) e)).ownsRow 0 e 1 (.slice (some ⟨w.heap.size, 0, none⟩) 0 (grownCap w n 0 e)) 0 [] := by
    refine ⟨rfl, .inr ⟨w.heap.size, _, _, rfl, Nat.zero_le _, heap_alloc_new w.drew _, Nat.zero_le _, hcm, ?_, rfl⟩⟩
    simp only [Array.size_append, size_zeroCells, hz, ← Nat.add_mul]
    omega
  have hgr : w.grownBy (w.drew.alloc (.cells (Builtin.zeroCells z.cells n ++ Builtin.zeroCells z.cells (grownCap w n 0 e - n)) e)) none := ⟨rfl, rfl, rfl, by simp, fun k hk _ => heap_alloc_old w.drew _ hk⟩
  have hrun : (execOp a.eval o).run C.P w = .ok (.value (.slice (some ⟨w.heap.size, 0, none⟩) n (grownCap w n 0 e))) (w.drew.alloc (.cells (Builtin.zeroCells z.cells n ++ Builtin.zeroCells z.cells (grownCap w n 0 e - n)) e)) := by
    unfold execOp
    simp only [hop]
    unfold resolve
    have e1 : (#[x, y] : Array Operand).map a.eval = #[.slice none 0 0, .int .i64 (n : Int)] := by simp [hs.ev hx, hs.ev hy, AV.real]
    simp only [e1]
    rw [run_bind_ok (show (pure _ : Sem Deferred).run C.P w = .ok _ w from rfl)]
    unfold invoke
    exact run_v r1
  refine wp_value hrun (hnx ρ _ _ _ _ _ (H (some ⟨w.heap.size, 0, none⟩) (grownCap w n 0 e) hge) ?_)
  exact (hs.row nm (q := ⟨e, 1, .slice (some ⟨w.heap.size, 0, none⟩) 0 (grownCap w n 0 e), 0, []⟩) (old := none) (fun g h => by cases h) hgr hown (fun g hg' => .inr (by simp [Value.ownBlock] at hg'; omega))).put (x := .v _) hg.2
theorem X.boxOut {cur : Cur} {t b bt : Nat} {kd : IntKind} {cs : List AV} (ns : List Int) (hx : lk s.tmps t = some (.own b 0)) (hb : lk s.boxes b = some ⟨bt, cs⟩) (hc : cs = ns.map (fun n => .v (.int kd n))) (hM : ∀ g, ¬ C.M.can g) (hr : ∀ n ∈ ns, IntKind.lo kd ≤ n ∧ n ≤ IntKind.hi kd)
    (H : ∀ g G', Ge G C.w0.heap.size G' → rowAt (D.int kd) G' (some ⟨g, 0, none⟩) ns → X C cur k ⟨s.n, (t, .v (.pointer (some ⟨g, 0, none⟩))) :: s.tmps, s.boxes.filter (fun p => p.1 != b)⟩ R G') : X C cur k s R G := by
  intro ρ a w hs
  have hle : C.w0.heap.size ≤ ρ b := (hs.bo b _ hb).resolve_right (hM _)
  have hN : G (ρ b) = none := by
    cases e : G (ρ b) with
    | none => rfl
    | some q => exact absurd rfl (hs.gb _ _ _ _ e hb)
  subst hc
  have hrow : rowAt (D.int kd) (updG G (ρ b) ((⟨bt, ns.map (fun n => .v (.int kd n))⟩ : Box).obj ρ)) (some ⟨ρ b, 0, none⟩) ns := fun i hi => by
    refine ⟨_, [.int kd ns[i]], rfl, ⟨rfl, hr _ (List.getElem_mem hi)⟩, fun j v hj => ?_⟩
    cases j with
    | succ j => simp at hj
    | zero =>
      simp only [List.getElem?_cons_zero, Option.some.injEq] at hj
      subst hj
      have e1 : (⟨ρ b, 0, none⟩ : Addr).add (i * (D.int kd).sz + 0) = ⟨ρ b, i, none⟩ := by rw [add_ptr]; show (⟨ρ b, 0 + (i * 1 + 0), none⟩ : Addr) = _; simp
      rw [e1]
      unfold cellG
      simp only [updG_at]
      simp [Box.obj, List.getElem?_map, hi, AV.real]
  refine H (ρ b) _ (updG_ge (Ge.refl G _) hle hN) hrow ρ a w ?_
  have h := hs.boxG hb
  refine ⟨fun i x hi => ?_, h.sz, h.df, h.bx, h.bo, h.bi, h.rw, h.ro, h.ri, h.rb, h.g, h.gb, h.gr, h.fr, h.pn⟩
  rw [lk_cons] at hi
  by_cases e : t = i
  · subst e
    rw [if_pos rfl] at hi
    injection hi with hi
    subst hi
    have := hs.tm t _ hx
    exact this
  · rw [if_neg e] at hi
    exact h.tm i x hi
end
end Go.Proofs.YtjgpdbkkpomhjaaX
namespace Go.Proofs.YtjgpdbkkpomhjaaX
open Go.RowKit
open Go.Proofs.YtjgpdbkkpomhjaaW.PrintLast
set_option linter.unusedVariables false
set_option linter.unusedSimpArgs false
section
variable {C : Ctx} {k : List CK} {s : S} {R : List (Nat × Row)} {G : Mem} {arr : Array Oper} {o : Oper} {r : List Oper}
end
section
variable {C : Ctx} {arr : Array Oper} {k : List CK} {s : S} {R : List (Nat × Row)} {G : Mem} {o : Oper} {r : List Oper}
end
end Go.Proofs.YtjgpdbkkpomhjaaX
namespace Go.Proofs.YtjgpdbkkpomhjaaX
open Go.RowKit
open Go.Proofs.YtjgpdbkkpomhjaaW.PrintLast
set_option linter.unusedVariables false
set_option linter.unusedSimpArgs false
section
variable {C : Ctx} {arr : Array Oper} {ρ0 : Nat → Nat} {F : List Pin} {RF : List (Nat × Row)} {G0 G : Mem} {ds : List Nat} {m : Nat} {l l' : Array Bool} {k : List CK} {s : S} {R : List (Nat × Row)}
end
end Go.Proofs.YtjgpdbkkpomhjaaX
namespace Go.Proofs.YtjgpdbkkpomhjaaX
end Go.Proofs.YtjgpdbkkpomhjaaX
