/- A pointer of the own compared with nil. Conditions: none. -/
import Derived.Test.YthpinlcfcgnilaaXP
import Derived.Test.YthpinlcfcgnilaaXI
namespace Go.Proofs.YthpinlcfcgnilaaX
open Go.RowKit
open Go.Proofs.YthpinlcfcgnilaaW.PrintLast Go.Proofs.YthpinlcfcgnilaaW.PrintWords
set_option linter.unusedVariables false
set_option linter.unusedSimpArgs false
section
variable {C : Ctx} {k : List CK} {s : S} {R : List (Nat × Row)} {G : Mem} {arr : Array Oper} {o : Oper} {r : List Oper}
theorem run_eqOwnNil' {P : Program} {t e b off : Nat} {w : World} (d : Nat) (hu : P.underlying t = some (.pointer e)) : (Op.equalIn (d + 1) t (ptr b off) (.pointer none)).run P w = .ok false w := by
  simp only [Op.equalIn, ptr]
  rw [run_bind_ok (run_underlying hu w)]
  simp
theorem run_eqOwnNil {P : Program} {t e b off : Nat} {w : World} (hu : P.underlying t = some (.pointer e)) : (Op.equal t (ptr b off) (.pointer none)).run P w = .ok false w := run_eqOwnNil' 9999 hu
theorem X.eqOwnNil {t t' e b off : Nat} {x y : Operand} (hop : o.op = .binOp .eql t x y t') (hgd : ∀ g, spure C.P (eqGuard .eql t x y (ptr g off) (.pointer none)) = some ()) (hx : s.ev x = some (.own b off)) (hy : s.ev y = some (.v (.pointer none))) (hu : C.P.underlying t = some (.pointer e)) (hg : (guardOk s arr o && s.can o.dst) = true)
    (H : X C (.ops arr r) k (s.put o.dst (.v (.bool false))) R G) : X C (.ops arr (o :: r)) k s R G := by
  simp only [Bool.and_eq_true] at hg
  refine X.val _ hg.1 hg.2 (fun ρ a w hs => ?_) H
  simp only [execOp, hop, hs.ev hx, hs.ev hy, AV.real]
  refine run_v ?_
  have h1 := spure_run (hgd (ρ b)) w
  have h2 := run_eqOwnNil (P := C.P) (t := t) (b := ρ b) (off := off) (w := w) hu
  simp only [ptr] at h1 h2 ⊢
  simp only [binOp]
  rw [run_bind_ok h1, run_bind_ok h2]
  rfl
theorem X.neOwnNil {t t' e b off : Nat} {x y : Operand} (hop : o.op = .binOp .neq t x y t') (hgd : ∀ g, spure C.P (eqGuard .neq t x y (ptr g off) (.pointer none)) = some ()) (hx : s.ev x = some (.own b off)) (hy : s.ev y = some (.v (.pointer none))) (hu : C.P.underlying t = some (.pointer e)) (hg : (guardOk s arr o && s.can o.dst) = true)
    (H : X C (.ops arr r) k (s.put o.dst (.v (.bool true))) R G) : X C (.ops arr (o :: r)) k s R G := by
  simp only [Bool.and_eq_true] at hg
  refine X.val _ hg.1 hg.2 (fun ρ a w hs => ?_) H
  simp only [execOp, hop, hs.ev hx, hs.ev hy, AV.real]
  refine run_v ?_
  have h1 := spure_run (hgd (ρ b)) w
  have h2 := run_eqOwnNil (P := C.P) (t := t) (b := ρ b) (off := off) (w := w) hu
  simp only [ptr] at h1 h2 ⊢
  simp only [binOp]
  rw [run_bind_ok h1, run_bind_ok h2]
  rfl
end
theorem St.addBox {w0 w : World} {M : Mk} {ρ : Nat → Nat} {G : Mem} {R : List (Nat × Row)} {s : S} {a : Act} {d g t : Nat} {cells : List AV} (h : St w0 M ρ G R s a w) (hd : s.fresh d = true) (hc : cells.all (AV.far d) = true)
    (hg : w.heap[g]? = some ((⟨t, cells⟩ : Box).obj ρ)) (ho : w0.heap.size ≤ g ∨ M.can g) (hb : ∀ i b, lk s.boxes i = some b → ρ i ≠ g) (hr : ∀ i r, lk R i = some r → r.v.ownBlock ≠ some g) (hG : ∀ k o, G k = some o → g ≠ k) :
    St w0 M (upd ρ d g) G R { s with boxes := (d, ⟨t, cells⟩) :: s.boxes } a w := by
  simp only [S.fresh, Bool.and_eq_true, List.all_eq_true] at hd
  have hbx : ∀ i b, lk s.boxes i = some b → i ≠ d ∧ b.cells.all (AV.far d) = true := fun i b hi => by
    refine ⟨fun e => ?_, ?_⟩
    · subst e
      rw [hi] at hd
      simp at hd
    · exact List.all_eq_true.mpr (hd.2 _ (lk_mem hi))
  have hnew : ∀ i, i ≠ d → upd ρ d g i = ρ i := fun i hi => if_neg hi
  have hd' : upd ρ d g d = g := if_pos rfl
  refine ⟨fun i x hi => ?_, h.sz, h.df, fun i b hi => ?_, fun i b hi => ?_, fun i j b c hi hj e => ?_, h.rw, h.ro, h.ri, fun i j r b hi hj => ?_, h.g, fun k o j b hk hj => ?_, h.gr, h.fr, fun b g' hb' => ?_⟩
  · rw [h.tm i x hi, AV.real_far (hd.1.2 _ (lk_mem hi))]
  · rw [lk_cons] at hi
    by_cases e : d = i
    · subst e
      rw [if_pos rfl] at hi
      injection hi with hi
      subst hi
      rw [hd', Box.obj, map_real_far hc]
      exact hg
    · rw [if_neg e] at hi
      rw [hnew i (Ne.symm e), Box.obj, map_real_far (hbx i b hi).2]
      exact h.bx i b hi
  · rw [lk_cons] at hi
    by_cases e : d = i
    · subst e
      rw [hd']
      exact ho
    · rw [if_neg e] at hi
      rw [hnew i (Ne.symm e)]
      exact h.bo i b hi
  · rw [lk_cons] at hi hj
    by_cases ei : d = i
    · by_cases ej : d = j
      · exact ei.symm.trans ej
      · subst ei
        rw [if_neg ej] at hj
        rw [hd', hnew j (Ne.symm ej)] at e
        exact absurd e.symm (hb j c hj)
    · rw [if_neg ei] at hi
      by_cases ej : d = j
      · subst ej
        rw [hd', hnew i (Ne.symm ei)] at e
        exact absurd e (hb i b hi)
      · rw [if_neg ej] at hj
        rw [hnew i (Ne.symm ei), hnew j (Ne.symm ej)] at e
        exact h.bi i j b c hi hj e
  · rw [lk_cons] at hj
    by_cases e : d = j
    · subst e
      rw [hd']
      exact hr i r hi
    · rw [if_neg e] at hj
      rw [hnew j (Ne.symm e)]
      exact h.rb i j r b hi hj
  · rw [lk_cons] at hj
    by_cases e : d = j
    · subst e
      rw [hd']
      exact hG k o hk
    · rw [if_neg e] at hj
      rw [hnew j (Ne.symm e)]
      exact h.gb k o j b hk hj
  · obtain ⟨h3, h4⟩ := h.pn b g' hb'
    have : b ≠ d := fun e => by
      have := Nat.blt_eq.mp hd.1.1.1
      omega
    exact ⟨h3, by rw [hnew b this]; exact h4⟩
theorem inS_ok {C : Ctx} {s : S} {R : List (Nat × Row)} {G : Mem} {ρ : Nat → Nat} {a : Act} {w : World} {fn : Func} {l : List AV} (hs : St C.w0 C.M ρ G R s a w) (hle : l.length ≤ fn.ntmps) : St C.w0 ⟨C.M.can, fun i => if 1000 ≤ i then some (ρ (i - 1000)) else none⟩ (ρc ρ) G R (inS fn l s) (Act.mk ((l.map (AV.real ρ)).toArray ++ Array.replicate (fn.ntmps - (l.map (AV.real ρ)).toArray.size) undef) []) w := by
  have hmap : (l.map shAV).map (AV.real (ρc ρ)) = l.map (AV.real ρ) := by
    rw [List.map_map]
    exact List.map_congr_left fun x _ => shAV_real x
  refine ⟨fun i x hi => ?_, ?_, rfl, fun i b hi => ?_, fun i b hi => ?_, fun i j b c hi hj e => ?_, hs.rw, hs.ro, hs.ri, fun i j r b hi hj => ?_, hs.g, fun k o j b hk hj => ?_, hs.gr, hs.fr, fun b g hb => ?_⟩
  · obtain ⟨_, h2⟩ := enumA_lk hi
    rw [Nat.sub_zero] at h2
    have h3 : (l.map (AV.real ρ))[i]? = some (x.real (ρc ρ)) := by rw [← hmap, List.getElem?_map, h2]; rfl
    have hlt := (List.getElem?_eq_some_iff.mp h3).1
    rw [Array.getElem?_append_left (by simpa using hlt)]
    simpa using h3
  · simp [inS]; omega
  · obtain ⟨j, c, rfl, h1, rfl⟩ := shBoxes_lk hi
    rw [ρc_add, hs.bx j c h1, Box.obj, Box.obj]
    simp only [List.map_map]
    rw [show c.cells.map (AV.real (ρc ρ) ∘ shAV) = c.cells.map (AV.real ρ) from List.map_congr_left fun x _ => shAV_real x]
  · obtain ⟨j, c, rfl, h1, rfl⟩ := shBoxes_lk hi
    rw [ρc_add]
    exact hs.bo j c h1
  · obtain ⟨i', c1, rfl, h1, rfl⟩ := shBoxes_lk hi
    obtain ⟨j', c2, rfl, h2, rfl⟩ := shBoxes_lk hj
    rw [ρc_add, ρc_add] at e
    rw [hs.bi i' j' c1 c2 h1 h2 e]
  · obtain ⟨j', c2, rfl, h2, rfl⟩ := shBoxes_lk hj
    rw [ρc_add]
    exact hs.rb i j' r c2 hi h2
  · obtain ⟨j', c2, rfl, h2, rfl⟩ := shBoxes_lk hj
    rw [ρc_add]
    exact hs.gb k o j' c2 hk h2
  · simp only at hb
    split at hb
    · rename_i h1
      injection hb with hb
      exact ⟨h1, by rw [← hb]; simp [ρc, h1]⟩
    · cases hb

def isV : AV → Bool
  | .v _ => true
  | _ => false
theorem isV_real {ρ ρ' : Nat → Nat} {l : List AV} (h : l.all isV = true) : l.map (AV.real ρ) = l.map (AV.real ρ') := by
  refine List.map_congr_left fun x hx => ?_
  have := List.all_eq_true.mp h x hx
  cases x <;> first | rfl | cases this
theorem isV_far {d : Nat} {l : List AV} (h : l.all isV = true) : l.all (AV.far d) = true := by
  refine List.all_eq_true.mpr fun x hx => ?_
  have := List.all_eq_true.mp h x hx
  cases x <;> first | rfl | cases this
section
variable {C : Ctx} {arr : Array Oper} {k : List CK} {s : S} {R : List (Nat × Row)} {G : Mem} {o : Oper} {r : List Oper}
/-- A call walked in place that answers a pointer to a new variable. -/
theorem X.inlineNew {f : FuncId} {l : List AV} {fn : Func} {c : Code} (nb : Nat) (hc : calls s o = some (f, l)) (hf : (okFn C.P f && (guardOk s arr o && (s.can o.dst && Nat.ble l.length fn.ntmps))) = true) (hfn : C.P.funcs[f]? = some fn) (hb : fn.body = some c)
    (H : ∀ Q' M', (∀ b, 1000 ≤ b → (M'.pin b).isSome = true) → QOk ⟨C.P, Q', C.w0, M'⟩ →
      (∀ e s2 R2 G2 d t cells bs, (e = .ret ∨ e = .normal) → resAll C.P s2 fn.results.toList = some [.own d 0] → Nat.blt d 1000 = true → lk s2.boxes d = some ⟨t, cells⟩ → cells.all isV = true → unBoxes s2.boxes = some bs → ({ n := s.n, tmps := s.tmps, boxes := bs } : S).fresh nb = true →
        X C (.ops arr r) k (({ n := s.n, tmps := s.tmps, boxes := (nb, ⟨t, cells⟩) :: bs } : S).put o.dst (.own nb 0)) R2 G2 → X ⟨C.P, Q', C.w0, M'⟩ (.ex e) [] s2 R2 G2) →
      X ⟨C.P, Q', C.w0, M'⟩ (.code c) [] (inS fn l s) R G) : X C (.ops arr (o :: r)) k s R G := by
  simp only [Bool.and_eq_true] at hf
  refine X.call hc hf.1 hf.2.1 fun ρ a w hs => ?_
  have hle := Nat.ble_eq.mp hf.2.2.2
  refine calls_of_wp hfn hb ?_
  refine H (bodyPost C.P fn fun e w' => ∃ v, e = .returned v ∧ ∃ ρ' s' R' G', X C (.ops arr r) k s' R' G' ∧ St C.w0 C.M ρ' G' R' s' (a.put o.dst v) w')
    ⟨C.M.can, fun i => if 1000 ≤ i then some (ρ (i - 1000)) else none⟩ (fun b hb => by simp [hb]) QOk.body ?_ (ρc ρ) _ w ?_
  · intro e s2 R2 G2 d t cells bs he hr hd1 hd2 hpl hbs hfr HX ρ2 a2 w2 hs2
    have hrun := results_run (fn := fn) hs2 hr rfl
    have hlt := Nat.blt_eq.mp hd1
    have hρ : ∀ i, ρ2 (i + 1000) = ρ i := fun i => (hs2.pn (i + 1000) (ρ i) (by simp)).2
    have hst : St C.w0 C.M ρ G2 R2 ⟨s.n, s.tmps, bs⟩ a w2 := by
      refine ⟨hs.tm, hs.sz, hs.df, fun i b hi => ?_, fun i b hi => ?_, fun i j b c hi hj e => ?_, hs2.rw, hs2.ro, hs2.ri, fun i j r b hi hj => ?_, hs2.g, fun k o j b hk hj => ?_, hs2.gr, hs2.fr, hs.pn⟩
      · obtain ⟨c2, h3, h4, h5⟩ := unBoxes_lk hbs hi
        have := hs2.bx _ _ h3
        rw [hρ i] at this
        rw [this, Box.obj, Box.obj, h4, unAll_real hρ h5]
      · obtain ⟨c2, h3, _⟩ := unBoxes_lk hbs hi
        have := hs2.bo _ _ h3
        rwa [hρ i] at this
      · obtain ⟨c2, h3, _⟩ := unBoxes_lk hbs hi
        obtain ⟨c3, h4, _⟩ := unBoxes_lk hbs hj
        have := hs2.bi _ _ _ _ h3 h4 (by rw [hρ, hρ]; exact e)
        omega
      · obtain ⟨c3, h4, _⟩ := unBoxes_lk hbs hj
        have := hs2.rb _ _ _ _ hi h4
        rwa [hρ j] at this
      · obtain ⟨c3, h4, _⟩ := unBoxes_lk hbs hj
        have := hs2.gb _ _ _ _ hk h4
        rwa [hρ j] at this
    have hst2 := hst.addBox (g := ρ2 d) hfr (isV_far hpl) (by
        have := hs2.bx _ _ hd2
        rw [this, Box.obj, Box.obj]
        simp only
        rw [isV_real hpl]) (hs2.bo _ _ hd2) (fun i b hi e => by
        obtain ⟨c2, h3, _⟩ := unBoxes_lk hbs hi
        have := hs2.bi _ _ _ _ h3 hd2 (by rw [hρ]; exact e)
        omega) (fun i r hi => hs2.rb _ _ _ _ hi hd2) (fun k o hk => hs2.gb _ _ _ _ hk hd2)
    have hput := hst2.put (x := .own nb 0) (d := o.dst) hf.2.2.1
    have hv : mkRes ([AV.own d 0].map (AV.real ρ2)) = (AV.own nb 0).real (upd ρ nb (ρ2 d)) := by
      simp [mkRes, AV.real, upd]
    rw [← hv] at hput
    rcases he with rfl | rfl
    · exact ⟨hs2.df, _, hrun, _, rfl, _, _, R2, G2, HX, hput⟩
    · exact ⟨hs2.df, _, hrun, _, rfl, _, _, R2, G2, HX, hput⟩
  · exact inS_ok (C := C) hs hle
theorem X.dummy : True := trivial
end
end Go.Proofs.YthpinlcfcgnilaaX
