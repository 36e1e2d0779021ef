/- Contracts of the program's functions, and a law's row over its pure statement: written by this session's own program (wip/pr-patch.py over a copy of the kit's print). -/
import Derived.Test.YthoeidcpemfmlaaPPacerTellsx0
import Derived.Test.YthoeidcpemfmlaaPPacerTellsx1
namespace Go.Proofs.Ythoeidcpemfmlaa.PPacerTells
open Go.RowKit Go.Proofs.YthoeidcpemfmlaaW.PrintWords Go.Proofs.YthoeidcpemfmlaaW.PrintLast Go.Proofs.YthoeidcpemfmlaaW.PrintMore
attribute [local go_sem] max2_int min2_int max_two min_two max_three min_three max_four min_four   -- for this text's walks alone
open Go.Proofs.Ythoeidcpemfmlaa.Inj
set_option linter.unusedVariables false
set_option linter.unusedSimpArgs false

/-! ### pacer_Rate: function 37 -/
def pacer_Rate.f (k : Nat) (a0 : Int) (a1 : Int) (a2 : Int) : Option (Int) := (sat_Clamp.f a0 0 1073741824).bind fun t147 => ((sat_Clamp.f a1 1 1125899906842624).bind fun t148 => ((sat_Clamp.f a2 0 16777216).bind fun t149 => (if t148 = 0 then (none) else ((sat_Mul.f k (wrap64 (Int.tdiv (wrap64 (Int.tdiv (wrap64 (t147 * 1000000)) t148)) 1048576)) t149).bind fun t150 => ((sat_Add.f t150 (wrap64 (Int.tdiv (wrap64 ((Int.tmod (wrap64 (Int.tdiv (wrap64 (t147 * 1000000)) t148)) 1048576) * t149)) 1048576))).bind fun t151 => ((sat_Clamp.f t151 1 1099511627776).bind fun t152 => (some t152)))))))
theorem pacer_Rate.mono : ∀ a0 a1 a2 k, LeO (pacer_Rate.f k a0 a1 a2) (pacer_Rate.f (k + 1) a0 a1 a2) := by
  intro a0 a1 a2 k
  unfold pacer_Rate.f
  repeat' first
      | (with_reducible exact sat_Mul.mono _ _ _)
      | (with_reducible exact LeO.refl _)
      | (with_reducible exact LeO.none _)
      | (with_reducible refine LeO.ite ?_ ?_)
      | (with_reducible refine LeO.bind ?_ (fun _ => ?_))
      | exact sat_Mul.mono _ _ _
      | exact LeO.none _
      | refine LeO.ite ?_ ?_
      | refine LeO.bind ?_ (fun _ => ?_)
set_option maxHeartbeats 8000000 in
set_option maxRecDepth 100000 in
theorem pacer_Rate.calls (k : Nat) (a0 : Int) (a1 : Int) (a2 : Int) (r : Int) (w : World) (h : pacer_Rate.f k a0 a1 a2 = some r) :
    Calls Try.prog 37 #[.int .i64 a0, .int .i64 a1, .int .i64 a2] w fun e w' => e = .returned (.int .i64 r) ∧ Below w.heap.size w w' := by
  have HB := Aside0.mk (Below.refl w.heap.size w)
  have H : ((sat_Clamp.f a0 0 1073741824).bind fun t147 => ((sat_Clamp.f a1 1 1125899906842624).bind fun t148 => ((sat_Clamp.f a2 0 16777216).bind fun t149 => (if t148 = 0 then (none) else ((sat_Mul.f k (wrap64 (Int.tdiv (wrap64 (Int.tdiv (wrap64 (t147 * 1000000)) t148)) 1048576)) t149).bind fun t150 => ((sat_Add.f t150 (wrap64 (Int.tdiv (wrap64 ((Int.tmod (wrap64 (Int.tdiv (wrap64 (t147 * 1000000)) t148)) 1048576) * t149)) 1048576))).bind fun t151 => ((sat_Clamp.f t151 1 1099511627776).bind fun t152 => (some t152)))))))) = some r := h
  clear h
  replace H := Option.bind_eq_some_iff.mp H
  obtain ⟨t147, A40, H⟩ := H
  replace H : ((sat_Clamp.f a1 1 1125899906842624).bind fun t148 => ((sat_Clamp.f a2 0 16777216).bind fun t149 => (if t148 = 0 then (none) else ((sat_Mul.f k (wrap64 (Int.tdiv (wrap64 (Int.tdiv (wrap64 (t147 * 1000000)) t148)) 1048576)) t149).bind fun t150 => ((sat_Add.f t150 (wrap64 (Int.tdiv (wrap64 ((Int.tmod (wrap64 (Int.tdiv (wrap64 (t147 * 1000000)) t148)) 1048576) * t149)) 1048576))).bind fun t151 => ((sat_Clamp.f t151 1 1099511627776).bind fun t152 => (some t152))))))) = some r := H
  have A4 := Aside0.mk A40
  clear A40
  replace H := Option.bind_eq_some_iff.mp H
  obtain ⟨t148, A50, H⟩ := H
  replace H : ((sat_Clamp.f a2 0 16777216).bind fun t149 => (if t148 = 0 then (none) else ((sat_Mul.f k (wrap64 (Int.tdiv (wrap64 (Int.tdiv (wrap64 (t147 * 1000000)) t148)) 1048576)) t149).bind fun t150 => ((sat_Add.f t150 (wrap64 (Int.tdiv (wrap64 ((Int.tmod (wrap64 (Int.tdiv (wrap64 (t147 * 1000000)) t148)) 1048576) * t149)) 1048576))).bind fun t151 => ((sat_Clamp.f t151 1 1099511627776).bind fun t152 => (some t152)))))) = some r := H
  have A5 := Aside0.mk A50
  clear A50
  replace H := Option.bind_eq_some_iff.mp H
  obtain ⟨t149, A60, H⟩ := H
  replace H : (if t148 = 0 then (none) else ((sat_Mul.f k (wrap64 (Int.tdiv (wrap64 (Int.tdiv (wrap64 (t147 * 1000000)) t148)) 1048576)) t149).bind fun t150 => ((sat_Add.f t150 (wrap64 (Int.tdiv (wrap64 ((Int.tmod (wrap64 (Int.tdiv (wrap64 (t147 * 1000000)) t148)) 1048576) * t149)) 1048576))).bind fun t151 => ((sat_Clamp.f t151 1 1099511627776).bind fun t152 => (some t152))))) = some r := H
  have A6 := Aside0.mk A60
  clear A60
  by_cases c7 : t148 = 0
  · rw [if_pos c7] at H
    exact absurd H (by simp)
  · rw [if_neg c7] at H
    have c7b0 : (t148 == 0) = false := beq_eq_false_iff_ne.mpr c7
    have c7b1 : (t148 != 0) = true := bne_iff_ne.mpr c7
    replace H := Option.bind_eq_some_iff.mp H
    obtain ⟨t150, A80, H⟩ := H
    replace H : ((sat_Add.f t150 (wrap64 (Int.tdiv (wrap64 ((Int.tmod (wrap64 (Int.tdiv (wrap64 (t147 * 1000000)) t148)) 1048576) * t149)) 1048576))).bind fun t151 => ((sat_Clamp.f t151 1 1099511627776).bind fun t152 => (some t152))) = some r := H
    have A8 := Aside0.mk A80
    clear A80
    replace H := Option.bind_eq_some_iff.mp H
    obtain ⟨t151, A90, H⟩ := H
    replace H : ((sat_Clamp.f t151 1 1099511627776).bind fun t152 => (some t152)) = some r := H
    have A9 := Aside0.mk A90
    clear A90
    replace H := Option.bind_eq_some_iff.mp H
    obtain ⟨t152, A100, H⟩ := H
    replace H : (some t152) = some r := H
    have A10 := Aside0.mk A100
    clear A100
    obtain rfl := Option.some.inj H
    go_enter Try.func37, Try.ntmps37
    go_wp2_with (first | ((with_reducible refine gate_callee (f := 54) rfl ?_); refine goesL_ (some 11) rfl rfl Try.func54 (by kernel_rfl) rfl #[.int .i64 a0, .int .i64 0, .int .i64 1073741824] rfl (by (try simp only [List.map_toArray, List.map_cons, List.map_nil]); first | done | rfl | (simp only [List.length_drop, List.length_take]; rfl)) ?_; (with_reducible refine (sat_Clamp.calls a0 0 1073741824 t147 _ A4.out).mono ?_); rintro e w11 ⟨rfl, hb⟩; refine ⟨_, rfl, ?_⟩; have n0_ := Aside0.mk (below_step (by repeat (first | (with_reducible first | exact HB.out | apply below_alloc | apply pw_below_drewN | apply below_drew1) | exact HB.out)) hb); clear HB; have HB := n0_; clear n0_; (try clear hb); (try clear hb2); (try clear hk); (try clear hi)) | ((with_reducible refine gate_callee (f := 54) rfl ?_); refine goesL_ (some 13) rfl rfl Try.func54 (by kernel_rfl) rfl #[.int .i64 a1, .int .i64 1, .int .i64 1125899906842624] rfl (by (try simp only [List.map_toArray, List.map_cons, List.map_nil]); first | done | rfl | (simp only [List.length_drop, List.length_take]; rfl)) ?_; (with_reducible refine (sat_Clamp.calls a1 1 1125899906842624 t148 _ A5.out).mono ?_); rintro e w12 ⟨rfl, hb⟩; refine ⟨_, rfl, ?_⟩; have n0_ := Aside0.mk (below_step (by repeat (first | (with_reducible first | exact HB.out | apply below_alloc | apply pw_below_drewN | apply below_drew1) | exact HB.out)) hb); clear HB; have HB := n0_; clear n0_; (try clear hb); (try clear hb2); (try clear hk); (try clear hi)) | ((with_reducible refine gate_callee (f := 54) rfl ?_); refine goesL_ (some 15) rfl rfl Try.func54 (by kernel_rfl) rfl #[.int .i64 a2, .int .i64 0, .int .i64 16777216] rfl (by (try simp only [List.map_toArray, List.map_cons, List.map_nil]); first | done | rfl | (simp only [List.length_drop, List.length_take]; rfl)) ?_; (with_reducible refine (sat_Clamp.calls a2 0 16777216 t149 _ A6.out).mono ?_); rintro e w13 ⟨rfl, hb⟩; refine ⟨_, rfl, ?_⟩; have n0_ := Aside0.mk (below_step (by repeat (first | (with_reducible first | exact HB.out | apply below_alloc | apply pw_below_drewN | apply below_drew1) | exact HB.out)) hb); clear HB; have HB := n0_; clear n0_; (try clear hb); (try clear hb2); (try clear hk); (try clear hi)) | ((with_reducible refine gate_callee (f := 62) rfl ?_); refine goesL_ (some 26) rfl rfl Try.func62 (by kernel_rfl) rfl #[.int .i64 (wrap64 (Int.tdiv (wrap64 (Int.tdiv (wrap64 (t147 * 1000000)) t148)) 1048576)), .int .i64 t149] rfl (by (try simp only [List.map_toArray, List.map_cons, List.map_nil]); first | done | rfl | (simp only [List.length_drop, List.length_take]; rfl)) ?_; (with_reducible refine (sat_Mul.calls k (wrap64 (Int.tdiv (wrap64 (Int.tdiv (wrap64 (t147 * 1000000)) t148)) 1048576)) t149 t150 _ A8.out).mono ?_); rintro e w14 ⟨rfl, hb⟩; refine ⟨_, rfl, ?_⟩; have n0_ := Aside0.mk (below_step (by repeat (first | (with_reducible first | exact HB.out | apply below_alloc | apply pw_below_drewN | apply below_drew1) | exact HB.out)) hb); clear HB; have HB := n0_; clear n0_; (try clear hb); (try clear hb2); (try clear hk); (try clear hi)) | ((with_reducible refine gate_callee (f := 61) rfl ?_); refine goesL_ (some 31) rfl rfl Try.func61 (by kernel_rfl) rfl #[.int .i64 t150, .int .i64 (wrap64 (Int.tdiv (wrap64 ((Int.tmod (wrap64 (Int.tdiv (wrap64 (t147 * 1000000)) t148)) 1048576) * t149)) 1048576))] rfl (by (try simp only [List.map_toArray, List.map_cons, List.map_nil]); first | done | rfl | (simp only [List.length_drop, List.length_take]; rfl)) ?_; (with_reducible refine (sat_Add.calls t150 (wrap64 (Int.tdiv (wrap64 ((Int.tmod (wrap64 (Int.tdiv (wrap64 (t147 * 1000000)) t148)) 1048576) * t149)) 1048576)) t151 _ A9.out).mono ?_); rintro e w15 ⟨rfl, hb⟩; refine ⟨_, rfl, ?_⟩; have n0_ := Aside0.mk (below_step (by repeat (first | (with_reducible first | exact HB.out | apply below_alloc | apply pw_below_drewN | apply below_drew1) | exact HB.out)) hb); clear HB; have HB := n0_; clear n0_; (try clear hb); (try clear hb2); (try clear hk); (try clear hi)) | ((with_reducible refine gate_callee (f := 54) rfl ?_); refine goesL_ (some 32) rfl rfl Try.func54 (by kernel_rfl) rfl #[.int .i64 t151, .int .i64 1, .int .i64 1099511627776] rfl (by (try simp only [List.map_toArray, List.map_cons, List.map_nil]); first | done | rfl | (simp only [List.length_drop, List.length_take]; rfl)) ?_; (with_reducible refine (sat_Clamp.calls t151 1 1099511627776 t152 _ A10.out).mono ?_); rintro e w16 ⟨rfl, hb⟩; refine ⟨_, rfl, ?_⟩; have n0_ := Aside0.mk (below_step (by repeat (first | (with_reducible first | exact HB.out | apply below_alloc | apply pw_below_drewN | apply below_drew1) | exact HB.out)) hb); clear HB; have HB := n0_; clear n0_; (try clear hb); (try clear hb2); (try clear hk); (try clear hi)))
    go_ret
    exact ⟨by first | rfl | (simp [errW_none, errW_some] <;> rfl) | (simp [*, errW_none, errW_some] <;> rfl), by repeat (first | (with_reducible first | exact HB.out | apply below_alloc | apply pw_below_drewN | apply below_drew1) | exact HB.out)⟩

/-! ### leatref23_keep: function 63 -/
def leatref23_keep.f (a0 : Int) : Option (Int) := some (mn (mx a0 1) 1099511627776)
set_option maxHeartbeats 8000000 in
set_option maxRecDepth 100000 in
theorem leatref23_keep.calls (a0 : Int) (r : Int) (w : World) (h : leatref23_keep.f a0 = some r) :
    Calls Try.prog 63 #[.int .i64 a0] w fun e w' => e = .returned (.int .i64 r) ∧ Below w.heap.size w w' := by
  have HB := Aside0.mk (Below.refl w.heap.size w)
  have H : (some (mn (mx a0 1) 1099511627776)) = some r := h
  clear h
  obtain ⟨ji2, hji2⟩ : ∃ j_ : Int, (mx a0 1) = j_ := ⟨_, rfl⟩
  replace H : (some (mn (ji2) 1099511627776)) = some r := by first | (rw [hji2] at H; exact H) | (simp only [hji2] at H ⊢; exact H)
  (try (have hji2l : 1 ≤ ji2 := by (rw [← hji2]; unfold mx; (repeat' split) <;> omega)))
  (try (have hji2m : 0 ≤ ji2 := by omega))
  have hji2_ : (if a0 < 1 then 1 else a0) = ji2 := hji2
  obtain ⟨ji3, hji3⟩ : ∃ j_ : Int, (mn (ji2) 1099511627776) = j_ := ⟨_, rfl⟩
  replace H : (some ji3) = some r := by first | (rw [hji3] at H; exact H) | (simp only [hji3] at H ⊢; exact H)
  have hji3_ : (if 1099511627776 < (ji2) then 1099511627776 else (ji2)) = ji3 := hji3
  obtain rfl := Option.some.inj H
  go_enter Try.func63, Try.ntmps63
  go_wp2
  go_ret
  exact ⟨by first | rfl | (simp [errW_none, errW_some] <;> rfl) | (simp only [← hji2, ← hji3]; first | rfl | (simp [errW_none, errW_some] <;> rfl)) | (simp [*, errW_none, errW_some] <;> rfl), by repeat (first | (with_reducible first | exact HB.out | apply below_alloc | apply pw_below_drewN | apply below_drew1) | exact HB.out)⟩

/-! ### leatref23_Rate: function 38 -/
def leatref23_Rate.f (a0 : Int) (a1 : Int) (a2 : Int) : Option (Int) := if (mn (mx a1 1) 1125899906842624) = 0 then (none) else ((leatref23_keep.f (wrap64 ((wrap64 ((wrap64 (Int.tdiv (((mn (mx a0 0) 1073741824) * 1000000) / (mn (mx a1 1) 1125899906842624)) 1048576)) * (mn (mx a2 0) 16777216))) + (wrap64 (Int.tdiv (wrap64 ((Int.tmod (((mn (mx a0 0) 1073741824) * 1000000) / (mn (mx a1 1) 1125899906842624)) 1048576) * (mn (mx a2 0) 16777216))) 1048576))))).bind fun t153 => (some t153))
set_option maxHeartbeats 8000000 in
set_option maxRecDepth 100000 in
theorem leatref23_Rate.calls (a0 : Int) (a1 : Int) (a2 : Int) (r : Int) (w : World) (h : leatref23_Rate.f a0 a1 a2 = some r) :
    Calls Try.prog 38 #[.int .i64 a0, .int .i64 a1, .int .i64 a2] w fun e w' => e = .returned (.int .i64 r) ∧ Below w.heap.size w w' := by
  have HB := Aside0.mk (Below.refl w.heap.size w)
  have H : (if (mn (mx a1 1) 1125899906842624) = 0 then (none) else ((leatref23_keep.f (wrap64 ((wrap64 ((wrap64 (Int.tdiv (((mn (mx a0 0) 1073741824) * 1000000) / (mn (mx a1 1) 1125899906842624)) 1048576)) * (mn (mx a2 0) 16777216))) + (wrap64 (Int.tdiv (wrap64 ((Int.tmod (((mn (mx a0 0) 1073741824) * 1000000) / (mn (mx a1 1) 1125899906842624)) 1048576) * (mn (mx a2 0) 16777216))) 1048576))))).bind fun t153 => (some t153))) = some r := h
  clear h
  obtain ⟨ji4, hji4⟩ : ∃ j_ : Int, (mx a0 0) = j_ := ⟨_, rfl⟩
  replace H : (if (mn (mx a1 1) 1125899906842624) = 0 then (none) else ((leatref23_keep.f (wrap64 ((wrap64 ((wrap64 (Int.tdiv (((mn (ji4) 1073741824) * 1000000) / (mn (mx a1 1) 1125899906842624)) 1048576)) * (mn (mx a2 0) 16777216))) + (wrap64 (Int.tdiv (wrap64 ((Int.tmod (((mn (ji4) 1073741824) * 1000000) / (mn (mx a1 1) 1125899906842624)) 1048576) * (mn (mx a2 0) 16777216))) 1048576))))).bind fun t153 => (some t153))) = some r := by first | (rw [hji4] at H; exact H) | (simp only [hji4] at H ⊢; exact H)
  (try (have hji4l : 0 ≤ ji4 := by (rw [← hji4]; unfold mx; (repeat' split) <;> omega)))
  (try (have hji4m : 0 ≤ ji4 := by omega))
  have hji4_ : (if a0 < 0 then 0 else a0) = ji4 := hji4
  obtain ⟨ji5, hji5⟩ : ∃ j_ : Int, (mn (ji4) 1073741824) = j_ := ⟨_, rfl⟩
  replace H : (if (mn (mx a1 1) 1125899906842624) = 0 then (none) else ((leatref23_keep.f (wrap64 ((wrap64 ((wrap64 (Int.tdiv (((ji5) * 1000000) / (mn (mx a1 1) 1125899906842624)) 1048576)) * (mn (mx a2 0) 16777216))) + (wrap64 (Int.tdiv (wrap64 ((Int.tmod (((ji5) * 1000000) / (mn (mx a1 1) 1125899906842624)) 1048576) * (mn (mx a2 0) 16777216))) 1048576))))).bind fun t153 => (some t153))) = some r := by first | (rw [hji5] at H; exact H) | (simp only [hji5] at H ⊢; exact H)
  (try (have hji5h : ji5 ≤ 1073741824 := by (rw [← hji5]; unfold mn; (repeat' split) <;> omega)))
  (try (have hji5g : ji5 ≤ 64 := by omega))
  (try (have hji5l : 0 ≤ ji5 := by (rw [← hji5]; unfold mn; (repeat' split) <;> omega)))
  (try (have hji5m : 0 ≤ ji5 := by omega))
  have hji5_ : (if 1073741824 < (ji4) then 1073741824 else (ji4)) = ji5 := hji5
  obtain ⟨ji6, hji6⟩ : ∃ j_ : Int, (mx a1 1) = j_ := ⟨_, rfl⟩
  replace H : (if (mn (ji6) 1125899906842624) = 0 then (none) else ((leatref23_keep.f (wrap64 ((wrap64 ((wrap64 (Int.tdiv (((ji5) * 1000000) / (mn (ji6) 1125899906842624)) 1048576)) * (mn (mx a2 0) 16777216))) + (wrap64 (Int.tdiv (wrap64 ((Int.tmod (((ji5) * 1000000) / (mn (ji6) 1125899906842624)) 1048576) * (mn (mx a2 0) 16777216))) 1048576))))).bind fun t153 => (some t153))) = some r := by first | (rw [hji6] at H; exact H) | (simp only [hji6] at H ⊢; exact H)
  (try (have hji6l : 1 ≤ ji6 := by (rw [← hji6]; unfold mx; (repeat' split) <;> omega)))
  (try (have hji6m : 0 ≤ ji6 := by omega))
  have hji6_ : (if a1 < 1 then 1 else a1) = ji6 := hji6
  obtain ⟨ji7, hji7⟩ : ∃ j_ : Int, (mn (ji6) 1125899906842624) = j_ := ⟨_, rfl⟩
  replace H : (if (ji7) = 0 then (none) else ((leatref23_keep.f (wrap64 ((wrap64 ((wrap64 (Int.tdiv (((ji5) * 1000000) / (ji7)) 1048576)) * (mn (mx a2 0) 16777216))) + (wrap64 (Int.tdiv (wrap64 ((Int.tmod (((ji5) * 1000000) / (ji7)) 1048576) * (mn (mx a2 0) 16777216))) 1048576))))).bind fun t153 => (some t153))) = some r := by first | (rw [hji7] at H; exact H) | (simp only [hji7] at H ⊢; exact H)
  (try (have hji7h : ji7 ≤ 1125899906842624 := by (rw [← hji7]; unfold mn; (repeat' split) <;> omega)))
  (try (have hji7g : ji7 ≤ 64 := by omega))
  (try (have hji7l : 1 ≤ ji7 := by (rw [← hji7]; unfold mn; (repeat' split) <;> omega)))
  (try (have hji7m : 0 ≤ ji7 := by omega))
  have hji7_ : (if 1125899906842624 < (ji6) then 1125899906842624 else (ji6)) = ji7 := hji7
  obtain ⟨ji8, hji8⟩ : ∃ j_ : Int, (mx a2 0) = j_ := ⟨_, rfl⟩
  replace H : (if (ji7) = 0 then (none) else ((leatref23_keep.f (wrap64 ((wrap64 ((wrap64 (Int.tdiv (((ji5) * 1000000) / (ji7)) 1048576)) * (mn (ji8) 16777216))) + (wrap64 (Int.tdiv (wrap64 ((Int.tmod (((ji5) * 1000000) / (ji7)) 1048576) * (mn (ji8) 16777216))) 1048576))))).bind fun t153 => (some t153))) = some r := by first | (rw [hji8] at H; exact H) | (simp only [hji8] at H ⊢; exact H)
  (try (have hji8l : 0 ≤ ji8 := by (rw [← hji8]; unfold mx; (repeat' split) <;> omega)))
  (try (have hji8m : 0 ≤ ji8 := by omega))
  have hji8_ : (if a2 < 0 then 0 else a2) = ji8 := hji8
  obtain ⟨ji9, hji9⟩ : ∃ j_ : Int, (mn (ji8) 16777216) = j_ := ⟨_, rfl⟩
  replace H : (if (ji7) = 0 then (none) else ((leatref23_keep.f (wrap64 ((wrap64 ((wrap64 (Int.tdiv (((ji5) * 1000000) / (ji7)) 1048576)) * (ji9))) + (wrap64 (Int.tdiv (wrap64 ((Int.tmod (((ji5) * 1000000) / (ji7)) 1048576) * (ji9))) 1048576))))).bind fun t153 => (some t153))) = some r := by first | (rw [hji9] at H; exact H) | (simp only [hji9] at H ⊢; exact H)
  (try (have hji9h : ji9 ≤ 16777216 := by (rw [← hji9]; unfold mn; (repeat' split) <;> omega)))
  (try (have hji9g : ji9 ≤ 64 := by omega))
  (try (have hji9l : 0 ≤ ji9 := by (rw [← hji9]; unfold mn; (repeat' split) <;> omega)))
  (try (have hji9m : 0 ≤ ji9 := by omega))
  have hji9_ : (if 16777216 < (ji8) then 16777216 else (ji8)) = ji9 := hji9
  by_cases c10 : (ji7) = 0
  · rw [if_pos c10] at H
    exact absurd H (by simp)
  · rw [if_neg c10] at H
    have c10b0 : ((ji7) == 0) = false := beq_eq_false_iff_ne.mpr c10
    have c10b1 : ((ji7) != 0) = true := bne_iff_ne.mpr c10
    replace H := Option.bind_eq_some_iff.mp H
    obtain ⟨t153, A110, H⟩ := H
    replace H : (some t153) = some r := H
    have A11 := Aside0.mk A110
    clear A110
    obtain rfl := Option.some.inj H
    go_enter Try.func38, Try.ntmps38
    go_wp2_with (first | ((with_reducible refine gate_callee (f := 63) rfl ?_); refine goesL_ (some 33) rfl rfl Try.func63 (by kernel_rfl) rfl #[.int .i64 (wrap64 ((wrap64 ((wrap64 (Int.tdiv (((ji5) * 1000000) / (ji7)) 1048576)) * (ji9))) + (wrap64 (Int.tdiv (wrap64 ((Int.tmod (((ji5) * 1000000) / (ji7)) 1048576) * (ji9))) 1048576))))] rfl (by (try simp only [List.map_toArray, List.map_cons, List.map_nil]); first | done | (simp only [hji5, hji7, hji9]; rfl) | rfl | (simp only [List.length_drop, List.length_take]; rfl)) ?_; (with_reducible refine (leatref23_keep.calls (wrap64 ((wrap64 ((wrap64 (Int.tdiv (((ji5) * 1000000) / (ji7)) 1048576)) * (ji9))) + (wrap64 (Int.tdiv (wrap64 ((Int.tmod (((ji5) * 1000000) / (ji7)) 1048576) * (ji9))) 1048576)))) t153 _ A11.out).mono ?_); rintro e w12 ⟨rfl, hb⟩; refine ⟨_, rfl, ?_⟩; have n0_ := Aside0.mk (below_step (by repeat (first | (with_reducible first | exact HB.out | apply below_alloc | apply pw_below_drewN | apply below_drew1) | exact HB.out)) hb); clear HB; have HB := n0_; clear n0_; (try clear hb); (try clear hb2); (try clear hk); (try clear hi)))
    go_ret
    exact ⟨by first | rfl | (simp [errW_none, errW_some] <;> rfl) | (simp only [← hji4, ← hji5, ← hji6, ← hji7, ← hji8, ← hji9]; first | rfl | (simp [errW_none, errW_some] <;> rfl)) | (simp [*, errW_none, errW_some] <;> rfl), by repeat (first | (with_reducible first | exact HB.out | apply below_alloc | apply pw_below_drewN | apply below_drew1) | exact HB.out)⟩

end Go.Proofs.Ythoeidcpemfmlaa.PPacerTells
