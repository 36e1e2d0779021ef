/- What count.Take does: a packet is counted; by walking its text and its closure's. -/
import Derived.Test.YtdfbnbhhjhfdaaaPSatx1
import Derived.Test.YtdfbnbhhjhfdaaaMine
import Derived.Lib.Hide
namespace Go.Proofs.Ytdfbnbhhjhfdaaa.Inj
open Go.RowKit Go.Proofs.YtdfbnbhhjhfdaaaW.PrintWords Go.Proofs.YtdfbnbhhjhfdaaaW.PrintLast Go.Proofs.YtdfbnbhhjhfdaaaW.PrintMore
set_option linter.unusedVariables false
set_option linter.unusedSimpArgs false

set_option maxHeartbeats 1000000 in
/-- A sum: the world stays. -/
theorem add_calls (x y r : Int) (w : World) (h : PSat.sat_Add.f x y = some r) :
    Calls Try.prog 24 #[.int .i64 x, .int .i64 y] w fun e w' => e = .returned (.int .i64 r) ∧ w = w' := by
  unfold PSat.sat_Add.f at h
  by_cases c : (Go.bits .and .i64 (Go.bits .xor .i64 x (wrap64 (x + y))) (Go.bits .xor .i64 y (wrap64 (x + y)))) < 0
  · rw [if_pos c] at h
    have c1 := decide_eq_true c
    clear c
    by_cases d : x < 0
    · have h2 : PSat.sat_end.f (decide (x < 0)) = some (-9223372036854775808) := by rw [decide_eq_true d]; rfl
      rw [h2] at h
      obtain rfl := Option.some.inj h
      have d1 := decide_eq_true d
      clear d h2 h
      go_enter Try.func24, Try.ntmps24
      go_wp2
      go_ret
      exact ⟨rfl, rfl⟩
    · have h2 : PSat.sat_end.f (decide (x < 0)) = some 9223372036854775807 := by rw [decide_eq_false d]; rfl
      rw [h2] at h
      obtain rfl := Option.some.inj h
      have d1 := decide_eq_false d
      clear d h2 h
      go_enter Try.func24, Try.ntmps24
      go_wp2
      go_ret
      exact ⟨rfl, rfl⟩
  · rw [if_neg c] at h
    have c1 := decide_eq_false c
    clear c
    obtain rfl := Option.some.inj h
    clear h
    go_enter Try.func24, Try.ntmps24
    go_wp2
    go_ret
    exact ⟨rfl, rfl⟩

set_option maxHeartbeats 1000000 in
/-- The closure: what is pointed at rises. -/
theorem rise_calls (a : Addr) (x y r : Int) (w : World) (hc : w.cell? a = some (.int .i64 x)) (hf : w.frozen? a = false) (h : PSat.sat_Add.f x y = some r) :
    Calls Try.prog 60 #[.pointer (some a), .int .i64 y] w fun e w' => e = .returned (.tuple #[]) ∧ w' = w.setCell a (.int .i64 r) := by
  go_enter Try.func60, Try.ntmps60
  go_wp2_with fail
  refine (add_calls x y r _ h).mono ?_
  rintro e w' ⟨rfl, rfl⟩
  go_wp2
  go_end0
  exact ⟨rfl, rfl⟩

attribute [local go_sem] max2_int min2_int max_two min_two max_three min_three max_four min_four
set_option maxHeartbeats 1000000 in
/-- A number kept between two. -/
theorem clamp_calls (x lo hi : Int) (w : World) :
    Calls Try.prog 20 #[.int .i64 x, .int .i64 lo, .int .i64 hi] w fun e w' => e = .returned (.int .i64 (mx lo (mn x hi))) ∧ w = w' := by
  obtain ⟨y, hy⟩ : ∃ y, mn x hi = y := ⟨_, rfl⟩
  have hy_ : (if hi < x then hi else x) = y := hy
  obtain ⟨z, hz⟩ : ∃ z, mx lo y = z := ⟨_, rfl⟩
  have hz_ : (if lo < y then y else lo) = z := hz
  rw [hy, hz]
  clear hy hz
  go_enter Try.func20, Try.ntmps20
  go_wp2
  go_ret
  exact ⟨rfl, rfl⟩

/-- What count.Take tells. -/
def count_Take.f (c0 c1 c2 c3 code bytes : Int) : Option (Int × Int × Int × Int) :=
    if code = 3 then ((PSat.sat_Add.f c0 1).bind fun x => ((PSat.sat_Add.f c1 (mx 0 (mn bytes 65536))).bind fun y => some (x, y, c2, c3)))
    else if code = 2 then ((PSat.sat_Add.f c2 (mx 0 (mn bytes 65536))).bind fun x => some (c0, c1, x, c3))
    else if code = 1 then ((PSat.sat_Add.f c3 (mx 0 (mn bytes 65536))).bind fun x => some (c0, c1, c2, x))
    else some (c0, c1, c2, c3)

set_option maxHeartbeats 1000000 in
theorem take_three (a0_0 a0_1 a0_2 a0_3 a2 x y : Int) (w : World) (hx : PSat.sat_Add.f a0_0 1 = some x) (hy : PSat.sat_Add.f a0_1 (mx 0 (mn a2 65536)) = some y) :
    Calls Try.prog 34 #[.agg #[.int .i64 a0_0, .int .i64 a0_1, .int .i64 a0_2, .int .i64 a0_3], .int .i64 3, .int .i64 a2] w fun e w' => e = .returned (.agg #[.int .i64 x, .int .i64 y, .int .i64 a0_2, .int .i64 a0_3]) ∧ Below w.heap.size w w' := by
  have hu := Try.underlying33
  have HC := clamp_calls a2 0 65536
  generalize mx 0 (mn a2 65536) = b at *
  have HX := Lib.hid hx
  have HY := Lib.hid hy
  clear hx hy
  go_enter Try.func34, Try.ntmps34
  go_wp2_with fail
  refine (HC _).mono ?_
  rintro e w' ⟨rfl, rfl⟩
  go_wp2_with fail
  refine (rise_calls _ a0_0 1 x _ (by go_simp) (by go_simp) HX.out).mono ?_
  rintro e w' ⟨rfl, rfl⟩
  go_wp2_with fail
  refine (rise_calls _ a0_1 b y _ (by go_simp) (by go_simp) HY.out).mono ?_
  rintro e w' ⟨rfl, rfl⟩
  go_wp2
  refine bodyPost_ret (v := .agg #[.int .i64 x, .int .i64 y, .int .i64 a0_2, .int .i64 a0_3]) (by simp [results, Try.results34, go_sem]) rfl ⟨rfl, ?_⟩
  repeat (first | exact Below.refl _ _ | apply below_alloc | apply pw_below_drewN | apply below_drew1 | refine Below.setCell ?_ (by simp) _)

set_option maxHeartbeats 1000000 in
theorem take_two (a0_0 a0_1 a0_2 a0_3 a2 x : Int) (w : World) (hx : PSat.sat_Add.f a0_2 (mx 0 (mn a2 65536)) = some x) :
    Calls Try.prog 34 #[.agg #[.int .i64 a0_0, .int .i64 a0_1, .int .i64 a0_2, .int .i64 a0_3], .int .i64 2, .int .i64 a2] w fun e w' => e = .returned (.agg #[.int .i64 a0_0, .int .i64 a0_1, .int .i64 x, .int .i64 a0_3]) ∧ Below w.heap.size w w' := by
  have hu := Try.underlying33
  have HC := clamp_calls a2 0 65536
  generalize mx 0 (mn a2 65536) = b at *
  have HX := Lib.hid hx
  clear hx
  go_enter Try.func34, Try.ntmps34
  go_wp2_with fail
  refine (HC _).mono ?_
  rintro e w' ⟨rfl, rfl⟩
  go_wp2_with fail
  refine (rise_calls _ a0_2 b x _ (by go_simp) (by go_simp) HX.out).mono ?_
  rintro e w' ⟨rfl, rfl⟩
  go_wp2
  refine bodyPost_ret (v := .agg #[.int .i64 a0_0, .int .i64 a0_1, .int .i64 x, .int .i64 a0_3]) (by simp [results, Try.results34, go_sem]) rfl ⟨rfl, ?_⟩
  repeat (first | exact Below.refl _ _ | apply below_alloc | apply pw_below_drewN | apply below_drew1 | refine Below.setCell ?_ (by simp) _)

set_option maxHeartbeats 1000000 in
theorem take_one (a0_0 a0_1 a0_2 a0_3 a2 x : Int) (w : World) (hx : PSat.sat_Add.f a0_3 (mx 0 (mn a2 65536)) = some x) :
    Calls Try.prog 34 #[.agg #[.int .i64 a0_0, .int .i64 a0_1, .int .i64 a0_2, .int .i64 a0_3], .int .i64 1, .int .i64 a2] w fun e w' => e = .returned (.agg #[.int .i64 a0_0, .int .i64 a0_1, .int .i64 a0_2, .int .i64 x]) ∧ Below w.heap.size w w' := by
  have hu := Try.underlying33
  have HC := clamp_calls a2 0 65536
  generalize mx 0 (mn a2 65536) = b at *
  have HX := Lib.hid hx
  clear hx
  go_enter Try.func34, Try.ntmps34
  go_wp2_with fail
  refine (HC _).mono ?_
  rintro e w' ⟨rfl, rfl⟩
  go_wp2_with fail
  refine (rise_calls _ a0_3 b x _ (by go_simp) (by go_simp) HX.out).mono ?_
  rintro e w' ⟨rfl, rfl⟩
  go_wp2
  refine bodyPost_ret (v := .agg #[.int .i64 a0_0, .int .i64 a0_1, .int .i64 a0_2, .int .i64 x]) (by simp [results, Try.results34, go_sem]) rfl ⟨rfl, ?_⟩
  repeat (first | exact Below.refl _ _ | apply below_alloc | apply pw_below_drewN | apply below_drew1 | refine Below.setCell ?_ (by simp) _)

set_option maxHeartbeats 1000000 in
theorem take_none (a0_0 a0_1 a0_2 a0_3 a1 a2 : Int) (w : World)  (h3 : ¬ a1 = 3) (h2 : ¬ a1 = 2) (h1 : ¬ a1 = 1) :
    Calls Try.prog 34 #[.agg #[.int .i64 a0_0, .int .i64 a0_1, .int .i64 a0_2, .int .i64 a0_3], .int .i64 a1, .int .i64 a2] w fun e w' => e = .returned (.agg #[.int .i64 a0_0, .int .i64 a0_1, .int .i64 a0_2, .int .i64 a0_3]) ∧ Below w.heap.size w w' := by
  have hu := Try.underlying33
  have HC := clamp_calls a2 0 65536
  generalize mx 0 (mn a2 65536) = b at *
  have e3 : (a1 == 3) = false := by simpa using h3
  have e2 : (a1 == 2) = false := by simpa using h2
  have e1 : (a1 == 1) = false := by simpa using h1
  clear h1 h2 h3
  go_enter Try.func34, Try.ntmps34
  go_wp2_with fail
  refine (HC _).mono ?_
  rintro e w' ⟨rfl, rfl⟩
  go_wp2
  refine bodyPost_ret (v := .agg #[.int .i64 a0_0, .int .i64 a0_1, .int .i64 a0_2, .int .i64 a0_3]) (by simp [results, Try.results34, go_sem]) rfl ⟨rfl, ?_⟩
  repeat (first | exact Below.refl _ _ | apply below_alloc | apply pw_below_drewN | apply below_drew1 | refine Below.setCell ?_ (by simp) _)

theorem count_Take.calls (a0_0 : Int) (a0_1 : Int) (a0_2 : Int) (a0_3 : Int) (a1 : Int) (a2 : Int) (r1 : Int) (r2 : Int) (r3 : Int) (r4 : Int) (w : World) (h : count_Take.f a0_0 a0_1 a0_2 a0_3 a1 a2 = some (r1, r2, r3, r4)) :
    Calls Try.prog 34 #[.agg #[.int .i64 a0_0, .int .i64 a0_1, .int .i64 a0_2, .int .i64 a0_3], .int .i64 a1, .int .i64 a2] w fun e w' => e = .returned (.agg #[.int .i64 r1, .int .i64 r2, .int .i64 r3, .int .i64 r4]) ∧ Below w.heap.size w w' := by
  unfold count_Take.f at h
  by_cases h3 : a1 = 3
  · subst h3
    rw [if_pos rfl] at h
    obtain ⟨x, hx, h⟩ := Option.bind_eq_some_iff.mp h
    obtain ⟨y, hy, h⟩ := Option.bind_eq_some_iff.mp h
    simp only [Option.some.injEq, Prod.mk.injEq] at h
    obtain ⟨rfl, rfl, rfl, rfl⟩ := h
    exact take_three _ _ _ _ _ _ _ w hx hy
  rw [if_neg h3] at h
  by_cases h2 : a1 = 2
  · subst h2
    rw [if_pos rfl] at h
    obtain ⟨x, hx, h⟩ := Option.bind_eq_some_iff.mp h
    simp only [Option.some.injEq, Prod.mk.injEq] at h
    obtain ⟨rfl, rfl, rfl, rfl⟩ := h
    exact take_two _ _ _ _ _ _ w hx
  rw [if_neg h2] at h
  by_cases h1 : a1 = 1
  · subst h1
    rw [if_pos rfl] at h
    obtain ⟨x, hx, h⟩ := Option.bind_eq_some_iff.mp h
    simp only [Option.some.injEq, Prod.mk.injEq] at h
    obtain ⟨rfl, rfl, rfl, rfl⟩ := h
    exact take_one _ _ _ _ _ _ w hx
  rw [if_neg h1] at h
  simp only [Option.some.injEq, Prod.mk.injEq] at h
  obtain ⟨rfl, rfl, rfl, rfl⟩ := h
  exact take_none _ _ _ _ _ _ w h3 h2 h1

end Go.Proofs.Ytdfbnbhhjhfdaaa.Inj
