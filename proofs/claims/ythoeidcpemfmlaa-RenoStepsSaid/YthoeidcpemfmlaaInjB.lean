/- What the windows' and the buckets' keeping within their ends tells: by walking its text and its closure's. -/
import Derived.Test.YthoeidcpemfmlaaProg
import Derived.Test.YthoeidcpemfmlaaMine
import Derived.Lib.Hide
namespace Go.Proofs.Ythoeidcpemfmlaa.Inj
open Go.RowKit Go.Proofs.YthoeidcpemfmlaaW.PrintWords Go.Proofs.YthoeidcpemfmlaaW.PrintLast Go.Proofs.YthoeidcpemfmlaaW.PrintMore
set_option linter.unusedVariables false
set_option linter.unusedSimpArgs false
attribute [local go_sem] max2_int min2_int max_two min_two max_three min_three max_four min_four

set_option maxHeartbeats 1000000 in
/-- A number kept between two. -/
theorem clamp_calls (x lo hi : Int) (w : World) :
    Calls Try.prog 54 #[.int .i64 x, .int .i64 lo, .int .i64 hi] w fun e w' => e = .returned (.int .i64 (mx lo (mn x hi))) ∧ w = w' := by
  obtain ⟨y, hy⟩ : ∃ y, mn x hi = y := ⟨_, rfl⟩
  have hy_ : (if hi < x then hi else x) = y := hy
  obtain ⟨z, hz⟩ : ∃ z, mx lo y = z := ⟨_, rfl⟩
  have hz_ : (if lo < y then y else lo) = z := hz
  rw [hy, hz]
  clear hy hz
  go_enter Try.func54, Try.ntmps54
  go_wp2
  go_ret
  exact ⟨rfl, rfl⟩

set_option maxHeartbeats 1000000 in
/-- The closure of reno.Within: what is pointed at is kept between two. -/
theorem keep57_calls (a : Addr) (x lo hi b : Int) (w : World) (hc : w.cell? a = some (.int .i64 x)) (hf : w.frozen? a = false) (hb : mx lo (mn x hi) = b) :
    Calls Try.prog 57 #[.pointer (some a), .int .i64 lo, .int .i64 hi] w fun e w' => e = .returned (.tuple #[]) ∧ w' = w.setCell a (.int .i64 b) := by
  have HC := clamp_calls x lo hi
  rw [hb] at HC
  clear hb
  go_enter Try.func57, Try.ntmps57
  go_wp2_with fail
  refine (HC _).mono ?_
  rintro e w' ⟨rfl, rfl⟩
  go_wp2
  go_end0
  exact ⟨rfl, rfl⟩

set_option maxHeartbeats 1000000 in
/-- The closure of pacer.within. -/
theorem keep77_calls (a : Addr) (x lo hi b : Int) (w : World) (hc : w.cell? a = some (.int .i64 x)) (hf : w.frozen? a = false) (hb : mx lo (mn x hi) = b) :
    Calls Try.prog 77 #[.pointer (some a), .int .i64 lo, .int .i64 hi] w fun e w' => e = .returned (.tuple #[]) ∧ w' = w.setCell a (.int .i64 b) := by
  have HC := clamp_calls x lo hi
  rw [hb] at HC
  clear hb
  go_enter Try.func77, Try.ntmps77
  go_wp2_with fail
  refine (HC _).mono ?_
  rintro e w' ⟨rfl, rfl⟩
  go_wp2
  go_end0
  exact ⟨rfl, rfl⟩

set_option maxHeartbeats 1000000 in
/-- A segment's size that may be. -/
theorem size_calls (x : Int) (w : World) :
    Calls Try.prog 53 #[.int .i64 x] w fun e w' => e = .returned (.int .i64 (mx 1 (mn x 65536))) ∧ w = w' := by
  have HC := clamp_calls x 1 65536
  generalize mx 1 (mn x 65536) = b at *
  go_enter Try.func53, Try.ntmps53
  go_wp2_with fail
  refine (HC _).mono ?_
  rintro e w' ⟨rfl, rfl⟩
  go_wp2
  go_ret
  exact ⟨rfl, rfl⟩

/-- What reno.Within tells. -/
def reno_Within.f (c t y mss : Int) : Option (Int × Int × Int) := some (mx (mx 1 (mn mss 65536)) (mn c 1073741824), mx 0 (mn t 1073741824), mx 0 (mn y 1125899906842623))

set_option maxHeartbeats 1000000 in
theorem reno_Within.calls (a0_0 : Int) (a0_1 : Int) (a0_2 : Int) (a1 : Int) (r1 : Int) (r2 : Int) (r3 : Int) (w : World) (h : reno_Within.f a0_0 a0_1 a0_2 a1 = some (r1, r2, r3)) :
    Calls Try.prog 17 #[.agg #[.int .i64 a0_0, .int .i64 a0_1, .int .i64 a0_2], .int .i64 a1] w fun e w' => e = .returned (.agg #[.int .i64 r1, .int .i64 r2, .int .i64 r3]) ∧ Below w.heap.size w w' := by
  have hu := Try.underlying23
  unfold reno_Within.f at h
  simp only [Option.some.injEq, Prod.mk.injEq] at h
  obtain ⟨h1, h2, h3⟩ := h
  have HS := size_calls a1
  generalize mx 1 (mn a1 65536) = s at *
  have H1 := Lib.hid h1
  have H2 := Lib.hid h2
  have H3 := Lib.hid h3
  clear h1 h2 h3
  go_enter Try.func17, Try.ntmps17
  go_wp2_with fail
  refine (HS _).mono ?_
  rintro e w' ⟨rfl, rfl⟩
  go_wp2_with fail
  refine (keep57_calls _ a0_0 s 1073741824 r1 _ (by go_simp) (by go_simp) H1.out).mono ?_
  rintro e w' ⟨rfl, rfl⟩
  go_wp2_with fail
  refine (keep57_calls _ a0_1 0 1073741824 r2 _ (by go_simp) (by go_simp) H2.out).mono ?_
  rintro e w' ⟨rfl, rfl⟩
  go_wp2_with fail
  refine (keep57_calls _ a0_2 0 1125899906842623 r3 _ (by go_simp) (by go_simp) H3.out).mono ?_
  rintro e w' ⟨rfl, rfl⟩
  go_wp2
  refine bodyPost_ret (v := .agg #[.int .i64 r1, .int .i64 r2, .int .i64 r3]) (by simp [results, Try.results17, go_sem]) rfl ⟨rfl, ?_⟩
  repeat (first | exact Below.refl _ _ | apply below_alloc | apply pw_below_drewN | apply below_drew1 | refine Below.setCell ?_ (by simp) _)

/-- What pacer.within tells. -/
def pacer_within.f (r b l t : Int) : Option (Int × Int × Int × Int) :=
  some (mx 1 (mn r 1099511627776), mx 1 (mn b 1099511627776), mx (-2305843009213693952) (mn l (wrap64 (mx 1 (mn b 1099511627776) * 1000000))), mx 0 (mn t 1125899906842624))

set_option maxHeartbeats 1000000 in
theorem pacer_within.calls (a0_0 : Int) (a0_1 : Int) (a0_2 : Int) (a0_3 : Int) (r1 : Int) (r2 : Int) (r3 : Int) (r4 : Int) (w : World) (h : pacer_within.f a0_0 a0_1 a0_2 a0_3 = some (r1, r2, r3, r4)) :
    Calls Try.prog 60 #[.agg #[.int .i64 a0_0, .int .i64 a0_1, .int .i64 a0_2, .int .i64 a0_3]] w fun e w' => e = .returned (.agg #[.int .i64 r1, .int .i64 r2, .int .i64 r3, .int .i64 r4]) ∧ Below w.heap.size w w' := by
  have hu := Try.underlying39
  unfold pacer_within.f at h
  simp only [Option.some.injEq, Prod.mk.injEq] at h
  obtain ⟨h1, h2, h3, h4⟩ := h
  rw [h2] at h3
  have H1 := Lib.hid h1
  have H2 := Lib.hid h2
  have H3 := Lib.hid h3
  have H4 := Lib.hid h4
  clear h1 h2 h3 h4
  go_enter Try.func60, Try.ntmps60
  go_wp2_with fail
  refine (keep77_calls _ a0_0 1 1099511627776 r1 _ (by go_simp) (by go_simp) H1.out).mono ?_
  rintro e w' ⟨rfl, rfl⟩
  go_wp2_with fail
  refine (keep77_calls _ a0_1 1 1099511627776 r2 _ (by go_simp) (by go_simp) H2.out).mono ?_
  rintro e w' ⟨rfl, rfl⟩
  go_wp2_with fail
  refine (keep77_calls _ a0_2 (-2305843009213693952) (wrap64 (r2 * 1000000)) r3 _ (by go_simp) (by go_simp) H3.out).mono ?_
  rintro e w' ⟨rfl, rfl⟩
  go_wp2_with fail
  refine (keep77_calls _ a0_3 0 1125899906842624 r4 _ (by go_simp) (by go_simp) H4.out).mono ?_
  rintro e w' ⟨rfl, rfl⟩
  go_wp2
  refine bodyPost_ret (v := .agg #[.int .i64 r1, .int .i64 r2, .int .i64 r3, .int .i64 r4]) (by simp [results, Try.results60, go_sem]) rfl ⟨rfl, ?_⟩
  repeat (first | exact Below.refl _ _ | apply below_alloc | apply pw_below_drewN | apply below_drew1 | refine Below.setCell ?_ (by simp) _)

end Go.Proofs.Ythoeidcpemfmlaa.Inj
