/- leatlaw06.HeapPlays. Walked; printed by a small program of this session. Conditions: none. -/
import Derived.Test.YthpinlcfcgnilaaProg
import Derived.KernelRfl
import Derived.Test.YthpinlcfcgnilaaYH1
import Derived.Test.YthpinlcfcgnilaaYH4
import Derived.Test.YthpinlcfcgnilaaYH5
import Derived.Test.YthpinlcfcgnilaaYH7
import Derived.Test.YthpinlcfcgnilaaYH8
import Derived.Test.YthpinlcfcgnilaaYH9a
namespace Go.Proofs.YthpinlcfcgnilaaX
open Go.RowKit
open Go.Proofs.YthpinlcfcgnilaaW.PrintLast
set_option linter.unusedVariables false
set_option linter.unusedSimpArgs false
set_option maxRecDepth 100000

set_option maxHeartbeats 8000000 in
theorem plays_mid {G G2 : Mem} {w : World} (J2 : S → List (Nat × Row) → Mem → Prop) {C_ X_ A : Option Addr} {c1_ n1_ cx_ i_ c : Nat} {l1_ : List Item} {q_ : Int} {xs_ : List Ev} {ys : List Op5} (hJ2 : ∀ (m' : Nat) (s : S) (R : List (Nat × Row)) (G' : Mem), (fun m s R' G' => ∃ (C_ : Option Addr) (c1_ n1_ : Nat) (l1_ : List Item) (q_ : Int) (X_ : Option Addr) (cx_ : Nat) (xs_ : List Ev) (i_ : Nat), s = ⟨110, [(3, .own 700 0), (4, VL X_ xs_.length cx_), (15, VL A ys.length c), (16, I6 (ys.length : Int)), (17, I6 (i_ : Int))], [(700, ⟨87, [VL C_ n1_ c1_, I7 q_]⟩)]⟩ ∧ R' = [(600, RR 89 5 C_ n1_ c1_ (l1_.flatMap itC))] ∧ Ge G w.heap.size G' ∧ ((i_ ≤ ys.length ∧ i_ ≤ 60) ∧ l1_.length = n1_ ∧ Plays l1_ q_ xs_ ∧ (0 ≤ q_ ∧ q_ ≤ (i_ : Int) ∧ (n1_ : Int) ≤ i_) ∧ xs_.length ≤ cx_ ∧ cx_ ≤ maxLen ∧ rowAt evD G' X_ xs_) ∧ m = (ys.length - i_)) m' s R G' → m' < ys.length - i_ → J2 s R G') (hle : ys.length ≤ c) (hmc : c ≤ maxLen) (hi_ : i_ ≤ ys.length) (h90 : (i_ : Int) < ((ys.length : Nat) : Int)) (h94 : ¬ ((i_ : Int) ≥ 60)) (hr : rowAt opD G2 A ys) (hG2 : Ge G w.heap.size G2) (hi60_ : i_ ≤ 60) (hln1_ : l1_.length = n1_) (hP_ : Plays l1_ q_ xs_) (hq0_ : 0 ≤ q_) (hq1_ : q_ ≤ (i_ : Int)) (hn1_ : (n1_ : Int) ≤ i_) (hlx_ : xs_.length ≤ cx_) (hmx_ : cx_ ≤ maxLen) (hrx_ : rowAt evD G2 X_ xs_) (hpl_ : xs_.length = l1_.length) (hh1_ : HeapFrom l1_ 0) : ∀ s2_ R2_ G2_, (fun s2_ R2_ G2_ => ∃ (C9_ : Option Addr) (c19_ n19_ : Nat) (l19_ : List Item) (q9_ : Int) (X9_ : Option Addr) (cx9_ : Nat) (xs9_ : List Ev), s2_ = ⟨110, [(3, .own 700 0), (4, VL X9_ xs9_.length cx9_), (15, VL A ys.length c), (16, I6 (ys.length : Int)), (17, I6 (i_ : Int))], [(700, ⟨87, [VL C9_ n19_ c19_, I7 q9_]⟩)]⟩ ∧ R2_ = [(600, RR 89 5 C9_ n19_ c19_ (l19_.flatMap itC))] ∧ Ge G2 w.heap.size G2_ ∧ (l19_.length = n19_ ∧ Plays l19_ q9_ xs9_ ∧ (0 ≤ q9_ ∧ q9_ ≤ (i_ : Int) + 1 ∧ (n19_ : Int) ≤ (i_ : Int) + 1) ∧ xs9_.length ≤ cx9_ ∧ cx9_ ≤ maxLen ∧ rowAt evD G2_ X9_ xs9_)) s2_ R2_ G2_ → X (CtxG Try.prog Try.f7 G w (fun _ v rows => v = .bool true ∧ rows = [])) (Qc B7 31335) [.blk 1, Qs B7 1959, .loop J2, .blk 0, Qs B7 31] s2_ R2_ G2_ := by
 simp only [maxLen] at hmx_ hmc
 as_aux_lemma =>
  rintro s2_ R2_ G95 ⟨C9_, c19_, n19_, l19_, q9_, X9_, cx9_, xs9_, rfl, rfl, hG95, hF_⟩
  replace hr := hr.mono hG95.le
  obtain ⟨hln19_, hP9_, ⟨hq09_, hq19_, hn19_⟩, hlx9_, hmx9_, hrx9_⟩ := hF_
  have hpl9_ := plays_len hP9_
  have hh19_ := plays_heap hP9_
  simp only [maxLen] at hmx9_
  refine Rn 3 (Qo B7 62670 1) [Qs B7 62671, .blk 1, Qs B7 1959, .loop J2, .blk 0, Qs B7 31] ⟨110, [(3, .own 700 0), (4, VL X9_ xs9_.length cx9_), (15, VL A ys.length c), (16, I6 (ys.length : Int)), (17, I6 (i_ : Int)), (72, .own 700 0)], [(700, ⟨87, [VL C9_ n19_ c19_, I7 q9_]⟩)]⟩ ?_
  refine X.inline (f := 32) (l := [.own 700 0]) (fn := Try.f32) (c := B32) (by kernel_rfl) (by kernel_rfl) Try.func32 (by kernel_rfl) ?_
  intro Q96 M96 hM96 hQ96 fin96
  refine Rn 10 (Qo B32 12 1) [Qs B32 13, Qs B32 7] ⟨15, [(0, .own 1700 0), (2, .own 2 0), (3, VB false), (4, .own 1700 0)], [(2, ⟨27, [I6 0, I6 0, I6 0, I6 0]⟩), (1700, ⟨87, [VL C9_ n19_ c19_, I7 q9_]⟩)]⟩ ?_
  refine X.inline (f := 17) (l := [.own 1700 0]) (fn := Try.f17) (c := B17) (by kernel_rfl) (by kernel_rfl) Try.func17 (by kernel_rfl) ?_
  intro Q97 M97 hM97 hQ97 fin97
  refine Rn 9 (Qo B17 12 1) [Qs B17 13, Qs B17 7] ⟨10, [(0, .own 2700 0), (2, I6 0), (3, .own 2700 0)], [(1002, ⟨27, [I6 0, I6 0, I6 0, I6 0]⟩), (2700, ⟨87, [VL C9_ n19_ c19_, I7 q9_]⟩)]⟩ ?_
  refine X.eqOwnNil (t := 23) (t' := 23) (e := 87) (b := 2700) (off := 0) (x := .tmp 3) (y := .const (.pointer none)) (by kernel_rfl) (fun g => by kernel_rfl) (by kernel_rfl) (by kernel_rfl) (by kernel_rfl) (by kernel_rfl) ?_
  refine Rn 16 (.ex .ret) [] ⟨10, [(2, I6 ((n19_ : Nat) : Int))], [(1002, ⟨27, [I6 0, I6 0, I6 0, I6 0]⟩), (2700, ⟨87, [VL C9_ n19_ c19_, I7 q9_]⟩)]⟩ ?_
  refine fin97 _ _ _ _ [N6 ((n19_ : Nat) : Int)] [(2, ⟨27, [I6 0, I6 0, I6 0, I6 0]⟩), (1700, ⟨87, [VL C9_ n19_ c19_, I7 q9_]⟩)] (.inl rfl) (by kernel_rfl) (by kernel_rfl) ?_
  refine Rn 3 (Qc B32 13) [Qs B32 7] ⟨15, [(0, .own 1700 0), (2, .own 2 0), (3, VB false), (6, VB (((n19_ : Nat) : Int) == 0))], [(2, ⟨27, [I6 0, I6 0, I6 0, I6 0]⟩), (1700, ⟨87, [VL C9_ n19_ c19_, I7 q9_]⟩)]⟩ ?_
  refine X.split 6 rfl (fun h98 => ?_) (fun h98 => ?_)
  ·
   replace h98 : ((n19_ : Nat) : Int) = 0 := by simpa using h98
   refine Rn 10 (.ex .ret) [] ⟨15, [(2, .own 2 0), (3, VB false)], [(2, ⟨27, [I6 0, I6 0, I6 0, I6 0]⟩), (1700, ⟨87, [VL C9_ n19_ c19_, I7 q9_]⟩)]⟩ ?_
   refine fin96 _ _ _ _ [.agg #[N6 0, N6 0, N6 0, N6 0], .bool false] [(700, ⟨87, [VL C9_ n19_ c19_, I7 q9_]⟩)] (.inl rfl) (by kernel_rfl) (by kernel_rfl) ?_
   refine Rn 11 (Qo B7 125342 1) [Qs B7 125343, .blk 1, Qs B7 1959, .loop J2, .blk 0, Qs B7 31] ⟨110, [(3, .own 700 0), (4, VL X9_ xs9_.length cx9_), (10, .own 10 0), (11, VB false), (15, VL A ys.length c), (16, I6 (ys.length : Int)), (17, I6 (i_ : Int)), (76, .own 700 0)], [(10, ⟨27, [I6 0, I6 0, I6 0, I6 0]⟩), (700, ⟨87, [VL C9_ n19_ c19_, I7 q9_]⟩)]⟩ ?_
   refine X.inline (f := 17) (l := [.own 700 0]) (fn := Try.f17) (c := B17) (by kernel_rfl) (by kernel_rfl) Try.func17 (by kernel_rfl) ?_
   intro Q99 M99 hM99 hQ99 fin99
   refine Rn 9 (Qo B17 12 1) [Qs B17 13, Qs B17 7] ⟨10, [(0, .own 1700 0), (2, I6 0), (3, .own 1700 0)], [(1010, ⟨27, [I6 0, I6 0, I6 0, I6 0]⟩), (1700, ⟨87, [VL C9_ n19_ c19_, I7 q9_]⟩)]⟩ ?_
   refine X.eqOwnNil (t := 23) (t' := 23) (e := 87) (b := 1700) (off := 0) (x := .tmp 3) (y := .const (.pointer none)) (by kernel_rfl) (fun g => by kernel_rfl) (by kernel_rfl) (by kernel_rfl) (by kernel_rfl) (by kernel_rfl) ?_
   refine Rn 16 (.ex .ret) [] ⟨10, [(2, I6 ((n19_ : Nat) : Int))], [(1010, ⟨27, [I6 0, I6 0, I6 0, I6 0]⟩), (1700, ⟨87, [VL C9_ n19_ c19_, I7 q9_]⟩)]⟩ ?_
   refine fin99 _ _ _ _ [N6 ((n19_ : Nat) : Int)] [(10, ⟨27, [I6 0, I6 0, I6 0, I6 0]⟩), (700, ⟨87, [VL C9_ n19_ c19_, I7 q9_]⟩)] (.inl rfl) (by kernel_rfl) (by kernel_rfl) ?_
   refine Rn 4 (Qo B7 125342 6) [Qs B7 125343, .blk 1, Qs B7 1959, .loop J2, .blk 0, Qs B7 31] ⟨110, [(3, .own 700 0), (4, VL X9_ xs9_.length cx9_), (10, .own 10 0), (11, VB false), (15, VL A ys.length c), (16, I6 (ys.length : Int)), (17, I6 (i_ : Int)), (81, VB (((n19_ : Nat) : Int) != (xs9_.length : Int)))], [(10, ⟨27, [I6 0, I6 0, I6 0, I6 0]⟩), (700, ⟨87, [VL C9_ n19_ c19_, I7 q9_]⟩)]⟩ ?_
   refine X.isFalse 81 rfl (by simp only [bne_eq_false_iff_eq]; omega) ?_
   refine Rn 3 (Qo B7 125342 9) [Qs B7 125343, .blk 1, Qs B7 1959, .loop J2, .blk 0, Qs B7 31] ⟨110, [(3, .own 700 0), (4, VL X9_ xs9_.length cx9_), (15, VL A ys.length c), (16, I6 (ys.length : Int)), (17, I6 (i_ : Int)), (81, VB false), (82, .v (.agg #[N6 0, N6 0, N6 0, N6 0])), (83, VB false), (84, VL X9_ xs9_.length cx9_)], [(700, ⟨87, [VL C9_ n19_ c19_, I7 q9_]⟩)]⟩ ?_
   refine Cg 27 [.agg #[N6 0, N6 0, N6 0, N6 0], .bool false, .slice X9_ xs9_.length cx9_] 0 (firstNil_ok X9_ cx9_ xs9_ (by omega) _) ?_
   rintro v100 G100 rows100 hG100 ⟨rfl, rfl⟩
   replace hr := hr.mono hG100.le
   replace hrx9_ := hrx9_.mono hG100.le
   refine Rn 10 (Qo B7 1959 1) [.loop J2, .blk 0, Qs B7 31] ⟨110, [(3, .own 700 0), (4, VL X9_ xs9_.length cx9_), (15, VL A ys.length c), (16, I6 (ys.length : Int)), (17, I6 (i_ : Int)), (88, I6 (IntKind.i64.wrap ((i_ : Int) + 1)))], [(700, ⟨87, [VL C9_ n19_ c19_, I7 q9_]⟩)]⟩ ?_
   refine Kn 88 .i64 ((i_ : Int) + 1) rfl (wi64 (by omega) (by omega)) ?_
   refine Rn 2 (.ex .normal) [.loop J2, .blk 0, Qs B7 31] ⟨110, [(3, .own 700 0), (4, VL X9_ xs9_.length cx9_), (15, VL A ys.length c), (16, I6 (ys.length : Int)), (17, I6 ((i_ : Int) + 1))], [(700, ⟨87, [VL C9_ n19_ c19_, I7 q9_]⟩)]⟩ ?_
   exact X.again (hJ2 _ _ _ _ ⟨C9_, c19_, n19_, l19_, q9_, X9_, cx9_, xs9_, (i_ + 1), rfl, rfl, ((hG2.trans hG95).trans hG100), ⟨⟨by omega, by omega⟩, hln19_, hP9_, ⟨hq09_, by omega, by omega⟩, hlx9_, by simp only [maxLen]; omega, hrx9_⟩, rfl⟩ (by omega))
  ·
   replace h98 : ((n19_ : Nat) : Int) ≠ 0 := by simpa using h98
   refine Rn 9 (Qo B32 14 4) [Qs B32 15] ⟨15, [(2, .own 2 0), (3, VB false), (11, VL C9_ n19_ c19_)], [(2, ⟨27, [I6 0, I6 0, I6 0, I6 0]⟩), (1700, ⟨87, [VL C9_ n19_ c19_, I7 q9_]⟩)]⟩ ?_
   have b101 : (0 : Int) ≤ 0 := by omega
   have b102 : 0 < ((n19_ : Nat) : Int) := by omega
   refine Ix 84 89 5 C9_ n19_ c19_ .i64 0 (.tmp 11) (.const (N6 0)) b101 b102 (rowSome (i := 600) (q := (RR 89 5 C9_ n19_ c19_ (l19_.flatMap itC))) rfl rfl (flat_pos itC_len (by decide) (by rw [hln19_]; omega))) ?_
   have at103 : At G95 [(600, ⟨89, 5, .slice C9_ n19_ c19_, n19_, l19_.flatMap itC⟩)] C9_ (0 * 5) [.int .i64 ((l19_.getD 0 it0).1), .int .i64 ((l19_.getD 0 it0).2.1), .int .i64 ((l19_.getD 0 it0).2.2.1), .int .i64 ((l19_.getD 0 it0).2.2.2.1), .int .u64 ((l19_.getD 0 it0).2.2.2.2)] := At.rowF itC itC_len (i := 600) (r := ⟨89, 5, .slice C9_ n19_ c19_, n19_, l19_.flatMap itC⟩) it0 rfl rfl rfl (by rw [hln19_]; omega)
   refine Rn 0 (Qo B32 14 5) [Qs B32 15] ⟨15, [(2, .own 2 0), (3, VB false), (12, .v (elt C9_ (0 * 5)))], [(2, ⟨27, [I6 0, I6 0, I6 0, I6 0]⟩), (1700, ⟨87, [VL C9_ n19_ c19_, I7 q9_]⟩)]⟩ ?_
   refine X.field (t := 89) (f := 0) (n := 0) (A := C9_) (j := 0 * 5) (x := .tmp 12) (by kernel_rfl) (by kernel_rfl) (by kernel_rfl) (by kernel_rfl) ?_
   refine Rn 0 (Qo B32 14 6) [Qs B32 15] ⟨15, [(2, .own 2 0), (3, VB false), (13, .v (elt C9_ (0 * 5 + 0)))], [(2, ⟨27, [I6 0, I6 0, I6 0, I6 0]⟩), (1700, ⟨87, [VL C9_ n19_ c19_, I7 q9_]⟩)]⟩ ?_
   have at104 : At G95 [(600, ⟨89, 5, .slice C9_ n19_ c19_, n19_, l19_.flatMap itC⟩)] C9_ (0 * 5) [.int .i64 ((l19_.getD 0 it0).1), .int .i64 ((l19_.getD 0 it0).2.1), .int .i64 ((l19_.getD 0 it0).2.2.1), .int .i64 ((l19_.getD 0 it0).2.2.2.1), .int .u64 ((l19_.getD 0 it0).2.2.2.2)] := At.rowF itC itC_len (i := 600) (r := ⟨89, 5, .slice C9_ n19_ c19_, n19_, l19_.flatMap itC⟩) it0 rfl rfl rfl (by rw [hln19_]; omega)
   refine Ld 27 C9_ (0 * 5 + 0) (.tmp 13) (.agg #[N6 ((l19_.getD 0 it0).1), N6 ((l19_.getD 0 it0).2.1), N6 ((l19_.getD 0 it0).2.2.1), N6 ((l19_.getD 0 it0).2.2.2.1)]) [N6 ((l19_.getD 0 it0).1), N6 ((l19_.getD 0 it0).2.1), N6 ((l19_.getD 0 it0).2.2.1), N6 ((l19_.getD 0 it0).2.2.2.1)] (at104.part 0 4) ?_
   refine Rn 5 (.ex .ret) [] ⟨15, [(2, .own 2 0), (3, VB true)], [(2, ⟨27, [I6 ((l19_.getD 0 it0).1), I6 ((l19_.getD 0 it0).2.1), I6 ((l19_.getD 0 it0).2.2.1), I6 ((l19_.getD 0 it0).2.2.2.1)]⟩), (1700, ⟨87, [VL C9_ n19_ c19_, I7 q9_]⟩)]⟩ ?_
   refine fin96 _ _ _ _ [.agg #[N6 ((l19_.getD 0 it0).1), N6 ((l19_.getD 0 it0).2.1), N6 ((l19_.getD 0 it0).2.2.1), N6 ((l19_.getD 0 it0).2.2.2.1)], .bool true] [(700, ⟨87, [VL C9_ n19_ c19_, I7 q9_]⟩)] (.inl rfl) (by kernel_rfl) (by kernel_rfl) ?_
   refine Rn 11 (Qo B7 125342 1) [Qs B7 125343, .blk 1, Qs B7 1959, .loop J2, .blk 0, Qs B7 31] ⟨110, [(3, .own 700 0), (4, VL X9_ xs9_.length cx9_), (10, .own 10 0), (11, VB true), (15, VL A ys.length c), (16, I6 (ys.length : Int)), (17, I6 (i_ : Int)), (76, .own 700 0)], [(10, ⟨27, [I6 ((l19_.getD 0 it0).1), I6 ((l19_.getD 0 it0).2.1), I6 ((l19_.getD 0 it0).2.2.1), I6 ((l19_.getD 0 it0).2.2.2.1)]⟩), (700, ⟨87, [VL C9_ n19_ c19_, I7 q9_]⟩)]⟩ ?_
   refine X.inline (f := 17) (l := [.own 700 0]) (fn := Try.f17) (c := B17) (by kernel_rfl) (by kernel_rfl) Try.func17 (by kernel_rfl) ?_
   intro Q105 M105 hM105 hQ105 fin105
   refine Rn 9 (Qo B17 12 1) [Qs B17 13, Qs B17 7] ⟨10, [(0, .own 1700 0), (2, I6 0), (3, .own 1700 0)], [(1010, ⟨27, [I6 ((l19_.getD 0 it0).1), I6 ((l19_.getD 0 it0).2.1), I6 ((l19_.getD 0 it0).2.2.1), I6 ((l19_.getD 0 it0).2.2.2.1)]⟩), (1700, ⟨87, [VL C9_ n19_ c19_, I7 q9_]⟩)]⟩ ?_
   refine X.eqOwnNil (t := 23) (t' := 23) (e := 87) (b := 1700) (off := 0) (x := .tmp 3) (y := .const (.pointer none)) (by kernel_rfl) (fun g => by kernel_rfl) (by kernel_rfl) (by kernel_rfl) (by kernel_rfl) (by kernel_rfl) ?_
   refine Rn 16 (.ex .ret) [] ⟨10, [(2, I6 ((n19_ : Nat) : Int))], [(1010, ⟨27, [I6 ((l19_.getD 0 it0).1), I6 ((l19_.getD 0 it0).2.1), I6 ((l19_.getD 0 it0).2.2.1), I6 ((l19_.getD 0 it0).2.2.2.1)]⟩), (1700, ⟨87, [VL C9_ n19_ c19_, I7 q9_]⟩)]⟩ ?_
   refine fin105 _ _ _ _ [N6 ((n19_ : Nat) : Int)] [(10, ⟨27, [I6 ((l19_.getD 0 it0).1), I6 ((l19_.getD 0 it0).2.1), I6 ((l19_.getD 0 it0).2.2.1), I6 ((l19_.getD 0 it0).2.2.2.1)]⟩), (700, ⟨87, [VL C9_ n19_ c19_, I7 q9_]⟩)] (.inl rfl) (by kernel_rfl) (by kernel_rfl) ?_
   refine Rn 4 (Qo B7 125342 6) [Qs B7 125343, .blk 1, Qs B7 1959, .loop J2, .blk 0, Qs B7 31] ⟨110, [(3, .own 700 0), (4, VL X9_ xs9_.length cx9_), (10, .own 10 0), (11, VB true), (15, VL A ys.length c), (16, I6 (ys.length : Int)), (17, I6 (i_ : Int)), (81, VB (((n19_ : Nat) : Int) != (xs9_.length : Int)))], [(10, ⟨27, [I6 ((l19_.getD 0 it0).1), I6 ((l19_.getD 0 it0).2.1), I6 ((l19_.getD 0 it0).2.2.1), I6 ((l19_.getD 0 it0).2.2.2.1)]⟩), (700, ⟨87, [VL C9_ n19_ c19_, I7 q9_]⟩)]⟩ ?_
   refine X.isFalse 81 rfl (by simp only [bne_eq_false_iff_eq]; omega) ?_
   refine Rn 3 (Qo B7 125342 9) [Qs B7 125343, .blk 1, Qs B7 1959, .loop J2, .blk 0, Qs B7 31] ⟨110, [(3, .own 700 0), (4, VL X9_ xs9_.length cx9_), (15, VL A ys.length c), (16, I6 (ys.length : Int)), (17, I6 (i_ : Int)), (81, VB false), (82, .v (.agg #[N6 ((l19_.getD 0 it0).1), N6 ((l19_.getD 0 it0).2.1), N6 ((l19_.getD 0 it0).2.2.1), N6 ((l19_.getD 0 it0).2.2.2.1)])), (83, VB true), (84, VL X9_ xs9_.length cx9_)], [(700, ⟨87, [VL C9_ n19_ c19_, I7 q9_]⟩)]⟩ ?_
   refine Cg 27 [.agg #[N6 ((l19_.getD 0 it0).1), N6 ((l19_.getD 0 it0).2.1), N6 ((l19_.getD 0 it0).2.2.1), N6 ((l19_.getD 0 it0).2.2.2.1)], .bool true, .slice X9_ xs9_.length cx9_] 0 (firstOne_ok X9_ cx9_ xs9_ ((l19_.getD 0 it0).1) ((l19_.getD 0 it0).2.1) ((l19_.getD 0 it0).2.2.1) ((l19_.getD 0 it0).2.2.2.1) (by omega) (plays_head hP9_ (by omega)) _ hrx9_ hlx9_ hmx9_ (by omega)) ?_
   rintro v106 G106 rows106 hG106 ⟨rfl, rfl⟩
   replace hr := hr.mono hG106.le
   replace hrx9_ := hrx9_.mono hG106.le
   refine Rn 10 (Qo B7 1959 1) [.loop J2, .blk 0, Qs B7 31] ⟨110, [(3, .own 700 0), (4, VL X9_ xs9_.length cx9_), (15, VL A ys.length c), (16, I6 (ys.length : Int)), (17, I6 (i_ : Int)), (88, I6 (IntKind.i64.wrap ((i_ : Int) + 1)))], [(700, ⟨87, [VL C9_ n19_ c19_, I7 q9_]⟩)]⟩ ?_
   refine Kn 88 .i64 ((i_ : Int) + 1) rfl (wi64 (by omega) (by omega)) ?_
   refine Rn 2 (.ex .normal) [.loop J2, .blk 0, Qs B7 31] ⟨110, [(3, .own 700 0), (4, VL X9_ xs9_.length cx9_), (15, VL A ys.length c), (16, I6 (ys.length : Int)), (17, I6 ((i_ : Int) + 1))], [(700, ⟨87, [VL C9_ n19_ c19_, I7 q9_]⟩)]⟩ ?_
   exact X.again (hJ2 _ _ _ _ ⟨C9_, c19_, n19_, l19_, q9_, X9_, cx9_, xs9_, (i_ + 1), rfl, rfl, ((hG2.trans hG95).trans hG106), ⟨⟨by omega, by omega⟩, hln19_, hP9_, ⟨hq09_, by omega, by omega⟩, hlx9_, by simp only [maxLen]; omega, hrx9_⟩, rfl⟩ (by omega))
end Go.Proofs.YthpinlcfcgnilaaX
