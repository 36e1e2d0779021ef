/- leatlaw06.HeapPlays. Walked; printed by a small program of this session. Conditions: none. -/
import Derived.Test.YthpinlcfcgnilaaProg
import Derived.KernelRfl
import Derived.Test.YthpinlcfcgnilaaYH1
import Derived.Test.YthpinlcfcgnilaaYH4
import Derived.Test.YthpinlcfcgnilaaYH5
import Derived.Test.YthpinlcfcgnilaaYH7
import Derived.Test.YthpinlcfcgnilaaYH8
namespace Go.Proofs.YthpinlcfcgnilaaX
open Go.RowKit
open Go.Proofs.YthpinlcfcgnilaaW.PrintLast
set_option linter.unusedVariables false
set_option linter.unusedSimpArgs false
set_option maxRecDepth 100000
/-- slices.DeleteFunc[[]leat/heap.item,leat/heap.item] -/
noncomputable def B61 : Code := bodyOf Try.f61
/-- (*leat/heap.Heap).Drop-1 -/
noncomputable def B62 : Code := bodyOf Try.f62
/-- slices.IndexFunc[[]leat/heap.item,leat/heap.item] -/
noncomputable def B85 : Code := bodyOf Try.f85
/-- leat/leatlaw06.HeapPlays -/
noncomputable def B7 : Code := bodyOf Try.f7
set_option maxHeartbeats 8000000 in
theorem plays_tail {G G2 : Mem} {w : World} (J2 : S → List (Nat × Row) → Mem → Prop) {C_ X_ A : Option Addr} {c1_ n1_ cx_ i_ c : Nat} {l1_ : List Item} {q_ : Int} {xs_ : List Ev} {ys : List Op5} (hr : rowAt opD G2 A ys) (hG2 : Ge G w.heap.size G2) (hi60_ : i_ ≤ 60) (hln1_ : l1_.length = n1_) (hP_ : Plays l1_ q_ xs_) (hq0_ : 0 ≤ q_) (hq1_ : q_ ≤ (i_ : Int)) (hn1_ : (n1_ : Int) ≤ i_) (hlx_ : xs_.length ≤ cx_) (hmx_ : cx_ ≤ maxLen) (hrx_ : rowAt evD G2 X_ xs_) (hpl_ : xs_.length = l1_.length) (hh1_ : HeapFrom l1_ 0) : X (CtxG Try.prog Try.f7 G w (fun _ v rows => v = .bool true ∧ rows = [])) (.ex (.exit 0)) [.loop J2, .blk 0, Qs B7 31] ⟨110, [(3, .own 700 0), (4, VL X_ xs_.length cx_), (15, VL A ys.length c), (16, I6 (ys.length : Int)), (17, I6 (i_ : Int))], [(700, ⟨87, [VL C_ n1_ c1_, I7 q_]⟩)]⟩ [(600, RR 89 5 C_ n1_ c1_ (l1_.flatMap itC))] G2 := by
 simp only [maxLen] at hmx_
 refine Rn 5 (Qc B7 124) [.blk 3, Qs B7 63] ⟨110, [(3, .own 700 0), (4, VL X_ xs_.length cx_)], [(700, ⟨87, [VL C_ n1_ c1_, I7 q_]⟩)]⟩ ?_
 refine X.loopJ (fun m s R' G' => ∃ (C_ : Option Addr) (c1_ n1_ : Nat) (l1_ : List Item) (q_ : Int) (X_ : Option Addr) (cx_ : Nat) (xs_ : List Ev), s = ⟨110, [(3, .own 700 0), (4, VL X_ xs_.length cx_)], [(700, ⟨87, [VL C_ n1_ c1_, I7 q_]⟩)]⟩ ∧ R' = [(600, RR 89 5 C_ n1_ c1_ (l1_.flatMap itC))] ∧ Ge G2 w.heap.size G' ∧ (l1_.length = n1_ ∧ Plays l1_ q_ xs_ ∧ (0 ≤ q_ ∧ q_ ≤ 61 ∧ (n1_ : Int) ≤ 61) ∧ xs_.length ≤ cx_ ∧ cx_ ≤ maxLen ∧ rowAt evD G' X_ xs_) ∧ m = (n1_ + 1)) _ ⟨C_, c1_, n1_, l1_, q_, X_, cx_, xs_, rfl, rfl, Ge.refl _ _, ⟨hln1_, hP_, ⟨hq0_, by omega, by omega⟩, hlx_, by simp only [maxLen]; omega, hrx_⟩, rfl⟩ ?_
 rintro m3 s3 R3 G3 ⟨C_, c1_, n1_, l1_, q_, X_, cx_, xs_, rfl, rfl, hG3, hF3, rfl⟩ J3 hJ3
 replace hr := hr.mono hG3.le
 replace hrx_ := hrx_.mono hG3.le
 obtain ⟨hln1_, hP_, ⟨hq0_, hq1_, hn1_⟩, hlx_, hmx_, hrx_⟩ := hF3
 have hpl_ := plays_len hP_
 have hh1_ := plays_heap hP_
 simp only [maxLen] at hmx_
 refine Rn 8 (Qc B7 993) [Qs B7 497, .loop J3, .blk 3, Qs B7 63] ⟨110, [(3, .own 700 0), (4, VL X_ xs_.length cx_), (91, VB (decide ((xs_.length : Int) > 0)))], [(700, ⟨87, [VL C_ n1_ c1_, I7 q_]⟩)]⟩ ?_
 refine X.split 91 rfl (fun h4 => ?_) (fun h4 => ?_)
 ·
  replace h4 : ((xs_.length : Nat) : Int) > 0 := of_decide_eq_true h4
  refine Rn 7 (Qo B7 1988 1) [Qs B7 1989, .blk 4, .loop J3, .blk 3, Qs B7 63] ⟨110, [(3, .own 700 0), (4, VL X_ xs_.length cx_), (93, .own 700 0)], [(700, ⟨87, [VL C_ n1_ c1_, I7 q_]⟩)]⟩ ?_
  refine X.inline (f := 16) (l := [.own 700 0]) (fn := Try.f16) (c := B16) (by kernel_rfl) (by kernel_rfl) Try.func16 (by kernel_rfl) ?_
  intro Q5 M5 hM5 hQ5 fin5
  refine Rn 9 (Qo B16 6 1) [Qs B16 7] ⟨45, [(0, .own 1700 0), (2, .own 2 0), (3, VB false), (8, .own 1700 0)], [(2, ⟨27, [I6 0, I6 0, I6 0, I6 0]⟩), (1700, ⟨87, [VL C_ n1_ c1_, I7 q_]⟩)]⟩ ?_
  refine X.inline (f := 32) (l := [.own 1700 0]) (fn := Try.f32) (c := B32) (by kernel_rfl) (by kernel_rfl) Try.func32 (by kernel_rfl) ?_
  intro Q6 M6 hM6 hQ6 fin6
  refine Rn 10 (Qo B32 12 1) [Qs B32 13, Qs B32 7] ⟨15, [(0, .own 2700 0), (2, .own 2 0), (3, VB false), (4, .own 2700 0)], [(2, ⟨27, [I6 0, I6 0, I6 0, I6 0]⟩), (1002, ⟨27, [I6 0, I6 0, I6 0, I6 0]⟩), (2700, ⟨87, [VL C_ n1_ c1_, I7 q_]⟩)]⟩ ?_
  refine X.inline (f := 17) (l := [.own 2700 0]) (fn := Try.f17) (c := B17) (by kernel_rfl) (by kernel_rfl) Try.func17 (by kernel_rfl) ?_
  intro Q7 M7 hM7 hQ7 fin7
  refine Rn 9 (Qo B17 12 1) [Qs B17 13, Qs B17 7] ⟨10, [(0, .own 3700 0), (2, I6 0), (3, .own 3700 0)], [(1002, ⟨27, [I6 0, I6 0, I6 0, I6 0]⟩), (2002, ⟨27, [I6 0, I6 0, I6 0, I6 0]⟩), (3700, ⟨87, [VL C_ n1_ c1_, I7 q_]⟩)]⟩ ?_
  refine X.eqOwnNil (t := 23) (t' := 23) (e := 87) (b := 3700) (off := 0) (x := .tmp 3) (y := .const (.pointer none)) (by kernel_rfl) (fun g => by kernel_rfl) (by kernel_rfl) (by kernel_rfl) (by kernel_rfl) (by kernel_rfl) ?_
  refine Rn 16 (.ex .ret) [] ⟨10, [(2, I6 ((n1_ : Nat) : Int))], [(1002, ⟨27, [I6 0, I6 0, I6 0, I6 0]⟩), (2002, ⟨27, [I6 0, I6 0, I6 0, I6 0]⟩), (3700, ⟨87, [VL C_ n1_ c1_, I7 q_]⟩)]⟩ ?_
  refine fin7 _ _ _ _ [N6 ((n1_ : Nat) : Int)] [(2, ⟨27, [I6 0, I6 0, I6 0, I6 0]⟩), (1002, ⟨27, [I6 0, I6 0, I6 0, I6 0]⟩), (2700, ⟨87, [VL C_ n1_ c1_, I7 q_]⟩)] (.inl rfl) (by kernel_rfl) (by kernel_rfl) ?_
  refine Rn 3 (Qc B32 13) [Qs B32 7] ⟨15, [(0, .own 2700 0), (2, .own 2 0), (3, VB false), (6, VB (((n1_ : Nat) : Int) == 0))], [(2, ⟨27, [I6 0, I6 0, I6 0, I6 0]⟩), (1002, ⟨27, [I6 0, I6 0, I6 0, I6 0]⟩), (2700, ⟨87, [VL C_ n1_ c1_, I7 q_]⟩)]⟩ ?_
  refine X.isFalse 6 rfl (beq_eq_false_iff_ne.mpr (by omega)) ?_
  refine Rn 9 (Qo B32 14 4) [Qs B32 15] ⟨15, [(2, .own 2 0), (3, VB false), (11, VL C_ n1_ c1_)], [(2, ⟨27, [I6 0, I6 0, I6 0, I6 0]⟩), (1002, ⟨27, [I6 0, I6 0, I6 0, I6 0]⟩), (2700, ⟨87, [VL C_ n1_ c1_, I7 q_]⟩)]⟩ ?_
  have b8 : (0 : Int) ≤ 0 := by omega
  have b9 : 0 < ((n1_ : Nat) : Int) := by omega
  refine Ix 84 89 5 C_ n1_ c1_ .i64 0 (.tmp 11) (.const (N6 0)) b8 b9 (rowSome (i := 600) (q := (RR 89 5 C_ n1_ c1_ (l1_.flatMap itC))) rfl rfl (flat_pos itC_len (by decide) (by rw [hln1_]; omega))) ?_
  have at10 : At G3 [(600, ⟨89, 5, .slice C_ n1_ c1_, n1_, l1_.flatMap itC⟩)] C_ (0 * 5) [.int .i64 ((l1_.getD 0 it0).1), .int .i64 ((l1_.getD 0 it0).2.1), .int .i64 ((l1_.getD 0 it0).2.2.1), .int .i64 ((l1_.getD 0 it0).2.2.2.1), .int .u64 ((l1_.getD 0 it0).2.2.2.2)] := At.rowF itC itC_len (i := 600) (r := ⟨89, 5, .slice C_ n1_ c1_, n1_, l1_.flatMap itC⟩) it0 rfl rfl rfl (by rw [hln1_]; omega)
  refine Rn 0 (Qo B32 14 5) [Qs B32 15] ⟨15, [(2, .own 2 0), (3, VB false), (12, .v (elt C_ (0 * 5)))], [(2, ⟨27, [I6 0, I6 0, I6 0, I6 0]⟩), (1002, ⟨27, [I6 0, I6 0, I6 0, I6 0]⟩), (2700, ⟨87, [VL C_ n1_ c1_, I7 q_]⟩)]⟩ ?_
  refine X.field (t := 89) (f := 0) (n := 0) (A := C_) (j := 0 * 5) (x := .tmp 12) (by kernel_rfl) (by kernel_rfl) (by kernel_rfl) (by kernel_rfl) ?_
  refine Rn 0 (Qo B32 14 6) [Qs B32 15] ⟨15, [(2, .own 2 0), (3, VB false), (13, .v (elt C_ (0 * 5 + 0)))], [(2, ⟨27, [I6 0, I6 0, I6 0, I6 0]⟩), (1002, ⟨27, [I6 0, I6 0, I6 0, I6 0]⟩), (2700, ⟨87, [VL C_ n1_ c1_, I7 q_]⟩)]⟩ ?_
  have at11 : At G3 [(600, ⟨89, 5, .slice C_ n1_ c1_, n1_, l1_.flatMap itC⟩)] C_ (0 * 5) [.int .i64 ((l1_.getD 0 it0).1), .int .i64 ((l1_.getD 0 it0).2.1), .int .i64 ((l1_.getD 0 it0).2.2.1), .int .i64 ((l1_.getD 0 it0).2.2.2.1), .int .u64 ((l1_.getD 0 it0).2.2.2.2)] := At.rowF itC itC_len (i := 600) (r := ⟨89, 5, .slice C_ n1_ c1_, n1_, l1_.flatMap itC⟩) it0 rfl rfl rfl (by rw [hln1_]; omega)
  refine Ld 27 C_ (0 * 5 + 0) (.tmp 13) (.agg #[N6 ((l1_.getD 0 it0).1), N6 ((l1_.getD 0 it0).2.1), N6 ((l1_.getD 0 it0).2.2.1), N6 ((l1_.getD 0 it0).2.2.2.1)]) [N6 ((l1_.getD 0 it0).1), N6 ((l1_.getD 0 it0).2.1), N6 ((l1_.getD 0 it0).2.2.1), N6 ((l1_.getD 0 it0).2.2.2.1)] (at11.part 0 4) ?_
  refine Rn 5 (.ex .ret) [] ⟨15, [(2, .own 2 0), (3, VB true)], [(2, ⟨27, [I6 ((l1_.getD 0 it0).1), I6 ((l1_.getD 0 it0).2.1), I6 ((l1_.getD 0 it0).2.2.1), I6 ((l1_.getD 0 it0).2.2.2.1)]⟩), (1002, ⟨27, [I6 0, I6 0, I6 0, I6 0]⟩), (2700, ⟨87, [VL C_ n1_ c1_, I7 q_]⟩)]⟩ ?_
  refine fin6 _ _ _ _ [.agg #[N6 ((l1_.getD 0 it0).1), N6 ((l1_.getD 0 it0).2.1), N6 ((l1_.getD 0 it0).2.2.1), N6 ((l1_.getD 0 it0).2.2.2.1)], .bool true] [(2, ⟨27, [I6 0, I6 0, I6 0, I6 0]⟩), (1700, ⟨87, [VL C_ n1_ c1_, I7 q_]⟩)] (.inl rfl) (by kernel_rfl) (by kernel_rfl) ?_
  refine Rn 26 (Qo B16 30 6) [Qs B16 31] ⟨45, [(0, .own 1700 0), (2, .own 2 0), (3, VB false), (4, .own 4 0), (20, I6 (IntKind.i64.wrap (((n1_ : Nat) : Int) - 1)))], [(2, ⟨27, [I6 0, I6 0, I6 0, I6 0]⟩), (4, ⟨27, [I6 ((l1_.getD 0 it0).1), I6 ((l1_.getD 0 it0).2.1), I6 ((l1_.getD 0 it0).2.2.1), I6 ((l1_.getD 0 it0).2.2.2.1)]⟩), (1700, ⟨87, [VL C_ n1_ c1_, I7 q_]⟩)]⟩ ?_
  refine Kn 20 .i64 ((n1_ - 1 : Nat) : Int) rfl (by rw [wi64 (by omega) (by omega)]; omega) ?_
  refine Rn 4 (Qc B16 62) [Qs B16 63] ⟨45, [(0, .own 1700 0), (2, .own 2 0), (3, VB false), (4, .own 4 0), (6, I6 ((n1_ - 1 : Nat) : Int))], [(2, ⟨27, [I6 0, I6 0, I6 0, I6 0]⟩), (4, ⟨27, [I6 ((l1_.getD 0 it0).1), I6 ((l1_.getD 0 it0).2.1), I6 ((l1_.getD 0 it0).2.2.1), I6 ((l1_.getD 0 it0).2.2.2.1)]⟩), (1700, ⟨87, [VL C_ n1_ c1_, I7 q_]⟩)]⟩ ?_
  have hr_d12 := hr
  have hrx__d12 := hrx_
  refine Og 5 B16 62 13 [⟨some 0, 1700, 87, [VL C_ n1_ c1_, I7 q_]⟩] [(600, RR 89 5 C_ n1_ c1_ (l1_.flatMap itC))] [12] ⟨⟨fun _ h => (by cases h; rfl), rfl⟩, trivial⟩ (by intro p hp hn; simp only [List.mem_cons, List.not_mem_nil, or_false] at hp; rcases hp with rfl <;> first | (cases hn; done) | exact hM5 _ (Nat.le_of_ble_eq_true rfl)) (fun ρ0 => ?_)
  refine Tk 0 13 1 B16 62 (.own 1700 0) hQ5 ?_
  refine XD.nilOwn (i := 1) (l' := (lb 13 3)) (oA B16 (pa 62) 1) (x := .tmp 21) (b := 1700) (off := 0) hQ5 (by kernel_rfl) (by kernel_rfl) (by kernel_rfl) (by kernel_rfl) (by kernel_rfl) (by kernel_rfl) ?_
  refine Tk 2 13 7 B16 62 (.own 1700 0) hQ5 ?_
  refine Tk 3 13 15 B16 62 (VL C_ n1_ c1_) hQ5 ?_
  refine Tk 4 13 31 B16 62 (.own 1700 0) hQ5 ?_
  refine XD.nilOwn (i := 5) (l' := (lb 13 63)) (oA B16 (pa 62) 5) (x := .tmp 25) (b := 1700) (off := 0) hQ5 (by kernel_rfl) (by kernel_rfl) (by kernel_rfl) (by kernel_rfl) (by kernel_rfl) (by kernel_rfl) ?_
  refine Tk 6 13 127 B16 62 (.own 1700 0) hQ5 ?_
  refine Tk 7 13 255 B16 62 (VL C_ n1_ c1_) hQ5 ?_
  refine Tk 8 13 511 B16 62 (I6 ((n1_ - 1 : Nat) : Int)) hQ5 ?_
  have b13 : (0 : Int) ≤ ((n1_ - 1 : Nat) : Int) := by omega
  have b14 : ((n1_ - 1 : Nat) : Int) < ((n1_ : Nat) : Int) := by omega
  have at15 : At G3 [(600, ⟨89, 5, .slice C_ n1_ c1_, n1_, l1_.flatMap itC⟩)] C_ ((((n1_ - 1 : Nat) : Int)).toNat * 5) [.int .i64 ((l1_.getD ((((n1_ - 1 : Nat) : Int)).toNat) it0).1), .int .i64 ((l1_.getD ((((n1_ - 1 : Nat) : Int)).toNat) it0).2.1), .int .i64 ((l1_.getD ((((n1_ - 1 : Nat) : Int)).toNat) it0).2.2.1), .int .i64 ((l1_.getD ((((n1_ - 1 : Nat) : Int)).toNat) it0).2.2.2.1), .int .u64 ((l1_.getD ((((n1_ - 1 : Nat) : Int)).toNat) it0).2.2.2.2)] := At.rowF itC itC_len (i := 600) (r := ⟨89, 5, .slice C_ n1_ c1_, n1_, l1_.flatMap itC⟩) it0 rfl rfl rfl (by rw [hln1_]; omega)
  refine Dx 9 13 1023 B16 62 84 89 5 C_ n1_ c1_ .i64 ((n1_ - 1 : Nat) : Int) (.tmp 28) (.tmp 29) hQ5 b13 b14 (rowSome (i := 600) (q := (RR 89 5 C_ n1_ c1_ (l1_.flatMap itC))) rfl rfl (flat_pos itC_len (by decide) (by rw [hln1_]; omega))) ?_
  have at16 : At G3 [(600, ⟨89, 5, .slice C_ n1_ c1_, n1_, l1_.flatMap itC⟩)] C_ ((((n1_ - 1 : Nat) : Int)).toNat * 5) [.int .i64 ((l1_.getD ((((n1_ - 1 : Nat) : Int)).toNat) it0).1), .int .i64 ((l1_.getD ((((n1_ - 1 : Nat) : Int)).toNat) it0).2.1), .int .i64 ((l1_.getD ((((n1_ - 1 : Nat) : Int)).toNat) it0).2.2.1), .int .i64 ((l1_.getD ((((n1_ - 1 : Nat) : Int)).toNat) it0).2.2.2.1), .int .u64 ((l1_.getD ((((n1_ - 1 : Nat) : Int)).toNat) it0).2.2.2.2)] := At.rowF itC itC_len (i := 600) (r := ⟨89, 5, .slice C_ n1_ c1_, n1_, l1_.flatMap itC⟩) it0 rfl rfl rfl (by rw [hln1_]; omega)
  refine Dl 10 13 2047 B16 62 89 C_ ((((n1_ - 1 : Nat) : Int)).toNat * 5) (.tmp 30) (.agg #[N6 ((l1_.getD ((((n1_ - 1 : Nat) : Int)).toNat) it0).1), N6 ((l1_.getD ((((n1_ - 1 : Nat) : Int)).toNat) it0).2.1), N6 ((l1_.getD ((((n1_ - 1 : Nat) : Int)).toNat) it0).2.2.1), N6 ((l1_.getD ((((n1_ - 1 : Nat) : Int)).toNat) it0).2.2.2.1), N7 ((l1_.getD ((((n1_ - 1 : Nat) : Int)).toNat) it0).2.2.2.2)]) [N6 ((l1_.getD ((((n1_ - 1 : Nat) : Int)).toNat) it0).1), N6 ((l1_.getD ((((n1_ - 1 : Nat) : Int)).toNat) it0).2.1), N6 ((l1_.getD ((((n1_ - 1 : Nat) : Int)).toNat) it0).2.2.1), N6 ((l1_.getD ((((n1_ - 1 : Nat) : Int)).toNat) it0).2.2.2.1), N7 ((l1_.getD ((((n1_ - 1 : Nat) : Int)).toNat) it0).2.2.2.2)] hQ5 at16 ?_
  have b17 : (0 : Int) ≤ 0 := by omega
  have b18 : 0 < ((n1_ : Nat) : Int) := by omega
  have at19 : At G3 [(600, ⟨89, 5, .slice C_ n1_ c1_, n1_, l1_.flatMap itC⟩)] C_ (0 * 5) [.int .i64 ((l1_.getD 0 it0).1), .int .i64 ((l1_.getD 0 it0).2.1), .int .i64 ((l1_.getD 0 it0).2.2.1), .int .i64 ((l1_.getD 0 it0).2.2.2.1), .int .u64 ((l1_.getD 0 it0).2.2.2.2)] := At.rowF itC itC_len (i := 600) (r := ⟨89, 5, .slice C_ n1_ c1_, n1_, l1_.flatMap itC⟩) it0 rfl rfl rfl (by rw [hln1_]; omega)
  refine Dx 11 13 4095 B16 62 84 89 5 C_ n1_ c1_ .i64 0 (.tmp 24) (.const (N6 0)) hQ5 b17 b18 (rowSome (i := 600) (q := (RR 89 5 C_ n1_ c1_ (l1_.flatMap itC))) rfl rfl (flat_pos itC_len (by decide) (by rw [hln1_]; omega))) ?_
  refine XD.toE ?_
  refine En ⟨45, [(0, .own 1700 0), (2, .own 2 0), (3, VB false), (4, .own 4 0), (6, I6 ((n1_ - 1 : Nat) : Int)), (31, .v (.agg #[N6 ((l1_.getD ((((n1_ - 1 : Nat) : Int)).toNat) it0).1), N6 ((l1_.getD ((((n1_ - 1 : Nat) : Int)).toNat) it0).2.1), N6 ((l1_.getD ((((n1_ - 1 : Nat) : Int)).toNat) it0).2.2.1), N6 ((l1_.getD ((((n1_ - 1 : Nat) : Int)).toNat) it0).2.2.2.1), N7 ((l1_.getD ((((n1_ - 1 : Nat) : Int)).toNat) it0).2.2.2.2)])), (32, .v (elt C_ (0 * 5)))], [(2, ⟨27, [I6 0, I6 0, I6 0, I6 0]⟩), (4, ⟨27, [I6 ((l1_.getD 0 it0).1), I6 ((l1_.getD 0 it0).2.1), I6 ((l1_.getD 0 it0).2.2.1), I6 ((l1_.getD 0 it0).2.2.2.1)]⟩), (1700, ⟨87, [VL C_ n1_ c1_, I7 q_]⟩)]⟩ ?_
  refine Eo 12 13 8191 B16 62 ?_
  refine X.storeElem (i := 600) (t := 89) (j := 0 * 5) (n := n1_) (c := c1_) (q := (RR 89 5 C_ n1_ c1_ (l1_.flatMap itC))) (A := C_) (x := .tmp 32) (y := .tmp 31) (z := .agg #[N6 ((l1_.getD ((((n1_ - 1 : Nat) : Int)).toNat) it0).1), N6 ((l1_.getD ((((n1_ - 1 : Nat) : Int)).toNat) it0).2.1), N6 ((l1_.getD ((((n1_ - 1 : Nat) : Int)).toNat) it0).2.2.1), N6 ((l1_.getD ((((n1_ - 1 : Nat) : Int)).toNat) it0).2.2.2.1), N7 ((l1_.getD ((((n1_ - 1 : Nat) : Int)).toNat) it0).2.2.2.2)]) (by kernel_rfl) (by kernel_rfl) (by kernel_rfl) rfl rfl (by kernel_rfl) (by rw [show _ = _ from flat_len itC_len _, hln1_]; show 0 * 5 + 5 ≤ _; omega) (by kernel_rfl) (Nat.succ_pos _) (by kernel_rfl) ?_
  refine X.tellR [600] (R' := [(600, RR 89 5 C_ n1_ c1_ ((l1_.set 0 ((l1_.getD ((((n1_ - 1 : Nat) : Int)).toNat) it0).1, (l1_.getD ((((n1_ - 1 : Nat) : Int)).toNat) it0).2.1, (l1_.getD ((((n1_ - 1 : Nat) : Int)).toNat) it0).2.2.1, (l1_.getD ((((n1_ - 1 : Nat) : Int)).toNat) it0).2.2.2.1, (l1_.getD ((((n1_ - 1 : Nat) : Int)).toNat) it0).2.2.2.2)).flatMap itC))]) (congrArg (fun cs_ => (600, (RR 89 5 C_ n1_ c1_ cs_ : Row)) :: []) (splice_flat itC_len (((l1_.getD ((((n1_ - 1 : Nat) : Int)).toNat) it0).1, (l1_.getD ((((n1_ - 1 : Nat) : Int)).toNat) it0).2.1, (l1_.getD ((((n1_ - 1 : Nat) : Int)).toNat) it0).2.2.1, (l1_.getD ((((n1_ - 1 : Nat) : Int)).toNat) it0).2.2.2.1, (l1_.getD ((((n1_ - 1 : Nat) : Int)).toNat) it0).2.2.2.2) : Item) l1_ 0 (by rw [hln1_]; omega))) ?_
  obtain ⟨l20, hl20⟩ : ∃ z_, (l1_.set 0 ((l1_.getD ((((n1_ - 1 : Nat) : Int)).toNat) it0).1, (l1_.getD ((((n1_ - 1 : Nat) : Int)).toNat) it0).2.1, (l1_.getD ((((n1_ - 1 : Nat) : Int)).toNat) it0).2.2.1, (l1_.getD ((((n1_ - 1 : Nat) : Int)).toNat) it0).2.2.2.1, (l1_.getD ((((n1_ - 1 : Nat) : Int)).toNat) it0).2.2.2.2)) = z_ := ⟨_, rfl⟩
  rw [hl20]
  have hn20 : l20.length = n1_ := by rw [← hl20, List.length_set, hln1_]
  refine X.back ?_
  refine XE.done (by kernel_rfl) ?_
  refine Rn 9 (Qo B16 126 6) [Qs B16 127] ⟨45, [(0, .own 1700 0), (2, .own 2 0), (3, VB false), (4, .own 4 0), (33, .own 1700 0), (37, VL C_ n1_ c1_), (38, I6 ((n1_ - 1 : Nat) : Int))], [(2, ⟨27, [I6 0, I6 0, I6 0, I6 0]⟩), (4, ⟨27, [I6 ((l1_.getD 0 it0).1), I6 ((l1_.getD 0 it0).2.1), I6 ((l1_.getD 0 it0).2.2.1), I6 ((l1_.getD 0 it0).2.2.2.1)]⟩), (1700, ⟨87, [VL C_ n1_ c1_, I7 q_]⟩)]⟩ ?_
  refine X.capLe (i := 600) (q := (RR 89 5 C_ n1_ c1_ (l20.flatMap itC))) (n := n1_) (c := c1_) (A := C_) rfl rfl ?_
  intro hcl_ hcm_
  have hlo21 : 0 ≤ (((n1_ - 1 : Nat) : Int)).toNat := by omega
  have hhi21 : (((n1_ - 1 : Nat) : Int)).toNat ≤ n1_ := by omega
  refine X.cut (t := 84) (e := 89) (sz := 5) (n := n1_) (c := c1_) (A := C_) (x := .tmp 37) (l := none) (h := (some (.tmp 38))) (lv := none) (hv := (some (N6 ((n1_ - 1 : Nat) : Int)))) 0 ((((n1_ - 1 : Nat) : Int)).toNat) (by kernel_rfl) (by kernel_rfl) (by kernel_rfl) (by kernel_rfl) (by kernel_rfl) (by kernel_rfl) (by kernel_rfl) (rfl) (⟨_, _, rfl, by omega, rfl⟩) hlo21 (Nat.le_trans hhi21 (by omega)) ?_
  refine X.known 39 (y := VL C_ ((((n1_ - 1 : Nat) : Int)).toNat) c1_) rfl (by rw [cutA_zero] <;> rfl) ?_
  refine X.known 39 (y := VL C_ (n1_ - 1) c1_) rfl rfl ?_
  refine X.tellR [600] (R' := [(600, RR 89 5 C_ n1_ c1_ (l20.flatMap itC))]) rfl ?_
  refine X.shrink (m := (n1_ - 1)) (by omega) ?_
  refine X.tellR [600] (R' := [(600, RR 89 5 C_ (n1_ - 1) c1_ ((l20.take (n1_ - 1)).flatMap itC))]) (congrArg (fun cs_ => (600, (RR 89 5 C_ (n1_ - 1) c1_ cs_ : Row)) :: []) (flatMap_take itC_len l20 (n1_ - 1))) ?_
  obtain ⟨l22, hl22⟩ : ∃ z_, l20.take (n1_ - 1) = z_ := ⟨_, rfl⟩
  rw [hl22]
  have hn22 : l22.length = (n1_ - 1) := by rw [← hl22, List.length_take, hn20]; omega
  have hpo_ : l22 = popL l1_ := by
   rw [← hl22, ← hl20]; unfold popL; rw [hln1_]; rfl
  have hdn0_ : DownOk l22 0 0 := by rw [hpo_]; exact pop_down hh1_
  refine Rn 8 (Qo B16 254 1) [Qs B16 255] ⟨45, [(2, .own 2 0), (3, VB false), (4, .own 4 0), (42, .own 1700 0)], [(2, ⟨27, [I6 0, I6 0, I6 0, I6 0]⟩), (4, ⟨27, [I6 ((l1_.getD 0 it0).1), I6 ((l1_.getD 0 it0).2.1), I6 ((l1_.getD 0 it0).2.2.1), I6 ((l1_.getD 0 it0).2.2.2.1)]⟩), (1700, ⟨87, [VL C_ (n1_ - 1) c1_, I7 q_]⟩)]⟩ ?_
  refine X.joinJ (Qc B16 255) [] (fun s2_ R2_ G2_ => ∃ (l6_ : List Item), s2_ = ⟨45, [(2, .own 2 0), (3, VB false), (4, .own 4 0)], [(2, ⟨27, [I6 0, I6 0, I6 0, I6 0]⟩), (4, ⟨27, [I6 ((l1_.getD 0 it0).1), I6 ((l1_.getD 0 it0).2.1), I6 ((l1_.getD 0 it0).2.2.1), I6 ((l1_.getD 0 it0).2.2.2.1)]⟩), (1700, ⟨87, [VL C_ (n1_ - 1) c1_, I7 q_]⟩)]⟩ ∧ R2_ = [(600, RR 89 5 C_ (n1_ - 1) c1_ (l6_.flatMap itC))] ∧ Ge G3 w.heap.size G2_ ∧ (l6_.length = n1_ - 1 ∧ HeapFrom l6_ 0 ∧ l6_.Perm l22)) ?_ fun hY23 => ?_
  ·
   as_aux_lemma =>
    rintro s2_ R2_ G23 ⟨l6_, rfl, rfl, hG23, hF_⟩
    replace hr := hr.mono hG23.le
    replace hrx_ := hrx_.mono hG23.le
    obtain ⟨hln6_, hh6_, hp6_⟩ := hF_
    rw [hpo_] at hp6_
    refine Rn 8 (.ex .ret) [] ⟨45, [(2, .own 2 0), (3, VB true)], [(2, ⟨27, [I6 ((l1_.getD 0 it0).1), I6 ((l1_.getD 0 it0).2.1), I6 ((l1_.getD 0 it0).2.2.1), I6 ((l1_.getD 0 it0).2.2.2.1)]⟩), (1700, ⟨87, [VL C_ (n1_ - 1) c1_, I7 q_]⟩)]⟩ ?_
    refine fin5 _ _ _ _ [.agg #[N6 ((l1_.getD 0 it0).1), N6 ((l1_.getD 0 it0).2.1), N6 ((l1_.getD 0 it0).2.2.1), N6 ((l1_.getD 0 it0).2.2.2.1)], .bool true] [(700, ⟨87, [VL C_ (n1_ - 1) c1_, I7 q_]⟩)] (.inl rfl) (by kernel_rfl) (by kernel_rfl) ?_
    refine Rn 14 (Qo B7 7956 3) [Qs B7 7957, Qs B7 3979, .blk 4, .loop J3, .blk 3, Qs B7 63] ⟨110, [(3, .own 700 0), (4, VL X_ xs_.length cx_), (97, .v (.agg #[N6 ((l1_.getD 0 it0).1), N6 ((l1_.getD 0 it0).2.1), N6 ((l1_.getD 0 it0).2.2.1), N6 ((l1_.getD 0 it0).2.2.2.1)])), (98, VB true), (99, VL X_ xs_.length cx_)], [(700, ⟨87, [VL C_ (n1_ - 1) c1_, I7 q_]⟩)]⟩ ?_
    refine Cg 27 [.agg #[N6 ((l1_.getD 0 it0).1), N6 ((l1_.getD 0 it0).2.1), N6 ((l1_.getD 0 it0).2.2.1), N6 ((l1_.getD 0 it0).2.2.2.1)], .bool true, .slice X_ xs_.length cx_] 0 (firstOne_ok X_ cx_ xs_ ((l1_.getD 0 it0).1) ((l1_.getD 0 it0).2.1) ((l1_.getD 0 it0).2.2.1) ((l1_.getD 0 it0).2.2.2.1) (by omega) (plays_head hP_ (by omega)) _ hrx_ hlx_ hmx_ (by omega)) ?_
    rintro v24 G24 rows24 hG24 ⟨rfl, rfl⟩
    replace hr := hr.mono hG24.le
    replace hrx_ := hrx_.mono hG24.le
    refine Rn 8 (Qo B7 3979 1) [.blk 4, .loop J3, .blk 3, Qs B7 63] ⟨110, [(3, .own 700 0), (4, VL X_ xs_.length cx_), (102, VL X_ xs_.length cx_)], [(700, ⟨87, [VL C_ (n1_ - 1) c1_, I7 q_]⟩)]⟩ ?_
    have hlo25 : 1 ≤ xs_.length := by omega
    have hhi25 : xs_.length ≤ xs_.length := by omega
    refine X.cut (t := 59) (e := 66) (sz := 4) (n := xs_.length) (c := cx_) (A := X_) (x := .tmp 102) (l := (some (.const (N6 1)))) (h := none) (lv := (some (N6 1))) (hv := none) 1 xs_.length (by kernel_rfl) (by kernel_rfl) (by kernel_rfl) (by kernel_rfl) (by kernel_rfl) (by kernel_rfl) (by kernel_rfl) (⟨_, _, rfl, by omega, rfl⟩) (rfl) hlo25 (Nat.le_trans hhi25 hlx_) ?_
    obtain ⟨A25, hA25⟩ : ∃ A_, cutA X_ cx_ 1 4 = A_ := ⟨_, rfl⟩
    obtain ⟨ys25, hys25⟩ : ∃ l_, (xs_.take xs_.length).drop 1 = l_ := ⟨_, rfl⟩
    have hr25 : rowAt evD G24 (cutA X_ cx_ 1 4) ((xs_.take xs_.length).drop 1) := rowAt_cut hrx_ hlo25 hhi25 hlx_
    have hl25 : xs_.length - 1 = ys25.length := by rw [← hys25, List.length_drop, List.length_take]; omega
    have hc25 : ys25.length ≤ cx_ - 1 := by omega
    have hm25 : cx_ - 1 ≤ maxLen := Nat.le_trans (Nat.sub_le _ _) hmx_
    rw [hys25, show cutA X_ cx_ 1 _ = A25 from hA25] at hr25
    rw [hA25, hl25]
    refine Rn 3 (.ex .normal) [.loop J3, .blk 3, Qs B7 63] ⟨110, [(3, .own 700 0), (4, VL A25 ys25.length (cx_ - 1))], [(700, ⟨87, [VL C_ (n1_ - 1) c1_, I7 q_]⟩)]⟩ ?_
    exact X.again (hJ3 _ _ _ _ ⟨C_, c1_, (n1_ - 1), l6_, q_, A25, (cx_ - 1), ys25, rfl, rfl, ((hG3.trans hG23).trans hG24), ⟨hln6_, by rw [show ys25 = xs_.drop 1 by rw [← hys25, List.take_length]]; exact plays_pop hP_ (by omega) hh6_ hp6_, ⟨by omega, by omega, by omega⟩, hc25, by have h_ := hm25; simp only [maxLen] at h_ ⊢; omega, hr25⟩, rfl⟩ (by omega))
  ·
   refine X.inline (f := 50) (l := [.own 1700 0, I6 0]) (fn := Try.f50) (c := B50) (by kernel_rfl) (by kernel_rfl) Try.func50 (by kernel_rfl) ?_
   intro Q26 M26 hM26 hQ26 fin26
   refine Rn 8 (Qc B50 6) [.blk 0] ⟨67, [(0, .own 2700 0), (1, I6 0), (4, .mth 81 2700 0)], [(1002, ⟨27, [I6 0, I6 0, I6 0, I6 0]⟩), (1004, ⟨27, [I6 ((l1_.getD 0 it0).1), I6 ((l1_.getD 0 it0).2.1), I6 ((l1_.getD 0 it0).2.2.1), I6 ((l1_.getD 0 it0).2.2.2.1)]⟩), (2700, ⟨87, [VL C_ (n1_ - 1) c1_, I7 q_]⟩)]⟩ ?_
   refine X.loopJ (fun m s R' G' => ∃ (i3_ : Nat) (l3_ : List Item), s = ⟨67, [(0, .own 2700 0), (1, I6 (i3_ : Int)), (4, .mth 81 2700 0)], [(1002, ⟨27, [I6 0, I6 0, I6 0, I6 0]⟩), (1004, ⟨27, [I6 ((l1_.getD 0 it0).1), I6 ((l1_.getD 0 it0).2.1), I6 ((l1_.getD 0 it0).2.2.1), I6 ((l1_.getD 0 it0).2.2.2.1)]⟩), (2700, ⟨87, [VL C_ (n1_ - 1) c1_, I7 q_]⟩)]⟩ ∧ R' = [(600, RR 89 5 C_ (n1_ - 1) c1_ (l3_.flatMap itC))] ∧ Ge G3 w.heap.size G' ∧ ((0 ≤ i3_ ∧ i3_ ≤ (n1_ - 1)) ∧ l3_.length = (n1_ - 1) ∧ DownOk l3_ i3_ 0 ∧ l3_.Perm l22) ∧ m = ((n1_ - 1) - i3_)) _ ⟨0, l22, rfl, rfl, Ge.refl _ _, ⟨⟨by omega, by omega⟩, hn22, hdn0_, List.Perm.refl _⟩, rfl⟩ ?_
   rintro m27 s27 R27 G27 ⟨i3_, l3_, rfl, rfl, hG27, hF27, rfl⟩ J27 hJ27
   replace hr := hr.mono hG27.le
   replace hrx_ := hrx_.mono hG27.le
   obtain ⟨⟨hri3_, hi3_⟩, hln3_, hdn_, hpm3_⟩ := hF27
   refine Rn 5 (Qo B50 48 2) [Qs B50 49, .blk 1, .loop J27, .blk 0] ⟨67, [(0, .own 2700 0), (1, I6 (i3_ : Int)), (4, .mth 81 2700 0), (9, I6 (IntKind.i64.wrap (2 * (i3_ : Int))))], [(1002, ⟨27, [I6 0, I6 0, I6 0, I6 0]⟩), (1004, ⟨27, [I6 ((l1_.getD 0 it0).1), I6 ((l1_.getD 0 it0).2.1), I6 ((l1_.getD 0 it0).2.2.1), I6 ((l1_.getD 0 it0).2.2.2.1)]⟩), (2700, ⟨87, [VL C_ (n1_ - 1) c1_, I7 q_]⟩)]⟩ ?_
   refine Kn 9 .i64 (2 * (i3_ : Int)) rfl (wi64 (by omega) (by omega)) ?_
   refine Rn 1 (Qo B50 48 3) [Qs B50 49, .blk 1, .loop J27, .blk 0] ⟨67, [(0, .own 2700 0), (1, I6 (i3_ : Int)), (4, .mth 81 2700 0), (10, I6 (IntKind.i64.wrap ((2 * (i3_ : Int)) + 1)))], [(1002, ⟨27, [I6 0, I6 0, I6 0, I6 0]⟩), (1004, ⟨27, [I6 ((l1_.getD 0 it0).1), I6 ((l1_.getD 0 it0).2.1), I6 ((l1_.getD 0 it0).2.2.1), I6 ((l1_.getD 0 it0).2.2.2.1)]⟩), (2700, ⟨87, [VL C_ (n1_ - 1) c1_, I7 q_]⟩)]⟩ ?_
   refine Kn 10 .i64 ((2 * i3_ + 1 : Nat) : Int) rfl (by rw [wi64 (by omega) (by omega)]; omega) ?_
   refine Rn 15 (Qc B50 197) [Qs B50 99, .blk 1, .loop J27, .blk 0] ⟨67, [(0, .own 2700 0), (1, I6 (i3_ : Int)), (4, .mth 81 2700 0), (5, I6 ((2 * i3_ + 1 : Nat) : Int)), (17, VB (decide (((2 * i3_ + 1 : Nat) : Int) ≥ (((n1_ - 1) : Nat) : Int))))], [(1002, ⟨27, [I6 0, I6 0, I6 0, I6 0]⟩), (1004, ⟨27, [I6 ((l1_.getD 0 it0).1), I6 ((l1_.getD 0 it0).2.1), I6 ((l1_.getD 0 it0).2.2.1), I6 ((l1_.getD 0 it0).2.2.2.1)]⟩), (2700, ⟨87, [VL C_ (n1_ - 1) c1_, I7 q_]⟩)]⟩ ?_
   refine X.split 17 rfl (fun h28 => ?_) (fun h28 => ?_)
   ·
    replace h28 : ((2 * i3_ + 1 : Nat) : Int) ≥ (((n1_ - 1) : Nat) : Int) := of_decide_eq_true h28
    have hh3_ : HeapFrom l3_ 0 := down_end hdn_ (fun j_ h0_ h1_ h2_ => absurd h2_ (by omega))
    refine Rn 6 (.ex .ret) [] ⟨67, [], [(1002, ⟨27, [I6 0, I6 0, I6 0, I6 0]⟩), (1004, ⟨27, [I6 ((l1_.getD 0 it0).1), I6 ((l1_.getD 0 it0).2.1), I6 ((l1_.getD 0 it0).2.2.1), I6 ((l1_.getD 0 it0).2.2.2.1)]⟩), (2700, ⟨87, [VL C_ (n1_ - 1) c1_, I7 q_]⟩)]⟩ ?_
    refine fin26 _ _ _ _ [] [(2, ⟨27, [I6 0, I6 0, I6 0, I6 0]⟩), (4, ⟨27, [I6 ((l1_.getD 0 it0).1), I6 ((l1_.getD 0 it0).2.1), I6 ((l1_.getD 0 it0).2.2.1), I6 ((l1_.getD 0 it0).2.2.2.1)]⟩), (1700, ⟨87, [VL C_ (n1_ - 1) c1_, I7 q_]⟩)] (.inl rfl) (by kernel_rfl) (by kernel_rfl) ?_
    refine Rn 2 (Qc B16 255) [] ⟨45, [(2, .own 2 0), (3, VB false), (4, .own 4 0)], [(2, ⟨27, [I6 0, I6 0, I6 0, I6 0]⟩), (4, ⟨27, [I6 ((l1_.getD 0 it0).1), I6 ((l1_.getD 0 it0).2.1), I6 ((l1_.getD 0 it0).2.2.1), I6 ((l1_.getD 0 it0).2.2.2.1)]⟩), (1700, ⟨87, [VL C_ (n1_ - 1) c1_, I7 q_]⟩)]⟩ ?_
    exact hY23 _ _ _ ⟨l3_, rfl, rfl, hG27, ⟨hln3_, hh3_, hpm3_⟩⟩
   ·
    replace h28 : ¬ (((2 * i3_ + 1 : Nat) : Int) ≥ (((n1_ - 1) : Nat) : Int)) := of_decide_eq_false h28
    refine X.joinJ (Qc B50 199) [.blk 1, .loop J27, .blk 0] (fun s2_ R2_ G2_ => ∃ (k3_ : Nat), s2_ = ⟨67, [(0, .own 2700 0), (1, I6 (i3_ : Int)), (4, .mth 81 2700 0), (5, I6 (k3_ : Int))], [(1002, ⟨27, [I6 0, I6 0, I6 0, I6 0]⟩), (1004, ⟨27, [I6 ((l1_.getD 0 it0).1), I6 ((l1_.getD 0 it0).2.1), I6 ((l1_.getD 0 it0).2.2.1), I6 ((l1_.getD 0 it0).2.2.2.1)]⟩), (2700, ⟨87, [VL C_ (n1_ - 1) c1_, I7 q_]⟩)]⟩ ∧ R2_ = [(600, RR 89 5 C_ (n1_ - 1) c1_ (l3_.flatMap itC))] ∧ Ge G27 w.heap.size G2_ ∧ (0 < k3_ ∧ k3_ < (n1_ - 1) ∧ (k3_ - 1) / 2 = i3_ ∧ ∀ j_, 0 < j_ → j_ < l3_.length → (j_ - 1) / 2 = i3_ → ¬ ltI (at_ l3_ j_) (at_ l3_ k3_))) ?_ fun hY29 => ?_
    ·
     rintro s2_ R2_ G29 ⟨k3_, rfl, rfl, hG29, hF_⟩
     replace hr := hr.mono hG29.le
     replace hrx_ := hrx_.mono hG29.le
     obtain ⟨hk0_, hkn_, hki_, hkm_⟩ := hF_
     refine Rn 6 (Qo B50 796 3) [Qs B50 797, Qs B50 399, .blk 1, .loop J27, .blk 0] ⟨67, [(0, .own 2700 0), (1, I6 (i3_ : Int)), (4, .mth 81 2700 0), (5, I6 (k3_ : Int)), (35, .mth 81 2700 0), (36, I6 (k3_ : Int)), (37, I6 (i3_ : Int))], [(1002, ⟨27, [I6 0, I6 0, I6 0, I6 0]⟩), (1004, ⟨27, [I6 ((l1_.getD 0 it0).1), I6 ((l1_.getD 0 it0).2.1), I6 ((l1_.getD 0 it0).2.2.1), I6 ((l1_.getD 0 it0).2.2.2.1)]⟩), (2700, ⟨87, [VL C_ (n1_ - 1) c1_, I7 q_]⟩)]⟩ ?_
     refine X.joinCG (Qc B50 797) [Qs B50 399, .blk 1, .loop J27, .blk 0] ⟨67, [(0, .own 2700 0), (1, I6 (i3_ : Int)), (4, .mth 81 2700 0), (5, I6 (k3_ : Int)), (39, VB (!(decide (ltI (l3_.getD ((k3_ : Int)).toNat it0) (l3_.getD ((i3_ : Int)).toNat it0)))))], [(1002, ⟨27, [I6 0, I6 0, I6 0, I6 0]⟩), (1004, ⟨27, [I6 ((l1_.getD 0 it0).1), I6 ((l1_.getD 0 it0).2.1), I6 ((l1_.getD 0 it0).2.2.1), I6 ((l1_.getD 0 it0).2.2.2.1)]⟩), (2700, ⟨87, [VL C_ (n1_ - 1) c1_, I7 q_]⟩)]⟩ ?_ fun hY30 => ?_
     ·
      intro G30 hG30
      replace hr := hr.mono hG30.le
      replace hrx_ := hrx_.mono hG30.le
      refine Rn 0 (Qc B50 797) [Qs B50 399, .blk 1, .loop J27, .blk 0] ⟨67, [(0, .own 2700 0), (1, I6 (i3_ : Int)), (4, .mth 81 2700 0), (5, I6 (k3_ : Int)), (39, VB (!(decide (ltI (l3_.getD ((k3_ : Int)).toNat it0) (l3_.getD ((i3_ : Int)).toNat it0)))))], [(1002, ⟨27, [I6 0, I6 0, I6 0, I6 0]⟩), (1004, ⟨27, [I6 ((l1_.getD 0 it0).1), I6 ((l1_.getD 0 it0).2.1), I6 ((l1_.getD 0 it0).2.2.1), I6 ((l1_.getD 0 it0).2.2.2.1)]⟩), (2700, ⟨87, [VL C_ (n1_ - 1) c1_, I7 q_]⟩)]⟩ ?_
      refine X.split 39 rfl (fun h31 => ?_) (fun h31 => ?_)
      ·
       replace h31 : (decide (ltI (l3_.getD ((k3_ : Int)).toNat it0) (l3_.getD ((i3_ : Int)).toNat it0))) = false := by first | (simpa using h31; done) | (have h_ := congrArg (fun b_ => !b_) h31; simpa only [Bool.not_not, Bool.not_true, Bool.not_false] using h_)
       replace h31 : ¬ (ltI (l3_.getD ((k3_ : Int)).toNat it0) (l3_.getD ((i3_ : Int)).toNat it0)) := of_decide_eq_false h31
       have hnl_ : ¬ ltI (at_ l3_ k3_) (at_ l3_ i3_) := h31
       have hh3_ : HeapFrom l3_ 0 := down_end hdn_ (fun j_ h0_ h1_ h2_ => le_tr hnl_ (hkm_ j_ h0_ h1_ h2_))
       refine Rn 6 (.ex .ret) [] ⟨67, [], [(1002, ⟨27, [I6 0, I6 0, I6 0, I6 0]⟩), (1004, ⟨27, [I6 ((l1_.getD 0 it0).1), I6 ((l1_.getD 0 it0).2.1), I6 ((l1_.getD 0 it0).2.2.1), I6 ((l1_.getD 0 it0).2.2.2.1)]⟩), (2700, ⟨87, [VL C_ (n1_ - 1) c1_, I7 q_]⟩)]⟩ ?_
       refine fin26 _ _ _ _ [] [(2, ⟨27, [I6 0, I6 0, I6 0, I6 0]⟩), (4, ⟨27, [I6 ((l1_.getD 0 it0).1), I6 ((l1_.getD 0 it0).2.1), I6 ((l1_.getD 0 it0).2.2.1), I6 ((l1_.getD 0 it0).2.2.2.1)]⟩), (1700, ⟨87, [VL C_ (n1_ - 1) c1_, I7 q_]⟩)] (.inl rfl) (by kernel_rfl) (by kernel_rfl) ?_
       refine Rn 2 (Qc B16 255) [] ⟨45, [(2, .own 2 0), (3, VB false), (4, .own 4 0)], [(2, ⟨27, [I6 0, I6 0, I6 0, I6 0]⟩), (4, ⟨27, [I6 ((l1_.getD 0 it0).1), I6 ((l1_.getD 0 it0).2.1), I6 ((l1_.getD 0 it0).2.2.1), I6 ((l1_.getD 0 it0).2.2.2.1)]⟩), (1700, ⟨87, [VL C_ (n1_ - 1) c1_, I7 q_]⟩)]⟩ ?_
       exact hY23 _ _ _ ⟨l3_, rfl, rfl, ((hG27.trans hG29).trans hG30), ⟨hln3_, hh3_, hpm3_⟩⟩
      ·
       replace h31 : (decide (ltI (l3_.getD ((k3_ : Int)).toNat it0) (l3_.getD ((i3_ : Int)).toNat it0))) = true := by first | (simpa using h31; done) | (have h_ := congrArg (fun b_ => !b_) h31; simpa only [Bool.not_not, Bool.not_true, Bool.not_false] using h_)
       replace h31 : ltI (l3_.getD ((k3_ : Int)).toNat it0) (l3_.getD ((i3_ : Int)).toNat it0) := of_decide_eq_true h31
       have hlt_ : ltI (at_ l3_ k3_) (at_ l3_ i3_) := h31
       refine Rn 4 (Qc B50 798) [Qs B50 799, .blk 1, .loop J27, .blk 0] ⟨67, [(0, .own 2700 0), (1, I6 (i3_ : Int)), (4, .mth 81 2700 0), (5, I6 (k3_ : Int))], [(1002, ⟨27, [I6 0, I6 0, I6 0, I6 0]⟩), (1004, ⟨27, [I6 ((l1_.getD 0 it0).1), I6 ((l1_.getD 0 it0).2.1), I6 ((l1_.getD 0 it0).2.2.1), I6 ((l1_.getD 0 it0).2.2.2.1)]⟩), (2700, ⟨87, [VL C_ (n1_ - 1) c1_, I7 q_]⟩)]⟩ ?_
       have hr_d32 := hr
       have hrx__d32 := hrx_
       refine Og 6 B50 798 28 [⟨some 0, 2700, 87, [VL C_ (n1_ - 1) c1_, I7 q_]⟩] [(600, RR 89 5 C_ (n1_ - 1) c1_ (l3_.flatMap itC))] [25, 26, 27] ⟨⟨fun _ h => (by cases h; rfl), rfl⟩, trivial⟩ (by intro p hp hn; simp only [List.mem_cons, List.not_mem_nil, or_false] at hp; rcases hp with rfl <;> first | (cases hn; done) | exact hM26 _ (Nat.le_of_ble_eq_true rfl)) (fun ρ0 => ?_)
       refine Tk 0 28 1 B50 798 (.own 2700 0) hQ26 ?_
       refine XD.nilOwn (i := 1) (l' := (lb 28 3)) (oA B50 (pa 798) 1) (x := .tmp 40) (b := 2700) (off := 0) hQ26 (by kernel_rfl) (by kernel_rfl) (by kernel_rfl) (by kernel_rfl) (by kernel_rfl) (by kernel_rfl) ?_
       refine Tk 2 28 7 B50 798 (.own 2700 0) hQ26 ?_
       refine Tk 3 28 15 B50 798 (VL C_ (n1_ - 1) c1_) hQ26 ?_
       refine Tk 4 28 31 B50 798 (I6 (i3_ : Int)) hQ26 ?_
       refine Tk 5 28 63 B50 798 (.own 2700 0) hQ26 ?_
       refine XD.nilOwn (i := 6) (l' := (lb 28 127)) (oA B50 (pa 798) 6) (x := .tmp 45) (b := 2700) (off := 0) hQ26 (by kernel_rfl) (by kernel_rfl) (by kernel_rfl) (by kernel_rfl) (by kernel_rfl) (by kernel_rfl) ?_
       refine Tk 7 28 255 B50 798 (.own 2700 0) hQ26 ?_
       refine Tk 8 28 511 B50 798 (VL C_ (n1_ - 1) c1_) hQ26 ?_
       refine XD.pureMove (i := 9) (l' := (lb 28 1023)) (x := .tmp 5) (oA B50 (pa 798) 9) (I6 (k3_ : Int)) hQ26 (by kernel_rfl) (by kernel_rfl) (by kernel_rfl) (by kernel_rfl) (by kernel_rfl) (by kernel_rfl) ?_
       refine Tk 10 28 2047 B50 798 (.own 2700 0) hQ26 ?_
       refine XD.nilOwn (i := 11) (l' := (lb 28 4095)) (oA B50 (pa 798) 11) (x := .tmp 50) (b := 2700) (off := 0) hQ26 (by kernel_rfl) (by kernel_rfl) (by kernel_rfl) (by kernel_rfl) (by kernel_rfl) (by kernel_rfl) ?_
       refine Tk 12 28 8191 B50 798 (.own 2700 0) hQ26 ?_
       refine Tk 13 28 16383 B50 798 (VL C_ (n1_ - 1) c1_) hQ26 ?_
       refine Tk 14 28 32767 B50 798 (I6 (k3_ : Int)) hQ26 ?_
       have b33 : (0 : Int) ≤ (k3_ : Int) := by omega
       have b34 : (k3_ : Int) < (((n1_ - 1) : Nat) : Int) := by omega
       have at35 : At G30 [(600, ⟨89, 5, .slice C_ (n1_ - 1) c1_, (n1_ - 1), l3_.flatMap itC⟩)] C_ (((k3_ : Int)).toNat * 5) [.int .i64 ((l3_.getD (((k3_ : Int)).toNat) it0).1), .int .i64 ((l3_.getD (((k3_ : Int)).toNat) it0).2.1), .int .i64 ((l3_.getD (((k3_ : Int)).toNat) it0).2.2.1), .int .i64 ((l3_.getD (((k3_ : Int)).toNat) it0).2.2.2.1), .int .u64 ((l3_.getD (((k3_ : Int)).toNat) it0).2.2.2.2)] := At.rowF itC itC_len (i := 600) (r := ⟨89, 5, .slice C_ (n1_ - 1) c1_, (n1_ - 1), l3_.flatMap itC⟩) it0 rfl rfl rfl (by rw [hln3_]; omega)
       refine Dx 15 28 65535 B50 798 84 89 5 C_ (n1_ - 1) c1_ .i64 (k3_ : Int) (.tmp 53) (.tmp 54) hQ26 b33 b34 (rowSome (i := 600) (q := (RR 89 5 C_ (n1_ - 1) c1_ (l3_.flatMap itC))) rfl rfl (flat_pos itC_len (by decide) (by rw [hln3_]; omega))) ?_
       have at36 : At G30 [(600, ⟨89, 5, .slice C_ (n1_ - 1) c1_, (n1_ - 1), l3_.flatMap itC⟩)] C_ (((k3_ : Int)).toNat * 5) [.int .i64 ((l3_.getD (((k3_ : Int)).toNat) it0).1), .int .i64 ((l3_.getD (((k3_ : Int)).toNat) it0).2.1), .int .i64 ((l3_.getD (((k3_ : Int)).toNat) it0).2.2.1), .int .i64 ((l3_.getD (((k3_ : Int)).toNat) it0).2.2.2.1), .int .u64 ((l3_.getD (((k3_ : Int)).toNat) it0).2.2.2.2)] := At.rowF itC itC_len (i := 600) (r := ⟨89, 5, .slice C_ (n1_ - 1) c1_, (n1_ - 1), l3_.flatMap itC⟩) it0 rfl rfl rfl (by rw [hln3_]; omega)
       refine Dl 16 28 131071 B50 798 89 C_ (((k3_ : Int)).toNat * 5) (.tmp 55) (.agg #[N6 ((l3_.getD (((k3_ : Int)).toNat) it0).1), N6 ((l3_.getD (((k3_ : Int)).toNat) it0).2.1), N6 ((l3_.getD (((k3_ : Int)).toNat) it0).2.2.1), N6 ((l3_.getD (((k3_ : Int)).toNat) it0).2.2.2.1), N7 ((l3_.getD (((k3_ : Int)).toNat) it0).2.2.2.2)]) [N6 ((l3_.getD (((k3_ : Int)).toNat) it0).1), N6 ((l3_.getD (((k3_ : Int)).toNat) it0).2.1), N6 ((l3_.getD (((k3_ : Int)).toNat) it0).2.2.1), N6 ((l3_.getD (((k3_ : Int)).toNat) it0).2.2.2.1), N7 ((l3_.getD (((k3_ : Int)).toNat) it0).2.2.2.2)] hQ26 at36 ?_
       refine Tk 17 28 262143 B50 798 (.own 2700 0) hQ26 ?_
       refine XD.nilOwn (i := 18) (l' := (lb 28 524287)) (oA B50 (pa 798) 18) (x := .tmp 57) (b := 2700) (off := 0) hQ26 (by kernel_rfl) (by kernel_rfl) (by kernel_rfl) (by kernel_rfl) (by kernel_rfl) (by kernel_rfl) ?_
       refine Tk 19 28 1048575 B50 798 (.own 2700 0) hQ26 ?_
       refine Tk 20 28 2097151 B50 798 (VL C_ (n1_ - 1) c1_) hQ26 ?_
       refine Tk 21 28 4194303 B50 798 (I6 (i3_ : Int)) hQ26 ?_
       have b37 : (0 : Int) ≤ (i3_ : Int) := by omega
       have b38 : (i3_ : Int) < (((n1_ - 1) : Nat) : Int) := by omega
       have at39 : At G30 [(600, ⟨89, 5, .slice C_ (n1_ - 1) c1_, (n1_ - 1), l3_.flatMap itC⟩)] C_ (((i3_ : Int)).toNat * 5) [.int .i64 ((l3_.getD (((i3_ : Int)).toNat) it0).1), .int .i64 ((l3_.getD (((i3_ : Int)).toNat) it0).2.1), .int .i64 ((l3_.getD (((i3_ : Int)).toNat) it0).2.2.1), .int .i64 ((l3_.getD (((i3_ : Int)).toNat) it0).2.2.2.1), .int .u64 ((l3_.getD (((i3_ : Int)).toNat) it0).2.2.2.2)] := At.rowF itC itC_len (i := 600) (r := ⟨89, 5, .slice C_ (n1_ - 1) c1_, (n1_ - 1), l3_.flatMap itC⟩) it0 rfl rfl rfl (by rw [hln3_]; omega)
       refine Dx 22 28 8388607 B50 798 84 89 5 C_ (n1_ - 1) c1_ .i64 (i3_ : Int) (.tmp 60) (.tmp 61) hQ26 b37 b38 (rowSome (i := 600) (q := (RR 89 5 C_ (n1_ - 1) c1_ (l3_.flatMap itC))) rfl rfl (flat_pos itC_len (by decide) (by rw [hln3_]; omega))) ?_
       have at40 : At G30 [(600, ⟨89, 5, .slice C_ (n1_ - 1) c1_, (n1_ - 1), l3_.flatMap itC⟩)] C_ (((i3_ : Int)).toNat * 5) [.int .i64 ((l3_.getD (((i3_ : Int)).toNat) it0).1), .int .i64 ((l3_.getD (((i3_ : Int)).toNat) it0).2.1), .int .i64 ((l3_.getD (((i3_ : Int)).toNat) it0).2.2.1), .int .i64 ((l3_.getD (((i3_ : Int)).toNat) it0).2.2.2.1), .int .u64 ((l3_.getD (((i3_ : Int)).toNat) it0).2.2.2.2)] := At.rowF itC itC_len (i := 600) (r := ⟨89, 5, .slice C_ (n1_ - 1) c1_, (n1_ - 1), l3_.flatMap itC⟩) it0 rfl rfl rfl (by rw [hln3_]; omega)
       refine Dl 23 28 16777215 B50 798 89 C_ (((i3_ : Int)).toNat * 5) (.tmp 62) (.agg #[N6 ((l3_.getD (((i3_ : Int)).toNat) it0).1), N6 ((l3_.getD (((i3_ : Int)).toNat) it0).2.1), N6 ((l3_.getD (((i3_ : Int)).toNat) it0).2.2.1), N6 ((l3_.getD (((i3_ : Int)).toNat) it0).2.2.2.1), N7 ((l3_.getD (((i3_ : Int)).toNat) it0).2.2.2.2)]) [N6 ((l3_.getD (((i3_ : Int)).toNat) it0).1), N6 ((l3_.getD (((i3_ : Int)).toNat) it0).2.1), N6 ((l3_.getD (((i3_ : Int)).toNat) it0).2.2.1), N6 ((l3_.getD (((i3_ : Int)).toNat) it0).2.2.2.1), N7 ((l3_.getD (((i3_ : Int)).toNat) it0).2.2.2.2)] hQ26 at40 ?_
       have b41 : (0 : Int) ≤ (i3_ : Int) := by omega
       have b42 : (i3_ : Int) < (((n1_ - 1) : Nat) : Int) := by omega
       have at43 : At G30 [(600, ⟨89, 5, .slice C_ (n1_ - 1) c1_, (n1_ - 1), l3_.flatMap itC⟩)] C_ (((i3_ : Int)).toNat * 5) [.int .i64 ((l3_.getD (((i3_ : Int)).toNat) it0).1), .int .i64 ((l3_.getD (((i3_ : Int)).toNat) it0).2.1), .int .i64 ((l3_.getD (((i3_ : Int)).toNat) it0).2.2.1), .int .i64 ((l3_.getD (((i3_ : Int)).toNat) it0).2.2.2.1), .int .u64 ((l3_.getD (((i3_ : Int)).toNat) it0).2.2.2.2)] := At.rowF itC itC_len (i := 600) (r := ⟨89, 5, .slice C_ (n1_ - 1) c1_, (n1_ - 1), l3_.flatMap itC⟩) it0 rfl rfl rfl (by rw [hln3_]; omega)
       refine Dx 24 28 33554431 B50 798 84 89 5 C_ (n1_ - 1) c1_ .i64 (i3_ : Int) (.tmp 43) (.tmp 44) hQ26 b41 b42 (rowSome (i := 600) (q := (RR 89 5 C_ (n1_ - 1) c1_ (l3_.flatMap itC))) rfl rfl (flat_pos itC_len (by decide) (by rw [hln3_]; omega))) ?_
       refine XD.toE ?_
       refine En ⟨67, [(0, .own 2700 0), (1, I6 (i3_ : Int)), (4, .mth 81 2700 0), (5, I6 (k3_ : Int)), (48, VL C_ (n1_ - 1) c1_), (49, I6 (k3_ : Int)), (56, .v (.agg #[N6 ((l3_.getD (((k3_ : Int)).toNat) it0).1), N6 ((l3_.getD (((k3_ : Int)).toNat) it0).2.1), N6 ((l3_.getD (((k3_ : Int)).toNat) it0).2.2.1), N6 ((l3_.getD (((k3_ : Int)).toNat) it0).2.2.2.1), N7 ((l3_.getD (((k3_ : Int)).toNat) it0).2.2.2.2)])), (63, .v (.agg #[N6 ((l3_.getD (((i3_ : Int)).toNat) it0).1), N6 ((l3_.getD (((i3_ : Int)).toNat) it0).2.1), N6 ((l3_.getD (((i3_ : Int)).toNat) it0).2.2.1), N6 ((l3_.getD (((i3_ : Int)).toNat) it0).2.2.2.1), N7 ((l3_.getD (((i3_ : Int)).toNat) it0).2.2.2.2)])), (64, .v (elt C_ (((i3_ : Int)).toNat * 5)))], [(1002, ⟨27, [I6 0, I6 0, I6 0, I6 0]⟩), (1004, ⟨27, [I6 ((l1_.getD 0 it0).1), I6 ((l1_.getD 0 it0).2.1), I6 ((l1_.getD 0 it0).2.2.1), I6 ((l1_.getD 0 it0).2.2.2.1)]⟩), (2700, ⟨87, [VL C_ (n1_ - 1) c1_, I7 q_]⟩)]⟩ ?_
       refine Eo 25 28 67108863 B50 798 ?_
       refine X.storeElem (i := 600) (t := 89) (j := ((i3_ : Int)).toNat * 5) (n := (n1_ - 1)) (c := c1_) (q := (RR 89 5 C_ (n1_ - 1) c1_ (l3_.flatMap itC))) (A := C_) (x := .tmp 64) (y := .tmp 56) (z := .agg #[N6 ((l3_.getD (((k3_ : Int)).toNat) it0).1), N6 ((l3_.getD (((k3_ : Int)).toNat) it0).2.1), N6 ((l3_.getD (((k3_ : Int)).toNat) it0).2.2.1), N6 ((l3_.getD (((k3_ : Int)).toNat) it0).2.2.2.1), N7 ((l3_.getD (((k3_ : Int)).toNat) it0).2.2.2.2)]) (by kernel_rfl) (by kernel_rfl) (by kernel_rfl) rfl rfl (by kernel_rfl) (by rw [show _ = _ from flat_len itC_len _, hln3_]; show ((i3_ : Int)).toNat * 5 + 5 ≤ _; omega) (by kernel_rfl) (Nat.succ_pos _) (by kernel_rfl) ?_
       refine X.tellR [600] (R' := [(600, RR 89 5 C_ (n1_ - 1) c1_ ((l3_.set (((i3_ : Int)).toNat) ((l3_.getD (((k3_ : Int)).toNat) it0).1, (l3_.getD (((k3_ : Int)).toNat) it0).2.1, (l3_.getD (((k3_ : Int)).toNat) it0).2.2.1, (l3_.getD (((k3_ : Int)).toNat) it0).2.2.2.1, (l3_.getD (((k3_ : Int)).toNat) it0).2.2.2.2)).flatMap itC))]) (congrArg (fun cs_ => (600, (RR 89 5 C_ (n1_ - 1) c1_ cs_ : Row)) :: []) (splice_flat itC_len (((l3_.getD (((k3_ : Int)).toNat) it0).1, (l3_.getD (((k3_ : Int)).toNat) it0).2.1, (l3_.getD (((k3_ : Int)).toNat) it0).2.2.1, (l3_.getD (((k3_ : Int)).toNat) it0).2.2.2.1, (l3_.getD (((k3_ : Int)).toNat) it0).2.2.2.2) : Item) l3_ (((i3_ : Int)).toNat) (by rw [hln3_]; omega))) ?_
       obtain ⟨l44, hl44⟩ : ∃ z_, (l3_.set (((i3_ : Int)).toNat) ((l3_.getD (((k3_ : Int)).toNat) it0).1, (l3_.getD (((k3_ : Int)).toNat) it0).2.1, (l3_.getD (((k3_ : Int)).toNat) it0).2.2.1, (l3_.getD (((k3_ : Int)).toNat) it0).2.2.2.1, (l3_.getD (((k3_ : Int)).toNat) it0).2.2.2.2)) = z_ := ⟨_, rfl⟩
       rw [hl44]
       have hn44 : l44.length = (n1_ - 1) := by rw [← hl44, List.length_set, hln3_]
       refine X.back ?_
       refine En ⟨67, [(0, .own 2700 0), (1, I6 (i3_ : Int)), (4, .mth 81 2700 0), (5, I6 (k3_ : Int)), (48, VL C_ (n1_ - 1) c1_), (49, I6 (k3_ : Int)), (63, .v (.agg #[N6 ((l3_.getD (((i3_ : Int)).toNat) it0).1), N6 ((l3_.getD (((i3_ : Int)).toNat) it0).2.1), N6 ((l3_.getD (((i3_ : Int)).toNat) it0).2.2.1), N6 ((l3_.getD (((i3_ : Int)).toNat) it0).2.2.2.1), N7 ((l3_.getD (((i3_ : Int)).toNat) it0).2.2.2.2)]))], [(1002, ⟨27, [I6 0, I6 0, I6 0, I6 0]⟩), (1004, ⟨27, [I6 ((l1_.getD 0 it0).1), I6 ((l1_.getD 0 it0).2.1), I6 ((l1_.getD 0 it0).2.2.1), I6 ((l1_.getD 0 it0).2.2.2.1)]⟩), (2700, ⟨87, [VL C_ (n1_ - 1) c1_, I7 q_]⟩)]⟩ ?_
       refine Eo 26 28 134217727 B50 798 ?_
       have b45 : (0 : Int) ≤ (k3_ : Int) := by omega
       have b46 : (k3_ : Int) < (((n1_ - 1) : Nat) : Int) := by omega
       refine Ix 84 89 5 C_ (n1_ - 1) c1_ .i64 (k3_ : Int) (.tmp 48) (.tmp 49) b45 b46 (rowSome (i := 600) (q := (RR 89 5 C_ (n1_ - 1) c1_ (l44.flatMap itC))) rfl rfl (flat_pos itC_len (by decide) (by rw [hn44]; omega))) ?_
       have at47 : At G30 [(600, ⟨89, 5, .slice C_ (n1_ - 1) c1_, (n1_ - 1), l44.flatMap itC⟩)] C_ (((k3_ : Int)).toNat * 5) [.int .i64 ((l44.getD (((k3_ : Int)).toNat) it0).1), .int .i64 ((l44.getD (((k3_ : Int)).toNat) it0).2.1), .int .i64 ((l44.getD (((k3_ : Int)).toNat) it0).2.2.1), .int .i64 ((l44.getD (((k3_ : Int)).toNat) it0).2.2.2.1), .int .u64 ((l44.getD (((k3_ : Int)).toNat) it0).2.2.2.2)] := At.rowF itC itC_len (i := 600) (r := ⟨89, 5, .slice C_ (n1_ - 1) c1_, (n1_ - 1), l44.flatMap itC⟩) it0 rfl rfl rfl (by rw [hn44]; omega)
       refine X.back ?_
       refine En ⟨67, [(0, .own 2700 0), (1, I6 (i3_ : Int)), (4, .mth 81 2700 0), (5, I6 (k3_ : Int)), (63, .v (.agg #[N6 ((l3_.getD (((i3_ : Int)).toNat) it0).1), N6 ((l3_.getD (((i3_ : Int)).toNat) it0).2.1), N6 ((l3_.getD (((i3_ : Int)).toNat) it0).2.2.1), N6 ((l3_.getD (((i3_ : Int)).toNat) it0).2.2.2.1), N7 ((l3_.getD (((i3_ : Int)).toNat) it0).2.2.2.2)])), (65, .v (elt C_ (((k3_ : Int)).toNat * 5)))], [(1002, ⟨27, [I6 0, I6 0, I6 0, I6 0]⟩), (1004, ⟨27, [I6 ((l1_.getD 0 it0).1), I6 ((l1_.getD 0 it0).2.1), I6 ((l1_.getD 0 it0).2.2.1), I6 ((l1_.getD 0 it0).2.2.2.1)]⟩), (2700, ⟨87, [VL C_ (n1_ - 1) c1_, I7 q_]⟩)]⟩ ?_
       refine Eo 27 28 268435455 B50 798 ?_
       refine X.storeElem (i := 600) (t := 89) (j := ((k3_ : Int)).toNat * 5) (n := (n1_ - 1)) (c := c1_) (q := (RR 89 5 C_ (n1_ - 1) c1_ (l44.flatMap itC))) (A := C_) (x := .tmp 65) (y := .tmp 63) (z := .agg #[N6 ((l3_.getD (((i3_ : Int)).toNat) it0).1), N6 ((l3_.getD (((i3_ : Int)).toNat) it0).2.1), N6 ((l3_.getD (((i3_ : Int)).toNat) it0).2.2.1), N6 ((l3_.getD (((i3_ : Int)).toNat) it0).2.2.2.1), N7 ((l3_.getD (((i3_ : Int)).toNat) it0).2.2.2.2)]) (by kernel_rfl) (by kernel_rfl) (by kernel_rfl) rfl rfl (by kernel_rfl) (by rw [show _ = _ from flat_len itC_len _, hn44]; show ((k3_ : Int)).toNat * 5 + 5 ≤ _; omega) (by kernel_rfl) (Nat.succ_pos _) (by kernel_rfl) ?_
       refine X.tellR [600] (R' := [(600, RR 89 5 C_ (n1_ - 1) c1_ ((l44.set (((k3_ : Int)).toNat) ((l3_.getD (((i3_ : Int)).toNat) it0).1, (l3_.getD (((i3_ : Int)).toNat) it0).2.1, (l3_.getD (((i3_ : Int)).toNat) it0).2.2.1, (l3_.getD (((i3_ : Int)).toNat) it0).2.2.2.1, (l3_.getD (((i3_ : Int)).toNat) it0).2.2.2.2)).flatMap itC))]) (congrArg (fun cs_ => (600, (RR 89 5 C_ (n1_ - 1) c1_ cs_ : Row)) :: []) (splice_flat itC_len (((l3_.getD (((i3_ : Int)).toNat) it0).1, (l3_.getD (((i3_ : Int)).toNat) it0).2.1, (l3_.getD (((i3_ : Int)).toNat) it0).2.2.1, (l3_.getD (((i3_ : Int)).toNat) it0).2.2.2.1, (l3_.getD (((i3_ : Int)).toNat) it0).2.2.2.2) : Item) l44 (((k3_ : Int)).toNat) (by rw [hn44]; omega))) ?_
       obtain ⟨l48, hl48⟩ : ∃ z_, (l44.set (((k3_ : Int)).toNat) ((l3_.getD (((i3_ : Int)).toNat) it0).1, (l3_.getD (((i3_ : Int)).toNat) it0).2.1, (l3_.getD (((i3_ : Int)).toNat) it0).2.2.1, (l3_.getD (((i3_ : Int)).toNat) it0).2.2.2.1, (l3_.getD (((i3_ : Int)).toNat) it0).2.2.2.2)) = z_ := ⟨_, rfl⟩
       rw [hl48]
       have hn48 : l48.length = (n1_ - 1) := by rw [← hl48, List.length_set, hn44]
       refine X.back ?_
       refine XE.done (by kernel_rfl) ?_
       refine Rn 6 (.ex .normal) [.loop J27, .blk 0] ⟨67, [(0, .own 2700 0), (1, I6 (k3_ : Int)), (4, .mth 81 2700 0)], [(1002, ⟨27, [I6 0, I6 0, I6 0, I6 0]⟩), (1004, ⟨27, [I6 ((l1_.getD 0 it0).1), I6 ((l1_.getD 0 it0).2.1), I6 ((l1_.getD 0 it0).2.2.1), I6 ((l1_.getD 0 it0).2.2.2.1)]⟩), (2700, ⟨87, [VL C_ (n1_ - 1) c1_, I7 q_]⟩)]⟩ ?_
       have hsw_ : l48 = swp l3_ i3_ k3_ := by rw [← hl48, ← hl44]; rfl
       exact X.again (hJ27 _ _ _ _ ⟨k3_, l48, rfl, rfl, ((hG27.trans hG29).trans hG30), ⟨⟨by omega, by omega⟩, by rw [hsw_, swp_len]; exact hln3_, by rw [hsw_]; exact down_step hdn_ hri3_ hk0_ (by omega) hki_ hkm_ hlt_, by rw [hsw_]; exact (swp_perm (by omega) (by omega)).trans hpm3_⟩, rfl⟩ (by omega))
     ·
      refine X.inline (f := 81) (l := [.own 2700 0, I6 (k3_ : Int), I6 (i3_ : Int)]) (fn := Try.f81) (c := B81) (by kernel_rfl) (by kernel_rfl) Try.func81 (by kernel_rfl) ?_
      intro Q49 M49 hM49 hQ49 fin49
      refine Rn 6 (Qc B81 6) [Qs B81 7] ⟨52, [(0, .own 3700 0), (1, I6 (k3_ : Int)), (2, I6 (i3_ : Int)), (6, VB false)], [(2002, ⟨27, [I6 0, I6 0, I6 0, I6 0]⟩), (2004, ⟨27, [I6 ((l1_.getD 0 it0).1), I6 ((l1_.getD 0 it0).2.1), I6 ((l1_.getD 0 it0).2.2.1), I6 ((l1_.getD 0 it0).2.2.2.1)]⟩), (3700, ⟨87, [VL C_ (n1_ - 1) c1_, I7 q_]⟩)]⟩ ?_
      have hr_d50 := hr
      have hrx__d50 := hrx_
      refine Og 1 B81 6 14 [⟨some 0, 3700, 87, [VL C_ (n1_ - 1) c1_, I7 q_]⟩] [(600, RR 89 5 C_ (n1_ - 1) c1_ (l3_.flatMap itC))] [] ⟨⟨fun _ h => (by cases h; rfl), rfl⟩, trivial⟩ (by intro p hp hn; simp only [List.mem_cons, List.not_mem_nil, or_false] at hp; rcases hp with rfl <;> first | (cases hn; done) | exact hM49 _ (Nat.le_of_ble_eq_true rfl)) (fun ρ0 => ?_)
      refine Tk 0 14 1 B81 6 (.own 3700 0) hQ49 ?_
      refine XD.nilOwn (i := 1) (l' := (lb 14 3)) (oA B81 (pa 6) 1) (x := .tmp 9) (b := 3700) (off := 0) hQ49 (by kernel_rfl) (by kernel_rfl) (by kernel_rfl) (by kernel_rfl) (by kernel_rfl) (by kernel_rfl) ?_
      refine Tk 2 14 7 B81 6 (.own 3700 0) hQ49 ?_
      refine Tk 3 14 15 B81 6 (VL C_ (n1_ - 1) c1_) hQ49 ?_
      refine Tk 4 14 31 B81 6 (I6 (k3_ : Int)) hQ49 ?_
      have b51 : (0 : Int) ≤ (k3_ : Int) := by omega
      have b52 : (k3_ : Int) < (((n1_ - 1) : Nat) : Int) := by omega
      have at53 : At G29 [(600, ⟨89, 5, .slice C_ (n1_ - 1) c1_, (n1_ - 1), l3_.flatMap itC⟩)] C_ (((k3_ : Int)).toNat * 5) [.int .i64 ((l3_.getD (((k3_ : Int)).toNat) it0).1), .int .i64 ((l3_.getD (((k3_ : Int)).toNat) it0).2.1), .int .i64 ((l3_.getD (((k3_ : Int)).toNat) it0).2.2.1), .int .i64 ((l3_.getD (((k3_ : Int)).toNat) it0).2.2.2.1), .int .u64 ((l3_.getD (((k3_ : Int)).toNat) it0).2.2.2.2)] := At.rowF itC itC_len (i := 600) (r := ⟨89, 5, .slice C_ (n1_ - 1) c1_, (n1_ - 1), l3_.flatMap itC⟩) it0 rfl rfl rfl (by rw [hln3_]; omega)
      refine Dx 5 14 63 B81 6 84 89 5 C_ (n1_ - 1) c1_ .i64 (k3_ : Int) (.tmp 12) (.tmp 13) hQ49 b51 b52 (rowSome (i := 600) (q := (RR 89 5 C_ (n1_ - 1) c1_ (l3_.flatMap itC))) rfl rfl (flat_pos itC_len (by decide) (by rw [hln3_]; omega))) ?_
      refine Tk 6 14 127 B81 6 (.own 3700 0) hQ49 ?_
      refine XD.nilOwn (i := 7) (l' := (lb 14 255)) (oA B81 (pa 6) 7) (x := .tmp 15) (b := 3700) (off := 0) hQ49 (by kernel_rfl) (by kernel_rfl) (by kernel_rfl) (by kernel_rfl) (by kernel_rfl) (by kernel_rfl) ?_
      refine Tk 8 14 511 B81 6 (.own 3700 0) hQ49 ?_
      refine Tk 9 14 1023 B81 6 (VL C_ (n1_ - 1) c1_) hQ49 ?_
      refine Tk 10 14 2047 B81 6 (I6 (i3_ : Int)) hQ49 ?_
      have b54 : (0 : Int) ≤ (i3_ : Int) := by omega
      have b55 : (i3_ : Int) < (((n1_ - 1) : Nat) : Int) := by omega
      have at56 : At G29 [(600, ⟨89, 5, .slice C_ (n1_ - 1) c1_, (n1_ - 1), l3_.flatMap itC⟩)] C_ (((i3_ : Int)).toNat * 5) [.int .i64 ((l3_.getD (((i3_ : Int)).toNat) it0).1), .int .i64 ((l3_.getD (((i3_ : Int)).toNat) it0).2.1), .int .i64 ((l3_.getD (((i3_ : Int)).toNat) it0).2.2.1), .int .i64 ((l3_.getD (((i3_ : Int)).toNat) it0).2.2.2.1), .int .u64 ((l3_.getD (((i3_ : Int)).toNat) it0).2.2.2.2)] := At.rowF itC itC_len (i := 600) (r := ⟨89, 5, .slice C_ (n1_ - 1) c1_, (n1_ - 1), l3_.flatMap itC⟩) it0 rfl rfl rfl (by rw [hln3_]; omega)
      refine Dx 11 14 4095 B81 6 84 89 5 C_ (n1_ - 1) c1_ .i64 (i3_ : Int) (.tmp 18) (.tmp 19) hQ49 b54 b55 (rowSome (i := 600) (q := (RR 89 5 C_ (n1_ - 1) c1_ (l3_.flatMap itC))) rfl rfl (flat_pos itC_len (by decide) (by rw [hln3_]; omega))) ?_
      refine Ts [12, 13] 14 16383 0 2 hQ49 ?_
      refine XD.done (by kernel_rfl) ?_
      refine Rn 3 (Qc B81 28) [Qs B81 29, Qs B81 15] ⟨52, [(6, VB false), (7, .v (elt C_ (((k3_ : Int)).toNat * 5))), (8, .v (elt C_ (((i3_ : Int)).toNat * 5)))], [(2002, ⟨27, [I6 0, I6 0, I6 0, I6 0]⟩), (2004, ⟨27, [I6 ((l1_.getD 0 it0).1), I6 ((l1_.getD 0 it0).2.1), I6 ((l1_.getD 0 it0).2.2.1), I6 ((l1_.getD 0 it0).2.2.2.1)]⟩), (3700, ⟨87, [VL C_ (n1_ - 1) c1_, I7 q_]⟩)]⟩ ?_
      have hr_d57 := hr
      have hrx__d57 := hrx_
      refine Og 2 B81 28 11 [] [(600, RR 89 5 C_ (n1_ - 1) c1_ (l3_.flatMap itC))] [] trivial (by simp) (fun ρ0 => ?_)
      refine Tk 0 11 1 B81 28 (.v (elt C_ (((k3_ : Int)).toNat * 5))) hQ49 ?_
      refine XD.nilElt (i := 1) (l' := (lb 11 3)) (oA B81 (pa 28) 1) (x := .tmp 21) (A := C_) (j := ((k3_ : Int)).toNat * 5) hQ49 (by kernel_rfl) (by kernel_rfl) (by kernel_rfl) (by kernel_rfl) (by kernel_rfl) (by kernel_rfl) ?_
      refine XD.field (i := 2) (l' := (lb 11 7)) (o := (oA B81 (pa 28) 2)) (t := 89) (f := 0) (n := 0) (A := C_) (j := ((k3_ : Int)).toNat * 5) (x := .tmp 22) hQ49 (by kernel_rfl) (by kernel_rfl) (by kernel_rfl) (by kernel_rfl) (by kernel_rfl) (by kernel_rfl) (by kernel_rfl) ?_
      refine XD.field (i := 3) (l' := (lb 11 15)) (o := (oA B81 (pa 28) 3)) (t := 27) (f := 0) (n := 0) (A := C_) (j := ((k3_ : Int)).toNat * 5 + 0) (x := .tmp 23) hQ49 (by kernel_rfl) (by kernel_rfl) (by kernel_rfl) (by kernel_rfl) (by kernel_rfl) (by kernel_rfl) (by kernel_rfl) ?_
      have at58 : At G29 [(600, ⟨89, 5, .slice C_ (n1_ - 1) c1_, (n1_ - 1), l3_.flatMap itC⟩)] C_ (((k3_ : Int)).toNat * 5) [.int .i64 ((l3_.getD (((k3_ : Int)).toNat) it0).1), .int .i64 ((l3_.getD (((k3_ : Int)).toNat) it0).2.1), .int .i64 ((l3_.getD (((k3_ : Int)).toNat) it0).2.2.1), .int .i64 ((l3_.getD (((k3_ : Int)).toNat) it0).2.2.2.1), .int .u64 ((l3_.getD (((k3_ : Int)).toNat) it0).2.2.2.2)] := At.rowF itC itC_len (i := 600) (r := ⟨89, 5, .slice C_ (n1_ - 1) c1_, (n1_ - 1), l3_.flatMap itC⟩) it0 rfl rfl rfl (by rw [hln3_]; omega)
      refine Dl 4 11 31 B81 28 2 C_ (((k3_ : Int)).toNat * 5 + 0 + 0) (.tmp 24) (N6 ((l3_.getD (((k3_ : Int)).toNat) it0).1)) [N6 ((l3_.getD (((k3_ : Int)).toNat) it0).1)] hQ49 (at58.part 0 1) ?_
      refine Tk 5 11 63 B81 28 (.v (elt C_ (((i3_ : Int)).toNat * 5))) hQ49 ?_
      refine XD.nilElt (i := 6) (l' := (lb 11 127)) (oA B81 (pa 28) 6) (x := .tmp 26) (A := C_) (j := ((i3_ : Int)).toNat * 5) hQ49 (by kernel_rfl) (by kernel_rfl) (by kernel_rfl) (by kernel_rfl) (by kernel_rfl) (by kernel_rfl) ?_
      refine XD.field (i := 7) (l' := (lb 11 255)) (o := (oA B81 (pa 28) 7)) (t := 89) (f := 0) (n := 0) (A := C_) (j := ((i3_ : Int)).toNat * 5) (x := .tmp 27) hQ49 (by kernel_rfl) (by kernel_rfl) (by kernel_rfl) (by kernel_rfl) (by kernel_rfl) (by kernel_rfl) (by kernel_rfl) ?_
      refine XD.field (i := 8) (l' := (lb 11 511)) (o := (oA B81 (pa 28) 8)) (t := 27) (f := 0) (n := 0) (A := C_) (j := ((i3_ : Int)).toNat * 5 + 0) (x := .tmp 28) hQ49 (by kernel_rfl) (by kernel_rfl) (by kernel_rfl) (by kernel_rfl) (by kernel_rfl) (by kernel_rfl) (by kernel_rfl) ?_
      have at59 : At G29 [(600, ⟨89, 5, .slice C_ (n1_ - 1) c1_, (n1_ - 1), l3_.flatMap itC⟩)] C_ (((i3_ : Int)).toNat * 5) [.int .i64 ((l3_.getD (((i3_ : Int)).toNat) it0).1), .int .i64 ((l3_.getD (((i3_ : Int)).toNat) it0).2.1), .int .i64 ((l3_.getD (((i3_ : Int)).toNat) it0).2.2.1), .int .i64 ((l3_.getD (((i3_ : Int)).toNat) it0).2.2.2.1), .int .u64 ((l3_.getD (((i3_ : Int)).toNat) it0).2.2.2.2)] := At.rowF itC itC_len (i := 600) (r := ⟨89, 5, .slice C_ (n1_ - 1) c1_, (n1_ - 1), l3_.flatMap itC⟩) it0 rfl rfl rfl (by rw [hln3_]; omega)
      refine Dl 9 11 1023 B81 28 2 C_ (((i3_ : Int)).toNat * 5 + 0 + 0) (.tmp 29) (N6 ((l3_.getD (((i3_ : Int)).toNat) it0).1)) [N6 ((l3_.getD (((i3_ : Int)).toNat) it0).1)] hQ49 (at59.part 0 1) ?_
      refine Ts [10] 11 2047 0 1 hQ49 ?_
      refine XD.done (by kernel_rfl) ?_
      refine Rn 1 (Qc B81 29) [Qs B81 15] ⟨52, [(6, VB false), (7, .v (elt C_ (((k3_ : Int)).toNat * 5))), (8, .v (elt C_ (((i3_ : Int)).toNat * 5))), (31, VB (((l3_.getD (((k3_ : Int)).toNat) it0).1) != ((l3_.getD (((i3_ : Int)).toNat) it0).1)))], [(2002, ⟨27, [I6 0, I6 0, I6 0, I6 0]⟩), (2004, ⟨27, [I6 ((l1_.getD 0 it0).1), I6 ((l1_.getD 0 it0).2.1), I6 ((l1_.getD 0 it0).2.2.1), I6 ((l1_.getD 0 it0).2.2.2.1)]⟩), (3700, ⟨87, [VL C_ (n1_ - 1) c1_, I7 q_]⟩)]⟩ ?_
      refine X.split 31 rfl (fun h60 => ?_) (fun h60 => ?_)
      ·
       replace h60 : ((l3_.getD (((k3_ : Int)).toNat) it0).1) ≠ ((l3_.getD (((i3_ : Int)).toNat) it0).1) := by simpa using h60
       refine Rn 2 (Qc B81 116) [Qs B81 117, Qs B81 15] ⟨52, [(6, VB false), (7, .v (elt C_ (((k3_ : Int)).toNat * 5))), (8, .v (elt C_ (((i3_ : Int)).toNat * 5)))], [(2002, ⟨27, [I6 0, I6 0, I6 0, I6 0]⟩), (2004, ⟨27, [I6 ((l1_.getD 0 it0).1), I6 ((l1_.getD 0 it0).2.1), I6 ((l1_.getD 0 it0).2.2.1), I6 ((l1_.getD 0 it0).2.2.2.1)]⟩), (3700, ⟨87, [VL C_ (n1_ - 1) c1_, I7 q_]⟩)]⟩ ?_
       have hr_d61 := hr
       have hrx__d61 := hrx_
       refine Og 3 B81 116 12 [] [(600, RR 89 5 C_ (n1_ - 1) c1_ (l3_.flatMap itC))] [] trivial (by simp) (fun ρ0 => ?_)
       refine Tk 0 12 1 B81 116 (.v (elt C_ (((k3_ : Int)).toNat * 5))) hQ49 ?_
       refine XD.nilElt (i := 1) (l' := (lb 12 3)) (oA B81 (pa 116) 1) (x := .tmp 32) (A := C_) (j := ((k3_ : Int)).toNat * 5) hQ49 (by kernel_rfl) (by kernel_rfl) (by kernel_rfl) (by kernel_rfl) (by kernel_rfl) (by kernel_rfl) ?_
       refine XD.field (i := 2) (l' := (lb 12 7)) (o := (oA B81 (pa 116) 2)) (t := 89) (f := 0) (n := 0) (A := C_) (j := ((k3_ : Int)).toNat * 5) (x := .tmp 33) hQ49 (by kernel_rfl) (by kernel_rfl) (by kernel_rfl) (by kernel_rfl) (by kernel_rfl) (by kernel_rfl) (by kernel_rfl) ?_
       refine XD.field (i := 3) (l' := (lb 12 15)) (o := (oA B81 (pa 116) 3)) (t := 27) (f := 0) (n := 0) (A := C_) (j := ((k3_ : Int)).toNat * 5 + 0) (x := .tmp 34) hQ49 (by kernel_rfl) (by kernel_rfl) (by kernel_rfl) (by kernel_rfl) (by kernel_rfl) (by kernel_rfl) (by kernel_rfl) ?_
       have at62 : At G29 [(600, ⟨89, 5, .slice C_ (n1_ - 1) c1_, (n1_ - 1), l3_.flatMap itC⟩)] C_ (((k3_ : Int)).toNat * 5) [.int .i64 ((l3_.getD (((k3_ : Int)).toNat) it0).1), .int .i64 ((l3_.getD (((k3_ : Int)).toNat) it0).2.1), .int .i64 ((l3_.getD (((k3_ : Int)).toNat) it0).2.2.1), .int .i64 ((l3_.getD (((k3_ : Int)).toNat) it0).2.2.2.1), .int .u64 ((l3_.getD (((k3_ : Int)).toNat) it0).2.2.2.2)] := At.rowF itC itC_len (i := 600) (r := ⟨89, 5, .slice C_ (n1_ - 1) c1_, (n1_ - 1), l3_.flatMap itC⟩) it0 rfl rfl rfl (by rw [hln3_]; omega)
       refine Dl 4 12 31 B81 116 2 C_ (((k3_ : Int)).toNat * 5 + 0 + 0) (.tmp 35) (N6 ((l3_.getD (((k3_ : Int)).toNat) it0).1)) [N6 ((l3_.getD (((k3_ : Int)).toNat) it0).1)] hQ49 (at62.part 0 1) ?_
       refine Tk 5 12 63 B81 116 (.v (elt C_ (((i3_ : Int)).toNat * 5))) hQ49 ?_
       refine XD.nilElt (i := 6) (l' := (lb 12 127)) (oA B81 (pa 116) 6) (x := .tmp 37) (A := C_) (j := ((i3_ : Int)).toNat * 5) hQ49 (by kernel_rfl) (by kernel_rfl) (by kernel_rfl) (by kernel_rfl) (by kernel_rfl) (by kernel_rfl) ?_
       refine XD.field (i := 7) (l' := (lb 12 255)) (o := (oA B81 (pa 116) 7)) (t := 89) (f := 0) (n := 0) (A := C_) (j := ((i3_ : Int)).toNat * 5) (x := .tmp 38) hQ49 (by kernel_rfl) (by kernel_rfl) (by kernel_rfl) (by kernel_rfl) (by kernel_rfl) (by kernel_rfl) (by kernel_rfl) ?_
       refine XD.field (i := 8) (l' := (lb 12 511)) (o := (oA B81 (pa 116) 8)) (t := 27) (f := 0) (n := 0) (A := C_) (j := ((i3_ : Int)).toNat * 5 + 0) (x := .tmp 39) hQ49 (by kernel_rfl) (by kernel_rfl) (by kernel_rfl) (by kernel_rfl) (by kernel_rfl) (by kernel_rfl) (by kernel_rfl) ?_
       have at63 : At G29 [(600, ⟨89, 5, .slice C_ (n1_ - 1) c1_, (n1_ - 1), l3_.flatMap itC⟩)] C_ (((i3_ : Int)).toNat * 5) [.int .i64 ((l3_.getD (((i3_ : Int)).toNat) it0).1), .int .i64 ((l3_.getD (((i3_ : Int)).toNat) it0).2.1), .int .i64 ((l3_.getD (((i3_ : Int)).toNat) it0).2.2.1), .int .i64 ((l3_.getD (((i3_ : Int)).toNat) it0).2.2.2.1), .int .u64 ((l3_.getD (((i3_ : Int)).toNat) it0).2.2.2.2)] := At.rowF itC itC_len (i := 600) (r := ⟨89, 5, .slice C_ (n1_ - 1) c1_, (n1_ - 1), l3_.flatMap itC⟩) it0 rfl rfl rfl (by rw [hln3_]; omega)
       refine Dl 9 12 1023 B81 116 2 C_ (((i3_ : Int)).toNat * 5 + 0 + 0) (.tmp 40) (N6 ((l3_.getD (((i3_ : Int)).toNat) it0).1)) [N6 ((l3_.getD (((i3_ : Int)).toNat) it0).1)] hQ49 (at63.part 0 1) ?_
       refine Ts [10, 11] 12 4095 0 2 hQ49 ?_
       refine XD.done (by kernel_rfl) ?_
       refine Rn 3 (.ex .ret) [] ⟨52, [(6, VB (decide ((l3_.getD (((k3_ : Int)).toNat) it0).1 < (l3_.getD (((i3_ : Int)).toNat) it0).1)))], [(2002, ⟨27, [I6 0, I6 0, I6 0, I6 0]⟩), (2004, ⟨27, [I6 ((l1_.getD 0 it0).1), I6 ((l1_.getD 0 it0).2.1), I6 ((l1_.getD 0 it0).2.2.1), I6 ((l1_.getD 0 it0).2.2.2.1)]⟩), (3700, ⟨87, [VL C_ (n1_ - 1) c1_, I7 q_]⟩)]⟩ ?_
       refine fin49 _ _ _ _ [.bool (decide ((l3_.getD (((k3_ : Int)).toNat) it0).1 < (l3_.getD (((i3_ : Int)).toNat) it0).1))] [(1002, ⟨27, [I6 0, I6 0, I6 0, I6 0]⟩), (1004, ⟨27, [I6 ((l1_.getD 0 it0).1), I6 ((l1_.getD 0 it0).2.1), I6 ((l1_.getD 0 it0).2.2.1), I6 ((l1_.getD 0 it0).2.2.2.1)]⟩), (2700, ⟨87, [VL C_ (n1_ - 1) c1_, I7 q_]⟩)] (.inl rfl) (by kernel_rfl) (by kernel_rfl) ?_
       refine Rn 3 (Qc B50 797) [Qs B50 399, .blk 1, .loop J27, .blk 0] ⟨67, [(0, .own 2700 0), (1, I6 (i3_ : Int)), (4, .mth 81 2700 0), (5, I6 (k3_ : Int)), (39, VB (!(decide ((l3_.getD (((k3_ : Int)).toNat) it0).1 < (l3_.getD (((i3_ : Int)).toNat) it0).1))))], [(1002, ⟨27, [I6 0, I6 0, I6 0, I6 0]⟩), (1004, ⟨27, [I6 ((l1_.getD 0 it0).1), I6 ((l1_.getD 0 it0).2.1), I6 ((l1_.getD 0 it0).2.2.1), I6 ((l1_.getD 0 it0).2.2.2.1)]⟩), (2700, ⟨87, [VL C_ (n1_ - 1) c1_, I7 q_]⟩)]⟩ ?_
       refine X.castS ⟨67, [(0, .own 2700 0), (1, I6 (i3_ : Int)), (4, .mth 81 2700 0), (5, I6 (k3_ : Int)), (39, VB (!(decide (ltI (l3_.getD ((k3_ : Int)).toNat it0) (l3_.getD ((i3_ : Int)).toNat it0)))))], [(1002, ⟨27, [I6 0, I6 0, I6 0, I6 0]⟩), (1004, ⟨27, [I6 ((l1_.getD 0 it0).1), I6 ((l1_.getD 0 it0).2.1), I6 ((l1_.getD 0 it0).2.2.1), I6 ((l1_.getD 0 it0).2.2.2.1)]⟩), (2700, ⟨87, [VL C_ (n1_ - 1) c1_, I7 q_]⟩)]⟩ (congrArg (fun zb_ : Bool => (⟨67, [(0, .own 2700 0), (1, I6 (i3_ : Int)), (4, .mth 81 2700 0), (5, I6 (k3_ : Int)), (39, VB zb_)], [(1002, ⟨27, [I6 0, I6 0, I6 0, I6 0]⟩), (1004, ⟨27, [I6 ((l1_.getD 0 it0).1), I6 ((l1_.getD 0 it0).2.1), I6 ((l1_.getD 0 it0).2.2.1), I6 ((l1_.getD 0 it0).2.2.2.1)]⟩), (2700, ⟨87, [VL C_ (n1_ - 1) c1_, I7 q_]⟩)]⟩ : S)) (show (!(decide ((l3_.getD (((k3_ : Int)).toNat) it0).1 < (l3_.getD (((i3_ : Int)).toNat) it0).1))) = (!(decide (ltI (l3_.getD ((k3_ : Int)).toNat it0) (l3_.getD ((i3_ : Int)).toNat it0)))) by first | exact congrArg (fun b_ => !b_) (decide_eq_decide.mpr (by unfold ltI; omega)) | exact decide_eq_decide.mpr (by unfold ltI; omega))) ?_
       exact hY30 _ (Ge.refl _ _)
      ·
       replace h60 : ((l3_.getD (((k3_ : Int)).toNat) it0).1) = ((l3_.getD (((i3_ : Int)).toNat) it0).1) := by simpa using h60
       refine Rn 4 (Qc B81 30) [Qs B81 31] ⟨52, [(6, VB false), (7, .v (elt C_ (((k3_ : Int)).toNat * 5))), (8, .v (elt C_ (((i3_ : Int)).toNat * 5)))], [(2002, ⟨27, [I6 0, I6 0, I6 0, I6 0]⟩), (2004, ⟨27, [I6 ((l1_.getD 0 it0).1), I6 ((l1_.getD 0 it0).2.1), I6 ((l1_.getD 0 it0).2.2.1), I6 ((l1_.getD 0 it0).2.2.2.1)]⟩), (3700, ⟨87, [VL C_ (n1_ - 1) c1_, I7 q_]⟩)]⟩ ?_
       have hr_d64 := hr
       have hrx__d64 := hrx_
       refine Og 4 B81 30 10 [] [(600, RR 89 5 C_ (n1_ - 1) c1_ (l3_.flatMap itC))] [] trivial (by simp) (fun ρ0 => ?_)
       refine Tk 0 10 1 B81 30 (.v (elt C_ (((k3_ : Int)).toNat * 5))) hQ49 ?_
       refine XD.nilElt (i := 1) (l' := (lb 10 3)) (oA B81 (pa 30) 1) (x := .tmp 43) (A := C_) (j := ((k3_ : Int)).toNat * 5) hQ49 (by kernel_rfl) (by kernel_rfl) (by kernel_rfl) (by kernel_rfl) (by kernel_rfl) (by kernel_rfl) ?_
       refine XD.field (i := 2) (l' := (lb 10 7)) (o := (oA B81 (pa 30) 2)) (t := 89) (f := 1) (n := 4) (A := C_) (j := ((k3_ : Int)).toNat * 5) (x := .tmp 44) hQ49 (by kernel_rfl) (by kernel_rfl) (by kernel_rfl) (by kernel_rfl) (by kernel_rfl) (by kernel_rfl) (by kernel_rfl) ?_
       have at65 : At G29 [(600, ⟨89, 5, .slice C_ (n1_ - 1) c1_, (n1_ - 1), l3_.flatMap itC⟩)] C_ (((k3_ : Int)).toNat * 5) [.int .i64 ((l3_.getD (((k3_ : Int)).toNat) it0).1), .int .i64 ((l3_.getD (((k3_ : Int)).toNat) it0).2.1), .int .i64 ((l3_.getD (((k3_ : Int)).toNat) it0).2.2.1), .int .i64 ((l3_.getD (((k3_ : Int)).toNat) it0).2.2.2.1), .int .u64 ((l3_.getD (((k3_ : Int)).toNat) it0).2.2.2.2)] := At.rowF itC itC_len (i := 600) (r := ⟨89, 5, .slice C_ (n1_ - 1) c1_, (n1_ - 1), l3_.flatMap itC⟩) it0 rfl rfl rfl (by rw [hln3_]; omega)
       refine Dl 3 10 15 B81 30 85 C_ (((k3_ : Int)).toNat * 5 + 4) (.tmp 45) (N7 ((l3_.getD (((k3_ : Int)).toNat) it0).2.2.2.2)) [N7 ((l3_.getD (((k3_ : Int)).toNat) it0).2.2.2.2)] hQ49 (at65.part 4 1) ?_
       refine Tk 4 10 31 B81 30 (.v (elt C_ (((i3_ : Int)).toNat * 5))) hQ49 ?_
       refine XD.nilElt (i := 5) (l' := (lb 10 63)) (oA B81 (pa 30) 5) (x := .tmp 47) (A := C_) (j := ((i3_ : Int)).toNat * 5) hQ49 (by kernel_rfl) (by kernel_rfl) (by kernel_rfl) (by kernel_rfl) (by kernel_rfl) (by kernel_rfl) ?_
       refine XD.field (i := 6) (l' := (lb 10 127)) (o := (oA B81 (pa 30) 6)) (t := 89) (f := 1) (n := 4) (A := C_) (j := ((i3_ : Int)).toNat * 5) (x := .tmp 48) hQ49 (by kernel_rfl) (by kernel_rfl) (by kernel_rfl) (by kernel_rfl) (by kernel_rfl) (by kernel_rfl) (by kernel_rfl) ?_
       have at66 : At G29 [(600, ⟨89, 5, .slice C_ (n1_ - 1) c1_, (n1_ - 1), l3_.flatMap itC⟩)] C_ (((i3_ : Int)).toNat * 5) [.int .i64 ((l3_.getD (((i3_ : Int)).toNat) it0).1), .int .i64 ((l3_.getD (((i3_ : Int)).toNat) it0).2.1), .int .i64 ((l3_.getD (((i3_ : Int)).toNat) it0).2.2.1), .int .i64 ((l3_.getD (((i3_ : Int)).toNat) it0).2.2.2.1), .int .u64 ((l3_.getD (((i3_ : Int)).toNat) it0).2.2.2.2)] := At.rowF itC itC_len (i := 600) (r := ⟨89, 5, .slice C_ (n1_ - 1) c1_, (n1_ - 1), l3_.flatMap itC⟩) it0 rfl rfl rfl (by rw [hln3_]; omega)
       refine Dl 7 10 255 B81 30 85 C_ (((i3_ : Int)).toNat * 5 + 4) (.tmp 49) (N7 ((l3_.getD (((i3_ : Int)).toNat) it0).2.2.2.2)) [N7 ((l3_.getD (((i3_ : Int)).toNat) it0).2.2.2.2)] hQ49 (at66.part 4 1) ?_
       refine Ts [8, 9] 10 1023 0 2 hQ49 ?_
       refine XD.done (by kernel_rfl) ?_
       refine Rn 2 (.ex .ret) [] ⟨52, [(6, VB (decide ((l3_.getD (((k3_ : Int)).toNat) it0).2.2.2.2 < (l3_.getD (((i3_ : Int)).toNat) it0).2.2.2.2)))], [(2002, ⟨27, [I6 0, I6 0, I6 0, I6 0]⟩), (2004, ⟨27, [I6 ((l1_.getD 0 it0).1), I6 ((l1_.getD 0 it0).2.1), I6 ((l1_.getD 0 it0).2.2.1), I6 ((l1_.getD 0 it0).2.2.2.1)]⟩), (3700, ⟨87, [VL C_ (n1_ - 1) c1_, I7 q_]⟩)]⟩ ?_
       refine fin49 _ _ _ _ [.bool (decide ((l3_.getD (((k3_ : Int)).toNat) it0).2.2.2.2 < (l3_.getD (((i3_ : Int)).toNat) it0).2.2.2.2))] [(1002, ⟨27, [I6 0, I6 0, I6 0, I6 0]⟩), (1004, ⟨27, [I6 ((l1_.getD 0 it0).1), I6 ((l1_.getD 0 it0).2.1), I6 ((l1_.getD 0 it0).2.2.1), I6 ((l1_.getD 0 it0).2.2.2.1)]⟩), (2700, ⟨87, [VL C_ (n1_ - 1) c1_, I7 q_]⟩)] (.inl rfl) (by kernel_rfl) (by kernel_rfl) ?_
       refine Rn 3 (Qc B50 797) [Qs B50 399, .blk 1, .loop J27, .blk 0] ⟨67, [(0, .own 2700 0), (1, I6 (i3_ : Int)), (4, .mth 81 2700 0), (5, I6 (k3_ : Int)), (39, VB (!(decide ((l3_.getD (((k3_ : Int)).toNat) it0).2.2.2.2 < (l3_.getD (((i3_ : Int)).toNat) it0).2.2.2.2))))], [(1002, ⟨27, [I6 0, I6 0, I6 0, I6 0]⟩), (1004, ⟨27, [I6 ((l1_.getD 0 it0).1), I6 ((l1_.getD 0 it0).2.1), I6 ((l1_.getD 0 it0).2.2.1), I6 ((l1_.getD 0 it0).2.2.2.1)]⟩), (2700, ⟨87, [VL C_ (n1_ - 1) c1_, I7 q_]⟩)]⟩ ?_
       refine X.castS ⟨67, [(0, .own 2700 0), (1, I6 (i3_ : Int)), (4, .mth 81 2700 0), (5, I6 (k3_ : Int)), (39, VB (!(decide (ltI (l3_.getD ((k3_ : Int)).toNat it0) (l3_.getD ((i3_ : Int)).toNat it0)))))], [(1002, ⟨27, [I6 0, I6 0, I6 0, I6 0]⟩), (1004, ⟨27, [I6 ((l1_.getD 0 it0).1), I6 ((l1_.getD 0 it0).2.1), I6 ((l1_.getD 0 it0).2.2.1), I6 ((l1_.getD 0 it0).2.2.2.1)]⟩), (2700, ⟨87, [VL C_ (n1_ - 1) c1_, I7 q_]⟩)]⟩ (congrArg (fun zb_ : Bool => (⟨67, [(0, .own 2700 0), (1, I6 (i3_ : Int)), (4, .mth 81 2700 0), (5, I6 (k3_ : Int)), (39, VB zb_)], [(1002, ⟨27, [I6 0, I6 0, I6 0, I6 0]⟩), (1004, ⟨27, [I6 ((l1_.getD 0 it0).1), I6 ((l1_.getD 0 it0).2.1), I6 ((l1_.getD 0 it0).2.2.1), I6 ((l1_.getD 0 it0).2.2.2.1)]⟩), (2700, ⟨87, [VL C_ (n1_ - 1) c1_, I7 q_]⟩)]⟩ : S)) (show (!(decide ((l3_.getD (((k3_ : Int)).toNat) it0).2.2.2.2 < (l3_.getD (((i3_ : Int)).toNat) it0).2.2.2.2))) = (!(decide (ltI (l3_.getD ((k3_ : Int)).toNat it0) (l3_.getD ((i3_ : Int)).toNat it0)))) by first | exact congrArg (fun b_ => !b_) (decide_eq_decide.mpr (by unfold ltI; omega)) | exact decide_eq_decide.mpr (by unfold ltI; omega))) ?_
       exact hY30 _ (Ge.refl _ _)
    ·
     refine Rn 8 (Qo B50 396 2) [Qs B50 397, Qs B50 199, .blk 1, .loop J27, .blk 0] ⟨67, [(0, .own 2700 0), (1, I6 (i3_ : Int)), (4, .mth 81 2700 0), (5, I6 ((2 * i3_ + 1 : Nat) : Int)), (19, I6 (IntKind.i64.wrap (((2 * i3_ + 1 : Nat) : Int) + 1)))], [(1002, ⟨27, [I6 0, I6 0, I6 0, I6 0]⟩), (1004, ⟨27, [I6 ((l1_.getD 0 it0).1), I6 ((l1_.getD 0 it0).2.1), I6 ((l1_.getD 0 it0).2.2.1), I6 ((l1_.getD 0 it0).2.2.2.1)]⟩), (2700, ⟨87, [VL C_ (n1_ - 1) c1_, I7 q_]⟩)]⟩ ?_
     refine Kn 19 .i64 ((2 * i3_ + 2 : Nat) : Int) rfl (by rw [wi64 (by omega) (by omega)]; omega) ?_
     refine Rn 7 (Qo B50 396 9) [Qs B50 397, Qs B50 199, .blk 1, .loop J27, .blk 0] ⟨67, [(0, .own 2700 0), (1, I6 (i3_ : Int)), (4, .mth 81 2700 0), (5, I6 ((2 * i3_ + 1 : Nat) : Int)), (26, VB (decide (((2 * i3_ + 2 : Nat) : Int) < (((n1_ - 1) : Nat) : Int))))], [(1002, ⟨27, [I6 0, I6 0, I6 0, I6 0]⟩), (1004, ⟨27, [I6 ((l1_.getD 0 it0).1), I6 ((l1_.getD 0 it0).2.1), I6 ((l1_.getD 0 it0).2.2.1), I6 ((l1_.getD 0 it0).2.2.2.1)]⟩), (2700, ⟨87, [VL C_ (n1_ - 1) c1_, I7 q_]⟩)]⟩ ?_
     refine X.split 26 rfl (fun h67 => ?_) (fun h67 => ?_)
     ·
      replace h67 : ((2 * i3_ + 2 : Nat) : Int) < (((n1_ - 1) : Nat) : Int) := of_decide_eq_true h67
      refine Rn 3 (Qo B50 396 12) [Qs B50 397, Qs B50 199, .blk 1, .loop J27, .blk 0] ⟨67, [(0, .own 2700 0), (1, I6 (i3_ : Int)), (4, .mth 81 2700 0), (5, I6 ((2 * i3_ + 1 : Nat) : Int)), (26, VB true), (27, .mth 81 2700 0), (29, I6 (IntKind.i64.wrap (((2 * i3_ + 1 : Nat) : Int) + 1)))], [(1002, ⟨27, [I6 0, I6 0, I6 0, I6 0]⟩), (1004, ⟨27, [I6 ((l1_.getD 0 it0).1), I6 ((l1_.getD 0 it0).2.1), I6 ((l1_.getD 0 it0).2.2.1), I6 ((l1_.getD 0 it0).2.2.2.1)]⟩), (2700, ⟨87, [VL C_ (n1_ - 1) c1_, I7 q_]⟩)]⟩ ?_
      refine Kn 29 .i64 ((2 * i3_ + 2 : Nat) : Int) rfl (by rw [wi64 (by omega) (by omega)]; omega) ?_
      refine Rn 1 (Qo B50 396 13) [Qs B50 397, Qs B50 199, .blk 1, .loop J27, .blk 0] ⟨67, [(0, .own 2700 0), (1, I6 (i3_ : Int)), (4, .mth 81 2700 0), (5, I6 ((2 * i3_ + 1 : Nat) : Int)), (26, VB true), (27, .mth 81 2700 0), (29, I6 ((2 * i3_ + 2 : Nat) : Int)), (30, I6 ((2 * i3_ + 1 : Nat) : Int))], [(1002, ⟨27, [I6 0, I6 0, I6 0, I6 0]⟩), (1004, ⟨27, [I6 ((l1_.getD 0 it0).1), I6 ((l1_.getD 0 it0).2.1), I6 ((l1_.getD 0 it0).2.2.1), I6 ((l1_.getD 0 it0).2.2.2.1)]⟩), (2700, ⟨87, [VL C_ (n1_ - 1) c1_, I7 q_]⟩)]⟩ ?_
      refine X.joinCG (Qc B50 397) [Qs B50 199, .blk 1, .loop J27, .blk 0] ⟨67, [(0, .own 2700 0), (1, I6 (i3_ : Int)), (4, .mth 81 2700 0), (5, I6 ((2 * i3_ + 1 : Nat) : Int)), (32, VB (decide (ltI (l3_.getD (((2 * i3_ + 2 : Nat) : Int)).toNat it0) (l3_.getD (((2 * i3_ + 1 : Nat) : Int)).toNat it0))))], [(1002, ⟨27, [I6 0, I6 0, I6 0, I6 0]⟩), (1004, ⟨27, [I6 ((l1_.getD 0 it0).1), I6 ((l1_.getD 0 it0).2.1), I6 ((l1_.getD 0 it0).2.2.1), I6 ((l1_.getD 0 it0).2.2.2.1)]⟩), (2700, ⟨87, [VL C_ (n1_ - 1) c1_, I7 q_]⟩)]⟩ ?_ fun hY68 => ?_
      ·
       intro G68 hG68
       replace hr := hr.mono hG68.le
       replace hrx_ := hrx_.mono hG68.le
       refine Rn 0 (Qc B50 397) [Qs B50 199, .blk 1, .loop J27, .blk 0] ⟨67, [(0, .own 2700 0), (1, I6 (i3_ : Int)), (4, .mth 81 2700 0), (5, I6 ((2 * i3_ + 1 : Nat) : Int)), (32, VB (decide (ltI (l3_.getD (((2 * i3_ + 2 : Nat) : Int)).toNat it0) (l3_.getD (((2 * i3_ + 1 : Nat) : Int)).toNat it0))))], [(1002, ⟨27, [I6 0, I6 0, I6 0, I6 0]⟩), (1004, ⟨27, [I6 ((l1_.getD 0 it0).1), I6 ((l1_.getD 0 it0).2.1), I6 ((l1_.getD 0 it0).2.2.1), I6 ((l1_.getD 0 it0).2.2.2.1)]⟩), (2700, ⟨87, [VL C_ (n1_ - 1) c1_, I7 q_]⟩)]⟩ ?_
       refine X.split 32 rfl (fun h69 => ?_) (fun h69 => ?_)
       ·
        replace h69 : ltI (l3_.getD (((2 * i3_ + 2 : Nat) : Int)).toNat it0) (l3_.getD (((2 * i3_ + 1 : Nat) : Int)).toNat it0) := of_decide_eq_true h69
        have hkk_ : ltI (at_ l3_ (2 * i3_ + 2)) (at_ l3_ (2 * i3_ + 1)) := h69
        refine Rn 4 (Qo B50 794 2) [Qs B50 199, .blk 1, .loop J27, .blk 0] ⟨67, [(0, .own 2700 0), (1, I6 (i3_ : Int)), (4, .mth 81 2700 0), (5, I6 ((2 * i3_ + 1 : Nat) : Int)), (34, I6 (IntKind.i64.wrap (((2 * i3_ + 1 : Nat) : Int) + 1)))], [(1002, ⟨27, [I6 0, I6 0, I6 0, I6 0]⟩), (1004, ⟨27, [I6 ((l1_.getD 0 it0).1), I6 ((l1_.getD 0 it0).2.1), I6 ((l1_.getD 0 it0).2.2.1), I6 ((l1_.getD 0 it0).2.2.2.1)]⟩), (2700, ⟨87, [VL C_ (n1_ - 1) c1_, I7 q_]⟩)]⟩ ?_
        refine Kn 34 .i64 ((2 * i3_ + 2 : Nat) : Int) rfl (by rw [wi64 (by omega) (by omega)]; omega) ?_
        refine Rn 3 (Qc B50 199) [.blk 1, .loop J27, .blk 0] ⟨67, [(0, .own 2700 0), (1, I6 (i3_ : Int)), (4, .mth 81 2700 0), (5, I6 ((2 * i3_ + 2 : Nat) : Int))], [(1002, ⟨27, [I6 0, I6 0, I6 0, I6 0]⟩), (1004, ⟨27, [I6 ((l1_.getD 0 it0).1), I6 ((l1_.getD 0 it0).2.1), I6 ((l1_.getD 0 it0).2.2.1), I6 ((l1_.getD 0 it0).2.2.2.1)]⟩), (2700, ⟨87, [VL C_ (n1_ - 1) c1_, I7 q_]⟩)]⟩ ?_
        exact hY29 _ _ _ ⟨(2 * i3_ + 2), rfl, rfl, hG68, ⟨by omega, by omega, by omega, kid_r hkk_⟩⟩
       ·
        replace h69 : ¬ (ltI (l3_.getD (((2 * i3_ + 2 : Nat) : Int)).toNat it0) (l3_.getD (((2 * i3_ + 1 : Nat) : Int)).toNat it0)) := of_decide_eq_false h69
        have hkk_ : ¬ ltI (at_ l3_ (2 * i3_ + 2)) (at_ l3_ (2 * i3_ + 1)) := h69
        refine Rn 3 (Qc B50 199) [.blk 1, .loop J27, .blk 0] ⟨67, [(0, .own 2700 0), (1, I6 (i3_ : Int)), (4, .mth 81 2700 0), (5, I6 ((2 * i3_ + 1 : Nat) : Int))], [(1002, ⟨27, [I6 0, I6 0, I6 0, I6 0]⟩), (1004, ⟨27, [I6 ((l1_.getD 0 it0).1), I6 ((l1_.getD 0 it0).2.1), I6 ((l1_.getD 0 it0).2.2.1), I6 ((l1_.getD 0 it0).2.2.2.1)]⟩), (2700, ⟨87, [VL C_ (n1_ - 1) c1_, I7 q_]⟩)]⟩ ?_
        exact hY29 _ _ _ ⟨(2 * i3_ + 1), rfl, rfl, hG68, ⟨by omega, by omega, by omega, kid_l hkk_⟩⟩
      ·
       refine X.inline (f := 81) (l := [.own 2700 0, I6 ((2 * i3_ + 2 : Nat) : Int), I6 ((2 * i3_ + 1 : Nat) : Int)]) (fn := Try.f81) (c := B81) (by kernel_rfl) (by kernel_rfl) Try.func81 (by kernel_rfl) ?_
       intro Q70 M70 hM70 hQ70 fin70
       refine Rn 6 (Qc B81 6) [Qs B81 7] ⟨52, [(0, .own 3700 0), (1, I6 ((2 * i3_ + 2 : Nat) : Int)), (2, I6 ((2 * i3_ + 1 : Nat) : Int)), (6, VB false)], [(2002, ⟨27, [I6 0, I6 0, I6 0, I6 0]⟩), (2004, ⟨27, [I6 ((l1_.getD 0 it0).1), I6 ((l1_.getD 0 it0).2.1), I6 ((l1_.getD 0 it0).2.2.1), I6 ((l1_.getD 0 it0).2.2.2.1)]⟩), (3700, ⟨87, [VL C_ (n1_ - 1) c1_, I7 q_]⟩)]⟩ ?_
       have hr_d71 := hr
       have hrx__d71 := hrx_
       refine Og 1 B81 6 14 [⟨some 0, 3700, 87, [VL C_ (n1_ - 1) c1_, I7 q_]⟩] [(600, RR 89 5 C_ (n1_ - 1) c1_ (l3_.flatMap itC))] [] ⟨⟨fun _ h => (by cases h; rfl), rfl⟩, trivial⟩ (by intro p hp hn; simp only [List.mem_cons, List.not_mem_nil, or_false] at hp; rcases hp with rfl <;> first | (cases hn; done) | exact hM70 _ (Nat.le_of_ble_eq_true rfl)) (fun ρ0 => ?_)
       refine Tk 0 14 1 B81 6 (.own 3700 0) hQ70 ?_
       refine XD.nilOwn (i := 1) (l' := (lb 14 3)) (oA B81 (pa 6) 1) (x := .tmp 9) (b := 3700) (off := 0) hQ70 (by kernel_rfl) (by kernel_rfl) (by kernel_rfl) (by kernel_rfl) (by kernel_rfl) (by kernel_rfl) ?_
       refine Tk 2 14 7 B81 6 (.own 3700 0) hQ70 ?_
       refine Tk 3 14 15 B81 6 (VL C_ (n1_ - 1) c1_) hQ70 ?_
       refine Tk 4 14 31 B81 6 (I6 ((2 * i3_ + 2 : Nat) : Int)) hQ70 ?_
       have b72 : (0 : Int) ≤ ((2 * i3_ + 2 : Nat) : Int) := by omega
       have b73 : ((2 * i3_ + 2 : Nat) : Int) < (((n1_ - 1) : Nat) : Int) := by omega
       have at74 : At G27 [(600, ⟨89, 5, .slice C_ (n1_ - 1) c1_, (n1_ - 1), l3_.flatMap itC⟩)] C_ ((((2 * i3_ + 2 : Nat) : Int)).toNat * 5) [.int .i64 ((l3_.getD ((((2 * i3_ + 2 : Nat) : Int)).toNat) it0).1), .int .i64 ((l3_.getD ((((2 * i3_ + 2 : Nat) : Int)).toNat) it0).2.1), .int .i64 ((l3_.getD ((((2 * i3_ + 2 : Nat) : Int)).toNat) it0).2.2.1), .int .i64 ((l3_.getD ((((2 * i3_ + 2 : Nat) : Int)).toNat) it0).2.2.2.1), .int .u64 ((l3_.getD ((((2 * i3_ + 2 : Nat) : Int)).toNat) it0).2.2.2.2)] := At.rowF itC itC_len (i := 600) (r := ⟨89, 5, .slice C_ (n1_ - 1) c1_, (n1_ - 1), l3_.flatMap itC⟩) it0 rfl rfl rfl (by rw [hln3_]; omega)
       refine Dx 5 14 63 B81 6 84 89 5 C_ (n1_ - 1) c1_ .i64 ((2 * i3_ + 2 : Nat) : Int) (.tmp 12) (.tmp 13) hQ70 b72 b73 (rowSome (i := 600) (q := (RR 89 5 C_ (n1_ - 1) c1_ (l3_.flatMap itC))) rfl rfl (flat_pos itC_len (by decide) (by rw [hln3_]; omega))) ?_
       refine Tk 6 14 127 B81 6 (.own 3700 0) hQ70 ?_
       refine XD.nilOwn (i := 7) (l' := (lb 14 255)) (oA B81 (pa 6) 7) (x := .tmp 15) (b := 3700) (off := 0) hQ70 (by kernel_rfl) (by kernel_rfl) (by kernel_rfl) (by kernel_rfl) (by kernel_rfl) (by kernel_rfl) ?_
       refine Tk 8 14 511 B81 6 (.own 3700 0) hQ70 ?_
       refine Tk 9 14 1023 B81 6 (VL C_ (n1_ - 1) c1_) hQ70 ?_
       refine Tk 10 14 2047 B81 6 (I6 ((2 * i3_ + 1 : Nat) : Int)) hQ70 ?_
       have b75 : (0 : Int) ≤ ((2 * i3_ + 1 : Nat) : Int) := by omega
       have b76 : ((2 * i3_ + 1 : Nat) : Int) < (((n1_ - 1) : Nat) : Int) := by omega
       have at77 : At G27 [(600, ⟨89, 5, .slice C_ (n1_ - 1) c1_, (n1_ - 1), l3_.flatMap itC⟩)] C_ ((((2 * i3_ + 1 : Nat) : Int)).toNat * 5) [.int .i64 ((l3_.getD ((((2 * i3_ + 1 : Nat) : Int)).toNat) it0).1), .int .i64 ((l3_.getD ((((2 * i3_ + 1 : Nat) : Int)).toNat) it0).2.1), .int .i64 ((l3_.getD ((((2 * i3_ + 1 : Nat) : Int)).toNat) it0).2.2.1), .int .i64 ((l3_.getD ((((2 * i3_ + 1 : Nat) : Int)).toNat) it0).2.2.2.1), .int .u64 ((l3_.getD ((((2 * i3_ + 1 : Nat) : Int)).toNat) it0).2.2.2.2)] := At.rowF itC itC_len (i := 600) (r := ⟨89, 5, .slice C_ (n1_ - 1) c1_, (n1_ - 1), l3_.flatMap itC⟩) it0 rfl rfl rfl (by rw [hln3_]; omega)
       refine Dx 11 14 4095 B81 6 84 89 5 C_ (n1_ - 1) c1_ .i64 ((2 * i3_ + 1 : Nat) : Int) (.tmp 18) (.tmp 19) hQ70 b75 b76 (rowSome (i := 600) (q := (RR 89 5 C_ (n1_ - 1) c1_ (l3_.flatMap itC))) rfl rfl (flat_pos itC_len (by decide) (by rw [hln3_]; omega))) ?_
       refine Ts [12, 13] 14 16383 0 2 hQ70 ?_
       refine XD.done (by kernel_rfl) ?_
       refine Rn 3 (Qc B81 28) [Qs B81 29, Qs B81 15] ⟨52, [(6, VB false), (7, .v (elt C_ ((((2 * i3_ + 2 : Nat) : Int)).toNat * 5))), (8, .v (elt C_ ((((2 * i3_ + 1 : Nat) : Int)).toNat * 5)))], [(2002, ⟨27, [I6 0, I6 0, I6 0, I6 0]⟩), (2004, ⟨27, [I6 ((l1_.getD 0 it0).1), I6 ((l1_.getD 0 it0).2.1), I6 ((l1_.getD 0 it0).2.2.1), I6 ((l1_.getD 0 it0).2.2.2.1)]⟩), (3700, ⟨87, [VL C_ (n1_ - 1) c1_, I7 q_]⟩)]⟩ ?_
       have hr_d78 := hr
       have hrx__d78 := hrx_
       refine Og 2 B81 28 11 [] [(600, RR 89 5 C_ (n1_ - 1) c1_ (l3_.flatMap itC))] [] trivial (by simp) (fun ρ0 => ?_)
       refine Tk 0 11 1 B81 28 (.v (elt C_ ((((2 * i3_ + 2 : Nat) : Int)).toNat * 5))) hQ70 ?_
       refine XD.nilElt (i := 1) (l' := (lb 11 3)) (oA B81 (pa 28) 1) (x := .tmp 21) (A := C_) (j := (((2 * i3_ + 2 : Nat) : Int)).toNat * 5) hQ70 (by kernel_rfl) (by kernel_rfl) (by kernel_rfl) (by kernel_rfl) (by kernel_rfl) (by kernel_rfl) ?_
       refine XD.field (i := 2) (l' := (lb 11 7)) (o := (oA B81 (pa 28) 2)) (t := 89) (f := 0) (n := 0) (A := C_) (j := (((2 * i3_ + 2 : Nat) : Int)).toNat * 5) (x := .tmp 22) hQ70 (by kernel_rfl) (by kernel_rfl) (by kernel_rfl) (by kernel_rfl) (by kernel_rfl) (by kernel_rfl) (by kernel_rfl) ?_
       refine XD.field (i := 3) (l' := (lb 11 15)) (o := (oA B81 (pa 28) 3)) (t := 27) (f := 0) (n := 0) (A := C_) (j := (((2 * i3_ + 2 : Nat) : Int)).toNat * 5 + 0) (x := .tmp 23) hQ70 (by kernel_rfl) (by kernel_rfl) (by kernel_rfl) (by kernel_rfl) (by kernel_rfl) (by kernel_rfl) (by kernel_rfl) ?_
       have at79 : At G27 [(600, ⟨89, 5, .slice C_ (n1_ - 1) c1_, (n1_ - 1), l3_.flatMap itC⟩)] C_ ((((2 * i3_ + 2 : Nat) : Int)).toNat * 5) [.int .i64 ((l3_.getD ((((2 * i3_ + 2 : Nat) : Int)).toNat) it0).1), .int .i64 ((l3_.getD ((((2 * i3_ + 2 : Nat) : Int)).toNat) it0).2.1), .int .i64 ((l3_.getD ((((2 * i3_ + 2 : Nat) : Int)).toNat) it0).2.2.1), .int .i64 ((l3_.getD ((((2 * i3_ + 2 : Nat) : Int)).toNat) it0).2.2.2.1), .int .u64 ((l3_.getD ((((2 * i3_ + 2 : Nat) : Int)).toNat) it0).2.2.2.2)] := At.rowF itC itC_len (i := 600) (r := ⟨89, 5, .slice C_ (n1_ - 1) c1_, (n1_ - 1), l3_.flatMap itC⟩) it0 rfl rfl rfl (by rw [hln3_]; omega)
       refine Dl 4 11 31 B81 28 2 C_ ((((2 * i3_ + 2 : Nat) : Int)).toNat * 5 + 0 + 0) (.tmp 24) (N6 ((l3_.getD ((((2 * i3_ + 2 : Nat) : Int)).toNat) it0).1)) [N6 ((l3_.getD ((((2 * i3_ + 2 : Nat) : Int)).toNat) it0).1)] hQ70 (at79.part 0 1) ?_
       refine Tk 5 11 63 B81 28 (.v (elt C_ ((((2 * i3_ + 1 : Nat) : Int)).toNat * 5))) hQ70 ?_
       refine XD.nilElt (i := 6) (l' := (lb 11 127)) (oA B81 (pa 28) 6) (x := .tmp 26) (A := C_) (j := (((2 * i3_ + 1 : Nat) : Int)).toNat * 5) hQ70 (by kernel_rfl) (by kernel_rfl) (by kernel_rfl) (by kernel_rfl) (by kernel_rfl) (by kernel_rfl) ?_
       refine XD.field (i := 7) (l' := (lb 11 255)) (o := (oA B81 (pa 28) 7)) (t := 89) (f := 0) (n := 0) (A := C_) (j := (((2 * i3_ + 1 : Nat) : Int)).toNat * 5) (x := .tmp 27) hQ70 (by kernel_rfl) (by kernel_rfl) (by kernel_rfl) (by kernel_rfl) (by kernel_rfl) (by kernel_rfl) (by kernel_rfl) ?_
       refine XD.field (i := 8) (l' := (lb 11 511)) (o := (oA B81 (pa 28) 8)) (t := 27) (f := 0) (n := 0) (A := C_) (j := (((2 * i3_ + 1 : Nat) : Int)).toNat * 5 + 0) (x := .tmp 28) hQ70 (by kernel_rfl) (by kernel_rfl) (by kernel_rfl) (by kernel_rfl) (by kernel_rfl) (by kernel_rfl) (by kernel_rfl) ?_
       have at80 : At G27 [(600, ⟨89, 5, .slice C_ (n1_ - 1) c1_, (n1_ - 1), l3_.flatMap itC⟩)] C_ ((((2 * i3_ + 1 : Nat) : Int)).toNat * 5) [.int .i64 ((l3_.getD ((((2 * i3_ + 1 : Nat) : Int)).toNat) it0).1), .int .i64 ((l3_.getD ((((2 * i3_ + 1 : Nat) : Int)).toNat) it0).2.1), .int .i64 ((l3_.getD ((((2 * i3_ + 1 : Nat) : Int)).toNat) it0).2.2.1), .int .i64 ((l3_.getD ((((2 * i3_ + 1 : Nat) : Int)).toNat) it0).2.2.2.1), .int .u64 ((l3_.getD ((((2 * i3_ + 1 : Nat) : Int)).toNat) it0).2.2.2.2)] := At.rowF itC itC_len (i := 600) (r := ⟨89, 5, .slice C_ (n1_ - 1) c1_, (n1_ - 1), l3_.flatMap itC⟩) it0 rfl rfl rfl (by rw [hln3_]; omega)
       refine Dl 9 11 1023 B81 28 2 C_ ((((2 * i3_ + 1 : Nat) : Int)).toNat * 5 + 0 + 0) (.tmp 29) (N6 ((l3_.getD ((((2 * i3_ + 1 : Nat) : Int)).toNat) it0).1)) [N6 ((l3_.getD ((((2 * i3_ + 1 : Nat) : Int)).toNat) it0).1)] hQ70 (at80.part 0 1) ?_
       refine Ts [10] 11 2047 0 1 hQ70 ?_
       refine XD.done (by kernel_rfl) ?_
       refine Rn 1 (Qc B81 29) [Qs B81 15] ⟨52, [(6, VB false), (7, .v (elt C_ ((((2 * i3_ + 2 : Nat) : Int)).toNat * 5))), (8, .v (elt C_ ((((2 * i3_ + 1 : Nat) : Int)).toNat * 5))), (31, VB (((l3_.getD ((((2 * i3_ + 2 : Nat) : Int)).toNat) it0).1) != ((l3_.getD ((((2 * i3_ + 1 : Nat) : Int)).toNat) it0).1)))], [(2002, ⟨27, [I6 0, I6 0, I6 0, I6 0]⟩), (2004, ⟨27, [I6 ((l1_.getD 0 it0).1), I6 ((l1_.getD 0 it0).2.1), I6 ((l1_.getD 0 it0).2.2.1), I6 ((l1_.getD 0 it0).2.2.2.1)]⟩), (3700, ⟨87, [VL C_ (n1_ - 1) c1_, I7 q_]⟩)]⟩ ?_
       refine X.split 31 rfl (fun h81 => ?_) (fun h81 => ?_)
       ·
        replace h81 : ((l3_.getD ((((2 * i3_ + 2 : Nat) : Int)).toNat) it0).1) ≠ ((l3_.getD ((((2 * i3_ + 1 : Nat) : Int)).toNat) it0).1) := by simpa using h81
        refine Rn 2 (Qc B81 116) [Qs B81 117, Qs B81 15] ⟨52, [(6, VB false), (7, .v (elt C_ ((((2 * i3_ + 2 : Nat) : Int)).toNat * 5))), (8, .v (elt C_ ((((2 * i3_ + 1 : Nat) : Int)).toNat * 5)))], [(2002, ⟨27, [I6 0, I6 0, I6 0, I6 0]⟩), (2004, ⟨27, [I6 ((l1_.getD 0 it0).1), I6 ((l1_.getD 0 it0).2.1), I6 ((l1_.getD 0 it0).2.2.1), I6 ((l1_.getD 0 it0).2.2.2.1)]⟩), (3700, ⟨87, [VL C_ (n1_ - 1) c1_, I7 q_]⟩)]⟩ ?_
        have hr_d82 := hr
        have hrx__d82 := hrx_
        refine Og 3 B81 116 12 [] [(600, RR 89 5 C_ (n1_ - 1) c1_ (l3_.flatMap itC))] [] trivial (by simp) (fun ρ0 => ?_)
        refine Tk 0 12 1 B81 116 (.v (elt C_ ((((2 * i3_ + 2 : Nat) : Int)).toNat * 5))) hQ70 ?_
        refine XD.nilElt (i := 1) (l' := (lb 12 3)) (oA B81 (pa 116) 1) (x := .tmp 32) (A := C_) (j := (((2 * i3_ + 2 : Nat) : Int)).toNat * 5) hQ70 (by kernel_rfl) (by kernel_rfl) (by kernel_rfl) (by kernel_rfl) (by kernel_rfl) (by kernel_rfl) ?_
        refine XD.field (i := 2) (l' := (lb 12 7)) (o := (oA B81 (pa 116) 2)) (t := 89) (f := 0) (n := 0) (A := C_) (j := (((2 * i3_ + 2 : Nat) : Int)).toNat * 5) (x := .tmp 33) hQ70 (by kernel_rfl) (by kernel_rfl) (by kernel_rfl) (by kernel_rfl) (by kernel_rfl) (by kernel_rfl) (by kernel_rfl) ?_
        refine XD.field (i := 3) (l' := (lb 12 15)) (o := (oA B81 (pa 116) 3)) (t := 27) (f := 0) (n := 0) (A := C_) (j := (((2 * i3_ + 2 : Nat) : Int)).toNat * 5 + 0) (x := .tmp 34) hQ70 (by kernel_rfl) (by kernel_rfl) (by kernel_rfl) (by kernel_rfl) (by kernel_rfl) (by kernel_rfl) (by kernel_rfl) ?_
        have at83 : At G27 [(600, ⟨89, 5, .slice C_ (n1_ - 1) c1_, (n1_ - 1), l3_.flatMap itC⟩)] C_ ((((2 * i3_ + 2 : Nat) : Int)).toNat * 5) [.int .i64 ((l3_.getD ((((2 * i3_ + 2 : Nat) : Int)).toNat) it0).1), .int .i64 ((l3_.getD ((((2 * i3_ + 2 : Nat) : Int)).toNat) it0).2.1), .int .i64 ((l3_.getD ((((2 * i3_ + 2 : Nat) : Int)).toNat) it0).2.2.1), .int .i64 ((l3_.getD ((((2 * i3_ + 2 : Nat) : Int)).toNat) it0).2.2.2.1), .int .u64 ((l3_.getD ((((2 * i3_ + 2 : Nat) : Int)).toNat) it0).2.2.2.2)] := At.rowF itC itC_len (i := 600) (r := ⟨89, 5, .slice C_ (n1_ - 1) c1_, (n1_ - 1), l3_.flatMap itC⟩) it0 rfl rfl rfl (by rw [hln3_]; omega)
        refine Dl 4 12 31 B81 116 2 C_ ((((2 * i3_ + 2 : Nat) : Int)).toNat * 5 + 0 + 0) (.tmp 35) (N6 ((l3_.getD ((((2 * i3_ + 2 : Nat) : Int)).toNat) it0).1)) [N6 ((l3_.getD ((((2 * i3_ + 2 : Nat) : Int)).toNat) it0).1)] hQ70 (at83.part 0 1) ?_
        refine Tk 5 12 63 B81 116 (.v (elt C_ ((((2 * i3_ + 1 : Nat) : Int)).toNat * 5))) hQ70 ?_
        refine XD.nilElt (i := 6) (l' := (lb 12 127)) (oA B81 (pa 116) 6) (x := .tmp 37) (A := C_) (j := (((2 * i3_ + 1 : Nat) : Int)).toNat * 5) hQ70 (by kernel_rfl) (by kernel_rfl) (by kernel_rfl) (by kernel_rfl) (by kernel_rfl) (by kernel_rfl) ?_
        refine XD.field (i := 7) (l' := (lb 12 255)) (o := (oA B81 (pa 116) 7)) (t := 89) (f := 0) (n := 0) (A := C_) (j := (((2 * i3_ + 1 : Nat) : Int)).toNat * 5) (x := .tmp 38) hQ70 (by kernel_rfl) (by kernel_rfl) (by kernel_rfl) (by kernel_rfl) (by kernel_rfl) (by kernel_rfl) (by kernel_rfl) ?_
        refine XD.field (i := 8) (l' := (lb 12 511)) (o := (oA B81 (pa 116) 8)) (t := 27) (f := 0) (n := 0) (A := C_) (j := (((2 * i3_ + 1 : Nat) : Int)).toNat * 5 + 0) (x := .tmp 39) hQ70 (by kernel_rfl) (by kernel_rfl) (by kernel_rfl) (by kernel_rfl) (by kernel_rfl) (by kernel_rfl) (by kernel_rfl) ?_
        have at84 : At G27 [(600, ⟨89, 5, .slice C_ (n1_ - 1) c1_, (n1_ - 1), l3_.flatMap itC⟩)] C_ ((((2 * i3_ + 1 : Nat) : Int)).toNat * 5) [.int .i64 ((l3_.getD ((((2 * i3_ + 1 : Nat) : Int)).toNat) it0).1), .int .i64 ((l3_.getD ((((2 * i3_ + 1 : Nat) : Int)).toNat) it0).2.1), .int .i64 ((l3_.getD ((((2 * i3_ + 1 : Nat) : Int)).toNat) it0).2.2.1), .int .i64 ((l3_.getD ((((2 * i3_ + 1 : Nat) : Int)).toNat) it0).2.2.2.1), .int .u64 ((l3_.getD ((((2 * i3_ + 1 : Nat) : Int)).toNat) it0).2.2.2.2)] := At.rowF itC itC_len (i := 600) (r := ⟨89, 5, .slice C_ (n1_ - 1) c1_, (n1_ - 1), l3_.flatMap itC⟩) it0 rfl rfl rfl (by rw [hln3_]; omega)
        refine Dl 9 12 1023 B81 116 2 C_ ((((2 * i3_ + 1 : Nat) : Int)).toNat * 5 + 0 + 0) (.tmp 40) (N6 ((l3_.getD ((((2 * i3_ + 1 : Nat) : Int)).toNat) it0).1)) [N6 ((l3_.getD ((((2 * i3_ + 1 : Nat) : Int)).toNat) it0).1)] hQ70 (at84.part 0 1) ?_
        refine Ts [10, 11] 12 4095 0 2 hQ70 ?_
        refine XD.done (by kernel_rfl) ?_
        refine Rn 3 (.ex .ret) [] ⟨52, [(6, VB (decide ((l3_.getD ((((2 * i3_ + 2 : Nat) : Int)).toNat) it0).1 < (l3_.getD ((((2 * i3_ + 1 : Nat) : Int)).toNat) it0).1)))], [(2002, ⟨27, [I6 0, I6 0, I6 0, I6 0]⟩), (2004, ⟨27, [I6 ((l1_.getD 0 it0).1), I6 ((l1_.getD 0 it0).2.1), I6 ((l1_.getD 0 it0).2.2.1), I6 ((l1_.getD 0 it0).2.2.2.1)]⟩), (3700, ⟨87, [VL C_ (n1_ - 1) c1_, I7 q_]⟩)]⟩ ?_
        refine fin70 _ _ _ _ [.bool (decide ((l3_.getD ((((2 * i3_ + 2 : Nat) : Int)).toNat) it0).1 < (l3_.getD ((((2 * i3_ + 1 : Nat) : Int)).toNat) it0).1))] [(1002, ⟨27, [I6 0, I6 0, I6 0, I6 0]⟩), (1004, ⟨27, [I6 ((l1_.getD 0 it0).1), I6 ((l1_.getD 0 it0).2.1), I6 ((l1_.getD 0 it0).2.2.1), I6 ((l1_.getD 0 it0).2.2.2.1)]⟩), (2700, ⟨87, [VL C_ (n1_ - 1) c1_, I7 q_]⟩)] (.inl rfl) (by kernel_rfl) (by kernel_rfl) ?_
        refine Rn 3 (Qc B50 397) [Qs B50 199, .blk 1, .loop J27, .blk 0] ⟨67, [(0, .own 2700 0), (1, I6 (i3_ : Int)), (4, .mth 81 2700 0), (5, I6 ((2 * i3_ + 1 : Nat) : Int)), (32, VB (decide ((l3_.getD ((((2 * i3_ + 2 : Nat) : Int)).toNat) it0).1 < (l3_.getD ((((2 * i3_ + 1 : Nat) : Int)).toNat) it0).1)))], [(1002, ⟨27, [I6 0, I6 0, I6 0, I6 0]⟩), (1004, ⟨27, [I6 ((l1_.getD 0 it0).1), I6 ((l1_.getD 0 it0).2.1), I6 ((l1_.getD 0 it0).2.2.1), I6 ((l1_.getD 0 it0).2.2.2.1)]⟩), (2700, ⟨87, [VL C_ (n1_ - 1) c1_, I7 q_]⟩)]⟩ ?_
        refine X.castS ⟨67, [(0, .own 2700 0), (1, I6 (i3_ : Int)), (4, .mth 81 2700 0), (5, I6 ((2 * i3_ + 1 : Nat) : Int)), (32, VB (decide (ltI (l3_.getD (((2 * i3_ + 2 : Nat) : Int)).toNat it0) (l3_.getD (((2 * i3_ + 1 : Nat) : Int)).toNat it0))))], [(1002, ⟨27, [I6 0, I6 0, I6 0, I6 0]⟩), (1004, ⟨27, [I6 ((l1_.getD 0 it0).1), I6 ((l1_.getD 0 it0).2.1), I6 ((l1_.getD 0 it0).2.2.1), I6 ((l1_.getD 0 it0).2.2.2.1)]⟩), (2700, ⟨87, [VL C_ (n1_ - 1) c1_, I7 q_]⟩)]⟩ (congrArg (fun zb_ : Bool => (⟨67, [(0, .own 2700 0), (1, I6 (i3_ : Int)), (4, .mth 81 2700 0), (5, I6 ((2 * i3_ + 1 : Nat) : Int)), (32, VB zb_)], [(1002, ⟨27, [I6 0, I6 0, I6 0, I6 0]⟩), (1004, ⟨27, [I6 ((l1_.getD 0 it0).1), I6 ((l1_.getD 0 it0).2.1), I6 ((l1_.getD 0 it0).2.2.1), I6 ((l1_.getD 0 it0).2.2.2.1)]⟩), (2700, ⟨87, [VL C_ (n1_ - 1) c1_, I7 q_]⟩)]⟩ : S)) (show (decide ((l3_.getD ((((2 * i3_ + 2 : Nat) : Int)).toNat) it0).1 < (l3_.getD ((((2 * i3_ + 1 : Nat) : Int)).toNat) it0).1)) = (decide (ltI (l3_.getD (((2 * i3_ + 2 : Nat) : Int)).toNat it0) (l3_.getD (((2 * i3_ + 1 : Nat) : Int)).toNat it0))) by first | exact congrArg (fun b_ => !b_) (decide_eq_decide.mpr (by unfold ltI; omega)) | exact decide_eq_decide.mpr (by unfold ltI; omega))) ?_
        exact hY68 _ (Ge.refl _ _)
       ·
        replace h81 : ((l3_.getD ((((2 * i3_ + 2 : Nat) : Int)).toNat) it0).1) = ((l3_.getD ((((2 * i3_ + 1 : Nat) : Int)).toNat) it0).1) := by simpa using h81
        refine Rn 4 (Qc B81 30) [Qs B81 31] ⟨52, [(6, VB false), (7, .v (elt C_ ((((2 * i3_ + 2 : Nat) : Int)).toNat * 5))), (8, .v (elt C_ ((((2 * i3_ + 1 : Nat) : Int)).toNat * 5)))], [(2002, ⟨27, [I6 0, I6 0, I6 0, I6 0]⟩), (2004, ⟨27, [I6 ((l1_.getD 0 it0).1), I6 ((l1_.getD 0 it0).2.1), I6 ((l1_.getD 0 it0).2.2.1), I6 ((l1_.getD 0 it0).2.2.2.1)]⟩), (3700, ⟨87, [VL C_ (n1_ - 1) c1_, I7 q_]⟩)]⟩ ?_
        have hr_d85 := hr
        have hrx__d85 := hrx_
        refine Og 4 B81 30 10 [] [(600, RR 89 5 C_ (n1_ - 1) c1_ (l3_.flatMap itC))] [] trivial (by simp) (fun ρ0 => ?_)
        refine Tk 0 10 1 B81 30 (.v (elt C_ ((((2 * i3_ + 2 : Nat) : Int)).toNat * 5))) hQ70 ?_
        refine XD.nilElt (i := 1) (l' := (lb 10 3)) (oA B81 (pa 30) 1) (x := .tmp 43) (A := C_) (j := (((2 * i3_ + 2 : Nat) : Int)).toNat * 5) hQ70 (by kernel_rfl) (by kernel_rfl) (by kernel_rfl) (by kernel_rfl) (by kernel_rfl) (by kernel_rfl) ?_
        refine XD.field (i := 2) (l' := (lb 10 7)) (o := (oA B81 (pa 30) 2)) (t := 89) (f := 1) (n := 4) (A := C_) (j := (((2 * i3_ + 2 : Nat) : Int)).toNat * 5) (x := .tmp 44) hQ70 (by kernel_rfl) (by kernel_rfl) (by kernel_rfl) (by kernel_rfl) (by kernel_rfl) (by kernel_rfl) (by kernel_rfl) ?_
        have at86 : At G27 [(600, ⟨89, 5, .slice C_ (n1_ - 1) c1_, (n1_ - 1), l3_.flatMap itC⟩)] C_ ((((2 * i3_ + 2 : Nat) : Int)).toNat * 5) [.int .i64 ((l3_.getD ((((2 * i3_ + 2 : Nat) : Int)).toNat) it0).1), .int .i64 ((l3_.getD ((((2 * i3_ + 2 : Nat) : Int)).toNat) it0).2.1), .int .i64 ((l3_.getD ((((2 * i3_ + 2 : Nat) : Int)).toNat) it0).2.2.1), .int .i64 ((l3_.getD ((((2 * i3_ + 2 : Nat) : Int)).toNat) it0).2.2.2.1), .int .u64 ((l3_.getD ((((2 * i3_ + 2 : Nat) : Int)).toNat) it0).2.2.2.2)] := At.rowF itC itC_len (i := 600) (r := ⟨89, 5, .slice C_ (n1_ - 1) c1_, (n1_ - 1), l3_.flatMap itC⟩) it0 rfl rfl rfl (by rw [hln3_]; omega)
        refine Dl 3 10 15 B81 30 85 C_ ((((2 * i3_ + 2 : Nat) : Int)).toNat * 5 + 4) (.tmp 45) (N7 ((l3_.getD ((((2 * i3_ + 2 : Nat) : Int)).toNat) it0).2.2.2.2)) [N7 ((l3_.getD ((((2 * i3_ + 2 : Nat) : Int)).toNat) it0).2.2.2.2)] hQ70 (at86.part 4 1) ?_
        refine Tk 4 10 31 B81 30 (.v (elt C_ ((((2 * i3_ + 1 : Nat) : Int)).toNat * 5))) hQ70 ?_
        refine XD.nilElt (i := 5) (l' := (lb 10 63)) (oA B81 (pa 30) 5) (x := .tmp 47) (A := C_) (j := (((2 * i3_ + 1 : Nat) : Int)).toNat * 5) hQ70 (by kernel_rfl) (by kernel_rfl) (by kernel_rfl) (by kernel_rfl) (by kernel_rfl) (by kernel_rfl) ?_
        refine XD.field (i := 6) (l' := (lb 10 127)) (o := (oA B81 (pa 30) 6)) (t := 89) (f := 1) (n := 4) (A := C_) (j := (((2 * i3_ + 1 : Nat) : Int)).toNat * 5) (x := .tmp 48) hQ70 (by kernel_rfl) (by kernel_rfl) (by kernel_rfl) (by kernel_rfl) (by kernel_rfl) (by kernel_rfl) (by kernel_rfl) ?_
        have at87 : At G27 [(600, ⟨89, 5, .slice C_ (n1_ - 1) c1_, (n1_ - 1), l3_.flatMap itC⟩)] C_ ((((2 * i3_ + 1 : Nat) : Int)).toNat * 5) [.int .i64 ((l3_.getD ((((2 * i3_ + 1 : Nat) : Int)).toNat) it0).1), .int .i64 ((l3_.getD ((((2 * i3_ + 1 : Nat) : Int)).toNat) it0).2.1), .int .i64 ((l3_.getD ((((2 * i3_ + 1 : Nat) : Int)).toNat) it0).2.2.1), .int .i64 ((l3_.getD ((((2 * i3_ + 1 : Nat) : Int)).toNat) it0).2.2.2.1), .int .u64 ((l3_.getD ((((2 * i3_ + 1 : Nat) : Int)).toNat) it0).2.2.2.2)] := At.rowF itC itC_len (i := 600) (r := ⟨89, 5, .slice C_ (n1_ - 1) c1_, (n1_ - 1), l3_.flatMap itC⟩) it0 rfl rfl rfl (by rw [hln3_]; omega)
        refine Dl 7 10 255 B81 30 85 C_ ((((2 * i3_ + 1 : Nat) : Int)).toNat * 5 + 4) (.tmp 49) (N7 ((l3_.getD ((((2 * i3_ + 1 : Nat) : Int)).toNat) it0).2.2.2.2)) [N7 ((l3_.getD ((((2 * i3_ + 1 : Nat) : Int)).toNat) it0).2.2.2.2)] hQ70 (at87.part 4 1) ?_
        refine Ts [8, 9] 10 1023 0 2 hQ70 ?_
        refine XD.done (by kernel_rfl) ?_
        refine Rn 2 (.ex .ret) [] ⟨52, [(6, VB (decide ((l3_.getD ((((2 * i3_ + 2 : Nat) : Int)).toNat) it0).2.2.2.2 < (l3_.getD ((((2 * i3_ + 1 : Nat) : Int)).toNat) it0).2.2.2.2)))], [(2002, ⟨27, [I6 0, I6 0, I6 0, I6 0]⟩), (2004, ⟨27, [I6 ((l1_.getD 0 it0).1), I6 ((l1_.getD 0 it0).2.1), I6 ((l1_.getD 0 it0).2.2.1), I6 ((l1_.getD 0 it0).2.2.2.1)]⟩), (3700, ⟨87, [VL C_ (n1_ - 1) c1_, I7 q_]⟩)]⟩ ?_
        refine fin70 _ _ _ _ [.bool (decide ((l3_.getD ((((2 * i3_ + 2 : Nat) : Int)).toNat) it0).2.2.2.2 < (l3_.getD ((((2 * i3_ + 1 : Nat) : Int)).toNat) it0).2.2.2.2))] [(1002, ⟨27, [I6 0, I6 0, I6 0, I6 0]⟩), (1004, ⟨27, [I6 ((l1_.getD 0 it0).1), I6 ((l1_.getD 0 it0).2.1), I6 ((l1_.getD 0 it0).2.2.1), I6 ((l1_.getD 0 it0).2.2.2.1)]⟩), (2700, ⟨87, [VL C_ (n1_ - 1) c1_, I7 q_]⟩)] (.inl rfl) (by kernel_rfl) (by kernel_rfl) ?_
        refine Rn 3 (Qc B50 397) [Qs B50 199, .blk 1, .loop J27, .blk 0] ⟨67, [(0, .own 2700 0), (1, I6 (i3_ : Int)), (4, .mth 81 2700 0), (5, I6 ((2 * i3_ + 1 : Nat) : Int)), (32, VB (decide ((l3_.getD ((((2 * i3_ + 2 : Nat) : Int)).toNat) it0).2.2.2.2 < (l3_.getD ((((2 * i3_ + 1 : Nat) : Int)).toNat) it0).2.2.2.2)))], [(1002, ⟨27, [I6 0, I6 0, I6 0, I6 0]⟩), (1004, ⟨27, [I6 ((l1_.getD 0 it0).1), I6 ((l1_.getD 0 it0).2.1), I6 ((l1_.getD 0 it0).2.2.1), I6 ((l1_.getD 0 it0).2.2.2.1)]⟩), (2700, ⟨87, [VL C_ (n1_ - 1) c1_, I7 q_]⟩)]⟩ ?_
        refine X.castS ⟨67, [(0, .own 2700 0), (1, I6 (i3_ : Int)), (4, .mth 81 2700 0), (5, I6 ((2 * i3_ + 1 : Nat) : Int)), (32, VB (decide (ltI (l3_.getD (((2 * i3_ + 2 : Nat) : Int)).toNat it0) (l3_.getD (((2 * i3_ + 1 : Nat) : Int)).toNat it0))))], [(1002, ⟨27, [I6 0, I6 0, I6 0, I6 0]⟩), (1004, ⟨27, [I6 ((l1_.getD 0 it0).1), I6 ((l1_.getD 0 it0).2.1), I6 ((l1_.getD 0 it0).2.2.1), I6 ((l1_.getD 0 it0).2.2.2.1)]⟩), (2700, ⟨87, [VL C_ (n1_ - 1) c1_, I7 q_]⟩)]⟩ (congrArg (fun zb_ : Bool => (⟨67, [(0, .own 2700 0), (1, I6 (i3_ : Int)), (4, .mth 81 2700 0), (5, I6 ((2 * i3_ + 1 : Nat) : Int)), (32, VB zb_)], [(1002, ⟨27, [I6 0, I6 0, I6 0, I6 0]⟩), (1004, ⟨27, [I6 ((l1_.getD 0 it0).1), I6 ((l1_.getD 0 it0).2.1), I6 ((l1_.getD 0 it0).2.2.1), I6 ((l1_.getD 0 it0).2.2.2.1)]⟩), (2700, ⟨87, [VL C_ (n1_ - 1) c1_, I7 q_]⟩)]⟩ : S)) (show (decide ((l3_.getD ((((2 * i3_ + 2 : Nat) : Int)).toNat) it0).2.2.2.2 < (l3_.getD ((((2 * i3_ + 1 : Nat) : Int)).toNat) it0).2.2.2.2)) = (decide (ltI (l3_.getD (((2 * i3_ + 2 : Nat) : Int)).toNat it0) (l3_.getD (((2 * i3_ + 1 : Nat) : Int)).toNat it0))) by first | exact congrArg (fun b_ => !b_) (decide_eq_decide.mpr (by unfold ltI; omega)) | exact decide_eq_decide.mpr (by unfold ltI; omega))) ?_
        exact hY68 _ (Ge.refl _ _)
     ·
      replace h67 : ¬ (((2 * i3_ + 2 : Nat) : Int) < (((n1_ - 1) : Nat) : Int)) := of_decide_eq_false h67
      refine Rn 11 (Qc B50 199) [.blk 1, .loop J27, .blk 0] ⟨67, [(0, .own 2700 0), (1, I6 (i3_ : Int)), (4, .mth 81 2700 0), (5, I6 ((2 * i3_ + 1 : Nat) : Int))], [(1002, ⟨27, [I6 0, I6 0, I6 0, I6 0]⟩), (1004, ⟨27, [I6 ((l1_.getD 0 it0).1), I6 ((l1_.getD 0 it0).2.1), I6 ((l1_.getD 0 it0).2.2.1), I6 ((l1_.getD 0 it0).2.2.2.1)]⟩), (2700, ⟨87, [VL C_ (n1_ - 1) c1_, I7 q_]⟩)]⟩ ?_
      exact hY29 _ _ _ ⟨(2 * i3_ + 1), rfl, rfl, (Ge.refl _ _), ⟨by omega, by omega, by omega, kid_one (by omega)⟩⟩
 ·
  replace h4 : ¬ (((xs_.length : Nat) : Int) > 0) := of_decide_eq_false h4
  refine Rn 9 (Qo B7 126 1) [Qs B7 127] ⟨110, [(104, .own 700 0)], [(700, ⟨87, [VL C_ n1_ c1_, I7 q_]⟩)]⟩ ?_
  refine X.inline (f := 17) (l := [.own 700 0]) (fn := Try.f17) (c := B17) (by kernel_rfl) (by kernel_rfl) Try.func17 (by kernel_rfl) ?_
  intro Q88 M88 hM88 hQ88 fin88
  refine Rn 9 (Qo B17 12 1) [Qs B17 13, Qs B17 7] ⟨10, [(0, .own 1700 0), (2, I6 0), (3, .own 1700 0)], [(1700, ⟨87, [VL C_ n1_ c1_, I7 q_]⟩)]⟩ ?_
  refine X.eqOwnNil (t := 23) (t' := 23) (e := 87) (b := 1700) (off := 0) (x := .tmp 3) (y := .const (.pointer none)) (by kernel_rfl) (fun g => by kernel_rfl) (by kernel_rfl) (by kernel_rfl) (by kernel_rfl) (by kernel_rfl) ?_
  refine Rn 16 (.ex .ret) [] ⟨10, [(2, I6 ((n1_ : Nat) : Int))], [(1700, ⟨87, [VL C_ n1_ c1_, I7 q_]⟩)]⟩ ?_
  refine fin88 _ _ _ _ [N6 ((n1_ : Nat) : Int)] [(700, ⟨87, [VL C_ n1_ c1_, I7 q_]⟩)] (.inl rfl) (by kernel_rfl) (by kernel_rfl) ?_
  refine Rn 2 (Qo B7 126 4) [Qs B7 127] ⟨110, [(107, VB (((n1_ : Nat) : Int) == 0))], []⟩ ?_
  refine X.isTrue 107 rfl (by simp; omega) ?_
  refine Cg 18 [] 0 (works06_ok _) ?_
  rintro v89 G89 rows89 hG89 ⟨rfl, rfl⟩
  replace hr := hr.mono hG89.le
  replace hrx_ := hrx_.mono hG89.le
  refine Rn 5 (.ex .ret) [] ⟨110, [(2, VB true)], []⟩ ?_
  refine Dg (.inl rfl) [.bool true] [] rfl (((hG2.trans hG3).trans hG89)) ?_
  exact ⟨rfl, rfl⟩
end Go.Proofs.YthpinlcfcgnilaaX
