/- leatlaw06.event, first. Walked; printed by a small program of this session. Conditions: none. -/
import Derived.Test.YthpinlcfcgnilaaProg
import Derived.KernelRfl
import Derived.Test.YthpinlcfcgnilaaYH3
namespace Go.Proofs.YthpinlcfcgnilaaX
open Go.RowKit
open Go.Proofs.YthpinlcfcgnilaaW.PrintLast
set_option linter.unusedVariables false
set_option linter.unusedSimpArgs false
set_option maxRecDepth 100000
/-- leat/leatlaw06.event -/
noncomputable def B31 : Code := bodyOf Try.f31
set_option maxHeartbeats 1000000 in
theorem event_ok (e0_ e1_ e2_ e3_ : Int) (G : Mem) : CallsG Try.prog 31 [.agg #[.int .i64 e0_, .int .i64 e1_, .int .i64 e2_, .int .i64 e3_]] G (fun _ v rows => v = .agg #[.int .i64 e0_, .int .i64 e1_, .int .i64 e2_, .int .i64 e3_] ∧ rows = []) := by
 refine CallsG.enter Try.func31 rfl rfl ?_
 intro w
 refine Rn 21 (.ex .ret) [] ⟨12, [(2, .own 2 0)], [(2, ⟨66, [I6 e0_, I6 e1_, I6 e2_, I6 e3_]⟩)]⟩ ?_
 refine Dg (.inl rfl) [.agg #[N6 e0_, N6 e1_, N6 e2_, N6 e3_]] [] rfl (Ge.refl _ _) ?_
 exact ⟨rfl, rfl⟩
/-- leat/leatlaw06.first -/
noncomputable def B27 : Code := bodyOf Try.f27
set_option maxHeartbeats 1000000 in
theorem firstNil_ok (A : Option Addr) (c : Nat) (xs : List Ev) (hx : xs.length = 0) (G : Mem) : CallsG Try.prog 27 [.agg #[.int .i64 0, .int .i64 0, .int .i64 0, .int .i64 0], .bool false, .slice A xs.length c] G (fun _ v rows => v = .bool true ∧ rows = []) := by
 refine CallsG.enter Try.func27 rfl rfl ?_
 intro w
 refine Rn 14 (Qc B27 13) [Qs B27 7] ⟨26, [(1, VB false), (2, VL A xs.length c), (3, .own 3 0), (6, VB false), (9, VB ((xs.length : Int) == 0))], [(3, ⟨27, [I6 0, I6 0, I6 0, I6 0]⟩)]⟩ ?_
 refine X.isTrue 9 rfl (by rw [hx]; rfl) ?_
 refine Rn 8 (Qo B27 52 5) [Qs B27 53, Qs B27 7] ⟨26, [(1, VB false), (2, VL A xs.length c), (3, .own 3 0), (6, VB false), (12, VB true), (13, .v (.agg #[N6 0, N6 0, N6 0, N6 0])), (14, .v (.agg #[N6 0, N6 0, N6 0, N6 0]))], [(3, ⟨27, [I6 0, I6 0, I6 0, I6 0]⟩)]⟩ ?_
 refine X.eqV (t := 27) (t' := 27) (x := .tmp 13) (y := .tmp 14) (xs := #[N6 0, N6 0, N6 0, N6 0]) (ys := #[N6 0, N6 0, N6 0, N6 0]) (b := (((0 : Int) == 0) && (((0 : Int) == 0) && (((0 : Int) == 0) && (((0 : Int) == 0) && true))))) (by kernel_rfl) (by kernel_rfl) (by kernel_rfl) (by kernel_rfl) (by kernel_rfl) (by kernel_rfl) ?_
 refine Rn 6 (.ex .ret) [] ⟨26, [(6, VB (((0 : Int) == 0) && (((0 : Int) == 0) && (((0 : Int) == 0) && (((0 : Int) == 0) && true)))))], []⟩ ?_
 refine Dg (.inl rfl) [.bool (((0 : Int) == 0) && (((0 : Int) == 0) && (((0 : Int) == 0) && (((0 : Int) == 0) && true))))] [] rfl (Ge.refl _ _) ?_
 exact ⟨rfl, rfl⟩
set_option maxHeartbeats 1000000 in
theorem firstOne_ok (A : Option Addr) (c : Nat) (xs : List Ev) (e0_ e1_ e2_ e3_ : Int) (h0 : 0 < xs.length) (hx : xs.getD 0 ev0 = (e0_, e1_, e2_, e3_)) (G : Mem) (hr : rowAt evD G A xs) (hle : xs.length ≤ c) (hmx : c ≤ maxLen) (hsz : xs.length ≤ 1000) : CallsG Try.prog 27 [.agg #[.int .i64 e0_, .int .i64 e1_, .int .i64 e2_, .int .i64 e3_], .bool true, .slice A xs.length c] G (fun _ v rows => v = .bool true ∧ rows = []) := by
 refine CallsG.enter Try.func27 rfl rfl ?_
 intro w
 refine Rn 14 (Qc B27 13) [Qs B27 7] ⟨26, [(1, VB true), (2, VL A xs.length c), (3, .own 3 0), (6, VB false), (9, VB ((xs.length : Int) == 0))], [(3, ⟨27, [I6 e0_, I6 e1_, I6 e2_, I6 e3_]⟩)]⟩ ?_
 refine X.isFalse 9 rfl (beq_eq_false_iff_ne.mpr (by omega)) ?_
 refine Rn 4 (Qc B27 14) [Qs B27 15] ⟨26, [(1, VB true), (2, VL A xs.length c), (3, .own 3 0), (6, VB false)], [(3, ⟨27, [I6 e0_, I6 e1_, I6 e2_, I6 e3_]⟩)]⟩ ?_
 have hr_d1 := hr
 refine Og 3 B27 14 10 [⟨some 3, 3, 27, [I6 e0_, I6 e1_, I6 e2_, I6 e3_]⟩] [] [] ⟨⟨fun _ h => (by cases h; rfl), rfl⟩, trivial⟩ (by intro p hp hn; simp only [List.mem_cons, List.not_mem_nil, or_false] at hp; rcases hp with rfl <;> first | (cases hn; done) | exact absurd _ (Nat.le_of_ble_eq_true rfl)) (fun ρ0 => ?_)
 refine Tk 0 10 1 B27 14 (VB true) QOk.ctxG ?_
 refine Tk 1 10 3 B27 14 (VB true) QOk.ctxG ?_
 refine Tk 2 10 7 B27 14 (.v (.agg #[N6 e0_, N6 e1_, N6 e2_, N6 e3_])) QOk.ctxG ?_
 refine Tk 4 10 23 B27 14 (VL A xs.length c) QOk.ctxG ?_
 have b2 : (0 : Int) ≤ 0 := by omega
 have b3 : 0 < ((xs.length : Nat) : Int) := by omega
 have at4 := At.ev [] hr_d1 0 (by omega)
 simp only [evC] at at4
 refine Dx 5 10 55 B27 14 59 66 4 A xs.length c .i64 0 (.tmp 21) (.const (N6 0)) QOk.ctxG b2 b3 (fun _ _ => rowAt.so hr_d1 (by omega)) ?_
 refine Dl 6 10 119 B27 14 66 A (0 * 4) (.tmp 22) (.agg #[N6 ((xs.getD 0 ev0).1), N6 ((xs.getD 0 ev0).2.1), N6 ((xs.getD 0 ev0).2.2.1), N6 ((xs.getD 0 ev0).2.2.2)]) [N6 ((xs.getD 0 ev0).1), N6 ((xs.getD 0 ev0).2.1), N6 ((xs.getD 0 ev0).2.2.1), N6 ((xs.getD 0 ev0).2.2.2)] QOk.ctxG at4 ?_
 refine Dn ⟨26, [(3, .own 3 0), (6, VB false), (18, VB true), (19, .v (.agg #[N6 e0_, N6 e1_, N6 e2_, N6 e3_])), (23, .v (.agg #[N6 ((xs.getD 0 ev0).1), N6 ((xs.getD 0 ev0).2.1), N6 ((xs.getD 0 ev0).2.2.1), N6 ((xs.getD 0 ev0).2.2.2)]))], [(3, ⟨27, [I6 e0_, I6 e1_, I6 e2_, I6 e3_]⟩)]⟩ ⟨⟨fun _ h => (by cases h; rfl), rfl⟩, trivial⟩ ?_
 refine Do 3 10 127 B27 14 ?_
 refine Cg 31 [.agg #[N6 e0_, N6 e1_, N6 e2_, N6 e3_]] 0 (event_ok e0_ e1_ e2_ e3_ _) ?_
 rintro v5 G5 rows5 hG5 ⟨rfl, rfl⟩
 replace hr := hr.mono hG5.le
 refine X.back ⟨⟨⟨fun _ h => (by cases h; rfl), rfl⟩, trivial⟩, hG5.le, rfl, ?_⟩
 refine Dn ⟨26, [(3, .own 3 0), (6, VB false), (18, VB true), (20, .v (.agg #[N6 e0_, N6 e1_, N6 e2_, N6 e3_])), (23, .v (.agg #[N6 ((xs.getD 0 ev0).1), N6 ((xs.getD 0 ev0).2.1), N6 ((xs.getD 0 ev0).2.2.1), N6 ((xs.getD 0 ev0).2.2.2)]))], [(3, ⟨27, [I6 e0_, I6 e1_, I6 e2_, I6 e3_]⟩)]⟩ ⟨⟨fun _ h => (by cases h; rfl), rfl⟩, trivial⟩ ?_
 refine Do 7 10 255 B27 14 ?_
 refine X.eqV (t := 66) (t' := 66) (x := .tmp 20) (y := .tmp 23) (xs := #[N6 e0_, N6 e1_, N6 e2_, N6 e3_]) (ys := #[N6 ((xs.getD 0 ev0).1), N6 ((xs.getD 0 ev0).2.1), N6 ((xs.getD 0 ev0).2.2.1), N6 ((xs.getD 0 ev0).2.2.2)]) (b := (((e0_ : Int) == ((xs.getD 0 ev0).1)) && (((e1_ : Int) == ((xs.getD 0 ev0).2.1)) && (((e2_ : Int) == ((xs.getD 0 ev0).2.2.1)) && (((e3_ : Int) == ((xs.getD 0 ev0).2.2.2)) && true))))) (by kernel_rfl) (by kernel_rfl) (by kernel_rfl) (by kernel_rfl) (by kernel_rfl) (by kernel_rfl) ?_
 refine X.back ⟨⟨⟨fun _ h => (by cases h; rfl), rfl⟩, trivial⟩, hG5.le, rfl, ?_⟩
 refine Ts [8, 9] 10 1023 0 2 QOk.ctxG ?_
 refine XD.done (by kernel_rfl) ?_
 refine Rn 2 (.ex .ret) [] ⟨26, [(6, VB (((e0_ : Int) == ((xs.getD 0 ev0).1)) && (((e1_ : Int) == ((xs.getD 0 ev0).2.1)) && (((e2_ : Int) == ((xs.getD 0 ev0).2.2.1)) && (((e3_ : Int) == ((xs.getD 0 ev0).2.2.2)) && true)))))], []⟩ ?_
 refine Dg (.inl rfl) [.bool (((e0_ : Int) == ((xs.getD 0 ev0).1)) && (((e1_ : Int) == ((xs.getD 0 ev0).2.1)) && (((e2_ : Int) == ((xs.getD 0 ev0).2.2.1)) && (((e3_ : Int) == ((xs.getD 0 ev0).2.2.2)) && true))))] [] rfl (hG5) ?_
 exact ⟨congrArg Value.bool (by rw [hx]; simp), rfl⟩
end Go.Proofs.YthpinlcfcgnilaaX
