/- A part of a law's proof. Conditions: none. -/
import Derived.Test.YtjgpdbkkpomhjaaProg
import Derived.KernelRfl
import Derived.Test.YtjgpdbkkpomhjaaQYK0
import Derived.Test.YtjgpdbkkpomhjaaQYT
namespace Go.Proofs.YtjgpdbkkpomhjaaX
open Go.RowKit
open Go.Proofs.YtjgpdbkkpomhjaaW.PrintLast
set_option linter.unusedVariables false
set_option linter.unusedSimpArgs false
set_option maxRecDepth 100000
set_option maxHeartbeats 1000000 in
theorem within_ok (G : Mem) : CallsG Try.prog 173 [.int .i64 32] G (fun _ v rows => v = .int .u64 32 ∧ rows = []) := by
 refine CallsG.enter Try.func173 rfl rfl ?_
 intro w
 refine Rn 15 (.ex .ret) [] ⟨7, [(2, I7 32)], []⟩ ?_
 refine Dg (.inl rfl) [N7 32] [] rfl (Ge.refl _ _) ?_
 exact ⟨rfl, rfl⟩
noncomputable def B158 : Code := bodyOf Try.f158
set_option maxHeartbeats 1000000 in
theorem Diff_ok (a b : Int) (G : Mem) : CallsG Try.prog 158 [.int .u64 a, .int .u64 b, .int .i64 32] G (fun _ v rows => v = .int .i64 (dif a b) ∧ rows = []) := by
 refine CallsG.enter Try.func158 rfl rfl ?_
 intro w
 refine Rn 8 (Qo B158 6 1) [Qs B158 7] ⟨19, [(0, I7 a), (1, I7 b), (6, I6 0), (8, I6 32)], []⟩ ?_
 refine Cg 173 [N6 32] 0 (within_ok _) ?_
 rintro v1 G1 rows1 hG1 ⟨rfl, rfl⟩
 refine Rn 18 (.ex .ret) [] ⟨19, [(6, I6 (bshr .i64 (IntKind.i64.wrap (bshl .u64 (IntKind.u64.wrap (a - b)) 32)) 32))], []⟩ ?_
 refine Dg (.inl rfl) [N6 (bshr .i64 (IntKind.i64.wrap (bshl .u64 (IntKind.u64.wrap (a - b)) 32)) 32)] [] rfl (hG1) ?_
 rw [dif_shift]
 exact ⟨rfl, rfl⟩
noncomputable def B160 : Code := bodyOf Try.f160
noncomputable def B129 : Code := bodyOf Try.f129
set_option maxHeartbeats 1000000 in
theorem Unwrap_ok (last x : Int) (G : Mem) : CallsG Try.prog 129 [.int .i64 last, .int .u64 x, .int .i64 32] G (fun _ v rows => v = .int .i64 (unw last x) ∧ rows = []) := by
 refine CallsG.enter Try.func129 rfl rfl ?_
 intro w
 refine Rn 11 (Qo B129 6 2) [Qs B129 7] ⟨17, [(0, I6 last), (4, .own 4 0), (5, .own 5 0), (6, I6 0), (9, I6 (imin last 4611686018427387904))], [(4, ⟨137, [I7 x]⟩), (5, ⟨3, [I6 32]⟩)]⟩ ?_
 refine Kn 9 .i64 (min last 4611686018427387904) rfl (by simp only [imin_eq, imax_eq]) ?_
 refine Ra 1 (Qo B129 6 3) 0 [] [(10, I6 (imax (-4611686018427387904) (min last 4611686018427387904)))] ?_
 refine Kn 10 .i64 (farL last) rfl (by simp only [imin_eq, imax_eq]; rfl) ?_
 refine Rc 14 (Qo B129 30 3) 1 [Qs B129 31] [(12, I6 (farL last)), (13, .fn 160 [(4, 0), (5, 0)]), (14, I6 (farL last))] [0] ?_
 refine X.inline (f := 160) (l := [I6 (farL last), .own 4 0, .own 5 0]) (fn := Try.f160) (c := B160) (by kernel_rfl) (by kernel_rfl) Try.func160 (by kernel_rfl) ?_
 intro Q1 M1 hM1 hQ1 fin1
 refine Ra 11 (Qo B160 6 4) 0 [Qs B160 7] [(4, I6 0), (5, I7 x), (7, I7 (IntKind.u64.wrap (farL last))), (8, I6 32)] ?_
 refine Cg 158 [N7 x, N7 (IntKind.u64.wrap (farL last)), N6 32] 0 (Diff_ok x (IntKind.u64.wrap (farL last)) _) ?_
 rintro v2 G2 rows2 hG2 ⟨rfl, rfl⟩
 have hdr2_ := dif_range x (IntKind.u64.wrap (farL last))
 refine Rc 4 (.ex .ret) 1 [] [(4, I6 (dif x (IntKind.u64.wrap (farL last))))] [5, 7, 8] ?_
 refine fin1 _ _ _ _ [N6 (dif x (IntKind.u64.wrap (farL last)))] [(4, ⟨137, [I7 x]⟩), (5, ⟨3, [I6 32]⟩)] (.inl rfl) (by kernel_rfl) (by kernel_rfl) ?_
 refine Rn 5 (.ex .ret) [] ⟨17, [(6, I6 (IntKind.i64.wrap ((farL last) + (dif x (IntKind.u64.wrap (farL last))))))], []⟩ ?_
 refine Dg (.inl rfl) [N6 (IntKind.i64.wrap ((farL last) + (dif x (IntKind.u64.wrap (farL last)))))] [] rfl (hG2) ?_
 have hf_ := farL_range last
 have hd_ := dif_range x (farL last)
 rw [dif_u64, wi64 (by omega) (by omega)]
 exact ⟨rfl, rfl⟩
end Go.Proofs.YtjgpdbkkpomhjaaX
