/- segment.begin, ahead; leatref13.from. Walked; printed by a small program of this session. Conditions: none. -/
import Derived.Test.YtjgpdbkkpomhjaaProg
import Derived.KernelRfl
import Derived.Test.YtjgpdbkkpomhjaaYP0
import Derived.Test.YtjgpdbkkpomhjaaYK1
import Derived.Test.YtjgpdbkkpomhjaaYK2
import Derived.Test.YtjgpdbkkpomhjaaYG4
namespace Go.Proofs.YtjgpdbkkpomhjaaX
open Go.RowKit
open Go.Proofs.YtjgpdbkkpomhjaaW.PrintLast
set_option linter.unusedVariables false
set_option linter.unusedSimpArgs false
set_option maxRecDepth 100000
theorem fl_tmod2 {f : Int} (hf : 0 ≤ f ∧ f ≤ 255) : Int.tmod f 2 = f % 2 ∧ Int.tmod (IntKind.u8.wrap (Int.tdiv f 2)) 2 = f / 2 % 2 ∧ True := by
 have := byteAll (p := fun f => decide (Int.tmod f 2 = f % 2 ∧ Int.tmod (IntKind.u8.wrap (Int.tdiv f 2)) 2 = f / 2 % 2 ∧ True)) (by decide +kernel) hf
 exact of_decide_eq_true this
/-- leat/segment.begin -/
noncomputable def B125 : Code := bodyOf Try.f125
set_option maxHeartbeats 1000000 in
theorem begin_ok (y : Sg) (G : Mem) (hh : y.h.ok) : CallsG Try.prog 125 [.agg #[.int .u16 y.h.s0, .int .u16 y.h.s1, .int .u32 y.h.s2, .int .u32 y.h.s3, .int .u8 y.h.s4, .int .u8 y.h.s5, .int .u8 y.h.s6, .int .u16 y.h.s7, .int .u16 y.h.s8, .int .u16 y.h.s9, .slice y.A y.n y.c, .string y.d]] G (fun _ v rows => v = .int .u32 (begS y) ∧ rows = []) := by
 have hh2_ := hh.h2
 refine CallsG.enter Try.func125 rfl rfl ?_
 intro w
 refine Rn 11 (Qo B125 12 2) [Qs B125 13, Qs B125 7] ⟨13, [(1, .own 1 0), (2, I3 0), (4, .v (.agg #[N1 y.h.s0, N1 y.h.s1, N3 y.h.s2, N3 y.h.s3, N8 y.h.s4, N8 y.h.s5, N8 y.h.s6, N1 y.h.s7, N1 y.h.s8, N1 y.h.s9]))], [(1, ⟨82, [I1 y.h.s0, I1 y.h.s1, I3 y.h.s2, I3 y.h.s3, I8 y.h.s4, I8 y.h.s5, I8 y.h.s6, I1 y.h.s7, I1 y.h.s8, I1 y.h.s9, VL y.A y.n y.c, VT y.d]⟩)]⟩ ?_
 refine Cg 37 [.agg #[N1 y.h.s0, N1 y.h.s1, N3 y.h.s2, N3 y.h.s3, N8 y.h.s4, N8 y.h.s5, N8 y.h.s6, N1 y.h.s7, N1 y.h.s8, N1 y.h.s9], N8 2] 0 (Has_ok y.h.s0 y.h.s1 y.h.s2 y.h.s3 y.h.s4 y.h.s5 y.h.s6 y.h.s7 y.h.s8 y.h.s9 2 _) ?_
 rintro v1 G1 rows1 hG1 ⟨rfl, rfl⟩
 refine Rn 2 (Qc B125 13) [Qs B125 7] ⟨13, [(1, .own 1 0), (2, I3 0), (5, VB (band .u8 y.h.s6 2 == 2))], [(1, ⟨82, [I1 y.h.s0, I1 y.h.s1, I3 y.h.s2, I3 y.h.s3, I8 y.h.s4, I8 y.h.s5, I8 y.h.s6, I1 y.h.s7, I1 y.h.s8, I1 y.h.s9, VL y.A y.n y.c, VT y.d]⟩)]⟩ ?_
 refine X.split 5 rfl (fun h2 => ?_) (fun h2 => ?_)
 ·
  replace h2 : band .u8 y.h.s6 2 = 2 := by simpa using h2
  have e1_ := bit1 hh.h6
  have hb6_ : y.h.s6 / 2 % 2 = 1 := by
   have h_ : (band .u8 y.h.s6 2 == 2) = true := by simpa using h2
   rw [h_] at e1_
   have h2_ := e1_.symm
   simp at h2_
   omega
  refine Rn 12 (.ex .ret) [] ⟨13, [(2, I3 (IntKind.u32.wrap (y.h.s2 + 1)))], []⟩ ?_
  refine Dg (.inl rfl) [N3 (IntKind.u32.wrap (y.h.s2 + 1))] [] rfl (hG1) ?_
  rw [show IntKind.u32.wrap (y.h.s2 + 1) = begS y by unfold begS; simp only [hb6_, u32_wrap, Int.add_zero] <;> omega]
  exact ⟨rfl, rfl⟩
 ·
  replace h2 : band .u8 y.h.s6 2 ≠ 2 := by simpa using h2
  have e1_ := bit1 hh.h6
  have hb6_ : y.h.s6 / 2 % 2 = 0 := by
   have h_ : (band .u8 y.h.s6 2 == 2) = false := by simpa using h2
   rw [h_] at e1_
   have h2_ := e1_.symm
   simp at h2_
   omega
  refine Rn 12 (.ex .ret) [] ⟨13, [(2, I3 y.h.s2)], []⟩ ?_
  refine Dg (.inl rfl) [N3 y.h.s2] [] rfl (hG1) ?_
  rw [show y.h.s2 = begS y by unfold begS; simp only [hb6_, u32_wrap, Int.add_zero] <;> omega]
  exact ⟨rfl, rfl⟩
/-- leat/segment.ahead -/
noncomputable def B124 : Code := bodyOf Try.f124
set_option maxHeartbeats 1000000 in
theorem ahead_ok (a b : Int) (G : Mem) : CallsG Try.prog 124 [.int .u32 a, .int .u32 b] G (fun _ v rows => v = .int .i64 (dif a b) ∧ rows = []) := by
 refine CallsG.enter Try.func124 rfl rfl ?_
 intro w
 refine Rn 11 (Qo B124 6 4) [Qs B124 7] ⟨10, [(4, I6 0), (6, I7 (IntKind.u64.wrap a)), (8, I7 (IntKind.u64.wrap b))], []⟩ ?_
 refine Cg 158 [N7 (IntKind.u64.wrap a), N7 (IntKind.u64.wrap b), N6 32] 0 (Diff_ok (IntKind.u64.wrap a) (IntKind.u64.wrap b) _) ?_
 rintro v1 G1 rows1 hG1 ⟨rfl, rfl⟩
 have hdr1_ := dif_range (IntKind.u64.wrap a) (IntKind.u64.wrap b)
 refine Rn 4 (.ex .ret) [] ⟨10, [(4, I6 (dif (IntKind.u64.wrap a) (IntKind.u64.wrap b)))], []⟩ ?_
 refine Dg (.inl rfl) [N6 (dif (IntKind.u64.wrap a) (IntKind.u64.wrap b))] [] rfl (hG1) ?_
 rw [show dif (IntKind.u64.wrap a) (IntKind.u64.wrap b) = dif a b by unfold dif; simp only [u64_wrap]; omega]
 exact ⟨rfl, rfl⟩
/-- leat/leatref13.from -/
noncomputable def B126 : Code := bodyOf Try.f126
set_option maxHeartbeats 1000000 in
theorem from_ok (y : Sg) (G : Mem) (x : Int) (hh : y.h.ok) (hx : 0 ≤ x ∧ x ≤ 4294967295) : CallsG Try.prog 126 [.agg #[.int .u16 y.h.s0, .int .u16 y.h.s1, .int .u32 y.h.s2, .int .u32 y.h.s3, .int .u8 y.h.s4, .int .u8 y.h.s5, .int .u8 y.h.s6, .int .u16 y.h.s7, .int .u16 y.h.s8, .int .u16 y.h.s9, .slice y.A y.n y.c, .string y.d], .int .u32 x] G (fun _ v rows => v = .int .i64 (dif (begS y) x) ∧ rows = []) := by
 have hh2_ := hh.h2
 obtain ⟨ht0_, ht1_, ht2_⟩ := fl_tmod2 hh.h6
 refine CallsG.enter Try.func126 rfl rfl ?_
 intro w
 refine Rn 17 (Qo B126 6 9) [Qs B126 7] ⟨19, [(1, I3 x), (4, I6 0), (7, I3 y.h.s2), (13, I3 (IntKind.u32.wrap (Int.tmod (IntKind.u8.wrap (Int.tdiv y.h.s6 2)) 2)))], []⟩ ?_
 refine Kn 13 .u32 (y.h.s6 / 2 % 2) rfl (by rw [ht1_, u32_wrap]; omega) ?_
 refine Rn 4 (Qo B126 6 13) [Qs B126 7] ⟨19, [(4, I6 0), (15, I7 (IntKind.u64.wrap (IntKind.u32.wrap (y.h.s2 + (y.h.s6 / 2 % 2))))), (17, I7 (IntKind.u64.wrap x))], []⟩ ?_
 have hu1_ : 0 ≤ IntKind.u64.wrap (IntKind.u32.wrap (y.h.s2 + (y.h.s6 / 2 % 2))) ∧ IntKind.u64.wrap (IntKind.u32.wrap (y.h.s2 + (y.h.s6 / 2 % 2))) ≤ 18446744073709551615 := by rw [u64_wrap]; omega
 have hu2_ : 0 ≤ IntKind.u64.wrap x ∧ IntKind.u64.wrap x ≤ 18446744073709551615 := by rw [u64_wrap]; omega
 refine Cg 159 [N7 (IntKind.u64.wrap (IntKind.u32.wrap (y.h.s2 + (y.h.s6 / 2 % 2)))), N7 (IntKind.u64.wrap x), N6 32] 0 (RDiff_ok (IntKind.u64.wrap (IntKind.u32.wrap (y.h.s2 + (y.h.s6 / 2 % 2)))) (IntKind.u64.wrap x) _ hu1_ hu2_) ?_
 rintro v1 G1 rows1 hG1 ⟨rfl, rfl⟩
 refine Rn 4 (.ex .ret) [] ⟨19, [(4, I6 (dif (IntKind.u64.wrap (IntKind.u32.wrap (y.h.s2 + (y.h.s6 / 2 % 2)))) (IntKind.u64.wrap x)))], []⟩ ?_
 refine Dg (.inl rfl) [N6 (dif (IntKind.u64.wrap (IntKind.u32.wrap (y.h.s2 + (y.h.s6 / 2 % 2)))) (IntKind.u64.wrap x))] [] rfl (hG1) ?_
 rw [show dif (IntKind.u64.wrap (IntKind.u32.wrap (y.h.s2 + (y.h.s6 / 2 % 2)))) (IntKind.u64.wrap x) = dif (begS y) x by unfold dif begS; simp only [u64_wrap, u32_wrap]; omega]
 exact ⟨rfl, rfl⟩
end Go.Proofs.YtjgpdbkkpomhjaaX
