/- leatlaw13.SegmentTurned. Walked; printed by a small program of this session. Conditions: none. -/
import Derived.Test.YtjgpdbkkpomhjaaProg
import Derived.KernelRfl
import Derived.Test.YtjgpdbkkpomhjaaYG5
import Derived.Test.YtjgpdbkkpomhjaaXF
namespace Go.Proofs.YtjgpdbkkpomhjaaX
open Go.RowKit
open Go.Proofs.YtjgpdbkkpomhjaaW.PrintLast
set_option linter.unusedVariables false
set_option linter.unusedSimpArgs false
set_option maxRecDepth 100000
theorem getD_memI {xs : List Int} {i : Nat} (hi : i < xs.length) : xs.getD i 0 ∈ xs := by
 simp [List.getD, hi]
theorem bit_turn {x : Int} (hx : 0 ≤ x ∧ x ≤ 255) {m : Int} (hm : 0 ≤ m ∧ m ≤ 7) : ∃ e : Int, (bxor .u8 x (bshl .u8 1 m.toNat) - x = e ∨ x - bxor .u8 x (bshl .u8 1 m.toNat) = e) ∧ (1 ≤ e ∧ e ≤ 128) ∧ (0 ≤ bxor .u8 x (bshl .u8 1 m.toNat) ∧ bxor .u8 x (bshl .u8 1 m.toNat) ≤ 255) := by
 have h := byteAll (p := fun x => (List.range 8).all fun m => decide (0 ≤ bxor .u8 x (bshl .u8 1 m) ∧ bxor .u8 x (bshl .u8 1 m) ≤ 255 ∧ (1 ≤ bxor .u8 x (bshl .u8 1 m) - x ∧ bxor .u8 x (bshl .u8 1 m) - x ≤ 128 ∨ 1 ≤ x - bxor .u8 x (bshl .u8 1 m) ∧ x - bxor .u8 x (bshl .u8 1 m) ≤ 128))) (by decide +kernel) hx
 have h2 := of_decide_eq_true (List.all_eq_true.mp h m.toNat (List.mem_range.mpr (by omega)))
 obtain ⟨h3, h4, h5 | h5⟩ := h2
 · exact ⟨_, .inl rfl, h5, h3, h4⟩
 · exact ⟨_, .inr rfl, h5, h3, h4⟩
/-- leat/leatlaw13.SegmentTurned -/
noncomputable def B17 : Code := bodyOf Try.f17
set_option maxHeartbeats 1000000 in
theorem SegmentTurned_ok (a : Ad) (h : Hd) (A : Option Addr) (c : Nat) (xs : List Opt) (d : ByteArray) (n : Int) (G : Mem) (ha : a.ok) (hh : h.ok) (hr : rowAt optD G A xs) (hle : xs.length ≤ c) (hmx : c ≤ maxLen) (hd : d.size ≤ maxLen) (hn : 0 ≤ n ∧ n ≤ 65535) : CallsG Try.prog 17 [.agg #[.int .u8 a.a0, .int .u8 a.a1, .int .u8 a.a2, .int .u8 a.a3, .int .u8 a.b0, .int .u8 a.b1, .int .u8 a.b2, .int .u8 a.b3], .agg #[.int .u16 h.s0, .int .u16 h.s1, .int .u32 h.s2, .int .u32 h.s3, .int .u8 h.s4, .int .u8 h.s5, .int .u8 h.s6, .int .u16 h.s7, .int .u16 h.s8, .int .u16 h.s9, .slice A xs.length c, .string d], .int .u16 n] G (fun _ v rows => v = .bool true ∧ rows = []) := by
 simp only [maxLen] at hmx hd
 refine CallsG.enter Try.func17 rfl rfl ?_
 intro w
 refine Rn 8 (Qc B17 6) [Qs B17 7] ⟨66, [(2, I1 n), (3, .own 3 0), (4, .own 4 0), (6, VB false)], [(3, ⟨56, [I8 a.a0, I8 a.a1, I8 a.a2, I8 a.a3, I8 a.b0, I8 a.b1, I8 a.b2, I8 a.b3]⟩), (4, ⟨82, [I1 h.s0, I1 h.s1, I3 h.s2, I3 h.s3, I8 h.s4, I8 h.s5, I8 h.s6, I1 h.s7, I1 h.s8, I1 h.s9, VL A xs.length c, VT d]⟩)]⟩ ?_
 have hr_d1 := hr
 refine Og 1 B17 6 12 [⟨some 3, 3, 56, [I8 a.a0, I8 a.a1, I8 a.a2, I8 a.a3, I8 a.b0, I8 a.b1, I8 a.b2, I8 a.b3]⟩, ⟨some 4, 4, 82, [I1 h.s0, I1 h.s1, I3 h.s2, I3 h.s3, I8 h.s4, I8 h.s5, I8 h.s6, I1 h.s7, I1 h.s8, I1 h.s9, VL A xs.length c, VT d]⟩] [] [] ⟨⟨fun _ h => (by cases h; rfl), rfl⟩, ⟨fun _ h => (by cases h; rfl), rfl⟩, trivial⟩ (by intro p hp hn; simp only [List.mem_cons, List.not_mem_nil, or_false] at hp; rcases hp with rfl | rfl <;> first | (cases hn; done) | exact absurd _ (Nat.le_of_ble_eq_true rfl)) (fun ρ0 => ?_)
 refine XD.ownIndex (i := 0) (l' := (lb 12 1)) (oA B17 (pa 6) 0) (t := 56) (e := 55) (len := 2) (b := 3) (off := 0) (j := 0) (m := 4) (ki := .i64) (x := .tmp 3) (ix := .const (N6 0)) QOk.ctxG (by kernel_rfl) (by kernel_rfl) (by kernel_rfl) (by kernel_rfl) (by kernel_rfl) (by kernel_rfl) (by kernel_rfl) (by decide) (by kernel_rfl) (by kernel_rfl) ?_
 refine Tk 1 12 3 B17 6 (.v (.agg #[N8 a.a0, N8 a.a1, N8 a.a2, N8 a.a3])) QOk.ctxG ?_
 refine XD.ownIndex (i := 2) (l' := (lb 12 7)) (oA B17 (pa 6) 2) (t := 56) (e := 55) (len := 2) (b := 3) (off := 0) (j := 1) (m := 4) (ki := .i64) (x := .tmp 3) (ix := .const (N6 1)) QOk.ctxG (by kernel_rfl) (by kernel_rfl) (by kernel_rfl) (by kernel_rfl) (by kernel_rfl) (by kernel_rfl) (by kernel_rfl) (by decide) (by kernel_rfl) (by kernel_rfl) ?_
 refine Ts [3, 4] 12 31 7 9 QOk.ctxG ?_
 refine Dn ⟨66, [(2, I1 n), (3, .own 3 0), (4, .own 4 0), (6, VB false), (14, .v (.agg #[N8 a.a0, N8 a.a1, N8 a.a2, N8 a.a3])), (16, .v (.agg #[N8 a.b0, N8 a.b1, N8 a.b2, N8 a.b3])), (17, .v (.agg #[N1 h.s0, N1 h.s1, N3 h.s2, N3 h.s3, N8 h.s4, N8 h.s5, N8 h.s6, N1 h.s7, N1 h.s8, N1 h.s9, .slice A xs.length c, .string d]))], [(3, ⟨56, [I8 a.a0, I8 a.a1, I8 a.a2, I8 a.a3, I8 a.b0, I8 a.b1, I8 a.b2, I8 a.b3]⟩), (4, ⟨82, [I1 h.s0, I1 h.s1, I3 h.s2, I3 h.s3, I8 h.s4, I8 h.s5, I8 h.s6, I1 h.s7, I1 h.s8, I1 h.s9, VL A xs.length c, VT d]⟩)]⟩ ⟨⟨fun _ h => (by cases h; rfl), rfl⟩, ⟨fun _ h => (by cases h; rfl), rfl⟩, trivial⟩ ?_
 refine Do 5 12 63 B17 6 ?_
 refine Cg 65 [.agg #[N1 h.s0, N1 h.s1, N3 h.s2, N3 h.s3, N8 h.s4, N8 h.s5, N8 h.s6, N1 h.s7, N1 h.s8, N1 h.s9, .slice A xs.length c, .string d]] 420 (few_ok h A c xs d _ hr hle hmx (by simp only [maxLen]; omega)) ?_
 rintro v2 G2 rows2 hG2 ⟨A2, c2, cs2, rfl, rfl, hcs2⟩
 replace hr := hr.mono hG2.le
 refine X.asR (R' := [(420, RR 65 3 A2 ((fewO xs).length) c2 cs2)]) rfl ?_
 refine X.tellR [420] (R' := [(420, RR 65 3 A2 ((fewO xs).length) c2 cs2)]) rfl ?_
 refine X.capLe (i := 420) (q := (RR 65 3 A2 ((fewO xs).length) c2 cs2)) (n := (fewO xs).length) (c := c2) (A := A2) rfl rfl ?_
 intro hle3 hmx3
 refine X.freezeD (d := optD) (i := 420) (n := (fewO xs).length) (c := c2) (A := A2) (fewO xs) rfl hcs2 (by decide) (by kernel_rfl) (fun _ h => h) ?_
 intro G3 hG3 hr3
 replace hr := hr.mono hG3.le
 have hfz_ := fewD_size d
 refine X.back ⟨⟨⟨fun _ h => (by cases h; rfl), rfl⟩, ⟨fun _ h => (by cases h; rfl), rfl⟩, trivial⟩, (hG2.trans hG3).le, rfl, ?_⟩
 refine Dn ⟨66, [(2, I1 n), (3, .own 3 0), (4, .own 4 0), (6, VB false), (14, .v (.agg #[N8 a.a0, N8 a.a1, N8 a.a2, N8 a.a3])), (16, .v (.agg #[N8 a.b0, N8 a.b1, N8 a.b2, N8 a.b3])), (18, .v (.agg #[N1 h.s0, N1 h.s1, N3 h.s2, N3 h.s3, N8 h.s4, N8 h.s5, N8 h.s6, N1 h.s7, N1 h.s8, N1 h.s9, .slice A2 ((fewO xs).length) c2, .string (fewD d)]))], [(3, ⟨56, [I8 a.a0, I8 a.a1, I8 a.a2, I8 a.a3, I8 a.b0, I8 a.b1, I8 a.b2, I8 a.b3]⟩), (4, ⟨82, [I1 h.s0, I1 h.s1, I3 h.s2, I3 h.s3, I8 h.s4, I8 h.s5, I8 h.s6, I1 h.s7, I1 h.s8, I1 h.s9, VL A xs.length c, VT d]⟩)]⟩ ⟨⟨fun _ h => (by cases h; rfl), rfl⟩, ⟨fun _ h => (by cases h; rfl), rfl⟩, trivial⟩ ?_
 refine Do 6 12 127 B17 6 ?_
 refine Cg 66 [.agg #[N8 a.a0, N8 a.a1, N8 a.a2, N8 a.a3], .agg #[N8 a.b0, N8 a.b1, N8 a.b2, N8 a.b3], .agg #[N1 h.s0, N1 h.s1, N3 h.s2, N3 h.s3, N8 h.s4, N8 h.s5, N8 h.s6, N1 h.s7, N1 h.s8, N1 h.s9, .slice A2 ((fewO xs).length) c2, .string (fewD d)]] 400 (SegEnc_ok a h A2 c2 (fewO xs) (fewD d) _ ha hh hr3 hle3 hmx3) ?_
 rintro v4 G4 rows4 hG4 ⟨A4, c4, rfl, rfl⟩
 replace hr := hr.mono hG4.le
 replace hr3 := hr3.mono hG4.le
 refine X.asR (R' := [(400, RR 5 1 A4 ((encS a h (fewO xs) (fewD d)).1.length) c4 (((encS a h (fewO xs) (fewD d)).1).map (Value.int .u8)))]) rfl ?_
 refine X.back ⟨⟨⟨fun _ h => (by cases h; rfl), rfl⟩, ⟨fun _ h => (by cases h; rfl), rfl⟩, trivial⟩, ((hG2.trans hG3).trans hG4).le, rfl, ?_⟩
 refine Ts [7, 8, 9, 10, 11] 12 4095 0 5 QOk.ctxG ?_
 refine XD.done (by kernel_rfl) ?_
 refine Rn 7 (Qo B17 28 3) [Qs B17 29, Qs B17 15] ⟨66, [(2, I1 n), (3, .own 3 0), (6, VB false), (7, VL A4 ((encS a h (fewO xs) (fewD d)).1.length) c4), (24, VB (((encS a h (fewO xs) (fewD d)).2) != 0))], [(3, ⟨56, [I8 a.a0, I8 a.a1, I8 a.a2, I8 a.a3, I8 a.b0, I8 a.b1, I8 a.b2, I8 a.b3]⟩)]⟩ ?_
 refine X.split 24 rfl (fun h5 => ?_) (fun h5 => ?_)
 ·
  replace h5 : ((encS a h (fewO xs) (fewD d)).2) ≠ 0 := by simpa using h5
  refine Rn 9 (Qo B17 116 0) [Qs B17 117, Qs B17 15] ⟨66, [(2, I1 n), (3, .own 3 0), (6, VB false), (7, VL A4 ((encS a h (fewO xs) (fewD d)).1.length) c4)], [(3, ⟨56, [I8 a.a0, I8 a.a1, I8 a.a2, I8 a.a3, I8 a.b0, I8 a.b1, I8 a.b2, I8 a.b3]⟩)]⟩ ?_
  refine Cg 64 [] 0 (works13_ok _) ?_
  rintro v6 G6 rows6 hG6 ⟨rfl, rfl⟩
  replace hr := hr.mono hG6.le
  replace hr3 := hr3.mono hG6.le
  refine Rn 5 (.ex .ret) [] ⟨66, [(6, VB true)], []⟩ ?_
  refine Dg (.inl rfl) [.bool true] [] rfl ((((hG2.trans hG3).trans hG4).trans hG6)) ?_
  exact ⟨rfl, rfl⟩
 ·
  replace h5 : ((encS a h (fewO xs) (fewD d)).2) = 0 := by simpa using h5
  obtain ⟨he_, hl_, ⟨h5_, h6_⟩, hE_⟩ := encS_zero h5
  have hel_ : (encS a h (fewO xs) (fewD d)).1.length = 20 + (printO (fewO xs)).length + (fewD d).size := by rw [hE_]; exact rawS_len _ _ _ _
  have hop_ := printO_len (fewO xs)
  refine Rn 6 (Qc B17 29) [Qs B17 15] ⟨66, [(2, I1 n), (3, .own 3 0), (6, VB false), (7, VL A4 ((encS a h (fewO xs) (fewD d)).1.length) c4), (28, VB ((((encS a h (fewO xs) (fewD d)).1.length : Nat) : Int) == 0))], [(3, ⟨56, [I8 a.a0, I8 a.a1, I8 a.a2, I8 a.a3, I8 a.b0, I8 a.b1, I8 a.b2, I8 a.b3]⟩)]⟩ ?_
  refine X.isFalse 28 rfl (beq_eq_false_iff_ne.mpr (by omega)) ?_
  refine Rn 7 (Qo B17 30 2) [Qs B17 31] ⟨66, [(3, .own 3 0), (6, VB false), (7, VL A4 ((encS a h (fewO xs) (fewD d)).1.length) c4), (31, I6 (IntKind.i64.wrap n))], [(3, ⟨56, [I8 a.a0, I8 a.a1, I8 a.a2, I8 a.a3, I8 a.b0, I8 a.b1, I8 a.b2, I8 a.b3]⟩)]⟩ ?_
  refine Kn 31 .i64 n rfl (wi64 (by omega) (by omega)) ?_
  refine Rn 3 (Qo B17 30 5) [Qs B17 31] ⟨66, [(3, .own 3 0), (6, VB false), (7, VL A4 ((encS a h (fewO xs) (fewD d)).1.length) c4), (31, I6 n), (34, I6 (IntKind.i64.wrap (8 * (((encS a h (fewO xs) (fewD d)).1.length : Nat) : Int))))], [(3, ⟨56, [I8 a.a0, I8 a.a1, I8 a.a2, I8 a.a3, I8 a.b0, I8 a.b1, I8 a.b2, I8 a.b3]⟩)]⟩ ?_
  refine Kn 34 .i64 (8 * (((encS a h (fewO xs) (fewD d)).1.length : Nat) : Int)) rfl (wi64 (by omega) (by omega)) ?_
  refine X.rem (t := 3) (t' := 3) (x := .tmp 31) (y := .tmp 34) (kd := .i64) (a := n) (b := 8 * (((encS a h (fewO xs) (fewD d)).1.length : Nat) : Int)) (by kernel_rfl) (by kernel_rfl) (by kernel_rfl) (by kernel_rfl) (by omega) ?_
  obtain ⟨k_, hk_⟩ : ∃ z : Int, n % (8 * ((encS a h (fewO xs) (fewD d)).1.length : Int)) = z := ⟨_, rfl⟩
  have hk0_ := Int.emod_nonneg n (show (8 * ((encS a h (fewO xs) (fewD d)).1.length : Int)) ≠ 0 by omega)
  have hk1_ := Int.emod_lt_of_pos n (show 0 < 8 * ((encS a h (fewO xs) (fewD d)).1.length : Int) by omega)
  rw [hk_] at hk0_ hk1_
  refine Kn 35 .i64 k_ rfl ((Int.tmod_eq_emod_of_nonneg (by omega)).trans hk_) ?_
  refine Rn 8 (Qo B17 62 3) [Qs B17 63] ⟨66, [(3, .own 3 0), (6, VB false), (7, VL A4 ((encS a h (fewO xs) (fewD d)).1.length) c4), (9, I6 k_), (36, VL A4 ((encS a h (fewO xs) (fewD d)).1.length) c4), (38, I6 (IntKind.i64.wrap (Int.tdiv k_ 8)))], [(3, ⟨56, [I8 a.a0, I8 a.a1, I8 a.a2, I8 a.a3, I8 a.b0, I8 a.b1, I8 a.b2, I8 a.b3]⟩)]⟩ ?_
  refine Kn 38 .i64 (k_ / 8) rfl (wdiv_i64 (by omega) (by omega) (by omega)) ?_
  have b7 : (0 : Int) ≤ k_ / 8 := by omega
  have b8 : k_ / 8 < (((encS a h (fewO xs) (fewD d)).1.length : Nat) : Int) := by omega
  refine Ix 22 5 1 A4 ((encS a h (fewO xs) (fewD d)).1.length) c4 .i64 (k_ / 8) (.tmp 36) (.tmp 38) b7 b8 (rowSome (i := 400) (q := (RR 5 1 A4 ((encS a h (fewO xs) (fewD d)).1.length) c4 (((encS a h (fewO xs) (fewD d)).1).map (Value.int .u8)))) rfl rfl (by simp only [List.length_map, List.length_set, hel_]; omega)) ?_
  have at9 : At G4 [(400, ⟨5, 1, .slice A4 ((encS a h (fewO xs) (fewD d)).1.length) c4, (encS a h (fewO xs) (fewD d)).1.length, ((encS a h (fewO xs) (fewD d)).1).map (Value.int .u8)⟩)] A4 ((k_ / 8).toNat * 1) [.int .u8 (((encS a h (fewO xs) (fewD d)).1).getD ((k_ / 8).toNat) 0)] := At.rowInt (i := 400) (r := ⟨5, 1, .slice A4 ((encS a h (fewO xs) (fewD d)).1.length) c4, (encS a h (fewO xs) (fewD d)).1.length, ((encS a h (fewO xs) (fewD d)).1).map (Value.int .u8)⟩) rfl rfl rfl (by simp only [List.length_set, hel_]; omega)
  refine Ld 5 A4 ((k_ / 8).toNat * 1) (.tmp 39) (N8 (((encS a h (fewO xs) (fewD d)).1).getD ((k_ / 8).toNat) 0)) [N8 (((encS a h (fewO xs) (fewD d)).1).getD ((k_ / 8).toNat) 0)] at9 ?_
  refine Rn 2 (Qo B17 62 7) [Qs B17 63] ⟨66, [(3, .own 3 0), (6, VB false), (7, VL A4 ((encS a h (fewO xs) (fewD d)).1.length) c4), (36, VL A4 ((encS a h (fewO xs) (fewD d)).1.length) c4), (38, I6 (k_ / 8)), (40, I8 (((encS a h (fewO xs) (fewD d)).1).getD ((k_ / 8).toNat) 0)), (42, I6 (Int.tmod k_ 8))], [(3, ⟨56, [I8 a.a0, I8 a.a1, I8 a.a2, I8 a.a3, I8 a.b0, I8 a.b1, I8 a.b2, I8 a.b3]⟩)]⟩ ?_
  refine Kn 42 .i64 (k_ % 8) rfl (Int.tmod_eq_emod_of_nonneg (by omega)) ?_
  refine Rn 1 (Qo B17 62 8) [Qs B17 63] ⟨66, [(3, .own 3 0), (6, VB false), (7, VL A4 ((encS a h (fewO xs) (fewD d)).1.length) c4), (36, VL A4 ((encS a h (fewO xs) (fewD d)).1.length) c4), (38, I6 (k_ / 8)), (40, I8 (((encS a h (fewO xs) (fewD d)).1).getD ((k_ / 8).toNat) 0)), (43, I7 (IntKind.u64.wrap (k_ % 8)))], [(3, ⟨56, [I8 a.a0, I8 a.a1, I8 a.a2, I8 a.a3, I8 a.b0, I8 a.b1, I8 a.b2, I8 a.b3]⟩)]⟩ ?_
  refine Kn 43 .u64 (k_ % 8) rfl (wu64 (by omega) (by omega)) ?_
  refine X.shl (t := 5) (t' := 92) (x := .const (N8 1)) (y := .tmp 43) (kd := .u8) (ky := .u64) (a := 1) (b := k_ % 8) (by omega) ?_
  refine Rn 1 (Qo B17 62 10) [Qs B17 63] ⟨66, [(3, .own 3 0), (6, VB false), (7, VL A4 ((encS a h (fewO xs) (fewD d)).1.length) c4), (36, VL A4 ((encS a h (fewO xs) (fewD d)).1.length) c4), (38, I6 (k_ / 8)), (45, I8 (bxor .u8 (((encS a h (fewO xs) (fewD d)).1).getD ((k_ / 8).toNat) 0) (bshl .u8 1 (k_ % 8).toNat)))], [(3, ⟨56, [I8 a.a0, I8 a.a1, I8 a.a2, I8 a.a3, I8 a.b0, I8 a.b1, I8 a.b2, I8 a.b3]⟩)]⟩ ?_
  have b10 : (0 : Int) ≤ k_ / 8 := by omega
  have b11 : k_ / 8 < (((encS a h (fewO xs) (fewD d)).1.length : Nat) : Int) := by omega
  refine Ix 22 5 1 A4 ((encS a h (fewO xs) (fewD d)).1.length) c4 .i64 (k_ / 8) (.tmp 36) (.tmp 38) b10 b11 (rowSome (i := 400) (q := (RR 5 1 A4 ((encS a h (fewO xs) (fewD d)).1.length) c4 (((encS a h (fewO xs) (fewD d)).1).map (Value.int .u8)))) rfl rfl (by simp only [List.length_map, List.length_set, hel_]; omega)) ?_
  refine Rn 0 (Qo B17 62 11) [Qs B17 63] ⟨66, [(3, .own 3 0), (6, VB false), (7, VL A4 ((encS a h (fewO xs) (fewD d)).1.length) c4), (45, I8 (bxor .u8 (((encS a h (fewO xs) (fewD d)).1).getD ((k_ / 8).toNat) 0) (bshl .u8 1 (k_ % 8).toNat))), (46, .v (elt A4 ((k_ / 8).toNat * 1)))], [(3, ⟨56, [I8 a.a0, I8 a.a1, I8 a.a2, I8 a.a3, I8 a.b0, I8 a.b1, I8 a.b2, I8 a.b3]⟩)]⟩ ?_
  refine X.storeElem (i := 400) (t := 5) (j := (k_ / 8).toNat * 1) (n := (encS a h (fewO xs) (fewD d)).1.length) (c := c4) (q := (RR 5 1 A4 ((encS a h (fewO xs) (fewD d)).1.length) c4 (((encS a h (fewO xs) (fewD d)).1).map (Value.int .u8)))) (A := A4) (x := .tmp 46) (y := .tmp 45) (z := N8 (bxor .u8 (((encS a h (fewO xs) (fewD d)).1).getD ((k_ / 8).toNat) 0) (bshl .u8 1 (k_ % 8).toNat))) (by kernel_rfl) (by kernel_rfl) (by kernel_rfl) rfl rfl (by kernel_rfl) (by show _ + 1 ≤ _; simp; omega) (by kernel_rfl) (Nat.succ_pos _) (by kernel_rfl) ?_
  refine X.tellR [400] (R' := [(400, RR 5 1 A4 ((encS a h (fewO xs) (fewD d)).1.length) c4 ((((encS a h (fewO xs) (fewD d)).1).set ((k_ / 8).toNat) (bxor .u8 (((encS a h (fewO xs) (fewD d)).1).getD ((k_ / 8).toNat) 0) (bshl .u8 1 (k_ % 8).toNat))).map (Value.int .u8)))]) (congrArg (fun cs_ => (400, (RR 5 1 A4 ((encS a h (fewO xs) (fewD d)).1.length) c4 cs_ : Row)) :: []) (splice_ints1 (kd := .u8) (l := ((encS a h (fewO xs) (fewD d)).1)) (j := ((k_ / 8).toNat)) (x := (bxor .u8 (((encS a h (fewO xs) (fewD d)).1).getD ((k_ / 8).toNat) 0) (bshl .u8 1 (k_ % 8).toNat))) (by (try simp only [List.length_set]); omega))) ?_
  have hby_ := encS_bytes (a := a) (h := h) (xs := fewO xs) (d := fewD d) ha hh
  obtain ⟨e_, hx1_, hx2_, hx3_⟩ := bit_turn (hby_ _ (getD_memI (i := (k_ / 8).toNat) (by omega))) (m := k_ % 8) (by omega)
  have hbad_ := turn_bad (a := a) (b := (encS a h (fewO xs) (fewD d)).1) (i := (k_ / 8).toNat) ha hby_ (by rw [hel_, hE_]; exact raw_sum ha hh h5_ h6_) (by omega) hx3_ hx1_ hx2_
  obtain ⟨hd1_, hd2_⟩ := dec_bad hbad_
  refine Rn 9 (Qo B17 126 5) [Qs B17 127] ⟨66, [(6, VB false), (49, .v (.agg #[N8 a.a0, N8 a.a1, N8 a.a2, N8 a.a3])), (51, .v (.agg #[N8 a.b0, N8 a.b1, N8 a.b2, N8 a.b3])), (52, VL A4 ((encS a h (fewO xs) (fewD d)).1.length) c4)], []⟩ ?_
  refine X.tellR [400] (R' := [(400, RR 5 1 A4 ((encS a h (fewO xs) (fewD d)).1.length) c4 ((((encS a h (fewO xs) (fewD d)).1).set ((k_ / 8).toNat) (bxor .u8 (((encS a h (fewO xs) (fewD d)).1).getD ((k_ / 8).toNat) 0) (bshl .u8 1 (k_ % 8).toNat))).map (Value.int .u8)))]) rfl ?_
  refine X.capLe (i := 400) (q := (RR 5 1 A4 ((encS a h (fewO xs) (fewD d)).1.length) c4 ((((encS a h (fewO xs) (fewD d)).1).set ((k_ / 8).toNat) (bxor .u8 (((encS a h (fewO xs) (fewD d)).1).getD ((k_ / 8).toNat) 0) (bshl .u8 1 (k_ % 8).toNat))).map (Value.int .u8)))) (n := (encS a h (fewO xs) (fewD d)).1.length) (c := c4) (A := A4) rfl rfl ?_
  intro hle12 hmx12
  refine X.freezeHd (i := 400) (n := (encS a h (fewO xs) (fewD d)).1.length) (c := c4) (A := A4) (kd := .u8) (((encS a h (fewO xs) (fewD d)).1).set ((k_ / 8).toNat) (bxor .u8 (((encS a h (fewO xs) (fewD d)).1).getD ((k_ / 8).toNat) 0) (bshl .u8 1 (k_ % 8).toNat))) rfl rfl ((fun y_ hy_ => by rcases List.mem_or_eq_of_mem_set hy_ with h_ | h_; have h2_ := hby_ y_ h_; simp only [IntKind.lo, IntKind.hi]; omega; subst h_; simp only [IntKind.lo, IntKind.hi]; omega)) (by kernel_rfl) (fun _ h => h) ?_
  intro G12 hG12 hr12
  replace hr := hr.mono hG12.le
  replace hr3 := hr3.mono hG12.le
  have hls_ : (((encS a h (fewO xs) (fewD d)).1).set ((k_ / 8).toNat) (bxor .u8 (((encS a h (fewO xs) (fewD d)).1).getD ((k_ / 8).toNat) 0) (bshl .u8 1 (k_ % 8).toNat))).length = (encS a h (fewO xs) (fewD d)).1.length := List.length_set
  have hsd_ := SegDec_ok a A4 c4 (((encS a h (fewO xs) (fewD d)).1).set ((k_ / 8).toNat) (bxor .u8 (((encS a h (fewO xs) (fewD d)).1).getD ((k_ / 8).toNat) 0) (bshl .u8 1 (k_ % 8).toNat))) G12 ha hr12 (by rw [hls_]; exact hle12) hmx12
  rw [hls_] at hsd_
  rw [show decS a (((encS a h (fewO xs) (fewD d)).1).set ((k_ / 8).toNat) (bxor .u8 (((encS a h (fewO xs) (fewD d)).1).getD ((k_ / 8).toNat) 0) (bshl .u8 1 (k_ % 8).toNat))) = (seg0, (decS a (((encS a h (fewO xs) (fewD d)).1).set ((k_ / 8).toNat) (bxor .u8 (((encS a h (fewO xs) (fewD d)).1).getD ((k_ / 8).toNat) 0) (bshl .u8 1 (k_ % 8).toNat)))).2) from Prod.ext hd1_ rfl] at hsd_
  refine Cg 61 [.agg #[N8 a.a0, N8 a.a1, N8 a.a2, N8 a.a3], .agg #[N8 a.b0, N8 a.b1, N8 a.b2, N8 a.b3], .slice A4 ((encS a h (fewO xs) (fewD d)).1.length) c4] 410 hsd_ ?_
  rintro v13 G13 rows13 hG13 ⟨A13, c13, cs13, rfl, rfl, hcs13⟩
  replace hr := hr.mono hG13.le
  replace hr3 := hr3.mono hG13.le
  replace hr12 := hr12.mono hG13.le
  refine X.asR (R' := [(410, RR 65 3 A13 0 c13 cs13)]) rfl ?_
  refine X.tellR [410] (R' := [(410, RR 65 3 A13 0 c13 cs13)]) rfl ?_
  refine X.capLe (i := 410) (q := (RR 65 3 A13 0 c13 cs13)) (n := 0) (c := c13) (A := A13) rfl rfl ?_
  intro hle14 hmx14
  refine X.freezeD (d := optD) (i := 410) (n := 0) (c := c13) (A := A13) ([]) rfl hcs13 (by decide) (by kernel_rfl) (fun _ h => h) ?_
  intro G14 hG14 hr14
  replace hr := hr.mono hG14.le
  replace hr3 := hr3.mono hG14.le
  replace hr12 := hr12.mono hG14.le
  refine Rn 13 (Qo B17 254 3) [Qs B17 255] ⟨66, [(6, VB false), (10, .own 10 0), (58, VB (((decS a (((encS a h (fewO xs) (fewD d)).1).set ((k_ / 8).toNat) (bxor .u8 (((encS a h (fewO xs) (fewD d)).1).getD ((k_ / 8).toNat) 0) (bshl .u8 1 (k_ % 8).toNat)))).2) != 0))], [(10, ⟨82, [I1 0, I1 0, I3 0, I3 0, I8 0, I8 0, I8 0, I1 0, I1 0, I1 0, VL A13 0 c13, VT (⟨#[]⟩ : ByteArray)]⟩)]⟩ ?_
  refine X.isTrue 58 rfl (by simpa using hd2_) ?_
  refine Rn 2 (Qo B17 254 5) [Qs B17 255] ⟨66, [(6, VB false), (58, VB true), (59, .v (.agg #[N1 0, N1 0, N3 0, N3 0, N8 0, N8 0, N8 0, N1 0, N1 0, N1 0, .slice A13 0 c13, .string (⟨#[]⟩ : ByteArray)])), (60, .v (.agg #[N1 0, N1 0, N3 0, N3 0, N8 0, N8 0, N8 0, N1 0, N1 0, N1 0, .slice none 0 0, .string ByteArray.empty]))], []⟩ ?_
  refine Cg 63 [.agg #[N1 0, N1 0, N3 0, N3 0, N8 0, N8 0, N8 0, N1 0, N1 0, N1 0, .slice A13 0 c13, .string (⟨#[]⟩ : ByteArray)], .agg #[N1 0, N1 0, N3 0, N3 0, N8 0, N8 0, N8 0, N1 0, N1 0, N1 0, .slice none 0 0, .string ByteArray.empty]] 0 (SameT_ok (⟨0, 0, 0, 0, 0, 0, 0, 0, 0, 0⟩ : Hd) A13 none c13 0 [] (⟨#[]⟩ : ByteArray) _ hr14 (rowAt.nil _ _ _) hle14 (Nat.zero_le _) hmx14 (Nat.zero_le _)) ?_
  rintro v15 G15 rows15 hG15 ⟨rfl, rfl⟩
  replace hr := hr.mono hG15.le
  replace hr3 := hr3.mono hG15.le
  replace hr12 := hr12.mono hG15.le
  replace hr14 := hr14.mono hG15.le
  refine Rn 2 (Qo B17 254 8) [Qs B17 255] ⟨66, [(6, VB false), (63, VB true)], []⟩ ?_
  refine Cg 64 [] 0 (works13_ok _) ?_
  rintro v16 G16 rows16 hG16 ⟨rfl, rfl⟩
  replace hr := hr.mono hG16.le
  replace hr3 := hr3.mono hG16.le
  replace hr12 := hr12.mono hG16.le
  replace hr14 := hr14.mono hG16.le
  refine Rn 5 (.ex .ret) [] ⟨66, [(6, VB true)], []⟩ ?_
  refine Dg (.inl rfl) [.bool true] [] rfl ((((((((hG2.trans hG3).trans hG4).trans hG12).trans hG13).trans hG14).trans hG15).trans hG16)) ?_
  exact ⟨rfl, rfl⟩
end Go.Proofs.YtjgpdbkkpomhjaaX
