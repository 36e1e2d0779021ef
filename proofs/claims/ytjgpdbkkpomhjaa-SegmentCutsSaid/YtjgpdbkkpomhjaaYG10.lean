/- segment.Cut. Walked; printed by a small program of this session. Conditions: none. -/
import Derived.Test.YtjgpdbkkpomhjaaProg
import Derived.KernelRfl
import Derived.Test.YtjgpdbkkpomhjaaYGC
namespace Go.Proofs.YtjgpdbkkpomhjaaX
open Go.RowKit
open Go.Proofs.YtjgpdbkkpomhjaaW.PrintLast
set_option linter.unusedVariables false
set_option linter.unusedSimpArgs false
set_option maxRecDepth 100000
/-- leat/segment.Cut -/
noncomputable def B69 : Code := bodyOf Try.f69
set_option maxHeartbeats 1000000 in
theorem Cut_ok (h : Hd) (d : ByteArray) (mss : Int) (G : Mem) (hh : h.ok) (hd : d.size ≤ 300) : CallsG Try.prog 69 [.agg #[.int .u16 h.s0, .int .u16 h.s1, .int .u32 h.s2, .int .u32 h.s3, .int .u8 h.s4, .int .u8 h.s5, .int .u8 h.s6, .int .u16 h.s7, .int .u16 h.s8, .int .u16 h.s9], .string d, .int .i64 mss] G (fun _ v rows => ∃ A' c', v = .slice A' (manyC d (mssC mss).toNat) c' ∧ rows = [⟨82, 12, .slice A' (manyC d (mssC mss).toNat) c', manyC d (mssC mss).toNat, (itL h d (mssC mss).toNat (manyC d (mssC mss).toNat)).flatMap sgC⟩]) := by
 have hm_ : 1 ≤ mssC mss ∧ mssC mss ≤ 65000 := by unfold mssC; omega
 obtain ⟨m_, hme_⟩ : ∃ z : Nat, (mssC mss).toNat = z := ⟨_, rfl⟩
 have hmi_ : mssC mss = (m_ : Int) := by omega
 have hm1_ : 1 ≤ m_ := by omega
 rw [hme_]
 have hh2_ := hh.h2
 have hh6_ := hh.h6
 obtain ⟨hb0_, hb1_, hb2_, hb3_⟩ := fl_bits hh6_
 refine CallsG.enter Try.func69 rfl rfl ?_
 intro w
 refine Rn 10 (Qo B69 6 2) [Qs B69 7] ⟨67, [(1, VT d), (2, I6 mss), (3, .own 3 0), (6, VL none 0 0), (12, I6 (imin mss 65000))], [(3, ⟨31, [I1 h.s0, I1 h.s1, I3 h.s2, I3 h.s3, I8 h.s4, I8 h.s5, I8 h.s6, I1 h.s7, I1 h.s8, I1 h.s9]⟩)]⟩ ?_
 refine Kn 12 .i64 (min mss 65000) rfl (by simp only [imin_eq, imax_eq]) ?_
 refine Rn 1 (Qo B69 6 3) [Qs B69 7] ⟨67, [(1, VT d), (2, I6 mss), (3, .own 3 0), (6, VL none 0 0), (13, I6 (imax 1 (min mss 65000)))], [(3, ⟨31, [I1 h.s0, I1 h.s1, I3 h.s2, I3 h.s3, I8 h.s4, I8 h.s5, I8 h.s6, I1 h.s7, I1 h.s8, I1 h.s9]⟩)]⟩ ?_
 refine Kn 13 .i64 (m_ : Int) rfl (by simp only [imax_eq]; exact hmi_) ?_
 refine Rn 9 (Qo B69 14 4) [Qs B69 15] ⟨67, [(1, VT d), (2, I6 (m_ : Int)), (3, .own 3 0), (6, VL none 0 0), (14, VT d), (17, I6 (imin (d.size : Int) 1048576))], [(3, ⟨31, [I1 h.s0, I1 h.s1, I3 h.s2, I3 h.s3, I8 h.s4, I8 h.s5, I8 h.s6, I1 h.s7, I1 h.s8, I1 h.s9]⟩)]⟩ ?_
 refine Kn 17 .i64 (min (d.size : Int) 1048576) rfl (by simp only [imin_eq, imax_eq]) ?_
 refine X.cutStr (t := 9) (b := d) (x := .tmp 14) (l := none) (h := (some (.tmp 17))) (lv := none) (hv := (some (N6 (min (d.size : Int) 1048576)))) 0 ((min (d.size : Int) 1048576).toNat) (by kernel_rfl) (by kernel_rfl) (by kernel_rfl) (by kernel_rfl) (by kernel_rfl) (by kernel_rfl) (rfl) (⟨_, _, rfl, by omega, rfl⟩) (by first | (omega) | decide) (by first | (omega) | decide) ?_
 refine X.known 18 (y := VT (d.extract 0 d.size)) rfl (congrArg (fun z_ => AV.v (Value.string z_)) (by rw [show (min (d.size : Int) 1048576).toNat = d.size by omega])) ?_
 refine Rn 16 (Qc B69 126) [.blk 0] ⟨67, [(1, VT (d.extract 0 d.size)), (2, I6 (m_ : Int)), (3, .own 3 0), (6, VL none 0 0), (7, VL none 0 0), (8, I3 h.s2)], [(3, ⟨31, [I1 h.s0, I1 h.s1, I3 h.s2, I3 h.s3, I8 h.s4, I8 h.s5, I8 h.s6, I1 h.s7, I1 h.s8, I1 h.s9]⟩)]⟩ ?_
 refine X.nilRow 450 82 12 rfl ?_
 refine Rn 0 (Qc B69 126) [.blk 0] ⟨67, [(1, VT (d.extract 0 d.size)), (2, I6 (m_ : Int)), (3, .own 3 0), (7, VL none 0 0), (8, I3 h.s2)], [(3, ⟨31, [I1 h.s0, I1 h.s1, I3 h.s2, I3 h.s3, I8 h.s4, I8 h.s5, I8 h.s6, I1 h.s7, I1 h.s8, I1 h.s9]⟩)]⟩ ?_
 refine X.loopJ (fun m s R' G' => ∃ (C_ : Option Addr) (c_ n_ : Nat) (l_ : List (Hd × ByteArray)) (j_ p_ : Nat) (b_ : ByteArray) (q_ : Int), s = ⟨67, [(1, VT b_), (2, I6 (m_ : Int)), (3, .own 3 0), (7, VL C_ n_ c_), (8, I3 q_)], [(3, ⟨31, [I1 h.s0, I1 h.s1, I3 h.s2, I3 h.s3, I8 h.s4, I8 h.s5, I8 h.s6, I1 h.s7, I1 h.s8, I1 h.s9]⟩)]⟩ ∧ R' = [(450, RR 82 12 C_ n_ c_ (l_.flatMap sgC))] ∧ Ge G w.heap.size G' ∧ (n_ = j_ ∧ (j_ = 0 ∨ p_ < d.size) ∧ p_ = j_ * m_ ∧ (l_.length = n_ ∧ l_ = itL h d m_ j_ ∧ q_ = sqC h.s2 h.s6 p_ (decide (p_ = 0))) ∧ b_ = d.extract p_ d.size) ∧ m = (301 - p_)) _ ⟨none, 0, 0, [], 0, 0, d.extract 0 d.size, h.s2, rfl, rfl, Ge.refl _ _, ⟨rfl, .inl rfl, by omega, ⟨rfl, rfl, by unfold sqC; simp; omega⟩, rfl⟩, rfl⟩ ?_
 rintro m1 s1 R1 G1 ⟨C_, c_, n_, l_, j_, p_, b_, q_, rfl, rfl, hG1, hF1, rfl⟩ J1 hJ1
 obtain ⟨hnj_, hjp_, hp_, ⟨hln_, hl_, hq_⟩, hbe_⟩ := hF1
 have hbs_ : b_.size = d.size - p_ := by rw [hbe_, ByteArray.size_extract]; omega
 have hpj_ : j_ = 0 → p_ = 0 := fun h_ => by rw [hp_, h_, Nat.zero_mul]
 have hjq_ : p_ = 0 → j_ = 0 := fun h_ => by
  rcases Nat.eq_zero_or_pos j_ with h1_ | h1_
  · exact h1_
  · have := Nat.mul_le_mul h1_ (show 1 ≤ m_ by omega); omega
 obtain ⟨e_, he_⟩ : ∃ e_, e_ = min (p_ + m_) d.size := ⟨_, rfl⟩
 have hpe_ : p_ ≤ e_ := by omega
 have hjle_ : j_ ≤ p_ := by rw [hp_]; exact Nat.le_mul_of_pos_right _ hm1_
 have hdx_ : b_.extract 0 ((e_ - p_ : Nat) : Int).toNat = d.extract p_ e_ := by rw [hbe_, show ((e_ - p_ : Nat) : Int).toNat = e_ - p_ from rfl, cut_head (by omega)]; congr 1; omega
 have hdy_ : b_.extract ((e_ - p_ : Nat) : Int).toNat b_.size = d.extract e_ d.size := by rw [hbe_, show ((e_ - p_ : Nat) : Int).toNat = e_ - p_ from rfl, cut_tail (by omega)]; congr 1; omega
 have hds_ : (d.extract p_ e_).size = e_ - p_ := by rw [ByteArray.size_extract]; omega
 have hdt_ : (d.extract e_ d.size).size = d.size - e_ := by rw [ByteArray.size_extract]; omega
 have hdx2_ : (b_.extract 0 ((e_ - p_ : Nat) : Int).toNat).size = e_ - p_ := by rw [hdx_, hds_]
 refine Rn 7 (Qo B69 1008 4) [Qs B69 1009, .blk 1, .loop J1, .blk 0] ⟨67, [(1, VT b_), (2, I6 (m_ : Int)), (3, .own 3 0), (7, VL C_ n_ c_), (8, I3 q_), (24, I6 (imin (m_ : Int) (b_.size : Int)))], [(3, ⟨31, [I1 h.s0, I1 h.s1, I3 h.s2, I3 h.s3, I8 h.s4, I8 h.s5, I8 h.s6, I1 h.s7, I1 h.s8, I1 h.s9]⟩)]⟩ ?_
 refine Kn 24 .i64 ((e_ - p_ : Nat) : Int) rfl (by simp only [imin_eq]; omega) ?_
 refine Rn 4 (Qc B69 2018) [Qs B69 2019, .blk 1, .loop J1, .blk 0] ⟨67, [(1, VT b_), (2, I6 (m_ : Int)), (3, .own 3 0), (7, VL C_ n_ c_), (8, I3 q_), (9, I6 ((e_ - p_ : Nat) : Int))], [(3, ⟨31, [I1 h.s0, I1 h.s1, I3 h.s2, I3 h.s3, I8 h.s4, I8 h.s5, I8 h.s6, I1 h.s7, I1 h.s8, I1 h.s9]⟩)]⟩ ?_
 refine Og 6 B69 2018 7 [⟨some 3, 3, 31, [I1 h.s0, I1 h.s1, I3 h.s2, I3 h.s3, I8 h.s4, I8 h.s5, I8 h.s6, I1 h.s7, I1 h.s8, I1 h.s9]⟩] [] [] ⟨⟨fun _ h => (by cases h; rfl), rfl⟩, trivial⟩ (by intro p hp hn; simp only [List.mem_cons, List.not_mem_nil, or_false] at hp; rcases hp with rfl <;> first | (cases hn; done) | exact absurd _ (Nat.le_of_ble_eq_true rfl)) (fun ρ0 => ?_)
 refine Tk 0 7 1 B69 2018 (.v (.agg #[N1 h.s0, N1 h.s1, N3 h.s2, N3 h.s3, N8 h.s4, N8 h.s5, N8 h.s6, N1 h.s7, N1 h.s8, N1 h.s9])) QOk.ctxG ?_
 refine Tk 1 7 3 B69 2018 (VT b_) QOk.ctxG ?_
 refine Tk 2 7 7 B69 2018 (I6 ((e_ - p_ : Nat) : Int)) QOk.ctxG ?_
 refine XD.cutStr (i := 3) (l' := (lb 7 15)) (oA B69 (pa 2018) 3) (t := 9) (b := b_) (x := .tmp 26) (l0 := none) (h := (some (.tmp 27))) (lv := none) (hv := (some (N6 ((e_ - p_ : Nat) : Int)))) 0 ((((e_ - p_ : Nat) : Int)).toNat) QOk.ctxG (by kernel_rfl) (by kernel_rfl) (by kernel_rfl) (by kernel_rfl) (by kernel_rfl) (by kernel_rfl) (by kernel_rfl) (by kernel_rfl) (rfl) (⟨_, _, rfl, by omega, rfl⟩) (by omega) (by omega) (by kernel_rfl) ?_
 refine Ts [4] 7 31 2 3 QOk.ctxG ?_
 refine Dn ⟨67, [(1, VT b_), (2, I6 (m_ : Int)), (3, .own 3 0), (7, VL C_ n_ c_), (8, I3 q_), (9, I6 ((e_ - p_ : Nat) : Int)), (29, .v (.agg #[N1 h.s0, N1 h.s1, N3 h.s2, N3 h.s3, N8 h.s4, N8 h.s5, N8 h.s6, N1 h.s7, N1 h.s8, N1 h.s9, .slice none 0 0, .string (b_.extract 0 ((((e_ - p_ : Nat) : Int)).toNat))]))], [(3, ⟨31, [I1 h.s0, I1 h.s1, I3 h.s2, I3 h.s3, I8 h.s4, I8 h.s5, I8 h.s6, I1 h.s7, I1 h.s8, I1 h.s9]⟩)]⟩ ⟨⟨fun _ h => (by cases h; rfl), rfl⟩, trivial⟩ ?_
 refine Do 5 7 63 B69 2018 ?_
 refine X.simple (by kernel_rfl) ?_
 refine X.back ⟨⟨⟨fun _ h => (by cases h; rfl), rfl⟩, trivial⟩, Le.refl _, rfl, ?_⟩
 refine Dn ⟨67, [(1, VT b_), (2, I6 (m_ : Int)), (3, .own 3 0), (7, VL C_ n_ c_), (8, I3 q_), (9, I6 ((e_ - p_ : Nat) : Int)), (10, .own 10 0), (29, .v (.agg #[N1 h.s0, N1 h.s1, N3 h.s2, N3 h.s3, N8 h.s4, N8 h.s5, N8 h.s6, N1 h.s7, N1 h.s8, N1 h.s9, .slice none 0 0, .string (b_.extract 0 ((((e_ - p_ : Nat) : Int)).toNat))]))], [(3, ⟨31, [I1 h.s0, I1 h.s1, I3 h.s2, I3 h.s3, I8 h.s4, I8 h.s5, I8 h.s6, I1 h.s7, I1 h.s8, I1 h.s9]⟩), (10, ⟨82, [I1 0, I1 0, I3 0, I3 0, I8 0, I8 0, I8 0, I1 0, I1 0, I1 0, VL none 0 0, VT ByteArray.empty]⟩)]⟩ ⟨⟨fun _ h => (by cases h; rfl), rfl⟩, trivial⟩ ?_
 refine Do 6 7 127 B69 2018 ?_
 refine X.simple (by kernel_rfl) ?_
 refine X.back ⟨⟨⟨fun _ h => (by cases h; rfl), rfl⟩, trivial⟩, Le.refl _, rfl, ?_⟩
 refine XD.done (by kernel_rfl) ?_
 refine Rn 5 (Qo B69 4038 2) [Qs B69 4039, .blk 1, .loop J1, .blk 0] ⟨67, [(1, VT b_), (2, I6 (m_ : Int)), (3, .own 3 0), (7, VL C_ n_ c_), (8, I3 q_), (10, .own 10 0), (30, VT b_), (31, I6 ((e_ - p_ : Nat) : Int))], [(3, ⟨31, [I1 h.s0, I1 h.s1, I3 h.s2, I3 h.s3, I8 h.s4, I8 h.s5, I8 h.s6, I1 h.s7, I1 h.s8, I1 h.s9]⟩), (10, ⟨82, [I1 h.s0, I1 h.s1, I3 h.s2, I3 h.s3, I8 h.s4, I8 h.s5, I8 h.s6, I1 h.s7, I1 h.s8, I1 h.s9, VL none 0 0, VT (b_.extract 0 ((((e_ - p_ : Nat) : Int)).toNat))]⟩)]⟩ ?_
 refine X.cutStr (t := 9) (b := b_) (x := .tmp 30) (l := (some (.tmp 31))) (h := none) (lv := (some (N6 ((e_ - p_ : Nat) : Int)))) (hv := none) ((((e_ - p_ : Nat) : Int)).toNat) b_.size (by kernel_rfl) (by kernel_rfl) (by kernel_rfl) (by kernel_rfl) (by kernel_rfl) (by kernel_rfl) (⟨_, _, rfl, by omega, rfl⟩) (rfl) (by first | (omega) | decide) (by first | (omega) | decide) ?_
 refine X.known 32 (y := VT (d.extract e_ d.size)) rfl (congrArg (fun z_ => AV.v (Value.string z_)) (hdy_)) ?_
 refine Rn 19 (Qc B69 32317) [Qs B69 16159, .blk 1, .loop J1, .blk 0] ⟨67, [(1, VT (d.extract e_ d.size)), (2, I6 (m_ : Int)), (3, .own 3 0), (7, VL C_ n_ c_), (8, I3 q_), (10, .own 10 0), (38, VB (decide (((n_ : Nat) : Int) > 0)))], [(3, ⟨31, [I1 h.s0, I1 h.s1, I3 h.s2, I3 h.s3, I8 h.s4, I8 h.s5, I8 h.s6, I1 h.s7, I1 h.s8, I1 h.s9]⟩), (10, ⟨82, [I1 h.s0, I1 h.s1, I3 q_, I3 h.s3, I8 h.s4, I8 h.s5, I8 h.s6, I1 h.s7, I1 h.s8, I1 h.s9, VL none 0 0, VT (b_.extract 0 ((((e_ - p_ : Nat) : Int)).toNat))]⟩)]⟩ ?_
 refine X.split 38 rfl (fun h3 => ?_) (fun h3 => ?_)
 ·
  replace h3 : ((n_ : Nat) : Int) > 0 := of_decide_eq_true h3
  refine Rn 19 (Qc B69 64637) [Qs B69 32319, .blk 1, .loop J1, .blk 0] ⟨67, [(1, VT (d.extract e_ d.size)), (2, I6 (m_ : Int)), (3, .own 3 0), (7, VL C_ n_ c_), (8, I3 q_), (10, .own 10 0), (47, VB (decide (((d.extract e_ d.size).size : Int) > 0)))], [(3, ⟨31, [I1 h.s0, I1 h.s1, I3 h.s2, I3 h.s3, I8 h.s4, I8 h.s5, I8 h.s6, I1 h.s7, I1 h.s8, I1 h.s9]⟩), (10, ⟨82, [I1 h.s0, I1 h.s1, I3 q_, I3 h.s3, I8 h.s4, I8 h.s5, I8 (bandnot .u8 h.s6 2), I1 h.s7, I1 h.s8, I1 h.s9, VL none 0 0, VT (b_.extract 0 ((((e_ - p_ : Nat) : Int)).toNat))]⟩)]⟩ ?_
  refine X.split 47 rfl (fun h4 => ?_) (fun h4 => ?_)
  ·
   replace h4 : ((d.extract e_ d.size).size : Int) > 0 := of_decide_eq_true h4
   refine Rn 15 (Qo B69 64638 2) [Qs B69 64639, .blk 1, .loop J1, .blk 0] ⟨67, [(1, VT (d.extract e_ d.size)), (2, I6 (m_ : Int)), (3, .own 3 0), (7, VL C_ n_ c_), (8, I3 q_), (10, .own 10 0), (54, VL C_ n_ c_), (55, .v (.agg #[N1 h.s0, N1 h.s1, N3 q_, N3 h.s3, N8 h.s4, N8 h.s5, N8 (bandnot .u8 (bandnot .u8 h.s6 2) 9), N1 h.s7, N1 h.s8, N1 h.s9, .slice none 0 0, .string (b_.extract 0 ((((e_ - p_ : Nat) : Int)).toNat))]))], [(3, ⟨31, [I1 h.s0, I1 h.s1, I3 h.s2, I3 h.s3, I8 h.s4, I8 h.s5, I8 h.s6, I1 h.s7, I1 h.s8, I1 h.s9]⟩), (10, ⟨82, [I1 h.s0, I1 h.s1, I3 q_, I3 h.s3, I8 h.s4, I8 h.s5, I8 (bandnot .u8 (bandnot .u8 h.s6 2) 9), I1 h.s7, I1 h.s8, I1 h.s9, VL none 0 0, VT (b_.extract 0 ((((e_ - p_ : Nat) : Int)).toNat))]⟩)]⟩ ?_
   refine Lt 56 82 12 1 [N1 h.s0, N1 h.s1, N3 q_, N3 h.s3, N8 h.s4, N8 h.s5, N8 (bandnot .u8 (bandnot .u8 h.s6 2) 9), N1 h.s7, N1 h.s8, N1 h.s9, .slice none 0 0, .string (b_.extract 0 ((((e_ - p_ : Nat) : Int)).toNat))] ?_
   intro A5
   refine Rn 0 (Qo B69 64638 3) [Qs B69 64639, .blk 1, .loop J1, .blk 0] ⟨67, [(1, VT (d.extract e_ d.size)), (2, I6 (m_ : Int)), (3, .own 3 0), (7, VL C_ n_ c_), (8, I3 q_), (10, .own 10 0), (54, VL C_ n_ c_), (56, VL A5 1 1)], [(3, ⟨31, [I1 h.s0, I1 h.s1, I3 h.s2, I3 h.s3, I8 h.s4, I8 h.s5, I8 h.s6, I1 h.s7, I1 h.s8, I1 h.s9]⟩), (10, ⟨82, [I1 h.s0, I1 h.s1, I3 q_, I3 h.s3, I8 h.s4, I8 h.s5, I8 (bandnot .u8 (bandnot .u8 h.s6 2) 9), I1 h.s7, I1 h.s8, I1 h.s9, VL none 0 0, VT (b_.extract 0 ((((e_ - p_ : Nat) : Int)).toNat))]⟩)]⟩ ?_
   refine Ap 450 (RR 82 12 C_ n_ c_ (l_.flatMap sgC)) 96 64 (.agg #[N1 0, N1 0, N3 0, N3 0, N8 0, N8 0, N8 0, N1 0, N1 0, N1 0, .slice none 0 0, .string ByteArray.empty]) (.tmp 54) (.tmp 56) n_ c_ 1 1 C_ A5 [N1 h.s0, N1 h.s1, N3 q_, N3 h.s3, N8 h.s4, N8 h.s5, N8 (bandnot .u8 (bandnot .u8 h.s6 2) 9), N1 h.s7, N1 h.s8, N1 h.s9, .slice none 0 0, .string (b_.extract 0 ((((e_ - p_ : Nat) : Int)).toNat))] (.inl rfl) (by kernel_rfl) (At.of_row (i := 56) (r := (RR 82 12 A5 1 1 [N1 h.s0, N1 h.s1, N3 q_, N3 h.s3, N8 h.s4, N8 h.s5, N8 (bandnot .u8 (bandnot .u8 h.s6 2) 9), N1 h.s7, N1 h.s8, N1 h.s9, .slice none 0 0, .string (b_.extract 0 ((((e_ - p_ : Nat) : Int)).toNat))])) rfl rfl) (fun w hw e => absurd (rowSome (i := 56) (q := (RR 82 12 A5 1 1 [N1 h.s0, N1 h.s1, N3 q_, N3 h.s3, N8 h.s4, N8 h.s5, N8 (bandnot .u8 (bandnot .u8 h.s6 2) 9), N1 h.s7, N1 h.s8, N1 h.s9, .slice none 0 0, .string (b_.extract 0 ((((e_ - p_ : Nat) : Int)).toNat))])) rfl rfl (Nat.succ_pos _) w hw) (by rw [e]; decide)) (ones (by kernel_rfl)) (by omega) ?_
   intro A6 c6 hc6
   refine X.tellR [450, 56] (R' := [(450, RR 82 12 A6 (n_ + 1) c6 ((l_ ++ [((⟨h.s0, h.s1, q_, h.s3, h.s4, h.s5, bandnot .u8 (bandnot .u8 h.s6 2) 9, h.s7, h.s8, h.s9⟩ : Hd), b_.extract 0 ((((e_ - p_ : Nat) : Int)).toNat))]).flatMap sgC)), (56, RR 82 12 A5 1 1 [N1 h.s0, N1 h.s1, N3 q_, N3 h.s3, N8 h.s4, N8 h.s5, N8 (bandnot .u8 (bandnot .u8 h.s6 2) 9), N1 h.s7, N1 h.s8, N1 h.s9, .slice none 0 0, .string (b_.extract 0 ((((e_ - p_ : Nat) : Int)).toNat))])]) (congrArg (fun cs_ => (450, (RR 82 12 A6 (n_ + 1) c6 cs_ : Row)) :: [(56, RR 82 12 A5 1 1 [N1 h.s0, N1 h.s1, N3 q_, N3 h.s3, N8 h.s4, N8 h.s5, N8 (bandnot .u8 (bandnot .u8 h.s6 2) 9), N1 h.s7, N1 h.s8, N1 h.s9, .slice none 0 0, .string (b_.extract 0 ((((e_ - p_ : Nat) : Int)).toNat))])]) (flat_snoc sgC l_ (((⟨h.s0, h.s1, q_, h.s3, h.s4, h.s5, bandnot .u8 (bandnot .u8 h.s6 2) 9, h.s7, h.s8, h.s9⟩ : Hd), b_.extract 0 ((((e_ - p_ : Nat) : Int)).toNat)) : Hd × ByteArray))) ?_
   obtain ⟨l6, hl6⟩ : ∃ z_, (l_ ++ [((⟨h.s0, h.s1, q_, h.s3, h.s4, h.s5, bandnot .u8 (bandnot .u8 h.s6 2) 9, h.s7, h.s8, h.s9⟩ : Hd), b_.extract 0 ((((e_ - p_ : Nat) : Int)).toNat))]) = z_ := ⟨_, rfl⟩
   rw [hl6]
   have hn6 : l6.length = n_ + 1 := by rw [← hl6, List.length_append, hln_]; rfl
   refine Rn 7 (Qo B69 129278 2) [Qs B69 129279, .blk 1, .loop J1, .blk 0] ⟨67, [(1, VT (d.extract e_ d.size)), (2, I6 (m_ : Int)), (3, .own 3 0), (7, VL A6 (n_ + 1) c6), (8, I3 q_), (58, I3 q_), (59, .v (.agg #[N1 h.s0, N1 h.s1, N3 q_, N3 h.s3, N8 h.s4, N8 h.s5, N8 (bandnot .u8 (bandnot .u8 h.s6 2) 9), N1 h.s7, N1 h.s8, N1 h.s9, .slice none 0 0, .string (b_.extract 0 ((((e_ - p_ : Nat) : Int)).toNat))]))], [(3, ⟨31, [I1 h.s0, I1 h.s1, I3 h.s2, I3 h.s3, I8 h.s4, I8 h.s5, I8 h.s6, I1 h.s7, I1 h.s8, I1 h.s9]⟩)]⟩ ?_
   have hfl_ : bandnot .u8 (bandnot .u8 h.s6 2) 9 = flC h.s6 false false := hb0_
   have hfr_ := flC_range hh6_ false false
   have hfn_ := fl_next hh6_ false false
   rw [← hfl_] at hfr_ hfn_
   simp only [if_true, Bool.false_eq_true, if_false] at hfn_
   refine Cg 68 [.agg #[N1 h.s0, N1 h.s1, N3 q_, N3 h.s3, N8 h.s4, N8 h.s5, N8 (bandnot .u8 (bandnot .u8 h.s6 2) 9), N1 h.s7, N1 h.s8, N1 h.s9, .slice none 0 0, .string (b_.extract 0 ((((e_ - p_ : Nat) : Int)).toNat))]] 0 (Length_ok (⟨h.s0, h.s1, q_, h.s3, h.s4, h.s5, bandnot .u8 (bandnot .u8 h.s6 2) 9, h.s7, h.s8, h.s9⟩ : Hd) none 0 0 (b_.extract 0 ((((e_ - p_ : Nat) : Int)).toNat)) _ hfr_ (by omega)) ?_
   rintro v7 G7 rows7 hG7 ⟨rfl, rfl⟩
   have hLs_ : lenS (⟨h.s0, h.s1, q_, h.s3, h.s4, h.s5, bandnot .u8 (bandnot .u8 h.s6 2) 9, h.s7, h.s8, h.s9⟩ : Hd) (b_.extract 0 ((((e_ - p_ : Nat) : Int)).toNat)) = (e_ - p_ : Nat) + (0 + 0) := by show (((b_.extract 0 ((((e_ - p_ : Nat) : Int)).toNat)).size : Nat) : Int) + (bandnot .u8 (bandnot .u8 h.s6 2) 9) % 2 + (bandnot .u8 (bandnot .u8 h.s6 2) 9) / 2 % 2 = _; omega
   refine Rn 12 (Qc B69 258559) [.blk 1, .loop J1, .blk 0] ⟨67, [(1, VT (d.extract e_ d.size)), (2, I6 (m_ : Int)), (3, .own 3 0), (7, VL A6 (n_ + 1) c6), (8, I3 (IntKind.u32.wrap (q_ + (IntKind.u32.wrap (lenS (⟨h.s0, h.s1, q_, h.s3, h.s4, h.s5, bandnot .u8 (bandnot .u8 h.s6 2) 9, h.s7, h.s8, h.s9⟩ : Hd) (b_.extract 0 ((((e_ - p_ : Nat) : Int)).toNat))))))), (65, VB (((d.extract e_ d.size).size : Int) == 0))], [(3, ⟨31, [I1 h.s0, I1 h.s1, I3 h.s2, I3 h.s3, I8 h.s4, I8 h.s5, I8 h.s6, I1 h.s7, I1 h.s8, I1 h.s9]⟩)]⟩ ?_
   refine X.isFalse 65 rfl (decide_eq_false (by omega)) ?_
   refine Rn 3 (.ex .normal) [.loop J1, .blk 0] ⟨67, [(1, VT (d.extract e_ d.size)), (2, I6 (m_ : Int)), (3, .own 3 0), (7, VL A6 (n_ + 1) c6), (8, I3 (IntKind.u32.wrap (q_ + (IntKind.u32.wrap (lenS (⟨h.s0, h.s1, q_, h.s3, h.s4, h.s5, bandnot .u8 (bandnot .u8 h.s6 2) 9, h.s7, h.s8, h.s9⟩ : Hd) (b_.extract 0 ((((e_ - p_ : Nat) : Int)).toNat)))))))], [(3, ⟨31, [I1 h.s0, I1 h.s1, I3 h.s2, I3 h.s3, I8 h.s4, I8 h.s5, I8 h.s6, I1 h.s7, I1 h.s8, I1 h.s9]⟩)]⟩ ?_
   refine X.tellR [450] (R' := [(450, RR 82 12 A6 (n_ + 1) c6 (l6.flatMap sgC))]) rfl ?_
   have hpn_ : p_ + m_ = (j_ + 1) * m_ := by rw [Nat.add_mul, Nat.one_mul, hp_]
   have hep_ : e_ = p_ + m_ := by omega
   have hX_ : ((⟨h.s0, h.s1, q_, h.s3, h.s4, h.s5, bandnot .u8 (bandnot .u8 h.s6 2) 9, h.s7, h.s8, h.s9⟩ : Hd), b_.extract 0 ((((e_ - p_ : Nat) : Int)).toNat)) = segI h d m_ p_ := segI_is (fst := false) (last := false) he_ (hdx_) (decide_eq_false (by omega)) (decide_eq_false (by omega)) hq_ (hb0_)
   have hl2_ : l6 = itL h d m_ (j_ + 1) := by rw [← hl6, hX_, itL_succ, ← hl_, hp_]
   have hdf_ : decide (p_ = 0) = false := decide_eq_false (by omega)
   have hqn_ : IntKind.u32.wrap (q_ + (IntKind.u32.wrap (lenS (⟨h.s0, h.s1, q_, h.s3, h.s4, h.s5, bandnot .u8 (bandnot .u8 h.s6 2) 9, h.s7, h.s8, h.s9⟩ : Hd) (b_.extract 0 ((((e_ - p_ : Nat) : Int)).toNat))))) = sqC h.s2 h.s6 (p_ + m_ : Nat) (decide (p_ + m_ = 0)) := by
    rw [hLs_, u32_wrap, u32_wrap]
    have h_ := sq_next (s := h.s2) (f := h.s6) (p := p_) (m := m_) (p' := p_ + m_) (fst := false) (by push_cast; rfl) (by omega) rfl
    rw [← hdf_, ← hq_, hdf_] at h_
    rw [← h_]
    simp only [if_true, Bool.false_eq_true, if_false]
    omega
   exact X.again (hJ1 _ _ _ _ ⟨A6, c6, (n_ + 1), l6, (j_ + 1), (p_ + m_), d.extract e_ d.size, (IntKind.u32.wrap (q_ + (IntKind.u32.wrap (lenS (⟨h.s0, h.s1, q_, h.s3, h.s4, h.s5, bandnot .u8 (bandnot .u8 h.s6 2) 9, h.s7, h.s8, h.s9⟩ : Hd) (b_.extract 0 ((((e_ - p_ : Nat) : Int)).toNat)))))), rfl, rfl, (hG1.trans hG7), ⟨by omega, .inr (by omega), hpn_, ⟨by assumption, hl2_, hqn_⟩, by rw [hep_]⟩, rfl⟩ (by omega))
  ·
   replace h4 : ¬ (((d.extract e_ d.size).size : Int) > 0) := of_decide_eq_false h4
   refine Rn 7 (Qo B69 64638 2) [Qs B69 64639, .blk 1, .loop J1, .blk 0] ⟨67, [(1, VT (d.extract e_ d.size)), (2, I6 (m_ : Int)), (3, .own 3 0), (7, VL C_ n_ c_), (8, I3 q_), (10, .own 10 0), (54, VL C_ n_ c_), (55, .v (.agg #[N1 h.s0, N1 h.s1, N3 q_, N3 h.s3, N8 h.s4, N8 h.s5, N8 (bandnot .u8 h.s6 2), N1 h.s7, N1 h.s8, N1 h.s9, .slice none 0 0, .string (b_.extract 0 ((((e_ - p_ : Nat) : Int)).toNat))]))], [(3, ⟨31, [I1 h.s0, I1 h.s1, I3 h.s2, I3 h.s3, I8 h.s4, I8 h.s5, I8 h.s6, I1 h.s7, I1 h.s8, I1 h.s9]⟩), (10, ⟨82, [I1 h.s0, I1 h.s1, I3 q_, I3 h.s3, I8 h.s4, I8 h.s5, I8 (bandnot .u8 h.s6 2), I1 h.s7, I1 h.s8, I1 h.s9, VL none 0 0, VT (b_.extract 0 ((((e_ - p_ : Nat) : Int)).toNat))]⟩)]⟩ ?_
   refine Lt 56 82 12 1 [N1 h.s0, N1 h.s1, N3 q_, N3 h.s3, N8 h.s4, N8 h.s5, N8 (bandnot .u8 h.s6 2), N1 h.s7, N1 h.s8, N1 h.s9, .slice none 0 0, .string (b_.extract 0 ((((e_ - p_ : Nat) : Int)).toNat))] ?_
   intro A8
   refine Rn 0 (Qo B69 64638 3) [Qs B69 64639, .blk 1, .loop J1, .blk 0] ⟨67, [(1, VT (d.extract e_ d.size)), (2, I6 (m_ : Int)), (3, .own 3 0), (7, VL C_ n_ c_), (8, I3 q_), (10, .own 10 0), (54, VL C_ n_ c_), (56, VL A8 1 1)], [(3, ⟨31, [I1 h.s0, I1 h.s1, I3 h.s2, I3 h.s3, I8 h.s4, I8 h.s5, I8 h.s6, I1 h.s7, I1 h.s8, I1 h.s9]⟩), (10, ⟨82, [I1 h.s0, I1 h.s1, I3 q_, I3 h.s3, I8 h.s4, I8 h.s5, I8 (bandnot .u8 h.s6 2), I1 h.s7, I1 h.s8, I1 h.s9, VL none 0 0, VT (b_.extract 0 ((((e_ - p_ : Nat) : Int)).toNat))]⟩)]⟩ ?_
   refine Ap 450 (RR 82 12 C_ n_ c_ (l_.flatMap sgC)) 96 64 (.agg #[N1 0, N1 0, N3 0, N3 0, N8 0, N8 0, N8 0, N1 0, N1 0, N1 0, .slice none 0 0, .string ByteArray.empty]) (.tmp 54) (.tmp 56) n_ c_ 1 1 C_ A8 [N1 h.s0, N1 h.s1, N3 q_, N3 h.s3, N8 h.s4, N8 h.s5, N8 (bandnot .u8 h.s6 2), N1 h.s7, N1 h.s8, N1 h.s9, .slice none 0 0, .string (b_.extract 0 ((((e_ - p_ : Nat) : Int)).toNat))] (.inl rfl) (by kernel_rfl) (At.of_row (i := 56) (r := (RR 82 12 A8 1 1 [N1 h.s0, N1 h.s1, N3 q_, N3 h.s3, N8 h.s4, N8 h.s5, N8 (bandnot .u8 h.s6 2), N1 h.s7, N1 h.s8, N1 h.s9, .slice none 0 0, .string (b_.extract 0 ((((e_ - p_ : Nat) : Int)).toNat))])) rfl rfl) (fun w hw e => absurd (rowSome (i := 56) (q := (RR 82 12 A8 1 1 [N1 h.s0, N1 h.s1, N3 q_, N3 h.s3, N8 h.s4, N8 h.s5, N8 (bandnot .u8 h.s6 2), N1 h.s7, N1 h.s8, N1 h.s9, .slice none 0 0, .string (b_.extract 0 ((((e_ - p_ : Nat) : Int)).toNat))])) rfl rfl (Nat.succ_pos _) w hw) (by rw [e]; decide)) (ones (by kernel_rfl)) (by omega) ?_
   intro A9 c9 hc9
   refine X.tellR [450, 56] (R' := [(450, RR 82 12 A9 (n_ + 1) c9 ((l_ ++ [((⟨h.s0, h.s1, q_, h.s3, h.s4, h.s5, bandnot .u8 h.s6 2, h.s7, h.s8, h.s9⟩ : Hd), b_.extract 0 ((((e_ - p_ : Nat) : Int)).toNat))]).flatMap sgC)), (56, RR 82 12 A8 1 1 [N1 h.s0, N1 h.s1, N3 q_, N3 h.s3, N8 h.s4, N8 h.s5, N8 (bandnot .u8 h.s6 2), N1 h.s7, N1 h.s8, N1 h.s9, .slice none 0 0, .string (b_.extract 0 ((((e_ - p_ : Nat) : Int)).toNat))])]) (congrArg (fun cs_ => (450, (RR 82 12 A9 (n_ + 1) c9 cs_ : Row)) :: [(56, RR 82 12 A8 1 1 [N1 h.s0, N1 h.s1, N3 q_, N3 h.s3, N8 h.s4, N8 h.s5, N8 (bandnot .u8 h.s6 2), N1 h.s7, N1 h.s8, N1 h.s9, .slice none 0 0, .string (b_.extract 0 ((((e_ - p_ : Nat) : Int)).toNat))])]) (flat_snoc sgC l_ (((⟨h.s0, h.s1, q_, h.s3, h.s4, h.s5, bandnot .u8 h.s6 2, h.s7, h.s8, h.s9⟩ : Hd), b_.extract 0 ((((e_ - p_ : Nat) : Int)).toNat)) : Hd × ByteArray))) ?_
   obtain ⟨l9, hl9⟩ : ∃ z_, (l_ ++ [((⟨h.s0, h.s1, q_, h.s3, h.s4, h.s5, bandnot .u8 h.s6 2, h.s7, h.s8, h.s9⟩ : Hd), b_.extract 0 ((((e_ - p_ : Nat) : Int)).toNat))]) = z_ := ⟨_, rfl⟩
   rw [hl9]
   have hn9 : l9.length = n_ + 1 := by rw [← hl9, List.length_append, hln_]; rfl
   refine Rn 7 (Qo B69 129278 2) [Qs B69 129279, .blk 1, .loop J1, .blk 0] ⟨67, [(1, VT (d.extract e_ d.size)), (2, I6 (m_ : Int)), (3, .own 3 0), (7, VL A9 (n_ + 1) c9), (8, I3 q_), (58, I3 q_), (59, .v (.agg #[N1 h.s0, N1 h.s1, N3 q_, N3 h.s3, N8 h.s4, N8 h.s5, N8 (bandnot .u8 h.s6 2), N1 h.s7, N1 h.s8, N1 h.s9, .slice none 0 0, .string (b_.extract 0 ((((e_ - p_ : Nat) : Int)).toNat))]))], [(3, ⟨31, [I1 h.s0, I1 h.s1, I3 h.s2, I3 h.s3, I8 h.s4, I8 h.s5, I8 h.s6, I1 h.s7, I1 h.s8, I1 h.s9]⟩)]⟩ ?_
   have hfl_ : bandnot .u8 h.s6 2 = flC h.s6 false true := hb1_
   have hfr_ := flC_range hh6_ false true
   have hfn_ := fl_next hh6_ false true
   rw [← hfl_] at hfr_ hfn_
   simp only [if_true, Bool.false_eq_true, if_false] at hfn_
   refine Cg 68 [.agg #[N1 h.s0, N1 h.s1, N3 q_, N3 h.s3, N8 h.s4, N8 h.s5, N8 (bandnot .u8 h.s6 2), N1 h.s7, N1 h.s8, N1 h.s9, .slice none 0 0, .string (b_.extract 0 ((((e_ - p_ : Nat) : Int)).toNat))]] 0 (Length_ok (⟨h.s0, h.s1, q_, h.s3, h.s4, h.s5, bandnot .u8 h.s6 2, h.s7, h.s8, h.s9⟩ : Hd) none 0 0 (b_.extract 0 ((((e_ - p_ : Nat) : Int)).toNat)) _ hfr_ (by omega)) ?_
   rintro v10 G10 rows10 hG10 ⟨rfl, rfl⟩
   have hLs_ : lenS (⟨h.s0, h.s1, q_, h.s3, h.s4, h.s5, bandnot .u8 h.s6 2, h.s7, h.s8, h.s9⟩ : Hd) (b_.extract 0 ((((e_ - p_ : Nat) : Int)).toNat)) = (e_ - p_ : Nat) + (0 + h.s6 % 2) := by show (((b_.extract 0 ((((e_ - p_ : Nat) : Int)).toNat)).size : Nat) : Int) + (bandnot .u8 h.s6 2) % 2 + (bandnot .u8 h.s6 2) / 2 % 2 = _; omega
   refine Rn 12 (Qc B69 258559) [.blk 1, .loop J1, .blk 0] ⟨67, [(1, VT (d.extract e_ d.size)), (2, I6 (m_ : Int)), (3, .own 3 0), (7, VL A9 (n_ + 1) c9), (8, I3 (IntKind.u32.wrap (q_ + (IntKind.u32.wrap (lenS (⟨h.s0, h.s1, q_, h.s3, h.s4, h.s5, bandnot .u8 h.s6 2, h.s7, h.s8, h.s9⟩ : Hd) (b_.extract 0 ((((e_ - p_ : Nat) : Int)).toNat))))))), (65, VB (((d.extract e_ d.size).size : Int) == 0))], [(3, ⟨31, [I1 h.s0, I1 h.s1, I3 h.s2, I3 h.s3, I8 h.s4, I8 h.s5, I8 h.s6, I1 h.s7, I1 h.s8, I1 h.s9]⟩)]⟩ ?_
   refine X.isTrue 65 rfl (decide_eq_true (by omega)) ?_
   refine Rn 11 (.ex .ret) [] ⟨67, [(6, VL A9 (n_ + 1) c9)], []⟩ ?_
   refine Dg (.inl rfl) [.slice A9 (n_ + 1) c9] [450] rfl ((hG1.trans hG10)) ?_
   have hX_ : ((⟨h.s0, h.s1, q_, h.s3, h.s4, h.s5, bandnot .u8 h.s6 2, h.s7, h.s8, h.s9⟩ : Hd), b_.extract 0 ((((e_ - p_ : Nat) : Int)).toNat)) = segI h d m_ p_ := segI_is (fst := false) (last := true) he_ (hdx_) (decide_eq_false (by omega)) (decide_eq_true (by omega)) hq_ (hb1_)
   have hl2_ : l9 = itL h d m_ (j_ + 1) := by rw [← hl9, hX_, itL_succ, ← hl_, hp_]
   have hmn_ := many_is (d := d) hm1_ (hjp_.imp_right fun h_ => by omega) (show d.size ≤ j_ * m_ + m_ by omega)
   rw [hmn_, hl2_]
   subst hnj_
   exact ⟨_, _, rfl, rfl⟩
 ·
  replace h3 : ¬ (((n_ : Nat) : Int) > 0) := of_decide_eq_false h3
  refine Rn 11 (Qc B69 64637) [Qs B69 32319, .blk 1, .loop J1, .blk 0] ⟨67, [(1, VT (d.extract e_ d.size)), (2, I6 (m_ : Int)), (3, .own 3 0), (7, VL C_ n_ c_), (8, I3 q_), (10, .own 10 0), (47, VB (decide (((d.extract e_ d.size).size : Int) > 0)))], [(3, ⟨31, [I1 h.s0, I1 h.s1, I3 h.s2, I3 h.s3, I8 h.s4, I8 h.s5, I8 h.s6, I1 h.s7, I1 h.s8, I1 h.s9]⟩), (10, ⟨82, [I1 h.s0, I1 h.s1, I3 q_, I3 h.s3, I8 h.s4, I8 h.s5, I8 h.s6, I1 h.s7, I1 h.s8, I1 h.s9, VL none 0 0, VT (b_.extract 0 ((((e_ - p_ : Nat) : Int)).toNat))]⟩)]⟩ ?_
  refine X.split 47 rfl (fun h11 => ?_) (fun h11 => ?_)
  ·
   replace h11 : ((d.extract e_ d.size).size : Int) > 0 := of_decide_eq_true h11
   refine Rn 15 (Qo B69 64638 2) [Qs B69 64639, .blk 1, .loop J1, .blk 0] ⟨67, [(1, VT (d.extract e_ d.size)), (2, I6 (m_ : Int)), (3, .own 3 0), (7, VL C_ n_ c_), (8, I3 q_), (10, .own 10 0), (54, VL C_ n_ c_), (55, .v (.agg #[N1 h.s0, N1 h.s1, N3 q_, N3 h.s3, N8 h.s4, N8 h.s5, N8 (bandnot .u8 h.s6 9), N1 h.s7, N1 h.s8, N1 h.s9, .slice none 0 0, .string (b_.extract 0 ((((e_ - p_ : Nat) : Int)).toNat))]))], [(3, ⟨31, [I1 h.s0, I1 h.s1, I3 h.s2, I3 h.s3, I8 h.s4, I8 h.s5, I8 h.s6, I1 h.s7, I1 h.s8, I1 h.s9]⟩), (10, ⟨82, [I1 h.s0, I1 h.s1, I3 q_, I3 h.s3, I8 h.s4, I8 h.s5, I8 (bandnot .u8 h.s6 9), I1 h.s7, I1 h.s8, I1 h.s9, VL none 0 0, VT (b_.extract 0 ((((e_ - p_ : Nat) : Int)).toNat))]⟩)]⟩ ?_
   refine Lt 56 82 12 1 [N1 h.s0, N1 h.s1, N3 q_, N3 h.s3, N8 h.s4, N8 h.s5, N8 (bandnot .u8 h.s6 9), N1 h.s7, N1 h.s8, N1 h.s9, .slice none 0 0, .string (b_.extract 0 ((((e_ - p_ : Nat) : Int)).toNat))] ?_
   intro A12
   refine Rn 0 (Qo B69 64638 3) [Qs B69 64639, .blk 1, .loop J1, .blk 0] ⟨67, [(1, VT (d.extract e_ d.size)), (2, I6 (m_ : Int)), (3, .own 3 0), (7, VL C_ n_ c_), (8, I3 q_), (10, .own 10 0), (54, VL C_ n_ c_), (56, VL A12 1 1)], [(3, ⟨31, [I1 h.s0, I1 h.s1, I3 h.s2, I3 h.s3, I8 h.s4, I8 h.s5, I8 h.s6, I1 h.s7, I1 h.s8, I1 h.s9]⟩), (10, ⟨82, [I1 h.s0, I1 h.s1, I3 q_, I3 h.s3, I8 h.s4, I8 h.s5, I8 (bandnot .u8 h.s6 9), I1 h.s7, I1 h.s8, I1 h.s9, VL none 0 0, VT (b_.extract 0 ((((e_ - p_ : Nat) : Int)).toNat))]⟩)]⟩ ?_
   refine Ap 450 (RR 82 12 C_ n_ c_ (l_.flatMap sgC)) 96 64 (.agg #[N1 0, N1 0, N3 0, N3 0, N8 0, N8 0, N8 0, N1 0, N1 0, N1 0, .slice none 0 0, .string ByteArray.empty]) (.tmp 54) (.tmp 56) n_ c_ 1 1 C_ A12 [N1 h.s0, N1 h.s1, N3 q_, N3 h.s3, N8 h.s4, N8 h.s5, N8 (bandnot .u8 h.s6 9), N1 h.s7, N1 h.s8, N1 h.s9, .slice none 0 0, .string (b_.extract 0 ((((e_ - p_ : Nat) : Int)).toNat))] (.inl rfl) (by kernel_rfl) (At.of_row (i := 56) (r := (RR 82 12 A12 1 1 [N1 h.s0, N1 h.s1, N3 q_, N3 h.s3, N8 h.s4, N8 h.s5, N8 (bandnot .u8 h.s6 9), N1 h.s7, N1 h.s8, N1 h.s9, .slice none 0 0, .string (b_.extract 0 ((((e_ - p_ : Nat) : Int)).toNat))])) rfl rfl) (fun w hw e => absurd (rowSome (i := 56) (q := (RR 82 12 A12 1 1 [N1 h.s0, N1 h.s1, N3 q_, N3 h.s3, N8 h.s4, N8 h.s5, N8 (bandnot .u8 h.s6 9), N1 h.s7, N1 h.s8, N1 h.s9, .slice none 0 0, .string (b_.extract 0 ((((e_ - p_ : Nat) : Int)).toNat))])) rfl rfl (Nat.succ_pos _) w hw) (by rw [e]; decide)) (ones (by kernel_rfl)) (by omega) ?_
   intro A13 c13 hc13
   refine X.tellR [450, 56] (R' := [(450, RR 82 12 A13 (n_ + 1) c13 ((l_ ++ [((⟨h.s0, h.s1, q_, h.s3, h.s4, h.s5, bandnot .u8 h.s6 9, h.s7, h.s8, h.s9⟩ : Hd), b_.extract 0 ((((e_ - p_ : Nat) : Int)).toNat))]).flatMap sgC)), (56, RR 82 12 A12 1 1 [N1 h.s0, N1 h.s1, N3 q_, N3 h.s3, N8 h.s4, N8 h.s5, N8 (bandnot .u8 h.s6 9), N1 h.s7, N1 h.s8, N1 h.s9, .slice none 0 0, .string (b_.extract 0 ((((e_ - p_ : Nat) : Int)).toNat))])]) (congrArg (fun cs_ => (450, (RR 82 12 A13 (n_ + 1) c13 cs_ : Row)) :: [(56, RR 82 12 A12 1 1 [N1 h.s0, N1 h.s1, N3 q_, N3 h.s3, N8 h.s4, N8 h.s5, N8 (bandnot .u8 h.s6 9), N1 h.s7, N1 h.s8, N1 h.s9, .slice none 0 0, .string (b_.extract 0 ((((e_ - p_ : Nat) : Int)).toNat))])]) (flat_snoc sgC l_ (((⟨h.s0, h.s1, q_, h.s3, h.s4, h.s5, bandnot .u8 h.s6 9, h.s7, h.s8, h.s9⟩ : Hd), b_.extract 0 ((((e_ - p_ : Nat) : Int)).toNat)) : Hd × ByteArray))) ?_
   obtain ⟨l13, hl13⟩ : ∃ z_, (l_ ++ [((⟨h.s0, h.s1, q_, h.s3, h.s4, h.s5, bandnot .u8 h.s6 9, h.s7, h.s8, h.s9⟩ : Hd), b_.extract 0 ((((e_ - p_ : Nat) : Int)).toNat))]) = z_ := ⟨_, rfl⟩
   rw [hl13]
   have hn13 : l13.length = n_ + 1 := by rw [← hl13, List.length_append, hln_]; rfl
   refine Rn 7 (Qo B69 129278 2) [Qs B69 129279, .blk 1, .loop J1, .blk 0] ⟨67, [(1, VT (d.extract e_ d.size)), (2, I6 (m_ : Int)), (3, .own 3 0), (7, VL A13 (n_ + 1) c13), (8, I3 q_), (58, I3 q_), (59, .v (.agg #[N1 h.s0, N1 h.s1, N3 q_, N3 h.s3, N8 h.s4, N8 h.s5, N8 (bandnot .u8 h.s6 9), N1 h.s7, N1 h.s8, N1 h.s9, .slice none 0 0, .string (b_.extract 0 ((((e_ - p_ : Nat) : Int)).toNat))]))], [(3, ⟨31, [I1 h.s0, I1 h.s1, I3 h.s2, I3 h.s3, I8 h.s4, I8 h.s5, I8 h.s6, I1 h.s7, I1 h.s8, I1 h.s9]⟩)]⟩ ?_
   have hfl_ : bandnot .u8 h.s6 9 = flC h.s6 true false := hb2_
   have hfr_ := flC_range hh6_ true false
   have hfn_ := fl_next hh6_ true false
   rw [← hfl_] at hfr_ hfn_
   simp only [if_true, Bool.false_eq_true, if_false] at hfn_
   refine Cg 68 [.agg #[N1 h.s0, N1 h.s1, N3 q_, N3 h.s3, N8 h.s4, N8 h.s5, N8 (bandnot .u8 h.s6 9), N1 h.s7, N1 h.s8, N1 h.s9, .slice none 0 0, .string (b_.extract 0 ((((e_ - p_ : Nat) : Int)).toNat))]] 0 (Length_ok (⟨h.s0, h.s1, q_, h.s3, h.s4, h.s5, bandnot .u8 h.s6 9, h.s7, h.s8, h.s9⟩ : Hd) none 0 0 (b_.extract 0 ((((e_ - p_ : Nat) : Int)).toNat)) _ hfr_ (by omega)) ?_
   rintro v14 G14 rows14 hG14 ⟨rfl, rfl⟩
   have hLs_ : lenS (⟨h.s0, h.s1, q_, h.s3, h.s4, h.s5, bandnot .u8 h.s6 9, h.s7, h.s8, h.s9⟩ : Hd) (b_.extract 0 ((((e_ - p_ : Nat) : Int)).toNat)) = (e_ - p_ : Nat) + (h.s6 / 2 % 2 + 0) := by show (((b_.extract 0 ((((e_ - p_ : Nat) : Int)).toNat)).size : Nat) : Int) + (bandnot .u8 h.s6 9) % 2 + (bandnot .u8 h.s6 9) / 2 % 2 = _; omega
   refine Rn 12 (Qc B69 258559) [.blk 1, .loop J1, .blk 0] ⟨67, [(1, VT (d.extract e_ d.size)), (2, I6 (m_ : Int)), (3, .own 3 0), (7, VL A13 (n_ + 1) c13), (8, I3 (IntKind.u32.wrap (q_ + (IntKind.u32.wrap (lenS (⟨h.s0, h.s1, q_, h.s3, h.s4, h.s5, bandnot .u8 h.s6 9, h.s7, h.s8, h.s9⟩ : Hd) (b_.extract 0 ((((e_ - p_ : Nat) : Int)).toNat))))))), (65, VB (((d.extract e_ d.size).size : Int) == 0))], [(3, ⟨31, [I1 h.s0, I1 h.s1, I3 h.s2, I3 h.s3, I8 h.s4, I8 h.s5, I8 h.s6, I1 h.s7, I1 h.s8, I1 h.s9]⟩)]⟩ ?_
   refine X.isFalse 65 rfl (decide_eq_false (by omega)) ?_
   refine Rn 3 (.ex .normal) [.loop J1, .blk 0] ⟨67, [(1, VT (d.extract e_ d.size)), (2, I6 (m_ : Int)), (3, .own 3 0), (7, VL A13 (n_ + 1) c13), (8, I3 (IntKind.u32.wrap (q_ + (IntKind.u32.wrap (lenS (⟨h.s0, h.s1, q_, h.s3, h.s4, h.s5, bandnot .u8 h.s6 9, h.s7, h.s8, h.s9⟩ : Hd) (b_.extract 0 ((((e_ - p_ : Nat) : Int)).toNat)))))))], [(3, ⟨31, [I1 h.s0, I1 h.s1, I3 h.s2, I3 h.s3, I8 h.s4, I8 h.s5, I8 h.s6, I1 h.s7, I1 h.s8, I1 h.s9]⟩)]⟩ ?_
   refine X.tellR [450] (R' := [(450, RR 82 12 A13 (n_ + 1) c13 (l13.flatMap sgC))]) rfl ?_
   have hpn_ : p_ + m_ = (j_ + 1) * m_ := by rw [Nat.add_mul, Nat.one_mul, hp_]
   have hep_ : e_ = p_ + m_ := by omega
   have hX_ : ((⟨h.s0, h.s1, q_, h.s3, h.s4, h.s5, bandnot .u8 h.s6 9, h.s7, h.s8, h.s9⟩ : Hd), b_.extract 0 ((((e_ - p_ : Nat) : Int)).toNat)) = segI h d m_ p_ := segI_is (fst := true) (last := false) he_ (hdx_) (decide_eq_true (by omega)) (decide_eq_false (by omega)) hq_ (hb2_)
   have hl2_ : l13 = itL h d m_ (j_ + 1) := by rw [← hl13, hX_, itL_succ, ← hl_, hp_]
   have hdf_ : decide (p_ = 0) = true := decide_eq_true (by omega)
   have hqn_ : IntKind.u32.wrap (q_ + (IntKind.u32.wrap (lenS (⟨h.s0, h.s1, q_, h.s3, h.s4, h.s5, bandnot .u8 h.s6 9, h.s7, h.s8, h.s9⟩ : Hd) (b_.extract 0 ((((e_ - p_ : Nat) : Int)).toNat))))) = sqC h.s2 h.s6 (p_ + m_ : Nat) (decide (p_ + m_ = 0)) := by
    rw [hLs_, u32_wrap, u32_wrap]
    have h_ := sq_next (s := h.s2) (f := h.s6) (p := p_) (m := m_) (p' := p_ + m_) (fst := true) (by push_cast; rfl) (by omega) rfl
    rw [← hdf_, ← hq_, hdf_] at h_
    rw [← h_]
    simp only [if_true, Bool.false_eq_true, if_false]
    omega
   exact X.again (hJ1 _ _ _ _ ⟨A13, c13, (n_ + 1), l13, (j_ + 1), (p_ + m_), d.extract e_ d.size, (IntKind.u32.wrap (q_ + (IntKind.u32.wrap (lenS (⟨h.s0, h.s1, q_, h.s3, h.s4, h.s5, bandnot .u8 h.s6 9, h.s7, h.s8, h.s9⟩ : Hd) (b_.extract 0 ((((e_ - p_ : Nat) : Int)).toNat)))))), rfl, rfl, (hG1.trans hG14), ⟨by omega, .inr (by omega), hpn_, ⟨by assumption, hl2_, hqn_⟩, by rw [hep_]⟩, rfl⟩ (by omega))
  ·
   replace h11 : ¬ (((d.extract e_ d.size).size : Int) > 0) := of_decide_eq_false h11
   refine Rn 7 (Qo B69 64638 2) [Qs B69 64639, .blk 1, .loop J1, .blk 0] ⟨67, [(1, VT (d.extract e_ d.size)), (2, I6 (m_ : Int)), (3, .own 3 0), (7, VL C_ n_ c_), (8, I3 q_), (10, .own 10 0), (54, VL C_ n_ c_), (55, .v (.agg #[N1 h.s0, N1 h.s1, N3 q_, N3 h.s3, N8 h.s4, N8 h.s5, N8 h.s6, N1 h.s7, N1 h.s8, N1 h.s9, .slice none 0 0, .string (b_.extract 0 ((((e_ - p_ : Nat) : Int)).toNat))]))], [(3, ⟨31, [I1 h.s0, I1 h.s1, I3 h.s2, I3 h.s3, I8 h.s4, I8 h.s5, I8 h.s6, I1 h.s7, I1 h.s8, I1 h.s9]⟩), (10, ⟨82, [I1 h.s0, I1 h.s1, I3 q_, I3 h.s3, I8 h.s4, I8 h.s5, I8 h.s6, I1 h.s7, I1 h.s8, I1 h.s9, VL none 0 0, VT (b_.extract 0 ((((e_ - p_ : Nat) : Int)).toNat))]⟩)]⟩ ?_
   refine Lt 56 82 12 1 [N1 h.s0, N1 h.s1, N3 q_, N3 h.s3, N8 h.s4, N8 h.s5, N8 h.s6, N1 h.s7, N1 h.s8, N1 h.s9, .slice none 0 0, .string (b_.extract 0 ((((e_ - p_ : Nat) : Int)).toNat))] ?_
   intro A15
   refine Rn 0 (Qo B69 64638 3) [Qs B69 64639, .blk 1, .loop J1, .blk 0] ⟨67, [(1, VT (d.extract e_ d.size)), (2, I6 (m_ : Int)), (3, .own 3 0), (7, VL C_ n_ c_), (8, I3 q_), (10, .own 10 0), (54, VL C_ n_ c_), (56, VL A15 1 1)], [(3, ⟨31, [I1 h.s0, I1 h.s1, I3 h.s2, I3 h.s3, I8 h.s4, I8 h.s5, I8 h.s6, I1 h.s7, I1 h.s8, I1 h.s9]⟩), (10, ⟨82, [I1 h.s0, I1 h.s1, I3 q_, I3 h.s3, I8 h.s4, I8 h.s5, I8 h.s6, I1 h.s7, I1 h.s8, I1 h.s9, VL none 0 0, VT (b_.extract 0 ((((e_ - p_ : Nat) : Int)).toNat))]⟩)]⟩ ?_
   refine Ap 450 (RR 82 12 C_ n_ c_ (l_.flatMap sgC)) 96 64 (.agg #[N1 0, N1 0, N3 0, N3 0, N8 0, N8 0, N8 0, N1 0, N1 0, N1 0, .slice none 0 0, .string ByteArray.empty]) (.tmp 54) (.tmp 56) n_ c_ 1 1 C_ A15 [N1 h.s0, N1 h.s1, N3 q_, N3 h.s3, N8 h.s4, N8 h.s5, N8 h.s6, N1 h.s7, N1 h.s8, N1 h.s9, .slice none 0 0, .string (b_.extract 0 ((((e_ - p_ : Nat) : Int)).toNat))] (.inl rfl) (by kernel_rfl) (At.of_row (i := 56) (r := (RR 82 12 A15 1 1 [N1 h.s0, N1 h.s1, N3 q_, N3 h.s3, N8 h.s4, N8 h.s5, N8 h.s6, N1 h.s7, N1 h.s8, N1 h.s9, .slice none 0 0, .string (b_.extract 0 ((((e_ - p_ : Nat) : Int)).toNat))])) rfl rfl) (fun w hw e => absurd (rowSome (i := 56) (q := (RR 82 12 A15 1 1 [N1 h.s0, N1 h.s1, N3 q_, N3 h.s3, N8 h.s4, N8 h.s5, N8 h.s6, N1 h.s7, N1 h.s8, N1 h.s9, .slice none 0 0, .string (b_.extract 0 ((((e_ - p_ : Nat) : Int)).toNat))])) rfl rfl (Nat.succ_pos _) w hw) (by rw [e]; decide)) (ones (by kernel_rfl)) (by omega) ?_
   intro A16 c16 hc16
   refine X.tellR [450, 56] (R' := [(450, RR 82 12 A16 (n_ + 1) c16 ((l_ ++ [((⟨h.s0, h.s1, q_, h.s3, h.s4, h.s5, h.s6, h.s7, h.s8, h.s9⟩ : Hd), b_.extract 0 ((((e_ - p_ : Nat) : Int)).toNat))]).flatMap sgC)), (56, RR 82 12 A15 1 1 [N1 h.s0, N1 h.s1, N3 q_, N3 h.s3, N8 h.s4, N8 h.s5, N8 h.s6, N1 h.s7, N1 h.s8, N1 h.s9, .slice none 0 0, .string (b_.extract 0 ((((e_ - p_ : Nat) : Int)).toNat))])]) (congrArg (fun cs_ => (450, (RR 82 12 A16 (n_ + 1) c16 cs_ : Row)) :: [(56, RR 82 12 A15 1 1 [N1 h.s0, N1 h.s1, N3 q_, N3 h.s3, N8 h.s4, N8 h.s5, N8 h.s6, N1 h.s7, N1 h.s8, N1 h.s9, .slice none 0 0, .string (b_.extract 0 ((((e_ - p_ : Nat) : Int)).toNat))])]) (flat_snoc sgC l_ (((⟨h.s0, h.s1, q_, h.s3, h.s4, h.s5, h.s6, h.s7, h.s8, h.s9⟩ : Hd), b_.extract 0 ((((e_ - p_ : Nat) : Int)).toNat)) : Hd × ByteArray))) ?_
   obtain ⟨l16, hl16⟩ : ∃ z_, (l_ ++ [((⟨h.s0, h.s1, q_, h.s3, h.s4, h.s5, h.s6, h.s7, h.s8, h.s9⟩ : Hd), b_.extract 0 ((((e_ - p_ : Nat) : Int)).toNat))]) = z_ := ⟨_, rfl⟩
   rw [hl16]
   have hn16 : l16.length = n_ + 1 := by rw [← hl16, List.length_append, hln_]; rfl
   refine Rn 7 (Qo B69 129278 2) [Qs B69 129279, .blk 1, .loop J1, .blk 0] ⟨67, [(1, VT (d.extract e_ d.size)), (2, I6 (m_ : Int)), (3, .own 3 0), (7, VL A16 (n_ + 1) c16), (8, I3 q_), (58, I3 q_), (59, .v (.agg #[N1 h.s0, N1 h.s1, N3 q_, N3 h.s3, N8 h.s4, N8 h.s5, N8 h.s6, N1 h.s7, N1 h.s8, N1 h.s9, .slice none 0 0, .string (b_.extract 0 ((((e_ - p_ : Nat) : Int)).toNat))]))], [(3, ⟨31, [I1 h.s0, I1 h.s1, I3 h.s2, I3 h.s3, I8 h.s4, I8 h.s5, I8 h.s6, I1 h.s7, I1 h.s8, I1 h.s9]⟩)]⟩ ?_
   have hfl_ : h.s6 = flC h.s6 true true := hb3_
   have hfr_ := flC_range hh6_ true true
   have hfn_ := fl_next hh6_ true true
   rw [← hfl_] at hfr_ hfn_
   simp only [if_true, Bool.false_eq_true, if_false] at hfn_
   refine Cg 68 [.agg #[N1 h.s0, N1 h.s1, N3 q_, N3 h.s3, N8 h.s4, N8 h.s5, N8 h.s6, N1 h.s7, N1 h.s8, N1 h.s9, .slice none 0 0, .string (b_.extract 0 ((((e_ - p_ : Nat) : Int)).toNat))]] 0 (Length_ok (⟨h.s0, h.s1, q_, h.s3, h.s4, h.s5, h.s6, h.s7, h.s8, h.s9⟩ : Hd) none 0 0 (b_.extract 0 ((((e_ - p_ : Nat) : Int)).toNat)) _ hfr_ (by omega)) ?_
   rintro v17 G17 rows17 hG17 ⟨rfl, rfl⟩
   have hLs_ : lenS (⟨h.s0, h.s1, q_, h.s3, h.s4, h.s5, h.s6, h.s7, h.s8, h.s9⟩ : Hd) (b_.extract 0 ((((e_ - p_ : Nat) : Int)).toNat)) = (e_ - p_ : Nat) + (h.s6 / 2 % 2 + h.s6 % 2) := by show (((b_.extract 0 ((((e_ - p_ : Nat) : Int)).toNat)).size : Nat) : Int) + h.s6 % 2 + h.s6 / 2 % 2 = _; omega
   refine Rn 12 (Qc B69 258559) [.blk 1, .loop J1, .blk 0] ⟨67, [(1, VT (d.extract e_ d.size)), (2, I6 (m_ : Int)), (3, .own 3 0), (7, VL A16 (n_ + 1) c16), (8, I3 (IntKind.u32.wrap (q_ + (IntKind.u32.wrap (lenS (⟨h.s0, h.s1, q_, h.s3, h.s4, h.s5, h.s6, h.s7, h.s8, h.s9⟩ : Hd) (b_.extract 0 ((((e_ - p_ : Nat) : Int)).toNat))))))), (65, VB (((d.extract e_ d.size).size : Int) == 0))], [(3, ⟨31, [I1 h.s0, I1 h.s1, I3 h.s2, I3 h.s3, I8 h.s4, I8 h.s5, I8 h.s6, I1 h.s7, I1 h.s8, I1 h.s9]⟩)]⟩ ?_
   refine X.isTrue 65 rfl (decide_eq_true (by omega)) ?_
   refine Rn 11 (.ex .ret) [] ⟨67, [(6, VL A16 (n_ + 1) c16)], []⟩ ?_
   refine Dg (.inl rfl) [.slice A16 (n_ + 1) c16] [450] rfl ((hG1.trans hG17)) ?_
   have hX_ : ((⟨h.s0, h.s1, q_, h.s3, h.s4, h.s5, h.s6, h.s7, h.s8, h.s9⟩ : Hd), b_.extract 0 ((((e_ - p_ : Nat) : Int)).toNat)) = segI h d m_ p_ := segI_is (fst := true) (last := true) he_ (hdx_) (decide_eq_true (by omega)) (decide_eq_true (by omega)) hq_ (hb3_)
   have hl2_ : l16 = itL h d m_ (j_ + 1) := by rw [← hl16, hX_, itL_succ, ← hl_, hp_]
   have hmn_ := many_is (d := d) hm1_ (hjp_.imp_right fun h_ => by omega) (show d.size ≤ j_ * m_ + m_ by omega)
   rw [hmn_, hl2_]
   subst hnj_
   exact ⟨_, _, rfl, rfl⟩
end Go.Proofs.YtjgpdbkkpomhjaaX
