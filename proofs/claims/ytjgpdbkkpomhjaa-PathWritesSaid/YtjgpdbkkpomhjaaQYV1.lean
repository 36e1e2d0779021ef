/- A part of a law's proof. Conditions: none. -/
import Derived.Test.YtjgpdbkkpomhjaaProg
import Derived.KernelRfl
import Derived.Test.YtjgpdbkkpomhjaaQYI3
import Derived.Test.YtjgpdbkkpomhjaaQYPA
import Derived.Test.YtjgpdbkkpomhjaaQYE1
import Derived.Test.YtjgpdbkkpomhjaaQYPK
import Derived.Test.YtjgpdbkkpomhjaaQYT
namespace Go.Proofs.YtjgpdbkkpomhjaaX
open Go.RowKit
open Go.Proofs.YtjgpdbkkpomhjaaW.PrintLast
set_option linter.unusedVariables false
set_option linter.unusedSimpArgs false
set_option maxRecDepth 100000
def numB (l : List Int) : Int := l.foldl (fun a x => a * 256 + x) 0
theorem numB_snoc (l : List Int) (x : Int) : numB (l ++ [x]) = numB l * 256 + x := by simp [numB]
theorem numB_take {l : List Int} {i : Nat} (h : i < l.length) : numB (l.take (i + 1)) = numB (l.take i) * 256 + l.getD i 0 := by
 rw [List.take_succ_eq_append_getElem h, numB_snoc]
 simp [h]
theorem numB_bd {l : List Int} (h : isBytes l) (h4 : l.length ≤ 4) : ∀ i, i ≤ l.length → 0 ≤ numB (l.take i) ∧ numB (l.take i) < 256 ^ i := by
 intro i
 induction i with
 | zero => intro _; simp [numB]
 | succ i ih =>
  intro hi
  have := ih (by omega)
  rw [numB_take (by omega)]
  have hb := bytes_at h i (by omega)
  rw [Int.pow_succ]
  omega
noncomputable def B101 : Code := bodyOf Try.f101
set_option maxHeartbeats 1000000 in
theorem num_ok (A : Option Addr) (c : Nat) (b : List Int) (G : Mem) (hb : rowAt (D.int .u8) G A b) (hle : b.length ≤ c) (hmx : c ≤ maxLen) (h4 : b.length ≤ 4) : CallsG Try.prog 101 [.slice A b.length c] G (fun _ v rows => v = .int .u32 (numB b) ∧ rows = []) := by
 simp only [maxLen] at hmx
 have hby := row_bytes hb
 refine CallsG.enter Try.func101 rfl rfl ?_
 intro w
 refine Rn 17 (Qc B101 58) [.blk 0, Qs B101 15] _ (X.loopJ (fun m s R' G' => ∃ (q i : Int), s = ⟨20, [(0, VL A b.length c), (2, I3 0), (3, I3 q), (4, I6 i)], []⟩ ∧ R' = [] ∧ G = G' ∧ (0 ≤ i ∧ i ≤ (b.length : Int) ∧ q = numB (b.take i.toNat)) ∧ m = ((b.length : Int) - i).toNat) _ ⟨0, 0, rfl, rfl, rfl, ⟨by omega, by omega, by simp [numB]⟩, rfl⟩ ?_)
 rintro m1 s1 R1 G1 ⟨q, i, rfl, rfl, rfl, hF1, rfl⟩ J1 hJ1
 obtain ⟨hi0, hi1, hi2⟩ := hF1
 have hbd := numB_bd hby h4 i.toNat (by omega)
 have hpw : (256 : Int) ^ i.toNat ≤ 4294967296 ∧ (i < (b.length : Int) → (256 : Int) ^ i.toNat ≤ 16777216) := by
  have : i.toNat = 0 ∨ i.toNat = 1 ∨ i.toNat = 2 ∨ i.toNat = 3 ∨ i.toNat = 4 := by omega
  rcases this with h | h | h | h | h <;> rw [h] <;> constructor <;> first | decide | (intro; first | decide | omega)
 refine Ra 9 (Qc B101 465) 0 [Qs B101 233] [(8, VB (decide (i < (b.length : Int))))] ?_
 refine Sd 8 rfl ?_ ?_ <;> intro h2
 ·
  refine Ra 10 (Qo B101 932 4) 1 [.blk 1, Qs B101 467] [(12, I3 (IntKind.u32.wrap (q * 256))), (13, VL A b.length c), (14, I6 i)] ?_
  refine Ix 22 5 1 A b.length c .i64 i (.tmp 13) (.tmp 14) (by omega) (by omega) (fun _ _ => rowAt.so hb (by omega)) ?_
  obtain ⟨at5, lo5, hi5⟩ := At.int [] hb ((i).toNat) (by omega)
  simp only [IntKind.lo, IntKind.hi] at lo5 hi5
  refine Ra 0 (Qo B101 932 5) 0 [] [(15, .v (elt A ((i).toNat * 1)))] ?_
  refine Ld 5 A ((i).toNat * 1) (.tmp 15) (N8 (b.getD i.toNat 0)) [N8 (b.getD i.toNat 0)] at5 ?_
  have e1 : IntKind.i64.wrap (i + 1) = i + 1 := wi64 (by omega) (by omega)
  have e0 : (i + 1).toNat = i.toNat + 1 := by omega
  have hbb := bytes_at hby i.toNat (by omega)
  rw [← hi2] at hbd
  have hq := hpw.2 (by omega)
  exact Rn 11 (.ex .normal) [.loop J1, .blk 0, Qs B101 15] _ (X.again (hJ1 _ _ _ _ ⟨IntKind.u32.wrap (IntKind.u32.wrap (q * 256) + IntKind.u32.wrap (b.getD (i.toNat) 0)), IntKind.i64.wrap (i + 1), rfl, rfl, rfl, ⟨by omega, by omega, by rw [e1, e0, numB_take (by omega), ← hi2, wu32 (x := q * 256) (by omega) (by omega), wu32 (x := b.getD i.toNat 0) (by omega) (by omega), wu32 (by omega) (by omega)]⟩, rfl⟩ (by rw [e1]; omega)))
 ·
  refine Rn 13 (.ex .ret) [] ⟨20, [(2, I3 q)], []⟩ ?_
  refine Dg (.inl rfl) [N3 q] [] rfl (Ge.refl _ _) ?_
  refine ⟨?_, rfl⟩
  rw [hi2, List.take_of_length_le (by omega)]
  rfl
def ref39 (b : List Int) : Value := .agg #[.int .u16 (IntKind.u16.wrap (numB ((b.take 2).drop 0))), .int .u16 (IntKind.u16.wrap (numB ((b.take 4).drop 2))), .int .u32 (numB ((b.take 8).drop 4)), .int .u32 (numB ((b.take 12).drop 8)), .int .u8 (IntKind.u8.wrap (Int.tdiv (b.getD 12 0) 16)), .int .u8 (IntKind.u8.wrap ((IntKind.u8.wrap ((Int.tmod (b.getD 12 0) 2) * 4)) + (IntKind.u8.wrap (Int.tdiv (b.getD 13 0) 64)))), .int .u8 (Int.tmod (b.getD 13 0) 64), .int .u16 (IntKind.u16.wrap (numB ((b.take 16).drop 14))), .int .u16 (IntKind.u16.wrap (numB ((b.take 18).drop 16))), .int .u16 (IntKind.u16.wrap (numB ((b.take 20).drop 18)))]
noncomputable def B39 : Code := bodyOf Try.f39
set_option maxHeartbeats 8000000 in
theorem RefDec_ok (A : Option Addr) (c : Nat) (b : List Int) (G : Mem) (hb : rowAt (D.int .u8) G A b) (hle : b.length ≤ c) (hmx : c ≤ maxLen) : CallsG Try.prog 39 [.slice A b.length c] G (fun _ v rows => (b.length < 20 → v = .tuple #[.agg #[.int .u16 0, .int .u16 0, .int .u32 0, .int .u32 0, .int .u8 0, .int .u8 0, .int .u8 0, .int .u16 0, .int .u16 0, .int .u16 0], .int .i64 3]) ∧ (20 ≤ b.length ∧ (IntKind.u8.wrap (Int.tdiv (b.getD 12 0) 16) < 5 ∨ 1 < Int.tmod (b.getD 12 0) 16) → v = .tuple #[.agg #[.int .u16 0, .int .u16 0, .int .u32 0, .int .u32 0, .int .u8 0, .int .u8 0, .int .u8 0, .int .u16 0, .int .u16 0, .int .u16 0], .int .i64 5]) ∧ (20 ≤ b.length ∧ ¬ (IntKind.u8.wrap (Int.tdiv (b.getD 12 0) 16) < 5 ∨ 1 < Int.tmod (b.getD 12 0) 16) → v = .tuple #[ref39 b, .int .i64 0]) ∧ rows = []) := by
 simp only [maxLen] at hmx
 refine CallsG.enter Try.func39 rfl rfl ?_
 intro w
 refine Rn 14 (Qc B39 13) [Qs B39 7] ⟨69, [(0, VL A b.length c), (2, .own 2 0), (3, I6 0), (7, VB (decide ((b.length : Int) < 20)))], [(2, ⟨31, [I1 0, I1 0, I3 0, I3 0, I8 0, I8 0, I8 0, I1 0, I1 0, I1 0]⟩)]⟩ ?_
 refine Sd 7 rfl ?_ ?_ <;> intro h1
 ·
  refine Rc 10 (.ex .ret) 1 [] [(3, I6 3)] [0, 7] ?_
  refine Dg (.inl rfl) [.agg #[N1 0, N1 0, N3 0, N3 0, N8 0, N8 0, N8 0, N1 0, N1 0, N1 0], N6 3] [] rfl (Ge.refl _ _) ?_
  exact ⟨fun _ => rfl, fun h => absurd h.1 (by omega), fun h => absurd h.1 (by omega), rfl⟩
 ·
  refine Ra 7 (Qo B39 28 1) 1 [Qs B39 29, Qs B39 15] [(9, VL A b.length c)] ?_
  refine Ix 22 5 1 A b.length c .i64 12 (.tmp 9) (.const (N6 12)) (by omega) (by omega) (fun _ _ => rowAt.so hb (by omega)) ?_
  obtain ⟨at4, lo4, hi4⟩ := At.int [] hb 12 (by omega)
  simp only [IntKind.lo, IntKind.hi] at lo4 hi4
  refine Ra 0 (Qo B39 28 2) 0 [] [(10, .v (elt A (12 * 1)))] ?_
  refine Ld 5 A (12 * 1) (.tmp 10) (N8 (b.getD 12 0)) [N8 (b.getD 12 0)] at4 ?_
  refine Ra 3 (Qo B39 28 6) 0 [] [(14, VB (decide (IntKind.u8.wrap (Int.tdiv (b.getD 12 0) 16) < 5)))] ?_
  refine Sd 14 rfl ?_ ?_ <;> intro h5
  ·
   refine Rc 18 (.ex .ret) 2 [] [(3, I6 5)] [0, 14] ?_
   refine Dg (.inl rfl) [.agg #[N1 0, N1 0, N3 0, N3 0, N8 0, N8 0, N8 0, N1 0, N1 0, N1 0], N6 5] [] rfl (Ge.refl _ _) ?_
   exact ⟨fun h => absurd h (by omega), fun _ => rfl, fun h => False.elim (h.2 (by first | exact .inl (by assumption) | exact .inr (by assumption))), rfl⟩
  ·
   refine Ra 1 (Qo B39 28 7) 0 [] [(14, VB false), (15, VL A b.length c)] ?_
   refine Ix 22 5 1 A b.length c .i64 12 (.tmp 15) (.const (N6 12)) (by omega) (by omega) (fun _ _ => rowAt.so hb (by omega)) ?_
   obtain ⟨at8, lo8, hi8⟩ := At.int [] hb 12 (by omega)
   simp only [IntKind.lo, IntKind.hi] at lo8 hi8
   refine Ra 0 (Qo B39 28 8) 0 [] [(16, .v (elt A (12 * 1)))] ?_
   refine Ld 5 A (12 * 1) (.tmp 16) (N8 (b.getD 12 0)) [N8 (b.getD 12 0)] at8 ?_
   refine Ra 5 (Qc B39 29) 1 [] [(20, VB (decide (Int.tmod (b.getD 12 0) 16 > 1)))] ?_
   refine Sd 20 rfl ?_ ?_ <;> intro h9
   ·
    refine Rc 10 (.ex .ret) 1 [] [(3, I6 5)] [0, 20] ?_
    refine Dg (.inl rfl) [.agg #[N1 0, N1 0, N3 0, N3 0, N8 0, N8 0, N8 0, N1 0, N1 0, N1 0], N6 5] [] rfl (Ge.refl _ _) ?_
    exact ⟨fun h => absurd h (by omega), fun _ => rfl, fun h => False.elim (h.2 (by first | exact .inl (by assumption) | exact .inr (by assumption))), rfl⟩
   ·
    refine Ra 4 (Qc B39 30) 1 [Qs B39 31] [] ?_
    have hb_d10 := hb
    refine Oh 5 B39 30 37 [] [] [] trivial Mt (fun ρ0 => ?_)
    refine Tk 0 37 1 B39 30 (VL A b.length c) QOk.ctxG ?_
    have hlo11 : 0 ≤ 2 := by omega
    have hhi11 : 2 ≤ b.length := by omega
    refine XD.cut (i := 1) (l' := (lb 37 3)) (o := (oA B39 (pa 30) 1)) (t := 22) (e := 5) (sz := 1) (n := b.length) (c := c) (A := A) (x := .tmp 22) (l0 := (some (.const (N6 0)))) (h := (some (.const (N6 2)))) (lv := (some (N6 0))) (hv := (some (N6 2))) 0 2 QOk.ctxG (by kernel_rfl) (by kernel_rfl) (by kernel_rfl) (by kernel_rfl) (by kernel_rfl) (by kernel_rfl) (by kernel_rfl) (by kernel_rfl) (by kernel_rfl) (⟨_, _, rfl, by omega, rfl⟩) (⟨_, _, rfl, by omega, rfl⟩) hlo11 (Nat.le_trans hhi11 hle) (by kernel_rfl) ?_
    obtain ⟨A11, hA11⟩ : ∃ A_, cutA A c 0 1 = A_ := ⟨_, rfl⟩
    obtain ⟨ys11, hys11⟩ : ∃ l_, (b.take 2).drop 0 = l_ := ⟨_, rfl⟩
    have hr11 : rowAt (D.int .u8) G (cutA A c 0 1) ((b.take 2).drop 0) := rowAt_cut hb hlo11 hhi11 hle
    have hl11 : 2 - 0 = ys11.length := by rw [← hys11, List.length_drop, List.length_take]; omega
    have hc11 : ys11.length ≤ c - 0 := by omega
    have hm11 : c - 0 ≤ maxLen := Nat.le_trans (Nat.sub_le _ _) hmx
    rw [hys11, show cutA A c 0 _ = A11 from hA11] at hr11
    rw [hA11, hl11]
    refine Tk 4 37 19 B39 30 (VL A b.length c) QOk.ctxG ?_
    have hlo12 : 2 ≤ 4 := by omega
    have hhi12 : 4 ≤ b.length := by omega
    refine XD.cut (i := 5) (l' := (lb 37 51)) (o := (oA B39 (pa 30) 5)) (t := 22) (e := 5) (sz := 1) (n := b.length) (c := c) (A := A) (x := .tmp 26) (l0 := (some (.const (N6 2)))) (h := (some (.const (N6 4)))) (lv := (some (N6 2))) (hv := (some (N6 4))) 2 4 QOk.ctxG (by kernel_rfl) (by kernel_rfl) (by kernel_rfl) (by kernel_rfl) (by kernel_rfl) (by kernel_rfl) (by kernel_rfl) (by kernel_rfl) (by kernel_rfl) (⟨_, _, rfl, by omega, rfl⟩) (⟨_, _, rfl, by omega, rfl⟩) hlo12 (Nat.le_trans hhi12 hle) (by kernel_rfl) ?_
    obtain ⟨A12, hA12⟩ : ∃ A_, cutA A c 2 1 = A_ := ⟨_, rfl⟩
    obtain ⟨ys12, hys12⟩ : ∃ l_, (b.take 4).drop 2 = l_ := ⟨_, rfl⟩
    have hr12 : rowAt (D.int .u8) G (cutA A c 2 1) ((b.take 4).drop 2) := rowAt_cut hb hlo12 hhi12 hle
    have hl12 : 4 - 2 = ys12.length := by rw [← hys12, List.length_drop, List.length_take]; omega
    have hc12 : ys12.length ≤ c - 2 := by omega
    have hm12 : c - 2 ≤ maxLen := Nat.le_trans (Nat.sub_le _ _) hmx
    rw [hys12, show cutA A c 2 _ = A12 from hA12] at hr12
    rw [hA12, hl12]
    refine Tk 8 37 307 B39 30 (VL A b.length c) QOk.ctxG ?_
    have hlo13 : 4 ≤ 8 := by omega
    have hhi13 : 8 ≤ b.length := by omega
    refine XD.cut (i := 9) (l' := (lb 37 819)) (o := (oA B39 (pa 30) 9)) (t := 22) (e := 5) (sz := 1) (n := b.length) (c := c) (A := A) (x := .tmp 30) (l0 := (some (.const (N6 4)))) (h := (some (.const (N6 8)))) (lv := (some (N6 4))) (hv := (some (N6 8))) 4 8 QOk.ctxG (by kernel_rfl) (by kernel_rfl) (by kernel_rfl) (by kernel_rfl) (by kernel_rfl) (by kernel_rfl) (by kernel_rfl) (by kernel_rfl) (by kernel_rfl) (⟨_, _, rfl, by omega, rfl⟩) (⟨_, _, rfl, by omega, rfl⟩) hlo13 (Nat.le_trans hhi13 hle) (by kernel_rfl) ?_
    obtain ⟨A13, hA13⟩ : ∃ A_, cutA A c 4 1 = A_ := ⟨_, rfl⟩
    obtain ⟨ys13, hys13⟩ : ∃ l_, (b.take 8).drop 4 = l_ := ⟨_, rfl⟩
    have hr13 : rowAt (D.int .u8) G (cutA A c 4 1) ((b.take 8).drop 4) := rowAt_cut hb hlo13 hhi13 hle
    have hl13 : 8 - 4 = ys13.length := by rw [← hys13, List.length_drop, List.length_take]; omega
    have hc13 : ys13.length ≤ c - 4 := by omega
    have hm13 : c - 4 ≤ maxLen := Nat.le_trans (Nat.sub_le _ _) hmx
    rw [hys13, show cutA A c 4 _ = A13 from hA13] at hr13
    rw [hA13, hl13]
    refine Tk 11 37 2867 B39 30 (VL A b.length c) QOk.ctxG ?_
    have hlo14 : 8 ≤ 12 := by omega
    have hhi14 : 12 ≤ b.length := by omega
    refine XD.cut (i := 12) (l' := (lb 37 6963)) (o := (oA B39 (pa 30) 12)) (t := 22) (e := 5) (sz := 1) (n := b.length) (c := c) (A := A) (x := .tmp 33) (l0 := (some (.const (N6 8)))) (h := (some (.const (N6 12)))) (lv := (some (N6 8))) (hv := (some (N6 12))) 8 12 QOk.ctxG (by kernel_rfl) (by kernel_rfl) (by kernel_rfl) (by kernel_rfl) (by kernel_rfl) (by kernel_rfl) (by kernel_rfl) (by kernel_rfl) (by kernel_rfl) (⟨_, _, rfl, by omega, rfl⟩) (⟨_, _, rfl, by omega, rfl⟩) hlo14 (Nat.le_trans hhi14 hle) (by kernel_rfl) ?_
    obtain ⟨A14, hA14⟩ : ∃ A_, cutA A c 8 1 = A_ := ⟨_, rfl⟩
    obtain ⟨ys14, hys14⟩ : ∃ l_, (b.take 12).drop 8 = l_ := ⟨_, rfl⟩
    have hr14 : rowAt (D.int .u8) G (cutA A c 8 1) ((b.take 12).drop 8) := rowAt_cut hb hlo14 hhi14 hle
    have hl14 : 12 - 8 = ys14.length := by rw [← hys14, List.length_drop, List.length_take]; omega
    have hc14 : ys14.length ≤ c - 8 := by omega
    have hm14 : c - 8 ≤ maxLen := Nat.le_trans (Nat.sub_le _ _) hmx
    rw [hys14, show cutA A c 8 _ = A14 from hA14] at hr14
    rw [hA14, hl14]
    refine Tk 14 37 23347 B39 30 (VL A b.length c) QOk.ctxG ?_
    have b15 : (0 : Int) ≤ 12 := by omega
    have b16 : 12 < ((b.length : Nat) : Int) := by omega
    obtain ⟨at17, lo17, hi17⟩ := At.int [] hb_d10 12 (by omega)
    simp only [IntKind.lo, IntKind.hi] at lo17 hi17
    refine Dx 15 37 56115 B39 30 22 5 1 A b.length c .i64 12 (.tmp 36) (.const (N6 12)) QOk.ctxG b15 b16 (fun _ _ => rowAt.so hb_d10 (by omega)) ?_
    refine Dl 16 37 121651 B39 30 5 A (12 * 1) (.tmp 37) (N8 (b.getD 12 0)) [N8 (b.getD 12 0)] QOk.ctxG at17 ?_
    refine Tk 17 37 252723 B39 30 (I8 (IntKind.u8.wrap (Int.tdiv (b.getD 12 0) 16))) QOk.ctxG ?_
    refine Tk 18 37 514867 B39 30 (VL A b.length c) QOk.ctxG ?_
    have b18 : (0 : Int) ≤ 13 := by omega
    have b19 : 13 < ((b.length : Nat) : Int) := by omega
    obtain ⟨at20, lo20, hi20⟩ := At.int [] hb_d10 13 (by omega)
    simp only [IntKind.lo, IntKind.hi] at lo20 hi20
    refine Dx 19 37 1039155 B39 30 22 5 1 A b.length c .i64 13 (.tmp 40) (.const (N6 13)) QOk.ctxG b18 b19 (fun _ _ => rowAt.so hb_d10 (by omega)) ?_
    refine Dl 20 37 2087731 B39 30 5 A (13 * 1) (.tmp 41) (N8 (b.getD 13 0)) [N8 (b.getD 13 0)] QOk.ctxG at20 ?_
    refine Tk 21 37 4184883 B39 30 (I8 (Int.tmod (b.getD 13 0) 64)) QOk.ctxG ?_
    refine Tk 22 37 8379187 B39 30 (VL A b.length c) QOk.ctxG ?_
    have hlo21 : 14 ≤ 16 := by omega
    have hhi21 : 16 ≤ b.length := by omega
    refine XD.cut (i := 23) (l' := (lb 37 16767795)) (o := (oA B39 (pa 30) 23)) (t := 22) (e := 5) (sz := 1) (n := b.length) (c := c) (A := A) (x := .tmp 44) (l0 := (some (.const (N6 14)))) (h := (some (.const (N6 16)))) (lv := (some (N6 14))) (hv := (some (N6 16))) 14 16 QOk.ctxG (by kernel_rfl) (by kernel_rfl) (by kernel_rfl) (by kernel_rfl) (by kernel_rfl) (by kernel_rfl) (by kernel_rfl) (by kernel_rfl) (by kernel_rfl) (⟨_, _, rfl, by omega, rfl⟩) (⟨_, _, rfl, by omega, rfl⟩) hlo21 (Nat.le_trans hhi21 hle) (by kernel_rfl) ?_
    obtain ⟨A21, hA21⟩ : ∃ A_, cutA A c 14 1 = A_ := ⟨_, rfl⟩
    obtain ⟨ys21, hys21⟩ : ∃ l_, (b.take 16).drop 14 = l_ := ⟨_, rfl⟩
    have hr21 : rowAt (D.int .u8) G (cutA A c 14 1) ((b.take 16).drop 14) := rowAt_cut hb hlo21 hhi21 hle
    have hl21 : 16 - 14 = ys21.length := by rw [← hys21, List.length_drop, List.length_take]; omega
    have hc21 : ys21.length ≤ c - 14 := by omega
    have hm21 : c - 14 ≤ maxLen := Nat.le_trans (Nat.sub_le _ _) hmx
    rw [hys21, show cutA A c 14 _ = A21 from hA21] at hr21
    rw [hA21, hl21]
    refine Tk 26 37 83876659 B39 30 (VL A b.length c) QOk.ctxG ?_
    have hlo22 : 16 ≤ 18 := by omega
    have hhi22 : 18 ≤ b.length := by omega
    refine XD.cut (i := 27) (l' := (lb 37 218094387)) (o := (oA B39 (pa 30) 27)) (t := 22) (e := 5) (sz := 1) (n := b.length) (c := c) (A := A) (x := .tmp 48) (l0 := (some (.const (N6 16)))) (h := (some (.const (N6 18)))) (lv := (some (N6 16))) (hv := (some (N6 18))) 16 18 QOk.ctxG (by kernel_rfl) (by kernel_rfl) (by kernel_rfl) (by kernel_rfl) (by kernel_rfl) (by kernel_rfl) (by kernel_rfl) (by kernel_rfl) (by kernel_rfl) (⟨_, _, rfl, by omega, rfl⟩) (⟨_, _, rfl, by omega, rfl⟩) hlo22 (Nat.le_trans hhi22 hle) (by kernel_rfl) ?_
    obtain ⟨A22, hA22⟩ : ∃ A_, cutA A c 16 1 = A_ := ⟨_, rfl⟩
    obtain ⟨ys22, hys22⟩ : ∃ l_, (b.take 18).drop 16 = l_ := ⟨_, rfl⟩
    have hr22 : rowAt (D.int .u8) G (cutA A c 16 1) ((b.take 18).drop 16) := rowAt_cut hb hlo22 hhi22 hle
    have hl22 : 18 - 16 = ys22.length := by rw [← hys22, List.length_drop, List.length_take]; omega
    have hc22 : ys22.length ≤ c - 16 := by omega
    have hm22 : c - 16 ≤ maxLen := Nat.le_trans (Nat.sub_le _ _) hmx
    rw [hys22, show cutA A c 16 _ = A22 from hA22] at hr22
    rw [hA22, hl22]
    refine Tk 30 37 1291836211 B39 30 (VL A b.length c) QOk.ctxG ?_
    have hlo23 : 18 ≤ 20 := by omega
    have hhi23 : 20 ≤ b.length := by omega
    refine XD.cut (i := 31) (l' := (lb 37 3439319859)) (o := (oA B39 (pa 30) 31)) (t := 22) (e := 5) (sz := 1) (n := b.length) (c := c) (A := A) (x := .tmp 52) (l0 := (some (.const (N6 18)))) (h := (some (.const (N6 20)))) (lv := (some (N6 18))) (hv := (some (N6 20))) 18 20 QOk.ctxG (by kernel_rfl) (by kernel_rfl) (by kernel_rfl) (by kernel_rfl) (by kernel_rfl) (by kernel_rfl) (by kernel_rfl) (by kernel_rfl) (by kernel_rfl) (⟨_, _, rfl, by omega, rfl⟩) (⟨_, _, rfl, by omega, rfl⟩) hlo23 (Nat.le_trans hhi23 hle) (by kernel_rfl) ?_
    obtain ⟨A23, hA23⟩ : ∃ A_, cutA A c 18 1 = A_ := ⟨_, rfl⟩
    obtain ⟨ys23, hys23⟩ : ∃ l_, (b.take 20).drop 18 = l_ := ⟨_, rfl⟩
    have hr23 : rowAt (D.int .u8) G (cutA A c 18 1) ((b.take 20).drop 18) := rowAt_cut hb hlo23 hhi23 hle
    have hl23 : 20 - 18 = ys23.length := by rw [← hys23, List.length_drop, List.length_take]; omega
    have hc23 : ys23.length ≤ c - 18 := by omega
    have hm23 : c - 18 ≤ maxLen := Nat.le_trans (Nat.sub_le _ _) hmx
    rw [hys23, show cutA A c 18 _ = A23 from hA23] at hr23
    rw [hA23, hl23]
    refine XD.two (i := 2) (j := 35) (li := (lb 37 3439319863)) (lj := (lb 37 37799058227)) (oA B39 (pa 30) 2) (oA B39 (pa 30) 35) (by kernel_rfl) (by kernel_rfl) (by kernel_rfl) (by kernel_rfl) (by kernel_rfl) ?_ ?_
    ·
     refine Cg 101 [.slice A11 ys11.length (c - 0)] 0 (num_ok _ _ ys11 _ hr11 hc11 hm11 (by omega)) ?_
     rintro v24 G24 rows24 hG24 ⟨rfl, rfl⟩
     replace hb := hb.mono hG24.le
     replace hr11 := hr11.mono hG24.le
     replace hr12 := hr12.mono hG24.le
     replace hr13 := hr13.mono hG24.le
     replace hr14 := hr14.mono hG24.le
     replace hr21 := hr21.mono hG24.le
     replace hr22 := hr22.mono hG24.le
     replace hr23 := hr23.mono hG24.le
     refine X.back ⟨trivial, hG24.le, rfl, ?_⟩
     refine Td [3] 37 3439319871 13 QOk.ctxG [(25, I1 (IntKind.u16.wrap (numB ys11)))] trivial ?_
     refine XD.two (i := 6) (j := 35) (li := (lb 37 3439319935)) (lj := (lb 37 37799058239)) (oA B39 (pa 30) 6) (oA B39 (pa 30) 35) (by kernel_rfl) (by kernel_rfl) (by kernel_rfl) (by kernel_rfl) (by kernel_rfl) ?_ ?_
     ·
      refine Cg 101 [.slice A12 ys12.length (c - 2)] 0 (num_ok _ _ ys12 _ hr12 hc12 hm12 (by omega)) ?_
      rintro v25 G25 rows25 hG25 ⟨rfl, rfl⟩
      replace hb := hb.mono hG25.le
      replace hr11 := hr11.mono hG25.le
      replace hr12 := hr12.mono hG25.le
      replace hr13 := hr13.mono hG25.le
      replace hr14 := hr14.mono hG25.le
      replace hr21 := hr21.mono hG25.le
      replace hr22 := hr22.mono hG25.le
      replace hr23 := hr23.mono hG25.le
      refine X.back ⟨trivial, (hG24.trans hG25).le, rfl, ?_⟩
      refine Td [7] 37 3439320063 11 QOk.ctxG [(29, I1 (IntKind.u16.wrap (numB ys12)))] trivial ?_
      refine XD.two (i := 10) (j := 35) (li := (lb 37 3439321087)) (lj := (lb 37 37799058431)) (oA B39 (pa 30) 10) (oA B39 (pa 30) 35) (by kernel_rfl) (by kernel_rfl) (by kernel_rfl) (by kernel_rfl) (by kernel_rfl) ?_ ?_
      ·
       refine Cg 101 [.slice A13 ys13.length (c - 4)] 0 (num_ok _ _ ys13 _ hr13 hc13 hm13 (by omega)) ?_
       rintro v26 G26 rows26 hG26 ⟨rfl, rfl⟩
       replace hb := hb.mono hG26.le
       replace hr11 := hr11.mono hG26.le
       replace hr12 := hr12.mono hG26.le
       replace hr13 := hr13.mono hG26.le
       replace hr14 := hr14.mono hG26.le
       replace hr21 := hr21.mono hG26.le
       replace hr22 := hr22.mono hG26.le
       replace hr23 := hr23.mono hG26.le
       refine X.back ⟨trivial, ((hG24.trans hG25).trans hG26).le, rfl, ?_⟩
       refine Dn ⟨69, [(0, VL A b.length c), (2, .own 2 0), (3, I6 0), (25, I1 (IntKind.u16.wrap (numB ys11))), (29, I1 (IntKind.u16.wrap (numB ys12))), (32, I3 (numB ys13)), (34, VL A14 ys14.length (c - 8)), (39, I8 (IntKind.u8.wrap (Int.tdiv (b.getD 12 0) 16))), (43, I8 (Int.tmod (b.getD 13 0) 64)), (45, VL A21 ys21.length (c - 14)), (49, VL A22 ys22.length (c - 16)), (53, VL A23 ys23.length (c - 18))], [(2, ⟨31, [I1 0, I1 0, I3 0, I3 0, I8 0, I8 0, I8 0, I1 0, I1 0, I1 0]⟩)]⟩ trivial ?_
       refine XD.two (i := 13) (j := 35) (li := (lb 37 3439329279)) (lj := (lb 37 37799059455)) (oA B39 (pa 30) 13) (oA B39 (pa 30) 35) (by kernel_rfl) (by kernel_rfl) (by kernel_rfl) (by kernel_rfl) (by kernel_rfl) ?_ ?_
       ·
        refine Cg 101 [.slice A14 ys14.length (c - 8)] 0 (num_ok _ _ ys14 _ hr14 hc14 hm14 (by omega)) ?_
        rintro v27 G27 rows27 hG27 ⟨rfl, rfl⟩
        replace hb := hb.mono hG27.le
        replace hr11 := hr11.mono hG27.le
        replace hr12 := hr12.mono hG27.le
        replace hr13 := hr13.mono hG27.le
        replace hr14 := hr14.mono hG27.le
        replace hr21 := hr21.mono hG27.le
        replace hr22 := hr22.mono hG27.le
        replace hr23 := hr23.mono hG27.le
        refine X.back ⟨trivial, (((hG24.trans hG25).trans hG26).trans hG27).le, rfl, ?_⟩
        refine XD.two (i := 24) (j := 35) (li := (lb 37 3456106495)) (lj := (lb 37 37799067647)) (oA B39 (pa 30) 24) (oA B39 (pa 30) 35) (by kernel_rfl) (by kernel_rfl) (by kernel_rfl) (by kernel_rfl) (by kernel_rfl) ?_ ?_
        ·
         refine Cg 101 [.slice A21 ys21.length (c - 14)] 0 (num_ok _ _ ys21 _ hr21 hc21 hm21 (by omega)) ?_
         rintro v28 G28 rows28 hG28 ⟨rfl, rfl⟩
         replace hb := hb.mono hG28.le
         replace hr11 := hr11.mono hG28.le
         replace hr12 := hr12.mono hG28.le
         replace hr13 := hr13.mono hG28.le
         replace hr14 := hr14.mono hG28.le
         replace hr21 := hr21.mono hG28.le
         replace hr22 := hr22.mono hG28.le
         replace hr23 := hr23.mono hG28.le
         refine X.back ⟨trivial, ((((hG24.trans hG25).trans hG26).trans hG27).trans hG28).le, rfl, ?_⟩
         refine Td [25] 37 3489660927 7 QOk.ctxG [(47, I1 (IntKind.u16.wrap (numB ys21)))] trivial ?_
         refine XD.two (i := 28) (j := 35) (li := (lb 37 3758096383)) (lj := (lb 37 37849399295)) (oA B39 (pa 30) 28) (oA B39 (pa 30) 35) (by kernel_rfl) (by kernel_rfl) (by kernel_rfl) (by kernel_rfl) (by kernel_rfl) ?_ ?_
         ·
          refine Cg 101 [.slice A22 ys22.length (c - 16)] 0 (num_ok _ _ ys22 _ hr22 hc22 hm22 (by omega)) ?_
          rintro v29 G29 rows29 hG29 ⟨rfl, rfl⟩
          replace hb := hb.mono hG29.le
          replace hr11 := hr11.mono hG29.le
          replace hr12 := hr12.mono hG29.le
          replace hr13 := hr13.mono hG29.le
          replace hr14 := hr14.mono hG29.le
          replace hr21 := hr21.mono hG29.le
          replace hr22 := hr22.mono hG29.le
          replace hr23 := hr23.mono hG29.le
          refine X.back ⟨trivial, (((((hG24.trans hG25).trans hG26).trans hG27).trans hG28).trans hG29).le, rfl, ?_⟩
          refine Td [29] 37 4294967295 5 QOk.ctxG [(51, I1 (IntKind.u16.wrap (numB ys22)))] trivial ?_
          refine XD.two (i := 32) (j := 35) (li := (lb 37 8589934591)) (lj := (lb 37 38654705663)) (oA B39 (pa 30) 32) (oA B39 (pa 30) 35) (by kernel_rfl) (by kernel_rfl) (by kernel_rfl) (by kernel_rfl) (by kernel_rfl) ?_ ?_
          ·
           refine Cg 101 [.slice A23 ys23.length (c - 18)] 0 (num_ok _ _ ys23 _ hr23 hc23 hm23 (by omega)) ?_
           rintro v30 G30 rows30 hG30 ⟨rfl, rfl⟩
           replace hb := hb.mono hG30.le
           replace hr11 := hr11.mono hG30.le
           replace hr12 := hr12.mono hG30.le
           replace hr13 := hr13.mono hG30.le
           replace hr14 := hr14.mono hG30.le
           replace hr21 := hr21.mono hG30.le
           replace hr22 := hr22.mono hG30.le
           replace hr23 := hr23.mono hG30.le
           refine X.back ⟨trivial, ((((((hG24.trans hG25).trans hG26).trans hG27).trans hG28).trans hG29).trans hG30).le, rfl, ?_⟩
           refine Td [33, 34] 37 34359738367 2 QOk.ctxG [(56, .v (.agg #[N1 (IntKind.u16.wrap (numB ys11)), N1 (IntKind.u16.wrap (numB ys12)), N3 (numB ys13), N3 (numB ys14), N8 (IntKind.u8.wrap (Int.tdiv (b.getD 12 0) 16)), N8 0, N8 (Int.tmod (b.getD 13 0) 64), N1 (IntKind.u16.wrap (numB ys21)), N1 (IntKind.u16.wrap (numB ys22)), N1 (IntKind.u16.wrap (numB ys23))]))] trivial ?_
           refine Do 35 37 68719476735 B39 30 ?_
           refine X.simple (by kernel_rfl) ?_
           refine X.back ⟨trivial, ((((((hG24.trans hG25).trans hG26).trans hG27).trans hG28).trans hG29).trans hG30).le, rfl, ?_⟩
           refine Dn ⟨69, [(0, VL A b.length c), (2, .own 2 0), (3, I6 0), (4, .own 4 0), (56, .v (.agg #[N1 (IntKind.u16.wrap (numB ys11)), N1 (IntKind.u16.wrap (numB ys12)), N3 (numB ys13), N3 (numB ys14), N8 (IntKind.u8.wrap (Int.tdiv (b.getD 12 0) 16)), N8 0, N8 (Int.tmod (b.getD 13 0) 64), N1 (IntKind.u16.wrap (numB ys21)), N1 (IntKind.u16.wrap (numB ys22)), N1 (IntKind.u16.wrap (numB ys23))]))], [(2, ⟨31, [I1 0, I1 0, I3 0, I3 0, I8 0, I8 0, I8 0, I1 0, I1 0, I1 0]⟩), (4, ⟨31, [I1 0, I1 0, I3 0, I3 0, I8 0, I8 0, I8 0, I1 0, I1 0, I1 0]⟩)]⟩ trivial ?_
           refine Do 36 37 137438953471 B39 30 ?_
           refine X.simple (by kernel_rfl) ?_
           refine X.back ⟨trivial, ((((((hG24.trans hG25).trans hG26).trans hG27).trans hG28).trans hG29).trans hG30).le, rfl, ?_⟩
           refine XD.done (by kernel_rfl) ?_
           refine Rb 2 (Qc B39 62) 1 [Qs B39 63] [] [] [(4, ⟨31, [I1 (IntKind.u16.wrap (numB ys11)), I1 (IntKind.u16.wrap (numB ys12)), I3 (numB ys13), I3 (numB ys14), I8 (IntKind.u8.wrap (Int.tdiv (b.getD 12 0) 16)), I8 0, I8 (Int.tmod (b.getD 13 0) 64), I1 (IntKind.u16.wrap (numB ys21)), I1 (IntKind.u16.wrap (numB ys22)), I1 (IntKind.u16.wrap (numB ys23))]⟩)] [] ?_
           have hb_d31 := hb
           have hr11_d31 := hr11
           have hr12_d31 := hr12
           have hr13_d31 := hr13
           have hr14_d31 := hr14
           have hr21_d31 := hr21
           have hr22_d31 := hr22
           have hr23_d31 := hr23
           refine Oh 6 B39 62 12 [] [] [] trivial Mt (fun ρ0 => ?_)
           refine Tk 0 12 1 B39 62 (VL A b.length c) QOk.ctxG ?_
           have b32 : (0 : Int) ≤ 12 := by omega
           have b33 : 12 < ((b.length : Nat) : Int) := by omega
           obtain ⟨at34, lo34, hi34⟩ := At.int [] hb_d31 12 (by omega)
           simp only [IntKind.lo, IntKind.hi] at lo34 hi34
           refine Dx 1 12 3 B39 62 22 5 1 A b.length c .i64 12 (.tmp 57) (.const (N6 12)) QOk.ctxG b32 b33 (fun _ _ => rowAt.so hb_d31 (by omega)) ?_
           refine Dl 2 12 7 B39 62 5 A (12 * 1) (.tmp 58) (N8 (b.getD 12 0)) [N8 (b.getD 12 0)] QOk.ctxG at34 ?_
           refine Tk 3 12 15 B39 62 (I8 (Int.tmod (b.getD 12 0) 2)) QOk.ctxG ?_
           refine Tk 4 12 31 B39 62 (I8 (IntKind.u8.wrap ((Int.tmod (b.getD 12 0) 2) * 4))) QOk.ctxG ?_
           refine Tk 5 12 63 B39 62 (VL A b.length c) QOk.ctxG ?_
           have b35 : (0 : Int) ≤ 13 := by omega
           have b36 : 13 < ((b.length : Nat) : Int) := by omega
           obtain ⟨at37, lo37, hi37⟩ := At.int [] hb_d31 13 (by omega)
           simp only [IntKind.lo, IntKind.hi] at lo37 hi37
           refine Dx 6 12 127 B39 62 22 5 1 A b.length c .i64 13 (.tmp 62) (.const (N6 13)) QOk.ctxG b35 b36 (fun _ _ => rowAt.so hb_d31 (by omega)) ?_
           refine Dl 7 12 255 B39 62 5 A (13 * 1) (.tmp 63) (N8 (b.getD 13 0)) [N8 (b.getD 13 0)] QOk.ctxG at37 ?_
           refine Td [8, 9, 10] 12 2047 1 QOk.ctxG [(66, I8 (IntKind.u8.wrap ((IntKind.u8.wrap ((Int.tmod (b.getD 12 0) 2) * 4)) + (IntKind.u8.wrap (Int.tdiv (b.getD 13 0) 64))))), (67, .own 4 5)] trivial ?_
           refine Do 11 12 4095 B39 62 ?_
           refine X.simple (by kernel_rfl) ?_
           refine X.back ⟨trivial, Le.refl _, rfl, ?_⟩
           refine XD.done (by kernel_rfl) ?_
           refine Rn 9 (.ex .ret) [] ⟨69, [(2, .own 2 0), (3, I6 0)], [(2, ⟨31, [I1 (IntKind.u16.wrap (numB ys11)), I1 (IntKind.u16.wrap (numB ys12)), I3 (numB ys13), I3 (numB ys14), I8 (IntKind.u8.wrap (Int.tdiv (b.getD 12 0) 16)), I8 (IntKind.u8.wrap ((IntKind.u8.wrap ((Int.tmod (b.getD 12 0) 2) * 4)) + (IntKind.u8.wrap (Int.tdiv (b.getD 13 0) 64)))), I8 (Int.tmod (b.getD 13 0) 64), I1 (IntKind.u16.wrap (numB ys21)), I1 (IntKind.u16.wrap (numB ys22)), I1 (IntKind.u16.wrap (numB ys23))]⟩)]⟩ ?_
           refine Dg (.inl rfl) [.agg #[N1 (IntKind.u16.wrap (numB ys11)), N1 (IntKind.u16.wrap (numB ys12)), N3 (numB ys13), N3 (numB ys14), N8 (IntKind.u8.wrap (Int.tdiv (b.getD 12 0) 16)), N8 (IntKind.u8.wrap ((IntKind.u8.wrap ((Int.tmod (b.getD 12 0) 2) * 4)) + (IntKind.u8.wrap (Int.tdiv (b.getD 13 0) 64)))), N8 (Int.tmod (b.getD 13 0) 64), N1 (IntKind.u16.wrap (numB ys21)), N1 (IntKind.u16.wrap (numB ys22)), N1 (IntKind.u16.wrap (numB ys23))], N6 0] [] rfl (((((((hG24.trans hG25).trans hG26).trans hG27).trans hG28).trans hG29).trans hG30)) ?_
           subst hys11 hys12 hys13 hys14 hys21 hys22 hys23
           exact ⟨fun h => absurd h (by omega), fun h => absurd h.2 (by intro hh; rcases hh with hh | hh <;> contradiction), fun _ => rfl, rfl⟩
          ·
           refine X.simple (by kernel_rfl) ?_
           refine X.back ⟨trivial, (((((hG24.trans hG25).trans hG26).trans hG27).trans hG28).trans hG29).le, rfl, ?_⟩
           refine Dn ⟨69, [(0, VL A b.length c), (2, .own 2 0), (3, I6 0), (4, .own 4 0), (25, I1 (IntKind.u16.wrap (numB ys11))), (29, I1 (IntKind.u16.wrap (numB ys12))), (32, I3 (numB ys13)), (35, I3 (numB ys14)), (39, I8 (IntKind.u8.wrap (Int.tdiv (b.getD 12 0) 16))), (43, I8 (Int.tmod (b.getD 13 0) 64)), (47, I1 (IntKind.u16.wrap (numB ys21))), (51, I1 (IntKind.u16.wrap (numB ys22))), (53, VL A23 ys23.length (c - 18))], [(2, ⟨31, [I1 0, I1 0, I3 0, I3 0, I8 0, I8 0, I8 0, I1 0, I1 0, I1 0]⟩), (4, ⟨31, [I1 0, I1 0, I3 0, I3 0, I8 0, I8 0, I8 0, I1 0, I1 0, I1 0]⟩)]⟩ trivial ?_
           refine Do 32 37 42949672959 B39 30 ?_
           refine Cg 101 [.slice A23 ys23.length (c - 18)] 0 (num_ok _ _ ys23 _ hr23 hc23 hm23 (by omega)) ?_
           rintro v38 G38 rows38 hG38 ⟨rfl, rfl⟩
           replace hb := hb.mono hG38.le
           replace hr11 := hr11.mono hG38.le
           replace hr12 := hr12.mono hG38.le
           replace hr13 := hr13.mono hG38.le
           replace hr14 := hr14.mono hG38.le
           replace hr21 := hr21.mono hG38.le
           replace hr22 := hr22.mono hG38.le
           replace hr23 := hr23.mono hG38.le
           refine X.back ⟨trivial, ((((((hG24.trans hG25).trans hG26).trans hG27).trans hG28).trans hG29).trans hG38).le, rfl, ?_⟩
           refine Td [33, 34] 37 68719476735 1 QOk.ctxG [(56, .v (.agg #[N1 (IntKind.u16.wrap (numB ys11)), N1 (IntKind.u16.wrap (numB ys12)), N3 (numB ys13), N3 (numB ys14), N8 (IntKind.u8.wrap (Int.tdiv (b.getD 12 0) 16)), N8 0, N8 (Int.tmod (b.getD 13 0) 64), N1 (IntKind.u16.wrap (numB ys21)), N1 (IntKind.u16.wrap (numB ys22)), N1 (IntKind.u16.wrap (numB ys23))]))] trivial ?_
           refine Do 36 37 137438953471 B39 30 ?_
           refine X.simple (by kernel_rfl) ?_
           refine X.back ⟨trivial, ((((((hG24.trans hG25).trans hG26).trans hG27).trans hG28).trans hG29).trans hG38).le, rfl, ?_⟩
           refine XD.done (by kernel_rfl) ?_
           refine Rn 2 (Qc B39 62) [Qs B39 63] ⟨69, [(0, VL A b.length c), (2, .own 2 0), (3, I6 0), (4, .own 4 0)], [(2, ⟨31, [I1 0, I1 0, I3 0, I3 0, I8 0, I8 0, I8 0, I1 0, I1 0, I1 0]⟩), (4, ⟨31, [I1 (IntKind.u16.wrap (numB ys11)), I1 (IntKind.u16.wrap (numB ys12)), I3 (numB ys13), I3 (numB ys14), I8 (IntKind.u8.wrap (Int.tdiv (b.getD 12 0) 16)), I8 0, I8 (Int.tmod (b.getD 13 0) 64), I1 (IntKind.u16.wrap (numB ys21)), I1 (IntKind.u16.wrap (numB ys22)), I1 (IntKind.u16.wrap (numB ys23))]⟩)]⟩ ?_
           have hb_d39 := hb
           have hr11_d39 := hr11
           have hr12_d39 := hr12
           have hr13_d39 := hr13
           have hr14_d39 := hr14
           have hr21_d39 := hr21
           have hr22_d39 := hr22
           have hr23_d39 := hr23
           refine Oh 6 B39 62 12 [] [] [] trivial Mt (fun ρ0 => ?_)
           refine Tk 0 12 1 B39 62 (VL A b.length c) QOk.ctxG ?_
           have b40 : (0 : Int) ≤ 12 := by omega
           have b41 : 12 < ((b.length : Nat) : Int) := by omega
           obtain ⟨at42, lo42, hi42⟩ := At.int [] hb_d39 12 (by omega)
           simp only [IntKind.lo, IntKind.hi] at lo42 hi42
           refine Dx 1 12 3 B39 62 22 5 1 A b.length c .i64 12 (.tmp 57) (.const (N6 12)) QOk.ctxG b40 b41 (fun _ _ => rowAt.so hb_d39 (by omega)) ?_
           refine Dl 2 12 7 B39 62 5 A (12 * 1) (.tmp 58) (N8 (b.getD 12 0)) [N8 (b.getD 12 0)] QOk.ctxG at42 ?_
           refine Tk 3 12 15 B39 62 (I8 (Int.tmod (b.getD 12 0) 2)) QOk.ctxG ?_
           refine Tk 4 12 31 B39 62 (I8 (IntKind.u8.wrap ((Int.tmod (b.getD 12 0) 2) * 4))) QOk.ctxG ?_
           refine Tk 5 12 63 B39 62 (VL A b.length c) QOk.ctxG ?_
           have b43 : (0 : Int) ≤ 13 := by omega
           have b44 : 13 < ((b.length : Nat) : Int) := by omega
           obtain ⟨at45, lo45, hi45⟩ := At.int [] hb_d39 13 (by omega)
           simp only [IntKind.lo, IntKind.hi] at lo45 hi45
           refine Dx 6 12 127 B39 62 22 5 1 A b.length c .i64 13 (.tmp 62) (.const (N6 13)) QOk.ctxG b43 b44 (fun _ _ => rowAt.so hb_d39 (by omega)) ?_
           refine Dl 7 12 255 B39 62 5 A (13 * 1) (.tmp 63) (N8 (b.getD 13 0)) [N8 (b.getD 13 0)] QOk.ctxG at45 ?_
           refine Td [8, 9, 10] 12 2047 1 QOk.ctxG [(66, I8 (IntKind.u8.wrap ((IntKind.u8.wrap ((Int.tmod (b.getD 12 0) 2) * 4)) + (IntKind.u8.wrap (Int.tdiv (b.getD 13 0) 64))))), (67, .own 4 5)] trivial ?_
           refine Do 11 12 4095 B39 62 ?_
           refine X.simple (by kernel_rfl) ?_
           refine X.back ⟨trivial, Le.refl _, rfl, ?_⟩
           refine XD.done (by kernel_rfl) ?_
           refine Rn 9 (.ex .ret) [] ⟨69, [(2, .own 2 0), (3, I6 0)], [(2, ⟨31, [I1 (IntKind.u16.wrap (numB ys11)), I1 (IntKind.u16.wrap (numB ys12)), I3 (numB ys13), I3 (numB ys14), I8 (IntKind.u8.wrap (Int.tdiv (b.getD 12 0) 16)), I8 (IntKind.u8.wrap ((IntKind.u8.wrap ((Int.tmod (b.getD 12 0) 2) * 4)) + (IntKind.u8.wrap (Int.tdiv (b.getD 13 0) 64)))), I8 (Int.tmod (b.getD 13 0) 64), I1 (IntKind.u16.wrap (numB ys21)), I1 (IntKind.u16.wrap (numB ys22)), I1 (IntKind.u16.wrap (numB ys23))]⟩)]⟩ ?_
           refine Dg (.inl rfl) [.agg #[N1 (IntKind.u16.wrap (numB ys11)), N1 (IntKind.u16.wrap (numB ys12)), N3 (numB ys13), N3 (numB ys14), N8 (IntKind.u8.wrap (Int.tdiv (b.getD 12 0) 16)), N8 (IntKind.u8.wrap ((IntKind.u8.wrap ((Int.tmod (b.getD 12 0) 2) * 4)) + (IntKind.u8.wrap (Int.tdiv (b.getD 13 0) 64)))), N8 (Int.tmod (b.getD 13 0) 64), N1 (IntKind.u16.wrap (numB ys21)), N1 (IntKind.u16.wrap (numB ys22)), N1 (IntKind.u16.wrap (numB ys23))], N6 0] [] rfl (((((((hG24.trans hG25).trans hG26).trans hG27).trans hG28).trans hG29).trans hG38)) ?_
           subst hys11 hys12 hys13 hys14 hys21 hys22 hys23
           exact ⟨fun h => absurd h (by omega), fun h => absurd h.2 (by intro hh; rcases hh with hh | hh <;> contradiction), fun _ => rfl, rfl⟩
         ·
          refine X.simple (by kernel_rfl) ?_
          refine X.back ⟨trivial, ((((hG24.trans hG25).trans hG26).trans hG27).trans hG28).le, rfl, ?_⟩
          refine Dn ⟨69, [(0, VL A b.length c), (2, .own 2 0), (3, I6 0), (4, .own 4 0), (25, I1 (IntKind.u16.wrap (numB ys11))), (29, I1 (IntKind.u16.wrap (numB ys12))), (32, I3 (numB ys13)), (35, I3 (numB ys14)), (39, I8 (IntKind.u8.wrap (Int.tdiv (b.getD 12 0) 16))), (43, I8 (Int.tmod (b.getD 13 0) 64)), (47, I1 (IntKind.u16.wrap (numB ys21))), (49, VL A22 ys22.length (c - 16)), (53, VL A23 ys23.length (c - 18))], [(2, ⟨31, [I1 0, I1 0, I3 0, I3 0, I8 0, I8 0, I8 0, I1 0, I1 0, I1 0]⟩), (4, ⟨31, [I1 0, I1 0, I3 0, I3 0, I8 0, I8 0, I8 0, I1 0, I1 0, I1 0]⟩)]⟩ trivial ?_
          refine Do 28 37 38117834751 B39 30 ?_
          refine Cg 101 [.slice A22 ys22.length (c - 16)] 0 (num_ok _ _ ys22 _ hr22 hc22 hm22 (by omega)) ?_
          rintro v46 G46 rows46 hG46 ⟨rfl, rfl⟩
          replace hb := hb.mono hG46.le
          replace hr11 := hr11.mono hG46.le
          replace hr12 := hr12.mono hG46.le
          replace hr13 := hr13.mono hG46.le
          replace hr14 := hr14.mono hG46.le
          replace hr21 := hr21.mono hG46.le
          replace hr22 := hr22.mono hG46.le
          replace hr23 := hr23.mono hG46.le
          refine X.back ⟨trivial, (((((hG24.trans hG25).trans hG26).trans hG27).trans hG28).trans hG46).le, rfl, ?_⟩
          refine Td [29] 37 38654705663 4 QOk.ctxG [(51, I1 (IntKind.u16.wrap (numB ys22)))] trivial ?_
          refine Do 32 37 42949672959 B39 30 ?_
          refine Cg 101 [.slice A23 ys23.length (c - 18)] 0 (num_ok _ _ ys23 _ hr23 hc23 hm23 (by omega)) ?_
          rintro v47 G47 rows47 hG47 ⟨rfl, rfl⟩
          replace hb := hb.mono hG47.le
          replace hr11 := hr11.mono hG47.le
          replace hr12 := hr12.mono hG47.le
          replace hr13 := hr13.mono hG47.le
          replace hr14 := hr14.mono hG47.le
          replace hr21 := hr21.mono hG47.le
          replace hr22 := hr22.mono hG47.le
          replace hr23 := hr23.mono hG47.le
          refine X.back ⟨trivial, ((((((hG24.trans hG25).trans hG26).trans hG27).trans hG28).trans hG46).trans hG47).le, rfl, ?_⟩
          refine Td [33, 34] 37 68719476735 1 QOk.ctxG [(56, .v (.agg #[N1 (IntKind.u16.wrap (numB ys11)), N1 (IntKind.u16.wrap (numB ys12)), N3 (numB ys13), N3 (numB ys14), N8 (IntKind.u8.wrap (Int.tdiv (b.getD 12 0) 16)), N8 0, N8 (Int.tmod (b.getD 13 0) 64), N1 (IntKind.u16.wrap (numB ys21)), N1 (IntKind.u16.wrap (numB ys22)), N1 (IntKind.u16.wrap (numB ys23))]))] trivial ?_
          refine Do 36 37 137438953471 B39 30 ?_
          refine X.simple (by kernel_rfl) ?_
          refine X.back ⟨trivial, ((((((hG24.trans hG25).trans hG26).trans hG27).trans hG28).trans hG46).trans hG47).le, rfl, ?_⟩
          refine XD.done (by kernel_rfl) ?_
          refine Rn 2 (Qc B39 62) [Qs B39 63] ⟨69, [(0, VL A b.length c), (2, .own 2 0), (3, I6 0), (4, .own 4 0)], [(2, ⟨31, [I1 0, I1 0, I3 0, I3 0, I8 0, I8 0, I8 0, I1 0, I1 0, I1 0]⟩), (4, ⟨31, [I1 (IntKind.u16.wrap (numB ys11)), I1 (IntKind.u16.wrap (numB ys12)), I3 (numB ys13), I3 (numB ys14), I8 (IntKind.u8.wrap (Int.tdiv (b.getD 12 0) 16)), I8 0, I8 (Int.tmod (b.getD 13 0) 64), I1 (IntKind.u16.wrap (numB ys21)), I1 (IntKind.u16.wrap (numB ys22)), I1 (IntKind.u16.wrap (numB ys23))]⟩)]⟩ ?_
          have hb_d48 := hb
          have hr11_d48 := hr11
          have hr12_d48 := hr12
          have hr13_d48 := hr13
          have hr14_d48 := hr14
          have hr21_d48 := hr21
          have hr22_d48 := hr22
          have hr23_d48 := hr23
          refine Oh 6 B39 62 12 [] [] [] trivial Mt (fun ρ0 => ?_)
          refine Tk 0 12 1 B39 62 (VL A b.length c) QOk.ctxG ?_
          have b49 : (0 : Int) ≤ 12 := by omega
          have b50 : 12 < ((b.length : Nat) : Int) := by omega
          obtain ⟨at51, lo51, hi51⟩ := At.int [] hb_d48 12 (by omega)
          simp only [IntKind.lo, IntKind.hi] at lo51 hi51
          refine Dx 1 12 3 B39 62 22 5 1 A b.length c .i64 12 (.tmp 57) (.const (N6 12)) QOk.ctxG b49 b50 (fun _ _ => rowAt.so hb_d48 (by omega)) ?_
          refine Dl 2 12 7 B39 62 5 A (12 * 1) (.tmp 58) (N8 (b.getD 12 0)) [N8 (b.getD 12 0)] QOk.ctxG at51 ?_
          refine Tk 3 12 15 B39 62 (I8 (Int.tmod (b.getD 12 0) 2)) QOk.ctxG ?_
          refine Tk 4 12 31 B39 62 (I8 (IntKind.u8.wrap ((Int.tmod (b.getD 12 0) 2) * 4))) QOk.ctxG ?_
          refine Tk 5 12 63 B39 62 (VL A b.length c) QOk.ctxG ?_
          have b52 : (0 : Int) ≤ 13 := by omega
          have b53 : 13 < ((b.length : Nat) : Int) := by omega
          obtain ⟨at54, lo54, hi54⟩ := At.int [] hb_d48 13 (by omega)
          simp only [IntKind.lo, IntKind.hi] at lo54 hi54
          refine Dx 6 12 127 B39 62 22 5 1 A b.length c .i64 13 (.tmp 62) (.const (N6 13)) QOk.ctxG b52 b53 (fun _ _ => rowAt.so hb_d48 (by omega)) ?_
          refine Dl 7 12 255 B39 62 5 A (13 * 1) (.tmp 63) (N8 (b.getD 13 0)) [N8 (b.getD 13 0)] QOk.ctxG at54 ?_
          refine Td [8, 9, 10] 12 2047 1 QOk.ctxG [(66, I8 (IntKind.u8.wrap ((IntKind.u8.wrap ((Int.tmod (b.getD 12 0) 2) * 4)) + (IntKind.u8.wrap (Int.tdiv (b.getD 13 0) 64))))), (67, .own 4 5)] trivial ?_
          refine Do 11 12 4095 B39 62 ?_
          refine X.simple (by kernel_rfl) ?_
          refine X.back ⟨trivial, Le.refl _, rfl, ?_⟩
          refine XD.done (by kernel_rfl) ?_
          refine Rn 9 (.ex .ret) [] ⟨69, [(2, .own 2 0), (3, I6 0)], [(2, ⟨31, [I1 (IntKind.u16.wrap (numB ys11)), I1 (IntKind.u16.wrap (numB ys12)), I3 (numB ys13), I3 (numB ys14), I8 (IntKind.u8.wrap (Int.tdiv (b.getD 12 0) 16)), I8 (IntKind.u8.wrap ((IntKind.u8.wrap ((Int.tmod (b.getD 12 0) 2) * 4)) + (IntKind.u8.wrap (Int.tdiv (b.getD 13 0) 64)))), I8 (Int.tmod (b.getD 13 0) 64), I1 (IntKind.u16.wrap (numB ys21)), I1 (IntKind.u16.wrap (numB ys22)), I1 (IntKind.u16.wrap (numB ys23))]⟩)]⟩ ?_
          refine Dg (.inl rfl) [.agg #[N1 (IntKind.u16.wrap (numB ys11)), N1 (IntKind.u16.wrap (numB ys12)), N3 (numB ys13), N3 (numB ys14), N8 (IntKind.u8.wrap (Int.tdiv (b.getD 12 0) 16)), N8 (IntKind.u8.wrap ((IntKind.u8.wrap ((Int.tmod (b.getD 12 0) 2) * 4)) + (IntKind.u8.wrap (Int.tdiv (b.getD 13 0) 64)))), N8 (Int.tmod (b.getD 13 0) 64), N1 (IntKind.u16.wrap (numB ys21)), N1 (IntKind.u16.wrap (numB ys22)), N1 (IntKind.u16.wrap (numB ys23))], N6 0] [] rfl (((((((hG24.trans hG25).trans hG26).trans hG27).trans hG28).trans hG46).trans hG47)) ?_
          subst hys11 hys12 hys13 hys14 hys21 hys22 hys23
          exact ⟨fun h => absurd h (by omega), fun h => absurd h.2 (by intro hh; rcases hh with hh | hh <;> contradiction), fun _ => rfl, rfl⟩
        ·
         refine X.simple (by kernel_rfl) ?_
         refine X.back ⟨trivial, (((hG24.trans hG25).trans hG26).trans hG27).le, rfl, ?_⟩
         refine Do 24 37 37815844863 B39 30 ?_
         refine Cg 101 [.slice A21 ys21.length (c - 14)] 0 (num_ok _ _ ys21 _ hr21 hc21 hm21 (by omega)) ?_
         rintro v55 G55 rows55 hG55 ⟨rfl, rfl⟩
         replace hb := hb.mono hG55.le
         replace hr11 := hr11.mono hG55.le
         replace hr12 := hr12.mono hG55.le
         replace hr13 := hr13.mono hG55.le
         replace hr14 := hr14.mono hG55.le
         replace hr21 := hr21.mono hG55.le
         replace hr22 := hr22.mono hG55.le
         replace hr23 := hr23.mono hG55.le
         refine X.back ⟨trivial, ((((hG24.trans hG25).trans hG26).trans hG27).trans hG55).le, rfl, ?_⟩
         refine Ts [25] 37 37849399295 6 7 QOk.ctxG ?_
         refine Dn ⟨69, [(0, VL A b.length c), (2, .own 2 0), (3, I6 0), (4, .own 4 0), (25, I1 (IntKind.u16.wrap (numB ys11))), (29, I1 (IntKind.u16.wrap (numB ys12))), (32, I3 (numB ys13)), (35, I3 (numB ys14)), (39, I8 (IntKind.u8.wrap (Int.tdiv (b.getD 12 0) 16))), (43, I8 (Int.tmod (b.getD 13 0) 64)), (47, I1 (IntKind.u16.wrap (numB ys21))), (49, VL A22 ys22.length (c - 16)), (53, VL A23 ys23.length (c - 18))], [(2, ⟨31, [I1 0, I1 0, I3 0, I3 0, I8 0, I8 0, I8 0, I1 0, I1 0, I1 0]⟩), (4, ⟨31, [I1 0, I1 0, I3 0, I3 0, I8 0, I8 0, I8 0, I1 0, I1 0, I1 0]⟩)]⟩ trivial ?_
         refine Do 28 37 38117834751 B39 30 ?_
         refine Cg 101 [.slice A22 ys22.length (c - 16)] 0 (num_ok _ _ ys22 _ hr22 hc22 hm22 (by omega)) ?_
         rintro v56 G56 rows56 hG56 ⟨rfl, rfl⟩
         replace hb := hb.mono hG56.le
         replace hr11 := hr11.mono hG56.le
         replace hr12 := hr12.mono hG56.le
         replace hr13 := hr13.mono hG56.le
         replace hr14 := hr14.mono hG56.le
         replace hr21 := hr21.mono hG56.le
         replace hr22 := hr22.mono hG56.le
         replace hr23 := hr23.mono hG56.le
         refine X.back ⟨trivial, (((((hG24.trans hG25).trans hG26).trans hG27).trans hG55).trans hG56).le, rfl, ?_⟩
         refine Td [29] 37 38654705663 4 QOk.ctxG [(51, I1 (IntKind.u16.wrap (numB ys22)))] trivial ?_
         refine Do 32 37 42949672959 B39 30 ?_
         refine Cg 101 [.slice A23 ys23.length (c - 18)] 0 (num_ok _ _ ys23 _ hr23 hc23 hm23 (by omega)) ?_
         rintro v57 G57 rows57 hG57 ⟨rfl, rfl⟩
         replace hb := hb.mono hG57.le
         replace hr11 := hr11.mono hG57.le
         replace hr12 := hr12.mono hG57.le
         replace hr13 := hr13.mono hG57.le
         replace hr14 := hr14.mono hG57.le
         replace hr21 := hr21.mono hG57.le
         replace hr22 := hr22.mono hG57.le
         replace hr23 := hr23.mono hG57.le
         refine X.back ⟨trivial, ((((((hG24.trans hG25).trans hG26).trans hG27).trans hG55).trans hG56).trans hG57).le, rfl, ?_⟩
         refine Td [33, 34] 37 68719476735 1 QOk.ctxG [(56, .v (.agg #[N1 (IntKind.u16.wrap (numB ys11)), N1 (IntKind.u16.wrap (numB ys12)), N3 (numB ys13), N3 (numB ys14), N8 (IntKind.u8.wrap (Int.tdiv (b.getD 12 0) 16)), N8 0, N8 (Int.tmod (b.getD 13 0) 64), N1 (IntKind.u16.wrap (numB ys21)), N1 (IntKind.u16.wrap (numB ys22)), N1 (IntKind.u16.wrap (numB ys23))]))] trivial ?_
         refine Do 36 37 137438953471 B39 30 ?_
         refine X.simple (by kernel_rfl) ?_
         refine X.back ⟨trivial, ((((((hG24.trans hG25).trans hG26).trans hG27).trans hG55).trans hG56).trans hG57).le, rfl, ?_⟩
         refine XD.done (by kernel_rfl) ?_
         refine Rn 2 (Qc B39 62) [Qs B39 63] ⟨69, [(0, VL A b.length c), (2, .own 2 0), (3, I6 0), (4, .own 4 0)], [(2, ⟨31, [I1 0, I1 0, I3 0, I3 0, I8 0, I8 0, I8 0, I1 0, I1 0, I1 0]⟩), (4, ⟨31, [I1 (IntKind.u16.wrap (numB ys11)), I1 (IntKind.u16.wrap (numB ys12)), I3 (numB ys13), I3 (numB ys14), I8 (IntKind.u8.wrap (Int.tdiv (b.getD 12 0) 16)), I8 0, I8 (Int.tmod (b.getD 13 0) 64), I1 (IntKind.u16.wrap (numB ys21)), I1 (IntKind.u16.wrap (numB ys22)), I1 (IntKind.u16.wrap (numB ys23))]⟩)]⟩ ?_
         have hb_d58 := hb
         have hr11_d58 := hr11
         have hr12_d58 := hr12
         have hr13_d58 := hr13
         have hr14_d58 := hr14
         have hr21_d58 := hr21
         have hr22_d58 := hr22
         have hr23_d58 := hr23
         refine Oh 6 B39 62 12 [] [] [] trivial Mt (fun ρ0 => ?_)
         refine Tk 0 12 1 B39 62 (VL A b.length c) QOk.ctxG ?_
         have b59 : (0 : Int) ≤ 12 := by omega
         have b60 : 12 < ((b.length : Nat) : Int) := by omega
         obtain ⟨at61, lo61, hi61⟩ := At.int [] hb_d58 12 (by omega)
         simp only [IntKind.lo, IntKind.hi] at lo61 hi61
         refine Dx 1 12 3 B39 62 22 5 1 A b.length c .i64 12 (.tmp 57) (.const (N6 12)) QOk.ctxG b59 b60 (fun _ _ => rowAt.so hb_d58 (by omega)) ?_
         refine Dl 2 12 7 B39 62 5 A (12 * 1) (.tmp 58) (N8 (b.getD 12 0)) [N8 (b.getD 12 0)] QOk.ctxG at61 ?_
         refine Tk 3 12 15 B39 62 (I8 (Int.tmod (b.getD 12 0) 2)) QOk.ctxG ?_
         refine Tk 4 12 31 B39 62 (I8 (IntKind.u8.wrap ((Int.tmod (b.getD 12 0) 2) * 4))) QOk.ctxG ?_
         refine Tk 5 12 63 B39 62 (VL A b.length c) QOk.ctxG ?_
         have b62 : (0 : Int) ≤ 13 := by omega
         have b63 : 13 < ((b.length : Nat) : Int) := by omega
         obtain ⟨at64, lo64, hi64⟩ := At.int [] hb_d58 13 (by omega)
         simp only [IntKind.lo, IntKind.hi] at lo64 hi64
         refine Dx 6 12 127 B39 62 22 5 1 A b.length c .i64 13 (.tmp 62) (.const (N6 13)) QOk.ctxG b62 b63 (fun _ _ => rowAt.so hb_d58 (by omega)) ?_
         refine Dl 7 12 255 B39 62 5 A (13 * 1) (.tmp 63) (N8 (b.getD 13 0)) [N8 (b.getD 13 0)] QOk.ctxG at64 ?_
         refine Td [8, 9, 10] 12 2047 1 QOk.ctxG [(66, I8 (IntKind.u8.wrap ((IntKind.u8.wrap ((Int.tmod (b.getD 12 0) 2) * 4)) + (IntKind.u8.wrap (Int.tdiv (b.getD 13 0) 64))))), (67, .own 4 5)] trivial ?_
         refine Do 11 12 4095 B39 62 ?_
         refine X.simple (by kernel_rfl) ?_
         refine X.back ⟨trivial, Le.refl _, rfl, ?_⟩
         refine XD.done (by kernel_rfl) ?_
         refine Rn 9 (.ex .ret) [] ⟨69, [(2, .own 2 0), (3, I6 0)], [(2, ⟨31, [I1 (IntKind.u16.wrap (numB ys11)), I1 (IntKind.u16.wrap (numB ys12)), I3 (numB ys13), I3 (numB ys14), I8 (IntKind.u8.wrap (Int.tdiv (b.getD 12 0) 16)), I8 (IntKind.u8.wrap ((IntKind.u8.wrap ((Int.tmod (b.getD 12 0) 2) * 4)) + (IntKind.u8.wrap (Int.tdiv (b.getD 13 0) 64)))), I8 (Int.tmod (b.getD 13 0) 64), I1 (IntKind.u16.wrap (numB ys21)), I1 (IntKind.u16.wrap (numB ys22)), I1 (IntKind.u16.wrap (numB ys23))]⟩)]⟩ ?_
         refine Dg (.inl rfl) [.agg #[N1 (IntKind.u16.wrap (numB ys11)), N1 (IntKind.u16.wrap (numB ys12)), N3 (numB ys13), N3 (numB ys14), N8 (IntKind.u8.wrap (Int.tdiv (b.getD 12 0) 16)), N8 (IntKind.u8.wrap ((IntKind.u8.wrap ((Int.tmod (b.getD 12 0) 2) * 4)) + (IntKind.u8.wrap (Int.tdiv (b.getD 13 0) 64)))), N8 (Int.tmod (b.getD 13 0) 64), N1 (IntKind.u16.wrap (numB ys21)), N1 (IntKind.u16.wrap (numB ys22)), N1 (IntKind.u16.wrap (numB ys23))], N6 0] [] rfl (((((((hG24.trans hG25).trans hG26).trans hG27).trans hG55).trans hG56).trans hG57)) ?_
         subst hys11 hys12 hys13 hys14 hys21 hys22 hys23
         exact ⟨fun h => absurd h (by omega), fun h => absurd h.2 (by intro hh; rcases hh with hh | hh <;> contradiction), fun _ => rfl, rfl⟩
       ·
        refine X.simple (by kernel_rfl) ?_
        refine X.back ⟨trivial, ((hG24.trans hG25).trans hG26).le, rfl, ?_⟩
        refine Do 13 37 37799067647 B39 30 ?_
        refine Cg 101 [.slice A14 ys14.length (c - 8)] 0 (num_ok _ _ ys14 _ hr14 hc14 hm14 (by omega)) ?_
        rintro v65 G65 rows65 hG65 ⟨rfl, rfl⟩
        replace hb := hb.mono hG65.le
        replace hr11 := hr11.mono hG65.le
        replace hr12 := hr12.mono hG65.le
        replace hr13 := hr13.mono hG65.le
        replace hr14 := hr14.mono hG65.le
        replace hr21 := hr21.mono hG65.le
        replace hr22 := hr22.mono hG65.le
        replace hr23 := hr23.mono hG65.le
        refine X.back ⟨trivial, (((hG24.trans hG25).trans hG26).trans hG65).le, rfl, ?_⟩
        refine Do 24 37 37815844863 B39 30 ?_
        refine Cg 101 [.slice A21 ys21.length (c - 14)] 0 (num_ok _ _ ys21 _ hr21 hc21 hm21 (by omega)) ?_
        rintro v66 G66 rows66 hG66 ⟨rfl, rfl⟩
        replace hb := hb.mono hG66.le
        replace hr11 := hr11.mono hG66.le
        replace hr12 := hr12.mono hG66.le
        replace hr13 := hr13.mono hG66.le
        replace hr14 := hr14.mono hG66.le
        replace hr21 := hr21.mono hG66.le
        replace hr22 := hr22.mono hG66.le
        replace hr23 := hr23.mono hG66.le
        refine X.back ⟨trivial, ((((hG24.trans hG25).trans hG26).trans hG65).trans hG66).le, rfl, ?_⟩
        refine Ts [25] 37 37849399295 6 7 QOk.ctxG ?_
        refine Dn ⟨69, [(0, VL A b.length c), (2, .own 2 0), (3, I6 0), (4, .own 4 0), (25, I1 (IntKind.u16.wrap (numB ys11))), (29, I1 (IntKind.u16.wrap (numB ys12))), (32, I3 (numB ys13)), (35, I3 (numB ys14)), (39, I8 (IntKind.u8.wrap (Int.tdiv (b.getD 12 0) 16))), (43, I8 (Int.tmod (b.getD 13 0) 64)), (47, I1 (IntKind.u16.wrap (numB ys21))), (49, VL A22 ys22.length (c - 16)), (53, VL A23 ys23.length (c - 18))], [(2, ⟨31, [I1 0, I1 0, I3 0, I3 0, I8 0, I8 0, I8 0, I1 0, I1 0, I1 0]⟩), (4, ⟨31, [I1 0, I1 0, I3 0, I3 0, I8 0, I8 0, I8 0, I1 0, I1 0, I1 0]⟩)]⟩ trivial ?_
        refine Do 28 37 38117834751 B39 30 ?_
        refine Cg 101 [.slice A22 ys22.length (c - 16)] 0 (num_ok _ _ ys22 _ hr22 hc22 hm22 (by omega)) ?_
        rintro v67 G67 rows67 hG67 ⟨rfl, rfl⟩
        replace hb := hb.mono hG67.le
        replace hr11 := hr11.mono hG67.le
        replace hr12 := hr12.mono hG67.le
        replace hr13 := hr13.mono hG67.le
        replace hr14 := hr14.mono hG67.le
        replace hr21 := hr21.mono hG67.le
        replace hr22 := hr22.mono hG67.le
        replace hr23 := hr23.mono hG67.le
        refine X.back ⟨trivial, (((((hG24.trans hG25).trans hG26).trans hG65).trans hG66).trans hG67).le, rfl, ?_⟩
        refine Td [29] 37 38654705663 4 QOk.ctxG [(51, I1 (IntKind.u16.wrap (numB ys22)))] trivial ?_
        refine Do 32 37 42949672959 B39 30 ?_
        refine Cg 101 [.slice A23 ys23.length (c - 18)] 0 (num_ok _ _ ys23 _ hr23 hc23 hm23 (by omega)) ?_
        rintro v68 G68 rows68 hG68 ⟨rfl, rfl⟩
        replace hb := hb.mono hG68.le
        replace hr11 := hr11.mono hG68.le
        replace hr12 := hr12.mono hG68.le
        replace hr13 := hr13.mono hG68.le
        replace hr14 := hr14.mono hG68.le
        replace hr21 := hr21.mono hG68.le
        replace hr22 := hr22.mono hG68.le
        replace hr23 := hr23.mono hG68.le
        refine X.back ⟨trivial, ((((((hG24.trans hG25).trans hG26).trans hG65).trans hG66).trans hG67).trans hG68).le, rfl, ?_⟩
        refine Td [33, 34] 37 68719476735 1 QOk.ctxG [(56, .v (.agg #[N1 (IntKind.u16.wrap (numB ys11)), N1 (IntKind.u16.wrap (numB ys12)), N3 (numB ys13), N3 (numB ys14), N8 (IntKind.u8.wrap (Int.tdiv (b.getD 12 0) 16)), N8 0, N8 (Int.tmod (b.getD 13 0) 64), N1 (IntKind.u16.wrap (numB ys21)), N1 (IntKind.u16.wrap (numB ys22)), N1 (IntKind.u16.wrap (numB ys23))]))] trivial ?_
        refine Do 36 37 137438953471 B39 30 ?_
        refine X.simple (by kernel_rfl) ?_
        refine X.back ⟨trivial, ((((((hG24.trans hG25).trans hG26).trans hG65).trans hG66).trans hG67).trans hG68).le, rfl, ?_⟩
        refine XD.done (by kernel_rfl) ?_
        refine Rn 2 (Qc B39 62) [Qs B39 63] ⟨69, [(0, VL A b.length c), (2, .own 2 0), (3, I6 0), (4, .own 4 0)], [(2, ⟨31, [I1 0, I1 0, I3 0, I3 0, I8 0, I8 0, I8 0, I1 0, I1 0, I1 0]⟩), (4, ⟨31, [I1 (IntKind.u16.wrap (numB ys11)), I1 (IntKind.u16.wrap (numB ys12)), I3 (numB ys13), I3 (numB ys14), I8 (IntKind.u8.wrap (Int.tdiv (b.getD 12 0) 16)), I8 0, I8 (Int.tmod (b.getD 13 0) 64), I1 (IntKind.u16.wrap (numB ys21)), I1 (IntKind.u16.wrap (numB ys22)), I1 (IntKind.u16.wrap (numB ys23))]⟩)]⟩ ?_
        have hb_d69 := hb
        have hr11_d69 := hr11
        have hr12_d69 := hr12
        have hr13_d69 := hr13
        have hr14_d69 := hr14
        have hr21_d69 := hr21
        have hr22_d69 := hr22
        have hr23_d69 := hr23
        refine Oh 6 B39 62 12 [] [] [] trivial Mt (fun ρ0 => ?_)
        refine Tk 0 12 1 B39 62 (VL A b.length c) QOk.ctxG ?_
        have b70 : (0 : Int) ≤ 12 := by omega
        have b71 : 12 < ((b.length : Nat) : Int) := by omega
        obtain ⟨at72, lo72, hi72⟩ := At.int [] hb_d69 12 (by omega)
        simp only [IntKind.lo, IntKind.hi] at lo72 hi72
        refine Dx 1 12 3 B39 62 22 5 1 A b.length c .i64 12 (.tmp 57) (.const (N6 12)) QOk.ctxG b70 b71 (fun _ _ => rowAt.so hb_d69 (by omega)) ?_
        refine Dl 2 12 7 B39 62 5 A (12 * 1) (.tmp 58) (N8 (b.getD 12 0)) [N8 (b.getD 12 0)] QOk.ctxG at72 ?_
        refine Tk 3 12 15 B39 62 (I8 (Int.tmod (b.getD 12 0) 2)) QOk.ctxG ?_
        refine Tk 4 12 31 B39 62 (I8 (IntKind.u8.wrap ((Int.tmod (b.getD 12 0) 2) * 4))) QOk.ctxG ?_
        refine Tk 5 12 63 B39 62 (VL A b.length c) QOk.ctxG ?_
        have b73 : (0 : Int) ≤ 13 := by omega
        have b74 : 13 < ((b.length : Nat) : Int) := by omega
        obtain ⟨at75, lo75, hi75⟩ := At.int [] hb_d69 13 (by omega)
        simp only [IntKind.lo, IntKind.hi] at lo75 hi75
        refine Dx 6 12 127 B39 62 22 5 1 A b.length c .i64 13 (.tmp 62) (.const (N6 13)) QOk.ctxG b73 b74 (fun _ _ => rowAt.so hb_d69 (by omega)) ?_
        refine Dl 7 12 255 B39 62 5 A (13 * 1) (.tmp 63) (N8 (b.getD 13 0)) [N8 (b.getD 13 0)] QOk.ctxG at75 ?_
        refine Td [8, 9, 10] 12 2047 1 QOk.ctxG [(66, I8 (IntKind.u8.wrap ((IntKind.u8.wrap ((Int.tmod (b.getD 12 0) 2) * 4)) + (IntKind.u8.wrap (Int.tdiv (b.getD 13 0) 64))))), (67, .own 4 5)] trivial ?_
        refine Do 11 12 4095 B39 62 ?_
        refine X.simple (by kernel_rfl) ?_
        refine X.back ⟨trivial, Le.refl _, rfl, ?_⟩
        refine XD.done (by kernel_rfl) ?_
        refine Rn 9 (.ex .ret) [] ⟨69, [(2, .own 2 0), (3, I6 0)], [(2, ⟨31, [I1 (IntKind.u16.wrap (numB ys11)), I1 (IntKind.u16.wrap (numB ys12)), I3 (numB ys13), I3 (numB ys14), I8 (IntKind.u8.wrap (Int.tdiv (b.getD 12 0) 16)), I8 (IntKind.u8.wrap ((IntKind.u8.wrap ((Int.tmod (b.getD 12 0) 2) * 4)) + (IntKind.u8.wrap (Int.tdiv (b.getD 13 0) 64)))), I8 (Int.tmod (b.getD 13 0) 64), I1 (IntKind.u16.wrap (numB ys21)), I1 (IntKind.u16.wrap (numB ys22)), I1 (IntKind.u16.wrap (numB ys23))]⟩)]⟩ ?_
        refine Dg (.inl rfl) [.agg #[N1 (IntKind.u16.wrap (numB ys11)), N1 (IntKind.u16.wrap (numB ys12)), N3 (numB ys13), N3 (numB ys14), N8 (IntKind.u8.wrap (Int.tdiv (b.getD 12 0) 16)), N8 (IntKind.u8.wrap ((IntKind.u8.wrap ((Int.tmod (b.getD 12 0) 2) * 4)) + (IntKind.u8.wrap (Int.tdiv (b.getD 13 0) 64)))), N8 (Int.tmod (b.getD 13 0) 64), N1 (IntKind.u16.wrap (numB ys21)), N1 (IntKind.u16.wrap (numB ys22)), N1 (IntKind.u16.wrap (numB ys23))], N6 0] [] rfl (((((((hG24.trans hG25).trans hG26).trans hG65).trans hG66).trans hG67).trans hG68)) ?_
        subst hys11 hys12 hys13 hys14 hys21 hys22 hys23
        exact ⟨fun h => absurd h (by omega), fun h => absurd h.2 (by intro hh; rcases hh with hh | hh <;> contradiction), fun _ => rfl, rfl⟩
      ·
       refine X.simple (by kernel_rfl) ?_
       refine X.back ⟨trivial, (hG24.trans hG25).le, rfl, ?_⟩
       refine Dn ⟨69, [(0, VL A b.length c), (2, .own 2 0), (3, I6 0), (4, .own 4 0), (25, I1 (IntKind.u16.wrap (numB ys11))), (29, I1 (IntKind.u16.wrap (numB ys12))), (31, VL A13 ys13.length (c - 4)), (34, VL A14 ys14.length (c - 8)), (39, I8 (IntKind.u8.wrap (Int.tdiv (b.getD 12 0) 16))), (43, I8 (Int.tmod (b.getD 13 0) 64)), (45, VL A21 ys21.length (c - 14)), (49, VL A22 ys22.length (c - 16)), (53, VL A23 ys23.length (c - 18))], [(2, ⟨31, [I1 0, I1 0, I3 0, I3 0, I8 0, I8 0, I8 0, I1 0, I1 0, I1 0]⟩), (4, ⟨31, [I1 0, I1 0, I3 0, I3 0, I8 0, I8 0, I8 0, I1 0, I1 0, I1 0]⟩)]⟩ trivial ?_
       refine Do 10 37 37799059455 B39 30 ?_
       refine Cg 101 [.slice A13 ys13.length (c - 4)] 0 (num_ok _ _ ys13 _ hr13 hc13 hm13 (by omega)) ?_
       rintro v76 G76 rows76 hG76 ⟨rfl, rfl⟩
       replace hb := hb.mono hG76.le
       replace hr11 := hr11.mono hG76.le
       replace hr12 := hr12.mono hG76.le
       replace hr13 := hr13.mono hG76.le
       replace hr14 := hr14.mono hG76.le
       replace hr21 := hr21.mono hG76.le
       replace hr22 := hr22.mono hG76.le
       replace hr23 := hr23.mono hG76.le
       refine X.back ⟨trivial, ((hG24.trans hG25).trans hG76).le, rfl, ?_⟩
       refine Do 13 37 37799067647 B39 30 ?_
       refine Cg 101 [.slice A14 ys14.length (c - 8)] 0 (num_ok _ _ ys14 _ hr14 hc14 hm14 (by omega)) ?_
       rintro v77 G77 rows77 hG77 ⟨rfl, rfl⟩
       replace hb := hb.mono hG77.le
       replace hr11 := hr11.mono hG77.le
       replace hr12 := hr12.mono hG77.le
       replace hr13 := hr13.mono hG77.le
       replace hr14 := hr14.mono hG77.le
       replace hr21 := hr21.mono hG77.le
       replace hr22 := hr22.mono hG77.le
       replace hr23 := hr23.mono hG77.le
       refine X.back ⟨trivial, (((hG24.trans hG25).trans hG76).trans hG77).le, rfl, ?_⟩
       refine Do 24 37 37815844863 B39 30 ?_
       refine Cg 101 [.slice A21 ys21.length (c - 14)] 0 (num_ok _ _ ys21 _ hr21 hc21 hm21 (by omega)) ?_
       rintro v78 G78 rows78 hG78 ⟨rfl, rfl⟩
       replace hb := hb.mono hG78.le
       replace hr11 := hr11.mono hG78.le
       replace hr12 := hr12.mono hG78.le
       replace hr13 := hr13.mono hG78.le
       replace hr14 := hr14.mono hG78.le
       replace hr21 := hr21.mono hG78.le
       replace hr22 := hr22.mono hG78.le
       replace hr23 := hr23.mono hG78.le
       refine X.back ⟨trivial, ((((hG24.trans hG25).trans hG76).trans hG77).trans hG78).le, rfl, ?_⟩
       refine Td [25] 37 37849399295 6 QOk.ctxG [(47, I1 (IntKind.u16.wrap (numB ys21)))] trivial ?_
       refine Do 28 37 38117834751 B39 30 ?_
       refine Cg 101 [.slice A22 ys22.length (c - 16)] 0 (num_ok _ _ ys22 _ hr22 hc22 hm22 (by omega)) ?_
       rintro v79 G79 rows79 hG79 ⟨rfl, rfl⟩
       replace hb := hb.mono hG79.le
       replace hr11 := hr11.mono hG79.le
       replace hr12 := hr12.mono hG79.le
       replace hr13 := hr13.mono hG79.le
       replace hr14 := hr14.mono hG79.le
       replace hr21 := hr21.mono hG79.le
       replace hr22 := hr22.mono hG79.le
       replace hr23 := hr23.mono hG79.le
       refine X.back ⟨trivial, (((((hG24.trans hG25).trans hG76).trans hG77).trans hG78).trans hG79).le, rfl, ?_⟩
       refine Td [29] 37 38654705663 4 QOk.ctxG [(51, I1 (IntKind.u16.wrap (numB ys22)))] trivial ?_
       refine Do 32 37 42949672959 B39 30 ?_
       refine Cg 101 [.slice A23 ys23.length (c - 18)] 0 (num_ok _ _ ys23 _ hr23 hc23 hm23 (by omega)) ?_
       rintro v80 G80 rows80 hG80 ⟨rfl, rfl⟩
       replace hb := hb.mono hG80.le
       replace hr11 := hr11.mono hG80.le
       replace hr12 := hr12.mono hG80.le
       replace hr13 := hr13.mono hG80.le
       replace hr14 := hr14.mono hG80.le
       replace hr21 := hr21.mono hG80.le
       replace hr22 := hr22.mono hG80.le
       replace hr23 := hr23.mono hG80.le
       refine X.back ⟨trivial, ((((((hG24.trans hG25).trans hG76).trans hG77).trans hG78).trans hG79).trans hG80).le, rfl, ?_⟩
       refine Td [33, 34] 37 68719476735 1 QOk.ctxG [(56, .v (.agg #[N1 (IntKind.u16.wrap (numB ys11)), N1 (IntKind.u16.wrap (numB ys12)), N3 (numB ys13), N3 (numB ys14), N8 (IntKind.u8.wrap (Int.tdiv (b.getD 12 0) 16)), N8 0, N8 (Int.tmod (b.getD 13 0) 64), N1 (IntKind.u16.wrap (numB ys21)), N1 (IntKind.u16.wrap (numB ys22)), N1 (IntKind.u16.wrap (numB ys23))]))] trivial ?_
       refine Do 36 37 137438953471 B39 30 ?_
       refine X.simple (by kernel_rfl) ?_
       refine X.back ⟨trivial, ((((((hG24.trans hG25).trans hG76).trans hG77).trans hG78).trans hG79).trans hG80).le, rfl, ?_⟩
       refine XD.done (by kernel_rfl) ?_
       refine Rn 2 (Qc B39 62) [Qs B39 63] ⟨69, [(0, VL A b.length c), (2, .own 2 0), (3, I6 0), (4, .own 4 0)], [(2, ⟨31, [I1 0, I1 0, I3 0, I3 0, I8 0, I8 0, I8 0, I1 0, I1 0, I1 0]⟩), (4, ⟨31, [I1 (IntKind.u16.wrap (numB ys11)), I1 (IntKind.u16.wrap (numB ys12)), I3 (numB ys13), I3 (numB ys14), I8 (IntKind.u8.wrap (Int.tdiv (b.getD 12 0) 16)), I8 0, I8 (Int.tmod (b.getD 13 0) 64), I1 (IntKind.u16.wrap (numB ys21)), I1 (IntKind.u16.wrap (numB ys22)), I1 (IntKind.u16.wrap (numB ys23))]⟩)]⟩ ?_
       have hb_d81 := hb
       have hr11_d81 := hr11
       have hr12_d81 := hr12
       have hr13_d81 := hr13
       have hr14_d81 := hr14
       have hr21_d81 := hr21
       have hr22_d81 := hr22
       have hr23_d81 := hr23
       refine Oh 6 B39 62 12 [] [] [] trivial Mt (fun ρ0 => ?_)
       refine Tk 0 12 1 B39 62 (VL A b.length c) QOk.ctxG ?_
       have b82 : (0 : Int) ≤ 12 := by omega
       have b83 : 12 < ((b.length : Nat) : Int) := by omega
       obtain ⟨at84, lo84, hi84⟩ := At.int [] hb_d81 12 (by omega)
       simp only [IntKind.lo, IntKind.hi] at lo84 hi84
       refine Dx 1 12 3 B39 62 22 5 1 A b.length c .i64 12 (.tmp 57) (.const (N6 12)) QOk.ctxG b82 b83 (fun _ _ => rowAt.so hb_d81 (by omega)) ?_
       refine Dl 2 12 7 B39 62 5 A (12 * 1) (.tmp 58) (N8 (b.getD 12 0)) [N8 (b.getD 12 0)] QOk.ctxG at84 ?_
       refine Tk 3 12 15 B39 62 (I8 (Int.tmod (b.getD 12 0) 2)) QOk.ctxG ?_
       refine Tk 4 12 31 B39 62 (I8 (IntKind.u8.wrap ((Int.tmod (b.getD 12 0) 2) * 4))) QOk.ctxG ?_
       refine Tk 5 12 63 B39 62 (VL A b.length c) QOk.ctxG ?_
       have b85 : (0 : Int) ≤ 13 := by omega
       have b86 : 13 < ((b.length : Nat) : Int) := by omega
       obtain ⟨at87, lo87, hi87⟩ := At.int [] hb_d81 13 (by omega)
       simp only [IntKind.lo, IntKind.hi] at lo87 hi87
       refine Dx 6 12 127 B39 62 22 5 1 A b.length c .i64 13 (.tmp 62) (.const (N6 13)) QOk.ctxG b85 b86 (fun _ _ => rowAt.so hb_d81 (by omega)) ?_
       refine Dl 7 12 255 B39 62 5 A (13 * 1) (.tmp 63) (N8 (b.getD 13 0)) [N8 (b.getD 13 0)] QOk.ctxG at87 ?_
       refine Td [8, 9, 10] 12 2047 1 QOk.ctxG [(66, I8 (IntKind.u8.wrap ((IntKind.u8.wrap ((Int.tmod (b.getD 12 0) 2) * 4)) + (IntKind.u8.wrap (Int.tdiv (b.getD 13 0) 64))))), (67, .own 4 5)] trivial ?_
       refine Do 11 12 4095 B39 62 ?_
       refine X.simple (by kernel_rfl) ?_
       refine X.back ⟨trivial, Le.refl _, rfl, ?_⟩
       refine XD.done (by kernel_rfl) ?_
       refine Rn 9 (.ex .ret) [] ⟨69, [(2, .own 2 0), (3, I6 0)], [(2, ⟨31, [I1 (IntKind.u16.wrap (numB ys11)), I1 (IntKind.u16.wrap (numB ys12)), I3 (numB ys13), I3 (numB ys14), I8 (IntKind.u8.wrap (Int.tdiv (b.getD 12 0) 16)), I8 (IntKind.u8.wrap ((IntKind.u8.wrap ((Int.tmod (b.getD 12 0) 2) * 4)) + (IntKind.u8.wrap (Int.tdiv (b.getD 13 0) 64)))), I8 (Int.tmod (b.getD 13 0) 64), I1 (IntKind.u16.wrap (numB ys21)), I1 (IntKind.u16.wrap (numB ys22)), I1 (IntKind.u16.wrap (numB ys23))]⟩)]⟩ ?_
       refine Dg (.inl rfl) [.agg #[N1 (IntKind.u16.wrap (numB ys11)), N1 (IntKind.u16.wrap (numB ys12)), N3 (numB ys13), N3 (numB ys14), N8 (IntKind.u8.wrap (Int.tdiv (b.getD 12 0) 16)), N8 (IntKind.u8.wrap ((IntKind.u8.wrap ((Int.tmod (b.getD 12 0) 2) * 4)) + (IntKind.u8.wrap (Int.tdiv (b.getD 13 0) 64)))), N8 (Int.tmod (b.getD 13 0) 64), N1 (IntKind.u16.wrap (numB ys21)), N1 (IntKind.u16.wrap (numB ys22)), N1 (IntKind.u16.wrap (numB ys23))], N6 0] [] rfl (((((((hG24.trans hG25).trans hG76).trans hG77).trans hG78).trans hG79).trans hG80)) ?_
       subst hys11 hys12 hys13 hys14 hys21 hys22 hys23
       exact ⟨fun h => absurd h (by omega), fun h => absurd h.2 (by intro hh; rcases hh with hh | hh <;> contradiction), fun _ => rfl, rfl⟩
     ·
      refine X.simple (by kernel_rfl) ?_
      refine X.back ⟨trivial, hG24.le, rfl, ?_⟩
      refine Dn ⟨69, [(0, VL A b.length c), (2, .own 2 0), (3, I6 0), (4, .own 4 0), (25, I1 (IntKind.u16.wrap (numB ys11))), (27, VL A12 ys12.length (c - 2)), (31, VL A13 ys13.length (c - 4)), (34, VL A14 ys14.length (c - 8)), (39, I8 (IntKind.u8.wrap (Int.tdiv (b.getD 12 0) 16))), (43, I8 (Int.tmod (b.getD 13 0) 64)), (45, VL A21 ys21.length (c - 14)), (49, VL A22 ys22.length (c - 16)), (53, VL A23 ys23.length (c - 18))], [(2, ⟨31, [I1 0, I1 0, I3 0, I3 0, I8 0, I8 0, I8 0, I1 0, I1 0, I1 0]⟩), (4, ⟨31, [I1 0, I1 0, I3 0, I3 0, I8 0, I8 0, I8 0, I1 0, I1 0, I1 0]⟩)]⟩ trivial ?_
      refine Do 6 37 37799058303 B39 30 ?_
      refine Cg 101 [.slice A12 ys12.length (c - 2)] 0 (num_ok _ _ ys12 _ hr12 hc12 hm12 (by omega)) ?_
      rintro v88 G88 rows88 hG88 ⟨rfl, rfl⟩
      replace hb := hb.mono hG88.le
      replace hr11 := hr11.mono hG88.le
      replace hr12 := hr12.mono hG88.le
      replace hr13 := hr13.mono hG88.le
      replace hr14 := hr14.mono hG88.le
      replace hr21 := hr21.mono hG88.le
      replace hr22 := hr22.mono hG88.le
      replace hr23 := hr23.mono hG88.le
      refine X.back ⟨trivial, (hG24.trans hG88).le, rfl, ?_⟩
      refine Td [7] 37 37799058431 10 QOk.ctxG [(29, I1 (IntKind.u16.wrap (numB ys12)))] trivial ?_
      refine Do 10 37 37799059455 B39 30 ?_
      refine Cg 101 [.slice A13 ys13.length (c - 4)] 0 (num_ok _ _ ys13 _ hr13 hc13 hm13 (by omega)) ?_
      rintro v89 G89 rows89 hG89 ⟨rfl, rfl⟩
      replace hb := hb.mono hG89.le
      replace hr11 := hr11.mono hG89.le
      replace hr12 := hr12.mono hG89.le
      replace hr13 := hr13.mono hG89.le
      replace hr14 := hr14.mono hG89.le
      replace hr21 := hr21.mono hG89.le
      replace hr22 := hr22.mono hG89.le
      replace hr23 := hr23.mono hG89.le
      refine X.back ⟨trivial, ((hG24.trans hG88).trans hG89).le, rfl, ?_⟩
      refine Dn ⟨69, [(0, VL A b.length c), (2, .own 2 0), (3, I6 0), (4, .own 4 0), (25, I1 (IntKind.u16.wrap (numB ys11))), (29, I1 (IntKind.u16.wrap (numB ys12))), (32, I3 (numB ys13)), (34, VL A14 ys14.length (c - 8)), (39, I8 (IntKind.u8.wrap (Int.tdiv (b.getD 12 0) 16))), (43, I8 (Int.tmod (b.getD 13 0) 64)), (45, VL A21 ys21.length (c - 14)), (49, VL A22 ys22.length (c - 16)), (53, VL A23 ys23.length (c - 18))], [(2, ⟨31, [I1 0, I1 0, I3 0, I3 0, I8 0, I8 0, I8 0, I1 0, I1 0, I1 0]⟩), (4, ⟨31, [I1 0, I1 0, I3 0, I3 0, I8 0, I8 0, I8 0, I1 0, I1 0, I1 0]⟩)]⟩ trivial ?_
      refine Do 13 37 37799067647 B39 30 ?_
      refine Cg 101 [.slice A14 ys14.length (c - 8)] 0 (num_ok _ _ ys14 _ hr14 hc14 hm14 (by omega)) ?_
      rintro v90 G90 rows90 hG90 ⟨rfl, rfl⟩
      replace hb := hb.mono hG90.le
      replace hr11 := hr11.mono hG90.le
      replace hr12 := hr12.mono hG90.le
      replace hr13 := hr13.mono hG90.le
      replace hr14 := hr14.mono hG90.le
      replace hr21 := hr21.mono hG90.le
      replace hr22 := hr22.mono hG90.le
      replace hr23 := hr23.mono hG90.le
      refine X.back ⟨trivial, (((hG24.trans hG88).trans hG89).trans hG90).le, rfl, ?_⟩
      refine Do 24 37 37815844863 B39 30 ?_
      refine Cg 101 [.slice A21 ys21.length (c - 14)] 0 (num_ok _ _ ys21 _ hr21 hc21 hm21 (by omega)) ?_
      rintro v91 G91 rows91 hG91 ⟨rfl, rfl⟩
      replace hb := hb.mono hG91.le
      replace hr11 := hr11.mono hG91.le
      replace hr12 := hr12.mono hG91.le
      replace hr13 := hr13.mono hG91.le
      replace hr14 := hr14.mono hG91.le
      replace hr21 := hr21.mono hG91.le
      replace hr22 := hr22.mono hG91.le
      replace hr23 := hr23.mono hG91.le
      refine X.back ⟨trivial, ((((hG24.trans hG88).trans hG89).trans hG90).trans hG91).le, rfl, ?_⟩
      refine Td [25] 37 37849399295 6 QOk.ctxG [(47, I1 (IntKind.u16.wrap (numB ys21)))] trivial ?_
      refine Do 28 37 38117834751 B39 30 ?_
      refine Cg 101 [.slice A22 ys22.length (c - 16)] 0 (num_ok _ _ ys22 _ hr22 hc22 hm22 (by omega)) ?_
      rintro v92 G92 rows92 hG92 ⟨rfl, rfl⟩
      replace hb := hb.mono hG92.le
      replace hr11 := hr11.mono hG92.le
      replace hr12 := hr12.mono hG92.le
      replace hr13 := hr13.mono hG92.le
      replace hr14 := hr14.mono hG92.le
      replace hr21 := hr21.mono hG92.le
      replace hr22 := hr22.mono hG92.le
      replace hr23 := hr23.mono hG92.le
      refine X.back ⟨trivial, (((((hG24.trans hG88).trans hG89).trans hG90).trans hG91).trans hG92).le, rfl, ?_⟩
      refine Td [29] 37 38654705663 4 QOk.ctxG [(51, I1 (IntKind.u16.wrap (numB ys22)))] trivial ?_
      refine Do 32 37 42949672959 B39 30 ?_
      refine Cg 101 [.slice A23 ys23.length (c - 18)] 0 (num_ok _ _ ys23 _ hr23 hc23 hm23 (by omega)) ?_
      rintro v93 G93 rows93 hG93 ⟨rfl, rfl⟩
      replace hb := hb.mono hG93.le
      replace hr11 := hr11.mono hG93.le
      replace hr12 := hr12.mono hG93.le
      replace hr13 := hr13.mono hG93.le
      replace hr14 := hr14.mono hG93.le
      replace hr21 := hr21.mono hG93.le
      replace hr22 := hr22.mono hG93.le
      replace hr23 := hr23.mono hG93.le
      refine X.back ⟨trivial, ((((((hG24.trans hG88).trans hG89).trans hG90).trans hG91).trans hG92).trans hG93).le, rfl, ?_⟩
      refine Td [33, 34] 37 68719476735 1 QOk.ctxG [(56, .v (.agg #[N1 (IntKind.u16.wrap (numB ys11)), N1 (IntKind.u16.wrap (numB ys12)), N3 (numB ys13), N3 (numB ys14), N8 (IntKind.u8.wrap (Int.tdiv (b.getD 12 0) 16)), N8 0, N8 (Int.tmod (b.getD 13 0) 64), N1 (IntKind.u16.wrap (numB ys21)), N1 (IntKind.u16.wrap (numB ys22)), N1 (IntKind.u16.wrap (numB ys23))]))] trivial ?_
      refine Do 36 37 137438953471 B39 30 ?_
      refine X.simple (by kernel_rfl) ?_
      refine X.back ⟨trivial, ((((((hG24.trans hG88).trans hG89).trans hG90).trans hG91).trans hG92).trans hG93).le, rfl, ?_⟩
      refine XD.done (by kernel_rfl) ?_
      refine Rn 2 (Qc B39 62) [Qs B39 63] ⟨69, [(0, VL A b.length c), (2, .own 2 0), (3, I6 0), (4, .own 4 0)], [(2, ⟨31, [I1 0, I1 0, I3 0, I3 0, I8 0, I8 0, I8 0, I1 0, I1 0, I1 0]⟩), (4, ⟨31, [I1 (IntKind.u16.wrap (numB ys11)), I1 (IntKind.u16.wrap (numB ys12)), I3 (numB ys13), I3 (numB ys14), I8 (IntKind.u8.wrap (Int.tdiv (b.getD 12 0) 16)), I8 0, I8 (Int.tmod (b.getD 13 0) 64), I1 (IntKind.u16.wrap (numB ys21)), I1 (IntKind.u16.wrap (numB ys22)), I1 (IntKind.u16.wrap (numB ys23))]⟩)]⟩ ?_
      have hb_d94 := hb
      have hr11_d94 := hr11
      have hr12_d94 := hr12
      have hr13_d94 := hr13
      have hr14_d94 := hr14
      have hr21_d94 := hr21
      have hr22_d94 := hr22
      have hr23_d94 := hr23
      refine Oh 6 B39 62 12 [] [] [] trivial Mt (fun ρ0 => ?_)
      refine Tk 0 12 1 B39 62 (VL A b.length c) QOk.ctxG ?_
      have b95 : (0 : Int) ≤ 12 := by omega
      have b96 : 12 < ((b.length : Nat) : Int) := by omega
      obtain ⟨at97, lo97, hi97⟩ := At.int [] hb_d94 12 (by omega)
      simp only [IntKind.lo, IntKind.hi] at lo97 hi97
      refine Dx 1 12 3 B39 62 22 5 1 A b.length c .i64 12 (.tmp 57) (.const (N6 12)) QOk.ctxG b95 b96 (fun _ _ => rowAt.so hb_d94 (by omega)) ?_
      refine Dl 2 12 7 B39 62 5 A (12 * 1) (.tmp 58) (N8 (b.getD 12 0)) [N8 (b.getD 12 0)] QOk.ctxG at97 ?_
      refine Tk 3 12 15 B39 62 (I8 (Int.tmod (b.getD 12 0) 2)) QOk.ctxG ?_
      refine Tk 4 12 31 B39 62 (I8 (IntKind.u8.wrap ((Int.tmod (b.getD 12 0) 2) * 4))) QOk.ctxG ?_
      refine Tk 5 12 63 B39 62 (VL A b.length c) QOk.ctxG ?_
      have b98 : (0 : Int) ≤ 13 := by omega
      have b99 : 13 < ((b.length : Nat) : Int) := by omega
      obtain ⟨at100, lo100, hi100⟩ := At.int [] hb_d94 13 (by omega)
      simp only [IntKind.lo, IntKind.hi] at lo100 hi100
      refine Dx 6 12 127 B39 62 22 5 1 A b.length c .i64 13 (.tmp 62) (.const (N6 13)) QOk.ctxG b98 b99 (fun _ _ => rowAt.so hb_d94 (by omega)) ?_
      refine Dl 7 12 255 B39 62 5 A (13 * 1) (.tmp 63) (N8 (b.getD 13 0)) [N8 (b.getD 13 0)] QOk.ctxG at100 ?_
      refine Td [8, 9, 10] 12 2047 1 QOk.ctxG [(66, I8 (IntKind.u8.wrap ((IntKind.u8.wrap ((Int.tmod (b.getD 12 0) 2) * 4)) + (IntKind.u8.wrap (Int.tdiv (b.getD 13 0) 64))))), (67, .own 4 5)] trivial ?_
      refine Do 11 12 4095 B39 62 ?_
      refine X.simple (by kernel_rfl) ?_
      refine X.back ⟨trivial, Le.refl _, rfl, ?_⟩
      refine XD.done (by kernel_rfl) ?_
      refine Rn 9 (.ex .ret) [] ⟨69, [(2, .own 2 0), (3, I6 0)], [(2, ⟨31, [I1 (IntKind.u16.wrap (numB ys11)), I1 (IntKind.u16.wrap (numB ys12)), I3 (numB ys13), I3 (numB ys14), I8 (IntKind.u8.wrap (Int.tdiv (b.getD 12 0) 16)), I8 (IntKind.u8.wrap ((IntKind.u8.wrap ((Int.tmod (b.getD 12 0) 2) * 4)) + (IntKind.u8.wrap (Int.tdiv (b.getD 13 0) 64)))), I8 (Int.tmod (b.getD 13 0) 64), I1 (IntKind.u16.wrap (numB ys21)), I1 (IntKind.u16.wrap (numB ys22)), I1 (IntKind.u16.wrap (numB ys23))]⟩)]⟩ ?_
      refine Dg (.inl rfl) [.agg #[N1 (IntKind.u16.wrap (numB ys11)), N1 (IntKind.u16.wrap (numB ys12)), N3 (numB ys13), N3 (numB ys14), N8 (IntKind.u8.wrap (Int.tdiv (b.getD 12 0) 16)), N8 (IntKind.u8.wrap ((IntKind.u8.wrap ((Int.tmod (b.getD 12 0) 2) * 4)) + (IntKind.u8.wrap (Int.tdiv (b.getD 13 0) 64)))), N8 (Int.tmod (b.getD 13 0) 64), N1 (IntKind.u16.wrap (numB ys21)), N1 (IntKind.u16.wrap (numB ys22)), N1 (IntKind.u16.wrap (numB ys23))], N6 0] [] rfl (((((((hG24.trans hG88).trans hG89).trans hG90).trans hG91).trans hG92).trans hG93)) ?_
      subst hys11 hys12 hys13 hys14 hys21 hys22 hys23
      exact ⟨fun h => absurd h (by omega), fun h => absurd h.2 (by intro hh; rcases hh with hh | hh <;> contradiction), fun _ => rfl, rfl⟩
    ·
     refine X.simple (by kernel_rfl) ?_
     refine X.back ⟨trivial, Le.refl _, rfl, ?_⟩
     refine Do 2 37 37799058231 B39 30 ?_
     refine Cg 101 [.slice A11 ys11.length (c - 0)] 0 (num_ok _ _ ys11 _ hr11 hc11 hm11 (by omega)) ?_
     rintro v101 G101 rows101 hG101 ⟨rfl, rfl⟩
     replace hb := hb.mono hG101.le
     replace hr11 := hr11.mono hG101.le
     replace hr12 := hr12.mono hG101.le
     replace hr13 := hr13.mono hG101.le
     replace hr14 := hr14.mono hG101.le
     replace hr21 := hr21.mono hG101.le
     replace hr22 := hr22.mono hG101.le
     replace hr23 := hr23.mono hG101.le
     refine X.back ⟨trivial, hG101.le, rfl, ?_⟩
     refine Ts [3] 37 37799058239 12 13 QOk.ctxG ?_
     refine Dn ⟨69, [(0, VL A b.length c), (2, .own 2 0), (3, I6 0), (4, .own 4 0), (25, I1 (IntKind.u16.wrap (numB ys11))), (27, VL A12 ys12.length (c - 2)), (31, VL A13 ys13.length (c - 4)), (34, VL A14 ys14.length (c - 8)), (39, I8 (IntKind.u8.wrap (Int.tdiv (b.getD 12 0) 16))), (43, I8 (Int.tmod (b.getD 13 0) 64)), (45, VL A21 ys21.length (c - 14)), (49, VL A22 ys22.length (c - 16)), (53, VL A23 ys23.length (c - 18))], [(2, ⟨31, [I1 0, I1 0, I3 0, I3 0, I8 0, I8 0, I8 0, I1 0, I1 0, I1 0]⟩), (4, ⟨31, [I1 0, I1 0, I3 0, I3 0, I8 0, I8 0, I8 0, I1 0, I1 0, I1 0]⟩)]⟩ trivial ?_
     refine Do 6 37 37799058303 B39 30 ?_
     refine Cg 101 [.slice A12 ys12.length (c - 2)] 0 (num_ok _ _ ys12 _ hr12 hc12 hm12 (by omega)) ?_
     rintro v102 G102 rows102 hG102 ⟨rfl, rfl⟩
     replace hb := hb.mono hG102.le
     replace hr11 := hr11.mono hG102.le
     replace hr12 := hr12.mono hG102.le
     replace hr13 := hr13.mono hG102.le
     replace hr14 := hr14.mono hG102.le
     replace hr21 := hr21.mono hG102.le
     replace hr22 := hr22.mono hG102.le
     replace hr23 := hr23.mono hG102.le
     refine X.back ⟨trivial, (hG101.trans hG102).le, rfl, ?_⟩
     refine Td [7] 37 37799058431 10 QOk.ctxG [(29, I1 (IntKind.u16.wrap (numB ys12)))] trivial ?_
     refine Do 10 37 37799059455 B39 30 ?_
     refine Cg 101 [.slice A13 ys13.length (c - 4)] 0 (num_ok _ _ ys13 _ hr13 hc13 hm13 (by omega)) ?_
     rintro v103 G103 rows103 hG103 ⟨rfl, rfl⟩
     replace hb := hb.mono hG103.le
     replace hr11 := hr11.mono hG103.le
     replace hr12 := hr12.mono hG103.le
     replace hr13 := hr13.mono hG103.le
     replace hr14 := hr14.mono hG103.le
     replace hr21 := hr21.mono hG103.le
     replace hr22 := hr22.mono hG103.le
     replace hr23 := hr23.mono hG103.le
     refine X.back ⟨trivial, ((hG101.trans hG102).trans hG103).le, rfl, ?_⟩
     refine Dn ⟨69, [(0, VL A b.length c), (2, .own 2 0), (3, I6 0), (4, .own 4 0), (25, I1 (IntKind.u16.wrap (numB ys11))), (29, I1 (IntKind.u16.wrap (numB ys12))), (32, I3 (numB ys13)), (34, VL A14 ys14.length (c - 8)), (39, I8 (IntKind.u8.wrap (Int.tdiv (b.getD 12 0) 16))), (43, I8 (Int.tmod (b.getD 13 0) 64)), (45, VL A21 ys21.length (c - 14)), (49, VL A22 ys22.length (c - 16)), (53, VL A23 ys23.length (c - 18))], [(2, ⟨31, [I1 0, I1 0, I3 0, I3 0, I8 0, I8 0, I8 0, I1 0, I1 0, I1 0]⟩), (4, ⟨31, [I1 0, I1 0, I3 0, I3 0, I8 0, I8 0, I8 0, I1 0, I1 0, I1 0]⟩)]⟩ trivial ?_
     refine Do 13 37 37799067647 B39 30 ?_
     refine Cg 101 [.slice A14 ys14.length (c - 8)] 0 (num_ok _ _ ys14 _ hr14 hc14 hm14 (by omega)) ?_
     rintro v104 G104 rows104 hG104 ⟨rfl, rfl⟩
     replace hb := hb.mono hG104.le
     replace hr11 := hr11.mono hG104.le
     replace hr12 := hr12.mono hG104.le
     replace hr13 := hr13.mono hG104.le
     replace hr14 := hr14.mono hG104.le
     replace hr21 := hr21.mono hG104.le
     replace hr22 := hr22.mono hG104.le
     replace hr23 := hr23.mono hG104.le
     refine X.back ⟨trivial, (((hG101.trans hG102).trans hG103).trans hG104).le, rfl, ?_⟩
     refine Do 24 37 37815844863 B39 30 ?_
     refine Cg 101 [.slice A21 ys21.length (c - 14)] 0 (num_ok _ _ ys21 _ hr21 hc21 hm21 (by omega)) ?_
     rintro v105 G105 rows105 hG105 ⟨rfl, rfl⟩
     replace hb := hb.mono hG105.le
     replace hr11 := hr11.mono hG105.le
     replace hr12 := hr12.mono hG105.le
     replace hr13 := hr13.mono hG105.le
     replace hr14 := hr14.mono hG105.le
     replace hr21 := hr21.mono hG105.le
     replace hr22 := hr22.mono hG105.le
     replace hr23 := hr23.mono hG105.le
     refine X.back ⟨trivial, ((((hG101.trans hG102).trans hG103).trans hG104).trans hG105).le, rfl, ?_⟩
     refine Td [25] 37 37849399295 6 QOk.ctxG [(47, I1 (IntKind.u16.wrap (numB ys21)))] trivial ?_
     refine Do 28 37 38117834751 B39 30 ?_
     refine Cg 101 [.slice A22 ys22.length (c - 16)] 0 (num_ok _ _ ys22 _ hr22 hc22 hm22 (by omega)) ?_
     rintro v106 G106 rows106 hG106 ⟨rfl, rfl⟩
     replace hb := hb.mono hG106.le
     replace hr11 := hr11.mono hG106.le
     replace hr12 := hr12.mono hG106.le
     replace hr13 := hr13.mono hG106.le
     replace hr14 := hr14.mono hG106.le
     replace hr21 := hr21.mono hG106.le
     replace hr22 := hr22.mono hG106.le
     replace hr23 := hr23.mono hG106.le
     refine X.back ⟨trivial, (((((hG101.trans hG102).trans hG103).trans hG104).trans hG105).trans hG106).le, rfl, ?_⟩
     refine Td [29] 37 38654705663 4 QOk.ctxG [(51, I1 (IntKind.u16.wrap (numB ys22)))] trivial ?_
     refine Do 32 37 42949672959 B39 30 ?_
     refine Cg 101 [.slice A23 ys23.length (c - 18)] 0 (num_ok _ _ ys23 _ hr23 hc23 hm23 (by omega)) ?_
     rintro v107 G107 rows107 hG107 ⟨rfl, rfl⟩
     replace hb := hb.mono hG107.le
     replace hr11 := hr11.mono hG107.le
     replace hr12 := hr12.mono hG107.le
     replace hr13 := hr13.mono hG107.le
     replace hr14 := hr14.mono hG107.le
     replace hr21 := hr21.mono hG107.le
     replace hr22 := hr22.mono hG107.le
     replace hr23 := hr23.mono hG107.le
     refine X.back ⟨trivial, ((((((hG101.trans hG102).trans hG103).trans hG104).trans hG105).trans hG106).trans hG107).le, rfl, ?_⟩
     refine Td [33, 34] 37 68719476735 1 QOk.ctxG [(56, .v (.agg #[N1 (IntKind.u16.wrap (numB ys11)), N1 (IntKind.u16.wrap (numB ys12)), N3 (numB ys13), N3 (numB ys14), N8 (IntKind.u8.wrap (Int.tdiv (b.getD 12 0) 16)), N8 0, N8 (Int.tmod (b.getD 13 0) 64), N1 (IntKind.u16.wrap (numB ys21)), N1 (IntKind.u16.wrap (numB ys22)), N1 (IntKind.u16.wrap (numB ys23))]))] trivial ?_
     refine Do 36 37 137438953471 B39 30 ?_
     refine X.simple (by kernel_rfl) ?_
     refine X.back ⟨trivial, ((((((hG101.trans hG102).trans hG103).trans hG104).trans hG105).trans hG106).trans hG107).le, rfl, ?_⟩
     refine XD.done (by kernel_rfl) ?_
     refine Rn 2 (Qc B39 62) [Qs B39 63] ⟨69, [(0, VL A b.length c), (2, .own 2 0), (3, I6 0), (4, .own 4 0)], [(2, ⟨31, [I1 0, I1 0, I3 0, I3 0, I8 0, I8 0, I8 0, I1 0, I1 0, I1 0]⟩), (4, ⟨31, [I1 (IntKind.u16.wrap (numB ys11)), I1 (IntKind.u16.wrap (numB ys12)), I3 (numB ys13), I3 (numB ys14), I8 (IntKind.u8.wrap (Int.tdiv (b.getD 12 0) 16)), I8 0, I8 (Int.tmod (b.getD 13 0) 64), I1 (IntKind.u16.wrap (numB ys21)), I1 (IntKind.u16.wrap (numB ys22)), I1 (IntKind.u16.wrap (numB ys23))]⟩)]⟩ ?_
     have hb_d108 := hb
     have hr11_d108 := hr11
     have hr12_d108 := hr12
     have hr13_d108 := hr13
     have hr14_d108 := hr14
     have hr21_d108 := hr21
     have hr22_d108 := hr22
     have hr23_d108 := hr23
     refine Oh 6 B39 62 12 [] [] [] trivial Mt (fun ρ0 => ?_)
     refine Tk 0 12 1 B39 62 (VL A b.length c) QOk.ctxG ?_
     have b109 : (0 : Int) ≤ 12 := by omega
     have b110 : 12 < ((b.length : Nat) : Int) := by omega
     obtain ⟨at111, lo111, hi111⟩ := At.int [] hb_d108 12 (by omega)
     simp only [IntKind.lo, IntKind.hi] at lo111 hi111
     refine Dx 1 12 3 B39 62 22 5 1 A b.length c .i64 12 (.tmp 57) (.const (N6 12)) QOk.ctxG b109 b110 (fun _ _ => rowAt.so hb_d108 (by omega)) ?_
     refine Dl 2 12 7 B39 62 5 A (12 * 1) (.tmp 58) (N8 (b.getD 12 0)) [N8 (b.getD 12 0)] QOk.ctxG at111 ?_
     refine Tk 3 12 15 B39 62 (I8 (Int.tmod (b.getD 12 0) 2)) QOk.ctxG ?_
     refine Tk 4 12 31 B39 62 (I8 (IntKind.u8.wrap ((Int.tmod (b.getD 12 0) 2) * 4))) QOk.ctxG ?_
     refine Tk 5 12 63 B39 62 (VL A b.length c) QOk.ctxG ?_
     have b112 : (0 : Int) ≤ 13 := by omega
     have b113 : 13 < ((b.length : Nat) : Int) := by omega
     obtain ⟨at114, lo114, hi114⟩ := At.int [] hb_d108 13 (by omega)
     simp only [IntKind.lo, IntKind.hi] at lo114 hi114
     refine Dx 6 12 127 B39 62 22 5 1 A b.length c .i64 13 (.tmp 62) (.const (N6 13)) QOk.ctxG b112 b113 (fun _ _ => rowAt.so hb_d108 (by omega)) ?_
     refine Dl 7 12 255 B39 62 5 A (13 * 1) (.tmp 63) (N8 (b.getD 13 0)) [N8 (b.getD 13 0)] QOk.ctxG at114 ?_
     refine Td [8, 9, 10] 12 2047 1 QOk.ctxG [(66, I8 (IntKind.u8.wrap ((IntKind.u8.wrap ((Int.tmod (b.getD 12 0) 2) * 4)) + (IntKind.u8.wrap (Int.tdiv (b.getD 13 0) 64))))), (67, .own 4 5)] trivial ?_
     refine Do 11 12 4095 B39 62 ?_
     refine X.simple (by kernel_rfl) ?_
     refine X.back ⟨trivial, Le.refl _, rfl, ?_⟩
     refine XD.done (by kernel_rfl) ?_
     refine Rn 9 (.ex .ret) [] ⟨69, [(2, .own 2 0), (3, I6 0)], [(2, ⟨31, [I1 (IntKind.u16.wrap (numB ys11)), I1 (IntKind.u16.wrap (numB ys12)), I3 (numB ys13), I3 (numB ys14), I8 (IntKind.u8.wrap (Int.tdiv (b.getD 12 0) 16)), I8 (IntKind.u8.wrap ((IntKind.u8.wrap ((Int.tmod (b.getD 12 0) 2) * 4)) + (IntKind.u8.wrap (Int.tdiv (b.getD 13 0) 64)))), I8 (Int.tmod (b.getD 13 0) 64), I1 (IntKind.u16.wrap (numB ys21)), I1 (IntKind.u16.wrap (numB ys22)), I1 (IntKind.u16.wrap (numB ys23))]⟩)]⟩ ?_
     refine Dg (.inl rfl) [.agg #[N1 (IntKind.u16.wrap (numB ys11)), N1 (IntKind.u16.wrap (numB ys12)), N3 (numB ys13), N3 (numB ys14), N8 (IntKind.u8.wrap (Int.tdiv (b.getD 12 0) 16)), N8 (IntKind.u8.wrap ((IntKind.u8.wrap ((Int.tmod (b.getD 12 0) 2) * 4)) + (IntKind.u8.wrap (Int.tdiv (b.getD 13 0) 64)))), N8 (Int.tmod (b.getD 13 0) 64), N1 (IntKind.u16.wrap (numB ys21)), N1 (IntKind.u16.wrap (numB ys22)), N1 (IntKind.u16.wrap (numB ys23))], N6 0] [] rfl (((((((hG101.trans hG102).trans hG103).trans hG104).trans hG105).trans hG106).trans hG107)) ?_
     subst hys11 hys12 hys13 hys14 hys21 hys22 hys23
     exact ⟨fun h => absurd h (by omega), fun h => absurd h.2 (by intro hh; rcases hh with hh | hh <;> contradiction), fun _ => rfl, rfl⟩
theorem cut2 {b : List Int} (i : Nat) (h : i + 2 ≤ b.length) : numB ((b.take (i + 2)).drop i) = b.getD i 0 * 256 + b.getD (i + 1) 0 := by
 have e : (b.take (i + 2)).drop i = [b.getD i 0, b.getD (i + 1) 0] := by
  have h0 : b.getD i 0 = b[i]'(by omega) := by simp [List.getD_eq_getElem?_getD, List.getElem?_eq_getElem (show i < b.length by omega)]
  have h1 : b.getD (i + 1) 0 = b[i + 1]'(by omega) := by simp [List.getD_eq_getElem?_getD, List.getElem?_eq_getElem (show i + 1 < b.length by omega)]
  rw [h0, h1]
  apply List.ext_getElem
  · simp; omega
  ·
   intro j p q
   have : j = 0 ∨ j = 1 := by simp at q; omega
   rcases this with rfl | rfl <;> simp
 rw [e]
 simp [numB]
theorem cut4 {b : List Int} (i : Nat) (h : i + 4 ≤ b.length) : numB ((b.take (i + 4)).drop i) = (b.getD i 0 * 256 + b.getD (i + 1) 0) * 65536 + (b.getD (i + 2) 0 * 256 + b.getD (i + 3) 0) := by
 have gd : ∀ j, (hj : j < b.length) → b.getD j 0 = b[j] := fun j hj => by simp [List.getD_eq_getElem?_getD, List.getElem?_eq_getElem hj]
 have e : (b.take (i + 4)).drop i = [b.getD i 0, b.getD (i + 1) 0, b.getD (i + 2) 0, b.getD (i + 3) 0] := by
  rw [gd i (by omega), gd (i + 1) (by omega), gd (i + 2) (by omega), gd (i + 3) (by omega)]
  apply List.ext_getElem
  · simp; omega
  ·
   intro j p q
   have : j = 0 ∨ j = 1 ∨ j = 2 ∨ j = 3 := by simp at q; omega
   rcases this with rfl | rfl | rfl | rfl <;> simp
 rw [e]
 simp [numB]
 omega
theorem hi4 {x : Int} (hx : 0 ≤ x ∧ x ≤ 255) : bshr .u8 x 4 = IntKind.u8.wrap (Int.tdiv x 16) := of_decide_eq_true (byteAll (p := fun x => decide (bshr .u8 x 4 = IntKind.u8.wrap (Int.tdiv x 16))) (by decide +kernel) hx)
theorem lo1 {x : Int} (hx : 0 ≤ x ∧ x ≤ 255) : bshl .u8 (band .u8 x 1) 2 = IntKind.u8.wrap (Int.tmod x 2 * 4) ∧ (IntKind.u8.wrap (Int.tmod x 2 * 4) = 0 ∨ IntKind.u8.wrap (Int.tmod x 2 * 4) = 4) := of_decide_eq_true (byteAll (p := fun x => decide (bshl .u8 (band .u8 x 1) 2 = IntKind.u8.wrap (Int.tmod x 2 * 4) ∧ (IntKind.u8.wrap (Int.tmod x 2 * 4) = 0 ∨ IntKind.u8.wrap (Int.tmod x 2 * 4) = 4))) (by decide +kernel) hx)
theorem ace2 {x y : Int} (hx : 0 ≤ x ∧ x ≤ 255) (hy : 0 ≤ y ∧ y ≤ 255) : bor .u8 (bshl .u8 (band .u8 x 1) 2) (bshr .u8 y 6) = IntKind.u8.wrap (IntKind.u8.wrap (Int.tmod x 2 * 4) + IntKind.u8.wrap (Int.tdiv y 64)) := by
 obtain ⟨e1, h1⟩ := lo1 hx
 obtain ⟨e2, h2, h3⟩ := hi2 hy
 rw [e1, e2]
 generalize IntKind.u8.wrap (Int.tmod x 2 * 4) = m at *
 generalize IntKind.u8.wrap (Int.tdiv y 64) = n at *
 have : n = 0 ∨ n = 1 ∨ n = 2 ∨ n = 3 := by omega
 rcases h1 with rfl | rfl <;> rcases this with rfl | rfl | rfl | rfl <;> decide
theorem badEq {x : Int} (hx : 0 ≤ x ∧ x ≤ 255) : (bshr .u8 x 4 < 5 ∨ band .u8 (bshr .u8 x 1) 7 ≠ 0) ↔ (IntKind.u8.wrap (Int.tdiv x 16) < 5 ∨ 1 < Int.tmod x 16) := of_decide_eq_true (byteAll (p := fun x => decide ((bshr .u8 x 4 < 5 ∨ band .u8 (bshr .u8 x 1) 7 ≠ 0) ↔ (IntKind.u8.wrap (Int.tdiv x 16) < 5 ∨ 1 < Int.tmod x 16))) (by decide +kernel) hx)
theorem decEq {b : List Int} (hby : isBytes b) (h20 : 20 ≤ b.length) : dec11 b = ref39 b := by
 have g : ∀ j, j < b.length → 0 ≤ b.getD j 0 ∧ b.getD j 0 ≤ 255 := fun j hj => bytes_at hby j hj
 have c0 := cut2 (b := b) 0 (by omega)
 simp only [Nat.zero_add, Nat.reduceAdd] at c0
 have c2 := cut2 (b := b) 2 (by omega)
 simp only [Nat.zero_add, Nat.reduceAdd] at c2
 have c14 := cut2 (b := b) 14 (by omega)
 simp only [Nat.zero_add, Nat.reduceAdd] at c14
 have c16 := cut2 (b := b) 16 (by omega)
 simp only [Nat.zero_add, Nat.reduceAdd] at c16
 have c18 := cut2 (b := b) 18 (by omega)
 simp only [Nat.zero_add, Nat.reduceAdd] at c18
 have c4 := cut4 (b := b) 4 (by omega)
 simp only [Nat.zero_add, Nat.reduceAdd] at c4
 have c8 := cut4 (b := b) 8 (by omega)
 simp only [Nat.zero_add, Nat.reduceAdd] at c8
 have e0 : bor .u16 (bshl .u16 (IntKind.u16.wrap (b.getD 0 0)) 8) (IntKind.u16.wrap (b.getD 1 0)) = IntKind.u16.wrap (numB ((b.take 2).drop 0)) := by
  have := g 0 (by omega)
  have := g 1 (by omega)
  rw [or16 (g 0 (by omega)) (g 1 (by omega)), c0, wu16 (by omega) (by omega)]
 have e1 : bor .u16 (bshl .u16 (IntKind.u16.wrap (b.getD 2 0)) 8) (IntKind.u16.wrap (b.getD 3 0)) = IntKind.u16.wrap (numB ((b.take 4).drop 2)) := by
  have := g 2 (by omega)
  have := g 3 (by omega)
  rw [or16 (g 2 (by omega)) (g 3 (by omega)), c2, wu16 (by omega) (by omega)]
 have e2 : bor .u32 (bshl .u32 (IntKind.u32.wrap (bor .u16 (bshl .u16 (IntKind.u16.wrap (b.getD 4 0)) 8) (IntKind.u16.wrap (b.getD 5 0)))) 16) (IntKind.u32.wrap (bor .u16 (bshl .u16 (IntKind.u16.wrap (b.getD 6 0)) 8) (IntKind.u16.wrap (b.getD 7 0)))) = numB ((b.take 8).drop 4) := by
  have := g 4 (by omega)
  have := g 5 (by omega)
  have := g 6 (by omega)
  have := g 7 (by omega)
  rw [or16 (g 4 (by omega)) (g 5 (by omega)), or16 (g 6 (by omega)) (g 7 (by omega)), or32 (by omega) (by omega), c4]
 have e3 : bor .u32 (bshl .u32 (IntKind.u32.wrap (bor .u16 (bshl .u16 (IntKind.u16.wrap (b.getD 8 0)) 8) (IntKind.u16.wrap (b.getD 9 0)))) 16) (IntKind.u32.wrap (bor .u16 (bshl .u16 (IntKind.u16.wrap (b.getD 10 0)) 8) (IntKind.u16.wrap (b.getD 11 0)))) = numB ((b.take 12).drop 8) := by
  have := g 8 (by omega)
  have := g 9 (by omega)
  have := g 10 (by omega)
  have := g 11 (by omega)
  rw [or16 (g 8 (by omega)) (g 9 (by omega)), or16 (g 10 (by omega)) (g 11 (by omega)), or32 (by omega) (by omega), c8]
 have e4 : bshr .u8 (b.getD 12 0) 4 = IntKind.u8.wrap (Int.tdiv (b.getD 12 0) 16) := hi4 (g 12 (by omega))
 have e5 : bor .u8 (bshl .u8 (band .u8 (b.getD 12 0) 1) 2) (bshr .u8 (b.getD 13 0) 6) = IntKind.u8.wrap ((IntKind.u8.wrap ((Int.tmod (b.getD 12 0) 2) * 4)) + (IntKind.u8.wrap (Int.tdiv (b.getD 13 0) 64))) := ace2 (g 12 (by omega)) (g 13 (by omega))
 have e6 : band .u8 (b.getD 13 0) 63 = Int.tmod (b.getD 13 0) 64 := lo6 (g 13 (by omega))
 have e7 : bor .u16 (bshl .u16 (IntKind.u16.wrap (b.getD 14 0)) 8) (IntKind.u16.wrap (b.getD 15 0)) = IntKind.u16.wrap (numB ((b.take 16).drop 14)) := by
  have := g 14 (by omega)
  have := g 15 (by omega)
  rw [or16 (g 14 (by omega)) (g 15 (by omega)), c14, wu16 (by omega) (by omega)]
 have e8 : bor .u16 (bshl .u16 (IntKind.u16.wrap (b.getD 16 0)) 8) (IntKind.u16.wrap (b.getD 17 0)) = IntKind.u16.wrap (numB ((b.take 18).drop 16)) := by
  have := g 16 (by omega)
  have := g 17 (by omega)
  rw [or16 (g 16 (by omega)) (g 17 (by omega)), c16, wu16 (by omega) (by omega)]
 have e9 : bor .u16 (bshl .u16 (IntKind.u16.wrap (b.getD 18 0)) 8) (IntKind.u16.wrap (b.getD 19 0)) = IntKind.u16.wrap (numB ((b.take 20).drop 18)) := by
  have := g 18 (by omega)
  have := g 19 (by omega)
  rw [or16 (g 18 (by omega)) (g 19 (by omega)), c18, wu16 (by omega) (by omega)]
 unfold dec11 ref39
 rw [e0, e1, e2, e3, e4, e5, e6, e7, e8, e9]
theorem decBad {b : List Int} (hby : isBytes b) (h20 : 20 ≤ b.length) : (bshr .u8 (b.getD 12 0) 4 < 5 ∨ band .u8 (bshr .u8 (b.getD 12 0) 1) 7 ≠ 0) ↔ (IntKind.u8.wrap (Int.tdiv (b.getD 12 0) 16) < 5 ∨ 1 < Int.tmod (b.getD 12 0) 16) := badEq (bytes_at hby 12 (by omega))
end Go.Proofs.YtjgpdbkkpomhjaaX
