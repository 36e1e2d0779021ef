/- leatlaw46.IpJoins. Walked; printed by a small program of this session. Conditions: none. -/
import Derived.Test.YtjgpdbkkpomhjaaProg
import Derived.KernelRfl
import Derived.Test.YtjgpdbkkpomhjaaYJL
import Derived.Test.YtjgpdbkkpomhjaaYJN
namespace Go.Proofs.YtjgpdbkkpomhjaaX
open Go.RowKit
open Go.Proofs.YtjgpdbkkpomhjaaW.PrintLast
set_option linter.unusedVariables false
set_option linter.unusedSimpArgs false
set_option maxRecDepth 100000
theorem X.joinC {C : Ctx} {cur : Cur} {k : List CK} {s : S} {R : List (Nat × Row)} {G : Mem} (cur2 : Cur) (k2 : List CK) (s2 : S) (HJ : X C cur2 k2 s2 R G) (K : X C cur2 k2 s2 R G → X C cur k s R G) : X C cur k s R G := K HJ
/-- leat/leatlaw46.IpJoins -/
noncomputable def B24 : Code := bodyOf Try.f24
set_option maxHeartbeats 2000000 in
theorem IpJoins_ok (A : Option Addr) (c : Nat) (ps : List (List Int)) (G : Mem) (hps : rowAt (D.slice (D.int .u8)) G A ps) (hle : ps.length ≤ c) (hmx : c ≤ maxLen) : CallsG Try.prog 24 [.slice A ps.length c] G (fun _ v rows => v = .bool true ∧ rows = []) := by
 simp only [maxLen] at hmx
 refine CallsG.enter Try.func24 rfl rfl ?_
 intro w
 refine Rn 17 (Qc B24 58) [.blk 0, Qs B24 15] ⟨56, [(0, VL A ps.length c), (2, VB false), (3, VL none 0 0), (4, I6 0)], []⟩ ?_
 refine X.nilRow 30 22 1 rfl ?_
 refine X.loopJ (fun m s R' G' => ∃ (B_ : Option Addr) (c_ n_ : Nat) (q_ : List (List Int)) (cs_ : List Value) (i_ : Nat), s = ⟨56, [(0, VL A ps.length c), (2, VB false), (3, VL B_ n_ c_), (4, I6 (i_ : Int))], []⟩ ∧ R' = [(30, RR 22 1 B_ n_ c_ cs_)] ∧ Ge G w.heap.size G' ∧ (i_ ≤ 12 ∧ q_.length = n_ ∧ n_ = i_ ∧ repsD (D.slice (D.int .u8)) G' q_ cs_) ∧ m = (13 - i_)) _ ⟨none, 0, 0, [], [], 0, rfl, rfl, Ge.refl _ _, ⟨by omega, rfl, rfl, rfl⟩, rfl⟩ ?_
 rintro m1 s1 R1 G1 ⟨B_, c_, n_, q_, cs_, i_, rfl, rfl, hG1, hF1, rfl⟩ J1 hJ1
 replace hps := hps.mono hG1.le
 obtain ⟨hi_, hnq_, hni_, hcs_⟩ := hF1
 refine X.joinC (.ex (.exit 0)) [.loop J1, .blk 0, Qs B24 15] ⟨56, [(0, VL A ps.length c), (2, VB false), (3, VL B_ n_ c_), (4, I6 (i_ : Int))], []⟩ ?_ fun hX1 => ?_
 ·
  refine Rn 6 (Qo B24 30 1) [Qs B24 31] ⟨56, [(2, VB false), (3, VL B_ n_ c_), (34, VL B_ n_ c_)], []⟩ ?_
  subst hnq_
  refine X.tellR [30] (R' := [(30, RR 22 1 B_ q_.length c_ cs_)]) rfl ?_
  refine X.capLe (i := 30) (q := (RR 22 1 B_ q_.length c_ cs_)) (n := q_.length) (c := c_) (A := B_) rfl rfl ?_
  intro hle2 hmx2
  refine X.freezeT (d := D.slice (D.int .u8)) (i := 30) (n := q_.length) (c := c_) (A := B_) (q_) rfl (by decide) (fun _ hl_ => hcs_.mono hl_) (by kernel_rfl) (fun _ h => h) ?_
  intro G2 hG2 hr2
  replace hps := hps.mono hG2.le
  replace hcs_ := hcs_.mono hG2.le
  refine Cg 83 [.slice B_ q_.length c_] 51 (Join_ok B_ c_ q_ _ hr2 hle2 hmx2 (by omega)) ?_
  rintro v3 G3 rows3 hG3 ⟨A3, c3, rfl, rfl⟩
  replace hps := hps.mono hG3.le
  replace hcs_ := hcs_.mono hG3.le
  replace hr2 := hr2.mono hG3.le
  refine X.asR (R' := [(51, RR 5 1 A3 ((joinI q_).1.length) c3 (((joinI q_).1).map (Value.int .u8)))]) rfl ?_
  refine X.tellR [51] (R' := [(51, RR 5 1 A3 ((joinI q_).1.length) c3 (((joinI q_).1).map (Value.int .u8)))]) rfl ?_
  refine X.capLe (i := 51) (q := (RR 5 1 A3 ((joinI q_).1.length) c3 (((joinI q_).1).map (Value.int .u8)))) (n := (joinI q_).1.length) (c := c3) (A := A3) rfl rfl ?_
  intro hle4 hmx4
  refine X.freezeHd (i := 51) (n := (joinI q_).1.length) (c := c3) (A := A3) (kd := .u8) ((joinI q_).1) rfl rfl (fun x_ hx_ => by have h_ := joinI_bytes (parts_bytes hr2) x_ hx_; simp only [IntKind.lo, IntKind.hi]; omega) (by kernel_rfl) (fun _ h => h) ?_
  intro G4 hG4 hr4
  replace hps := hps.mono hG4.le
  replace hcs_ := hcs_.mono hG4.le
  replace hr2 := hr2.mono hG4.le
  refine Rn 10 (Qo B24 62 1) [Qs B24 63] ⟨56, [(2, VB false), (5, VL A3 ((joinI q_).1.length) c3), (6, I6 ((joinI q_).2)), (39, VL B_ q_.length c_)], []⟩ ?_
  refine Cg 84 [.slice B_ q_.length c_] 52 (RJoin_ok B_ c_ q_ _ hr2 hle2 hmx2 (by omega)) ?_
  rintro v5 G5 rows5 hG5 ⟨A5, c5, rfl, rfl⟩
  replace hps := hps.mono hG5.le
  replace hcs_ := hcs_.mono hG5.le
  replace hr2 := hr2.mono hG5.le
  replace hr4 := hr4.mono hG5.le
  refine X.asR (R' := [(52, RR 5 1 A5 ((joinI q_).1.length) c5 (((joinI q_).1).map (Value.int .u8)))]) rfl ?_
  refine X.tellR [52] (R' := [(52, RR 5 1 A5 ((joinI q_).1.length) c5 (((joinI q_).1).map (Value.int .u8)))]) rfl ?_
  refine X.capLe (i := 52) (q := (RR 5 1 A5 ((joinI q_).1.length) c5 (((joinI q_).1).map (Value.int .u8)))) (n := (joinI q_).1.length) (c := c5) (A := A5) rfl rfl ?_
  intro hle6 hmx6
  refine X.freezeHd (i := 52) (n := (joinI q_).1.length) (c := c5) (A := A5) (kd := .u8) ((joinI q_).1) rfl rfl (fun x_ hx_ => by have h_ := joinI_bytes (parts_bytes hr2) x_ hx_; simp only [IntKind.lo, IntKind.hi]; omega) (by kernel_rfl) (fun _ h => h) ?_
  intro G6 hG6 hr6
  replace hps := hps.mono hG6.le
  replace hcs_ := hcs_.mono hG6.le
  replace hr2 := hr2.mono hG6.le
  replace hr4 := hr4.mono hG6.le
  refine Rn 10 (Qo B24 126 1) [Qs B24 127] ⟨56, [(2, VB false), (6, I6 ((joinI q_).2)), (7, VL A5 ((joinI q_).1.length) c5), (8, I6 ((joinI q_).2)), (43, VL A3 ((joinI q_).1.length) c3)], []⟩ ?_
  refine X.toStrW (src := 22) (dst := 9) (e := 5) (n := (joinI q_).1.length) (c := c3) (A := A3) (x := .tmp 43) ((joinI q_).1) (by kernel_rfl) (by kernel_rfl) (by kernel_rfl) (by kernel_rfl) (by kernel_rfl) rfl (at_ints [] hr4) (fun w hw e => rowAt.none hr4 e) (by kernel_rfl) ?_
  refine Rn 1 (Qo B24 126 3) [Qs B24 127] ⟨56, [(2, VB false), (6, I6 ((joinI q_).2)), (8, I6 ((joinI q_).2)), (44, VT (strOf ((joinI q_).1))), (45, VL A5 ((joinI q_).1.length) c5)], []⟩ ?_
  refine X.toStrW (src := 22) (dst := 9) (e := 5) (n := (joinI q_).1.length) (c := c5) (A := A5) (x := .tmp 45) ((joinI q_).1) (by kernel_rfl) (by kernel_rfl) (by kernel_rfl) (by kernel_rfl) (by kernel_rfl) rfl (at_ints [] hr6) (fun w hw e => rowAt.none hr6 e) (by kernel_rfl) ?_
  refine Rn 2 (Qo B24 126 6) [Qs B24 127] ⟨56, [(2, VB false), (6, I6 ((joinI q_).2)), (8, I6 ((joinI q_).2)), (48, VB ((strOf ((joinI q_).1)).toList == (strOf ((joinI q_).1)).toList))], []⟩ ?_
  refine X.isTrue 48 rfl (by simp) ?_
  refine Rn 5 (Qo B24 126 11) [Qs B24 127] ⟨56, [(2, VB false), (53, VB (((joinI q_).2) == ((joinI q_).2)))], []⟩ ?_
  refine X.isTrue 53 rfl (by simp) ?_
  refine Cg 82 [] 0 (works46_ok _) ?_
  rintro v7 G7 rows7 hG7 ⟨rfl, rfl⟩
  replace hps := hps.mono hG7.le
  replace hcs_ := hcs_.mono hG7.le
  replace hr2 := hr2.mono hG7.le
  replace hr4 := hr4.mono hG7.le
  replace hr6 := hr6.mono hG7.le
  refine Rn 5 (.ex .ret) [] ⟨56, [(2, VB true)], []⟩ ?_
  refine Dg (.inl rfl) [.bool true] [] rfl (((((((hG1.trans hG2).trans hG3).trans hG4).trans hG5).trans hG6).trans hG7)) ?_
  exact ⟨rfl, rfl⟩
 ·
  refine Rn 8 (Qo B24 464 5) [Qs B24 465, Qs B24 233, .loop J1, .blk 0, Qs B24 15] ⟨56, [(0, VL A ps.length c), (2, VB false), (3, VL B_ n_ c_), (4, I6 (i_ : Int)), (13, VB (decide ((i_ : Int) < (ps.length : Int))))], []⟩ ?_
  refine X.split 13 rfl (fun h8 => ?_) (fun h8 => ?_)
  ·
   replace h8 : (i_ : Int) < ((ps.length : Nat) : Int) := of_decide_eq_true h8
   refine Rn 5 (Qc B24 465) [Qs B24 233, .loop J1, .blk 0, Qs B24 15] ⟨56, [(0, VL A ps.length c), (2, VB false), (3, VL B_ n_ c_), (4, I6 (i_ : Int)), (16, VB (decide ((i_ : Int) < 12)))], []⟩ ?_
   refine X.split 16 rfl (fun h9 => ?_) (fun h9 => ?_)
   ·
    replace h9 : (i_ : Int) < 12 := of_decide_eq_true h9
    refine Rn 5 (Qc B24 932) [.blk 1, Qs B24 467, .loop J1, .blk 0, Qs B24 15] ⟨56, [(0, VL A ps.length c), (2, VB false), (3, VL B_ n_ c_), (4, I6 (i_ : Int))], []⟩ ?_
    have hps_d10 := hps
    have hcs__d10 := hcs_
    refine Og 5 B24 932 15 [] [] [] trivial (by simp) (fun ρ0 => ?_)
    refine Tk 0 15 1 B24 932 (VL B_ n_ c_) QOk.ctxG ?_
    refine Tk 1 15 3 B24 932 (VL A ps.length c) QOk.ctxG ?_
    refine Tk 2 15 7 B24 932 (I6 (i_ : Int)) QOk.ctxG ?_
    have b11 : (0 : Int) ≤ (i_ : Int) := by omega
    have b12 : (i_ : Int) < ((ps.length : Nat) : Int) := by omega
    obtain ⟨A13, c13, at13, le13, mx13, hr13⟩ := At.slice [] hps_d10 (((i_ : Int)).toNat) (by omega)
    simp only [maxLen] at mx13
    refine Dx 3 15 15 B24 932 121 22 1 A ps.length c .i64 (i_ : Int) (.tmp 20) (.tmp 21) QOk.ctxG b11 b12 (fun _ _ => rowAt.so hps_d10 (by omega)) ?_
    refine Dl 4 15 31 B24 932 22 A (((i_ : Int)).toNat * 1) (.tmp 22) (.slice A13 ((ps.getD (((i_ : Int)).toNat) []).length) c13) [.slice A13 ((ps.getD (((i_ : Int)).toNat) []).length) c13] QOk.ctxG at13 ?_
    refine Tk 5 15 63 B24 932 (VL A ps.length c) QOk.ctxG ?_
    refine Tk 6 15 127 B24 932 (I6 (i_ : Int)) QOk.ctxG ?_
    have b14 : (0 : Int) ≤ (i_ : Int) := by omega
    have b15 : (i_ : Int) < ((ps.length : Nat) : Int) := by omega
    obtain ⟨A16, c16, at16, le16, mx16, hr16⟩ := At.slice [] hps_d10 (((i_ : Int)).toNat) (by omega)
    simp only [maxLen] at mx16
    refine Dx 7 15 255 B24 932 121 22 1 A ps.length c .i64 (i_ : Int) (.tmp 24) (.tmp 25) QOk.ctxG b14 b15 (fun _ _ => rowAt.so hps_d10 (by omega)) ?_
    refine Dl 8 15 511 B24 932 22 A (((i_ : Int)).toNat * 1) (.tmp 26) (.slice A16 ((ps.getD (((i_ : Int)).toNat) []).length) c16) [.slice A16 ((ps.getD (((i_ : Int)).toNat) []).length) c16] QOk.ctxG at16 ?_
    refine Tk 9 15 1023 B24 932 (I6 (((ps.getD (((i_ : Int)).toNat) []).length : Nat) : Int)) QOk.ctxG ?_
    refine Tk 10 15 2047 B24 932 (I6 (imin (((ps.getD (((i_ : Int)).toNat) []).length : Nat) : Int) 300)) QOk.ctxG ?_
    refine Dk 29 .i64 (min (((ps.getD (((i_ : Int)).toNat) []).length : Nat) : Int) 300) rfl (by simp only [imin_eq, imax_eq]) ?_
    have hlo17 : 0 ≤ (min (((ps.getD (((i_ : Int)).toNat) []).length : Nat) : Int) 300).toNat := by omega
    have hhi17 : (min (((ps.getD (((i_ : Int)).toNat) []).length : Nat) : Int) 300).toNat ≤ (ps.getD (((i_ : Int)).toNat) []).length := by omega
    refine XD.cut (i := 11) (l' := (lb 15 4095)) (o := (oA B24 (pa 932) 11)) (t := 22) (e := 5) (sz := 1) (n := (ps.getD (((i_ : Int)).toNat) []).length) (c := c13) (A := A13) (x := .tmp 23) (l0 := none) (h := (some (.tmp 29))) (lv := none) (hv := (some (N6 (min (((ps.getD (((i_ : Int)).toNat) []).length : Nat) : Int) 300)))) 0 ((min (((ps.getD (((i_ : Int)).toNat) []).length : Nat) : Int) 300).toNat) QOk.ctxG (by kernel_rfl) (by kernel_rfl) (by kernel_rfl) (by kernel_rfl) (by kernel_rfl) (by kernel_rfl) (by kernel_rfl) (by kernel_rfl) (by kernel_rfl) (rfl) (⟨_, _, rfl, by omega, rfl⟩) hlo17 (Nat.le_trans hhi17 le13) (by kernel_rfl) ?_
    obtain ⟨A17, hA17⟩ : ∃ A_, cutA A13 c13 0 1 = A_ := ⟨_, rfl⟩
    obtain ⟨ys17, hys17⟩ : ∃ l_, ((ps.getD (((i_ : Int)).toNat) []).take ((min (((ps.getD (((i_ : Int)).toNat) []).length : Nat) : Int) 300).toNat)).drop 0 = l_ := ⟨_, rfl⟩
    have hr17 : rowAt (D.int .u8) G1 (cutA A13 c13 0 1) (((ps.getD (((i_ : Int)).toNat) []).take ((min (((ps.getD (((i_ : Int)).toNat) []).length : Nat) : Int) 300).toNat)).drop 0) := rowAt_cut hr13 hlo17 hhi17 le13
    have hl17 : ((min (((ps.getD (((i_ : Int)).toNat) []).length : Nat) : Int) 300).toNat) - 0 = ys17.length := by rw [← hys17, List.length_drop, List.length_take]; omega
    have hc17 : ys17.length ≤ c13 - 0 := by omega
    have hm17 : c13 - 0 ≤ maxLen := Nat.le_trans (Nat.sub_le _ _) mx13
    rw [hys17, show cutA A13 c13 0 _ = A17 from hA17] at hr17
    rw [hA17, hl17]
    refine Dn ⟨56, [(0, VL A ps.length c), (2, VB false), (3, VL B_ n_ c_), (4, I6 (i_ : Int)), (19, VL B_ n_ c_), (30, VL A17 ys17.length (c13 - 0))], []⟩ trivial ?_
    refine Do 12 15 8191 B24 932 ?_
    refine Lt 31 22 1 1 [.slice A17 ys17.length (c13 - 0)] ?_
    intro A18
    refine X.back ⟨trivial, Le.refl _, rfl, ?_⟩
    refine Dn ⟨56, [(0, VL A ps.length c), (2, VB false), (3, VL B_ n_ c_), (4, I6 (i_ : Int)), (19, VL B_ n_ c_), (31, VL A18 1 1)], []⟩ trivial ?_
    refine Do 13 15 16383 B24 932 ?_
    refine Ap 30 (RR 22 1 B_ n_ c_ cs_) 121 24 (.slice none 0 0) (.tmp 19) (.tmp 31) n_ c_ 1 1 B_ A18 [.slice A17 ys17.length (c13 - 0)] (.inl rfl) (by kernel_rfl) (At.of_row (i := 31) (r := (RR 22 1 A18 1 1 [.slice A17 ys17.length (c13 - 0)])) rfl rfl) (fun w hw e => absurd (rowSome (i := 31) (q := (RR 22 1 A18 1 1 [.slice A17 ys17.length (c13 - 0)])) rfl rfl (Nat.succ_pos _) w hw) (by rw [e]; decide)) (ones (by kernel_rfl)) (by omega) ?_
    intro A19 c19 hc19
    refine X.tellR [30, 31] (R' := [(30, RR 22 1 A19 (n_ + 1) c19 (cs_ ++ [.slice A17 ys17.length (c13 - 0)])), (31, RR 22 1 A18 1 1 [.slice A17 ys17.length (c13 - 0)])]) rfl ?_
    refine X.back ⟨trivial, Le.refl _, rfl, ?_⟩
    refine Ts [14] 15 32767 0 1 QOk.ctxG ?_
    refine XD.done (by kernel_rfl) ?_
    refine Rn 5 (Qo B24 467 2) [.loop J1, .blk 0, Qs B24 15] ⟨56, [(0, VL A ps.length c), (2, VB false), (3, VL A19 (n_ + 1) c19), (4, I6 (i_ : Int)), (18, I6 (IntKind.i64.wrap ((i_ : Int) + 1)))], []⟩ ?_
    refine Kn 18 .i64 ((i_ : Int) + 1) rfl (wi64 (by omega) (by omega)) ?_
    refine Rn 2 (.ex .normal) [.loop J1, .blk 0, Qs B24 15] ⟨56, [(0, VL A ps.length c), (2, VB false), (3, VL A19 (n_ + 1) c19), (4, I6 ((i_ : Int) + 1))], []⟩ ?_
    refine X.tellR [30] (R' := [(30, RR 22 1 A19 (n_ + 1) c19 (cs_ ++ [.slice A17 ys17.length (c13 - 0)]))]) rfl ?_
    exact X.again (hJ1 _ _ _ _ ⟨A19, c19, (n_ + 1), (q_ ++ [ys17]), cs_ ++ [.slice A17 ys17.length (c13 - 0)], (i_ + 1), rfl, rfl, hG1, ⟨by omega, by rw [List.length_append, hnq_]; rfl, by omega, repsD.append hcs_ (repsD.single (rep_sliceN rfl hc17 hm17 hr17))⟩, rfl⟩ (by omega))
   ·
    replace h9 : ¬ ((i_ : Int) < 12) := of_decide_eq_false h9
    refine Rn 3 (.ex (.exit 0)) [.loop J1, .blk 0, Qs B24 15] ⟨56, [(0, VL A ps.length c), (2, VB false), (3, VL B_ n_ c_), (4, I6 (i_ : Int))], []⟩ ?_
    exact hX1
  ·
   replace h8 : ¬ ((i_ : Int) < ((ps.length : Nat) : Int)) := of_decide_eq_false h8
   refine Rn 8 (.ex (.exit 0)) [.loop J1, .blk 0, Qs B24 15] ⟨56, [(0, VL A ps.length c), (2, VB false), (3, VL B_ n_ c_), (4, I6 (i_ : Int))], []⟩ ?_
   exact hX1
end Go.Proofs.YtjgpdbkkpomhjaaX
