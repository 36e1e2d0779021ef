/- leatlaw06.HeapMerges. Walked; printed by a small program of this session. Conditions: none. -/
import Derived.Test.YthpinlcfcgnilaaProg
import Derived.KernelRfl
import Derived.Test.YthpinlcfcgnilaaYH1
import Derived.Test.YthpinlcfcgnilaaYH5
import Derived.Test.YthpinlcfcgnilaaYH8
import Derived.Test.YthpinlcfcgnilaaYHM
namespace Go.Proofs.YthpinlcfcgnilaaX
open Go.RowKit
open Go.Proofs.YthpinlcfcgnilaaW.PrintLast
set_option linter.unusedVariables false
set_option linter.unusedSimpArgs false
set_option maxRecDepth 100000
/-- (*leat/heap.Heap).Merge -/
noncomputable def B47 : Code := bodyOf Try.f47
/-- (*leat/heap.Heap).Sorted -/
noncomputable def B48 : Code := bodyOf Try.f48
/-- slices.Clone[[]leat/heap.item,leat/heap.item] -/
noncomputable def B75 : Code := bodyOf Try.f75
/-- leat/leatlaw06.HeapMerges -/
noncomputable def B13 : Code := bodyOf Try.f13
set_option maxHeartbeats 8000000 in
theorem merges_tail {G G61 : Mem} {w : World} {Cm_ Xr_ : Option Addr} {c1m_ n1m_ cxr_ : Nat} {l1m_ : List Item} {qm_ qy_ : Int} {xsr_ : List Ev} (hG0_ : Ge G w.heap.size G61) (hln1m_ : l1m_.length = n1m_) (hPm_ : Plays l1m_ qm_ xsr_) (hb_ : n1m_ ≤ 100) (hlxr_ : xsr_.length ≤ cxr_) (hmxr_ : cxr_ ≤ maxLen) (hrxr_ : rowAt evD G61 Xr_ xsr_) {A A2 Xx_ Xy_ : Option Addr} {ea eb xsx_ xsy_ : List Ev} (hra : rowAt evD G61 A ea) (hrb : rowAt evD G61 A2 eb) (hrxx_ : rowAt evD G61 Xx_ xsx_) (hrxy_ : rowAt evD G61 Xy_ xsy_) : ∀ s2_ R2_ G2_, (fun s2_ R2_ G2_ => ∃ (E_ : Option Addr) (ce_ : Nat), s2_ = ⟨165, [(4, VB false), (5, .own 700 0), (6, .own 701 0), (7, VL Xr_ xsr_.length cxr_), (12, VL E_ n1m_ ce_)], [(700, ⟨87, [VL Cm_ n1m_ c1m_, I7 qm_]⟩), (701, ⟨87, [VL none 0 0, I7 qy_]⟩)]⟩ ∧ R2_ = [(19, RR 27 4 E_ n1m_ ce_ (xsr_.flatMap evC)), (600, RR 89 5 Cm_ n1m_ c1m_ (l1m_.flatMap itC))] ∧ Ge G61 w.heap.size G2_ ∧ (True)) s2_ R2_ G2_ → X (CtxG Try.prog Try.f13 G w (fun _ v rows => v = .bool true ∧ rows = [])) (Qc B13 511) [] s2_ R2_ G2_ := by
 simp only [maxLen] at hmxr_
 have hplt_ := plays_len hPm_
 rintro s2_ R2_ G68 ⟨E_, ce_, rfl, rfl, hG68, hF_⟩
 replace hra := hra.mono hG68.le
 replace hrb := hrb.mono hG68.le
 replace hrxx_ := hrxx_.mono hG68.le
 replace hrxy_ := hrxy_.mono hG68.le
 replace hrxr_ := hrxr_.mono hG68.le
 have hEl_ : xsr_.length = n1m_ := by omega
 refine Rn 9 (Qo B13 2044 6) [Qs B13 2045, Qs B13 1023] ⟨165, [(4, VB false), (5, .own 700 0), (6, .own 701 0), (7, VL Xr_ xsr_.length cxr_), (12, VL E_ n1m_ ce_), (116, VB (((n1m_ : Nat) : Int) != (xsr_.length : Int)))], [(700, ⟨87, [VL Cm_ n1m_ c1m_, I7 qm_]⟩), (701, ⟨87, [VL none 0 0, I7 qy_]⟩)]⟩ ?_
 refine X.isFalse 116 rfl (by simp only [bne_eq_false_iff_eq]; omega) ?_
 refine Rn 1 (Qo B13 2044 7) [Qs B13 2045, Qs B13 1023] ⟨165, [(4, VB false), (5, .own 700 0), (7, VL Xr_ xsr_.length cxr_), (12, VL E_ n1m_ ce_), (116, VB false), (117, .own 701 0)], [(700, ⟨87, [VL Cm_ n1m_ c1m_, I7 qm_]⟩), (701, ⟨87, [VL none 0 0, I7 qy_]⟩)]⟩ ?_
 refine X.inline (f := 48) (l := [.own 701 0]) (fn := Try.f48) (c := B48) (by kernel_rfl) (by kernel_rfl) Try.func48 (by kernel_rfl) ?_
 intro Q69 M69 hM69 hQ69 fin69
 refine Rn 9 (Qo B48 12 1) [Qs B48 13, Qs B48 7] ⟨34, [(0, .own 1701 0), (2, VL none 0 0), (7, .own 1701 0)], [(1700, ⟨87, [VL Cm_ n1m_ c1m_, I7 qm_]⟩), (1701, ⟨87, [VL none 0 0, I7 qy_]⟩)]⟩ ?_
 refine X.inline (f := 17) (l := [.own 1701 0]) (fn := Try.f17) (c := B17) (by kernel_rfl) (by kernel_rfl) Try.func17 (by kernel_rfl) ?_
 intro Q70 M70 hM70 hQ70 fin70
 refine Rn 9 (Qo B17 12 1) [Qs B17 13, Qs B17 7] ⟨10, [(0, .own 2701 0), (2, I6 0), (3, .own 2701 0)], [(2700, ⟨87, [VL Cm_ n1m_ c1m_, I7 qm_]⟩), (2701, ⟨87, [VL none 0 0, I7 qy_]⟩)]⟩ ?_
 refine X.eqOwnNil (t := 23) (t' := 23) (e := 87) (b := 2701) (off := 0) (x := .tmp 3) (y := .const (.pointer none)) (by kernel_rfl) (fun g => by kernel_rfl) (by kernel_rfl) (by kernel_rfl) (by kernel_rfl) (by kernel_rfl) ?_
 refine Rn 16 (.ex .ret) [] ⟨10, [(2, I6 0)], [(2700, ⟨87, [VL Cm_ n1m_ c1m_, I7 qm_]⟩), (2701, ⟨87, [VL none 0 0, I7 qy_]⟩)]⟩ ?_
 refine fin70 _ _ _ _ [N6 0] [(1700, ⟨87, [VL Cm_ n1m_ c1m_, I7 qm_]⟩), (1701, ⟨87, [VL none 0 0, I7 qy_]⟩)] (.inl rfl) (by kernel_rfl) (by kernel_rfl) ?_
 refine Rn 11 (.ex .ret) [] ⟨34, [(2, VL none 0 0)], [(1700, ⟨87, [VL Cm_ n1m_ c1m_, I7 qm_]⟩), (1701, ⟨87, [VL none 0 0, I7 qy_]⟩)]⟩ ?_
 refine fin69 _ _ _ _ [.slice none 0 0] [(700, ⟨87, [VL Cm_ n1m_ c1m_, I7 qm_]⟩), (701, ⟨87, [VL none 0 0, I7 qy_]⟩)] (.inl rfl) (by kernel_rfl) (by kernel_rfl) ?_
 refine Rn 17 (Qc B13 8186) [.blk 6, Qs B13 2047] ⟨165, [(4, VB false), (5, .own 700 0), (7, VL Xr_ xsr_.length cxr_), (12, VL E_ n1m_ ce_), (123, I6 (xsr_.length : Int)), (124, I6 0)], [(700, ⟨87, [VL Cm_ n1m_ c1m_, I7 qm_]⟩)]⟩ ?_
 refine X.tellR [600, 19] (R' := [(600, RR 89 5 Cm_ n1m_ c1m_ (l1m_.flatMap itC)), (19, RR 27 4 E_ n1m_ ce_ (xsr_.flatMap evC))]) rfl ?_
 refine Rn 0 (Qc B13 8186) [.blk 6, Qs B13 2047] ⟨165, [(5, .own 700 0), (7, VL Xr_ xsr_.length cxr_), (12, VL E_ n1m_ ce_), (123, I6 (xsr_.length : Int)), (124, I6 0)], [(700, ⟨87, [VL Cm_ n1m_ c1m_, I7 qm_]⟩)]⟩ ?_
 refine X.loopJ (fun m s R' G' => ∃ (Cp_ : Option Addr) (c1p_ n1p_ : Nat) (l1p_ : List Item) (ip_ : Nat), s = ⟨165, [(5, .own 700 0), (7, VL Xr_ xsr_.length cxr_), (12, VL E_ n1m_ ce_), (123, I6 (xsr_.length : Int)), (124, I6 (ip_ : Int))], [(700, ⟨87, [VL Cp_ n1p_ c1p_, I7 qm_]⟩)]⟩ ∧ R' = [(600, RR 89 5 Cp_ n1p_ c1p_ (l1p_.flatMap itC)), (19, RR 27 4 E_ n1m_ ce_ (xsr_.flatMap evC))] ∧ Ge G68 w.heap.size G' ∧ (ip_ ≤ xsr_.length ∧ l1p_.length = n1p_ ∧ Plays l1p_ qm_ (xsr_.drop ip_) ∧ n1p_ + ip_ = xsr_.length) ∧ m = (xsr_.length - ip_)) _ ⟨Cm_, c1m_, n1m_, l1m_, 0, rfl, rfl, Ge.refl _ _, ⟨by omega, hln1m_, by rw [List.drop_zero]; exact hPm_, by omega⟩, rfl⟩ ?_
 rintro m71 s71 R71 G71 ⟨Cp_, c1p_, n1p_, l1p_, ip_, rfl, rfl, hG71, hF71, rfl⟩ J71 hJ71
 replace hra := hra.mono hG71.le
 replace hrb := hrb.mono hG71.le
 replace hrxx_ := hrxx_.mono hG71.le
 replace hrxy_ := hrxy_.mono hG71.le
 replace hrxr_ := hrxr_.mono hG71.le
 obtain ⟨hip_, hln1p_, hPp_, hnp_⟩ := hF71
 have hh1p_ := plays_heap hPp_
 refine Rn 6 (Qc B13 65490) [Qs B13 65491, .loop J71, .blk 6, Qs B13 2047] ⟨165, [(5, .own 700 0), (7, VL Xr_ xsr_.length cxr_), (12, VL E_ n1m_ ce_), (123, I6 (xsr_.length : Int)), (124, I6 (ip_ : Int)), (125, VB (decide ((ip_ : Int) < (xsr_.length : Int))))], [(700, ⟨87, [VL Cp_ n1p_ c1p_, I7 qm_]⟩)]⟩ ?_
 refine X.split 125 rfl (fun h72 => ?_) (fun h72 => ?_)
 ·
  replace h72 : (ip_ : Int) < ((xsr_.length : Nat) : Int) := of_decide_eq_true h72
  have hil_ : ip_ < xsr_.length := by omega
  have hhd_ : xsr_.getD ip_ ev0 = evOf (l1p_.getD 0 it0) := by have h_ := plays_head hPp_ (by omega); rw [← h_]; simp [List.getD]
  refine Rn 14 (Qo B13 1047858 1) [Qs B13 1047859, .blk 7, Qs B13 130983, .loop J71, .blk 6, Qs B13 2047] ⟨165, [(5, .own 700 0), (7, VL Xr_ xsr_.length cxr_), (12, VL E_ n1m_ ce_), (13, I6 (ip_ : Int)), (123, I6 (xsr_.length : Int)), (124, I6 (ip_ : Int)), (128, .own 700 0)], [(700, ⟨87, [VL Cp_ n1p_ c1p_, I7 qm_]⟩)]⟩ ?_
  refine X.inline (f := 16) (l := [.own 700 0]) (fn := Try.f16) (c := B16) (by kernel_rfl) (by kernel_rfl) Try.func16 (by kernel_rfl) ?_
  intro Q73 M73 hM73 hQ73 fin73
  refine Rn 9 (Qo B16 6 1) [Qs B16 7] ⟨45, [(0, .own 1700 0), (2, .own 2 0), (3, VB false), (8, .own 1700 0)], [(2, ⟨27, [I6 0, I6 0, I6 0, I6 0]⟩), (1700, ⟨87, [VL Cp_ n1p_ c1p_, I7 qm_]⟩)]⟩ ?_
  refine X.inline (f := 32) (l := [.own 1700 0]) (fn := Try.f32) (c := B32) (by kernel_rfl) (by kernel_rfl) Try.func32 (by kernel_rfl) ?_
  intro Q74 M74 hM74 hQ74 fin74
  refine Rn 10 (Qo B32 12 1) [Qs B32 13, Qs B32 7] ⟨15, [(0, .own 2700 0), (2, .own 2 0), (3, VB false), (4, .own 2700 0)], [(2, ⟨27, [I6 0, I6 0, I6 0, I6 0]⟩), (1002, ⟨27, [I6 0, I6 0, I6 0, I6 0]⟩), (2700, ⟨87, [VL Cp_ n1p_ c1p_, I7 qm_]⟩)]⟩ ?_
  refine X.inline (f := 17) (l := [.own 2700 0]) (fn := Try.f17) (c := B17) (by kernel_rfl) (by kernel_rfl) Try.func17 (by kernel_rfl) ?_
  intro Q75 M75 hM75 hQ75 fin75
  refine Rn 9 (Qo B17 12 1) [Qs B17 13, Qs B17 7] ⟨10, [(0, .own 3700 0), (2, I6 0), (3, .own 3700 0)], [(1002, ⟨27, [I6 0, I6 0, I6 0, I6 0]⟩), (2002, ⟨27, [I6 0, I6 0, I6 0, I6 0]⟩), (3700, ⟨87, [VL Cp_ n1p_ c1p_, I7 qm_]⟩)]⟩ ?_
  refine X.eqOwnNil (t := 23) (t' := 23) (e := 87) (b := 3700) (off := 0) (x := .tmp 3) (y := .const (.pointer none)) (by kernel_rfl) (fun g => by kernel_rfl) (by kernel_rfl) (by kernel_rfl) (by kernel_rfl) (by kernel_rfl) ?_
  refine Rn 16 (.ex .ret) [] ⟨10, [(2, I6 ((n1p_ : Nat) : Int))], [(1002, ⟨27, [I6 0, I6 0, I6 0, I6 0]⟩), (2002, ⟨27, [I6 0, I6 0, I6 0, I6 0]⟩), (3700, ⟨87, [VL Cp_ n1p_ c1p_, I7 qm_]⟩)]⟩ ?_
  refine fin75 _ _ _ _ [N6 ((n1p_ : Nat) : Int)] [(2, ⟨27, [I6 0, I6 0, I6 0, I6 0]⟩), (1002, ⟨27, [I6 0, I6 0, I6 0, I6 0]⟩), (2700, ⟨87, [VL Cp_ n1p_ c1p_, I7 qm_]⟩)] (.inl rfl) (by kernel_rfl) (by kernel_rfl) ?_
  refine Rn 3 (Qc B32 13) [Qs B32 7] ⟨15, [(0, .own 2700 0), (2, .own 2 0), (3, VB false), (6, VB (((n1p_ : Nat) : Int) == 0))], [(2, ⟨27, [I6 0, I6 0, I6 0, I6 0]⟩), (1002, ⟨27, [I6 0, I6 0, I6 0, I6 0]⟩), (2700, ⟨87, [VL Cp_ n1p_ c1p_, I7 qm_]⟩)]⟩ ?_
  refine X.isFalse 6 rfl (beq_eq_false_iff_ne.mpr (by omega)) ?_
  refine Rn 9 (Qo B32 14 4) [Qs B32 15] ⟨15, [(2, .own 2 0), (3, VB false), (11, VL Cp_ n1p_ c1p_)], [(2, ⟨27, [I6 0, I6 0, I6 0, I6 0]⟩), (1002, ⟨27, [I6 0, I6 0, I6 0, I6 0]⟩), (2700, ⟨87, [VL Cp_ n1p_ c1p_, I7 qm_]⟩)]⟩ ?_
  have b76 : (0 : Int) ≤ 0 := by omega
  have b77 : 0 < ((n1p_ : Nat) : Int) := by omega
  refine Ix 84 89 5 Cp_ n1p_ c1p_ .i64 0 (.tmp 11) (.const (N6 0)) b76 b77 (rowSome (i := 600) (q := (RR 89 5 Cp_ n1p_ c1p_ (l1p_.flatMap itC))) rfl rfl (flat_pos itC_len (by decide) (by rw [hln1p_]; omega))) ?_
  have at78 : At G71 [(600, ⟨89, 5, .slice Cp_ n1p_ c1p_, n1p_, l1p_.flatMap itC⟩), (19, ⟨27, 4, .slice E_ n1m_ ce_, n1m_, xsr_.flatMap evC⟩)] Cp_ (0 * 5) [.int .i64 ((l1p_.getD 0 it0).1), .int .i64 ((l1p_.getD 0 it0).2.1), .int .i64 ((l1p_.getD 0 it0).2.2.1), .int .i64 ((l1p_.getD 0 it0).2.2.2.1), .int .u64 ((l1p_.getD 0 it0).2.2.2.2)] := At.rowF itC itC_len (i := 600) (r := ⟨89, 5, .slice Cp_ n1p_ c1p_, n1p_, l1p_.flatMap itC⟩) it0 rfl rfl rfl (by rw [hln1p_]; omega)
  refine Rn 0 (Qo B32 14 5) [Qs B32 15] ⟨15, [(2, .own 2 0), (3, VB false), (12, .v (elt Cp_ (0 * 5)))], [(2, ⟨27, [I6 0, I6 0, I6 0, I6 0]⟩), (1002, ⟨27, [I6 0, I6 0, I6 0, I6 0]⟩), (2700, ⟨87, [VL Cp_ n1p_ c1p_, I7 qm_]⟩)]⟩ ?_
  refine X.field (t := 89) (f := 0) (n := 0) (A := Cp_) (j := 0 * 5) (x := .tmp 12) (by kernel_rfl) (by kernel_rfl) (by kernel_rfl) (by kernel_rfl) ?_
  refine Rn 0 (Qo B32 14 6) [Qs B32 15] ⟨15, [(2, .own 2 0), (3, VB false), (13, .v (elt Cp_ (0 * 5 + 0)))], [(2, ⟨27, [I6 0, I6 0, I6 0, I6 0]⟩), (1002, ⟨27, [I6 0, I6 0, I6 0, I6 0]⟩), (2700, ⟨87, [VL Cp_ n1p_ c1p_, I7 qm_]⟩)]⟩ ?_
  have at79 : At G71 [(600, ⟨89, 5, .slice Cp_ n1p_ c1p_, n1p_, l1p_.flatMap itC⟩), (19, ⟨27, 4, .slice E_ n1m_ ce_, n1m_, xsr_.flatMap evC⟩)] Cp_ (0 * 5) [.int .i64 ((l1p_.getD 0 it0).1), .int .i64 ((l1p_.getD 0 it0).2.1), .int .i64 ((l1p_.getD 0 it0).2.2.1), .int .i64 ((l1p_.getD 0 it0).2.2.2.1), .int .u64 ((l1p_.getD 0 it0).2.2.2.2)] := At.rowF itC itC_len (i := 600) (r := ⟨89, 5, .slice Cp_ n1p_ c1p_, n1p_, l1p_.flatMap itC⟩) it0 rfl rfl rfl (by rw [hln1p_]; omega)
  refine Ld 27 Cp_ (0 * 5 + 0) (.tmp 13) (.agg #[N6 ((l1p_.getD 0 it0).1), N6 ((l1p_.getD 0 it0).2.1), N6 ((l1p_.getD 0 it0).2.2.1), N6 ((l1p_.getD 0 it0).2.2.2.1)]) [N6 ((l1p_.getD 0 it0).1), N6 ((l1p_.getD 0 it0).2.1), N6 ((l1p_.getD 0 it0).2.2.1), N6 ((l1p_.getD 0 it0).2.2.2.1)] (at79.part 0 4) ?_
  refine Rn 5 (.ex .ret) [] ⟨15, [(2, .own 2 0), (3, VB true)], [(2, ⟨27, [I6 ((l1p_.getD 0 it0).1), I6 ((l1p_.getD 0 it0).2.1), I6 ((l1p_.getD 0 it0).2.2.1), I6 ((l1p_.getD 0 it0).2.2.2.1)]⟩), (1002, ⟨27, [I6 0, I6 0, I6 0, I6 0]⟩), (2700, ⟨87, [VL Cp_ n1p_ c1p_, I7 qm_]⟩)]⟩ ?_
  refine fin74 _ _ _ _ [.agg #[N6 ((l1p_.getD 0 it0).1), N6 ((l1p_.getD 0 it0).2.1), N6 ((l1p_.getD 0 it0).2.2.1), N6 ((l1p_.getD 0 it0).2.2.2.1)], .bool true] [(2, ⟨27, [I6 0, I6 0, I6 0, I6 0]⟩), (1700, ⟨87, [VL Cp_ n1p_ c1p_, I7 qm_]⟩)] (.inl rfl) (by kernel_rfl) (by kernel_rfl) ?_
  refine Rn 26 (Qo B16 30 6) [Qs B16 31] ⟨45, [(0, .own 1700 0), (2, .own 2 0), (3, VB false), (4, .own 4 0), (20, I6 (IntKind.i64.wrap (((n1p_ : Nat) : Int) - 1)))], [(2, ⟨27, [I6 0, I6 0, I6 0, I6 0]⟩), (4, ⟨27, [I6 ((l1p_.getD 0 it0).1), I6 ((l1p_.getD 0 it0).2.1), I6 ((l1p_.getD 0 it0).2.2.1), I6 ((l1p_.getD 0 it0).2.2.2.1)]⟩), (1700, ⟨87, [VL Cp_ n1p_ c1p_, I7 qm_]⟩)]⟩ ?_
  refine Kn 20 .i64 ((n1p_ - 1 : Nat) : Int) rfl (by rw [wi64 (by omega) (by omega)]; omega) ?_
  refine Rn 4 (Qc B16 62) [Qs B16 63] ⟨45, [(0, .own 1700 0), (2, .own 2 0), (3, VB false), (4, .own 4 0), (6, I6 ((n1p_ - 1 : Nat) : Int))], [(2, ⟨27, [I6 0, I6 0, I6 0, I6 0]⟩), (4, ⟨27, [I6 ((l1p_.getD 0 it0).1), I6 ((l1p_.getD 0 it0).2.1), I6 ((l1p_.getD 0 it0).2.2.1), I6 ((l1p_.getD 0 it0).2.2.2.1)]⟩), (1700, ⟨87, [VL Cp_ n1p_ c1p_, I7 qm_]⟩)]⟩ ?_
  have hra_d80 := hra
  have hrb_d80 := hrb
  have hrxx__d80 := hrxx_
  have hrxy__d80 := hrxy_
  have hrxr__d80 := hrxr_
  refine Og 5 B16 62 13 [⟨some 0, 1700, 87, [VL Cp_ n1p_ c1p_, I7 qm_]⟩] [(600, RR 89 5 Cp_ n1p_ c1p_ (l1p_.flatMap itC))] [12] ⟨⟨fun _ h => (by cases h; rfl), rfl⟩, trivial⟩ (by intro p hp hn; simp only [List.mem_cons, List.not_mem_nil, or_false] at hp; rcases hp with rfl <;> first | (cases hn; done) | exact hM73 _ (Nat.le_of_ble_eq_true rfl)) (fun ρ0 => ?_)
  refine Tk 0 13 1 B16 62 (.own 1700 0) hQ73 ?_
  refine XD.nilOwn (i := 1) (l' := (lb 13 3)) (oA B16 (pa 62) 1) (x := .tmp 21) (b := 1700) (off := 0) hQ73 (by kernel_rfl) (by kernel_rfl) (by kernel_rfl) (by kernel_rfl) (by kernel_rfl) (by kernel_rfl) ?_
  refine Tk 2 13 7 B16 62 (.own 1700 0) hQ73 ?_
  refine Tk 3 13 15 B16 62 (VL Cp_ n1p_ c1p_) hQ73 ?_
  refine Tk 4 13 31 B16 62 (.own 1700 0) hQ73 ?_
  refine XD.nilOwn (i := 5) (l' := (lb 13 63)) (oA B16 (pa 62) 5) (x := .tmp 25) (b := 1700) (off := 0) hQ73 (by kernel_rfl) (by kernel_rfl) (by kernel_rfl) (by kernel_rfl) (by kernel_rfl) (by kernel_rfl) ?_
  refine Tk 6 13 127 B16 62 (.own 1700 0) hQ73 ?_
  refine Tk 7 13 255 B16 62 (VL Cp_ n1p_ c1p_) hQ73 ?_
  refine Tk 8 13 511 B16 62 (I6 ((n1p_ - 1 : Nat) : Int)) hQ73 ?_
  have b81 : (0 : Int) ≤ ((n1p_ - 1 : Nat) : Int) := by omega
  have b82 : ((n1p_ - 1 : Nat) : Int) < ((n1p_ : Nat) : Int) := by omega
  have at83 : At G71 [(600, ⟨89, 5, .slice Cp_ n1p_ c1p_, n1p_, l1p_.flatMap itC⟩)] Cp_ ((((n1p_ - 1 : Nat) : Int)).toNat * 5) [.int .i64 ((l1p_.getD ((((n1p_ - 1 : Nat) : Int)).toNat) it0).1), .int .i64 ((l1p_.getD ((((n1p_ - 1 : Nat) : Int)).toNat) it0).2.1), .int .i64 ((l1p_.getD ((((n1p_ - 1 : Nat) : Int)).toNat) it0).2.2.1), .int .i64 ((l1p_.getD ((((n1p_ - 1 : Nat) : Int)).toNat) it0).2.2.2.1), .int .u64 ((l1p_.getD ((((n1p_ - 1 : Nat) : Int)).toNat) it0).2.2.2.2)] := At.rowF itC itC_len (i := 600) (r := ⟨89, 5, .slice Cp_ n1p_ c1p_, n1p_, l1p_.flatMap itC⟩) it0 rfl rfl rfl (by rw [hln1p_]; omega)
  refine Dx 9 13 1023 B16 62 84 89 5 Cp_ n1p_ c1p_ .i64 ((n1p_ - 1 : Nat) : Int) (.tmp 28) (.tmp 29) hQ73 b81 b82 (rowSome (i := 600) (q := (RR 89 5 Cp_ n1p_ c1p_ (l1p_.flatMap itC))) rfl rfl (flat_pos itC_len (by decide) (by rw [hln1p_]; omega))) ?_
  have at84 : At G71 [(600, ⟨89, 5, .slice Cp_ n1p_ c1p_, n1p_, l1p_.flatMap itC⟩)] Cp_ ((((n1p_ - 1 : Nat) : Int)).toNat * 5) [.int .i64 ((l1p_.getD ((((n1p_ - 1 : Nat) : Int)).toNat) it0).1), .int .i64 ((l1p_.getD ((((n1p_ - 1 : Nat) : Int)).toNat) it0).2.1), .int .i64 ((l1p_.getD ((((n1p_ - 1 : Nat) : Int)).toNat) it0).2.2.1), .int .i64 ((l1p_.getD ((((n1p_ - 1 : Nat) : Int)).toNat) it0).2.2.2.1), .int .u64 ((l1p_.getD ((((n1p_ - 1 : Nat) : Int)).toNat) it0).2.2.2.2)] := At.rowF itC itC_len (i := 600) (r := ⟨89, 5, .slice Cp_ n1p_ c1p_, n1p_, l1p_.flatMap itC⟩) it0 rfl rfl rfl (by rw [hln1p_]; omega)
  refine Dl 10 13 2047 B16 62 89 Cp_ ((((n1p_ - 1 : Nat) : Int)).toNat * 5) (.tmp 30) (.agg #[N6 ((l1p_.getD ((((n1p_ - 1 : Nat) : Int)).toNat) it0).1), N6 ((l1p_.getD ((((n1p_ - 1 : Nat) : Int)).toNat) it0).2.1), N6 ((l1p_.getD ((((n1p_ - 1 : Nat) : Int)).toNat) it0).2.2.1), N6 ((l1p_.getD ((((n1p_ - 1 : Nat) : Int)).toNat) it0).2.2.2.1), N7 ((l1p_.getD ((((n1p_ - 1 : Nat) : Int)).toNat) it0).2.2.2.2)]) [N6 ((l1p_.getD ((((n1p_ - 1 : Nat) : Int)).toNat) it0).1), N6 ((l1p_.getD ((((n1p_ - 1 : Nat) : Int)).toNat) it0).2.1), N6 ((l1p_.getD ((((n1p_ - 1 : Nat) : Int)).toNat) it0).2.2.1), N6 ((l1p_.getD ((((n1p_ - 1 : Nat) : Int)).toNat) it0).2.2.2.1), N7 ((l1p_.getD ((((n1p_ - 1 : Nat) : Int)).toNat) it0).2.2.2.2)] hQ73 at84 ?_
  have b85 : (0 : Int) ≤ 0 := by omega
  have b86 : 0 < ((n1p_ : Nat) : Int) := by omega
  have at87 : At G71 [(600, ⟨89, 5, .slice Cp_ n1p_ c1p_, n1p_, l1p_.flatMap itC⟩)] Cp_ (0 * 5) [.int .i64 ((l1p_.getD 0 it0).1), .int .i64 ((l1p_.getD 0 it0).2.1), .int .i64 ((l1p_.getD 0 it0).2.2.1), .int .i64 ((l1p_.getD 0 it0).2.2.2.1), .int .u64 ((l1p_.getD 0 it0).2.2.2.2)] := At.rowF itC itC_len (i := 600) (r := ⟨89, 5, .slice Cp_ n1p_ c1p_, n1p_, l1p_.flatMap itC⟩) it0 rfl rfl rfl (by rw [hln1p_]; omega)
  refine Dx 11 13 4095 B16 62 84 89 5 Cp_ n1p_ c1p_ .i64 0 (.tmp 24) (.const (N6 0)) hQ73 b85 b86 (rowSome (i := 600) (q := (RR 89 5 Cp_ n1p_ c1p_ (l1p_.flatMap itC))) rfl rfl (flat_pos itC_len (by decide) (by rw [hln1p_]; omega))) ?_
  refine XD.toE ?_
  refine En ⟨45, [(0, .own 1700 0), (2, .own 2 0), (3, VB false), (4, .own 4 0), (6, I6 ((n1p_ - 1 : Nat) : Int)), (31, .v (.agg #[N6 ((l1p_.getD ((((n1p_ - 1 : Nat) : Int)).toNat) it0).1), N6 ((l1p_.getD ((((n1p_ - 1 : Nat) : Int)).toNat) it0).2.1), N6 ((l1p_.getD ((((n1p_ - 1 : Nat) : Int)).toNat) it0).2.2.1), N6 ((l1p_.getD ((((n1p_ - 1 : Nat) : Int)).toNat) it0).2.2.2.1), N7 ((l1p_.getD ((((n1p_ - 1 : Nat) : Int)).toNat) it0).2.2.2.2)])), (32, .v (elt Cp_ (0 * 5)))], [(2, ⟨27, [I6 0, I6 0, I6 0, I6 0]⟩), (4, ⟨27, [I6 ((l1p_.getD 0 it0).1), I6 ((l1p_.getD 0 it0).2.1), I6 ((l1p_.getD 0 it0).2.2.1), I6 ((l1p_.getD 0 it0).2.2.2.1)]⟩), (1700, ⟨87, [VL Cp_ n1p_ c1p_, I7 qm_]⟩)]⟩ ?_
  refine Eo 12 13 8191 B16 62 ?_
  refine X.storeElem (i := 600) (t := 89) (j := 0 * 5) (n := n1p_) (c := c1p_) (q := (RR 89 5 Cp_ n1p_ c1p_ (l1p_.flatMap itC))) (A := Cp_) (x := .tmp 32) (y := .tmp 31) (z := .agg #[N6 ((l1p_.getD ((((n1p_ - 1 : Nat) : Int)).toNat) it0).1), N6 ((l1p_.getD ((((n1p_ - 1 : Nat) : Int)).toNat) it0).2.1), N6 ((l1p_.getD ((((n1p_ - 1 : Nat) : Int)).toNat) it0).2.2.1), N6 ((l1p_.getD ((((n1p_ - 1 : Nat) : Int)).toNat) it0).2.2.2.1), N7 ((l1p_.getD ((((n1p_ - 1 : Nat) : Int)).toNat) it0).2.2.2.2)]) (by kernel_rfl) (by kernel_rfl) (by kernel_rfl) rfl rfl (by kernel_rfl) (by rw [show _ = _ from flat_len itC_len _, hln1p_]; show 0 * 5 + 5 ≤ _; omega) (by kernel_rfl) (Nat.succ_pos _) (by kernel_rfl) ?_
  refine X.tellR [600, 19] (R' := [(600, RR 89 5 Cp_ n1p_ c1p_ ((l1p_.set 0 ((l1p_.getD ((((n1p_ - 1 : Nat) : Int)).toNat) it0).1, (l1p_.getD ((((n1p_ - 1 : Nat) : Int)).toNat) it0).2.1, (l1p_.getD ((((n1p_ - 1 : Nat) : Int)).toNat) it0).2.2.1, (l1p_.getD ((((n1p_ - 1 : Nat) : Int)).toNat) it0).2.2.2.1, (l1p_.getD ((((n1p_ - 1 : Nat) : Int)).toNat) it0).2.2.2.2)).flatMap itC)), (19, RR 27 4 E_ n1m_ ce_ (xsr_.flatMap evC))]) (congrArg (fun cs_ => (600, (RR 89 5 Cp_ n1p_ c1p_ cs_ : Row)) :: [(19, RR 27 4 E_ n1m_ ce_ (xsr_.flatMap evC))]) (splice_flat itC_len (((l1p_.getD ((((n1p_ - 1 : Nat) : Int)).toNat) it0).1, (l1p_.getD ((((n1p_ - 1 : Nat) : Int)).toNat) it0).2.1, (l1p_.getD ((((n1p_ - 1 : Nat) : Int)).toNat) it0).2.2.1, (l1p_.getD ((((n1p_ - 1 : Nat) : Int)).toNat) it0).2.2.2.1, (l1p_.getD ((((n1p_ - 1 : Nat) : Int)).toNat) it0).2.2.2.2) : Item) l1p_ 0 (by rw [hln1p_]; omega))) ?_
  obtain ⟨l88, hl88⟩ : ∃ z_, (l1p_.set 0 ((l1p_.getD ((((n1p_ - 1 : Nat) : Int)).toNat) it0).1, (l1p_.getD ((((n1p_ - 1 : Nat) : Int)).toNat) it0).2.1, (l1p_.getD ((((n1p_ - 1 : Nat) : Int)).toNat) it0).2.2.1, (l1p_.getD ((((n1p_ - 1 : Nat) : Int)).toNat) it0).2.2.2.1, (l1p_.getD ((((n1p_ - 1 : Nat) : Int)).toNat) it0).2.2.2.2)) = z_ := ⟨_, rfl⟩
  rw [hl88]
  have hn88 : l88.length = n1p_ := by rw [← hl88, List.length_set, hln1p_]
  refine X.back ?_
  refine XE.done (by kernel_rfl) ?_
  refine Rn 9 (Qo B16 126 6) [Qs B16 127] ⟨45, [(0, .own 1700 0), (2, .own 2 0), (3, VB false), (4, .own 4 0), (33, .own 1700 0), (37, VL Cp_ n1p_ c1p_), (38, I6 ((n1p_ - 1 : Nat) : Int))], [(2, ⟨27, [I6 0, I6 0, I6 0, I6 0]⟩), (4, ⟨27, [I6 ((l1p_.getD 0 it0).1), I6 ((l1p_.getD 0 it0).2.1), I6 ((l1p_.getD 0 it0).2.2.1), I6 ((l1p_.getD 0 it0).2.2.2.1)]⟩), (1700, ⟨87, [VL Cp_ n1p_ c1p_, I7 qm_]⟩)]⟩ ?_
  refine X.capLe (i := 600) (q := (RR 89 5 Cp_ n1p_ c1p_ (l88.flatMap itC))) (n := n1p_) (c := c1p_) (A := Cp_) rfl rfl ?_
  intro hcl_ hcm_
  have hlo89 : 0 ≤ (((n1p_ - 1 : Nat) : Int)).toNat := by omega
  have hhi89 : (((n1p_ - 1 : Nat) : Int)).toNat ≤ n1p_ := by omega
  refine X.cut (t := 84) (e := 89) (sz := 5) (n := n1p_) (c := c1p_) (A := Cp_) (x := .tmp 37) (l := none) (h := (some (.tmp 38))) (lv := none) (hv := (some (N6 ((n1p_ - 1 : Nat) : Int)))) 0 ((((n1p_ - 1 : Nat) : Int)).toNat) (by kernel_rfl) (by kernel_rfl) (by kernel_rfl) (by kernel_rfl) (by kernel_rfl) (by kernel_rfl) (by kernel_rfl) (rfl) (⟨_, _, rfl, by omega, rfl⟩) hlo89 (Nat.le_trans hhi89 (by omega)) ?_
  refine X.known 39 (y := VL Cp_ ((((n1p_ - 1 : Nat) : Int)).toNat) c1p_) rfl (by rw [cutA_zero] <;> rfl) ?_
  refine X.known 39 (y := VL Cp_ (n1p_ - 1) c1p_) rfl rfl ?_
  refine X.tellR [600, 19] (R' := [(600, RR 89 5 Cp_ n1p_ c1p_ (l88.flatMap itC)), (19, RR 27 4 E_ n1m_ ce_ (xsr_.flatMap evC))]) rfl ?_
  refine X.shrink (m := (n1p_ - 1)) (by omega) ?_
  refine X.tellR [600, 19] (R' := [(600, RR 89 5 Cp_ (n1p_ - 1) c1p_ ((l88.take (n1p_ - 1)).flatMap itC)), (19, RR 27 4 E_ n1m_ ce_ (xsr_.flatMap evC))]) (congrArg (fun cs_ => (600, (RR 89 5 Cp_ (n1p_ - 1) c1p_ cs_ : Row)) :: [(19, RR 27 4 E_ n1m_ ce_ (xsr_.flatMap evC))]) (flatMap_take itC_len l88 (n1p_ - 1))) ?_
  obtain ⟨l90, hl90⟩ : ∃ z_, l88.take (n1p_ - 1) = z_ := ⟨_, rfl⟩
  rw [hl90]
  have hn90 : l90.length = (n1p_ - 1) := by rw [← hl90, List.length_take, hn88]; omega
  have hpo_ : l90 = popL l1p_ := by
   rw [← hl90, ← hl88]; unfold popL; rw [hln1p_]; rfl
  have hdn0_ : DownOk l90 0 0 := by rw [hpo_]; exact pop_down hh1p_
  refine Rn 8 (Qo B16 254 1) [Qs B16 255] ⟨45, [(2, .own 2 0), (3, VB false), (4, .own 4 0), (42, .own 1700 0)], [(2, ⟨27, [I6 0, I6 0, I6 0, I6 0]⟩), (4, ⟨27, [I6 ((l1p_.getD 0 it0).1), I6 ((l1p_.getD 0 it0).2.1), I6 ((l1p_.getD 0 it0).2.2.1), I6 ((l1p_.getD 0 it0).2.2.2.1)]⟩), (1700, ⟨87, [VL Cp_ (n1p_ - 1) c1p_, I7 qm_]⟩)]⟩ ?_
  refine X.joinJ (Qc B16 255) [] (fun s2_ R2_ G2_ => ∃ (l6_ : List Item), s2_ = ⟨45, [(2, .own 2 0), (3, VB false), (4, .own 4 0)], [(2, ⟨27, [I6 0, I6 0, I6 0, I6 0]⟩), (4, ⟨27, [I6 ((l1p_.getD 0 it0).1), I6 ((l1p_.getD 0 it0).2.1), I6 ((l1p_.getD 0 it0).2.2.1), I6 ((l1p_.getD 0 it0).2.2.2.1)]⟩), (1700, ⟨87, [VL Cp_ (n1p_ - 1) c1p_, I7 qm_]⟩)]⟩ ∧ R2_ = [(600, RR 89 5 Cp_ (n1p_ - 1) c1p_ (l6_.flatMap itC)), (19, RR 27 4 E_ n1m_ ce_ (xsr_.flatMap evC))] ∧ Ge G71 w.heap.size G2_ ∧ (l6_.length = n1p_ - 1 ∧ HeapFrom l6_ 0 ∧ l6_.Perm l90)) ?_ fun hY91 => ?_
  ·
   as_aux_lemma =>
    rintro s2_ R2_ G91 ⟨l6_, rfl, rfl, hG91, hF_⟩
    replace hra := hra.mono hG91.le
    replace hrb := hrb.mono hG91.le
    replace hrxx_ := hrxx_.mono hG91.le
    replace hrxy_ := hrxy_.mono hG91.le
    replace hrxr_ := hrxr_.mono hG91.le
    obtain ⟨hln6_, hh6_, hp6_⟩ := hF_
    rw [hpo_] at hp6_
    refine Rn 8 (.ex .ret) [] ⟨45, [(2, .own 2 0), (3, VB true)], [(2, ⟨27, [I6 ((l1p_.getD 0 it0).1), I6 ((l1p_.getD 0 it0).2.1), I6 ((l1p_.getD 0 it0).2.2.1), I6 ((l1p_.getD 0 it0).2.2.2.1)]⟩), (1700, ⟨87, [VL Cp_ (n1p_ - 1) c1p_, I7 qm_]⟩)]⟩ ?_
    refine fin73 _ _ _ _ [.agg #[N6 ((l1p_.getD 0 it0).1), N6 ((l1p_.getD 0 it0).2.1), N6 ((l1p_.getD 0 it0).2.2.1), N6 ((l1p_.getD 0 it0).2.2.2.1)], .bool true] [(700, ⟨87, [VL Cp_ (n1p_ - 1) c1p_, I7 qm_]⟩)] (.inl rfl) (by kernel_rfl) (by kernel_rfl) ?_
    refine Rn 9 (Qc B13 2095718) [Qs B13 2095719, .blk 7, Qs B13 130983, .loop J71, .blk 6, Qs B13 2047] ⟨165, [(5, .own 700 0), (7, VL Xr_ xsr_.length cxr_), (12, VL E_ n1m_ ce_), (13, I6 (ip_ : Int)), (14, .own 14 0), (15, VB true), (123, I6 (xsr_.length : Int)), (124, I6 (ip_ : Int))], [(14, ⟨27, [I6 ((l1p_.getD 0 it0).1), I6 ((l1p_.getD 0 it0).2.1), I6 ((l1p_.getD 0 it0).2.2.1), I6 ((l1p_.getD 0 it0).2.2.2.1)]⟩), (700, ⟨87, [VL Cp_ (n1p_ - 1) c1p_, I7 qm_]⟩)]⟩ ?_
    have hra_d92 := hra
    have hrb_d92 := hrb
    have hrxx__d92 := hrxx_
    have hrxy__d92 := hrxy_
    have hrxr__d92 := hrxr_
    refine Og 27 B13 2095718 19 [⟨some 14, 14, 27, [I6 ((l1p_.getD 0 it0).1), I6 ((l1p_.getD 0 it0).2.1), I6 ((l1p_.getD 0 it0).2.2.1), I6 ((l1p_.getD 0 it0).2.2.2.1)]⟩] [(19, RR 27 4 E_ n1m_ ce_ (xsr_.flatMap evC))] [] ⟨⟨fun _ h => (by cases h; rfl), rfl⟩, trivial⟩ (by intro p hp hn; simp only [List.mem_cons, List.not_mem_nil, or_false] at hp; rcases hp with rfl <;> first | (cases hn; done) | exact absurd _ (Nat.le_of_ble_eq_true rfl)) (fun ρ0 => ?_)
    refine Tk 0 19 1 B13 2095718 (VB true) QOk.ctxG ?_
    refine Tk 1 19 3 B13 2095718 (VB false) QOk.ctxG ?_
    refine Tk 2 19 7 B13 2095718 (VB false) QOk.ctxG ?_
    refine Tk 3 19 15 B13 2095718 (.v (.agg #[N6 ((l1p_.getD 0 it0).1), N6 ((l1p_.getD 0 it0).2.1), N6 ((l1p_.getD 0 it0).2.2.1), N6 ((l1p_.getD 0 it0).2.2.2.1)])) QOk.ctxG ?_
    refine Tk 4 19 31 B13 2095718 (VL E_ n1m_ ce_) QOk.ctxG ?_
    refine Tk 5 19 63 B13 2095718 (I6 (ip_ : Int)) QOk.ctxG ?_
    have b93 : (0 : Int) ≤ (ip_ : Int) := by omega
    have b94 : (ip_ : Int) < ((n1m_ : Nat) : Int) := by omega
    have at95 : At G91 [(19, ⟨27, 4, .slice E_ n1m_ ce_, n1m_, xsr_.flatMap evC⟩)] E_ (((ip_ : Int)).toNat * 4) [.int .i64 ((xsr_.getD (((ip_ : Int)).toNat) ev0).1), .int .i64 ((xsr_.getD (((ip_ : Int)).toNat) ev0).2.1), .int .i64 ((xsr_.getD (((ip_ : Int)).toNat) ev0).2.2.1), .int .i64 ((xsr_.getD (((ip_ : Int)).toNat) ev0).2.2.2)] := At.rowF evC evC_len (i := 19) (r := ⟨27, 4, .slice E_ n1m_ ce_, n1m_, xsr_.flatMap evC⟩) ev0 rfl rfl rfl (by rw [hEl_]; omega)
    refine Dx 6 19 127 B13 2095718 80 27 4 E_ n1m_ ce_ .i64 (ip_ : Int) (.tmp 136) (.tmp 137) QOk.ctxG b93 b94 (rowSome (i := 19) (q := (RR 27 4 E_ n1m_ ce_ (xsr_.flatMap evC))) rfl rfl (flat_pos evC_len (by decide) (by rw [hEl_]; omega))) ?_
    have at96 : At G91 [(19, ⟨27, 4, .slice E_ n1m_ ce_, n1m_, xsr_.flatMap evC⟩)] E_ (((ip_ : Int)).toNat * 4) [.int .i64 ((xsr_.getD (((ip_ : Int)).toNat) ev0).1), .int .i64 ((xsr_.getD (((ip_ : Int)).toNat) ev0).2.1), .int .i64 ((xsr_.getD (((ip_ : Int)).toNat) ev0).2.2.1), .int .i64 ((xsr_.getD (((ip_ : Int)).toNat) ev0).2.2.2)] := At.rowF evC evC_len (i := 19) (r := ⟨27, 4, .slice E_ n1m_ ce_, n1m_, xsr_.flatMap evC⟩) ev0 rfl rfl rfl (by rw [hEl_]; omega)
    refine Dl 7 19 255 B13 2095718 27 E_ (((ip_ : Int)).toNat * 4) (.tmp 138) (.agg #[N6 ((xsr_.getD (((ip_ : Int)).toNat) ev0).1), N6 ((xsr_.getD (((ip_ : Int)).toNat) ev0).2.1), N6 ((xsr_.getD (((ip_ : Int)).toNat) ev0).2.2.1), N6 ((xsr_.getD (((ip_ : Int)).toNat) ev0).2.2.2)]) [N6 ((xsr_.getD (((ip_ : Int)).toNat) ev0).1), N6 ((xsr_.getD (((ip_ : Int)).toNat) ev0).2.1), N6 ((xsr_.getD (((ip_ : Int)).toNat) ev0).2.2.1), N6 ((xsr_.getD (((ip_ : Int)).toNat) ev0).2.2.2)] QOk.ctxG at96 ?_
    refine Dn ⟨165, [(5, .own 700 0), (7, VL Xr_ xsr_.length cxr_), (12, VL E_ n1m_ ce_), (13, I6 (ip_ : Int)), (14, .own 14 0), (123, I6 (xsr_.length : Int)), (124, I6 (ip_ : Int)), (134, VB false), (135, .v (.agg #[N6 ((l1p_.getD 0 it0).1), N6 ((l1p_.getD 0 it0).2.1), N6 ((l1p_.getD 0 it0).2.2.1), N6 ((l1p_.getD 0 it0).2.2.2.1)])), (139, .v (.agg #[N6 ((xsr_.getD (((ip_ : Int)).toNat) ev0).1), N6 ((xsr_.getD (((ip_ : Int)).toNat) ev0).2.1), N6 ((xsr_.getD (((ip_ : Int)).toNat) ev0).2.2.1), N6 ((xsr_.getD (((ip_ : Int)).toNat) ev0).2.2.2)]))], [(14, ⟨27, [I6 ((l1p_.getD 0 it0).1), I6 ((l1p_.getD 0 it0).2.1), I6 ((l1p_.getD 0 it0).2.2.1), I6 ((l1p_.getD 0 it0).2.2.2.1)]⟩), (700, ⟨87, [VL Cp_ (n1p_ - 1) c1p_, I7 qm_]⟩)]⟩ ⟨⟨fun _ h => (by cases h; rfl), rfl⟩, trivial⟩ ?_
    refine Do 8 19 511 B13 2095718 ?_
    refine X.neV (t := 27) (t' := 27) (x := .tmp 135) (y := .tmp 139) (xs := #[N6 ((l1p_.getD 0 it0).1), N6 ((l1p_.getD 0 it0).2.1), N6 ((l1p_.getD 0 it0).2.2.1), N6 ((l1p_.getD 0 it0).2.2.2.1)]) (ys := #[N6 ((xsr_.getD (((ip_ : Int)).toNat) ev0).1), N6 ((xsr_.getD (((ip_ : Int)).toNat) ev0).2.1), N6 ((xsr_.getD (((ip_ : Int)).toNat) ev0).2.2.1), N6 ((xsr_.getD (((ip_ : Int)).toNat) ev0).2.2.2)]) (b := ((((l1p_.getD 0 it0).1 : Int) == ((xsr_.getD (((ip_ : Int)).toNat) ev0).1)) && ((((l1p_.getD 0 it0).2.1 : Int) == ((xsr_.getD (((ip_ : Int)).toNat) ev0).2.1)) && ((((l1p_.getD 0 it0).2.2.1 : Int) == ((xsr_.getD (((ip_ : Int)).toNat) ev0).2.2.1)) && ((((l1p_.getD 0 it0).2.2.2.1 : Int) == ((xsr_.getD (((ip_ : Int)).toNat) ev0).2.2.2)) && true))))) (by kernel_rfl) (by kernel_rfl) (by kernel_rfl) (by kernel_rfl) (by kernel_rfl) (by kernel_rfl) ?_
    refine X.back ⟨⟨⟨fun _ h => (by cases h; rfl), rfl⟩, trivial⟩, Le.refl _, rfl, ?_⟩
    refine Tk 9 19 1023 B13 2095718 (VB (!((((l1p_.getD 0 it0).1 : Int) == ((xsr_.getD (((ip_ : Int)).toNat) ev0).1)) && ((((l1p_.getD 0 it0).2.1 : Int) == ((xsr_.getD (((ip_ : Int)).toNat) ev0).2.1)) && ((((l1p_.getD 0 it0).2.2.1 : Int) == ((xsr_.getD (((ip_ : Int)).toNat) ev0).2.2.1)) && ((((l1p_.getD 0 it0).2.2.2.1 : Int) == ((xsr_.getD (((ip_ : Int)).toNat) ev0).2.2.2)) && true)))))) QOk.ctxG ?_
    refine Tk 10 19 2047 B13 2095718 (VB (!((((l1p_.getD 0 it0).1 : Int) == ((xsr_.getD (((ip_ : Int)).toNat) ev0).1)) && ((((l1p_.getD 0 it0).2.1 : Int) == ((xsr_.getD (((ip_ : Int)).toNat) ev0).2.1)) && ((((l1p_.getD 0 it0).2.2.1 : Int) == ((xsr_.getD (((ip_ : Int)).toNat) ev0).2.2.1)) && ((((l1p_.getD 0 it0).2.2.2.1 : Int) == ((xsr_.getD (((ip_ : Int)).toNat) ev0).2.2.2)) && true)))))) QOk.ctxG ?_
    refine XD.isFalse 142 rfl (by rw [show xsr_.getD ((ip_ : Int)).toNat ev0 = evOf (l1p_.getD 0 it0) from hhd_]; simp [evOf]) ?_
    refine Tk 11 19 4095 B13 2095718 (.v (.agg #[N6 ((l1p_.getD 0 it0).1), N6 ((l1p_.getD 0 it0).2.1), N6 ((l1p_.getD 0 it0).2.2.1), N6 ((l1p_.getD 0 it0).2.2.2.1)])) QOk.ctxG ?_
    refine Tk 13 19 12287 B13 2095718 (VL Xr_ xsr_.length cxr_) QOk.ctxG ?_
    refine Tk 14 19 28671 B13 2095718 (I6 (ip_ : Int)) QOk.ctxG ?_
    have b97 : (0 : Int) ≤ (ip_ : Int) := by omega
    have b98 : (ip_ : Int) < ((xsr_.length : Nat) : Int) := by omega
    have at99 := At.ev [(19, ⟨27, 4, .slice E_ n1m_ ce_, n1m_, xsr_.flatMap evC⟩)] hrxr__d92 (((ip_ : Int)).toNat) (by omega)
    simp only [evC] at at99
    refine Dx 15 19 61439 B13 2095718 59 66 4 Xr_ xsr_.length cxr_ .i64 (ip_ : Int) (.tmp 145) (.tmp 146) QOk.ctxG b97 b98 (fun _ _ => rowAt.so hrxr__d92 (by omega)) ?_
    refine Dl 16 19 126975 B13 2095718 66 Xr_ (((ip_ : Int)).toNat * 4) (.tmp 147) (.agg #[N6 ((xsr_.getD (((ip_ : Int)).toNat) ev0).1), N6 ((xsr_.getD (((ip_ : Int)).toNat) ev0).2.1), N6 ((xsr_.getD (((ip_ : Int)).toNat) ev0).2.2.1), N6 ((xsr_.getD (((ip_ : Int)).toNat) ev0).2.2.2)]) [N6 ((xsr_.getD (((ip_ : Int)).toNat) ev0).1), N6 ((xsr_.getD (((ip_ : Int)).toNat) ev0).2.1), N6 ((xsr_.getD (((ip_ : Int)).toNat) ev0).2.2.1), N6 ((xsr_.getD (((ip_ : Int)).toNat) ev0).2.2.2)] QOk.ctxG at99 ?_
    refine Dn ⟨165, [(5, .own 700 0), (7, VL Xr_ xsr_.length cxr_), (12, VL E_ n1m_ ce_), (14, .own 14 0), (123, I6 (xsr_.length : Int)), (124, I6 (ip_ : Int)), (142, VB false), (143, .v (.agg #[N6 ((l1p_.getD 0 it0).1), N6 ((l1p_.getD 0 it0).2.1), N6 ((l1p_.getD 0 it0).2.2.1), N6 ((l1p_.getD 0 it0).2.2.2.1)])), (148, .v (.agg #[N6 ((xsr_.getD (((ip_ : Int)).toNat) ev0).1), N6 ((xsr_.getD (((ip_ : Int)).toNat) ev0).2.1), N6 ((xsr_.getD (((ip_ : Int)).toNat) ev0).2.2.1), N6 ((xsr_.getD (((ip_ : Int)).toNat) ev0).2.2.2)]))], [(14, ⟨27, [I6 ((l1p_.getD 0 it0).1), I6 ((l1p_.getD 0 it0).2.1), I6 ((l1p_.getD 0 it0).2.2.1), I6 ((l1p_.getD 0 it0).2.2.2.1)]⟩), (700, ⟨87, [VL Cp_ (n1p_ - 1) c1p_, I7 qm_]⟩)]⟩ ⟨⟨fun _ h => (by cases h; rfl), rfl⟩, trivial⟩ ?_
    refine Do 12 19 131071 B13 2095718 ?_
    refine Cg 31 [.agg #[N6 ((l1p_.getD 0 it0).1), N6 ((l1p_.getD 0 it0).2.1), N6 ((l1p_.getD 0 it0).2.2.1), N6 ((l1p_.getD 0 it0).2.2.2.1)]] 0 (event_ok ((l1p_.getD 0 it0).1) ((l1p_.getD 0 it0).2.1) ((l1p_.getD 0 it0).2.2.1) ((l1p_.getD 0 it0).2.2.2.1) _) ?_
    rintro v100 G100 rows100 hG100 ⟨rfl, rfl⟩
    replace hra := hra.mono hG100.le
    replace hrb := hrb.mono hG100.le
    replace hrxx_ := hrxx_.mono hG100.le
    replace hrxy_ := hrxy_.mono hG100.le
    replace hrxr_ := hrxr_.mono hG100.le
    refine X.back ⟨⟨⟨fun _ h => (by cases h; rfl), rfl⟩, trivial⟩, hG100.le, rfl, ?_⟩
    refine Dn ⟨165, [(5, .own 700 0), (7, VL Xr_ xsr_.length cxr_), (12, VL E_ n1m_ ce_), (14, .own 14 0), (123, I6 (xsr_.length : Int)), (124, I6 (ip_ : Int)), (142, VB false), (144, .v (.agg #[N6 ((l1p_.getD 0 it0).1), N6 ((l1p_.getD 0 it0).2.1), N6 ((l1p_.getD 0 it0).2.2.1), N6 ((l1p_.getD 0 it0).2.2.2.1)])), (148, .v (.agg #[N6 ((xsr_.getD (((ip_ : Int)).toNat) ev0).1), N6 ((xsr_.getD (((ip_ : Int)).toNat) ev0).2.1), N6 ((xsr_.getD (((ip_ : Int)).toNat) ev0).2.2.1), N6 ((xsr_.getD (((ip_ : Int)).toNat) ev0).2.2.2)]))], [(14, ⟨27, [I6 ((l1p_.getD 0 it0).1), I6 ((l1p_.getD 0 it0).2.1), I6 ((l1p_.getD 0 it0).2.2.1), I6 ((l1p_.getD 0 it0).2.2.2.1)]⟩), (700, ⟨87, [VL Cp_ (n1p_ - 1) c1p_, I7 qm_]⟩)]⟩ ⟨⟨fun _ h => (by cases h; rfl), rfl⟩, trivial⟩ ?_
    refine Do 17 19 262143 B13 2095718 ?_
    refine X.neV (t := 66) (t' := 66) (x := .tmp 144) (y := .tmp 148) (xs := #[N6 ((l1p_.getD 0 it0).1), N6 ((l1p_.getD 0 it0).2.1), N6 ((l1p_.getD 0 it0).2.2.1), N6 ((l1p_.getD 0 it0).2.2.2.1)]) (ys := #[N6 ((xsr_.getD (((ip_ : Int)).toNat) ev0).1), N6 ((xsr_.getD (((ip_ : Int)).toNat) ev0).2.1), N6 ((xsr_.getD (((ip_ : Int)).toNat) ev0).2.2.1), N6 ((xsr_.getD (((ip_ : Int)).toNat) ev0).2.2.2)]) (b := ((((l1p_.getD 0 it0).1 : Int) == ((xsr_.getD (((ip_ : Int)).toNat) ev0).1)) && ((((l1p_.getD 0 it0).2.1 : Int) == ((xsr_.getD (((ip_ : Int)).toNat) ev0).2.1)) && ((((l1p_.getD 0 it0).2.2.1 : Int) == ((xsr_.getD (((ip_ : Int)).toNat) ev0).2.2.1)) && ((((l1p_.getD 0 it0).2.2.2.1 : Int) == ((xsr_.getD (((ip_ : Int)).toNat) ev0).2.2.2)) && true))))) (by kernel_rfl) (by kernel_rfl) (by kernel_rfl) (by kernel_rfl) (by kernel_rfl) (by kernel_rfl) ?_
    refine X.back ⟨⟨⟨fun _ h => (by cases h; rfl), rfl⟩, trivial⟩, hG100.le, rfl, ?_⟩
    refine Ts [18] 19 524287 0 1 QOk.ctxG ?_
    refine XD.done (by kernel_rfl) ?_
    refine Rn 1 (Qc B13 2095719) [.blk 7, Qs B13 130983, .loop J71, .blk 6, Qs B13 2047] ⟨165, [(5, .own 700 0), (7, VL Xr_ xsr_.length cxr_), (12, VL E_ n1m_ ce_), (123, I6 (xsr_.length : Int)), (124, I6 (ip_ : Int)), (150, VB (!((((l1p_.getD 0 it0).1 : Int) == ((xsr_.getD (((ip_ : Int)).toNat) ev0).1)) && ((((l1p_.getD 0 it0).2.1 : Int) == ((xsr_.getD (((ip_ : Int)).toNat) ev0).2.1)) && ((((l1p_.getD 0 it0).2.2.1 : Int) == ((xsr_.getD (((ip_ : Int)).toNat) ev0).2.2.1)) && ((((l1p_.getD 0 it0).2.2.2.1 : Int) == ((xsr_.getD (((ip_ : Int)).toNat) ev0).2.2.2)) && true))))))], [(700, ⟨87, [VL Cp_ (n1p_ - 1) c1p_, I7 qm_]⟩)]⟩ ?_
    refine X.isFalse 150 rfl (by rw [show xsr_.getD ((ip_ : Int)).toNat ev0 = evOf (l1p_.getD 0 it0) from hhd_]; simp [evOf]) ?_
    refine Rn 6 (Qo B13 130983 1) [.loop J71, .blk 6, Qs B13 2047] ⟨165, [(5, .own 700 0), (7, VL Xr_ xsr_.length cxr_), (12, VL E_ n1m_ ce_), (123, I6 (xsr_.length : Int)), (124, I6 (ip_ : Int)), (151, I6 (IntKind.i64.wrap ((ip_ : Int) + 1)))], [(700, ⟨87, [VL Cp_ (n1p_ - 1) c1p_, I7 qm_]⟩)]⟩ ?_
    refine Kn 151 .i64 ((ip_ : Int) + 1) rfl (wi64 (by omega) (by omega)) ?_
    refine Rn 2 (.ex .normal) [.loop J71, .blk 6, Qs B13 2047] ⟨165, [(5, .own 700 0), (7, VL Xr_ xsr_.length cxr_), (12, VL E_ n1m_ ce_), (123, I6 (xsr_.length : Int)), (124, I6 ((ip_ : Int) + 1))], [(700, ⟨87, [VL Cp_ (n1p_ - 1) c1p_, I7 qm_]⟩)]⟩ ?_
    exact X.again (hJ71 _ _ _ _ ⟨Cp_, c1p_, (n1p_ - 1), l6_, (ip_ + 1), rfl, rfl, ((hG71.trans hG91).trans hG100), ⟨by omega, hln6_, by have h_ := plays_pop hPp_ (by omega) hh6_ hp6_; rw [List.drop_drop] at h_; exact h_, by omega⟩, rfl⟩ (by omega))
  ·
   refine X.inline (f := 50) (l := [.own 1700 0, I6 0]) (fn := Try.f50) (c := B50) (by kernel_rfl) (by kernel_rfl) Try.func50 (by kernel_rfl) ?_
   intro Q101 M101 hM101 hQ101 fin101
   refine Rn 8 (Qc B50 6) [.blk 0] ⟨67, [(0, .own 2700 0), (1, I6 0), (4, .mth 81 2700 0)], [(1002, ⟨27, [I6 0, I6 0, I6 0, I6 0]⟩), (1004, ⟨27, [I6 ((l1p_.getD 0 it0).1), I6 ((l1p_.getD 0 it0).2.1), I6 ((l1p_.getD 0 it0).2.2.1), I6 ((l1p_.getD 0 it0).2.2.2.1)]⟩), (2700, ⟨87, [VL Cp_ (n1p_ - 1) c1p_, I7 qm_]⟩)]⟩ ?_
   refine X.loopJ (fun m s R' G' => ∃ (i3_ : Nat) (l3_ : List Item), s = ⟨67, [(0, .own 2700 0), (1, I6 (i3_ : Int)), (4, .mth 81 2700 0)], [(1002, ⟨27, [I6 0, I6 0, I6 0, I6 0]⟩), (1004, ⟨27, [I6 ((l1p_.getD 0 it0).1), I6 ((l1p_.getD 0 it0).2.1), I6 ((l1p_.getD 0 it0).2.2.1), I6 ((l1p_.getD 0 it0).2.2.2.1)]⟩), (2700, ⟨87, [VL Cp_ (n1p_ - 1) c1p_, I7 qm_]⟩)]⟩ ∧ R' = [(600, RR 89 5 Cp_ (n1p_ - 1) c1p_ (l3_.flatMap itC)), (19, RR 27 4 E_ n1m_ ce_ (xsr_.flatMap evC))] ∧ Ge G71 w.heap.size G' ∧ ((0 ≤ i3_ ∧ i3_ ≤ (n1p_ - 1)) ∧ l3_.length = (n1p_ - 1) ∧ DownOk l3_ i3_ 0 ∧ l3_.Perm l90) ∧ m = ((n1p_ - 1) - i3_)) _ ⟨0, l90, rfl, rfl, Ge.refl _ _, ⟨⟨by omega, by omega⟩, hn90, hdn0_, List.Perm.refl _⟩, rfl⟩ ?_
   rintro m102 s102 R102 G102 ⟨i3_, l3_, rfl, rfl, hG102, hF102, rfl⟩ J102 hJ102
   replace hra := hra.mono hG102.le
   replace hrb := hrb.mono hG102.le
   replace hrxx_ := hrxx_.mono hG102.le
   replace hrxy_ := hrxy_.mono hG102.le
   replace hrxr_ := hrxr_.mono hG102.le
   obtain ⟨⟨hri3_, hi3_⟩, hln3_, hdn_, hpm3_⟩ := hF102
   refine Rn 5 (Qo B50 48 2) [Qs B50 49, .blk 1, .loop J102, .blk 0] ⟨67, [(0, .own 2700 0), (1, I6 (i3_ : Int)), (4, .mth 81 2700 0), (9, I6 (IntKind.i64.wrap (2 * (i3_ : Int))))], [(1002, ⟨27, [I6 0, I6 0, I6 0, I6 0]⟩), (1004, ⟨27, [I6 ((l1p_.getD 0 it0).1), I6 ((l1p_.getD 0 it0).2.1), I6 ((l1p_.getD 0 it0).2.2.1), I6 ((l1p_.getD 0 it0).2.2.2.1)]⟩), (2700, ⟨87, [VL Cp_ (n1p_ - 1) c1p_, I7 qm_]⟩)]⟩ ?_
   refine Kn 9 .i64 (2 * (i3_ : Int)) rfl (wi64 (by omega) (by omega)) ?_
   refine Rn 1 (Qo B50 48 3) [Qs B50 49, .blk 1, .loop J102, .blk 0] ⟨67, [(0, .own 2700 0), (1, I6 (i3_ : Int)), (4, .mth 81 2700 0), (10, I6 (IntKind.i64.wrap ((2 * (i3_ : Int)) + 1)))], [(1002, ⟨27, [I6 0, I6 0, I6 0, I6 0]⟩), (1004, ⟨27, [I6 ((l1p_.getD 0 it0).1), I6 ((l1p_.getD 0 it0).2.1), I6 ((l1p_.getD 0 it0).2.2.1), I6 ((l1p_.getD 0 it0).2.2.2.1)]⟩), (2700, ⟨87, [VL Cp_ (n1p_ - 1) c1p_, I7 qm_]⟩)]⟩ ?_
   refine Kn 10 .i64 ((2 * i3_ + 1 : Nat) : Int) rfl (by rw [wi64 (by omega) (by omega)]; omega) ?_
   refine Rn 15 (Qc B50 197) [Qs B50 99, .blk 1, .loop J102, .blk 0] ⟨67, [(0, .own 2700 0), (1, I6 (i3_ : Int)), (4, .mth 81 2700 0), (5, I6 ((2 * i3_ + 1 : Nat) : Int)), (17, VB (decide (((2 * i3_ + 1 : Nat) : Int) ≥ (((n1p_ - 1) : Nat) : Int))))], [(1002, ⟨27, [I6 0, I6 0, I6 0, I6 0]⟩), (1004, ⟨27, [I6 ((l1p_.getD 0 it0).1), I6 ((l1p_.getD 0 it0).2.1), I6 ((l1p_.getD 0 it0).2.2.1), I6 ((l1p_.getD 0 it0).2.2.2.1)]⟩), (2700, ⟨87, [VL Cp_ (n1p_ - 1) c1p_, I7 qm_]⟩)]⟩ ?_
   refine X.split 17 rfl (fun h103 => ?_) (fun h103 => ?_)
   ·
    replace h103 : ((2 * i3_ + 1 : Nat) : Int) ≥ (((n1p_ - 1) : Nat) : Int) := of_decide_eq_true h103
    have hh3_ : HeapFrom l3_ 0 := down_end hdn_ (fun j_ h0_ h1_ h2_ => absurd h2_ (by omega))
    refine Rn 6 (.ex .ret) [] ⟨67, [], [(1002, ⟨27, [I6 0, I6 0, I6 0, I6 0]⟩), (1004, ⟨27, [I6 ((l1p_.getD 0 it0).1), I6 ((l1p_.getD 0 it0).2.1), I6 ((l1p_.getD 0 it0).2.2.1), I6 ((l1p_.getD 0 it0).2.2.2.1)]⟩), (2700, ⟨87, [VL Cp_ (n1p_ - 1) c1p_, I7 qm_]⟩)]⟩ ?_
    refine fin101 _ _ _ _ [] [(2, ⟨27, [I6 0, I6 0, I6 0, I6 0]⟩), (4, ⟨27, [I6 ((l1p_.getD 0 it0).1), I6 ((l1p_.getD 0 it0).2.1), I6 ((l1p_.getD 0 it0).2.2.1), I6 ((l1p_.getD 0 it0).2.2.2.1)]⟩), (1700, ⟨87, [VL Cp_ (n1p_ - 1) c1p_, I7 qm_]⟩)] (.inl rfl) (by kernel_rfl) (by kernel_rfl) ?_
    refine Rn 2 (Qc B16 255) [] ⟨45, [(2, .own 2 0), (3, VB false), (4, .own 4 0)], [(2, ⟨27, [I6 0, I6 0, I6 0, I6 0]⟩), (4, ⟨27, [I6 ((l1p_.getD 0 it0).1), I6 ((l1p_.getD 0 it0).2.1), I6 ((l1p_.getD 0 it0).2.2.1), I6 ((l1p_.getD 0 it0).2.2.2.1)]⟩), (1700, ⟨87, [VL Cp_ (n1p_ - 1) c1p_, I7 qm_]⟩)]⟩ ?_
    exact hY91 _ _ _ ⟨l3_, rfl, rfl, hG102, ⟨hln3_, hh3_, hpm3_⟩⟩
   ·
    replace h103 : ¬ (((2 * i3_ + 1 : Nat) : Int) ≥ (((n1p_ - 1) : Nat) : Int)) := of_decide_eq_false h103
    refine X.joinJ (Qc B50 199) [.blk 1, .loop J102, .blk 0] (fun s2_ R2_ G2_ => ∃ (k3_ : Nat), s2_ = ⟨67, [(0, .own 2700 0), (1, I6 (i3_ : Int)), (4, .mth 81 2700 0), (5, I6 (k3_ : Int))], [(1002, ⟨27, [I6 0, I6 0, I6 0, I6 0]⟩), (1004, ⟨27, [I6 ((l1p_.getD 0 it0).1), I6 ((l1p_.getD 0 it0).2.1), I6 ((l1p_.getD 0 it0).2.2.1), I6 ((l1p_.getD 0 it0).2.2.2.1)]⟩), (2700, ⟨87, [VL Cp_ (n1p_ - 1) c1p_, I7 qm_]⟩)]⟩ ∧ R2_ = [(600, RR 89 5 Cp_ (n1p_ - 1) c1p_ (l3_.flatMap itC)), (19, RR 27 4 E_ n1m_ ce_ (xsr_.flatMap evC))] ∧ Ge G102 w.heap.size G2_ ∧ (0 < k3_ ∧ k3_ < (n1p_ - 1) ∧ (k3_ - 1) / 2 = i3_ ∧ ∀ j_, 0 < j_ → j_ < l3_.length → (j_ - 1) / 2 = i3_ → ¬ ltI (at_ l3_ j_) (at_ l3_ k3_))) ?_ fun hY104 => ?_
    ·
     rintro s2_ R2_ G104 ⟨k3_, rfl, rfl, hG104, hF_⟩
     replace hra := hra.mono hG104.le
     replace hrb := hrb.mono hG104.le
     replace hrxx_ := hrxx_.mono hG104.le
     replace hrxy_ := hrxy_.mono hG104.le
     replace hrxr_ := hrxr_.mono hG104.le
     obtain ⟨hk0_, hkn_, hki_, hkm_⟩ := hF_
     refine Rn 6 (Qo B50 796 3) [Qs B50 797, Qs B50 399, .blk 1, .loop J102, .blk 0] ⟨67, [(0, .own 2700 0), (1, I6 (i3_ : Int)), (4, .mth 81 2700 0), (5, I6 (k3_ : Int)), (35, .mth 81 2700 0), (36, I6 (k3_ : Int)), (37, I6 (i3_ : Int))], [(1002, ⟨27, [I6 0, I6 0, I6 0, I6 0]⟩), (1004, ⟨27, [I6 ((l1p_.getD 0 it0).1), I6 ((l1p_.getD 0 it0).2.1), I6 ((l1p_.getD 0 it0).2.2.1), I6 ((l1p_.getD 0 it0).2.2.2.1)]⟩), (2700, ⟨87, [VL Cp_ (n1p_ - 1) c1p_, I7 qm_]⟩)]⟩ ?_
     refine X.joinCG (Qc B50 797) [Qs B50 399, .blk 1, .loop J102, .blk 0] ⟨67, [(0, .own 2700 0), (1, I6 (i3_ : Int)), (4, .mth 81 2700 0), (5, I6 (k3_ : Int)), (39, VB (!(decide (ltI (l3_.getD ((k3_ : Int)).toNat it0) (l3_.getD ((i3_ : Int)).toNat it0)))))], [(1002, ⟨27, [I6 0, I6 0, I6 0, I6 0]⟩), (1004, ⟨27, [I6 ((l1p_.getD 0 it0).1), I6 ((l1p_.getD 0 it0).2.1), I6 ((l1p_.getD 0 it0).2.2.1), I6 ((l1p_.getD 0 it0).2.2.2.1)]⟩), (2700, ⟨87, [VL Cp_ (n1p_ - 1) c1p_, I7 qm_]⟩)]⟩ ?_ fun hY105 => ?_
     ·
      intro G105 hG105
      replace hra := hra.mono hG105.le
      replace hrb := hrb.mono hG105.le
      replace hrxx_ := hrxx_.mono hG105.le
      replace hrxy_ := hrxy_.mono hG105.le
      replace hrxr_ := hrxr_.mono hG105.le
      refine Rn 0 (Qc B50 797) [Qs B50 399, .blk 1, .loop J102, .blk 0] ⟨67, [(0, .own 2700 0), (1, I6 (i3_ : Int)), (4, .mth 81 2700 0), (5, I6 (k3_ : Int)), (39, VB (!(decide (ltI (l3_.getD ((k3_ : Int)).toNat it0) (l3_.getD ((i3_ : Int)).toNat it0)))))], [(1002, ⟨27, [I6 0, I6 0, I6 0, I6 0]⟩), (1004, ⟨27, [I6 ((l1p_.getD 0 it0).1), I6 ((l1p_.getD 0 it0).2.1), I6 ((l1p_.getD 0 it0).2.2.1), I6 ((l1p_.getD 0 it0).2.2.2.1)]⟩), (2700, ⟨87, [VL Cp_ (n1p_ - 1) c1p_, I7 qm_]⟩)]⟩ ?_
      refine X.split 39 rfl (fun h106 => ?_) (fun h106 => ?_)
      ·
       replace h106 : (decide (ltI (l3_.getD ((k3_ : Int)).toNat it0) (l3_.getD ((i3_ : Int)).toNat it0))) = false := by first | (simpa using h106; done) | (have h_ := congrArg (fun b_ => !b_) h106; simpa only [Bool.not_not, Bool.not_true, Bool.not_false] using h_)
       replace h106 : ¬ (ltI (l3_.getD ((k3_ : Int)).toNat it0) (l3_.getD ((i3_ : Int)).toNat it0)) := of_decide_eq_false h106
       have hnl_ : ¬ ltI (at_ l3_ k3_) (at_ l3_ i3_) := h106
       have hh3_ : HeapFrom l3_ 0 := down_end hdn_ (fun j_ h0_ h1_ h2_ => le_tr hnl_ (hkm_ j_ h0_ h1_ h2_))
       refine Rn 6 (.ex .ret) [] ⟨67, [], [(1002, ⟨27, [I6 0, I6 0, I6 0, I6 0]⟩), (1004, ⟨27, [I6 ((l1p_.getD 0 it0).1), I6 ((l1p_.getD 0 it0).2.1), I6 ((l1p_.getD 0 it0).2.2.1), I6 ((l1p_.getD 0 it0).2.2.2.1)]⟩), (2700, ⟨87, [VL Cp_ (n1p_ - 1) c1p_, I7 qm_]⟩)]⟩ ?_
       refine fin101 _ _ _ _ [] [(2, ⟨27, [I6 0, I6 0, I6 0, I6 0]⟩), (4, ⟨27, [I6 ((l1p_.getD 0 it0).1), I6 ((l1p_.getD 0 it0).2.1), I6 ((l1p_.getD 0 it0).2.2.1), I6 ((l1p_.getD 0 it0).2.2.2.1)]⟩), (1700, ⟨87, [VL Cp_ (n1p_ - 1) c1p_, I7 qm_]⟩)] (.inl rfl) (by kernel_rfl) (by kernel_rfl) ?_
       refine Rn 2 (Qc B16 255) [] ⟨45, [(2, .own 2 0), (3, VB false), (4, .own 4 0)], [(2, ⟨27, [I6 0, I6 0, I6 0, I6 0]⟩), (4, ⟨27, [I6 ((l1p_.getD 0 it0).1), I6 ((l1p_.getD 0 it0).2.1), I6 ((l1p_.getD 0 it0).2.2.1), I6 ((l1p_.getD 0 it0).2.2.2.1)]⟩), (1700, ⟨87, [VL Cp_ (n1p_ - 1) c1p_, I7 qm_]⟩)]⟩ ?_
       exact hY91 _ _ _ ⟨l3_, rfl, rfl, ((hG102.trans hG104).trans hG105), ⟨hln3_, hh3_, hpm3_⟩⟩
      ·
       replace h106 : (decide (ltI (l3_.getD ((k3_ : Int)).toNat it0) (l3_.getD ((i3_ : Int)).toNat it0))) = true := by first | (simpa using h106; done) | (have h_ := congrArg (fun b_ => !b_) h106; simpa only [Bool.not_not, Bool.not_true, Bool.not_false] using h_)
       replace h106 : ltI (l3_.getD ((k3_ : Int)).toNat it0) (l3_.getD ((i3_ : Int)).toNat it0) := of_decide_eq_true h106
       have hlt_ : ltI (at_ l3_ k3_) (at_ l3_ i3_) := h106
       refine Rn 4 (Qc B50 798) [Qs B50 799, .blk 1, .loop J102, .blk 0] ⟨67, [(0, .own 2700 0), (1, I6 (i3_ : Int)), (4, .mth 81 2700 0), (5, I6 (k3_ : Int))], [(1002, ⟨27, [I6 0, I6 0, I6 0, I6 0]⟩), (1004, ⟨27, [I6 ((l1p_.getD 0 it0).1), I6 ((l1p_.getD 0 it0).2.1), I6 ((l1p_.getD 0 it0).2.2.1), I6 ((l1p_.getD 0 it0).2.2.2.1)]⟩), (2700, ⟨87, [VL Cp_ (n1p_ - 1) c1p_, I7 qm_]⟩)]⟩ ?_
       have hra_d107 := hra
       have hrb_d107 := hrb
       have hrxx__d107 := hrxx_
       have hrxy__d107 := hrxy_
       have hrxr__d107 := hrxr_
       refine Og 6 B50 798 28 [⟨some 0, 2700, 87, [VL Cp_ (n1p_ - 1) c1p_, I7 qm_]⟩] [(600, RR 89 5 Cp_ (n1p_ - 1) c1p_ (l3_.flatMap itC))] [25, 26, 27] ⟨⟨fun _ h => (by cases h; rfl), rfl⟩, trivial⟩ (by intro p hp hn; simp only [List.mem_cons, List.not_mem_nil, or_false] at hp; rcases hp with rfl <;> first | (cases hn; done) | exact hM101 _ (Nat.le_of_ble_eq_true rfl)) (fun ρ0 => ?_)
       refine Tk 0 28 1 B50 798 (.own 2700 0) hQ101 ?_
       refine XD.nilOwn (i := 1) (l' := (lb 28 3)) (oA B50 (pa 798) 1) (x := .tmp 40) (b := 2700) (off := 0) hQ101 (by kernel_rfl) (by kernel_rfl) (by kernel_rfl) (by kernel_rfl) (by kernel_rfl) (by kernel_rfl) ?_
       refine Tk 2 28 7 B50 798 (.own 2700 0) hQ101 ?_
       refine Tk 3 28 15 B50 798 (VL Cp_ (n1p_ - 1) c1p_) hQ101 ?_
       refine Tk 4 28 31 B50 798 (I6 (i3_ : Int)) hQ101 ?_
       refine Tk 5 28 63 B50 798 (.own 2700 0) hQ101 ?_
       refine XD.nilOwn (i := 6) (l' := (lb 28 127)) (oA B50 (pa 798) 6) (x := .tmp 45) (b := 2700) (off := 0) hQ101 (by kernel_rfl) (by kernel_rfl) (by kernel_rfl) (by kernel_rfl) (by kernel_rfl) (by kernel_rfl) ?_
       refine Tk 7 28 255 B50 798 (.own 2700 0) hQ101 ?_
       refine Tk 8 28 511 B50 798 (VL Cp_ (n1p_ - 1) c1p_) hQ101 ?_
       refine XD.pureMove (i := 9) (l' := (lb 28 1023)) (x := .tmp 5) (oA B50 (pa 798) 9) (I6 (k3_ : Int)) hQ101 (by kernel_rfl) (by kernel_rfl) (by kernel_rfl) (by kernel_rfl) (by kernel_rfl) (by kernel_rfl) ?_
       refine Tk 10 28 2047 B50 798 (.own 2700 0) hQ101 ?_
       refine XD.nilOwn (i := 11) (l' := (lb 28 4095)) (oA B50 (pa 798) 11) (x := .tmp 50) (b := 2700) (off := 0) hQ101 (by kernel_rfl) (by kernel_rfl) (by kernel_rfl) (by kernel_rfl) (by kernel_rfl) (by kernel_rfl) ?_
       refine Tk 12 28 8191 B50 798 (.own 2700 0) hQ101 ?_
       refine Tk 13 28 16383 B50 798 (VL Cp_ (n1p_ - 1) c1p_) hQ101 ?_
       refine Tk 14 28 32767 B50 798 (I6 (k3_ : Int)) hQ101 ?_
       have b108 : (0 : Int) ≤ (k3_ : Int) := by omega
       have b109 : (k3_ : Int) < (((n1p_ - 1) : Nat) : Int) := by omega
       have at110 : At G105 [(600, ⟨89, 5, .slice Cp_ (n1p_ - 1) c1p_, (n1p_ - 1), l3_.flatMap itC⟩)] Cp_ (((k3_ : Int)).toNat * 5) [.int .i64 ((l3_.getD (((k3_ : Int)).toNat) it0).1), .int .i64 ((l3_.getD (((k3_ : Int)).toNat) it0).2.1), .int .i64 ((l3_.getD (((k3_ : Int)).toNat) it0).2.2.1), .int .i64 ((l3_.getD (((k3_ : Int)).toNat) it0).2.2.2.1), .int .u64 ((l3_.getD (((k3_ : Int)).toNat) it0).2.2.2.2)] := At.rowF itC itC_len (i := 600) (r := ⟨89, 5, .slice Cp_ (n1p_ - 1) c1p_, (n1p_ - 1), l3_.flatMap itC⟩) it0 rfl rfl rfl (by rw [hln3_]; omega)
       refine Dx 15 28 65535 B50 798 84 89 5 Cp_ (n1p_ - 1) c1p_ .i64 (k3_ : Int) (.tmp 53) (.tmp 54) hQ101 b108 b109 (rowSome (i := 600) (q := (RR 89 5 Cp_ (n1p_ - 1) c1p_ (l3_.flatMap itC))) rfl rfl (flat_pos itC_len (by decide) (by rw [hln3_]; omega))) ?_
       have at111 : At G105 [(600, ⟨89, 5, .slice Cp_ (n1p_ - 1) c1p_, (n1p_ - 1), l3_.flatMap itC⟩)] Cp_ (((k3_ : Int)).toNat * 5) [.int .i64 ((l3_.getD (((k3_ : Int)).toNat) it0).1), .int .i64 ((l3_.getD (((k3_ : Int)).toNat) it0).2.1), .int .i64 ((l3_.getD (((k3_ : Int)).toNat) it0).2.2.1), .int .i64 ((l3_.getD (((k3_ : Int)).toNat) it0).2.2.2.1), .int .u64 ((l3_.getD (((k3_ : Int)).toNat) it0).2.2.2.2)] := At.rowF itC itC_len (i := 600) (r := ⟨89, 5, .slice Cp_ (n1p_ - 1) c1p_, (n1p_ - 1), l3_.flatMap itC⟩) it0 rfl rfl rfl (by rw [hln3_]; omega)
       refine Dl 16 28 131071 B50 798 89 Cp_ (((k3_ : Int)).toNat * 5) (.tmp 55) (.agg #[N6 ((l3_.getD (((k3_ : Int)).toNat) it0).1), N6 ((l3_.getD (((k3_ : Int)).toNat) it0).2.1), N6 ((l3_.getD (((k3_ : Int)).toNat) it0).2.2.1), N6 ((l3_.getD (((k3_ : Int)).toNat) it0).2.2.2.1), N7 ((l3_.getD (((k3_ : Int)).toNat) it0).2.2.2.2)]) [N6 ((l3_.getD (((k3_ : Int)).toNat) it0).1), N6 ((l3_.getD (((k3_ : Int)).toNat) it0).2.1), N6 ((l3_.getD (((k3_ : Int)).toNat) it0).2.2.1), N6 ((l3_.getD (((k3_ : Int)).toNat) it0).2.2.2.1), N7 ((l3_.getD (((k3_ : Int)).toNat) it0).2.2.2.2)] hQ101 at111 ?_
       refine Tk 17 28 262143 B50 798 (.own 2700 0) hQ101 ?_
       refine XD.nilOwn (i := 18) (l' := (lb 28 524287)) (oA B50 (pa 798) 18) (x := .tmp 57) (b := 2700) (off := 0) hQ101 (by kernel_rfl) (by kernel_rfl) (by kernel_rfl) (by kernel_rfl) (by kernel_rfl) (by kernel_rfl) ?_
       refine Tk 19 28 1048575 B50 798 (.own 2700 0) hQ101 ?_
       refine Tk 20 28 2097151 B50 798 (VL Cp_ (n1p_ - 1) c1p_) hQ101 ?_
       refine Tk 21 28 4194303 B50 798 (I6 (i3_ : Int)) hQ101 ?_
       have b112 : (0 : Int) ≤ (i3_ : Int) := by omega
       have b113 : (i3_ : Int) < (((n1p_ - 1) : Nat) : Int) := by omega
       have at114 : At G105 [(600, ⟨89, 5, .slice Cp_ (n1p_ - 1) c1p_, (n1p_ - 1), l3_.flatMap itC⟩)] Cp_ (((i3_ : Int)).toNat * 5) [.int .i64 ((l3_.getD (((i3_ : Int)).toNat) it0).1), .int .i64 ((l3_.getD (((i3_ : Int)).toNat) it0).2.1), .int .i64 ((l3_.getD (((i3_ : Int)).toNat) it0).2.2.1), .int .i64 ((l3_.getD (((i3_ : Int)).toNat) it0).2.2.2.1), .int .u64 ((l3_.getD (((i3_ : Int)).toNat) it0).2.2.2.2)] := At.rowF itC itC_len (i := 600) (r := ⟨89, 5, .slice Cp_ (n1p_ - 1) c1p_, (n1p_ - 1), l3_.flatMap itC⟩) it0 rfl rfl rfl (by rw [hln3_]; omega)
       refine Dx 22 28 8388607 B50 798 84 89 5 Cp_ (n1p_ - 1) c1p_ .i64 (i3_ : Int) (.tmp 60) (.tmp 61) hQ101 b112 b113 (rowSome (i := 600) (q := (RR 89 5 Cp_ (n1p_ - 1) c1p_ (l3_.flatMap itC))) rfl rfl (flat_pos itC_len (by decide) (by rw [hln3_]; omega))) ?_
       have at115 : At G105 [(600, ⟨89, 5, .slice Cp_ (n1p_ - 1) c1p_, (n1p_ - 1), l3_.flatMap itC⟩)] Cp_ (((i3_ : Int)).toNat * 5) [.int .i64 ((l3_.getD (((i3_ : Int)).toNat) it0).1), .int .i64 ((l3_.getD (((i3_ : Int)).toNat) it0).2.1), .int .i64 ((l3_.getD (((i3_ : Int)).toNat) it0).2.2.1), .int .i64 ((l3_.getD (((i3_ : Int)).toNat) it0).2.2.2.1), .int .u64 ((l3_.getD (((i3_ : Int)).toNat) it0).2.2.2.2)] := At.rowF itC itC_len (i := 600) (r := ⟨89, 5, .slice Cp_ (n1p_ - 1) c1p_, (n1p_ - 1), l3_.flatMap itC⟩) it0 rfl rfl rfl (by rw [hln3_]; omega)
       refine Dl 23 28 16777215 B50 798 89 Cp_ (((i3_ : Int)).toNat * 5) (.tmp 62) (.agg #[N6 ((l3_.getD (((i3_ : Int)).toNat) it0).1), N6 ((l3_.getD (((i3_ : Int)).toNat) it0).2.1), N6 ((l3_.getD (((i3_ : Int)).toNat) it0).2.2.1), N6 ((l3_.getD (((i3_ : Int)).toNat) it0).2.2.2.1), N7 ((l3_.getD (((i3_ : Int)).toNat) it0).2.2.2.2)]) [N6 ((l3_.getD (((i3_ : Int)).toNat) it0).1), N6 ((l3_.getD (((i3_ : Int)).toNat) it0).2.1), N6 ((l3_.getD (((i3_ : Int)).toNat) it0).2.2.1), N6 ((l3_.getD (((i3_ : Int)).toNat) it0).2.2.2.1), N7 ((l3_.getD (((i3_ : Int)).toNat) it0).2.2.2.2)] hQ101 at115 ?_
       have b116 : (0 : Int) ≤ (i3_ : Int) := by omega
       have b117 : (i3_ : Int) < (((n1p_ - 1) : Nat) : Int) := by omega
       have at118 : At G105 [(600, ⟨89, 5, .slice Cp_ (n1p_ - 1) c1p_, (n1p_ - 1), l3_.flatMap itC⟩)] Cp_ (((i3_ : Int)).toNat * 5) [.int .i64 ((l3_.getD (((i3_ : Int)).toNat) it0).1), .int .i64 ((l3_.getD (((i3_ : Int)).toNat) it0).2.1), .int .i64 ((l3_.getD (((i3_ : Int)).toNat) it0).2.2.1), .int .i64 ((l3_.getD (((i3_ : Int)).toNat) it0).2.2.2.1), .int .u64 ((l3_.getD (((i3_ : Int)).toNat) it0).2.2.2.2)] := At.rowF itC itC_len (i := 600) (r := ⟨89, 5, .slice Cp_ (n1p_ - 1) c1p_, (n1p_ - 1), l3_.flatMap itC⟩) it0 rfl rfl rfl (by rw [hln3_]; omega)
       refine Dx 24 28 33554431 B50 798 84 89 5 Cp_ (n1p_ - 1) c1p_ .i64 (i3_ : Int) (.tmp 43) (.tmp 44) hQ101 b116 b117 (rowSome (i := 600) (q := (RR 89 5 Cp_ (n1p_ - 1) c1p_ (l3_.flatMap itC))) rfl rfl (flat_pos itC_len (by decide) (by rw [hln3_]; omega))) ?_
       refine XD.toE ?_
       refine En ⟨67, [(0, .own 2700 0), (1, I6 (i3_ : Int)), (4, .mth 81 2700 0), (5, I6 (k3_ : Int)), (48, VL Cp_ (n1p_ - 1) c1p_), (49, I6 (k3_ : Int)), (56, .v (.agg #[N6 ((l3_.getD (((k3_ : Int)).toNat) it0).1), N6 ((l3_.getD (((k3_ : Int)).toNat) it0).2.1), N6 ((l3_.getD (((k3_ : Int)).toNat) it0).2.2.1), N6 ((l3_.getD (((k3_ : Int)).toNat) it0).2.2.2.1), N7 ((l3_.getD (((k3_ : Int)).toNat) it0).2.2.2.2)])), (63, .v (.agg #[N6 ((l3_.getD (((i3_ : Int)).toNat) it0).1), N6 ((l3_.getD (((i3_ : Int)).toNat) it0).2.1), N6 ((l3_.getD (((i3_ : Int)).toNat) it0).2.2.1), N6 ((l3_.getD (((i3_ : Int)).toNat) it0).2.2.2.1), N7 ((l3_.getD (((i3_ : Int)).toNat) it0).2.2.2.2)])), (64, .v (elt Cp_ (((i3_ : Int)).toNat * 5)))], [(1002, ⟨27, [I6 0, I6 0, I6 0, I6 0]⟩), (1004, ⟨27, [I6 ((l1p_.getD 0 it0).1), I6 ((l1p_.getD 0 it0).2.1), I6 ((l1p_.getD 0 it0).2.2.1), I6 ((l1p_.getD 0 it0).2.2.2.1)]⟩), (2700, ⟨87, [VL Cp_ (n1p_ - 1) c1p_, I7 qm_]⟩)]⟩ ?_
       refine Eo 25 28 67108863 B50 798 ?_
       refine X.storeElem (i := 600) (t := 89) (j := ((i3_ : Int)).toNat * 5) (n := (n1p_ - 1)) (c := c1p_) (q := (RR 89 5 Cp_ (n1p_ - 1) c1p_ (l3_.flatMap itC))) (A := Cp_) (x := .tmp 64) (y := .tmp 56) (z := .agg #[N6 ((l3_.getD (((k3_ : Int)).toNat) it0).1), N6 ((l3_.getD (((k3_ : Int)).toNat) it0).2.1), N6 ((l3_.getD (((k3_ : Int)).toNat) it0).2.2.1), N6 ((l3_.getD (((k3_ : Int)).toNat) it0).2.2.2.1), N7 ((l3_.getD (((k3_ : Int)).toNat) it0).2.2.2.2)]) (by kernel_rfl) (by kernel_rfl) (by kernel_rfl) rfl rfl (by kernel_rfl) (by rw [show _ = _ from flat_len itC_len _, hln3_]; show ((i3_ : Int)).toNat * 5 + 5 ≤ _; omega) (by kernel_rfl) (Nat.succ_pos _) (by kernel_rfl) ?_
       refine X.tellR [600, 19] (R' := [(600, RR 89 5 Cp_ (n1p_ - 1) c1p_ ((l3_.set (((i3_ : Int)).toNat) ((l3_.getD (((k3_ : Int)).toNat) it0).1, (l3_.getD (((k3_ : Int)).toNat) it0).2.1, (l3_.getD (((k3_ : Int)).toNat) it0).2.2.1, (l3_.getD (((k3_ : Int)).toNat) it0).2.2.2.1, (l3_.getD (((k3_ : Int)).toNat) it0).2.2.2.2)).flatMap itC)), (19, RR 27 4 E_ n1m_ ce_ (xsr_.flatMap evC))]) (congrArg (fun cs_ => (600, (RR 89 5 Cp_ (n1p_ - 1) c1p_ cs_ : Row)) :: [(19, RR 27 4 E_ n1m_ ce_ (xsr_.flatMap evC))]) (splice_flat itC_len (((l3_.getD (((k3_ : Int)).toNat) it0).1, (l3_.getD (((k3_ : Int)).toNat) it0).2.1, (l3_.getD (((k3_ : Int)).toNat) it0).2.2.1, (l3_.getD (((k3_ : Int)).toNat) it0).2.2.2.1, (l3_.getD (((k3_ : Int)).toNat) it0).2.2.2.2) : Item) l3_ (((i3_ : Int)).toNat) (by rw [hln3_]; omega))) ?_
       obtain ⟨l119, hl119⟩ : ∃ z_, (l3_.set (((i3_ : Int)).toNat) ((l3_.getD (((k3_ : Int)).toNat) it0).1, (l3_.getD (((k3_ : Int)).toNat) it0).2.1, (l3_.getD (((k3_ : Int)).toNat) it0).2.2.1, (l3_.getD (((k3_ : Int)).toNat) it0).2.2.2.1, (l3_.getD (((k3_ : Int)).toNat) it0).2.2.2.2)) = z_ := ⟨_, rfl⟩
       rw [hl119]
       have hn119 : l119.length = (n1p_ - 1) := by rw [← hl119, List.length_set, hln3_]
       refine X.back ?_
       refine En ⟨67, [(0, .own 2700 0), (1, I6 (i3_ : Int)), (4, .mth 81 2700 0), (5, I6 (k3_ : Int)), (48, VL Cp_ (n1p_ - 1) c1p_), (49, I6 (k3_ : Int)), (63, .v (.agg #[N6 ((l3_.getD (((i3_ : Int)).toNat) it0).1), N6 ((l3_.getD (((i3_ : Int)).toNat) it0).2.1), N6 ((l3_.getD (((i3_ : Int)).toNat) it0).2.2.1), N6 ((l3_.getD (((i3_ : Int)).toNat) it0).2.2.2.1), N7 ((l3_.getD (((i3_ : Int)).toNat) it0).2.2.2.2)]))], [(1002, ⟨27, [I6 0, I6 0, I6 0, I6 0]⟩), (1004, ⟨27, [I6 ((l1p_.getD 0 it0).1), I6 ((l1p_.getD 0 it0).2.1), I6 ((l1p_.getD 0 it0).2.2.1), I6 ((l1p_.getD 0 it0).2.2.2.1)]⟩), (2700, ⟨87, [VL Cp_ (n1p_ - 1) c1p_, I7 qm_]⟩)]⟩ ?_
       refine Eo 26 28 134217727 B50 798 ?_
       have b120 : (0 : Int) ≤ (k3_ : Int) := by omega
       have b121 : (k3_ : Int) < (((n1p_ - 1) : Nat) : Int) := by omega
       refine Ix 84 89 5 Cp_ (n1p_ - 1) c1p_ .i64 (k3_ : Int) (.tmp 48) (.tmp 49) b120 b121 (rowSome (i := 600) (q := (RR 89 5 Cp_ (n1p_ - 1) c1p_ (l119.flatMap itC))) rfl rfl (flat_pos itC_len (by decide) (by rw [hn119]; omega))) ?_
       have at122 : At G105 [(600, ⟨89, 5, .slice Cp_ (n1p_ - 1) c1p_, (n1p_ - 1), l119.flatMap itC⟩), (19, ⟨27, 4, .slice E_ n1m_ ce_, n1m_, xsr_.flatMap evC⟩)] Cp_ (((k3_ : Int)).toNat * 5) [.int .i64 ((l119.getD (((k3_ : Int)).toNat) it0).1), .int .i64 ((l119.getD (((k3_ : Int)).toNat) it0).2.1), .int .i64 ((l119.getD (((k3_ : Int)).toNat) it0).2.2.1), .int .i64 ((l119.getD (((k3_ : Int)).toNat) it0).2.2.2.1), .int .u64 ((l119.getD (((k3_ : Int)).toNat) it0).2.2.2.2)] := At.rowF itC itC_len (i := 600) (r := ⟨89, 5, .slice Cp_ (n1p_ - 1) c1p_, (n1p_ - 1), l119.flatMap itC⟩) it0 rfl rfl rfl (by rw [hn119]; omega)
       refine X.back ?_
       refine En ⟨67, [(0, .own 2700 0), (1, I6 (i3_ : Int)), (4, .mth 81 2700 0), (5, I6 (k3_ : Int)), (63, .v (.agg #[N6 ((l3_.getD (((i3_ : Int)).toNat) it0).1), N6 ((l3_.getD (((i3_ : Int)).toNat) it0).2.1), N6 ((l3_.getD (((i3_ : Int)).toNat) it0).2.2.1), N6 ((l3_.getD (((i3_ : Int)).toNat) it0).2.2.2.1), N7 ((l3_.getD (((i3_ : Int)).toNat) it0).2.2.2.2)])), (65, .v (elt Cp_ (((k3_ : Int)).toNat * 5)))], [(1002, ⟨27, [I6 0, I6 0, I6 0, I6 0]⟩), (1004, ⟨27, [I6 ((l1p_.getD 0 it0).1), I6 ((l1p_.getD 0 it0).2.1), I6 ((l1p_.getD 0 it0).2.2.1), I6 ((l1p_.getD 0 it0).2.2.2.1)]⟩), (2700, ⟨87, [VL Cp_ (n1p_ - 1) c1p_, I7 qm_]⟩)]⟩ ?_
       refine Eo 27 28 268435455 B50 798 ?_
       refine X.storeElem (i := 600) (t := 89) (j := ((k3_ : Int)).toNat * 5) (n := (n1p_ - 1)) (c := c1p_) (q := (RR 89 5 Cp_ (n1p_ - 1) c1p_ (l119.flatMap itC))) (A := Cp_) (x := .tmp 65) (y := .tmp 63) (z := .agg #[N6 ((l3_.getD (((i3_ : Int)).toNat) it0).1), N6 ((l3_.getD (((i3_ : Int)).toNat) it0).2.1), N6 ((l3_.getD (((i3_ : Int)).toNat) it0).2.2.1), N6 ((l3_.getD (((i3_ : Int)).toNat) it0).2.2.2.1), N7 ((l3_.getD (((i3_ : Int)).toNat) it0).2.2.2.2)]) (by kernel_rfl) (by kernel_rfl) (by kernel_rfl) rfl rfl (by kernel_rfl) (by rw [show _ = _ from flat_len itC_len _, hn119]; show ((k3_ : Int)).toNat * 5 + 5 ≤ _; omega) (by kernel_rfl) (Nat.succ_pos _) (by kernel_rfl) ?_
       refine X.tellR [600, 19] (R' := [(600, RR 89 5 Cp_ (n1p_ - 1) c1p_ ((l119.set (((k3_ : Int)).toNat) ((l3_.getD (((i3_ : Int)).toNat) it0).1, (l3_.getD (((i3_ : Int)).toNat) it0).2.1, (l3_.getD (((i3_ : Int)).toNat) it0).2.2.1, (l3_.getD (((i3_ : Int)).toNat) it0).2.2.2.1, (l3_.getD (((i3_ : Int)).toNat) it0).2.2.2.2)).flatMap itC)), (19, RR 27 4 E_ n1m_ ce_ (xsr_.flatMap evC))]) (congrArg (fun cs_ => (600, (RR 89 5 Cp_ (n1p_ - 1) c1p_ cs_ : Row)) :: [(19, RR 27 4 E_ n1m_ ce_ (xsr_.flatMap evC))]) (splice_flat itC_len (((l3_.getD (((i3_ : Int)).toNat) it0).1, (l3_.getD (((i3_ : Int)).toNat) it0).2.1, (l3_.getD (((i3_ : Int)).toNat) it0).2.2.1, (l3_.getD (((i3_ : Int)).toNat) it0).2.2.2.1, (l3_.getD (((i3_ : Int)).toNat) it0).2.2.2.2) : Item) l119 (((k3_ : Int)).toNat) (by rw [hn119]; omega))) ?_
       obtain ⟨l123, hl123⟩ : ∃ z_, (l119.set (((k3_ : Int)).toNat) ((l3_.getD (((i3_ : Int)).toNat) it0).1, (l3_.getD (((i3_ : Int)).toNat) it0).2.1, (l3_.getD (((i3_ : Int)).toNat) it0).2.2.1, (l3_.getD (((i3_ : Int)).toNat) it0).2.2.2.1, (l3_.getD (((i3_ : Int)).toNat) it0).2.2.2.2)) = z_ := ⟨_, rfl⟩
       rw [hl123]
       have hn123 : l123.length = (n1p_ - 1) := by rw [← hl123, List.length_set, hn119]
       refine X.back ?_
       refine XE.done (by kernel_rfl) ?_
       refine Rn 6 (.ex .normal) [.loop J102, .blk 0] ⟨67, [(0, .own 2700 0), (1, I6 (k3_ : Int)), (4, .mth 81 2700 0)], [(1002, ⟨27, [I6 0, I6 0, I6 0, I6 0]⟩), (1004, ⟨27, [I6 ((l1p_.getD 0 it0).1), I6 ((l1p_.getD 0 it0).2.1), I6 ((l1p_.getD 0 it0).2.2.1), I6 ((l1p_.getD 0 it0).2.2.2.1)]⟩), (2700, ⟨87, [VL Cp_ (n1p_ - 1) c1p_, I7 qm_]⟩)]⟩ ?_
       have hsw_ : l123 = swp l3_ i3_ k3_ := by rw [← hl123, ← hl119]; rfl
       exact X.again (hJ102 _ _ _ _ ⟨k3_, l123, rfl, rfl, ((hG102.trans hG104).trans hG105), ⟨⟨by omega, by omega⟩, by rw [hsw_, swp_len]; exact hln3_, by rw [hsw_]; exact down_step hdn_ hri3_ hk0_ (by omega) hki_ hkm_ hlt_, by rw [hsw_]; exact (swp_perm (by omega) (by omega)).trans hpm3_⟩, rfl⟩ (by omega))
     ·
      refine X.inline (f := 81) (l := [.own 2700 0, I6 (k3_ : Int), I6 (i3_ : Int)]) (fn := Try.f81) (c := B81) (by kernel_rfl) (by kernel_rfl) Try.func81 (by kernel_rfl) ?_
      intro Q124 M124 hM124 hQ124 fin124
      refine Rn 6 (Qc B81 6) [Qs B81 7] ⟨52, [(0, .own 3700 0), (1, I6 (k3_ : Int)), (2, I6 (i3_ : Int)), (6, VB false)], [(2002, ⟨27, [I6 0, I6 0, I6 0, I6 0]⟩), (2004, ⟨27, [I6 ((l1p_.getD 0 it0).1), I6 ((l1p_.getD 0 it0).2.1), I6 ((l1p_.getD 0 it0).2.2.1), I6 ((l1p_.getD 0 it0).2.2.2.1)]⟩), (3700, ⟨87, [VL Cp_ (n1p_ - 1) c1p_, I7 qm_]⟩)]⟩ ?_
      have hra_d125 := hra
      have hrb_d125 := hrb
      have hrxx__d125 := hrxx_
      have hrxy__d125 := hrxy_
      have hrxr__d125 := hrxr_
      refine Og 1 B81 6 14 [⟨some 0, 3700, 87, [VL Cp_ (n1p_ - 1) c1p_, I7 qm_]⟩] [(600, RR 89 5 Cp_ (n1p_ - 1) c1p_ (l3_.flatMap itC))] [] ⟨⟨fun _ h => (by cases h; rfl), rfl⟩, trivial⟩ (by intro p hp hn; simp only [List.mem_cons, List.not_mem_nil, or_false] at hp; rcases hp with rfl <;> first | (cases hn; done) | exact hM124 _ (Nat.le_of_ble_eq_true rfl)) (fun ρ0 => ?_)
      refine Tk 0 14 1 B81 6 (.own 3700 0) hQ124 ?_
      refine XD.nilOwn (i := 1) (l' := (lb 14 3)) (oA B81 (pa 6) 1) (x := .tmp 9) (b := 3700) (off := 0) hQ124 (by kernel_rfl) (by kernel_rfl) (by kernel_rfl) (by kernel_rfl) (by kernel_rfl) (by kernel_rfl) ?_
      refine Tk 2 14 7 B81 6 (.own 3700 0) hQ124 ?_
      refine Tk 3 14 15 B81 6 (VL Cp_ (n1p_ - 1) c1p_) hQ124 ?_
      refine Tk 4 14 31 B81 6 (I6 (k3_ : Int)) hQ124 ?_
      have b126 : (0 : Int) ≤ (k3_ : Int) := by omega
      have b127 : (k3_ : Int) < (((n1p_ - 1) : Nat) : Int) := by omega
      have at128 : At G104 [(600, ⟨89, 5, .slice Cp_ (n1p_ - 1) c1p_, (n1p_ - 1), l3_.flatMap itC⟩)] Cp_ (((k3_ : Int)).toNat * 5) [.int .i64 ((l3_.getD (((k3_ : Int)).toNat) it0).1), .int .i64 ((l3_.getD (((k3_ : Int)).toNat) it0).2.1), .int .i64 ((l3_.getD (((k3_ : Int)).toNat) it0).2.2.1), .int .i64 ((l3_.getD (((k3_ : Int)).toNat) it0).2.2.2.1), .int .u64 ((l3_.getD (((k3_ : Int)).toNat) it0).2.2.2.2)] := At.rowF itC itC_len (i := 600) (r := ⟨89, 5, .slice Cp_ (n1p_ - 1) c1p_, (n1p_ - 1), l3_.flatMap itC⟩) it0 rfl rfl rfl (by rw [hln3_]; omega)
      refine Dx 5 14 63 B81 6 84 89 5 Cp_ (n1p_ - 1) c1p_ .i64 (k3_ : Int) (.tmp 12) (.tmp 13) hQ124 b126 b127 (rowSome (i := 600) (q := (RR 89 5 Cp_ (n1p_ - 1) c1p_ (l3_.flatMap itC))) rfl rfl (flat_pos itC_len (by decide) (by rw [hln3_]; omega))) ?_
      refine Tk 6 14 127 B81 6 (.own 3700 0) hQ124 ?_
      refine XD.nilOwn (i := 7) (l' := (lb 14 255)) (oA B81 (pa 6) 7) (x := .tmp 15) (b := 3700) (off := 0) hQ124 (by kernel_rfl) (by kernel_rfl) (by kernel_rfl) (by kernel_rfl) (by kernel_rfl) (by kernel_rfl) ?_
      refine Tk 8 14 511 B81 6 (.own 3700 0) hQ124 ?_
      refine Tk 9 14 1023 B81 6 (VL Cp_ (n1p_ - 1) c1p_) hQ124 ?_
      refine Tk 10 14 2047 B81 6 (I6 (i3_ : Int)) hQ124 ?_
      have b129 : (0 : Int) ≤ (i3_ : Int) := by omega
      have b130 : (i3_ : Int) < (((n1p_ - 1) : Nat) : Int) := by omega
      have at131 : At G104 [(600, ⟨89, 5, .slice Cp_ (n1p_ - 1) c1p_, (n1p_ - 1), l3_.flatMap itC⟩)] Cp_ (((i3_ : Int)).toNat * 5) [.int .i64 ((l3_.getD (((i3_ : Int)).toNat) it0).1), .int .i64 ((l3_.getD (((i3_ : Int)).toNat) it0).2.1), .int .i64 ((l3_.getD (((i3_ : Int)).toNat) it0).2.2.1), .int .i64 ((l3_.getD (((i3_ : Int)).toNat) it0).2.2.2.1), .int .u64 ((l3_.getD (((i3_ : Int)).toNat) it0).2.2.2.2)] := At.rowF itC itC_len (i := 600) (r := ⟨89, 5, .slice Cp_ (n1p_ - 1) c1p_, (n1p_ - 1), l3_.flatMap itC⟩) it0 rfl rfl rfl (by rw [hln3_]; omega)
      refine Dx 11 14 4095 B81 6 84 89 5 Cp_ (n1p_ - 1) c1p_ .i64 (i3_ : Int) (.tmp 18) (.tmp 19) hQ124 b129 b130 (rowSome (i := 600) (q := (RR 89 5 Cp_ (n1p_ - 1) c1p_ (l3_.flatMap itC))) rfl rfl (flat_pos itC_len (by decide) (by rw [hln3_]; omega))) ?_
      refine Ts [12, 13] 14 16383 0 2 hQ124 ?_
      refine XD.done (by kernel_rfl) ?_
      refine Rn 3 (Qc B81 28) [Qs B81 29, Qs B81 15] ⟨52, [(6, VB false), (7, .v (elt Cp_ (((k3_ : Int)).toNat * 5))), (8, .v (elt Cp_ (((i3_ : Int)).toNat * 5)))], [(2002, ⟨27, [I6 0, I6 0, I6 0, I6 0]⟩), (2004, ⟨27, [I6 ((l1p_.getD 0 it0).1), I6 ((l1p_.getD 0 it0).2.1), I6 ((l1p_.getD 0 it0).2.2.1), I6 ((l1p_.getD 0 it0).2.2.2.1)]⟩), (3700, ⟨87, [VL Cp_ (n1p_ - 1) c1p_, I7 qm_]⟩)]⟩ ?_
      have hra_d132 := hra
      have hrb_d132 := hrb
      have hrxx__d132 := hrxx_
      have hrxy__d132 := hrxy_
      have hrxr__d132 := hrxr_
      refine Og 2 B81 28 11 [] [(600, RR 89 5 Cp_ (n1p_ - 1) c1p_ (l3_.flatMap itC))] [] trivial (by simp) (fun ρ0 => ?_)
      refine Tk 0 11 1 B81 28 (.v (elt Cp_ (((k3_ : Int)).toNat * 5))) hQ124 ?_
      refine XD.nilElt (i := 1) (l' := (lb 11 3)) (oA B81 (pa 28) 1) (x := .tmp 21) (A := Cp_) (j := ((k3_ : Int)).toNat * 5) hQ124 (by kernel_rfl) (by kernel_rfl) (by kernel_rfl) (by kernel_rfl) (by kernel_rfl) (by kernel_rfl) ?_
      refine XD.field (i := 2) (l' := (lb 11 7)) (o := (oA B81 (pa 28) 2)) (t := 89) (f := 0) (n := 0) (A := Cp_) (j := ((k3_ : Int)).toNat * 5) (x := .tmp 22) hQ124 (by kernel_rfl) (by kernel_rfl) (by kernel_rfl) (by kernel_rfl) (by kernel_rfl) (by kernel_rfl) (by kernel_rfl) ?_
      refine XD.field (i := 3) (l' := (lb 11 15)) (o := (oA B81 (pa 28) 3)) (t := 27) (f := 0) (n := 0) (A := Cp_) (j := ((k3_ : Int)).toNat * 5 + 0) (x := .tmp 23) hQ124 (by kernel_rfl) (by kernel_rfl) (by kernel_rfl) (by kernel_rfl) (by kernel_rfl) (by kernel_rfl) (by kernel_rfl) ?_
      have at133 : At G104 [(600, ⟨89, 5, .slice Cp_ (n1p_ - 1) c1p_, (n1p_ - 1), l3_.flatMap itC⟩)] Cp_ (((k3_ : Int)).toNat * 5) [.int .i64 ((l3_.getD (((k3_ : Int)).toNat) it0).1), .int .i64 ((l3_.getD (((k3_ : Int)).toNat) it0).2.1), .int .i64 ((l3_.getD (((k3_ : Int)).toNat) it0).2.2.1), .int .i64 ((l3_.getD (((k3_ : Int)).toNat) it0).2.2.2.1), .int .u64 ((l3_.getD (((k3_ : Int)).toNat) it0).2.2.2.2)] := At.rowF itC itC_len (i := 600) (r := ⟨89, 5, .slice Cp_ (n1p_ - 1) c1p_, (n1p_ - 1), l3_.flatMap itC⟩) it0 rfl rfl rfl (by rw [hln3_]; omega)
      refine Dl 4 11 31 B81 28 2 Cp_ (((k3_ : Int)).toNat * 5 + 0 + 0) (.tmp 24) (N6 ((l3_.getD (((k3_ : Int)).toNat) it0).1)) [N6 ((l3_.getD (((k3_ : Int)).toNat) it0).1)] hQ124 (at133.part 0 1) ?_
      refine Tk 5 11 63 B81 28 (.v (elt Cp_ (((i3_ : Int)).toNat * 5))) hQ124 ?_
      refine XD.nilElt (i := 6) (l' := (lb 11 127)) (oA B81 (pa 28) 6) (x := .tmp 26) (A := Cp_) (j := ((i3_ : Int)).toNat * 5) hQ124 (by kernel_rfl) (by kernel_rfl) (by kernel_rfl) (by kernel_rfl) (by kernel_rfl) (by kernel_rfl) ?_
      refine XD.field (i := 7) (l' := (lb 11 255)) (o := (oA B81 (pa 28) 7)) (t := 89) (f := 0) (n := 0) (A := Cp_) (j := ((i3_ : Int)).toNat * 5) (x := .tmp 27) hQ124 (by kernel_rfl) (by kernel_rfl) (by kernel_rfl) (by kernel_rfl) (by kernel_rfl) (by kernel_rfl) (by kernel_rfl) ?_
      refine XD.field (i := 8) (l' := (lb 11 511)) (o := (oA B81 (pa 28) 8)) (t := 27) (f := 0) (n := 0) (A := Cp_) (j := ((i3_ : Int)).toNat * 5 + 0) (x := .tmp 28) hQ124 (by kernel_rfl) (by kernel_rfl) (by kernel_rfl) (by kernel_rfl) (by kernel_rfl) (by kernel_rfl) (by kernel_rfl) ?_
      have at134 : At G104 [(600, ⟨89, 5, .slice Cp_ (n1p_ - 1) c1p_, (n1p_ - 1), l3_.flatMap itC⟩)] Cp_ (((i3_ : Int)).toNat * 5) [.int .i64 ((l3_.getD (((i3_ : Int)).toNat) it0).1), .int .i64 ((l3_.getD (((i3_ : Int)).toNat) it0).2.1), .int .i64 ((l3_.getD (((i3_ : Int)).toNat) it0).2.2.1), .int .i64 ((l3_.getD (((i3_ : Int)).toNat) it0).2.2.2.1), .int .u64 ((l3_.getD (((i3_ : Int)).toNat) it0).2.2.2.2)] := At.rowF itC itC_len (i := 600) (r := ⟨89, 5, .slice Cp_ (n1p_ - 1) c1p_, (n1p_ - 1), l3_.flatMap itC⟩) it0 rfl rfl rfl (by rw [hln3_]; omega)
      refine Dl 9 11 1023 B81 28 2 Cp_ (((i3_ : Int)).toNat * 5 + 0 + 0) (.tmp 29) (N6 ((l3_.getD (((i3_ : Int)).toNat) it0).1)) [N6 ((l3_.getD (((i3_ : Int)).toNat) it0).1)] hQ124 (at134.part 0 1) ?_
      refine Ts [10] 11 2047 0 1 hQ124 ?_
      refine XD.done (by kernel_rfl) ?_
      refine Rn 1 (Qc B81 29) [Qs B81 15] ⟨52, [(6, VB false), (7, .v (elt Cp_ (((k3_ : Int)).toNat * 5))), (8, .v (elt Cp_ (((i3_ : Int)).toNat * 5))), (31, VB (((l3_.getD (((k3_ : Int)).toNat) it0).1) != ((l3_.getD (((i3_ : Int)).toNat) it0).1)))], [(2002, ⟨27, [I6 0, I6 0, I6 0, I6 0]⟩), (2004, ⟨27, [I6 ((l1p_.getD 0 it0).1), I6 ((l1p_.getD 0 it0).2.1), I6 ((l1p_.getD 0 it0).2.2.1), I6 ((l1p_.getD 0 it0).2.2.2.1)]⟩), (3700, ⟨87, [VL Cp_ (n1p_ - 1) c1p_, I7 qm_]⟩)]⟩ ?_
      refine X.split 31 rfl (fun h135 => ?_) (fun h135 => ?_)
      ·
       replace h135 : ((l3_.getD (((k3_ : Int)).toNat) it0).1) ≠ ((l3_.getD (((i3_ : Int)).toNat) it0).1) := by simpa using h135
       refine Rn 2 (Qc B81 116) [Qs B81 117, Qs B81 15] ⟨52, [(6, VB false), (7, .v (elt Cp_ (((k3_ : Int)).toNat * 5))), (8, .v (elt Cp_ (((i3_ : Int)).toNat * 5)))], [(2002, ⟨27, [I6 0, I6 0, I6 0, I6 0]⟩), (2004, ⟨27, [I6 ((l1p_.getD 0 it0).1), I6 ((l1p_.getD 0 it0).2.1), I6 ((l1p_.getD 0 it0).2.2.1), I6 ((l1p_.getD 0 it0).2.2.2.1)]⟩), (3700, ⟨87, [VL Cp_ (n1p_ - 1) c1p_, I7 qm_]⟩)]⟩ ?_
       have hra_d136 := hra
       have hrb_d136 := hrb
       have hrxx__d136 := hrxx_
       have hrxy__d136 := hrxy_
       have hrxr__d136 := hrxr_
       refine Og 3 B81 116 12 [] [(600, RR 89 5 Cp_ (n1p_ - 1) c1p_ (l3_.flatMap itC))] [] trivial (by simp) (fun ρ0 => ?_)
       refine Tk 0 12 1 B81 116 (.v (elt Cp_ (((k3_ : Int)).toNat * 5))) hQ124 ?_
       refine XD.nilElt (i := 1) (l' := (lb 12 3)) (oA B81 (pa 116) 1) (x := .tmp 32) (A := Cp_) (j := ((k3_ : Int)).toNat * 5) hQ124 (by kernel_rfl) (by kernel_rfl) (by kernel_rfl) (by kernel_rfl) (by kernel_rfl) (by kernel_rfl) ?_
       refine XD.field (i := 2) (l' := (lb 12 7)) (o := (oA B81 (pa 116) 2)) (t := 89) (f := 0) (n := 0) (A := Cp_) (j := ((k3_ : Int)).toNat * 5) (x := .tmp 33) hQ124 (by kernel_rfl) (by kernel_rfl) (by kernel_rfl) (by kernel_rfl) (by kernel_rfl) (by kernel_rfl) (by kernel_rfl) ?_
       refine XD.field (i := 3) (l' := (lb 12 15)) (o := (oA B81 (pa 116) 3)) (t := 27) (f := 0) (n := 0) (A := Cp_) (j := ((k3_ : Int)).toNat * 5 + 0) (x := .tmp 34) hQ124 (by kernel_rfl) (by kernel_rfl) (by kernel_rfl) (by kernel_rfl) (by kernel_rfl) (by kernel_rfl) (by kernel_rfl) ?_
       have at137 : At G104 [(600, ⟨89, 5, .slice Cp_ (n1p_ - 1) c1p_, (n1p_ - 1), l3_.flatMap itC⟩)] Cp_ (((k3_ : Int)).toNat * 5) [.int .i64 ((l3_.getD (((k3_ : Int)).toNat) it0).1), .int .i64 ((l3_.getD (((k3_ : Int)).toNat) it0).2.1), .int .i64 ((l3_.getD (((k3_ : Int)).toNat) it0).2.2.1), .int .i64 ((l3_.getD (((k3_ : Int)).toNat) it0).2.2.2.1), .int .u64 ((l3_.getD (((k3_ : Int)).toNat) it0).2.2.2.2)] := At.rowF itC itC_len (i := 600) (r := ⟨89, 5, .slice Cp_ (n1p_ - 1) c1p_, (n1p_ - 1), l3_.flatMap itC⟩) it0 rfl rfl rfl (by rw [hln3_]; omega)
       refine Dl 4 12 31 B81 116 2 Cp_ (((k3_ : Int)).toNat * 5 + 0 + 0) (.tmp 35) (N6 ((l3_.getD (((k3_ : Int)).toNat) it0).1)) [N6 ((l3_.getD (((k3_ : Int)).toNat) it0).1)] hQ124 (at137.part 0 1) ?_
       refine Tk 5 12 63 B81 116 (.v (elt Cp_ (((i3_ : Int)).toNat * 5))) hQ124 ?_
       refine XD.nilElt (i := 6) (l' := (lb 12 127)) (oA B81 (pa 116) 6) (x := .tmp 37) (A := Cp_) (j := ((i3_ : Int)).toNat * 5) hQ124 (by kernel_rfl) (by kernel_rfl) (by kernel_rfl) (by kernel_rfl) (by kernel_rfl) (by kernel_rfl) ?_
       refine XD.field (i := 7) (l' := (lb 12 255)) (o := (oA B81 (pa 116) 7)) (t := 89) (f := 0) (n := 0) (A := Cp_) (j := ((i3_ : Int)).toNat * 5) (x := .tmp 38) hQ124 (by kernel_rfl) (by kernel_rfl) (by kernel_rfl) (by kernel_rfl) (by kernel_rfl) (by kernel_rfl) (by kernel_rfl) ?_
       refine XD.field (i := 8) (l' := (lb 12 511)) (o := (oA B81 (pa 116) 8)) (t := 27) (f := 0) (n := 0) (A := Cp_) (j := ((i3_ : Int)).toNat * 5 + 0) (x := .tmp 39) hQ124 (by kernel_rfl) (by kernel_rfl) (by kernel_rfl) (by kernel_rfl) (by kernel_rfl) (by kernel_rfl) (by kernel_rfl) ?_
       have at138 : At G104 [(600, ⟨89, 5, .slice Cp_ (n1p_ - 1) c1p_, (n1p_ - 1), l3_.flatMap itC⟩)] Cp_ (((i3_ : Int)).toNat * 5) [.int .i64 ((l3_.getD (((i3_ : Int)).toNat) it0).1), .int .i64 ((l3_.getD (((i3_ : Int)).toNat) it0).2.1), .int .i64 ((l3_.getD (((i3_ : Int)).toNat) it0).2.2.1), .int .i64 ((l3_.getD (((i3_ : Int)).toNat) it0).2.2.2.1), .int .u64 ((l3_.getD (((i3_ : Int)).toNat) it0).2.2.2.2)] := At.rowF itC itC_len (i := 600) (r := ⟨89, 5, .slice Cp_ (n1p_ - 1) c1p_, (n1p_ - 1), l3_.flatMap itC⟩) it0 rfl rfl rfl (by rw [hln3_]; omega)
       refine Dl 9 12 1023 B81 116 2 Cp_ (((i3_ : Int)).toNat * 5 + 0 + 0) (.tmp 40) (N6 ((l3_.getD (((i3_ : Int)).toNat) it0).1)) [N6 ((l3_.getD (((i3_ : Int)).toNat) it0).1)] hQ124 (at138.part 0 1) ?_
       refine Ts [10, 11] 12 4095 0 2 hQ124 ?_
       refine XD.done (by kernel_rfl) ?_
       refine Rn 3 (.ex .ret) [] ⟨52, [(6, VB (decide ((l3_.getD (((k3_ : Int)).toNat) it0).1 < (l3_.getD (((i3_ : Int)).toNat) it0).1)))], [(2002, ⟨27, [I6 0, I6 0, I6 0, I6 0]⟩), (2004, ⟨27, [I6 ((l1p_.getD 0 it0).1), I6 ((l1p_.getD 0 it0).2.1), I6 ((l1p_.getD 0 it0).2.2.1), I6 ((l1p_.getD 0 it0).2.2.2.1)]⟩), (3700, ⟨87, [VL Cp_ (n1p_ - 1) c1p_, I7 qm_]⟩)]⟩ ?_
       refine fin124 _ _ _ _ [.bool (decide ((l3_.getD (((k3_ : Int)).toNat) it0).1 < (l3_.getD (((i3_ : Int)).toNat) it0).1))] [(1002, ⟨27, [I6 0, I6 0, I6 0, I6 0]⟩), (1004, ⟨27, [I6 ((l1p_.getD 0 it0).1), I6 ((l1p_.getD 0 it0).2.1), I6 ((l1p_.getD 0 it0).2.2.1), I6 ((l1p_.getD 0 it0).2.2.2.1)]⟩), (2700, ⟨87, [VL Cp_ (n1p_ - 1) c1p_, I7 qm_]⟩)] (.inl rfl) (by kernel_rfl) (by kernel_rfl) ?_
       refine Rn 3 (Qc B50 797) [Qs B50 399, .blk 1, .loop J102, .blk 0] ⟨67, [(0, .own 2700 0), (1, I6 (i3_ : Int)), (4, .mth 81 2700 0), (5, I6 (k3_ : Int)), (39, VB (!(decide ((l3_.getD (((k3_ : Int)).toNat) it0).1 < (l3_.getD (((i3_ : Int)).toNat) it0).1))))], [(1002, ⟨27, [I6 0, I6 0, I6 0, I6 0]⟩), (1004, ⟨27, [I6 ((l1p_.getD 0 it0).1), I6 ((l1p_.getD 0 it0).2.1), I6 ((l1p_.getD 0 it0).2.2.1), I6 ((l1p_.getD 0 it0).2.2.2.1)]⟩), (2700, ⟨87, [VL Cp_ (n1p_ - 1) c1p_, I7 qm_]⟩)]⟩ ?_
       refine X.castS ⟨67, [(0, .own 2700 0), (1, I6 (i3_ : Int)), (4, .mth 81 2700 0), (5, I6 (k3_ : Int)), (39, VB (!(decide (ltI (l3_.getD ((k3_ : Int)).toNat it0) (l3_.getD ((i3_ : Int)).toNat it0)))))], [(1002, ⟨27, [I6 0, I6 0, I6 0, I6 0]⟩), (1004, ⟨27, [I6 ((l1p_.getD 0 it0).1), I6 ((l1p_.getD 0 it0).2.1), I6 ((l1p_.getD 0 it0).2.2.1), I6 ((l1p_.getD 0 it0).2.2.2.1)]⟩), (2700, ⟨87, [VL Cp_ (n1p_ - 1) c1p_, I7 qm_]⟩)]⟩ (congrArg (fun zb_ : Bool => (⟨67, [(0, .own 2700 0), (1, I6 (i3_ : Int)), (4, .mth 81 2700 0), (5, I6 (k3_ : Int)), (39, VB zb_)], [(1002, ⟨27, [I6 0, I6 0, I6 0, I6 0]⟩), (1004, ⟨27, [I6 ((l1p_.getD 0 it0).1), I6 ((l1p_.getD 0 it0).2.1), I6 ((l1p_.getD 0 it0).2.2.1), I6 ((l1p_.getD 0 it0).2.2.2.1)]⟩), (2700, ⟨87, [VL Cp_ (n1p_ - 1) c1p_, I7 qm_]⟩)]⟩ : S)) (show (!(decide ((l3_.getD (((k3_ : Int)).toNat) it0).1 < (l3_.getD (((i3_ : Int)).toNat) it0).1))) = (!(decide (ltI (l3_.getD ((k3_ : Int)).toNat it0) (l3_.getD ((i3_ : Int)).toNat it0)))) by first | exact congrArg (fun b_ => !b_) (decide_eq_decide.mpr (by unfold ltI; omega)) | exact decide_eq_decide.mpr (by unfold ltI; omega))) ?_
       exact hY105 _ (Ge.refl _ _)
      ·
       replace h135 : ((l3_.getD (((k3_ : Int)).toNat) it0).1) = ((l3_.getD (((i3_ : Int)).toNat) it0).1) := by simpa using h135
       refine Rn 4 (Qc B81 30) [Qs B81 31] ⟨52, [(6, VB false), (7, .v (elt Cp_ (((k3_ : Int)).toNat * 5))), (8, .v (elt Cp_ (((i3_ : Int)).toNat * 5)))], [(2002, ⟨27, [I6 0, I6 0, I6 0, I6 0]⟩), (2004, ⟨27, [I6 ((l1p_.getD 0 it0).1), I6 ((l1p_.getD 0 it0).2.1), I6 ((l1p_.getD 0 it0).2.2.1), I6 ((l1p_.getD 0 it0).2.2.2.1)]⟩), (3700, ⟨87, [VL Cp_ (n1p_ - 1) c1p_, I7 qm_]⟩)]⟩ ?_
       have hra_d139 := hra
       have hrb_d139 := hrb
       have hrxx__d139 := hrxx_
       have hrxy__d139 := hrxy_
       have hrxr__d139 := hrxr_
       refine Og 4 B81 30 10 [] [(600, RR 89 5 Cp_ (n1p_ - 1) c1p_ (l3_.flatMap itC))] [] trivial (by simp) (fun ρ0 => ?_)
       refine Tk 0 10 1 B81 30 (.v (elt Cp_ (((k3_ : Int)).toNat * 5))) hQ124 ?_
       refine XD.nilElt (i := 1) (l' := (lb 10 3)) (oA B81 (pa 30) 1) (x := .tmp 43) (A := Cp_) (j := ((k3_ : Int)).toNat * 5) hQ124 (by kernel_rfl) (by kernel_rfl) (by kernel_rfl) (by kernel_rfl) (by kernel_rfl) (by kernel_rfl) ?_
       refine XD.field (i := 2) (l' := (lb 10 7)) (o := (oA B81 (pa 30) 2)) (t := 89) (f := 1) (n := 4) (A := Cp_) (j := ((k3_ : Int)).toNat * 5) (x := .tmp 44) hQ124 (by kernel_rfl) (by kernel_rfl) (by kernel_rfl) (by kernel_rfl) (by kernel_rfl) (by kernel_rfl) (by kernel_rfl) ?_
       have at140 : At G104 [(600, ⟨89, 5, .slice Cp_ (n1p_ - 1) c1p_, (n1p_ - 1), l3_.flatMap itC⟩)] Cp_ (((k3_ : Int)).toNat * 5) [.int .i64 ((l3_.getD (((k3_ : Int)).toNat) it0).1), .int .i64 ((l3_.getD (((k3_ : Int)).toNat) it0).2.1), .int .i64 ((l3_.getD (((k3_ : Int)).toNat) it0).2.2.1), .int .i64 ((l3_.getD (((k3_ : Int)).toNat) it0).2.2.2.1), .int .u64 ((l3_.getD (((k3_ : Int)).toNat) it0).2.2.2.2)] := At.rowF itC itC_len (i := 600) (r := ⟨89, 5, .slice Cp_ (n1p_ - 1) c1p_, (n1p_ - 1), l3_.flatMap itC⟩) it0 rfl rfl rfl (by rw [hln3_]; omega)
       refine Dl 3 10 15 B81 30 85 Cp_ (((k3_ : Int)).toNat * 5 + 4) (.tmp 45) (N7 ((l3_.getD (((k3_ : Int)).toNat) it0).2.2.2.2)) [N7 ((l3_.getD (((k3_ : Int)).toNat) it0).2.2.2.2)] hQ124 (at140.part 4 1) ?_
       refine Tk 4 10 31 B81 30 (.v (elt Cp_ (((i3_ : Int)).toNat * 5))) hQ124 ?_
       refine XD.nilElt (i := 5) (l' := (lb 10 63)) (oA B81 (pa 30) 5) (x := .tmp 47) (A := Cp_) (j := ((i3_ : Int)).toNat * 5) hQ124 (by kernel_rfl) (by kernel_rfl) (by kernel_rfl) (by kernel_rfl) (by kernel_rfl) (by kernel_rfl) ?_
       refine XD.field (i := 6) (l' := (lb 10 127)) (o := (oA B81 (pa 30) 6)) (t := 89) (f := 1) (n := 4) (A := Cp_) (j := ((i3_ : Int)).toNat * 5) (x := .tmp 48) hQ124 (by kernel_rfl) (by kernel_rfl) (by kernel_rfl) (by kernel_rfl) (by kernel_rfl) (by kernel_rfl) (by kernel_rfl) ?_
       have at141 : At G104 [(600, ⟨89, 5, .slice Cp_ (n1p_ - 1) c1p_, (n1p_ - 1), l3_.flatMap itC⟩)] Cp_ (((i3_ : Int)).toNat * 5) [.int .i64 ((l3_.getD (((i3_ : Int)).toNat) it0).1), .int .i64 ((l3_.getD (((i3_ : Int)).toNat) it0).2.1), .int .i64 ((l3_.getD (((i3_ : Int)).toNat) it0).2.2.1), .int .i64 ((l3_.getD (((i3_ : Int)).toNat) it0).2.2.2.1), .int .u64 ((l3_.getD (((i3_ : Int)).toNat) it0).2.2.2.2)] := At.rowF itC itC_len (i := 600) (r := ⟨89, 5, .slice Cp_ (n1p_ - 1) c1p_, (n1p_ - 1), l3_.flatMap itC⟩) it0 rfl rfl rfl (by rw [hln3_]; omega)
       refine Dl 7 10 255 B81 30 85 Cp_ (((i3_ : Int)).toNat * 5 + 4) (.tmp 49) (N7 ((l3_.getD (((i3_ : Int)).toNat) it0).2.2.2.2)) [N7 ((l3_.getD (((i3_ : Int)).toNat) it0).2.2.2.2)] hQ124 (at141.part 4 1) ?_
       refine Ts [8, 9] 10 1023 0 2 hQ124 ?_
       refine XD.done (by kernel_rfl) ?_
       refine Rn 2 (.ex .ret) [] ⟨52, [(6, VB (decide ((l3_.getD (((k3_ : Int)).toNat) it0).2.2.2.2 < (l3_.getD (((i3_ : Int)).toNat) it0).2.2.2.2)))], [(2002, ⟨27, [I6 0, I6 0, I6 0, I6 0]⟩), (2004, ⟨27, [I6 ((l1p_.getD 0 it0).1), I6 ((l1p_.getD 0 it0).2.1), I6 ((l1p_.getD 0 it0).2.2.1), I6 ((l1p_.getD 0 it0).2.2.2.1)]⟩), (3700, ⟨87, [VL Cp_ (n1p_ - 1) c1p_, I7 qm_]⟩)]⟩ ?_
       refine fin124 _ _ _ _ [.bool (decide ((l3_.getD (((k3_ : Int)).toNat) it0).2.2.2.2 < (l3_.getD (((i3_ : Int)).toNat) it0).2.2.2.2))] [(1002, ⟨27, [I6 0, I6 0, I6 0, I6 0]⟩), (1004, ⟨27, [I6 ((l1p_.getD 0 it0).1), I6 ((l1p_.getD 0 it0).2.1), I6 ((l1p_.getD 0 it0).2.2.1), I6 ((l1p_.getD 0 it0).2.2.2.1)]⟩), (2700, ⟨87, [VL Cp_ (n1p_ - 1) c1p_, I7 qm_]⟩)] (.inl rfl) (by kernel_rfl) (by kernel_rfl) ?_
       refine Rn 3 (Qc B50 797) [Qs B50 399, .blk 1, .loop J102, .blk 0] ⟨67, [(0, .own 2700 0), (1, I6 (i3_ : Int)), (4, .mth 81 2700 0), (5, I6 (k3_ : Int)), (39, VB (!(decide ((l3_.getD (((k3_ : Int)).toNat) it0).2.2.2.2 < (l3_.getD (((i3_ : Int)).toNat) it0).2.2.2.2))))], [(1002, ⟨27, [I6 0, I6 0, I6 0, I6 0]⟩), (1004, ⟨27, [I6 ((l1p_.getD 0 it0).1), I6 ((l1p_.getD 0 it0).2.1), I6 ((l1p_.getD 0 it0).2.2.1), I6 ((l1p_.getD 0 it0).2.2.2.1)]⟩), (2700, ⟨87, [VL Cp_ (n1p_ - 1) c1p_, I7 qm_]⟩)]⟩ ?_
       refine X.castS ⟨67, [(0, .own 2700 0), (1, I6 (i3_ : Int)), (4, .mth 81 2700 0), (5, I6 (k3_ : Int)), (39, VB (!(decide (ltI (l3_.getD ((k3_ : Int)).toNat it0) (l3_.getD ((i3_ : Int)).toNat it0)))))], [(1002, ⟨27, [I6 0, I6 0, I6 0, I6 0]⟩), (1004, ⟨27, [I6 ((l1p_.getD 0 it0).1), I6 ((l1p_.getD 0 it0).2.1), I6 ((l1p_.getD 0 it0).2.2.1), I6 ((l1p_.getD 0 it0).2.2.2.1)]⟩), (2700, ⟨87, [VL Cp_ (n1p_ - 1) c1p_, I7 qm_]⟩)]⟩ (congrArg (fun zb_ : Bool => (⟨67, [(0, .own 2700 0), (1, I6 (i3_ : Int)), (4, .mth 81 2700 0), (5, I6 (k3_ : Int)), (39, VB zb_)], [(1002, ⟨27, [I6 0, I6 0, I6 0, I6 0]⟩), (1004, ⟨27, [I6 ((l1p_.getD 0 it0).1), I6 ((l1p_.getD 0 it0).2.1), I6 ((l1p_.getD 0 it0).2.2.1), I6 ((l1p_.getD 0 it0).2.2.2.1)]⟩), (2700, ⟨87, [VL Cp_ (n1p_ - 1) c1p_, I7 qm_]⟩)]⟩ : S)) (show (!(decide ((l3_.getD (((k3_ : Int)).toNat) it0).2.2.2.2 < (l3_.getD (((i3_ : Int)).toNat) it0).2.2.2.2))) = (!(decide (ltI (l3_.getD ((k3_ : Int)).toNat it0) (l3_.getD ((i3_ : Int)).toNat it0)))) by first | exact congrArg (fun b_ => !b_) (decide_eq_decide.mpr (by unfold ltI; omega)) | exact decide_eq_decide.mpr (by unfold ltI; omega))) ?_
       exact hY105 _ (Ge.refl _ _)
    ·
     refine Rn 8 (Qo B50 396 2) [Qs B50 397, Qs B50 199, .blk 1, .loop J102, .blk 0] ⟨67, [(0, .own 2700 0), (1, I6 (i3_ : Int)), (4, .mth 81 2700 0), (5, I6 ((2 * i3_ + 1 : Nat) : Int)), (19, I6 (IntKind.i64.wrap (((2 * i3_ + 1 : Nat) : Int) + 1)))], [(1002, ⟨27, [I6 0, I6 0, I6 0, I6 0]⟩), (1004, ⟨27, [I6 ((l1p_.getD 0 it0).1), I6 ((l1p_.getD 0 it0).2.1), I6 ((l1p_.getD 0 it0).2.2.1), I6 ((l1p_.getD 0 it0).2.2.2.1)]⟩), (2700, ⟨87, [VL Cp_ (n1p_ - 1) c1p_, I7 qm_]⟩)]⟩ ?_
     refine Kn 19 .i64 ((2 * i3_ + 2 : Nat) : Int) rfl (by rw [wi64 (by omega) (by omega)]; omega) ?_
     refine Rn 7 (Qo B50 396 9) [Qs B50 397, Qs B50 199, .blk 1, .loop J102, .blk 0] ⟨67, [(0, .own 2700 0), (1, I6 (i3_ : Int)), (4, .mth 81 2700 0), (5, I6 ((2 * i3_ + 1 : Nat) : Int)), (26, VB (decide (((2 * i3_ + 2 : Nat) : Int) < (((n1p_ - 1) : Nat) : Int))))], [(1002, ⟨27, [I6 0, I6 0, I6 0, I6 0]⟩), (1004, ⟨27, [I6 ((l1p_.getD 0 it0).1), I6 ((l1p_.getD 0 it0).2.1), I6 ((l1p_.getD 0 it0).2.2.1), I6 ((l1p_.getD 0 it0).2.2.2.1)]⟩), (2700, ⟨87, [VL Cp_ (n1p_ - 1) c1p_, I7 qm_]⟩)]⟩ ?_
     refine X.split 26 rfl (fun h142 => ?_) (fun h142 => ?_)
     ·
      replace h142 : ((2 * i3_ + 2 : Nat) : Int) < (((n1p_ - 1) : Nat) : Int) := of_decide_eq_true h142
      refine Rn 3 (Qo B50 396 12) [Qs B50 397, Qs B50 199, .blk 1, .loop J102, .blk 0] ⟨67, [(0, .own 2700 0), (1, I6 (i3_ : Int)), (4, .mth 81 2700 0), (5, I6 ((2 * i3_ + 1 : Nat) : Int)), (26, VB true), (27, .mth 81 2700 0), (29, I6 (IntKind.i64.wrap (((2 * i3_ + 1 : Nat) : Int) + 1)))], [(1002, ⟨27, [I6 0, I6 0, I6 0, I6 0]⟩), (1004, ⟨27, [I6 ((l1p_.getD 0 it0).1), I6 ((l1p_.getD 0 it0).2.1), I6 ((l1p_.getD 0 it0).2.2.1), I6 ((l1p_.getD 0 it0).2.2.2.1)]⟩), (2700, ⟨87, [VL Cp_ (n1p_ - 1) c1p_, I7 qm_]⟩)]⟩ ?_
      refine Kn 29 .i64 ((2 * i3_ + 2 : Nat) : Int) rfl (by rw [wi64 (by omega) (by omega)]; omega) ?_
      refine Rn 1 (Qo B50 396 13) [Qs B50 397, Qs B50 199, .blk 1, .loop J102, .blk 0] ⟨67, [(0, .own 2700 0), (1, I6 (i3_ : Int)), (4, .mth 81 2700 0), (5, I6 ((2 * i3_ + 1 : Nat) : Int)), (26, VB true), (27, .mth 81 2700 0), (29, I6 ((2 * i3_ + 2 : Nat) : Int)), (30, I6 ((2 * i3_ + 1 : Nat) : Int))], [(1002, ⟨27, [I6 0, I6 0, I6 0, I6 0]⟩), (1004, ⟨27, [I6 ((l1p_.getD 0 it0).1), I6 ((l1p_.getD 0 it0).2.1), I6 ((l1p_.getD 0 it0).2.2.1), I6 ((l1p_.getD 0 it0).2.2.2.1)]⟩), (2700, ⟨87, [VL Cp_ (n1p_ - 1) c1p_, I7 qm_]⟩)]⟩ ?_
      refine X.joinCG (Qc B50 397) [Qs B50 199, .blk 1, .loop J102, .blk 0] ⟨67, [(0, .own 2700 0), (1, I6 (i3_ : Int)), (4, .mth 81 2700 0), (5, I6 ((2 * i3_ + 1 : Nat) : Int)), (32, VB (decide (ltI (l3_.getD (((2 * i3_ + 2 : Nat) : Int)).toNat it0) (l3_.getD (((2 * i3_ + 1 : Nat) : Int)).toNat it0))))], [(1002, ⟨27, [I6 0, I6 0, I6 0, I6 0]⟩), (1004, ⟨27, [I6 ((l1p_.getD 0 it0).1), I6 ((l1p_.getD 0 it0).2.1), I6 ((l1p_.getD 0 it0).2.2.1), I6 ((l1p_.getD 0 it0).2.2.2.1)]⟩), (2700, ⟨87, [VL Cp_ (n1p_ - 1) c1p_, I7 qm_]⟩)]⟩ ?_ fun hY143 => ?_
      ·
       intro G143 hG143
       replace hra := hra.mono hG143.le
       replace hrb := hrb.mono hG143.le
       replace hrxx_ := hrxx_.mono hG143.le
       replace hrxy_ := hrxy_.mono hG143.le
       replace hrxr_ := hrxr_.mono hG143.le
       refine Rn 0 (Qc B50 397) [Qs B50 199, .blk 1, .loop J102, .blk 0] ⟨67, [(0, .own 2700 0), (1, I6 (i3_ : Int)), (4, .mth 81 2700 0), (5, I6 ((2 * i3_ + 1 : Nat) : Int)), (32, VB (decide (ltI (l3_.getD (((2 * i3_ + 2 : Nat) : Int)).toNat it0) (l3_.getD (((2 * i3_ + 1 : Nat) : Int)).toNat it0))))], [(1002, ⟨27, [I6 0, I6 0, I6 0, I6 0]⟩), (1004, ⟨27, [I6 ((l1p_.getD 0 it0).1), I6 ((l1p_.getD 0 it0).2.1), I6 ((l1p_.getD 0 it0).2.2.1), I6 ((l1p_.getD 0 it0).2.2.2.1)]⟩), (2700, ⟨87, [VL Cp_ (n1p_ - 1) c1p_, I7 qm_]⟩)]⟩ ?_
       refine X.split 32 rfl (fun h144 => ?_) (fun h144 => ?_)
       ·
        replace h144 : ltI (l3_.getD (((2 * i3_ + 2 : Nat) : Int)).toNat it0) (l3_.getD (((2 * i3_ + 1 : Nat) : Int)).toNat it0) := of_decide_eq_true h144
        have hkk_ : ltI (at_ l3_ (2 * i3_ + 2)) (at_ l3_ (2 * i3_ + 1)) := h144
        refine Rn 4 (Qo B50 794 2) [Qs B50 199, .blk 1, .loop J102, .blk 0] ⟨67, [(0, .own 2700 0), (1, I6 (i3_ : Int)), (4, .mth 81 2700 0), (5, I6 ((2 * i3_ + 1 : Nat) : Int)), (34, I6 (IntKind.i64.wrap (((2 * i3_ + 1 : Nat) : Int) + 1)))], [(1002, ⟨27, [I6 0, I6 0, I6 0, I6 0]⟩), (1004, ⟨27, [I6 ((l1p_.getD 0 it0).1), I6 ((l1p_.getD 0 it0).2.1), I6 ((l1p_.getD 0 it0).2.2.1), I6 ((l1p_.getD 0 it0).2.2.2.1)]⟩), (2700, ⟨87, [VL Cp_ (n1p_ - 1) c1p_, I7 qm_]⟩)]⟩ ?_
        refine Kn 34 .i64 ((2 * i3_ + 2 : Nat) : Int) rfl (by rw [wi64 (by omega) (by omega)]; omega) ?_
        refine Rn 3 (Qc B50 199) [.blk 1, .loop J102, .blk 0] ⟨67, [(0, .own 2700 0), (1, I6 (i3_ : Int)), (4, .mth 81 2700 0), (5, I6 ((2 * i3_ + 2 : Nat) : Int))], [(1002, ⟨27, [I6 0, I6 0, I6 0, I6 0]⟩), (1004, ⟨27, [I6 ((l1p_.getD 0 it0).1), I6 ((l1p_.getD 0 it0).2.1), I6 ((l1p_.getD 0 it0).2.2.1), I6 ((l1p_.getD 0 it0).2.2.2.1)]⟩), (2700, ⟨87, [VL Cp_ (n1p_ - 1) c1p_, I7 qm_]⟩)]⟩ ?_
        exact hY104 _ _ _ ⟨(2 * i3_ + 2), rfl, rfl, hG143, ⟨by omega, by omega, by omega, kid_r hkk_⟩⟩
       ·
        replace h144 : ¬ (ltI (l3_.getD (((2 * i3_ + 2 : Nat) : Int)).toNat it0) (l3_.getD (((2 * i3_ + 1 : Nat) : Int)).toNat it0)) := of_decide_eq_false h144
        have hkk_ : ¬ ltI (at_ l3_ (2 * i3_ + 2)) (at_ l3_ (2 * i3_ + 1)) := h144
        refine Rn 3 (Qc B50 199) [.blk 1, .loop J102, .blk 0] ⟨67, [(0, .own 2700 0), (1, I6 (i3_ : Int)), (4, .mth 81 2700 0), (5, I6 ((2 * i3_ + 1 : Nat) : Int))], [(1002, ⟨27, [I6 0, I6 0, I6 0, I6 0]⟩), (1004, ⟨27, [I6 ((l1p_.getD 0 it0).1), I6 ((l1p_.getD 0 it0).2.1), I6 ((l1p_.getD 0 it0).2.2.1), I6 ((l1p_.getD 0 it0).2.2.2.1)]⟩), (2700, ⟨87, [VL Cp_ (n1p_ - 1) c1p_, I7 qm_]⟩)]⟩ ?_
        exact hY104 _ _ _ ⟨(2 * i3_ + 1), rfl, rfl, hG143, ⟨by omega, by omega, by omega, kid_l hkk_⟩⟩
      ·
       refine X.inline (f := 81) (l := [.own 2700 0, I6 ((2 * i3_ + 2 : Nat) : Int), I6 ((2 * i3_ + 1 : Nat) : Int)]) (fn := Try.f81) (c := B81) (by kernel_rfl) (by kernel_rfl) Try.func81 (by kernel_rfl) ?_
       intro Q145 M145 hM145 hQ145 fin145
       refine Rn 6 (Qc B81 6) [Qs B81 7] ⟨52, [(0, .own 3700 0), (1, I6 ((2 * i3_ + 2 : Nat) : Int)), (2, I6 ((2 * i3_ + 1 : Nat) : Int)), (6, VB false)], [(2002, ⟨27, [I6 0, I6 0, I6 0, I6 0]⟩), (2004, ⟨27, [I6 ((l1p_.getD 0 it0).1), I6 ((l1p_.getD 0 it0).2.1), I6 ((l1p_.getD 0 it0).2.2.1), I6 ((l1p_.getD 0 it0).2.2.2.1)]⟩), (3700, ⟨87, [VL Cp_ (n1p_ - 1) c1p_, I7 qm_]⟩)]⟩ ?_
       have hra_d146 := hra
       have hrb_d146 := hrb
       have hrxx__d146 := hrxx_
       have hrxy__d146 := hrxy_
       have hrxr__d146 := hrxr_
       refine Og 1 B81 6 14 [⟨some 0, 3700, 87, [VL Cp_ (n1p_ - 1) c1p_, I7 qm_]⟩] [(600, RR 89 5 Cp_ (n1p_ - 1) c1p_ (l3_.flatMap itC))] [] ⟨⟨fun _ h => (by cases h; rfl), rfl⟩, trivial⟩ (by intro p hp hn; simp only [List.mem_cons, List.not_mem_nil, or_false] at hp; rcases hp with rfl <;> first | (cases hn; done) | exact hM145 _ (Nat.le_of_ble_eq_true rfl)) (fun ρ0 => ?_)
       refine Tk 0 14 1 B81 6 (.own 3700 0) hQ145 ?_
       refine XD.nilOwn (i := 1) (l' := (lb 14 3)) (oA B81 (pa 6) 1) (x := .tmp 9) (b := 3700) (off := 0) hQ145 (by kernel_rfl) (by kernel_rfl) (by kernel_rfl) (by kernel_rfl) (by kernel_rfl) (by kernel_rfl) ?_
       refine Tk 2 14 7 B81 6 (.own 3700 0) hQ145 ?_
       refine Tk 3 14 15 B81 6 (VL Cp_ (n1p_ - 1) c1p_) hQ145 ?_
       refine Tk 4 14 31 B81 6 (I6 ((2 * i3_ + 2 : Nat) : Int)) hQ145 ?_
       have b147 : (0 : Int) ≤ ((2 * i3_ + 2 : Nat) : Int) := by omega
       have b148 : ((2 * i3_ + 2 : Nat) : Int) < (((n1p_ - 1) : Nat) : Int) := by omega
       have at149 : At G102 [(600, ⟨89, 5, .slice Cp_ (n1p_ - 1) c1p_, (n1p_ - 1), l3_.flatMap itC⟩)] Cp_ ((((2 * i3_ + 2 : Nat) : Int)).toNat * 5) [.int .i64 ((l3_.getD ((((2 * i3_ + 2 : Nat) : Int)).toNat) it0).1), .int .i64 ((l3_.getD ((((2 * i3_ + 2 : Nat) : Int)).toNat) it0).2.1), .int .i64 ((l3_.getD ((((2 * i3_ + 2 : Nat) : Int)).toNat) it0).2.2.1), .int .i64 ((l3_.getD ((((2 * i3_ + 2 : Nat) : Int)).toNat) it0).2.2.2.1), .int .u64 ((l3_.getD ((((2 * i3_ + 2 : Nat) : Int)).toNat) it0).2.2.2.2)] := At.rowF itC itC_len (i := 600) (r := ⟨89, 5, .slice Cp_ (n1p_ - 1) c1p_, (n1p_ - 1), l3_.flatMap itC⟩) it0 rfl rfl rfl (by rw [hln3_]; omega)
       refine Dx 5 14 63 B81 6 84 89 5 Cp_ (n1p_ - 1) c1p_ .i64 ((2 * i3_ + 2 : Nat) : Int) (.tmp 12) (.tmp 13) hQ145 b147 b148 (rowSome (i := 600) (q := (RR 89 5 Cp_ (n1p_ - 1) c1p_ (l3_.flatMap itC))) rfl rfl (flat_pos itC_len (by decide) (by rw [hln3_]; omega))) ?_
       refine Tk 6 14 127 B81 6 (.own 3700 0) hQ145 ?_
       refine XD.nilOwn (i := 7) (l' := (lb 14 255)) (oA B81 (pa 6) 7) (x := .tmp 15) (b := 3700) (off := 0) hQ145 (by kernel_rfl) (by kernel_rfl) (by kernel_rfl) (by kernel_rfl) (by kernel_rfl) (by kernel_rfl) ?_
       refine Tk 8 14 511 B81 6 (.own 3700 0) hQ145 ?_
       refine Tk 9 14 1023 B81 6 (VL Cp_ (n1p_ - 1) c1p_) hQ145 ?_
       refine Tk 10 14 2047 B81 6 (I6 ((2 * i3_ + 1 : Nat) : Int)) hQ145 ?_
       have b150 : (0 : Int) ≤ ((2 * i3_ + 1 : Nat) : Int) := by omega
       have b151 : ((2 * i3_ + 1 : Nat) : Int) < (((n1p_ - 1) : Nat) : Int) := by omega
       have at152 : At G102 [(600, ⟨89, 5, .slice Cp_ (n1p_ - 1) c1p_, (n1p_ - 1), l3_.flatMap itC⟩)] Cp_ ((((2 * i3_ + 1 : Nat) : Int)).toNat * 5) [.int .i64 ((l3_.getD ((((2 * i3_ + 1 : Nat) : Int)).toNat) it0).1), .int .i64 ((l3_.getD ((((2 * i3_ + 1 : Nat) : Int)).toNat) it0).2.1), .int .i64 ((l3_.getD ((((2 * i3_ + 1 : Nat) : Int)).toNat) it0).2.2.1), .int .i64 ((l3_.getD ((((2 * i3_ + 1 : Nat) : Int)).toNat) it0).2.2.2.1), .int .u64 ((l3_.getD ((((2 * i3_ + 1 : Nat) : Int)).toNat) it0).2.2.2.2)] := At.rowF itC itC_len (i := 600) (r := ⟨89, 5, .slice Cp_ (n1p_ - 1) c1p_, (n1p_ - 1), l3_.flatMap itC⟩) it0 rfl rfl rfl (by rw [hln3_]; omega)
       refine Dx 11 14 4095 B81 6 84 89 5 Cp_ (n1p_ - 1) c1p_ .i64 ((2 * i3_ + 1 : Nat) : Int) (.tmp 18) (.tmp 19) hQ145 b150 b151 (rowSome (i := 600) (q := (RR 89 5 Cp_ (n1p_ - 1) c1p_ (l3_.flatMap itC))) rfl rfl (flat_pos itC_len (by decide) (by rw [hln3_]; omega))) ?_
       refine Ts [12, 13] 14 16383 0 2 hQ145 ?_
       refine XD.done (by kernel_rfl) ?_
       refine Rn 3 (Qc B81 28) [Qs B81 29, Qs B81 15] ⟨52, [(6, VB false), (7, .v (elt Cp_ ((((2 * i3_ + 2 : Nat) : Int)).toNat * 5))), (8, .v (elt Cp_ ((((2 * i3_ + 1 : Nat) : Int)).toNat * 5)))], [(2002, ⟨27, [I6 0, I6 0, I6 0, I6 0]⟩), (2004, ⟨27, [I6 ((l1p_.getD 0 it0).1), I6 ((l1p_.getD 0 it0).2.1), I6 ((l1p_.getD 0 it0).2.2.1), I6 ((l1p_.getD 0 it0).2.2.2.1)]⟩), (3700, ⟨87, [VL Cp_ (n1p_ - 1) c1p_, I7 qm_]⟩)]⟩ ?_
       have hra_d153 := hra
       have hrb_d153 := hrb
       have hrxx__d153 := hrxx_
       have hrxy__d153 := hrxy_
       have hrxr__d153 := hrxr_
       refine Og 2 B81 28 11 [] [(600, RR 89 5 Cp_ (n1p_ - 1) c1p_ (l3_.flatMap itC))] [] trivial (by simp) (fun ρ0 => ?_)
       refine Tk 0 11 1 B81 28 (.v (elt Cp_ ((((2 * i3_ + 2 : Nat) : Int)).toNat * 5))) hQ145 ?_
       refine XD.nilElt (i := 1) (l' := (lb 11 3)) (oA B81 (pa 28) 1) (x := .tmp 21) (A := Cp_) (j := (((2 * i3_ + 2 : Nat) : Int)).toNat * 5) hQ145 (by kernel_rfl) (by kernel_rfl) (by kernel_rfl) (by kernel_rfl) (by kernel_rfl) (by kernel_rfl) ?_
       refine XD.field (i := 2) (l' := (lb 11 7)) (o := (oA B81 (pa 28) 2)) (t := 89) (f := 0) (n := 0) (A := Cp_) (j := (((2 * i3_ + 2 : Nat) : Int)).toNat * 5) (x := .tmp 22) hQ145 (by kernel_rfl) (by kernel_rfl) (by kernel_rfl) (by kernel_rfl) (by kernel_rfl) (by kernel_rfl) (by kernel_rfl) ?_
       refine XD.field (i := 3) (l' := (lb 11 15)) (o := (oA B81 (pa 28) 3)) (t := 27) (f := 0) (n := 0) (A := Cp_) (j := (((2 * i3_ + 2 : Nat) : Int)).toNat * 5 + 0) (x := .tmp 23) hQ145 (by kernel_rfl) (by kernel_rfl) (by kernel_rfl) (by kernel_rfl) (by kernel_rfl) (by kernel_rfl) (by kernel_rfl) ?_
       have at154 : At G102 [(600, ⟨89, 5, .slice Cp_ (n1p_ - 1) c1p_, (n1p_ - 1), l3_.flatMap itC⟩)] Cp_ ((((2 * i3_ + 2 : Nat) : Int)).toNat * 5) [.int .i64 ((l3_.getD ((((2 * i3_ + 2 : Nat) : Int)).toNat) it0).1), .int .i64 ((l3_.getD ((((2 * i3_ + 2 : Nat) : Int)).toNat) it0).2.1), .int .i64 ((l3_.getD ((((2 * i3_ + 2 : Nat) : Int)).toNat) it0).2.2.1), .int .i64 ((l3_.getD ((((2 * i3_ + 2 : Nat) : Int)).toNat) it0).2.2.2.1), .int .u64 ((l3_.getD ((((2 * i3_ + 2 : Nat) : Int)).toNat) it0).2.2.2.2)] := At.rowF itC itC_len (i := 600) (r := ⟨89, 5, .slice Cp_ (n1p_ - 1) c1p_, (n1p_ - 1), l3_.flatMap itC⟩) it0 rfl rfl rfl (by rw [hln3_]; omega)
       refine Dl 4 11 31 B81 28 2 Cp_ ((((2 * i3_ + 2 : Nat) : Int)).toNat * 5 + 0 + 0) (.tmp 24) (N6 ((l3_.getD ((((2 * i3_ + 2 : Nat) : Int)).toNat) it0).1)) [N6 ((l3_.getD ((((2 * i3_ + 2 : Nat) : Int)).toNat) it0).1)] hQ145 (at154.part 0 1) ?_
       refine Tk 5 11 63 B81 28 (.v (elt Cp_ ((((2 * i3_ + 1 : Nat) : Int)).toNat * 5))) hQ145 ?_
       refine XD.nilElt (i := 6) (l' := (lb 11 127)) (oA B81 (pa 28) 6) (x := .tmp 26) (A := Cp_) (j := (((2 * i3_ + 1 : Nat) : Int)).toNat * 5) hQ145 (by kernel_rfl) (by kernel_rfl) (by kernel_rfl) (by kernel_rfl) (by kernel_rfl) (by kernel_rfl) ?_
       refine XD.field (i := 7) (l' := (lb 11 255)) (o := (oA B81 (pa 28) 7)) (t := 89) (f := 0) (n := 0) (A := Cp_) (j := (((2 * i3_ + 1 : Nat) : Int)).toNat * 5) (x := .tmp 27) hQ145 (by kernel_rfl) (by kernel_rfl) (by kernel_rfl) (by kernel_rfl) (by kernel_rfl) (by kernel_rfl) (by kernel_rfl) ?_
       refine XD.field (i := 8) (l' := (lb 11 511)) (o := (oA B81 (pa 28) 8)) (t := 27) (f := 0) (n := 0) (A := Cp_) (j := (((2 * i3_ + 1 : Nat) : Int)).toNat * 5 + 0) (x := .tmp 28) hQ145 (by kernel_rfl) (by kernel_rfl) (by kernel_rfl) (by kernel_rfl) (by kernel_rfl) (by kernel_rfl) (by kernel_rfl) ?_
       have at155 : At G102 [(600, ⟨89, 5, .slice Cp_ (n1p_ - 1) c1p_, (n1p_ - 1), l3_.flatMap itC⟩)] Cp_ ((((2 * i3_ + 1 : Nat) : Int)).toNat * 5) [.int .i64 ((l3_.getD ((((2 * i3_ + 1 : Nat) : Int)).toNat) it0).1), .int .i64 ((l3_.getD ((((2 * i3_ + 1 : Nat) : Int)).toNat) it0).2.1), .int .i64 ((l3_.getD ((((2 * i3_ + 1 : Nat) : Int)).toNat) it0).2.2.1), .int .i64 ((l3_.getD ((((2 * i3_ + 1 : Nat) : Int)).toNat) it0).2.2.2.1), .int .u64 ((l3_.getD ((((2 * i3_ + 1 : Nat) : Int)).toNat) it0).2.2.2.2)] := At.rowF itC itC_len (i := 600) (r := ⟨89, 5, .slice Cp_ (n1p_ - 1) c1p_, (n1p_ - 1), l3_.flatMap itC⟩) it0 rfl rfl rfl (by rw [hln3_]; omega)
       refine Dl 9 11 1023 B81 28 2 Cp_ ((((2 * i3_ + 1 : Nat) : Int)).toNat * 5 + 0 + 0) (.tmp 29) (N6 ((l3_.getD ((((2 * i3_ + 1 : Nat) : Int)).toNat) it0).1)) [N6 ((l3_.getD ((((2 * i3_ + 1 : Nat) : Int)).toNat) it0).1)] hQ145 (at155.part 0 1) ?_
       refine Ts [10] 11 2047 0 1 hQ145 ?_
       refine XD.done (by kernel_rfl) ?_
       refine Rn 1 (Qc B81 29) [Qs B81 15] ⟨52, [(6, VB false), (7, .v (elt Cp_ ((((2 * i3_ + 2 : Nat) : Int)).toNat * 5))), (8, .v (elt Cp_ ((((2 * i3_ + 1 : Nat) : Int)).toNat * 5))), (31, VB (((l3_.getD ((((2 * i3_ + 2 : Nat) : Int)).toNat) it0).1) != ((l3_.getD ((((2 * i3_ + 1 : Nat) : Int)).toNat) it0).1)))], [(2002, ⟨27, [I6 0, I6 0, I6 0, I6 0]⟩), (2004, ⟨27, [I6 ((l1p_.getD 0 it0).1), I6 ((l1p_.getD 0 it0).2.1), I6 ((l1p_.getD 0 it0).2.2.1), I6 ((l1p_.getD 0 it0).2.2.2.1)]⟩), (3700, ⟨87, [VL Cp_ (n1p_ - 1) c1p_, I7 qm_]⟩)]⟩ ?_
       refine X.split 31 rfl (fun h156 => ?_) (fun h156 => ?_)
       ·
        replace h156 : ((l3_.getD ((((2 * i3_ + 2 : Nat) : Int)).toNat) it0).1) ≠ ((l3_.getD ((((2 * i3_ + 1 : Nat) : Int)).toNat) it0).1) := by simpa using h156
        refine Rn 2 (Qc B81 116) [Qs B81 117, Qs B81 15] ⟨52, [(6, VB false), (7, .v (elt Cp_ ((((2 * i3_ + 2 : Nat) : Int)).toNat * 5))), (8, .v (elt Cp_ ((((2 * i3_ + 1 : Nat) : Int)).toNat * 5)))], [(2002, ⟨27, [I6 0, I6 0, I6 0, I6 0]⟩), (2004, ⟨27, [I6 ((l1p_.getD 0 it0).1), I6 ((l1p_.getD 0 it0).2.1), I6 ((l1p_.getD 0 it0).2.2.1), I6 ((l1p_.getD 0 it0).2.2.2.1)]⟩), (3700, ⟨87, [VL Cp_ (n1p_ - 1) c1p_, I7 qm_]⟩)]⟩ ?_
        have hra_d157 := hra
        have hrb_d157 := hrb
        have hrxx__d157 := hrxx_
        have hrxy__d157 := hrxy_
        have hrxr__d157 := hrxr_
        refine Og 3 B81 116 12 [] [(600, RR 89 5 Cp_ (n1p_ - 1) c1p_ (l3_.flatMap itC))] [] trivial (by simp) (fun ρ0 => ?_)
        refine Tk 0 12 1 B81 116 (.v (elt Cp_ ((((2 * i3_ + 2 : Nat) : Int)).toNat * 5))) hQ145 ?_
        refine XD.nilElt (i := 1) (l' := (lb 12 3)) (oA B81 (pa 116) 1) (x := .tmp 32) (A := Cp_) (j := (((2 * i3_ + 2 : Nat) : Int)).toNat * 5) hQ145 (by kernel_rfl) (by kernel_rfl) (by kernel_rfl) (by kernel_rfl) (by kernel_rfl) (by kernel_rfl) ?_
        refine XD.field (i := 2) (l' := (lb 12 7)) (o := (oA B81 (pa 116) 2)) (t := 89) (f := 0) (n := 0) (A := Cp_) (j := (((2 * i3_ + 2 : Nat) : Int)).toNat * 5) (x := .tmp 33) hQ145 (by kernel_rfl) (by kernel_rfl) (by kernel_rfl) (by kernel_rfl) (by kernel_rfl) (by kernel_rfl) (by kernel_rfl) ?_
        refine XD.field (i := 3) (l' := (lb 12 15)) (o := (oA B81 (pa 116) 3)) (t := 27) (f := 0) (n := 0) (A := Cp_) (j := (((2 * i3_ + 2 : Nat) : Int)).toNat * 5 + 0) (x := .tmp 34) hQ145 (by kernel_rfl) (by kernel_rfl) (by kernel_rfl) (by kernel_rfl) (by kernel_rfl) (by kernel_rfl) (by kernel_rfl) ?_
        have at158 : At G102 [(600, ⟨89, 5, .slice Cp_ (n1p_ - 1) c1p_, (n1p_ - 1), l3_.flatMap itC⟩)] Cp_ ((((2 * i3_ + 2 : Nat) : Int)).toNat * 5) [.int .i64 ((l3_.getD ((((2 * i3_ + 2 : Nat) : Int)).toNat) it0).1), .int .i64 ((l3_.getD ((((2 * i3_ + 2 : Nat) : Int)).toNat) it0).2.1), .int .i64 ((l3_.getD ((((2 * i3_ + 2 : Nat) : Int)).toNat) it0).2.2.1), .int .i64 ((l3_.getD ((((2 * i3_ + 2 : Nat) : Int)).toNat) it0).2.2.2.1), .int .u64 ((l3_.getD ((((2 * i3_ + 2 : Nat) : Int)).toNat) it0).2.2.2.2)] := At.rowF itC itC_len (i := 600) (r := ⟨89, 5, .slice Cp_ (n1p_ - 1) c1p_, (n1p_ - 1), l3_.flatMap itC⟩) it0 rfl rfl rfl (by rw [hln3_]; omega)
        refine Dl 4 12 31 B81 116 2 Cp_ ((((2 * i3_ + 2 : Nat) : Int)).toNat * 5 + 0 + 0) (.tmp 35) (N6 ((l3_.getD ((((2 * i3_ + 2 : Nat) : Int)).toNat) it0).1)) [N6 ((l3_.getD ((((2 * i3_ + 2 : Nat) : Int)).toNat) it0).1)] hQ145 (at158.part 0 1) ?_
        refine Tk 5 12 63 B81 116 (.v (elt Cp_ ((((2 * i3_ + 1 : Nat) : Int)).toNat * 5))) hQ145 ?_
        refine XD.nilElt (i := 6) (l' := (lb 12 127)) (oA B81 (pa 116) 6) (x := .tmp 37) (A := Cp_) (j := (((2 * i3_ + 1 : Nat) : Int)).toNat * 5) hQ145 (by kernel_rfl) (by kernel_rfl) (by kernel_rfl) (by kernel_rfl) (by kernel_rfl) (by kernel_rfl) ?_
        refine XD.field (i := 7) (l' := (lb 12 255)) (o := (oA B81 (pa 116) 7)) (t := 89) (f := 0) (n := 0) (A := Cp_) (j := (((2 * i3_ + 1 : Nat) : Int)).toNat * 5) (x := .tmp 38) hQ145 (by kernel_rfl) (by kernel_rfl) (by kernel_rfl) (by kernel_rfl) (by kernel_rfl) (by kernel_rfl) (by kernel_rfl) ?_
        refine XD.field (i := 8) (l' := (lb 12 511)) (o := (oA B81 (pa 116) 8)) (t := 27) (f := 0) (n := 0) (A := Cp_) (j := (((2 * i3_ + 1 : Nat) : Int)).toNat * 5 + 0) (x := .tmp 39) hQ145 (by kernel_rfl) (by kernel_rfl) (by kernel_rfl) (by kernel_rfl) (by kernel_rfl) (by kernel_rfl) (by kernel_rfl) ?_
        have at159 : At G102 [(600, ⟨89, 5, .slice Cp_ (n1p_ - 1) c1p_, (n1p_ - 1), l3_.flatMap itC⟩)] Cp_ ((((2 * i3_ + 1 : Nat) : Int)).toNat * 5) [.int .i64 ((l3_.getD ((((2 * i3_ + 1 : Nat) : Int)).toNat) it0).1), .int .i64 ((l3_.getD ((((2 * i3_ + 1 : Nat) : Int)).toNat) it0).2.1), .int .i64 ((l3_.getD ((((2 * i3_ + 1 : Nat) : Int)).toNat) it0).2.2.1), .int .i64 ((l3_.getD ((((2 * i3_ + 1 : Nat) : Int)).toNat) it0).2.2.2.1), .int .u64 ((l3_.getD ((((2 * i3_ + 1 : Nat) : Int)).toNat) it0).2.2.2.2)] := At.rowF itC itC_len (i := 600) (r := ⟨89, 5, .slice Cp_ (n1p_ - 1) c1p_, (n1p_ - 1), l3_.flatMap itC⟩) it0 rfl rfl rfl (by rw [hln3_]; omega)
        refine Dl 9 12 1023 B81 116 2 Cp_ ((((2 * i3_ + 1 : Nat) : Int)).toNat * 5 + 0 + 0) (.tmp 40) (N6 ((l3_.getD ((((2 * i3_ + 1 : Nat) : Int)).toNat) it0).1)) [N6 ((l3_.getD ((((2 * i3_ + 1 : Nat) : Int)).toNat) it0).1)] hQ145 (at159.part 0 1) ?_
        refine Ts [10, 11] 12 4095 0 2 hQ145 ?_
        refine XD.done (by kernel_rfl) ?_
        refine Rn 3 (.ex .ret) [] ⟨52, [(6, VB (decide ((l3_.getD ((((2 * i3_ + 2 : Nat) : Int)).toNat) it0).1 < (l3_.getD ((((2 * i3_ + 1 : Nat) : Int)).toNat) it0).1)))], [(2002, ⟨27, [I6 0, I6 0, I6 0, I6 0]⟩), (2004, ⟨27, [I6 ((l1p_.getD 0 it0).1), I6 ((l1p_.getD 0 it0).2.1), I6 ((l1p_.getD 0 it0).2.2.1), I6 ((l1p_.getD 0 it0).2.2.2.1)]⟩), (3700, ⟨87, [VL Cp_ (n1p_ - 1) c1p_, I7 qm_]⟩)]⟩ ?_
        refine fin145 _ _ _ _ [.bool (decide ((l3_.getD ((((2 * i3_ + 2 : Nat) : Int)).toNat) it0).1 < (l3_.getD ((((2 * i3_ + 1 : Nat) : Int)).toNat) it0).1))] [(1002, ⟨27, [I6 0, I6 0, I6 0, I6 0]⟩), (1004, ⟨27, [I6 ((l1p_.getD 0 it0).1), I6 ((l1p_.getD 0 it0).2.1), I6 ((l1p_.getD 0 it0).2.2.1), I6 ((l1p_.getD 0 it0).2.2.2.1)]⟩), (2700, ⟨87, [VL Cp_ (n1p_ - 1) c1p_, I7 qm_]⟩)] (.inl rfl) (by kernel_rfl) (by kernel_rfl) ?_
        refine Rn 3 (Qc B50 397) [Qs B50 199, .blk 1, .loop J102, .blk 0] ⟨67, [(0, .own 2700 0), (1, I6 (i3_ : Int)), (4, .mth 81 2700 0), (5, I6 ((2 * i3_ + 1 : Nat) : Int)), (32, VB (decide ((l3_.getD ((((2 * i3_ + 2 : Nat) : Int)).toNat) it0).1 < (l3_.getD ((((2 * i3_ + 1 : Nat) : Int)).toNat) it0).1)))], [(1002, ⟨27, [I6 0, I6 0, I6 0, I6 0]⟩), (1004, ⟨27, [I6 ((l1p_.getD 0 it0).1), I6 ((l1p_.getD 0 it0).2.1), I6 ((l1p_.getD 0 it0).2.2.1), I6 ((l1p_.getD 0 it0).2.2.2.1)]⟩), (2700, ⟨87, [VL Cp_ (n1p_ - 1) c1p_, I7 qm_]⟩)]⟩ ?_
        refine X.castS ⟨67, [(0, .own 2700 0), (1, I6 (i3_ : Int)), (4, .mth 81 2700 0), (5, I6 ((2 * i3_ + 1 : Nat) : Int)), (32, VB (decide (ltI (l3_.getD (((2 * i3_ + 2 : Nat) : Int)).toNat it0) (l3_.getD (((2 * i3_ + 1 : Nat) : Int)).toNat it0))))], [(1002, ⟨27, [I6 0, I6 0, I6 0, I6 0]⟩), (1004, ⟨27, [I6 ((l1p_.getD 0 it0).1), I6 ((l1p_.getD 0 it0).2.1), I6 ((l1p_.getD 0 it0).2.2.1), I6 ((l1p_.getD 0 it0).2.2.2.1)]⟩), (2700, ⟨87, [VL Cp_ (n1p_ - 1) c1p_, I7 qm_]⟩)]⟩ (congrArg (fun zb_ : Bool => (⟨67, [(0, .own 2700 0), (1, I6 (i3_ : Int)), (4, .mth 81 2700 0), (5, I6 ((2 * i3_ + 1 : Nat) : Int)), (32, VB zb_)], [(1002, ⟨27, [I6 0, I6 0, I6 0, I6 0]⟩), (1004, ⟨27, [I6 ((l1p_.getD 0 it0).1), I6 ((l1p_.getD 0 it0).2.1), I6 ((l1p_.getD 0 it0).2.2.1), I6 ((l1p_.getD 0 it0).2.2.2.1)]⟩), (2700, ⟨87, [VL Cp_ (n1p_ - 1) c1p_, I7 qm_]⟩)]⟩ : S)) (show (decide ((l3_.getD ((((2 * i3_ + 2 : Nat) : Int)).toNat) it0).1 < (l3_.getD ((((2 * i3_ + 1 : Nat) : Int)).toNat) it0).1)) = (decide (ltI (l3_.getD (((2 * i3_ + 2 : Nat) : Int)).toNat it0) (l3_.getD (((2 * i3_ + 1 : Nat) : Int)).toNat it0))) by first | exact congrArg (fun b_ => !b_) (decide_eq_decide.mpr (by unfold ltI; omega)) | exact decide_eq_decide.mpr (by unfold ltI; omega))) ?_
        exact hY143 _ (Ge.refl _ _)
       ·
        replace h156 : ((l3_.getD ((((2 * i3_ + 2 : Nat) : Int)).toNat) it0).1) = ((l3_.getD ((((2 * i3_ + 1 : Nat) : Int)).toNat) it0).1) := by simpa using h156
        refine Rn 4 (Qc B81 30) [Qs B81 31] ⟨52, [(6, VB false), (7, .v (elt Cp_ ((((2 * i3_ + 2 : Nat) : Int)).toNat * 5))), (8, .v (elt Cp_ ((((2 * i3_ + 1 : Nat) : Int)).toNat * 5)))], [(2002, ⟨27, [I6 0, I6 0, I6 0, I6 0]⟩), (2004, ⟨27, [I6 ((l1p_.getD 0 it0).1), I6 ((l1p_.getD 0 it0).2.1), I6 ((l1p_.getD 0 it0).2.2.1), I6 ((l1p_.getD 0 it0).2.2.2.1)]⟩), (3700, ⟨87, [VL Cp_ (n1p_ - 1) c1p_, I7 qm_]⟩)]⟩ ?_
        have hra_d160 := hra
        have hrb_d160 := hrb
        have hrxx__d160 := hrxx_
        have hrxy__d160 := hrxy_
        have hrxr__d160 := hrxr_
        refine Og 4 B81 30 10 [] [(600, RR 89 5 Cp_ (n1p_ - 1) c1p_ (l3_.flatMap itC))] [] trivial (by simp) (fun ρ0 => ?_)
        refine Tk 0 10 1 B81 30 (.v (elt Cp_ ((((2 * i3_ + 2 : Nat) : Int)).toNat * 5))) hQ145 ?_
        refine XD.nilElt (i := 1) (l' := (lb 10 3)) (oA B81 (pa 30) 1) (x := .tmp 43) (A := Cp_) (j := (((2 * i3_ + 2 : Nat) : Int)).toNat * 5) hQ145 (by kernel_rfl) (by kernel_rfl) (by kernel_rfl) (by kernel_rfl) (by kernel_rfl) (by kernel_rfl) ?_
        refine XD.field (i := 2) (l' := (lb 10 7)) (o := (oA B81 (pa 30) 2)) (t := 89) (f := 1) (n := 4) (A := Cp_) (j := (((2 * i3_ + 2 : Nat) : Int)).toNat * 5) (x := .tmp 44) hQ145 (by kernel_rfl) (by kernel_rfl) (by kernel_rfl) (by kernel_rfl) (by kernel_rfl) (by kernel_rfl) (by kernel_rfl) ?_
        have at161 : At G102 [(600, ⟨89, 5, .slice Cp_ (n1p_ - 1) c1p_, (n1p_ - 1), l3_.flatMap itC⟩)] Cp_ ((((2 * i3_ + 2 : Nat) : Int)).toNat * 5) [.int .i64 ((l3_.getD ((((2 * i3_ + 2 : Nat) : Int)).toNat) it0).1), .int .i64 ((l3_.getD ((((2 * i3_ + 2 : Nat) : Int)).toNat) it0).2.1), .int .i64 ((l3_.getD ((((2 * i3_ + 2 : Nat) : Int)).toNat) it0).2.2.1), .int .i64 ((l3_.getD ((((2 * i3_ + 2 : Nat) : Int)).toNat) it0).2.2.2.1), .int .u64 ((l3_.getD ((((2 * i3_ + 2 : Nat) : Int)).toNat) it0).2.2.2.2)] := At.rowF itC itC_len (i := 600) (r := ⟨89, 5, .slice Cp_ (n1p_ - 1) c1p_, (n1p_ - 1), l3_.flatMap itC⟩) it0 rfl rfl rfl (by rw [hln3_]; omega)
        refine Dl 3 10 15 B81 30 85 Cp_ ((((2 * i3_ + 2 : Nat) : Int)).toNat * 5 + 4) (.tmp 45) (N7 ((l3_.getD ((((2 * i3_ + 2 : Nat) : Int)).toNat) it0).2.2.2.2)) [N7 ((l3_.getD ((((2 * i3_ + 2 : Nat) : Int)).toNat) it0).2.2.2.2)] hQ145 (at161.part 4 1) ?_
        refine Tk 4 10 31 B81 30 (.v (elt Cp_ ((((2 * i3_ + 1 : Nat) : Int)).toNat * 5))) hQ145 ?_
        refine XD.nilElt (i := 5) (l' := (lb 10 63)) (oA B81 (pa 30) 5) (x := .tmp 47) (A := Cp_) (j := (((2 * i3_ + 1 : Nat) : Int)).toNat * 5) hQ145 (by kernel_rfl) (by kernel_rfl) (by kernel_rfl) (by kernel_rfl) (by kernel_rfl) (by kernel_rfl) ?_
        refine XD.field (i := 6) (l' := (lb 10 127)) (o := (oA B81 (pa 30) 6)) (t := 89) (f := 1) (n := 4) (A := Cp_) (j := (((2 * i3_ + 1 : Nat) : Int)).toNat * 5) (x := .tmp 48) hQ145 (by kernel_rfl) (by kernel_rfl) (by kernel_rfl) (by kernel_rfl) (by kernel_rfl) (by kernel_rfl) (by kernel_rfl) ?_
        have at162 : At G102 [(600, ⟨89, 5, .slice Cp_ (n1p_ - 1) c1p_, (n1p_ - 1), l3_.flatMap itC⟩)] Cp_ ((((2 * i3_ + 1 : Nat) : Int)).toNat * 5) [.int .i64 ((l3_.getD ((((2 * i3_ + 1 : Nat) : Int)).toNat) it0).1), .int .i64 ((l3_.getD ((((2 * i3_ + 1 : Nat) : Int)).toNat) it0).2.1), .int .i64 ((l3_.getD ((((2 * i3_ + 1 : Nat) : Int)).toNat) it0).2.2.1), .int .i64 ((l3_.getD ((((2 * i3_ + 1 : Nat) : Int)).toNat) it0).2.2.2.1), .int .u64 ((l3_.getD ((((2 * i3_ + 1 : Nat) : Int)).toNat) it0).2.2.2.2)] := At.rowF itC itC_len (i := 600) (r := ⟨89, 5, .slice Cp_ (n1p_ - 1) c1p_, (n1p_ - 1), l3_.flatMap itC⟩) it0 rfl rfl rfl (by rw [hln3_]; omega)
        refine Dl 7 10 255 B81 30 85 Cp_ ((((2 * i3_ + 1 : Nat) : Int)).toNat * 5 + 4) (.tmp 49) (N7 ((l3_.getD ((((2 * i3_ + 1 : Nat) : Int)).toNat) it0).2.2.2.2)) [N7 ((l3_.getD ((((2 * i3_ + 1 : Nat) : Int)).toNat) it0).2.2.2.2)] hQ145 (at162.part 4 1) ?_
        refine Ts [8, 9] 10 1023 0 2 hQ145 ?_
        refine XD.done (by kernel_rfl) ?_
        refine Rn 2 (.ex .ret) [] ⟨52, [(6, VB (decide ((l3_.getD ((((2 * i3_ + 2 : Nat) : Int)).toNat) it0).2.2.2.2 < (l3_.getD ((((2 * i3_ + 1 : Nat) : Int)).toNat) it0).2.2.2.2)))], [(2002, ⟨27, [I6 0, I6 0, I6 0, I6 0]⟩), (2004, ⟨27, [I6 ((l1p_.getD 0 it0).1), I6 ((l1p_.getD 0 it0).2.1), I6 ((l1p_.getD 0 it0).2.2.1), I6 ((l1p_.getD 0 it0).2.2.2.1)]⟩), (3700, ⟨87, [VL Cp_ (n1p_ - 1) c1p_, I7 qm_]⟩)]⟩ ?_
        refine fin145 _ _ _ _ [.bool (decide ((l3_.getD ((((2 * i3_ + 2 : Nat) : Int)).toNat) it0).2.2.2.2 < (l3_.getD ((((2 * i3_ + 1 : Nat) : Int)).toNat) it0).2.2.2.2))] [(1002, ⟨27, [I6 0, I6 0, I6 0, I6 0]⟩), (1004, ⟨27, [I6 ((l1p_.getD 0 it0).1), I6 ((l1p_.getD 0 it0).2.1), I6 ((l1p_.getD 0 it0).2.2.1), I6 ((l1p_.getD 0 it0).2.2.2.1)]⟩), (2700, ⟨87, [VL Cp_ (n1p_ - 1) c1p_, I7 qm_]⟩)] (.inl rfl) (by kernel_rfl) (by kernel_rfl) ?_
        refine Rn 3 (Qc B50 397) [Qs B50 199, .blk 1, .loop J102, .blk 0] ⟨67, [(0, .own 2700 0), (1, I6 (i3_ : Int)), (4, .mth 81 2700 0), (5, I6 ((2 * i3_ + 1 : Nat) : Int)), (32, VB (decide ((l3_.getD ((((2 * i3_ + 2 : Nat) : Int)).toNat) it0).2.2.2.2 < (l3_.getD ((((2 * i3_ + 1 : Nat) : Int)).toNat) it0).2.2.2.2)))], [(1002, ⟨27, [I6 0, I6 0, I6 0, I6 0]⟩), (1004, ⟨27, [I6 ((l1p_.getD 0 it0).1), I6 ((l1p_.getD 0 it0).2.1), I6 ((l1p_.getD 0 it0).2.2.1), I6 ((l1p_.getD 0 it0).2.2.2.1)]⟩), (2700, ⟨87, [VL Cp_ (n1p_ - 1) c1p_, I7 qm_]⟩)]⟩ ?_
        refine X.castS ⟨67, [(0, .own 2700 0), (1, I6 (i3_ : Int)), (4, .mth 81 2700 0), (5, I6 ((2 * i3_ + 1 : Nat) : Int)), (32, VB (decide (ltI (l3_.getD (((2 * i3_ + 2 : Nat) : Int)).toNat it0) (l3_.getD (((2 * i3_ + 1 : Nat) : Int)).toNat it0))))], [(1002, ⟨27, [I6 0, I6 0, I6 0, I6 0]⟩), (1004, ⟨27, [I6 ((l1p_.getD 0 it0).1), I6 ((l1p_.getD 0 it0).2.1), I6 ((l1p_.getD 0 it0).2.2.1), I6 ((l1p_.getD 0 it0).2.2.2.1)]⟩), (2700, ⟨87, [VL Cp_ (n1p_ - 1) c1p_, I7 qm_]⟩)]⟩ (congrArg (fun zb_ : Bool => (⟨67, [(0, .own 2700 0), (1, I6 (i3_ : Int)), (4, .mth 81 2700 0), (5, I6 ((2 * i3_ + 1 : Nat) : Int)), (32, VB zb_)], [(1002, ⟨27, [I6 0, I6 0, I6 0, I6 0]⟩), (1004, ⟨27, [I6 ((l1p_.getD 0 it0).1), I6 ((l1p_.getD 0 it0).2.1), I6 ((l1p_.getD 0 it0).2.2.1), I6 ((l1p_.getD 0 it0).2.2.2.1)]⟩), (2700, ⟨87, [VL Cp_ (n1p_ - 1) c1p_, I7 qm_]⟩)]⟩ : S)) (show (decide ((l3_.getD ((((2 * i3_ + 2 : Nat) : Int)).toNat) it0).2.2.2.2 < (l3_.getD ((((2 * i3_ + 1 : Nat) : Int)).toNat) it0).2.2.2.2)) = (decide (ltI (l3_.getD (((2 * i3_ + 2 : Nat) : Int)).toNat it0) (l3_.getD (((2 * i3_ + 1 : Nat) : Int)).toNat it0))) by first | exact congrArg (fun b_ => !b_) (decide_eq_decide.mpr (by unfold ltI; omega)) | exact decide_eq_decide.mpr (by unfold ltI; omega))) ?_
        exact hY143 _ (Ge.refl _ _)
     ·
      replace h142 : ¬ (((2 * i3_ + 2 : Nat) : Int) < (((n1p_ - 1) : Nat) : Int)) := of_decide_eq_false h142
      refine Rn 11 (Qc B50 199) [.blk 1, .loop J102, .blk 0] ⟨67, [(0, .own 2700 0), (1, I6 (i3_ : Int)), (4, .mth 81 2700 0), (5, I6 ((2 * i3_ + 1 : Nat) : Int))], [(1002, ⟨27, [I6 0, I6 0, I6 0, I6 0]⟩), (1004, ⟨27, [I6 ((l1p_.getD 0 it0).1), I6 ((l1p_.getD 0 it0).2.1), I6 ((l1p_.getD 0 it0).2.2.1), I6 ((l1p_.getD 0 it0).2.2.2.1)]⟩), (2700, ⟨87, [VL Cp_ (n1p_ - 1) c1p_, I7 qm_]⟩)]⟩ ?_
      exact hY104 _ _ _ ⟨(2 * i3_ + 1), rfl, rfl, (Ge.refl _ _), ⟨by omega, by omega, by omega, kid_one (by omega)⟩⟩
 ·
  replace h72 : ¬ ((ip_ : Int) < ((xsr_.length : Nat) : Int)) := of_decide_eq_false h72
  refine Rn 15 (Qo B13 8190 2) [Qs B13 8191] ⟨165, [(16, .v (.pointer none)), (152, .v (.pointer none)), (153, .own 700 0)], [(700, ⟨87, [VL Cp_ n1p_ c1p_, I7 qm_]⟩)]⟩ ?_
  refine X.inline (f := 47) (l := [.v (.pointer none), .own 700 0]) (fn := Try.f47) (c := B47) (by kernel_rfl) (by kernel_rfl) Try.func47 (by kernel_rfl) ?_
  intro Q163 M163 hM163 hQ163 fin163
  refine Rn 29 (.ex .ret) [] ⟨36, [(4, I6 0)], [(1700, ⟨87, [VL Cp_ n1p_ c1p_, I7 qm_]⟩)]⟩ ?_
  refine fin163 _ _ _ _ [N6 0] [(700, ⟨87, [VL Cp_ n1p_ c1p_, I7 qm_]⟩)] (.inl rfl) (by kernel_rfl) (by kernel_rfl) ?_
  refine Rn 3 (Qo B13 8190 6) [Qs B13 8191] ⟨165, [(156, VB true), (157, .v (.pointer none))], []⟩ ?_
  refine X.inline (f := 48) (l := [.v (.pointer none)]) (fn := Try.f48) (c := B48) (by kernel_rfl) (by kernel_rfl) Try.func48 (by kernel_rfl) ?_
  intro Q164 M164 hM164 hQ164 fin164
  refine Rn 9 (Qo B48 12 1) [Qs B48 13, Qs B48 7] ⟨34, [(0, .v (.pointer none)), (2, VL none 0 0), (7, .v (.pointer none))], []⟩ ?_
  refine X.inline (f := 17) (l := [.v (.pointer none)]) (fn := Try.f17) (c := B17) (by kernel_rfl) (by kernel_rfl) Try.func17 (by kernel_rfl) ?_
  intro Q165 M165 hM165 hQ165 fin165
  refine Rn 20 (.ex .ret) [] ⟨10, [(2, I6 0)], []⟩ ?_
  refine fin165 _ _ _ _ [N6 0] [] (.inl rfl) (by kernel_rfl) (by kernel_rfl) ?_
  refine Rn 11 (.ex .ret) [] ⟨34, [(2, VL none 0 0)], []⟩ ?_
  refine fin164 _ _ _ _ [.slice none 0 0] [] (.inl rfl) (by kernel_rfl) (by kernel_rfl) ?_
  refine Rn 4 (Qo B13 8190 11) [Qs B13 8191] ⟨165, [(162, VB true)], []⟩ ?_
  refine Cg 18 [] 0 (works06_ok _) ?_
  rintro v166 G166 rows166 hG166 ⟨rfl, rfl⟩
  replace hra := hra.mono hG166.le
  replace hrb := hrb.mono hG166.le
  replace hrxx_ := hrxx_.mono hG166.le
  replace hrxy_ := hrxy_.mono hG166.le
  replace hrxr_ := hrxr_.mono hG166.le
  refine Rn 5 (.ex .ret) [] ⟨165, [(4, VB true)], []⟩ ?_
  refine Dg (.inl rfl) [.bool true] [] rfl ((((hG0_.trans hG68).trans hG71).trans hG166)) ?_
  exact ⟨rfl, rfl⟩
end Go.Proofs.YthpinlcfcgnilaaX
