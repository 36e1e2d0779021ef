/- leatlaw12.OptionBack -/
import Derived.Test.YtjgpdbkkpomhjaaProg
import Derived.KernelRfl
import Derived.Test.YtjgpdbkkpomhjaaXP2
import Derived.Test.YtjgpdbkkpomhjaaXPA
import Derived.Test.YtjgpdbkkpomhjaaXPB
import Derived.Test.YtjgpdbkkpomhjaaXO8
import Derived.Test.YtjgpdbkkpomhjaaXDG
namespace Go.Proofs.YtjgpdbkkpomhjaaX
open Go.RowKit
set_option linter.unusedVariables false
set_option linter.unusedSimpArgs false
set_option maxRecDepth 100000
/-- leat/leatlaw12.OptionBack -/
noncomputable def B14 : Code := bodyOf Try.f14
set_option maxHeartbeats 4000000 in
theorem OptionBack_ok (A B : Option Addr) (ca cb : Nat) (xs : List Opt) (bs : List Int) (G : Mem) (hx : rowAt optD G A xs) (hy : rowAt (D.int .u8) G B bs) (hxc : xs.length ≤ ca) (hyc : bs.length ≤ cb) (hxm : ca ≤ maxLen) (hym : cb ≤ maxLen) : CallsG Try.prog 14 [.slice A xs.length ca, .slice B bs.length cb] G (fun _ v rows => v = .bool true ∧ rows = []) := by
  simp only [maxLen] at hxm hym
  have hfl_ := fewO_len xs
  refine CallsG.enter Try.func14 rfl rfl ?_
  intro w
  refine X.run 6 [0, 1, 4] [] (.code (cA B14 [1, 0])) [.seq (cA B14 [1, 1])] ⟨91, [(0, .v (.slice A xs.length ca)), (1, .v (.slice B bs.length cb)), (4, .v (.bool false))], []⟩ (by kernel_rfl) ?_
  have hx_d1 := hx
  have hy_d1 := hy
  refine XD.open (id := 1) (arr := aA B14 [1, 0]) 9 [] [] [] (by kernel_rfl) (by kernel_rfl) (by kernel_rfl) (by kernel_rfl) (by kernel_rfl) trivial (by simp) rfl (fun ρ0 => ?_)
  refine XD.take (i := 0) (l' := (lb 9 1)) (oA B14 [1, 0] 0) (.v (.slice A xs.length ca)) QOk.ctxG (by kernel_rfl) (by kernel_rfl) (by kernel_rfl) (by kernel_rfl) (by kernel_rfl) ?_
  refine XD.take (i := 2) (l' := (lb 9 5)) (oA B14 [1, 0] 2) (.v (.slice B bs.length cb)) QOk.ctxG (by kernel_rfl) (by kernel_rfl) (by kernel_rfl) (by kernel_rfl) (by kernel_rfl) ?_
  refine XD.take (i := 3) (l' := (lb 9 13)) (oA B14 [1, 0] 3) (.v (.slice B bs.length cb)) QOk.ctxG (by kernel_rfl) (by kernel_rfl) (by kernel_rfl) (by kernel_rfl) (by kernel_rfl) ?_
  refine XD.take (i := 4) (l' := (lb 9 29)) (oA B14 [1, 0] 4) (.v (.int .i64 ((bs.length : Nat) : Int))) QOk.ctxG (by kernel_rfl) (by kernel_rfl) (by kernel_rfl) (by kernel_rfl) (by kernel_rfl) ?_
  refine XD.take (i := 5) (l' := (lb 9 61)) (oA B14 [1, 0] 5) (.v (.int .i64 (imin ((bs.length : Nat) : Int) 60))) QOk.ctxG (by kernel_rfl) (by kernel_rfl) (by kernel_rfl) (by kernel_rfl) (by kernel_rfl) ?_
  have hlo2 : 0 ≤ (imin ((bs.length : Nat) : Int) 60).toNat := by simp only [imin_eq]; omega
  have hhi2 : (imin ((bs.length : Nat) : Int) 60).toNat ≤ bs.length := by simp only [imin_eq]; omega
  refine XD.cut (i := 6) (l' := (lb 9 125)) (o := (oA B14 [1, 0] 6)) (t := 22) (e := 5) (sz := 1) (n := bs.length) (c := cb) (A := B) (x := .tmp 17) (l0 := none) (h := (some (.tmp 20))) (lv := none) (hv := (some (.int .i64 (imin ((bs.length : Nat) : Int) 60)))) 0 ((imin ((bs.length : Nat) : Int) 60).toNat) QOk.ctxG (by kernel_rfl) (by kernel_rfl) (by kernel_rfl) (by kernel_rfl) (by kernel_rfl) (by kernel_rfl) (by kernel_rfl) (by kernel_rfl) (by kernel_rfl) (rfl) (⟨_, _, rfl, by simp only [imin_eq]; omega, rfl⟩) hlo2 (Nat.le_trans hhi2 hyc) (by kernel_rfl) ?_
  obtain ⟨A2, hA2⟩ : ∃ A_, cutA B cb 0 1 = A_ := ⟨_, rfl⟩
  obtain ⟨ys2, hys2⟩ : ∃ l_, (bs.take ((imin ((bs.length : Nat) : Int) 60).toNat)).drop 0 = l_ := ⟨_, rfl⟩
  have hr2 : rowAt (D.int .u8) G (cutA B cb 0 1) ((bs.take ((imin ((bs.length : Nat) : Int) 60).toNat)).drop 0) := rowAt_cut hy hlo2 hhi2 hyc
  have hl2 : ((imin ((bs.length : Nat) : Int) 60).toNat) - 0 = ys2.length := by rw [← hys2, List.length_drop, List.length_take]; omega
  have hc2 : ys2.length ≤ cb - 0 := by omega
  have hm2 : cb - 0 ≤ maxLen := Nat.le_trans (Nat.sub_le _ _) hym
  rw [hys2, show cutA B cb 0 _ = A2 from hA2] at hr2
  rw [hA2, hl2]
  refine XD.norm [0, 1, 4, 15, 21] [] ⟨91, [(0, .v (.slice A xs.length ca)), (1, .v (.slice B bs.length cb)), (4, .v (.bool false)), (15, .v (.slice A xs.length ca)), (21, .v (.slice A2 ys2.length (cb - 0)))], []⟩ (by kernel_rfl) trivial ?_
  refine XD.one (i := 1) (l' := (lb 9 127)) (oA B14 [1, 0] 1) (by kernel_rfl) (by kernel_rfl) (by kernel_rfl) ?_
  refine X.callG (f := 48) (l := [.v (.slice A xs.length ca)]) [.slice A xs.length ca] 24 (by kernel_rfl) (by kernel_rfl) (by kernel_rfl) (Few_ok A ca xs _ hx hxc hxm) ?_
  rintro v3 G3 rows3 hG3 ⟨A3, c3, cs3, rfl, rfl, hcs3⟩
  replace hx := hx.mono hG3.le
  replace hy := hy.mono hG3.le
  replace hr2 := hr2.mono hG3.le
  refine X.asR (R' := [(24, ⟨65, 3, .slice A3 ((fewO xs).length) c3, (fewO xs).length, cs3⟩)]) rfl ?_
  refine X.capLe (i := 24) (q := ⟨65, 3, .slice A3 ((fewO xs).length) c3, (fewO xs).length, cs3⟩) (n := (fewO xs).length) (c := c3) (A := A3) rfl rfl ?_
  intro hle3 hmx3
  refine X.freezeD (d := optD) (i := 24) (n := (fewO xs).length) (c := c3) (A := A3) (fewO xs) rfl hcs3 (by decide) (by kernel_rfl) (fun _ h => h) ?_
  intro G4 hG4 hr4
  replace hx := hx.mono hG4.le
  replace hy := hy.mono hG4.le
  replace hr2 := hr2.mono hG4.le
  refine X.back ⟨trivial, (hG3.trans hG4).le, rfl, ?_⟩
  refine XD.take (i := 7) (l' := (lb 9 255)) (oA B14 [1, 0] 7) (.v (.slice A3 ((fewO xs).length) c3)) QOk.ctxG (by kernel_rfl) (by kernel_rfl) (by kernel_rfl) (by kernel_rfl) (by kernel_rfl) ?_
  refine XD.take (i := 8) (l' := (lb 9 511)) (oA B14 [1, 0] 8) (.v (.slice A2 ys2.length (cb - 0))) QOk.ctxG (by kernel_rfl) (by kernel_rfl) (by kernel_rfl) (by kernel_rfl) (by kernel_rfl) ?_
  refine XD.done (by kernel_rfl) ?_
  refine X.run 5 [0, 1, 4, 23] [] (.ops (aA B14 [1, 1, 0, 0]) (oA B14 [1, 1, 0, 0] 1 :: lA B14 [1, 1, 0, 0] 2)) [.seq (cA B14 [1, 1, 0, 1]), .seq (cA B14 [1, 1, 1])] ⟨91, [(0, .v (.slice A3 ((fewO xs).length) c3)), (1, .v (.slice A2 ys2.length (cb - 0))), (4, .v (.bool false)), (23, .v (.slice A3 ((fewO xs).length) c3))], []⟩ (by kernel_rfl) ?_
  refine X.callG (f := 49) (l := [.v (.slice A3 ((fewO xs).length) c3)]) [.slice A3 ((fewO xs).length) c3] 21 (by kernel_rfl) (by kernel_rfl) (by kernel_rfl) (Print_ok A3 c3 (fewO xs) _ hr4 hle3 hmx3) ?_
  rintro v5 G5 rows5 hG5 ⟨A5, c5, rfl, rfl⟩
  replace hx := hx.mono hG5.le
  replace hy := hy.mono hG5.le
  replace hr2 := hr2.mono hG5.le
  replace hr4 := hr4.mono hG5.le
  refine X.asR (R' := [(21, ⟨5, 1, .slice A5 ((printO (fewO xs)).length) c5, (printO (fewO xs)).length, (printO (fewO xs)).map (Value.int .u8)⟩)]) rfl ?_
  refine X.run 13 [0, 1, 4, 5, 28] [] (.code (cA B14 [1, 1, 0, 1, 1])) [.seq (cA B14 [1, 1, 1])] ⟨91, [(0, .v (.slice A3 ((fewO xs).length) c3)), (1, .v (.slice A2 ys2.length (cb - 0))), (4, .v (.bool false)), (5, .v (.slice A5 ((printO (fewO xs)).length) c5)), (28, .v (.bool ((errO (fewO xs)) == 0)))], []⟩ (by kernel_rfl) ?_
  refine X.split 28 rfl (fun h6 => ?_) (fun h6 => ?_)
  · -- slot 28: (errO (fewO xs)) == 0 is True
    replace h6 : (errO (fewO xs)) = 0 := by simpa using h6
    obtain ⟨pb1, pb2, pb3, _⟩ := print_back (by assumption) (opt_nums hr4)
    refine X.run 4 [0, 1, 4, 5, 30] [] (.ops (aA B14 [1, 1, 0, 1, 1, 0, 0]) (oA B14 [1, 1, 0, 1, 1, 0, 0] 1 :: lA B14 [1, 1, 0, 1, 1, 0, 0] 2)) [.seq (cA B14 [1, 1, 0, 1, 1, 0, 1]), .seq (cA B14 [1, 1, 1])] ⟨91, [(0, .v (.slice A3 ((fewO xs).length) c3)), (1, .v (.slice A2 ys2.length (cb - 0))), (4, .v (.bool false)), (5, .v (.slice A5 ((printO (fewO xs)).length) c5)), (30, .v (.slice A5 ((printO (fewO xs)).length) c5))], []⟩ (by kernel_rfl) ?_
    refine X.tellR [21] (R' := [(21, ⟨5, 1, .slice A5 ((printO (fewO xs)).length) c5, (printO (fewO xs)).length, (printO (fewO xs)).map (Value.int .u8)⟩)]) rfl ?_
    refine X.capLe (i := 21) (q := ⟨5, 1, .slice A5 ((printO (fewO xs)).length) c5, (printO (fewO xs)).length, (printO (fewO xs)).map (Value.int .u8)⟩) (n := (printO (fewO xs)).length) (c := c5) (A := A5) rfl rfl ?_
    intro hle7 hmx7
    refine X.freezeHd (i := 21) (n := (printO (fewO xs)).length) (c := c5) (A := A5) (kd := .u8) (printO (fewO xs)) rfl rfl (fun n_ hn_ => by have h_ := printO_range _ n_ hn_; simp only [IntKind.lo, IntKind.hi]; omega) (by kernel_rfl) (fun _ h => h) ?_
    intro G7 hG7 hr7
    replace hx := hx.mono hG7.le
    replace hy := hy.mono hG7.le
    replace hr2 := hr2.mono hG7.le
    replace hr4 := hr4.mono hG7.le
    refine X.callG (f := 58) (l := [.v (.slice A5 ((printO (fewO xs)).length) c5)]) [.slice A5 ((printO (fewO xs)).length) c5] 26 (by kernel_rfl) (by kernel_rfl) (by kernel_rfl) (Parse_ok A5 c5 (printO (fewO xs)) _ hr7 hle7 hmx7) ?_
    rintro v8 G8 rows8 hG8 ⟨A8, c8, cs8, rfl, rfl, hcs8⟩
    replace hx := hx.mono hG8.le
    replace hy := hy.mono hG8.le
    replace hr2 := hr2.mono hG8.le
    replace hr4 := hr4.mono hG8.le
    replace hr7 := hr7.mono hG8.le
    refine X.asR (R' := [(26, ⟨65, 3, .slice A8 ((optP (printO (fewO xs))).1.length) c8, (optP (printO (fewO xs))).1.length, cs8⟩)]) rfl ?_
    refine X.capLe (i := 26) (q := ⟨65, 3, .slice A8 ((optP (printO (fewO xs))).1.length) c8, (optP (printO (fewO xs))).1.length, cs8⟩) (n := (optP (printO (fewO xs))).1.length) (c := c8) (A := A8) rfl rfl ?_
    intro hle8 hmx8
    refine X.freezeD (d := optD) (i := 26) (n := (optP (printO (fewO xs))).1.length) (c := c8) (A := A8) ((optP (printO (fewO xs))).1) rfl hcs8 (by decide) (by kernel_rfl) (fun _ h => h) ?_
    intro G9 hG9 hr9
    replace hx := hx.mono hG9.le
    replace hy := hy.mono hG9.le
    replace hr2 := hr2.mono hG9.le
    replace hr4 := hr4.mono hG9.le
    replace hr7 := hr7.mono hG9.le
    refine X.run 12 [0, 1, 4, 5, 7, 36] [] (.ops (aA B14 [1, 1, 0, 1, 1, 0, 1, 0]) (oA B14 [1, 1, 0, 1, 1, 0, 1, 0] 3 :: lA B14 [1, 1, 0, 1, 1, 0, 1, 0] 4)) [.seq (cA B14 [1, 1, 0, 1, 1, 0, 1, 1]), .seq (cA B14 [1, 1, 1])] ⟨91, [(0, .v (.slice A3 ((fewO xs).length) c3)), (1, .v (.slice A2 ys2.length (cb - 0))), (4, .v (.bool false)), (5, .v (.slice A5 ((printO (fewO xs)).length) c5)), (7, .v (.slice A8 ((optP (printO (fewO xs))).1.length) c8)), (36, .v (.bool (((optP (printO (fewO xs))).2) != 0)))], []⟩ (by kernel_rfl) ?_
    refine X.isFalse 36 rfl (by rw [pb1]; rfl) ?_
    refine X.run 2 [1, 4, 5, 36, 37, 38] [] (.ops (aA B14 [1, 1, 0, 1, 1, 0, 1, 0]) (oA B14 [1, 1, 0, 1, 1, 0, 1, 0] 5 :: lA B14 [1, 1, 0, 1, 1, 0, 1, 0] 6)) [.seq (cA B14 [1, 1, 0, 1, 1, 0, 1, 1]), .seq (cA B14 [1, 1, 1])] ⟨91, [(1, .v (.slice A2 ys2.length (cb - 0))), (4, .v (.bool false)), (5, .v (.slice A5 ((printO (fewO xs)).length) c5)), (36, .v (.bool false)), (37, .v (.slice A8 ((optP (printO (fewO xs))).1.length) c8)), (38, .v (.slice A3 ((fewO xs).length) c3))], []⟩ (by kernel_rfl) ?_
    refine X.callG (f := 60) (l := [.v (.slice A8 ((optP (printO (fewO xs))).1.length) c8), .v (.slice A3 ((fewO xs).length) c3)]) [.slice A8 ((optP (printO (fewO xs))).1.length) c8, .slice A3 ((fewO xs).length) c3] 0 (by kernel_rfl) (by kernel_rfl) (by kernel_rfl) (All_ok A8 A3 c8 c3 ((optP (printO (fewO xs))).1) (fewO xs) _ hr9 hr4 hle8 hle3 hmx8 hmx3) ?_
    rintro v10 G10 rows10 hG10 ⟨rfl, rfl⟩
    replace hx := hx.mono hG10.le
    replace hy := hy.mono hG10.le
    replace hr2 := hr2.mono hG10.le
    replace hr4 := hr4.mono hG10.le
    replace hr7 := hr7.mono hG10.le
    replace hr9 := hr9.mono hG10.le
    refine X.run 3 [1, 4, 5, 42] [] (.ops (aA B14 [1, 1, 0, 1, 1, 0, 1, 0]) (oA B14 [1, 1, 0, 1, 1, 0, 1, 0] 9 :: lA B14 [1, 1, 0, 1, 1, 0, 1, 0] 10)) [.seq (cA B14 [1, 1, 0, 1, 1, 0, 1, 1]), .seq (cA B14 [1, 1, 1])] ⟨91, [(1, .v (.slice A2 ys2.length (cb - 0))), (4, .v (.bool false)), (5, .v (.slice A5 ((printO (fewO xs)).length) c5)), (42, .v (.bool (!(decide (((optP (printO (fewO xs))).1 : List Opt) = fewO xs)))))], []⟩ (by kernel_rfl) ?_
    refine X.isFalse 42 rfl (by rw [pb1]; simp) ?_
    refine X.run 3 [1, 4, 5, 42, 45] [] (.ops (aA B14 [1, 1, 0, 1, 1, 0, 1, 0]) (oA B14 [1, 1, 0, 1, 1, 0, 1, 0] 12 :: lA B14 [1, 1, 0, 1, 1, 0, 1, 0] 13)) [.seq (cA B14 [1, 1, 0, 1, 1, 0, 1, 1]), .seq (cA B14 [1, 1, 1])] ⟨91, [(1, .v (.slice A2 ys2.length (cb - 0))), (4, .v (.bool false)), (5, .v (.slice A5 ((printO (fewO xs)).length) c5)), (42, .v (.bool false)), (45, .v (.int .i64 (Int.tmod (((printO (fewO xs)).length : Nat) : Int) 4)))], []⟩ (by kernel_rfl) ?_
    refine X.known 45 (y := .v (.int .i64 ((((printO (fewO xs)).length : Nat) : Int) % 4))) rfl (congrArg (fun z_ => AV.v (.int .i64 z_)) (Int.tmod_eq_emod_of_nonneg (by omega))) ?_
    refine X.run 3 [1, 4, 5, 48] [] (.ops (aA B14 [1, 1, 0, 1, 1, 0, 1, 0]) (oA B14 [1, 1, 0, 1, 1, 0, 1, 0] 15 :: lA B14 [1, 1, 0, 1, 1, 0, 1, 0] 16)) [.seq (cA B14 [1, 1, 0, 1, 1, 0, 1, 1]), .seq (cA B14 [1, 1, 1])] ⟨91, [(1, .v (.slice A2 ys2.length (cb - 0))), (4, .v (.bool false)), (5, .v (.slice A5 ((printO (fewO xs)).length) c5)), (48, .v (.bool (((((printO (fewO xs)).length : Nat) : Int) % 4) != 0)))], []⟩ (by kernel_rfl) ?_
    refine X.isFalse 48 rfl (by simp; omega) ?_
    refine X.run 6 [1, 4, 52] [] (.code (cA B14 [1, 1, 0, 1, 1, 0, 1, 1])) [.seq (cA B14 [1, 1, 1])] ⟨91, [(1, .v (.slice A2 ys2.length (cb - 0))), (4, .v (.bool false)), (52, .v (.bool (decide ((((printO (fewO xs)).length : Nat) : Int) > 40))))], []⟩ (by kernel_rfl) ?_
    refine X.isFalse 52 rfl (decide_eq_false (by omega)) ?_
    refine X.run 7 [1, 4, 54] [] (.ops (aA B14 [1, 1, 1, 0, 0]) (oA B14 [1, 1, 1, 0, 0] 1 :: lA B14 [1, 1, 1, 0, 0] 2)) [.seq (cA B14 [1, 1, 1, 0, 1]), .seq (cA B14 [1, 1, 1, 1])] ⟨91, [(1, .v (.slice A2 ys2.length (cb - 0))), (4, .v (.bool false)), (54, .v (.slice A2 ys2.length (cb - 0)))], []⟩ (by kernel_rfl) ?_
    refine X.callG (f := 58) (l := [.v (.slice A2 ys2.length (cb - 0))]) [.slice A2 ys2.length (cb - 0)] 26 (by kernel_rfl) (by kernel_rfl) (by kernel_rfl) (Parse_ok A2 (cb - 0) ys2 _ hr2 hc2 hm2) ?_
    rintro v11 G11 rows11 hG11 ⟨A11, c11, cs11, rfl, rfl, hcs11⟩
    replace hx := hx.mono hG11.le
    replace hy := hy.mono hG11.le
    replace hr2 := hr2.mono hG11.le
    replace hr4 := hr4.mono hG11.le
    replace hr7 := hr7.mono hG11.le
    replace hr9 := hr9.mono hG11.le
    refine X.asR (R' := [(26, ⟨65, 3, .slice A11 ((optP ys2).1.length) c11, (optP ys2).1.length, cs11⟩)]) rfl ?_
    refine X.capLe (i := 26) (q := ⟨65, 3, .slice A11 ((optP ys2).1.length) c11, (optP ys2).1.length, cs11⟩) (n := (optP ys2).1.length) (c := c11) (A := A11) rfl rfl ?_
    intro hle11 hmx11
    refine X.freezeD (d := optD) (i := 26) (n := (optP ys2).1.length) (c := c11) (A := A11) ((optP ys2).1) rfl hcs11 (by decide) (by kernel_rfl) (fun _ h => h) ?_
    intro G12 hG12 hr12
    replace hx := hx.mono hG12.le
    replace hy := hy.mono hG12.le
    replace hr2 := hr2.mono hG12.le
    replace hr4 := hr4.mono hG12.le
    replace hr7 := hr7.mono hG12.le
    replace hr9 := hr9.mono hG12.le
    refine X.run 13 [1, 4, 9, 59] [] (.code (cA B14 [1, 1, 1, 0, 1, 1])) [.seq (cA B14 [1, 1, 1, 1])] ⟨91, [(1, .v (.slice A2 ys2.length (cb - 0))), (4, .v (.bool false)), (9, .v (.slice A11 ((optP ys2).1.length) c11)), (59, .v (.bool (((optP ys2).2) == 0)))], []⟩ (by kernel_rfl) ?_
    refine X.split 59 rfl (fun h13 => ?_) (fun h13 => ?_)
    · -- slot 59: ((optP ys2).2) == 0 is True
      replace h13 : ((optP ys2).2) = 0 := by simpa using h13
      obtain ⟨qb1, qb2, qb3⟩ := parse_back (row_u8 hr2) (by assumption)
      have hb60_ : ys2.length ≤ 60 := by rw [← hys2, List.length_drop, List.length_take]; simp only [imin_eq]; omega
      refine X.run 4 [1, 4, 9, 61] [] (.ops (aA B14 [1, 1, 1, 0, 1, 1, 0, 0]) (oA B14 [1, 1, 1, 0, 1, 1, 0, 0] 1 :: lA B14 [1, 1, 1, 0, 1, 1, 0, 0] 2)) [.seq (cA B14 [1, 1, 1, 0, 1, 1, 0, 1]), .seq (cA B14 [1, 1, 1, 1])] ⟨91, [(1, .v (.slice A2 ys2.length (cb - 0))), (4, .v (.bool false)), (9, .v (.slice A11 ((optP ys2).1.length) c11)), (61, .v (.slice A11 ((optP ys2).1.length) c11))], []⟩ (by kernel_rfl) ?_
      refine X.callG (f := 49) (l := [.v (.slice A11 ((optP ys2).1.length) c11)]) [.slice A11 ((optP ys2).1.length) c11] 21 (by kernel_rfl) (by kernel_rfl) (by kernel_rfl) (Print_ok A11 c11 ((optP ys2).1) _ hr12 hle11 hmx11) ?_
      rintro v14 G14 rows14 hG14 ⟨A14, c14, rfl, rfl⟩
      replace hx := hx.mono hG14.le
      replace hy := hy.mono hG14.le
      replace hr2 := hr2.mono hG14.le
      replace hr4 := hr4.mono hG14.le
      replace hr7 := hr7.mono hG14.le
      replace hr9 := hr9.mono hG14.le
      replace hr12 := hr12.mono hG14.le
      refine X.asR (R' := [(21, ⟨5, 1, .slice A14 ((printO ((optP ys2).1)).length) c14, (printO ((optP ys2).1)).length, (printO ((optP ys2).1)).map (Value.int .u8)⟩)]) rfl ?_
      refine X.run 10 [1, 4, 9, 11, 12, 66] [] (.ops (aA B14 [1, 1, 1, 0, 1, 1, 0, 1, 0]) (oA B14 [1, 1, 1, 0, 1, 1, 0, 1, 0] 1 :: lA B14 [1, 1, 1, 0, 1, 1, 0, 1, 0] 2)) [.seq (cA B14 [1, 1, 1, 0, 1, 1, 0, 1, 1]), .seq (cA B14 [1, 1, 1, 1])] ⟨91, [(1, .v (.slice A2 ys2.length (cb - 0))), (4, .v (.bool false)), (9, .v (.slice A11 ((optP ys2).1.length) c11)), (11, .v (.slice A14 ((printO ((optP ys2).1)).length) c14)), (12, .v (.int .i64 (errO ((optP ys2).1)))), (66, .v (.slice A14 ((printO ((optP ys2).1)).length) c14))], []⟩ (by kernel_rfl) ?_
      refine X.tellR [21] (R' := [(21, ⟨5, 1, .slice A14 ((printO ((optP ys2).1)).length) c14, (printO ((optP ys2).1)).length, (printO ((optP ys2).1)).map (Value.int .u8)⟩)]) rfl ?_
      refine X.capLe (i := 21) (q := ⟨5, 1, .slice A14 ((printO ((optP ys2).1)).length) c14, (printO ((optP ys2).1)).length, (printO ((optP ys2).1)).map (Value.int .u8)⟩) (n := (printO ((optP ys2).1)).length) (c := c14) (A := A14) rfl rfl ?_
      intro hle15 hmx15
      refine X.freezeHd (i := 21) (n := (printO ((optP ys2).1)).length) (c := c14) (A := A14) (kd := .u8) (printO ((optP ys2).1)) rfl rfl (fun n_ hn_ => by have h_ := printO_range _ n_ hn_; simp only [IntKind.lo, IntKind.hi]; omega) (by kernel_rfl) (fun _ h => h) ?_
      intro G15 hG15 hr15
      replace hx := hx.mono hG15.le
      replace hy := hy.mono hG15.le
      replace hr2 := hr2.mono hG15.le
      replace hr4 := hr4.mono hG15.le
      replace hr7 := hr7.mono hG15.le
      replace hr9 := hr9.mono hG15.le
      replace hr12 := hr12.mono hG15.le
      refine X.callG (f := 58) (l := [.v (.slice A14 ((printO ((optP ys2).1)).length) c14)]) [.slice A14 ((printO ((optP ys2).1)).length) c14] 26 (by kernel_rfl) (by kernel_rfl) (by kernel_rfl) (Parse_ok A14 c14 (printO ((optP ys2).1)) _ hr15 hle15 hmx15) ?_
      rintro v16 G16 rows16 hG16 ⟨A16, c16, cs16, rfl, rfl, hcs16⟩
      replace hx := hx.mono hG16.le
      replace hy := hy.mono hG16.le
      replace hr2 := hr2.mono hG16.le
      replace hr4 := hr4.mono hG16.le
      replace hr7 := hr7.mono hG16.le
      replace hr9 := hr9.mono hG16.le
      replace hr12 := hr12.mono hG16.le
      replace hr15 := hr15.mono hG16.le
      refine X.asR (R' := [(26, ⟨65, 3, .slice A16 ((optP (printO ((optP ys2).1))).1.length) c16, (optP (printO ((optP ys2).1))).1.length, cs16⟩)]) rfl ?_
      refine X.capLe (i := 26) (q := ⟨65, 3, .slice A16 ((optP (printO ((optP ys2).1))).1.length) c16, (optP (printO ((optP ys2).1))).1.length, cs16⟩) (n := (optP (printO ((optP ys2).1))).1.length) (c := c16) (A := A16) rfl rfl ?_
      intro hle16 hmx16
      refine X.freezeD (d := optD) (i := 26) (n := (optP (printO ((optP ys2).1))).1.length) (c := c16) (A := A16) ((optP (printO ((optP ys2).1))).1) rfl hcs16 (by decide) (by kernel_rfl) (fun _ h => h) ?_
      intro G17 hG17 hr17
      replace hx := hx.mono hG17.le
      replace hy := hy.mono hG17.le
      replace hr2 := hr2.mono hG17.le
      replace hr4 := hr4.mono hG17.le
      replace hr7 := hr7.mono hG17.le
      replace hr9 := hr9.mono hG17.le
      replace hr12 := hr12.mono hG17.le
      replace hr15 := hr15.mono hG17.le
      refine X.run 12 [1, 4, 9, 11, 13, 14, 72] [] (.ops (aA B14 [1, 1, 1, 0, 1, 1, 0, 1, 1, 0]) (oA B14 [1, 1, 1, 0, 1, 1, 0, 1, 1, 0] 3 :: lA B14 [1, 1, 1, 0, 1, 1, 0, 1, 1, 0] 4)) [.seq (cA B14 [1, 1, 1, 0, 1, 1, 0, 1, 1, 1]), .seq (cA B14 [1, 1, 1, 1])] ⟨91, [(1, .v (.slice A2 ys2.length (cb - 0))), (4, .v (.bool false)), (9, .v (.slice A11 ((optP ys2).1.length) c11)), (11, .v (.slice A14 ((printO ((optP ys2).1)).length) c14)), (13, .v (.slice A16 ((optP (printO ((optP ys2).1))).1.length) c16)), (14, .v (.int .i64 ((optP (printO ((optP ys2).1))).2))), (72, .v (.bool ((errO ((optP ys2).1)) != 0)))], []⟩ (by kernel_rfl) ?_
      refine X.isFalse 72 rfl (by rw [qb1]; rfl) ?_
      refine X.run 4 [1, 4, 9, 11, 13, 76] [] (.ops (aA B14 [1, 1, 1, 0, 1, 1, 0, 1, 1, 0]) (oA B14 [1, 1, 1, 0, 1, 1, 0, 1, 1, 0] 7 :: lA B14 [1, 1, 1, 0, 1, 1, 0, 1, 1, 0] 8)) [.seq (cA B14 [1, 1, 1, 0, 1, 1, 0, 1, 1, 1]), .seq (cA B14 [1, 1, 1, 1])] ⟨91, [(1, .v (.slice A2 ys2.length (cb - 0))), (4, .v (.bool false)), (9, .v (.slice A11 ((optP ys2).1.length) c11)), (11, .v (.slice A14 ((printO ((optP ys2).1)).length) c14)), (13, .v (.slice A16 ((optP (printO ((optP ys2).1))).1.length) c16)), (76, .v (.bool (((optP (printO ((optP ys2).1))).2) != 0)))], []⟩ (by kernel_rfl) ?_
      refine X.isFalse 76 rfl (by rw [qb2]; rfl) ?_
      refine X.run 2 [1, 4, 11, 76, 77, 78] [] (.ops (aA B14 [1, 1, 1, 0, 1, 1, 0, 1, 1, 0]) (oA B14 [1, 1, 1, 0, 1, 1, 0, 1, 1, 0] 9 :: lA B14 [1, 1, 1, 0, 1, 1, 0, 1, 1, 0] 10)) [.seq (cA B14 [1, 1, 1, 0, 1, 1, 0, 1, 1, 1]), .seq (cA B14 [1, 1, 1, 1])] ⟨91, [(1, .v (.slice A2 ys2.length (cb - 0))), (4, .v (.bool false)), (11, .v (.slice A14 ((printO ((optP ys2).1)).length) c14)), (76, .v (.bool false)), (77, .v (.slice A16 ((optP (printO ((optP ys2).1))).1.length) c16)), (78, .v (.slice A11 ((optP ys2).1.length) c11))], []⟩ (by kernel_rfl) ?_
      refine X.callG (f := 60) (l := [.v (.slice A16 ((optP (printO ((optP ys2).1))).1.length) c16), .v (.slice A11 ((optP ys2).1.length) c11)]) [.slice A16 ((optP (printO ((optP ys2).1))).1.length) c16, .slice A11 ((optP ys2).1.length) c11] 0 (by kernel_rfl) (by kernel_rfl) (by kernel_rfl) (All_ok A16 A11 c16 c11 ((optP (printO ((optP ys2).1))).1) ((optP ys2).1) _ hr17 hr12 hle16 hle11 hmx16 hmx11) ?_
      rintro v18 G18 rows18 hG18 ⟨rfl, rfl⟩
      replace hx := hx.mono hG18.le
      replace hy := hy.mono hG18.le
      replace hr2 := hr2.mono hG18.le
      replace hr4 := hr4.mono hG18.le
      replace hr7 := hr7.mono hG18.le
      replace hr9 := hr9.mono hG18.le
      replace hr12 := hr12.mono hG18.le
      replace hr15 := hr15.mono hG18.le
      replace hr17 := hr17.mono hG18.le
      refine X.run 3 [1, 4, 11, 82] [] (.ops (aA B14 [1, 1, 1, 0, 1, 1, 0, 1, 1, 0]) (oA B14 [1, 1, 1, 0, 1, 1, 0, 1, 1, 0] 13 :: lA B14 [1, 1, 1, 0, 1, 1, 0, 1, 1, 0] 14)) [.seq (cA B14 [1, 1, 1, 0, 1, 1, 0, 1, 1, 1]), .seq (cA B14 [1, 1, 1, 1])] ⟨91, [(1, .v (.slice A2 ys2.length (cb - 0))), (4, .v (.bool false)), (11, .v (.slice A14 ((printO ((optP ys2).1)).length) c14)), (82, .v (.bool (!(decide (((optP (printO ((optP ys2).1))).1 : List Opt) = (optP ys2).1)))))], []⟩ (by kernel_rfl) ?_
      refine X.isFalse 82 rfl (by rw [qb2]; simp) ?_
      refine X.run 5 [4, 82, 84, 87] [] (.ops (aA B14 [1, 1, 1, 0, 1, 1, 0, 1, 1, 0]) (oA B14 [1, 1, 1, 0, 1, 1, 0, 1, 1, 0] 18 :: lA B14 [1, 1, 1, 0, 1, 1, 0, 1, 1, 0] 19)) [.seq (cA B14 [1, 1, 1, 0, 1, 1, 0, 1, 1, 1]), .seq (cA B14 [1, 1, 1, 1])] ⟨91, [(4, .v (.bool false)), (82, .v (.bool false)), (84, .v (.int .i64 (((printO ((optP ys2).1)).length : Nat) : Int))), (87, .v (.int .i64 (IntKind.i64.wrap (((ys2.length : Nat) : Int) + 3))))], []⟩ (by kernel_rfl) ?_
      refine X.known 87 (y := .v (.int .i64 (((ys2.length : Nat) : Int) + 3))) rfl (congrArg (fun z_ => AV.v (.int .i64 z_)) (wi64 (by omega) (by omega))) ?_
      refine X.run 4 [4, 89] [] (.code (cA B14 [1, 1, 1, 0, 1, 1, 0, 1, 1, 1])) [.seq (cA B14 [1, 1, 1, 1])] ⟨91, [(4, .v (.bool false)), (89, .v (.bool (decide ((((printO ((optP ys2).1)).length : Nat) : Int) > ((ys2.length : Nat) : Int) + 3))))], []⟩ (by kernel_rfl) ?_
      refine X.isFalse 89 rfl (decide_eq_false (by omega)) ?_
      refine X.run 5 [4] [] (.ops (aA B14 [1, 1, 1, 1, 0]) (oA B14 [1, 1, 1, 1, 0] 0 :: lA B14 [1, 1, 1, 1, 0] 1)) [.seq (cA B14 [1, 1, 1, 1, 1])] ⟨91, [(4, .v (.bool false))], []⟩ (by kernel_rfl) ?_
      refine X.callG (f := 53) (l := []) [] 0 (by kernel_rfl) (by kernel_rfl) (by kernel_rfl) (works12_ok _) ?_
      rintro v19 G19 rows19 hG19 ⟨rfl, rfl⟩
      replace hx := hx.mono hG19.le
      replace hy := hy.mono hG19.le
      replace hr2 := hr2.mono hG19.le
      replace hr4 := hr4.mono hG19.le
      replace hr7 := hr7.mono hG19.le
      replace hr9 := hr9.mono hG19.le
      replace hr12 := hr12.mono hG19.le
      replace hr15 := hr15.mono hG19.le
      replace hr17 := hr17.mono hG19.le
      refine X.run 4 [4] [] (.ex .ret) [] ⟨91, [(4, .v (.bool true))], []⟩ (by kernel_rfl) ?_
      refine doneG (.inl rfl) [.bool true] [] (by kernel_rfl) rfl rfl (((((((((((((((hG3.trans hG4).trans hG5).trans hG7).trans hG8).trans hG9).trans hG10).trans hG11).trans hG12).trans hG14).trans hG15).trans hG16).trans hG17).trans hG18).trans hG19)) ?_
      -- end 1 (TT)
      exact ⟨rfl, rfl⟩
    · -- slot 59: ((optP ys2).2) == 0 is False
      replace h13 : ((optP ys2).2) ≠ 0 := by simpa using h13
      refine X.run 5 [4] [] (.ops (aA B14 [1, 1, 1, 1, 0]) (oA B14 [1, 1, 1, 1, 0] 0 :: lA B14 [1, 1, 1, 1, 0] 1)) [.seq (cA B14 [1, 1, 1, 1, 1])] ⟨91, [(4, .v (.bool false))], []⟩ (by kernel_rfl) ?_
      refine X.callG (f := 53) (l := []) [] 0 (by kernel_rfl) (by kernel_rfl) (by kernel_rfl) (works12_ok _) ?_
      rintro v20 G20 rows20 hG20 ⟨rfl, rfl⟩
      replace hx := hx.mono hG20.le
      replace hy := hy.mono hG20.le
      replace hr2 := hr2.mono hG20.le
      replace hr4 := hr4.mono hG20.le
      replace hr7 := hr7.mono hG20.le
      replace hr9 := hr9.mono hG20.le
      replace hr12 := hr12.mono hG20.le
      refine X.run 4 [4] [] (.ex .ret) [] ⟨91, [(4, .v (.bool true))], []⟩ (by kernel_rfl) ?_
      refine doneG (.inl rfl) [.bool true] [] (by kernel_rfl) rfl rfl ((((((((((hG3.trans hG4).trans hG5).trans hG7).trans hG8).trans hG9).trans hG10).trans hG11).trans hG12).trans hG20)) ?_
      -- end 2 (TF)
      exact ⟨rfl, rfl⟩
  · -- slot 28: (errO (fewO xs)) == 0 is False
    replace h6 : (errO (fewO xs)) ≠ 0 := by simpa using h6
    refine X.run 7 [1, 4, 54] [] (.ops (aA B14 [1, 1, 1, 0, 0]) (oA B14 [1, 1, 1, 0, 0] 1 :: lA B14 [1, 1, 1, 0, 0] 2)) [.seq (cA B14 [1, 1, 1, 0, 1]), .seq (cA B14 [1, 1, 1, 1])] ⟨91, [(1, .v (.slice A2 ys2.length (cb - 0))), (4, .v (.bool false)), (54, .v (.slice A2 ys2.length (cb - 0)))], []⟩ (by kernel_rfl) ?_
    refine X.callG (f := 58) (l := [.v (.slice A2 ys2.length (cb - 0))]) [.slice A2 ys2.length (cb - 0)] 26 (by kernel_rfl) (by kernel_rfl) (by kernel_rfl) (Parse_ok A2 (cb - 0) ys2 _ hr2 hc2 hm2) ?_
    rintro v21 G21 rows21 hG21 ⟨A21, c21, cs21, rfl, rfl, hcs21⟩
    replace hx := hx.mono hG21.le
    replace hy := hy.mono hG21.le
    replace hr2 := hr2.mono hG21.le
    replace hr4 := hr4.mono hG21.le
    refine X.asR (R' := [(26, ⟨65, 3, .slice A21 ((optP ys2).1.length) c21, (optP ys2).1.length, cs21⟩), (21, ⟨5, 1, .slice A5 ((printO (fewO xs)).length) c5, (printO (fewO xs)).length, (printO (fewO xs)).map (Value.int .u8)⟩)]) rfl ?_
    refine X.capLe (i := 26) (q := ⟨65, 3, .slice A21 ((optP ys2).1.length) c21, (optP ys2).1.length, cs21⟩) (n := (optP ys2).1.length) (c := c21) (A := A21) rfl rfl ?_
    intro hle21 hmx21
    refine X.freezeD (d := optD) (i := 26) (n := (optP ys2).1.length) (c := c21) (A := A21) ((optP ys2).1) rfl hcs21 (by decide) (by kernel_rfl) (fun _ h => h) ?_
    intro G22 hG22 hr22
    replace hx := hx.mono hG22.le
    replace hy := hy.mono hG22.le
    replace hr2 := hr2.mono hG22.le
    replace hr4 := hr4.mono hG22.le
    refine X.run 13 [1, 4, 9, 59] [] (.code (cA B14 [1, 1, 1, 0, 1, 1])) [.seq (cA B14 [1, 1, 1, 1])] ⟨91, [(1, .v (.slice A2 ys2.length (cb - 0))), (4, .v (.bool false)), (9, .v (.slice A21 ((optP ys2).1.length) c21)), (59, .v (.bool (((optP ys2).2) == 0)))], []⟩ (by kernel_rfl) ?_
    refine X.split 59 rfl (fun h23 => ?_) (fun h23 => ?_)
    · -- slot 59: ((optP ys2).2) == 0 is True
      replace h23 : ((optP ys2).2) = 0 := by simpa using h23
      obtain ⟨qb1, qb2, qb3⟩ := parse_back (row_u8 hr2) (by assumption)
      have hb60_ : ys2.length ≤ 60 := by rw [← hys2, List.length_drop, List.length_take]; simp only [imin_eq]; omega
      refine X.run 4 [1, 4, 9, 61] [] (.ops (aA B14 [1, 1, 1, 0, 1, 1, 0, 0]) (oA B14 [1, 1, 1, 0, 1, 1, 0, 0] 1 :: lA B14 [1, 1, 1, 0, 1, 1, 0, 0] 2)) [.seq (cA B14 [1, 1, 1, 0, 1, 1, 0, 1]), .seq (cA B14 [1, 1, 1, 1])] ⟨91, [(1, .v (.slice A2 ys2.length (cb - 0))), (4, .v (.bool false)), (9, .v (.slice A21 ((optP ys2).1.length) c21)), (61, .v (.slice A21 ((optP ys2).1.length) c21))], []⟩ (by kernel_rfl) ?_
      refine X.callG (f := 49) (l := [.v (.slice A21 ((optP ys2).1.length) c21)]) [.slice A21 ((optP ys2).1.length) c21] 21 (by kernel_rfl) (by kernel_rfl) (by kernel_rfl) (Print_ok A21 c21 ((optP ys2).1) _ hr22 hle21 hmx21) ?_
      rintro v24 G24 rows24 hG24 ⟨A24, c24, rfl, rfl⟩
      replace hx := hx.mono hG24.le
      replace hy := hy.mono hG24.le
      replace hr2 := hr2.mono hG24.le
      replace hr4 := hr4.mono hG24.le
      replace hr22 := hr22.mono hG24.le
      refine X.asR (R' := [(21, ⟨5, 1, .slice A24 ((printO ((optP ys2).1)).length) c24, (printO ((optP ys2).1)).length, (printO ((optP ys2).1)).map (Value.int .u8)⟩), (21, ⟨5, 1, .slice A5 ((printO (fewO xs)).length) c5, (printO (fewO xs)).length, (printO (fewO xs)).map (Value.int .u8)⟩)]) rfl ?_
      refine X.run 10 [1, 4, 9, 11, 12, 66] [] (.ops (aA B14 [1, 1, 1, 0, 1, 1, 0, 1, 0]) (oA B14 [1, 1, 1, 0, 1, 1, 0, 1, 0] 1 :: lA B14 [1, 1, 1, 0, 1, 1, 0, 1, 0] 2)) [.seq (cA B14 [1, 1, 1, 0, 1, 1, 0, 1, 1]), .seq (cA B14 [1, 1, 1, 1])] ⟨91, [(1, .v (.slice A2 ys2.length (cb - 0))), (4, .v (.bool false)), (9, .v (.slice A21 ((optP ys2).1.length) c21)), (11, .v (.slice A24 ((printO ((optP ys2).1)).length) c24)), (12, .v (.int .i64 (errO ((optP ys2).1)))), (66, .v (.slice A24 ((printO ((optP ys2).1)).length) c24))], []⟩ (by kernel_rfl) ?_
      refine X.tellR [21] (R' := [(21, ⟨5, 1, .slice A24 ((printO ((optP ys2).1)).length) c24, (printO ((optP ys2).1)).length, (printO ((optP ys2).1)).map (Value.int .u8)⟩)]) rfl ?_
      refine X.capLe (i := 21) (q := ⟨5, 1, .slice A24 ((printO ((optP ys2).1)).length) c24, (printO ((optP ys2).1)).length, (printO ((optP ys2).1)).map (Value.int .u8)⟩) (n := (printO ((optP ys2).1)).length) (c := c24) (A := A24) rfl rfl ?_
      intro hle25 hmx25
      refine X.freezeHd (i := 21) (n := (printO ((optP ys2).1)).length) (c := c24) (A := A24) (kd := .u8) (printO ((optP ys2).1)) rfl rfl (fun n_ hn_ => by have h_ := printO_range _ n_ hn_; simp only [IntKind.lo, IntKind.hi]; omega) (by kernel_rfl) (fun _ h => h) ?_
      intro G25 hG25 hr25
      replace hx := hx.mono hG25.le
      replace hy := hy.mono hG25.le
      replace hr2 := hr2.mono hG25.le
      replace hr4 := hr4.mono hG25.le
      replace hr22 := hr22.mono hG25.le
      refine X.callG (f := 58) (l := [.v (.slice A24 ((printO ((optP ys2).1)).length) c24)]) [.slice A24 ((printO ((optP ys2).1)).length) c24] 26 (by kernel_rfl) (by kernel_rfl) (by kernel_rfl) (Parse_ok A24 c24 (printO ((optP ys2).1)) _ hr25 hle25 hmx25) ?_
      rintro v26 G26 rows26 hG26 ⟨A26, c26, cs26, rfl, rfl, hcs26⟩
      replace hx := hx.mono hG26.le
      replace hy := hy.mono hG26.le
      replace hr2 := hr2.mono hG26.le
      replace hr4 := hr4.mono hG26.le
      replace hr22 := hr22.mono hG26.le
      replace hr25 := hr25.mono hG26.le
      refine X.asR (R' := [(26, ⟨65, 3, .slice A26 ((optP (printO ((optP ys2).1))).1.length) c26, (optP (printO ((optP ys2).1))).1.length, cs26⟩)]) rfl ?_
      refine X.capLe (i := 26) (q := ⟨65, 3, .slice A26 ((optP (printO ((optP ys2).1))).1.length) c26, (optP (printO ((optP ys2).1))).1.length, cs26⟩) (n := (optP (printO ((optP ys2).1))).1.length) (c := c26) (A := A26) rfl rfl ?_
      intro hle26 hmx26
      refine X.freezeD (d := optD) (i := 26) (n := (optP (printO ((optP ys2).1))).1.length) (c := c26) (A := A26) ((optP (printO ((optP ys2).1))).1) rfl hcs26 (by decide) (by kernel_rfl) (fun _ h => h) ?_
      intro G27 hG27 hr27
      replace hx := hx.mono hG27.le
      replace hy := hy.mono hG27.le
      replace hr2 := hr2.mono hG27.le
      replace hr4 := hr4.mono hG27.le
      replace hr22 := hr22.mono hG27.le
      replace hr25 := hr25.mono hG27.le
      refine X.run 12 [1, 4, 9, 11, 13, 14, 72] [] (.ops (aA B14 [1, 1, 1, 0, 1, 1, 0, 1, 1, 0]) (oA B14 [1, 1, 1, 0, 1, 1, 0, 1, 1, 0] 3 :: lA B14 [1, 1, 1, 0, 1, 1, 0, 1, 1, 0] 4)) [.seq (cA B14 [1, 1, 1, 0, 1, 1, 0, 1, 1, 1]), .seq (cA B14 [1, 1, 1, 1])] ⟨91, [(1, .v (.slice A2 ys2.length (cb - 0))), (4, .v (.bool false)), (9, .v (.slice A21 ((optP ys2).1.length) c21)), (11, .v (.slice A24 ((printO ((optP ys2).1)).length) c24)), (13, .v (.slice A26 ((optP (printO ((optP ys2).1))).1.length) c26)), (14, .v (.int .i64 ((optP (printO ((optP ys2).1))).2))), (72, .v (.bool ((errO ((optP ys2).1)) != 0)))], []⟩ (by kernel_rfl) ?_
      refine X.isFalse 72 rfl (by rw [qb1]; rfl) ?_
      refine X.run 4 [1, 4, 9, 11, 13, 76] [] (.ops (aA B14 [1, 1, 1, 0, 1, 1, 0, 1, 1, 0]) (oA B14 [1, 1, 1, 0, 1, 1, 0, 1, 1, 0] 7 :: lA B14 [1, 1, 1, 0, 1, 1, 0, 1, 1, 0] 8)) [.seq (cA B14 [1, 1, 1, 0, 1, 1, 0, 1, 1, 1]), .seq (cA B14 [1, 1, 1, 1])] ⟨91, [(1, .v (.slice A2 ys2.length (cb - 0))), (4, .v (.bool false)), (9, .v (.slice A21 ((optP ys2).1.length) c21)), (11, .v (.slice A24 ((printO ((optP ys2).1)).length) c24)), (13, .v (.slice A26 ((optP (printO ((optP ys2).1))).1.length) c26)), (76, .v (.bool (((optP (printO ((optP ys2).1))).2) != 0)))], []⟩ (by kernel_rfl) ?_
      refine X.isFalse 76 rfl (by rw [qb2]; rfl) ?_
      refine X.run 2 [1, 4, 11, 76, 77, 78] [] (.ops (aA B14 [1, 1, 1, 0, 1, 1, 0, 1, 1, 0]) (oA B14 [1, 1, 1, 0, 1, 1, 0, 1, 1, 0] 9 :: lA B14 [1, 1, 1, 0, 1, 1, 0, 1, 1, 0] 10)) [.seq (cA B14 [1, 1, 1, 0, 1, 1, 0, 1, 1, 1]), .seq (cA B14 [1, 1, 1, 1])] ⟨91, [(1, .v (.slice A2 ys2.length (cb - 0))), (4, .v (.bool false)), (11, .v (.slice A24 ((printO ((optP ys2).1)).length) c24)), (76, .v (.bool false)), (77, .v (.slice A26 ((optP (printO ((optP ys2).1))).1.length) c26)), (78, .v (.slice A21 ((optP ys2).1.length) c21))], []⟩ (by kernel_rfl) ?_
      refine X.callG (f := 60) (l := [.v (.slice A26 ((optP (printO ((optP ys2).1))).1.length) c26), .v (.slice A21 ((optP ys2).1.length) c21)]) [.slice A26 ((optP (printO ((optP ys2).1))).1.length) c26, .slice A21 ((optP ys2).1.length) c21] 0 (by kernel_rfl) (by kernel_rfl) (by kernel_rfl) (All_ok A26 A21 c26 c21 ((optP (printO ((optP ys2).1))).1) ((optP ys2).1) _ hr27 hr22 hle26 hle21 hmx26 hmx21) ?_
      rintro v28 G28 rows28 hG28 ⟨rfl, rfl⟩
      replace hx := hx.mono hG28.le
      replace hy := hy.mono hG28.le
      replace hr2 := hr2.mono hG28.le
      replace hr4 := hr4.mono hG28.le
      replace hr22 := hr22.mono hG28.le
      replace hr25 := hr25.mono hG28.le
      replace hr27 := hr27.mono hG28.le
      refine X.run 3 [1, 4, 11, 82] [] (.ops (aA B14 [1, 1, 1, 0, 1, 1, 0, 1, 1, 0]) (oA B14 [1, 1, 1, 0, 1, 1, 0, 1, 1, 0] 13 :: lA B14 [1, 1, 1, 0, 1, 1, 0, 1, 1, 0] 14)) [.seq (cA B14 [1, 1, 1, 0, 1, 1, 0, 1, 1, 1]), .seq (cA B14 [1, 1, 1, 1])] ⟨91, [(1, .v (.slice A2 ys2.length (cb - 0))), (4, .v (.bool false)), (11, .v (.slice A24 ((printO ((optP ys2).1)).length) c24)), (82, .v (.bool (!(decide (((optP (printO ((optP ys2).1))).1 : List Opt) = (optP ys2).1)))))], []⟩ (by kernel_rfl) ?_
      refine X.isFalse 82 rfl (by rw [qb2]; simp) ?_
      refine X.run 5 [4, 82, 84, 87] [] (.ops (aA B14 [1, 1, 1, 0, 1, 1, 0, 1, 1, 0]) (oA B14 [1, 1, 1, 0, 1, 1, 0, 1, 1, 0] 18 :: lA B14 [1, 1, 1, 0, 1, 1, 0, 1, 1, 0] 19)) [.seq (cA B14 [1, 1, 1, 0, 1, 1, 0, 1, 1, 1]), .seq (cA B14 [1, 1, 1, 1])] ⟨91, [(4, .v (.bool false)), (82, .v (.bool false)), (84, .v (.int .i64 (((printO ((optP ys2).1)).length : Nat) : Int))), (87, .v (.int .i64 (IntKind.i64.wrap (((ys2.length : Nat) : Int) + 3))))], []⟩ (by kernel_rfl) ?_
      refine X.known 87 (y := .v (.int .i64 (((ys2.length : Nat) : Int) + 3))) rfl (congrArg (fun z_ => AV.v (.int .i64 z_)) (wi64 (by omega) (by omega))) ?_
      refine X.run 4 [4, 89] [] (.code (cA B14 [1, 1, 1, 0, 1, 1, 0, 1, 1, 1])) [.seq (cA B14 [1, 1, 1, 1])] ⟨91, [(4, .v (.bool false)), (89, .v (.bool (decide ((((printO ((optP ys2).1)).length : Nat) : Int) > ((ys2.length : Nat) : Int) + 3))))], []⟩ (by kernel_rfl) ?_
      refine X.isFalse 89 rfl (decide_eq_false (by omega)) ?_
      refine X.run 5 [4] [] (.ops (aA B14 [1, 1, 1, 1, 0]) (oA B14 [1, 1, 1, 1, 0] 0 :: lA B14 [1, 1, 1, 1, 0] 1)) [.seq (cA B14 [1, 1, 1, 1, 1])] ⟨91, [(4, .v (.bool false))], []⟩ (by kernel_rfl) ?_
      refine X.callG (f := 53) (l := []) [] 0 (by kernel_rfl) (by kernel_rfl) (by kernel_rfl) (works12_ok _) ?_
      rintro v29 G29 rows29 hG29 ⟨rfl, rfl⟩
      replace hx := hx.mono hG29.le
      replace hy := hy.mono hG29.le
      replace hr2 := hr2.mono hG29.le
      replace hr4 := hr4.mono hG29.le
      replace hr22 := hr22.mono hG29.le
      replace hr25 := hr25.mono hG29.le
      replace hr27 := hr27.mono hG29.le
      refine X.run 4 [4] [] (.ex .ret) [] ⟨91, [(4, .v (.bool true))], []⟩ (by kernel_rfl) ?_
      refine doneG (.inl rfl) [.bool true] [] (by kernel_rfl) rfl rfl (((((((((((hG3.trans hG4).trans hG5).trans hG21).trans hG22).trans hG24).trans hG25).trans hG26).trans hG27).trans hG28).trans hG29)) ?_
      -- end 3 (FT)
      exact ⟨rfl, rfl⟩
    · -- slot 59: ((optP ys2).2) == 0 is False
      replace h23 : ((optP ys2).2) ≠ 0 := by simpa using h23
      refine X.run 5 [4] [] (.ops (aA B14 [1, 1, 1, 1, 0]) (oA B14 [1, 1, 1, 1, 0] 0 :: lA B14 [1, 1, 1, 1, 0] 1)) [.seq (cA B14 [1, 1, 1, 1, 1])] ⟨91, [(4, .v (.bool false))], []⟩ (by kernel_rfl) ?_
      refine X.callG (f := 53) (l := []) [] 0 (by kernel_rfl) (by kernel_rfl) (by kernel_rfl) (works12_ok _) ?_
      rintro v30 G30 rows30 hG30 ⟨rfl, rfl⟩
      replace hx := hx.mono hG30.le
      replace hy := hy.mono hG30.le
      replace hr2 := hr2.mono hG30.le
      replace hr4 := hr4.mono hG30.le
      replace hr22 := hr22.mono hG30.le
      refine X.run 4 [4] [] (.ex .ret) [] ⟨91, [(4, .v (.bool true))], []⟩ (by kernel_rfl) ?_
      refine doneG (.inl rfl) [.bool true] [] (by kernel_rfl) rfl rfl ((((((hG3.trans hG4).trans hG5).trans hG21).trans hG22).trans hG30)) ?_
      -- end 4 (FF)
      exact ⟨rfl, rfl⟩
end Go.Proofs.YtjgpdbkkpomhjaaX
