/- leatlaw06.HeapMerges. Walked; printed by a small program of this session. Conditions: none. -/
import Derived.Test.YthpinlcfcgnilaaProg
import Derived.KernelRfl
import Derived.Test.YthpinlcfcgnilaaYH1
import Derived.Test.YthpinlcfcgnilaaYH5
import Derived.Test.YthpinlcfcgnilaaYH8
import Derived.Test.YthpinlcfcgnilaaYHM
import Derived.Test.YthpinlcfcgnilaaYHNa
namespace Go.Proofs.YthpinlcfcgnilaaX
open Go.RowKit
open Go.Proofs.YthpinlcfcgnilaaW.PrintLast
set_option linter.unusedVariables false
set_option linter.unusedSimpArgs false
set_option maxRecDepth 100000
set_option maxHeartbeats 8000000 in
theorem HeapMerges_ok (A A2 : Option Addr) (c d : Nat) (ea eb : List Ev) (G : Mem) (hra : rowAt evD G A ea) (hrb : rowAt evD G A2 eb) (hlea : ea.length ≤ c) (hleb : eb.length ≤ d) (hmxa : c ≤ maxLen) (hmxb : d ≤ maxLen) : CallsG Try.prog 13 [.slice A ea.length c, .slice A2 eb.length d] G (fun _ v rows => v = .bool true ∧ rows = []) := by
 simp only [maxLen] at hmxa hmxb
 refine CallsG.enter Try.func13 rfl rfl ?_
 intro w
 refine Rn 7 (Qo B13 6 0) [Qs B13 7] ⟨165, [(0, VL A ea.length c), (1, VL A2 eb.length d), (4, VB false)], []⟩ ?_
 refine X.inlineNew (f := 14) (l := []) (fn := Try.f14) (c := B14) 700 (by kernel_rfl) (by kernel_rfl) Try.func14 (by kernel_rfl) ?_
 intro Q1 M1 hM1 hQ1 fin1
 refine Rn 13 (.ex .ret) [] ⟨3, [(0, .own 2 0)], [(2, ⟨87, [VL none 0 0, I7 0]⟩)]⟩ ?_
 refine fin1 _ _ _ _ 2 87 [VL none 0 0, I7 0] [] (.inl rfl) (by kernel_rfl) (by kernel_rfl) (by kernel_rfl) (by kernel_rfl) (by kernel_rfl) (by kernel_rfl) ?_
 refine Rn 0 (Qo B13 6 1) [Qs B13 7] ⟨165, [(0, VL A ea.length c), (1, VL A2 eb.length d), (4, VB false), (17, .own 700 0)], [(700, ⟨87, [VL none 0 0, I7 0]⟩)]⟩ ?_
 refine X.inlineNew (f := 14) (l := []) (fn := Try.f14) (c := B14) 701 (by kernel_rfl) (by kernel_rfl) Try.func14 (by kernel_rfl) ?_
 intro Q2 M2 hM2 hQ2 fin2
 refine Rn 13 (.ex .ret) [] ⟨3, [(0, .own 2 0)], [(2, ⟨87, [VL none 0 0, I7 0]⟩), (1700, ⟨87, [VL none 0 0, I7 0]⟩)]⟩ ?_
 refine fin2 _ _ _ _ 2 87 [VL none 0 0, I7 0] [(700, ⟨87, [VL none 0 0, I7 0]⟩)] (.inl rfl) (by kernel_rfl) (by kernel_rfl) (by kernel_rfl) (by kernel_rfl) (by kernel_rfl) (by kernel_rfl) ?_
 refine Rn 17 (Qc B13 122) [.blk 0, Qs B13 31] ⟨165, [(0, VL A ea.length c), (1, VL A2 eb.length d), (4, VB false), (5, .own 700 0), (6, .own 701 0), (7, VL none 0 0), (8, VL none 0 0), (9, I6 0)], [(700, ⟨87, [VL none 0 0, I7 0]⟩), (701, ⟨87, [VL none 0 0, I7 0]⟩)]⟩ ?_
 refine X.nilRow 600 89 5 rfl ?_
 refine X.loopJ (fun m s R' G' => ∃ (Cx_ : Option Addr) (c1x_ n1x_ : Nat) (l1x_ : List Item) (qx_ : Int) (Xx_ : Option Addr) (cxx_ : Nat) (xsx_ : List Ev) (ia_ : Nat), s = ⟨165, [(0, VL A ea.length c), (1, VL A2 eb.length d), (4, VB false), (5, .own 700 0), (6, .own 701 0), (7, VL Xx_ xsx_.length cxx_), (8, VL none 0 0), (9, I6 (ia_ : Int))], [(700, ⟨87, [VL Cx_ n1x_ c1x_, I7 qx_]⟩), (701, ⟨87, [VL none 0 0, I7 0]⟩)]⟩ ∧ R' = [(600, RR 89 5 Cx_ n1x_ c1x_ (l1x_.flatMap itC))] ∧ Ge G w.heap.size G' ∧ ((ia_ ≤ ea.length ∧ ia_ ≤ 50) ∧ l1x_.length = n1x_ ∧ Plays l1x_ qx_ xsx_ ∧ (0 ≤ qx_ ∧ qx_ ≤ (ia_ : Int) ∧ n1x_ ≤ ia_) ∧ xsx_.length ≤ cxx_ ∧ cxx_ ≤ maxLen ∧ rowAt evD G' Xx_ xsx_) ∧ m = (ea.length - ia_)) _ ⟨none, 0, 0, [], 0, none, 0, [], 0, rfl, rfl, Ge.refl _ _, ⟨⟨by omega, by omega⟩, rfl, plays_nil, ⟨by omega, by omega, by omega⟩, Nat.zero_le _, Nat.zero_le _, rowAt.nil _ _ _⟩, rfl⟩ ?_
 rintro m3 s3 R3 G3 ⟨Cx_, c1x_, n1x_, l1x_, qx_, Xx_, cxx_, xsx_, ia_, rfl, rfl, hG3, hF3, rfl⟩ J3 hJ3
 replace hra := hra.mono hG3.le
 replace hrb := hrb.mono hG3.le
 obtain ⟨⟨hia_l_, hia_m_⟩, hln1x_, hPx_, ⟨hq0x_, hq1x_, hn1x_⟩, hlxx_, hmxx_, hrxx_⟩ := hF3
 have hplx_ := plays_len hPx_
 have hh1x_ := plays_heap hPx_
 simp only [maxLen] at hmxx_
 refine X.joinC (.ex (.exit 0)) [.loop J3, .blk 0, Qs B13 31] ⟨165, [(0, VL A ea.length c), (1, VL A2 eb.length d), (4, VB false), (5, .own 700 0), (6, .own 701 0), (7, VL Xx_ xsx_.length cxx_), (8, VL none 0 0), (9, I6 (ia_ : Int))], [(700, ⟨87, [VL Cx_ n1x_ c1x_, I7 qx_]⟩), (701, ⟨87, [VL none 0 0, I7 0]⟩)]⟩ ?_ fun hX3 => ?_
 ·
  refine Rn 10 (Qc B13 250) [.blk 2, Qs B13 63] ⟨165, [(1, VL A2 eb.length d), (4, VB false), (5, .own 700 0), (6, .own 701 0), (7, VL Xx_ xsx_.length cxx_), (8, VL none 0 0), (10, I6 0)], [(700, ⟨87, [VL Cx_ n1x_ c1x_, I7 qx_]⟩), (701, ⟨87, [VL none 0 0, I7 0]⟩)]⟩ ?_
  refine X.nilRow 601 89 5 rfl ?_
  refine X.loopJ (fun m s R' G' => ∃ (Cy_ : Option Addr) (c1y_ n1y_ : Nat) (l1y_ : List Item) (qy_ : Int) (Xy_ : Option Addr) (cxy_ : Nat) (xsy_ : List Ev) (ib_ : Nat), s = ⟨165, [(1, VL A2 eb.length d), (4, VB false), (5, .own 700 0), (6, .own 701 0), (7, VL Xx_ xsx_.length cxx_), (8, VL Xy_ xsy_.length cxy_), (10, I6 (ib_ : Int))], [(700, ⟨87, [VL Cx_ n1x_ c1x_, I7 qx_]⟩), (701, ⟨87, [VL Cy_ n1y_ c1y_, I7 qy_]⟩)]⟩ ∧ R' = [(601, RR 89 5 Cy_ n1y_ c1y_ (l1y_.flatMap itC)), (600, RR 89 5 Cx_ n1x_ c1x_ (l1x_.flatMap itC))] ∧ Ge G3 w.heap.size G' ∧ ((ib_ ≤ eb.length ∧ ib_ ≤ 50) ∧ l1y_.length = n1y_ ∧ Plays l1y_ qy_ xsy_ ∧ (0 ≤ qy_ ∧ qy_ ≤ (ib_ : Int) ∧ n1y_ ≤ ib_) ∧ xsy_.length ≤ cxy_ ∧ cxy_ ≤ maxLen ∧ rowAt evD G' Xy_ xsy_) ∧ m = (eb.length - ib_)) _ ⟨none, 0, 0, [], 0, none, 0, [], 0, rfl, rfl, Ge.refl _ _, ⟨⟨by omega, by omega⟩, rfl, plays_nil, ⟨by omega, by omega, by omega⟩, Nat.zero_le _, Nat.zero_le _, rowAt.nil _ _ _⟩, rfl⟩ ?_
  rintro m4 s4 R4 G4 ⟨Cy_, c1y_, n1y_, l1y_, qy_, Xy_, cxy_, xsy_, ib_, rfl, rfl, hG4, hF4, rfl⟩ J4 hJ4
  replace hra := hra.mono hG4.le
  replace hrb := hrb.mono hG4.le
  replace hrxx_ := hrxx_.mono hG4.le
  obtain ⟨⟨hib_l_, hib_m_⟩, hln1y_, hPy_, ⟨hq0y_, hq1y_, hn1y_⟩, hlxy_, hmxy_, hrxy_⟩ := hF4
  have hply_ := plays_len hPy_
  have hh1y_ := plays_heap hPy_
  simp only [maxLen] at hmxy_
  refine X.joinC (.ex (.exit 2)) [.loop J4, .blk 2, Qs B13 63] ⟨165, [(1, VL A2 eb.length d), (4, VB false), (5, .own 700 0), (6, .own 701 0), (7, VL Xx_ xsx_.length cxx_), (8, VL Xy_ xsy_.length cxy_), (10, I6 (ib_ : Int))], [(700, ⟨87, [VL Cx_ n1x_ c1x_, I7 qx_]⟩), (701, ⟨87, [VL Cy_ n1y_ c1y_, I7 qy_]⟩)]⟩ ?_ fun hX4 => ?_
  ·
   refine Rn 8 (Qo B13 252 2) [Qs B13 253, Qs B13 127] ⟨165, [(4, VB false), (5, .own 700 0), (6, .own 701 0), (7, VL Xx_ xsx_.length cxx_), (8, VL Xy_ xsy_.length cxy_), (65, .own 700 0), (66, .own 700 0)], [(700, ⟨87, [VL Cx_ n1x_ c1x_, I7 qx_]⟩), (701, ⟨87, [VL Cy_ n1y_ c1y_, I7 qy_]⟩)]⟩ ?_
   refine X.inline (f := 47) (l := [.own 700 0, .own 700 0]) (fn := Try.f47) (c := B47) (by kernel_rfl) (by kernel_rfl) Try.func47 (by kernel_rfl) ?_
   intro Q5 M5 hM5 hQ5 fin5
   refine Rn 9 (Qo B47 12 1) [Qs B47 13, Qs B47 7] ⟨36, [(0, .own 1700 0), (1, .own 1700 0), (4, I6 0), (8, .own 1700 0)], [(1700, ⟨87, [VL Cx_ n1x_ c1x_, I7 qx_]⟩), (1701, ⟨87, [VL Cy_ n1y_ c1y_, I7 qy_]⟩)]⟩ ?_
   refine X.eqOwnNil (t := 23) (t' := 23) (e := 87) (b := 1700) (off := 0) (x := .tmp 8) (y := .const (.pointer none)) (by kernel_rfl) (fun g => by kernel_rfl) (by kernel_rfl) (by kernel_rfl) (by kernel_rfl) (by kernel_rfl) ?_
   refine Rn 2 (Qo B47 12 4) [Qs B47 13, Qs B47 7] ⟨36, [(0, .own 1700 0), (1, .own 1700 0), (4, I6 0), (10, VB false), (11, .own 1700 0)], [(1700, ⟨87, [VL Cx_ n1x_ c1x_, I7 qx_]⟩), (1701, ⟨87, [VL Cy_ n1y_ c1y_, I7 qy_]⟩)]⟩ ?_
   refine X.eqOwnNil (t := 23) (t' := 23) (e := 87) (b := 1700) (off := 0) (x := .tmp 11) (y := .const (.pointer none)) (by kernel_rfl) (fun g => by kernel_rfl) (by kernel_rfl) (by kernel_rfl) (by kernel_rfl) (by kernel_rfl) ?_
   refine Rn 4 (Qo B47 12 9) [Qs B47 13, Qs B47 7] ⟨36, [(0, .own 1700 0), (1, .own 1700 0), (4, I6 0), (14, VB false), (15, .own 1700 0), (16, .own 1700 0)], [(1700, ⟨87, [VL Cx_ n1x_ c1x_, I7 qx_]⟩), (1701, ⟨87, [VL Cy_ n1y_ c1y_, I7 qy_]⟩)]⟩ ?_
   refine X.eqOwnSame (t := 23) (t' := 23) (e := 87) (b := 1700) (n := 1) (x := .tmp 15) (y := .tmp 16) (by kernel_rfl) (fun g g' => by kernel_rfl) (by kernel_rfl) (by kernel_rfl) (by kernel_rfl) (by kernel_rfl) (by kernel_rfl) ?_
   refine Rn 11 (.ex .ret) [] ⟨36, [(4, I6 0)], [(1700, ⟨87, [VL Cx_ n1x_ c1x_, I7 qx_]⟩), (1701, ⟨87, [VL Cy_ n1y_ c1y_, I7 qy_]⟩)]⟩ ?_
   refine fin5 _ _ _ _ [N6 0] [(700, ⟨87, [VL Cx_ n1x_ c1x_, I7 qx_]⟩), (701, ⟨87, [VL Cy_ n1y_ c1y_, I7 qy_]⟩)] (.inl rfl) (by kernel_rfl) (by kernel_rfl) ?_
   refine Rn 3 (Qo B13 252 6) [Qs B13 253, Qs B13 127] ⟨165, [(4, VB false), (5, .own 700 0), (6, .own 701 0), (7, VL Xx_ xsx_.length cxx_), (8, VL Xy_ xsy_.length cxy_), (69, VB false), (70, .own 700 0)], [(700, ⟨87, [VL Cx_ n1x_ c1x_, I7 qx_]⟩), (701, ⟨87, [VL Cy_ n1y_ c1y_, I7 qy_]⟩)]⟩ ?_
   refine X.inline (f := 47) (l := [.own 700 0, .v (.pointer none)]) (fn := Try.f47) (c := B47) (by kernel_rfl) (by kernel_rfl) Try.func47 (by kernel_rfl) ?_
   intro Q6 M6 hM6 hQ6 fin6
   refine Rn 9 (Qo B47 12 1) [Qs B47 13, Qs B47 7] ⟨36, [(0, .own 1700 0), (1, .v (.pointer none)), (4, I6 0), (8, .own 1700 0)], [(1700, ⟨87, [VL Cx_ n1x_ c1x_, I7 qx_]⟩), (1701, ⟨87, [VL Cy_ n1y_ c1y_, I7 qy_]⟩)]⟩ ?_
   refine X.eqOwnNil (t := 23) (t' := 23) (e := 87) (b := 1700) (off := 0) (x := .tmp 8) (y := .const (.pointer none)) (by kernel_rfl) (fun g => by kernel_rfl) (by kernel_rfl) (by kernel_rfl) (by kernel_rfl) (by kernel_rfl) ?_
   refine Rn 19 (.ex .ret) [] ⟨36, [(4, I6 0)], [(1700, ⟨87, [VL Cx_ n1x_ c1x_, I7 qx_]⟩), (1701, ⟨87, [VL Cy_ n1y_ c1y_, I7 qy_]⟩)]⟩ ?_
   refine fin6 _ _ _ _ [N6 0] [(700, ⟨87, [VL Cx_ n1x_ c1x_, I7 qx_]⟩), (701, ⟨87, [VL Cy_ n1y_ c1y_, I7 qy_]⟩)] (.inl rfl) (by kernel_rfl) (by kernel_rfl) ?_
   refine Rn 5 (Qo B13 252 12) [Qs B13 253, Qs B13 127] ⟨165, [(4, VB false), (5, .own 700 0), (6, .own 701 0), (7, VL Xx_ xsx_.length cxx_), (8, VL Xy_ xsy_.length cxy_), (74, VB false), (75, .own 700 0), (76, .own 701 0)], [(700, ⟨87, [VL Cx_ n1x_ c1x_, I7 qx_]⟩), (701, ⟨87, [VL Cy_ n1y_ c1y_, I7 qy_]⟩)]⟩ ?_
   refine X.inline (f := 47) (l := [.own 700 0, .own 701 0]) (fn := Try.f47) (c := B47) (by kernel_rfl) (by kernel_rfl) Try.func47 (by kernel_rfl) ?_
   intro Q7 M7 hM7 hQ7 fin7
   refine Rn 9 (Qo B47 12 1) [Qs B47 13, Qs B47 7] ⟨36, [(0, .own 1700 0), (1, .own 1701 0), (4, I6 0), (8, .own 1700 0)], [(1700, ⟨87, [VL Cx_ n1x_ c1x_, I7 qx_]⟩), (1701, ⟨87, [VL Cy_ n1y_ c1y_, I7 qy_]⟩)]⟩ ?_
   refine X.eqOwnNil (t := 23) (t' := 23) (e := 87) (b := 1700) (off := 0) (x := .tmp 8) (y := .const (.pointer none)) (by kernel_rfl) (fun g => by kernel_rfl) (by kernel_rfl) (by kernel_rfl) (by kernel_rfl) (by kernel_rfl) ?_
   refine Rn 2 (Qo B47 12 4) [Qs B47 13, Qs B47 7] ⟨36, [(0, .own 1700 0), (1, .own 1701 0), (4, I6 0), (10, VB false), (11, .own 1701 0)], [(1700, ⟨87, [VL Cx_ n1x_ c1x_, I7 qx_]⟩), (1701, ⟨87, [VL Cy_ n1y_ c1y_, I7 qy_]⟩)]⟩ ?_
   refine X.eqOwnNil (t := 23) (t' := 23) (e := 87) (b := 1701) (off := 0) (x := .tmp 11) (y := .const (.pointer none)) (by kernel_rfl) (fun g => by kernel_rfl) (by kernel_rfl) (by kernel_rfl) (by kernel_rfl) (by kernel_rfl) ?_
   refine Rn 4 (Qo B47 12 9) [Qs B47 13, Qs B47 7] ⟨36, [(0, .own 1700 0), (1, .own 1701 0), (4, I6 0), (14, VB false), (15, .own 1700 0), (16, .own 1701 0)], [(1700, ⟨87, [VL Cx_ n1x_ c1x_, I7 qx_]⟩), (1701, ⟨87, [VL Cy_ n1y_ c1y_, I7 qy_]⟩)]⟩ ?_
   refine X.eqOwnOther (t := 23) (t' := 23) (e := 87) (b := 1700) (b' := 1701) (n := 1) (x := .tmp 15) (y := .tmp 16) (by kernel_rfl) (fun g g' => by kernel_rfl) (by kernel_rfl) (by kernel_rfl) rfl rfl (by kernel_rfl) (by kernel_rfl) (by kernel_rfl) (by kernel_rfl) ?_
   refine Rn 9 (Qo B47 14 1) [Qs B47 15] ⟨36, [(0, .own 1700 0), (1, .own 1701 0), (4, I6 0), (19, .own 1701 0)], [(1700, ⟨87, [VL Cx_ n1x_ c1x_, I7 qx_]⟩), (1701, ⟨87, [VL Cy_ n1y_ c1y_, I7 qy_]⟩)]⟩ ?_
   refine X.joinJ (Qc B47 15) [] (fun s2_ R2_ G2_ => ∃ (E_ : Option Addr) (ce_ : Nat), s2_ = ⟨36, [(0, .own 1700 0), (1, .own 1701 0), (4, I6 0), (5, VL E_ n1y_ ce_)], [(1700, ⟨87, [VL Cx_ n1x_ c1x_, I7 qx_]⟩), (1701, ⟨87, [VL Cy_ n1y_ c1y_, I7 qy_]⟩)]⟩ ∧ R2_ = [(19, RR 27 4 E_ n1y_ ce_ (xsy_.flatMap evC)), (601, RR 89 5 Cy_ n1y_ c1y_ (l1y_.flatMap itC)), (600, RR 89 5 Cx_ n1x_ c1x_ (l1x_.flatMap itC))] ∧ Ge G4 w.heap.size G2_ ∧ (True)) ?_ fun hY8 => ?_
   ·
    rintro s2_ R2_ G8 ⟨E_, ce_, rfl, rfl, hG8, hF_⟩
    replace hra := hra.mono hG8.le
    replace hrb := hrb.mono hG8.le
    replace hrxx_ := hrxx_.mono hG8.le
    replace hrxy_ := hrxy_.mono hG8.le
    have hEl_ : xsy_.length = n1y_ := by omega
    refine Rn 17 (Qc B47 250) [.blk 0, Qs B47 63] ⟨36, [(0, .own 1700 0), (4, I6 0), (5, VL E_ n1y_ ce_), (24, VL E_ n1y_ ce_), (25, I6 ((n1y_ : Nat) : Int)), (26, I6 0)], [(1700, ⟨87, [VL Cx_ n1x_ c1x_, I7 qx_]⟩), (1701, ⟨87, [VL none 0 0, I7 qy_]⟩)]⟩ ?_
    refine X.tellR [600, 19] (R' := [(600, RR 89 5 Cx_ n1x_ c1x_ (l1x_.flatMap itC)), (19, RR 27 4 E_ n1y_ ce_ (xsy_.flatMap evC))]) rfl ?_
    refine X.loopJ (fun m s R' G' => ∃ (Cm_ : Option Addr) (c1m_ n1m_ : Nat) (l1m_ : List Item) (qm_ : Int) (jm_ : Nat), s = ⟨36, [(0, .own 1700 0), (4, I6 0), (5, VL E_ n1y_ ce_), (24, VL E_ n1y_ ce_), (25, I6 ((n1y_ : Nat) : Int)), (26, I6 (jm_ : Int))], [(1700, ⟨87, [VL Cm_ n1m_ c1m_, I7 qm_]⟩), (1701, ⟨87, [VL none 0 0, I7 qy_]⟩)]⟩ ∧ R' = [(600, RR 89 5 Cm_ n1m_ c1m_ (l1m_.flatMap itC)), (19, RR 27 4 E_ n1y_ ce_ (xsy_.flatMap evC))] ∧ Ge G8 w.heap.size G' ∧ (jm_ ≤ xsy_.length ∧ l1m_.length = n1m_ ∧ Plays l1m_ qm_ (insF xsx_ (xsy_.take jm_)) ∧ 0 ≤ qm_ ∧ qm_ ≤ 50 + (jm_ : Int) ∧ n1m_ = n1x_ + jm_) ∧ m = (xsy_.length - jm_)) _ ⟨Cx_, c1x_, n1x_, l1x_, qx_, 0, rfl, rfl, Ge.refl _ _, ⟨by omega, hln1x_, hPx_, by omega, by omega, by omega⟩, rfl⟩ ?_
    rintro m9 s9 R9 G9 ⟨Cm_, c1m_, n1m_, l1m_, qm_, jm_, rfl, rfl, hG9, hF9, rfl⟩ J9 hJ9
    replace hra := hra.mono hG9.le
    replace hrb := hrb.mono hG9.le
    replace hrxx_ := hrxx_.mono hG9.le
    replace hrxy_ := hrxy_.mono hG9.le
    obtain ⟨hjm_, hln1m_, hPm_, hq0m_, hq1m_, hn1m_⟩ := hF9
    have hplm_ := plays_len hPm_
    have hh1m_ := plays_heap hPm_
    refine Rn 6 (Qc B47 2002) [Qs B47 2003, .loop J9, .blk 0, Qs B47 63] ⟨36, [(0, .own 1700 0), (4, I6 0), (5, VL E_ n1y_ ce_), (24, VL E_ n1y_ ce_), (25, I6 ((n1y_ : Nat) : Int)), (26, I6 (jm_ : Int)), (27, VB (decide ((jm_ : Int) < ((n1y_ : Nat) : Int))))], [(1700, ⟨87, [VL Cm_ n1m_ c1m_, I7 qm_]⟩), (1701, ⟨87, [VL none 0 0, I7 qy_]⟩)]⟩ ?_
    refine X.split 27 rfl (fun h10 => ?_) (fun h10 => ?_)
    ·
     replace h10 : (jm_ : Int) < ((n1y_ : Nat) : Int) := of_decide_eq_true h10
     have hjl_ : jm_ < xsy_.length := by omega
     refine Rn 7 (Qo B47 16024 0) [Qs B47 16025, .blk 1, Qs B47 4007, .loop J9, .blk 0, Qs B47 63] ⟨36, [(0, .own 1700 0), (4, I6 0), (5, VL E_ n1y_ ce_), (24, VL E_ n1y_ ce_), (25, I6 ((n1y_ : Nat) : Int)), (26, I6 (jm_ : Int))], [(1700, ⟨87, [VL Cm_ n1m_ c1m_, I7 qm_]⟩), (1701, ⟨87, [VL none 0 0, I7 qy_]⟩)]⟩ ?_
     have b11 : (0 : Int) ≤ (jm_ : Int) := by omega
     have b12 : (jm_ : Int) < ((n1y_ : Nat) : Int) := by omega
     refine Ix 80 27 4 E_ n1y_ ce_ .i64 (jm_ : Int) (.tmp 24) (.tmp 26) b11 b12 (rowSome (i := 19) (q := (RR 27 4 E_ n1y_ ce_ (xsy_.flatMap evC))) rfl rfl (flat_pos evC_len (by decide) (by rw [hEl_]; omega))) ?_
     have at13 : At G9 [(600, ⟨89, 5, .slice Cm_ n1m_ c1m_, n1m_, l1m_.flatMap itC⟩), (19, ⟨27, 4, .slice E_ n1y_ ce_, n1y_, xsy_.flatMap evC⟩)] E_ (((jm_ : Int)).toNat * 4) [.int .i64 ((xsy_.getD (((jm_ : Int)).toNat) ev0).1), .int .i64 ((xsy_.getD (((jm_ : Int)).toNat) ev0).2.1), .int .i64 ((xsy_.getD (((jm_ : Int)).toNat) ev0).2.2.1), .int .i64 ((xsy_.getD (((jm_ : Int)).toNat) ev0).2.2.2)] := At.rowF evC evC_len (i := 19) (r := ⟨27, 4, .slice E_ n1y_ ce_, n1y_, xsy_.flatMap evC⟩) ev0 rfl rfl rfl (by rw [hEl_]; omega)
     have at14 : At G9 [(600, ⟨89, 5, .slice Cm_ n1m_ c1m_, n1m_, l1m_.flatMap itC⟩), (19, ⟨27, 4, .slice E_ n1y_ ce_, n1y_, xsy_.flatMap evC⟩)] E_ (((jm_ : Int)).toNat * 4) [.int .i64 ((xsy_.getD (((jm_ : Int)).toNat) ev0).1), .int .i64 ((xsy_.getD (((jm_ : Int)).toNat) ev0).2.1), .int .i64 ((xsy_.getD (((jm_ : Int)).toNat) ev0).2.2.1), .int .i64 ((xsy_.getD (((jm_ : Int)).toNat) ev0).2.2.2)] := At.rowF evC evC_len (i := 19) (r := ⟨27, 4, .slice E_ n1y_ ce_, n1y_, xsy_.flatMap evC⟩) ev0 rfl rfl rfl (by rw [hEl_]; omega)
     refine Ld 27 E_ (((jm_ : Int)).toNat * 4) (.tmp 28) (.agg #[N6 ((xsy_.getD (((jm_ : Int)).toNat) ev0).1), N6 ((xsy_.getD (((jm_ : Int)).toNat) ev0).2.1), N6 ((xsy_.getD (((jm_ : Int)).toNat) ev0).2.2.1), N6 ((xsy_.getD (((jm_ : Int)).toNat) ev0).2.2.2)]) [N6 ((xsy_.getD (((jm_ : Int)).toNat) ev0).1), N6 ((xsy_.getD (((jm_ : Int)).toNat) ev0).2.1), N6 ((xsy_.getD (((jm_ : Int)).toNat) ev0).2.2.1), N6 ((xsy_.getD (((jm_ : Int)).toNat) ev0).2.2.2)] at14 ?_
     refine Rn 7 (Qo B47 16025 2) [.blk 1, Qs B47 4007, .loop J9, .blk 0, Qs B47 63] ⟨36, [(0, .own 1700 0), (4, I6 0), (5, VL E_ n1y_ ce_), (24, VL E_ n1y_ ce_), (25, I6 ((n1y_ : Nat) : Int)), (26, I6 (jm_ : Int)), (30, .own 1700 0), (31, .v (.agg #[N6 ((xsy_.getD (((jm_ : Int)).toNat) ev0).1), N6 ((xsy_.getD (((jm_ : Int)).toNat) ev0).2.1), N6 ((xsy_.getD (((jm_ : Int)).toNat) ev0).2.2.1), N6 ((xsy_.getD (((jm_ : Int)).toNat) ev0).2.2.2)]))], [(1700, ⟨87, [VL Cm_ n1m_ c1m_, I7 qm_]⟩), (1701, ⟨87, [VL none 0 0, I7 qy_]⟩)]⟩ ?_
     refine X.inline (f := 15) (l := [.own 1700 0, .v (.agg #[N6 ((xsy_.getD (((jm_ : Int)).toNat) ev0).1), N6 ((xsy_.getD (((jm_ : Int)).toNat) ev0).2.1), N6 ((xsy_.getD (((jm_ : Int)).toNat) ev0).2.2.1), N6 ((xsy_.getD (((jm_ : Int)).toNat) ev0).2.2.2)])]) (fn := Try.f15) (c := B15) (by kernel_rfl) (by kernel_rfl) Try.func15 (by kernel_rfl) ?_
     intro Q15 M15 hM15 hQ15 fin15
     refine Rn 9 (Qo B15 12 1) [Qs B15 13, Qs B15 7] ⟨36, [(0, .own 2700 0), (3, .own 3 0), (4, .own 2700 0)], [(3, ⟨27, [I6 ((xsy_.getD (((jm_ : Int)).toNat) ev0).1), I6 ((xsy_.getD (((jm_ : Int)).toNat) ev0).2.1), I6 ((xsy_.getD (((jm_ : Int)).toNat) ev0).2.2.1), I6 ((xsy_.getD (((jm_ : Int)).toNat) ev0).2.2.2)]⟩), (2700, ⟨87, [VL Cm_ n1m_ c1m_, I7 qm_]⟩), (2701, ⟨87, [VL none 0 0, I7 qy_]⟩)]⟩ ?_
     refine X.eqOwnNil (t := 23) (t' := 23) (e := 87) (b := 2700) (off := 0) (x := .tmp 4) (y := .const (.pointer none)) (by kernel_rfl) (fun g => by kernel_rfl) (by kernel_rfl) (by kernel_rfl) (by kernel_rfl) (by kernel_rfl) ?_
     refine Rn 6 (Qc B15 14) [Qs B15 15] ⟨36, [(0, .own 2700 0), (3, .own 3 0)], [(3, ⟨27, [I6 ((xsy_.getD (((jm_ : Int)).toNat) ev0).1), I6 ((xsy_.getD (((jm_ : Int)).toNat) ev0).2.1), I6 ((xsy_.getD (((jm_ : Int)).toNat) ev0).2.2.1), I6 ((xsy_.getD (((jm_ : Int)).toNat) ev0).2.2.2)]⟩), (2700, ⟨87, [VL Cm_ n1m_ c1m_, I7 qm_]⟩), (2701, ⟨87, [VL none 0 0, I7 qy_]⟩)]⟩ ?_
     have hra_d16 := hra
     have hrb_d16 := hrb
     have hrxx__d16 := hrxx_
     have hrxy__d16 := hrxy_
     refine Og 2 B15 14 16 [⟨some 0, 2700, 87, [VL Cm_ n1m_ c1m_, I7 qm_]⟩, ⟨some 3, 3, 27, [I6 ((xsy_.getD (((jm_ : Int)).toNat) ev0).1), I6 ((xsy_.getD (((jm_ : Int)).toNat) ev0).2.1), I6 ((xsy_.getD (((jm_ : Int)).toNat) ev0).2.2.1), I6 ((xsy_.getD (((jm_ : Int)).toNat) ev0).2.2.2)]⟩] [] [15] ⟨⟨fun _ h => (by cases h; rfl), rfl⟩, ⟨fun _ h => (by cases h; rfl), rfl⟩, trivial⟩ (by intro p hp hn; simp only [List.mem_cons, List.not_mem_nil, or_false] at hp; rcases hp with rfl | rfl <;> first | (cases hn; done) | exact hM15 _ (Nat.le_of_ble_eq_true rfl)) (fun ρ0 => ?_)
     refine Tk 0 16 1 B15 14 (.own 2700 0) hQ15 ?_
     refine Tk 1 16 3 B15 14 (.own 2700 0) hQ15 ?_
     refine XD.nilOwn (i := 2) (l' := (lb 16 7)) (oA B15 (pa 14) 2) (x := .tmp 7) (b := 2700) (off := 0) hQ15 (by kernel_rfl) (by kernel_rfl) (by kernel_rfl) (by kernel_rfl) (by kernel_rfl) (by kernel_rfl) ?_
     refine Tk 3 16 15 B15 14 (.own 2700 0) hQ15 ?_
     refine Tk 4 16 31 B15 14 (VL Cm_ n1m_ c1m_) hQ15 ?_
     refine Tk 5 16 63 B15 14 (.v (.agg #[N6 ((xsy_.getD (((jm_ : Int)).toNat) ev0).1), N6 ((xsy_.getD (((jm_ : Int)).toNat) ev0).2.1), N6 ((xsy_.getD (((jm_ : Int)).toNat) ev0).2.2.1), N6 ((xsy_.getD (((jm_ : Int)).toNat) ev0).2.2.2)])) hQ15 ?_
     refine Tk 6 16 127 B15 14 (.own 2700 0) hQ15 ?_
     refine XD.nilOwn (i := 7) (l' := (lb 16 255)) (oA B15 (pa 14) 7) (x := .tmp 12) (b := 2700) (off := 0) hQ15 (by kernel_rfl) (by kernel_rfl) (by kernel_rfl) (by kernel_rfl) (by kernel_rfl) (by kernel_rfl) ?_
     refine Ts [8, 9, 10] 16 2047 5 8 hQ15 ?_
     refine Dn ⟨36, [(0, .own 2700 0), (3, .own 3 0), (6, .own 2700 0), (10, VL Cm_ n1m_ c1m_), (16, .v (.agg #[N6 ((xsy_.getD (((jm_ : Int)).toNat) ev0).1), N6 ((xsy_.getD (((jm_ : Int)).toNat) ev0).2.1), N6 ((xsy_.getD (((jm_ : Int)).toNat) ev0).2.2.1), N6 ((xsy_.getD (((jm_ : Int)).toNat) ev0).2.2.2), N7 qm_]))], [(3, ⟨27, [I6 ((xsy_.getD (((jm_ : Int)).toNat) ev0).1), I6 ((xsy_.getD (((jm_ : Int)).toNat) ev0).2.1), I6 ((xsy_.getD (((jm_ : Int)).toNat) ev0).2.2.1), I6 ((xsy_.getD (((jm_ : Int)).toNat) ev0).2.2.2)]⟩), (2700, ⟨87, [VL Cm_ n1m_ c1m_, I7 qm_]⟩), (2701, ⟨87, [VL none 0 0, I7 qy_]⟩)]⟩ ⟨⟨fun _ h => (by cases h; rfl), rfl⟩, ⟨fun _ h => (by cases h; rfl), rfl⟩, trivial⟩ ?_
     refine Do 11 16 4095 B15 14 ?_
     refine Lt 17 89 5 1 [N6 ((xsy_.getD (((jm_ : Int)).toNat) ev0).1), N6 ((xsy_.getD (((jm_ : Int)).toNat) ev0).2.1), N6 ((xsy_.getD (((jm_ : Int)).toNat) ev0).2.2.1), N6 ((xsy_.getD (((jm_ : Int)).toNat) ev0).2.2.2), N7 qm_] ?_
     intro A17
     refine X.back ⟨⟨⟨fun _ h => (by cases h; rfl), rfl⟩, ⟨fun _ h => (by cases h; rfl), rfl⟩, trivial⟩, Le.refl _, rfl, ?_⟩
     refine Dn ⟨36, [(0, .own 2700 0), (3, .own 3 0), (6, .own 2700 0), (10, VL Cm_ n1m_ c1m_), (17, VL A17 1 1)], [(3, ⟨27, [I6 ((xsy_.getD (((jm_ : Int)).toNat) ev0).1), I6 ((xsy_.getD (((jm_ : Int)).toNat) ev0).2.1), I6 ((xsy_.getD (((jm_ : Int)).toNat) ev0).2.2.1), I6 ((xsy_.getD (((jm_ : Int)).toNat) ev0).2.2.2)]⟩), (2700, ⟨87, [VL Cm_ n1m_ c1m_, I7 qm_]⟩), (2701, ⟨87, [VL none 0 0, I7 qy_]⟩)]⟩ ⟨⟨fun _ h => (by cases h; rfl), rfl⟩, ⟨fun _ h => (by cases h; rfl), rfl⟩, trivial⟩ ?_
     refine Do 12 16 8191 B15 14 ?_
     refine Ap 600 (RR 89 5 Cm_ n1m_ c1m_ (l1m_.flatMap itC)) 84 40 (.agg #[N6 0, N6 0, N6 0, N6 0, N7 0]) (.tmp 10) (.tmp 17) n1m_ c1m_ 1 1 Cm_ A17 [N6 ((xsy_.getD (((jm_ : Int)).toNat) ev0).1), N6 ((xsy_.getD (((jm_ : Int)).toNat) ev0).2.1), N6 ((xsy_.getD (((jm_ : Int)).toNat) ev0).2.2.1), N6 ((xsy_.getD (((jm_ : Int)).toNat) ev0).2.2.2), N7 qm_] (.inl rfl) (by kernel_rfl) (At.of_row (i := 17) (r := (RR 89 5 A17 1 1 [N6 ((xsy_.getD (((jm_ : Int)).toNat) ev0).1), N6 ((xsy_.getD (((jm_ : Int)).toNat) ev0).2.1), N6 ((xsy_.getD (((jm_ : Int)).toNat) ev0).2.2.1), N6 ((xsy_.getD (((jm_ : Int)).toNat) ev0).2.2.2), N7 qm_])) rfl rfl) (fun w hw e => absurd (rowSome (i := 17) (q := (RR 89 5 A17 1 1 [N6 ((xsy_.getD (((jm_ : Int)).toNat) ev0).1), N6 ((xsy_.getD (((jm_ : Int)).toNat) ev0).2.1), N6 ((xsy_.getD (((jm_ : Int)).toNat) ev0).2.2.1), N6 ((xsy_.getD (((jm_ : Int)).toNat) ev0).2.2.2), N7 qm_])) rfl rfl (Nat.succ_pos _) w hw) (by rw [e]; decide)) (ones (by kernel_rfl)) (by omega) ?_
     intro A18 c18 hc18
     refine X.tellR [600, 17, 19] (R' := [(600, RR 89 5 A18 (n1m_ + 1) c18 ((l1m_ ++ [((xsy_.getD (((jm_ : Int)).toNat) ev0).1, (xsy_.getD (((jm_ : Int)).toNat) ev0).2.1, (xsy_.getD (((jm_ : Int)).toNat) ev0).2.2.1, (xsy_.getD (((jm_ : Int)).toNat) ev0).2.2.2, qm_)]).flatMap itC)), (17, RR 89 5 A17 1 1 [N6 ((xsy_.getD (((jm_ : Int)).toNat) ev0).1), N6 ((xsy_.getD (((jm_ : Int)).toNat) ev0).2.1), N6 ((xsy_.getD (((jm_ : Int)).toNat) ev0).2.2.1), N6 ((xsy_.getD (((jm_ : Int)).toNat) ev0).2.2.2), N7 qm_]), (19, RR 27 4 E_ n1y_ ce_ (xsy_.flatMap evC))]) (congrArg (fun cs_ => (600, (RR 89 5 A18 (n1m_ + 1) c18 cs_ : Row)) :: [(17, RR 89 5 A17 1 1 [N6 ((xsy_.getD (((jm_ : Int)).toNat) ev0).1), N6 ((xsy_.getD (((jm_ : Int)).toNat) ev0).2.1), N6 ((xsy_.getD (((jm_ : Int)).toNat) ev0).2.2.1), N6 ((xsy_.getD (((jm_ : Int)).toNat) ev0).2.2.2), N7 qm_]), (19, RR 27 4 E_ n1y_ ce_ (xsy_.flatMap evC))]) (flat_snoc itC l1m_ (((xsy_.getD (((jm_ : Int)).toNat) ev0).1, (xsy_.getD (((jm_ : Int)).toNat) ev0).2.1, (xsy_.getD (((jm_ : Int)).toNat) ev0).2.2.1, (xsy_.getD (((jm_ : Int)).toNat) ev0).2.2.2, qm_) : Item))) ?_
     obtain ⟨l18, hl18⟩ : ∃ z_, (l1m_ ++ [((xsy_.getD (((jm_ : Int)).toNat) ev0).1, (xsy_.getD (((jm_ : Int)).toNat) ev0).2.1, (xsy_.getD (((jm_ : Int)).toNat) ev0).2.2.1, (xsy_.getD (((jm_ : Int)).toNat) ev0).2.2.2, qm_)]) = z_ := ⟨_, rfl⟩
     rw [hl18]
     have hn18 : l18.length = n1m_ + 1 := by rw [← hl18, List.length_append, hln1m_]; rfl
     refine X.back ⟨⟨⟨fun _ h => (by cases h; rfl), rfl⟩, ⟨fun _ h => (by cases h; rfl), rfl⟩, trivial⟩, Le.refl _, rfl, ?_⟩
     refine XD.nilOwn (i := 13) (l' := (lb 16 16383)) (oA B15 (pa 14) 13) (x := .tmp 6) (b := 2700) (off := 0) hQ15 (by kernel_rfl) (by kernel_rfl) (by kernel_rfl) (by kernel_rfl) (by kernel_rfl) (by kernel_rfl) ?_
     refine Ts [14] 16 32767 1 2 hQ15 ?_
     refine XD.toE ?_
     refine En ⟨36, [(0, .own 2700 0), (3, .own 3 0), (18, VL A18 (n1m_ + 1) c18), (20, .own 2700 0)], [(3, ⟨27, [I6 ((xsy_.getD (((jm_ : Int)).toNat) ev0).1), I6 ((xsy_.getD (((jm_ : Int)).toNat) ev0).2.1), I6 ((xsy_.getD (((jm_ : Int)).toNat) ev0).2.2.1), I6 ((xsy_.getD (((jm_ : Int)).toNat) ev0).2.2.2)]⟩), (2700, ⟨87, [VL Cm_ n1m_ c1m_, I7 qm_]⟩), (2701, ⟨87, [VL none 0 0, I7 qy_]⟩)]⟩ ?_
     refine Eo 15 16 65535 B15 14 ?_
     refine X.simple (by kernel_rfl) ?_
     refine X.back ?_
     refine XE.done (by kernel_rfl) ?_
     refine Rn 8 (Qo B15 30 5) [Qs B15 31] ⟨36, [(0, .own 2700 0), (21, .own 2700 0), (25, I7 (IntKind.u64.wrap (qm_ + 1)))], [(2700, ⟨87, [VL A18 (n1m_ + 1) c18, I7 qm_]⟩), (2701, ⟨87, [VL none 0 0, I7 qy_]⟩)]⟩ ?_
     refine Kn 25 .u64 (qm_ + 1) rfl (wu64 (by omega) (by omega)) ?_
     refine Rn 13 (Qo B15 31 7) [] ⟨36, [(28, .own 2700 0), (34, I6 (IntKind.i64.wrap (((n1m_ + 1 : Nat) : Int) - 1)))], [(2700, ⟨87, [VL A18 (n1m_ + 1) c18, I7 (qm_ + 1)]⟩), (2701, ⟨87, [VL none 0 0, I7 qy_]⟩)]⟩ ?_
     refine Kn 34 .i64 (n1m_ : Int) rfl (by rw [wi64 (by omega) (by omega)]; omega) ?_
     refine X.inline (f := 49) (l := [.own 2700 0, I6 (n1m_ : Int)]) (fn := Try.f49) (c := B49) (by kernel_rfl) (by kernel_rfl) Try.func49 (by kernel_rfl) ?_
     intro Q19 M19 hM19 hQ19 fin19
     refine Rn 1 (Qc B49 2) [.blk 0] ⟨42, [(0, .own 3700 0), (1, I6 (n1m_ : Int))], [(3700, ⟨87, [VL A18 (n1m_ + 1) c18, I7 (qm_ + 1)]⟩), (3701, ⟨87, [VL none 0 0, I7 qy_]⟩)]⟩ ?_
     refine X.loopJ (fun m s R' G' => ∃ (i2_ : Nat) (l2_ : List Item), s = ⟨42, [(0, .own 3700 0), (1, I6 (i2_ : Int))], [(3700, ⟨87, [VL A18 (n1m_ + 1) c18, I7 (qm_ + 1)]⟩), (3701, ⟨87, [VL none 0 0, I7 qy_]⟩)]⟩ ∧ R' = [(600, RR 89 5 A18 (n1m_ + 1) c18 (l2_.flatMap itC)), (17, RR 89 5 A17 1 1 [N6 ((xsy_.getD (((jm_ : Int)).toNat) ev0).1), N6 ((xsy_.getD (((jm_ : Int)).toNat) ev0).2.1), N6 ((xsy_.getD (((jm_ : Int)).toNat) ev0).2.2.1), N6 ((xsy_.getD (((jm_ : Int)).toNat) ev0).2.2.2), N7 qm_]), (19, RR 27 4 E_ n1y_ ce_ (xsy_.flatMap evC))] ∧ Ge G9 w.heap.size G' ∧ (i2_ < n1m_ + 1 ∧ l2_.length = n1m_ + 1 ∧ UpOk l2_ i2_ ∧ l2_.Perm l18) ∧ m = (i2_ + 1)) _ ⟨n1m_, l18, rfl, rfl, Ge.refl _ _, ⟨by omega, hn18, by rw [← hl18, ← hln1m_]; exact up_new hh1m_ _, List.Perm.refl _⟩, rfl⟩ ?_
     rintro m20 s20 R20 G20 ⟨i2_, l2_, rfl, rfl, hG20, hF20, rfl⟩ J20 hJ20
     replace hra := hra.mono hG20.le
     replace hrb := hrb.mono hG20.le
     replace hrxx_ := hrxx_.mono hG20.le
     replace hrxy_ := hrxy_.mono hG20.le
     obtain ⟨hi2_, hln2_, hup_, hpm_⟩ := hF20
     refine Rn 7 (Qc B49 17) [Qs B49 9, .loop J20, .blk 0] ⟨42, [(0, .own 3700 0), (1, I6 (i2_ : Int)), (6, VB (decide ((i2_ : Int) > 0)))], [(3700, ⟨87, [VL A18 (n1m_ + 1) c18, I7 (qm_ + 1)]⟩), (3701, ⟨87, [VL none 0 0, I7 qy_]⟩)]⟩ ?_
     refine X.split 6 rfl (fun h21 => ?_) (fun h21 => ?_)
     ·
      replace h21 : (i2_ : Int) > 0 := of_decide_eq_true h21
      refine Rn 8 (Qo B49 36 2) [Qs B49 37, .blk 1, .loop J20, .blk 0] ⟨42, [(0, .own 3700 0), (1, I6 (i2_ : Int)), (8, I6 (IntKind.i64.wrap ((i2_ : Int) - 1)))], [(3700, ⟨87, [VL A18 (n1m_ + 1) c18, I7 (qm_ + 1)]⟩), (3701, ⟨87, [VL none 0 0, I7 qy_]⟩)]⟩ ?_
      refine Kn 8 .i64 ((i2_ : Int) - 1) rfl (wi64 (by omega) (by omega)) ?_
      refine Rn 1 (Qo B49 36 3) [Qs B49 37, .blk 1, .loop J20, .blk 0] ⟨42, [(0, .own 3700 0), (1, I6 (i2_ : Int)), (9, I6 (IntKind.i64.wrap (Int.tdiv ((i2_ : Int) - 1) 2)))], [(3700, ⟨87, [VL A18 (n1m_ + 1) c18, I7 (qm_ + 1)]⟩), (3701, ⟨87, [VL none 0 0, I7 qy_]⟩)]⟩ ?_
      refine Kn 9 .i64 (((i2_ - 1) / 2 : Nat) : Int) rfl (by rw [wdiv_i64 (by omega) (by omega) (by omega)]; omega) ?_
      refine Rn 9 (Qo B49 148 3) [Qs B49 149, Qs B49 75, .blk 1, .loop J20, .blk 0] ⟨42, [(0, .own 3700 0), (1, I6 (i2_ : Int)), (4, I6 (((i2_ - 1) / 2 : Nat) : Int)), (10, .own 3700 0), (11, I6 (i2_ : Int)), (12, I6 (((i2_ - 1) / 2 : Nat) : Int))], [(3700, ⟨87, [VL A18 (n1m_ + 1) c18, I7 (qm_ + 1)]⟩), (3701, ⟨87, [VL none 0 0, I7 qy_]⟩)]⟩ ?_
      refine X.joinCG (Qc B49 149) [Qs B49 75, .blk 1, .loop J20, .blk 0] ⟨42, [(0, .own 3700 0), (1, I6 (i2_ : Int)), (4, I6 (((i2_ - 1) / 2 : Nat) : Int)), (14, VB (!(decide (ltI (l2_.getD ((i2_ : Int)).toNat it0) (l2_.getD ((((i2_ - 1) / 2 : Nat) : Int)).toNat it0)))))], [(3700, ⟨87, [VL A18 (n1m_ + 1) c18, I7 (qm_ + 1)]⟩), (3701, ⟨87, [VL none 0 0, I7 qy_]⟩)]⟩ ?_ fun hY22 => ?_
      ·
       intro G22 hG22
       replace hra := hra.mono hG22.le
       replace hrb := hrb.mono hG22.le
       replace hrxx_ := hrxx_.mono hG22.le
       replace hrxy_ := hrxy_.mono hG22.le
       refine Rn 0 (Qc B49 149) [Qs B49 75, .blk 1, .loop J20, .blk 0] ⟨42, [(0, .own 3700 0), (1, I6 (i2_ : Int)), (4, I6 (((i2_ - 1) / 2 : Nat) : Int)), (14, VB (!(decide (ltI (l2_.getD ((i2_ : Int)).toNat it0) (l2_.getD ((((i2_ - 1) / 2 : Nat) : Int)).toNat it0)))))], [(3700, ⟨87, [VL A18 (n1m_ + 1) c18, I7 (qm_ + 1)]⟩), (3701, ⟨87, [VL none 0 0, I7 qy_]⟩)]⟩ ?_
       refine X.split 14 rfl (fun h23 => ?_) (fun h23 => ?_)
       ·
        replace h23 : (decide (ltI (l2_.getD ((i2_ : Int)).toNat it0) (l2_.getD ((((i2_ - 1) / 2 : Nat) : Int)).toNat it0))) = false := by first | (simpa using h23; done) | (have h_ := congrArg (fun b_ => !b_) h23; simpa only [Bool.not_not, Bool.not_true, Bool.not_false] using h_)
        replace h23 : ¬ (ltI (l2_.getD ((i2_ : Int)).toNat it0) (l2_.getD ((((i2_ - 1) / 2 : Nat) : Int)).toNat it0)) := of_decide_eq_false h23
        have hh2_ : HeapFrom l2_ 0 := up_end hup_ (.inr h23)
        refine Rn 6 (.ex .ret) [] ⟨42, [], [(3700, ⟨87, [VL A18 (n1m_ + 1) c18, I7 (qm_ + 1)]⟩), (3701, ⟨87, [VL none 0 0, I7 qy_]⟩)]⟩ ?_
        refine fin19 _ _ _ _ [] [(2700, ⟨87, [VL A18 (n1m_ + 1) c18, I7 (qm_ + 1)]⟩), (2701, ⟨87, [VL none 0 0, I7 qy_]⟩)] (.inl rfl) (by kernel_rfl) (by kernel_rfl) ?_
        refine Rn 1 (.ex .normal) [] ⟨36, [], [(2700, ⟨87, [VL A18 (n1m_ + 1) c18, I7 (qm_ + 1)]⟩), (2701, ⟨87, [VL none 0 0, I7 qy_]⟩)]⟩ ?_
        refine fin15 _ _ _ _ [] [(1700, ⟨87, [VL A18 (n1m_ + 1) c18, I7 (qm_ + 1)]⟩), (1701, ⟨87, [VL none 0 0, I7 qy_]⟩)] (.inr rfl) (by kernel_rfl) (by kernel_rfl) ?_
        refine Rn 5 (Qo B47 4007 1) [.loop J9, .blk 0, Qs B47 63] ⟨36, [(0, .own 1700 0), (4, I6 0), (5, VL E_ n1y_ ce_), (24, VL E_ n1y_ ce_), (25, I6 ((n1y_ : Nat) : Int)), (26, I6 (jm_ : Int)), (33, I6 (IntKind.i64.wrap ((jm_ : Int) + 1)))], [(1700, ⟨87, [VL A18 (n1m_ + 1) c18, I7 (qm_ + 1)]⟩), (1701, ⟨87, [VL none 0 0, I7 qy_]⟩)]⟩ ?_
        refine Kn 33 .i64 ((jm_ : Int) + 1) rfl (wi64 (by omega) (by omega)) ?_
        refine Rn 2 (.ex .normal) [.loop J9, .blk 0, Qs B47 63] ⟨36, [(0, .own 1700 0), (4, I6 0), (5, VL E_ n1y_ ce_), (24, VL E_ n1y_ ce_), (25, I6 ((n1y_ : Nat) : Int)), (26, I6 ((jm_ : Int) + 1))], [(1700, ⟨87, [VL A18 (n1m_ + 1) c18, I7 (qm_ + 1)]⟩), (1701, ⟨87, [VL none 0 0, I7 qy_]⟩)]⟩ ?_
        refine X.tellR [600, 19] (R' := [(600, RR 89 5 A18 (n1m_ + 1) c18 (l2_.flatMap itC)), (19, RR 27 4 E_ n1y_ ce_ (xsy_.flatMap evC))]) rfl ?_
        exact X.again (hJ9 _ _ _ _ ⟨A18, c18, (n1m_ + 1), l2_, (qm_ + 1), (jm_ + 1), rfl, rfl, ((hG9.trans hG20).trans hG22), ⟨by omega, hln2_, by rw [insF_step hjl_]; exact plays_push (x := ((xsy_.getD jm_ ev0).1, (xsy_.getD jm_ ev0).2.1, (xsy_.getD jm_ ev0).2.2.1, (xsy_.getD jm_ ev0).2.2.2, qm_)) hPm_ rfl hh2_ (by rw [← hl18] at hpm_; exact hpm_), by omega, by omega, by omega⟩, rfl⟩ (by omega))
       ·
        replace h23 : (decide (ltI (l2_.getD ((i2_ : Int)).toNat it0) (l2_.getD ((((i2_ - 1) / 2 : Nat) : Int)).toNat it0))) = true := by first | (simpa using h23; done) | (have h_ := congrArg (fun b_ => !b_) h23; simpa only [Bool.not_not, Bool.not_true, Bool.not_false] using h_)
        replace h23 : ltI (l2_.getD ((i2_ : Int)).toNat it0) (l2_.getD ((((i2_ - 1) / 2 : Nat) : Int)).toNat it0) := of_decide_eq_true h23
        have hlt_ : ltI (at_ l2_ i2_) (at_ l2_ ((i2_ - 1) / 2)) := h23
        refine Rn 4 (Qc B49 150) [Qs B49 151, .blk 1, .loop J20, .blk 0] ⟨42, [(0, .own 3700 0), (1, I6 (i2_ : Int)), (4, I6 (((i2_ - 1) / 2 : Nat) : Int))], [(3700, ⟨87, [VL A18 (n1m_ + 1) c18, I7 (qm_ + 1)]⟩), (3701, ⟨87, [VL none 0 0, I7 qy_]⟩)]⟩ ?_
        have hra_d24 := hra
        have hrb_d24 := hrb
        have hrxx__d24 := hrxx_
        have hrxy__d24 := hrxy_
        refine Og 3 B49 150 28 [⟨some 0, 3700, 87, [VL A18 (n1m_ + 1) c18, I7 (qm_ + 1)]⟩] [(600, RR 89 5 A18 (n1m_ + 1) c18 (l2_.flatMap itC))] [25, 26, 27] ⟨⟨fun _ h => (by cases h; rfl), rfl⟩, trivial⟩ (by intro p hp hn; simp only [List.mem_cons, List.not_mem_nil, or_false] at hp; rcases hp with rfl <;> first | (cases hn; done) | exact hM19 _ (Nat.le_of_ble_eq_true rfl)) (fun ρ0 => ?_)
        refine Tk 0 28 1 B49 150 (.own 3700 0) hQ19 ?_
        refine XD.nilOwn (i := 1) (l' := (lb 28 3)) (oA B49 (pa 150) 1) (x := .tmp 15) (b := 3700) (off := 0) hQ19 (by kernel_rfl) (by kernel_rfl) (by kernel_rfl) (by kernel_rfl) (by kernel_rfl) (by kernel_rfl) ?_
        refine Tk 2 28 7 B49 150 (.own 3700 0) hQ19 ?_
        refine Tk 3 28 15 B49 150 (VL A18 (n1m_ + 1) c18) hQ19 ?_
        refine Tk 4 28 31 B49 150 (I6 (i2_ : Int)) hQ19 ?_
        refine Tk 5 28 63 B49 150 (.own 3700 0) hQ19 ?_
        refine XD.nilOwn (i := 6) (l' := (lb 28 127)) (oA B49 (pa 150) 6) (x := .tmp 20) (b := 3700) (off := 0) hQ19 (by kernel_rfl) (by kernel_rfl) (by kernel_rfl) (by kernel_rfl) (by kernel_rfl) (by kernel_rfl) ?_
        refine Tk 7 28 255 B49 150 (.own 3700 0) hQ19 ?_
        refine Tk 8 28 511 B49 150 (VL A18 (n1m_ + 1) c18) hQ19 ?_
        refine XD.pureMove (i := 9) (l' := (lb 28 1023)) (x := .tmp 4) (oA B49 (pa 150) 9) (I6 (((i2_ - 1) / 2 : Nat) : Int)) hQ19 (by kernel_rfl) (by kernel_rfl) (by kernel_rfl) (by kernel_rfl) (by kernel_rfl) (by kernel_rfl) ?_
        refine Tk 10 28 2047 B49 150 (.own 3700 0) hQ19 ?_
        refine XD.nilOwn (i := 11) (l' := (lb 28 4095)) (oA B49 (pa 150) 11) (x := .tmp 25) (b := 3700) (off := 0) hQ19 (by kernel_rfl) (by kernel_rfl) (by kernel_rfl) (by kernel_rfl) (by kernel_rfl) (by kernel_rfl) ?_
        refine Tk 12 28 8191 B49 150 (.own 3700 0) hQ19 ?_
        refine Tk 13 28 16383 B49 150 (VL A18 (n1m_ + 1) c18) hQ19 ?_
        refine Tk 14 28 32767 B49 150 (I6 (((i2_ - 1) / 2 : Nat) : Int)) hQ19 ?_
        have b25 : (0 : Int) ≤ (((i2_ - 1) / 2 : Nat) : Int) := by omega
        have b26 : (((i2_ - 1) / 2 : Nat) : Int) < ((n1m_ + 1 : Nat) : Int) := by omega
        have at27 : At G22 [(600, ⟨89, 5, .slice A18 (n1m_ + 1) c18, n1m_ + 1, l2_.flatMap itC⟩)] A18 (((((i2_ - 1) / 2 : Nat) : Int)).toNat * 5) [.int .i64 ((l2_.getD (((((i2_ - 1) / 2 : Nat) : Int)).toNat) it0).1), .int .i64 ((l2_.getD (((((i2_ - 1) / 2 : Nat) : Int)).toNat) it0).2.1), .int .i64 ((l2_.getD (((((i2_ - 1) / 2 : Nat) : Int)).toNat) it0).2.2.1), .int .i64 ((l2_.getD (((((i2_ - 1) / 2 : Nat) : Int)).toNat) it0).2.2.2.1), .int .u64 ((l2_.getD (((((i2_ - 1) / 2 : Nat) : Int)).toNat) it0).2.2.2.2)] := At.rowF itC itC_len (i := 600) (r := ⟨89, 5, .slice A18 (n1m_ + 1) c18, n1m_ + 1, l2_.flatMap itC⟩) it0 rfl rfl rfl (by rw [hln2_]; omega)
        refine Dx 15 28 65535 B49 150 84 89 5 A18 (n1m_ + 1) c18 .i64 (((i2_ - 1) / 2 : Nat) : Int) (.tmp 28) (.tmp 29) hQ19 b25 b26 (rowSome (i := 600) (q := (RR 89 5 A18 (n1m_ + 1) c18 (l2_.flatMap itC))) rfl rfl (flat_pos itC_len (by decide) (by rw [hln2_]; omega))) ?_
        have at28 : At G22 [(600, ⟨89, 5, .slice A18 (n1m_ + 1) c18, n1m_ + 1, l2_.flatMap itC⟩)] A18 (((((i2_ - 1) / 2 : Nat) : Int)).toNat * 5) [.int .i64 ((l2_.getD (((((i2_ - 1) / 2 : Nat) : Int)).toNat) it0).1), .int .i64 ((l2_.getD (((((i2_ - 1) / 2 : Nat) : Int)).toNat) it0).2.1), .int .i64 ((l2_.getD (((((i2_ - 1) / 2 : Nat) : Int)).toNat) it0).2.2.1), .int .i64 ((l2_.getD (((((i2_ - 1) / 2 : Nat) : Int)).toNat) it0).2.2.2.1), .int .u64 ((l2_.getD (((((i2_ - 1) / 2 : Nat) : Int)).toNat) it0).2.2.2.2)] := At.rowF itC itC_len (i := 600) (r := ⟨89, 5, .slice A18 (n1m_ + 1) c18, n1m_ + 1, l2_.flatMap itC⟩) it0 rfl rfl rfl (by rw [hln2_]; omega)
        refine Dl 16 28 131071 B49 150 89 A18 (((((i2_ - 1) / 2 : Nat) : Int)).toNat * 5) (.tmp 30) (.agg #[N6 ((l2_.getD (((((i2_ - 1) / 2 : Nat) : Int)).toNat) it0).1), N6 ((l2_.getD (((((i2_ - 1) / 2 : Nat) : Int)).toNat) it0).2.1), N6 ((l2_.getD (((((i2_ - 1) / 2 : Nat) : Int)).toNat) it0).2.2.1), N6 ((l2_.getD (((((i2_ - 1) / 2 : Nat) : Int)).toNat) it0).2.2.2.1), N7 ((l2_.getD (((((i2_ - 1) / 2 : Nat) : Int)).toNat) it0).2.2.2.2)]) [N6 ((l2_.getD (((((i2_ - 1) / 2 : Nat) : Int)).toNat) it0).1), N6 ((l2_.getD (((((i2_ - 1) / 2 : Nat) : Int)).toNat) it0).2.1), N6 ((l2_.getD (((((i2_ - 1) / 2 : Nat) : Int)).toNat) it0).2.2.1), N6 ((l2_.getD (((((i2_ - 1) / 2 : Nat) : Int)).toNat) it0).2.2.2.1), N7 ((l2_.getD (((((i2_ - 1) / 2 : Nat) : Int)).toNat) it0).2.2.2.2)] hQ19 at28 ?_
        refine Tk 17 28 262143 B49 150 (.own 3700 0) hQ19 ?_
        refine XD.nilOwn (i := 18) (l' := (lb 28 524287)) (oA B49 (pa 150) 18) (x := .tmp 32) (b := 3700) (off := 0) hQ19 (by kernel_rfl) (by kernel_rfl) (by kernel_rfl) (by kernel_rfl) (by kernel_rfl) (by kernel_rfl) ?_
        refine Tk 19 28 1048575 B49 150 (.own 3700 0) hQ19 ?_
        refine Tk 20 28 2097151 B49 150 (VL A18 (n1m_ + 1) c18) hQ19 ?_
        refine Tk 21 28 4194303 B49 150 (I6 (i2_ : Int)) hQ19 ?_
        have b29 : (0 : Int) ≤ (i2_ : Int) := by omega
        have b30 : (i2_ : Int) < ((n1m_ + 1 : Nat) : Int) := by omega
        have at31 : At G22 [(600, ⟨89, 5, .slice A18 (n1m_ + 1) c18, n1m_ + 1, l2_.flatMap itC⟩)] A18 (((i2_ : Int)).toNat * 5) [.int .i64 ((l2_.getD (((i2_ : Int)).toNat) it0).1), .int .i64 ((l2_.getD (((i2_ : Int)).toNat) it0).2.1), .int .i64 ((l2_.getD (((i2_ : Int)).toNat) it0).2.2.1), .int .i64 ((l2_.getD (((i2_ : Int)).toNat) it0).2.2.2.1), .int .u64 ((l2_.getD (((i2_ : Int)).toNat) it0).2.2.2.2)] := At.rowF itC itC_len (i := 600) (r := ⟨89, 5, .slice A18 (n1m_ + 1) c18, n1m_ + 1, l2_.flatMap itC⟩) it0 rfl rfl rfl (by rw [hln2_]; omega)
        refine Dx 22 28 8388607 B49 150 84 89 5 A18 (n1m_ + 1) c18 .i64 (i2_ : Int) (.tmp 35) (.tmp 36) hQ19 b29 b30 (rowSome (i := 600) (q := (RR 89 5 A18 (n1m_ + 1) c18 (l2_.flatMap itC))) rfl rfl (flat_pos itC_len (by decide) (by rw [hln2_]; omega))) ?_
        have at32 : At G22 [(600, ⟨89, 5, .slice A18 (n1m_ + 1) c18, n1m_ + 1, l2_.flatMap itC⟩)] A18 (((i2_ : Int)).toNat * 5) [.int .i64 ((l2_.getD (((i2_ : Int)).toNat) it0).1), .int .i64 ((l2_.getD (((i2_ : Int)).toNat) it0).2.1), .int .i64 ((l2_.getD (((i2_ : Int)).toNat) it0).2.2.1), .int .i64 ((l2_.getD (((i2_ : Int)).toNat) it0).2.2.2.1), .int .u64 ((l2_.getD (((i2_ : Int)).toNat) it0).2.2.2.2)] := At.rowF itC itC_len (i := 600) (r := ⟨89, 5, .slice A18 (n1m_ + 1) c18, n1m_ + 1, l2_.flatMap itC⟩) it0 rfl rfl rfl (by rw [hln2_]; omega)
        refine Dl 23 28 16777215 B49 150 89 A18 (((i2_ : Int)).toNat * 5) (.tmp 37) (.agg #[N6 ((l2_.getD (((i2_ : Int)).toNat) it0).1), N6 ((l2_.getD (((i2_ : Int)).toNat) it0).2.1), N6 ((l2_.getD (((i2_ : Int)).toNat) it0).2.2.1), N6 ((l2_.getD (((i2_ : Int)).toNat) it0).2.2.2.1), N7 ((l2_.getD (((i2_ : Int)).toNat) it0).2.2.2.2)]) [N6 ((l2_.getD (((i2_ : Int)).toNat) it0).1), N6 ((l2_.getD (((i2_ : Int)).toNat) it0).2.1), N6 ((l2_.getD (((i2_ : Int)).toNat) it0).2.2.1), N6 ((l2_.getD (((i2_ : Int)).toNat) it0).2.2.2.1), N7 ((l2_.getD (((i2_ : Int)).toNat) it0).2.2.2.2)] hQ19 at32 ?_
        have b33 : (0 : Int) ≤ (i2_ : Int) := by omega
        have b34 : (i2_ : Int) < ((n1m_ + 1 : Nat) : Int) := by omega
        have at35 : At G22 [(600, ⟨89, 5, .slice A18 (n1m_ + 1) c18, n1m_ + 1, l2_.flatMap itC⟩)] A18 (((i2_ : Int)).toNat * 5) [.int .i64 ((l2_.getD (((i2_ : Int)).toNat) it0).1), .int .i64 ((l2_.getD (((i2_ : Int)).toNat) it0).2.1), .int .i64 ((l2_.getD (((i2_ : Int)).toNat) it0).2.2.1), .int .i64 ((l2_.getD (((i2_ : Int)).toNat) it0).2.2.2.1), .int .u64 ((l2_.getD (((i2_ : Int)).toNat) it0).2.2.2.2)] := At.rowF itC itC_len (i := 600) (r := ⟨89, 5, .slice A18 (n1m_ + 1) c18, n1m_ + 1, l2_.flatMap itC⟩) it0 rfl rfl rfl (by rw [hln2_]; omega)
        refine Dx 24 28 33554431 B49 150 84 89 5 A18 (n1m_ + 1) c18 .i64 (i2_ : Int) (.tmp 18) (.tmp 19) hQ19 b33 b34 (rowSome (i := 600) (q := (RR 89 5 A18 (n1m_ + 1) c18 (l2_.flatMap itC))) rfl rfl (flat_pos itC_len (by decide) (by rw [hln2_]; omega))) ?_
        refine XD.toE ?_
        refine En ⟨42, [(0, .own 3700 0), (1, I6 (i2_ : Int)), (4, I6 (((i2_ - 1) / 2 : Nat) : Int)), (23, VL A18 (n1m_ + 1) c18), (24, I6 (((i2_ - 1) / 2 : Nat) : Int)), (31, .v (.agg #[N6 ((l2_.getD (((((i2_ - 1) / 2 : Nat) : Int)).toNat) it0).1), N6 ((l2_.getD (((((i2_ - 1) / 2 : Nat) : Int)).toNat) it0).2.1), N6 ((l2_.getD (((((i2_ - 1) / 2 : Nat) : Int)).toNat) it0).2.2.1), N6 ((l2_.getD (((((i2_ - 1) / 2 : Nat) : Int)).toNat) it0).2.2.2.1), N7 ((l2_.getD (((((i2_ - 1) / 2 : Nat) : Int)).toNat) it0).2.2.2.2)])), (38, .v (.agg #[N6 ((l2_.getD (((i2_ : Int)).toNat) it0).1), N6 ((l2_.getD (((i2_ : Int)).toNat) it0).2.1), N6 ((l2_.getD (((i2_ : Int)).toNat) it0).2.2.1), N6 ((l2_.getD (((i2_ : Int)).toNat) it0).2.2.2.1), N7 ((l2_.getD (((i2_ : Int)).toNat) it0).2.2.2.2)])), (39, .v (elt A18 (((i2_ : Int)).toNat * 5)))], [(3700, ⟨87, [VL A18 (n1m_ + 1) c18, I7 (qm_ + 1)]⟩), (3701, ⟨87, [VL none 0 0, I7 qy_]⟩)]⟩ ?_
        refine Eo 25 28 67108863 B49 150 ?_
        refine X.storeElem (i := 600) (t := 89) (j := ((i2_ : Int)).toNat * 5) (n := n1m_ + 1) (c := c18) (q := (RR 89 5 A18 (n1m_ + 1) c18 (l2_.flatMap itC))) (A := A18) (x := .tmp 39) (y := .tmp 31) (z := .agg #[N6 ((l2_.getD (((((i2_ - 1) / 2 : Nat) : Int)).toNat) it0).1), N6 ((l2_.getD (((((i2_ - 1) / 2 : Nat) : Int)).toNat) it0).2.1), N6 ((l2_.getD (((((i2_ - 1) / 2 : Nat) : Int)).toNat) it0).2.2.1), N6 ((l2_.getD (((((i2_ - 1) / 2 : Nat) : Int)).toNat) it0).2.2.2.1), N7 ((l2_.getD (((((i2_ - 1) / 2 : Nat) : Int)).toNat) it0).2.2.2.2)]) (by kernel_rfl) (by kernel_rfl) (by kernel_rfl) rfl rfl (by kernel_rfl) (by rw [show _ = _ from flat_len itC_len _, hln2_]; show ((i2_ : Int)).toNat * 5 + 5 ≤ _; omega) (by kernel_rfl) (Nat.succ_pos _) (by kernel_rfl) ?_
        refine X.tellR [600, 17, 19] (R' := [(600, RR 89 5 A18 (n1m_ + 1) c18 ((l2_.set (((i2_ : Int)).toNat) ((l2_.getD (((((i2_ - 1) / 2 : Nat) : Int)).toNat) it0).1, (l2_.getD (((((i2_ - 1) / 2 : Nat) : Int)).toNat) it0).2.1, (l2_.getD (((((i2_ - 1) / 2 : Nat) : Int)).toNat) it0).2.2.1, (l2_.getD (((((i2_ - 1) / 2 : Nat) : Int)).toNat) it0).2.2.2.1, (l2_.getD (((((i2_ - 1) / 2 : Nat) : Int)).toNat) it0).2.2.2.2)).flatMap itC)), (17, RR 89 5 A17 1 1 [N6 ((xsy_.getD (((jm_ : Int)).toNat) ev0).1), N6 ((xsy_.getD (((jm_ : Int)).toNat) ev0).2.1), N6 ((xsy_.getD (((jm_ : Int)).toNat) ev0).2.2.1), N6 ((xsy_.getD (((jm_ : Int)).toNat) ev0).2.2.2), N7 qm_]), (19, RR 27 4 E_ n1y_ ce_ (xsy_.flatMap evC))]) (congrArg (fun cs_ => (600, (RR 89 5 A18 (n1m_ + 1) c18 cs_ : Row)) :: [(17, RR 89 5 A17 1 1 [N6 ((xsy_.getD (((jm_ : Int)).toNat) ev0).1), N6 ((xsy_.getD (((jm_ : Int)).toNat) ev0).2.1), N6 ((xsy_.getD (((jm_ : Int)).toNat) ev0).2.2.1), N6 ((xsy_.getD (((jm_ : Int)).toNat) ev0).2.2.2), N7 qm_]), (19, RR 27 4 E_ n1y_ ce_ (xsy_.flatMap evC))]) (splice_flat itC_len (((l2_.getD (((((i2_ - 1) / 2 : Nat) : Int)).toNat) it0).1, (l2_.getD (((((i2_ - 1) / 2 : Nat) : Int)).toNat) it0).2.1, (l2_.getD (((((i2_ - 1) / 2 : Nat) : Int)).toNat) it0).2.2.1, (l2_.getD (((((i2_ - 1) / 2 : Nat) : Int)).toNat) it0).2.2.2.1, (l2_.getD (((((i2_ - 1) / 2 : Nat) : Int)).toNat) it0).2.2.2.2) : Item) l2_ (((i2_ : Int)).toNat) (by rw [hln2_]; omega))) ?_
        obtain ⟨l36, hl36⟩ : ∃ z_, (l2_.set (((i2_ : Int)).toNat) ((l2_.getD (((((i2_ - 1) / 2 : Nat) : Int)).toNat) it0).1, (l2_.getD (((((i2_ - 1) / 2 : Nat) : Int)).toNat) it0).2.1, (l2_.getD (((((i2_ - 1) / 2 : Nat) : Int)).toNat) it0).2.2.1, (l2_.getD (((((i2_ - 1) / 2 : Nat) : Int)).toNat) it0).2.2.2.1, (l2_.getD (((((i2_ - 1) / 2 : Nat) : Int)).toNat) it0).2.2.2.2)) = z_ := ⟨_, rfl⟩
        rw [hl36]
        have hn36 : l36.length = n1m_ + 1 := by rw [← hl36, List.length_set, hln2_]
        refine X.back ?_
        refine En ⟨42, [(0, .own 3700 0), (1, I6 (i2_ : Int)), (4, I6 (((i2_ - 1) / 2 : Nat) : Int)), (23, VL A18 (n1m_ + 1) c18), (24, I6 (((i2_ - 1) / 2 : Nat) : Int)), (38, .v (.agg #[N6 ((l2_.getD (((i2_ : Int)).toNat) it0).1), N6 ((l2_.getD (((i2_ : Int)).toNat) it0).2.1), N6 ((l2_.getD (((i2_ : Int)).toNat) it0).2.2.1), N6 ((l2_.getD (((i2_ : Int)).toNat) it0).2.2.2.1), N7 ((l2_.getD (((i2_ : Int)).toNat) it0).2.2.2.2)]))], [(3700, ⟨87, [VL A18 (n1m_ + 1) c18, I7 (qm_ + 1)]⟩), (3701, ⟨87, [VL none 0 0, I7 qy_]⟩)]⟩ ?_
        refine Eo 26 28 134217727 B49 150 ?_
        have b37 : (0 : Int) ≤ (((i2_ - 1) / 2 : Nat) : Int) := by omega
        have b38 : (((i2_ - 1) / 2 : Nat) : Int) < ((n1m_ + 1 : Nat) : Int) := by omega
        refine Ix 84 89 5 A18 (n1m_ + 1) c18 .i64 (((i2_ - 1) / 2 : Nat) : Int) (.tmp 23) (.tmp 24) b37 b38 (rowSome (i := 600) (q := (RR 89 5 A18 (n1m_ + 1) c18 (l36.flatMap itC))) rfl rfl (flat_pos itC_len (by decide) (by rw [hn36]; omega))) ?_
        have at39 : At G22 [(600, ⟨89, 5, .slice A18 (n1m_ + 1) c18, n1m_ + 1, l36.flatMap itC⟩), (17, ⟨89, 5, .slice A17 1 1, 1, [.int .i64 ((xsy_.getD (((jm_ : Int)).toNat) ev0).1), .int .i64 ((xsy_.getD (((jm_ : Int)).toNat) ev0).2.1), .int .i64 ((xsy_.getD (((jm_ : Int)).toNat) ev0).2.2.1), .int .i64 ((xsy_.getD (((jm_ : Int)).toNat) ev0).2.2.2), .int .u64 qm_]⟩), (19, ⟨27, 4, .slice E_ n1y_ ce_, n1y_, xsy_.flatMap evC⟩)] A18 (((((i2_ - 1) / 2 : Nat) : Int)).toNat * 5) [.int .i64 ((l36.getD (((((i2_ - 1) / 2 : Nat) : Int)).toNat) it0).1), .int .i64 ((l36.getD (((((i2_ - 1) / 2 : Nat) : Int)).toNat) it0).2.1), .int .i64 ((l36.getD (((((i2_ - 1) / 2 : Nat) : Int)).toNat) it0).2.2.1), .int .i64 ((l36.getD (((((i2_ - 1) / 2 : Nat) : Int)).toNat) it0).2.2.2.1), .int .u64 ((l36.getD (((((i2_ - 1) / 2 : Nat) : Int)).toNat) it0).2.2.2.2)] := At.rowF itC itC_len (i := 600) (r := ⟨89, 5, .slice A18 (n1m_ + 1) c18, n1m_ + 1, l36.flatMap itC⟩) it0 rfl rfl rfl (by rw [hn36]; omega)
        refine X.back ?_
        refine En ⟨42, [(0, .own 3700 0), (1, I6 (i2_ : Int)), (4, I6 (((i2_ - 1) / 2 : Nat) : Int)), (38, .v (.agg #[N6 ((l2_.getD (((i2_ : Int)).toNat) it0).1), N6 ((l2_.getD (((i2_ : Int)).toNat) it0).2.1), N6 ((l2_.getD (((i2_ : Int)).toNat) it0).2.2.1), N6 ((l2_.getD (((i2_ : Int)).toNat) it0).2.2.2.1), N7 ((l2_.getD (((i2_ : Int)).toNat) it0).2.2.2.2)])), (40, .v (elt A18 (((((i2_ - 1) / 2 : Nat) : Int)).toNat * 5)))], [(3700, ⟨87, [VL A18 (n1m_ + 1) c18, I7 (qm_ + 1)]⟩), (3701, ⟨87, [VL none 0 0, I7 qy_]⟩)]⟩ ?_
        refine Eo 27 28 268435455 B49 150 ?_
        refine X.storeElem (i := 600) (t := 89) (j := ((((i2_ - 1) / 2 : Nat) : Int)).toNat * 5) (n := n1m_ + 1) (c := c18) (q := (RR 89 5 A18 (n1m_ + 1) c18 (l36.flatMap itC))) (A := A18) (x := .tmp 40) (y := .tmp 38) (z := .agg #[N6 ((l2_.getD (((i2_ : Int)).toNat) it0).1), N6 ((l2_.getD (((i2_ : Int)).toNat) it0).2.1), N6 ((l2_.getD (((i2_ : Int)).toNat) it0).2.2.1), N6 ((l2_.getD (((i2_ : Int)).toNat) it0).2.2.2.1), N7 ((l2_.getD (((i2_ : Int)).toNat) it0).2.2.2.2)]) (by kernel_rfl) (by kernel_rfl) (by kernel_rfl) rfl rfl (by kernel_rfl) (by rw [show _ = _ from flat_len itC_len _, hn36]; show ((((i2_ - 1) / 2 : Nat) : Int)).toNat * 5 + 5 ≤ _; omega) (by kernel_rfl) (Nat.succ_pos _) (by kernel_rfl) ?_
        refine X.tellR [600, 17, 19] (R' := [(600, RR 89 5 A18 (n1m_ + 1) c18 ((l36.set (((((i2_ - 1) / 2 : Nat) : Int)).toNat) ((l2_.getD (((i2_ : Int)).toNat) it0).1, (l2_.getD (((i2_ : Int)).toNat) it0).2.1, (l2_.getD (((i2_ : Int)).toNat) it0).2.2.1, (l2_.getD (((i2_ : Int)).toNat) it0).2.2.2.1, (l2_.getD (((i2_ : Int)).toNat) it0).2.2.2.2)).flatMap itC)), (17, RR 89 5 A17 1 1 [N6 ((xsy_.getD (((jm_ : Int)).toNat) ev0).1), N6 ((xsy_.getD (((jm_ : Int)).toNat) ev0).2.1), N6 ((xsy_.getD (((jm_ : Int)).toNat) ev0).2.2.1), N6 ((xsy_.getD (((jm_ : Int)).toNat) ev0).2.2.2), N7 qm_]), (19, RR 27 4 E_ n1y_ ce_ (xsy_.flatMap evC))]) (congrArg (fun cs_ => (600, (RR 89 5 A18 (n1m_ + 1) c18 cs_ : Row)) :: [(17, RR 89 5 A17 1 1 [N6 ((xsy_.getD (((jm_ : Int)).toNat) ev0).1), N6 ((xsy_.getD (((jm_ : Int)).toNat) ev0).2.1), N6 ((xsy_.getD (((jm_ : Int)).toNat) ev0).2.2.1), N6 ((xsy_.getD (((jm_ : Int)).toNat) ev0).2.2.2), N7 qm_]), (19, RR 27 4 E_ n1y_ ce_ (xsy_.flatMap evC))]) (splice_flat itC_len (((l2_.getD (((i2_ : Int)).toNat) it0).1, (l2_.getD (((i2_ : Int)).toNat) it0).2.1, (l2_.getD (((i2_ : Int)).toNat) it0).2.2.1, (l2_.getD (((i2_ : Int)).toNat) it0).2.2.2.1, (l2_.getD (((i2_ : Int)).toNat) it0).2.2.2.2) : Item) l36 (((((i2_ - 1) / 2 : Nat) : Int)).toNat) (by rw [hn36]; omega))) ?_
        obtain ⟨l40, hl40⟩ : ∃ z_, (l36.set (((((i2_ - 1) / 2 : Nat) : Int)).toNat) ((l2_.getD (((i2_ : Int)).toNat) it0).1, (l2_.getD (((i2_ : Int)).toNat) it0).2.1, (l2_.getD (((i2_ : Int)).toNat) it0).2.2.1, (l2_.getD (((i2_ : Int)).toNat) it0).2.2.2.1, (l2_.getD (((i2_ : Int)).toNat) it0).2.2.2.2)) = z_ := ⟨_, rfl⟩
        rw [hl40]
        have hn40 : l40.length = n1m_ + 1 := by rw [← hl40, List.length_set, hn36]
        refine X.back ?_
        refine XE.done (by kernel_rfl) ?_
        refine Rn 6 (.ex .normal) [.loop J20, .blk 0] ⟨42, [(0, .own 3700 0), (1, I6 (((i2_ - 1) / 2 : Nat) : Int))], [(3700, ⟨87, [VL A18 (n1m_ + 1) c18, I7 (qm_ + 1)]⟩), (3701, ⟨87, [VL none 0 0, I7 qy_]⟩)]⟩ ?_
        have hsw_ : l40 = swp l2_ i2_ ((i2_ - 1) / 2) := by rw [← hl40, ← hl36]; rfl
        exact X.again (hJ20 _ _ _ _ ⟨((i2_ - 1) / 2), l40, rfl, rfl, (hG20.trans hG22), ⟨by omega, by rw [hsw_, swp_len]; exact hln2_, by rw [hsw_]; exact up_step hup_ (by omega) (by omega) hlt_, by rw [hsw_]; exact (swp_perm (by omega) (by omega)).trans hpm_⟩, rfl⟩ (by omega))
      ·
       refine X.inline (f := 81) (l := [.own 3700 0, I6 (i2_ : Int), I6 (((i2_ - 1) / 2 : Nat) : Int)]) (fn := Try.f81) (c := B81) (by kernel_rfl) (by kernel_rfl) Try.func81 (by kernel_rfl) ?_
       intro Q41 M41 hM41 hQ41 fin41
       refine Rn 6 (Qc B81 6) [Qs B81 7] ⟨52, [(0, .own 4700 0), (1, I6 (i2_ : Int)), (2, I6 (((i2_ - 1) / 2 : Nat) : Int)), (6, VB false)], [(4700, ⟨87, [VL A18 (n1m_ + 1) c18, I7 (qm_ + 1)]⟩), (4701, ⟨87, [VL none 0 0, I7 qy_]⟩)]⟩ ?_
       have hra_d42 := hra
       have hrb_d42 := hrb
       have hrxx__d42 := hrxx_
       have hrxy__d42 := hrxy_
       refine Og 1 B81 6 14 [⟨some 0, 4700, 87, [VL A18 (n1m_ + 1) c18, I7 (qm_ + 1)]⟩] [(600, RR 89 5 A18 (n1m_ + 1) c18 (l2_.flatMap itC))] [] ⟨⟨fun _ h => (by cases h; rfl), rfl⟩, trivial⟩ (by intro p hp hn; simp only [List.mem_cons, List.not_mem_nil, or_false] at hp; rcases hp with rfl <;> first | (cases hn; done) | exact hM41 _ (Nat.le_of_ble_eq_true rfl)) (fun ρ0 => ?_)
       refine Tk 0 14 1 B81 6 (.own 4700 0) hQ41 ?_
       refine XD.nilOwn (i := 1) (l' := (lb 14 3)) (oA B81 (pa 6) 1) (x := .tmp 9) (b := 4700) (off := 0) hQ41 (by kernel_rfl) (by kernel_rfl) (by kernel_rfl) (by kernel_rfl) (by kernel_rfl) (by kernel_rfl) ?_
       refine Tk 2 14 7 B81 6 (.own 4700 0) hQ41 ?_
       refine Tk 3 14 15 B81 6 (VL A18 (n1m_ + 1) c18) hQ41 ?_
       refine Tk 4 14 31 B81 6 (I6 (i2_ : Int)) hQ41 ?_
       have b43 : (0 : Int) ≤ (i2_ : Int) := by omega
       have b44 : (i2_ : Int) < ((n1m_ + 1 : Nat) : Int) := by omega
       have at45 : At G20 [(600, ⟨89, 5, .slice A18 (n1m_ + 1) c18, n1m_ + 1, l2_.flatMap itC⟩)] A18 (((i2_ : Int)).toNat * 5) [.int .i64 ((l2_.getD (((i2_ : Int)).toNat) it0).1), .int .i64 ((l2_.getD (((i2_ : Int)).toNat) it0).2.1), .int .i64 ((l2_.getD (((i2_ : Int)).toNat) it0).2.2.1), .int .i64 ((l2_.getD (((i2_ : Int)).toNat) it0).2.2.2.1), .int .u64 ((l2_.getD (((i2_ : Int)).toNat) it0).2.2.2.2)] := At.rowF itC itC_len (i := 600) (r := ⟨89, 5, .slice A18 (n1m_ + 1) c18, n1m_ + 1, l2_.flatMap itC⟩) it0 rfl rfl rfl (by rw [hln2_]; omega)
       refine Dx 5 14 63 B81 6 84 89 5 A18 (n1m_ + 1) c18 .i64 (i2_ : Int) (.tmp 12) (.tmp 13) hQ41 b43 b44 (rowSome (i := 600) (q := (RR 89 5 A18 (n1m_ + 1) c18 (l2_.flatMap itC))) rfl rfl (flat_pos itC_len (by decide) (by rw [hln2_]; omega))) ?_
       refine Tk 6 14 127 B81 6 (.own 4700 0) hQ41 ?_
       refine XD.nilOwn (i := 7) (l' := (lb 14 255)) (oA B81 (pa 6) 7) (x := .tmp 15) (b := 4700) (off := 0) hQ41 (by kernel_rfl) (by kernel_rfl) (by kernel_rfl) (by kernel_rfl) (by kernel_rfl) (by kernel_rfl) ?_
       refine Tk 8 14 511 B81 6 (.own 4700 0) hQ41 ?_
       refine Tk 9 14 1023 B81 6 (VL A18 (n1m_ + 1) c18) hQ41 ?_
       refine Tk 10 14 2047 B81 6 (I6 (((i2_ - 1) / 2 : Nat) : Int)) hQ41 ?_
       have b46 : (0 : Int) ≤ (((i2_ - 1) / 2 : Nat) : Int) := by omega
       have b47 : (((i2_ - 1) / 2 : Nat) : Int) < ((n1m_ + 1 : Nat) : Int) := by omega
       have at48 : At G20 [(600, ⟨89, 5, .slice A18 (n1m_ + 1) c18, n1m_ + 1, l2_.flatMap itC⟩)] A18 (((((i2_ - 1) / 2 : Nat) : Int)).toNat * 5) [.int .i64 ((l2_.getD (((((i2_ - 1) / 2 : Nat) : Int)).toNat) it0).1), .int .i64 ((l2_.getD (((((i2_ - 1) / 2 : Nat) : Int)).toNat) it0).2.1), .int .i64 ((l2_.getD (((((i2_ - 1) / 2 : Nat) : Int)).toNat) it0).2.2.1), .int .i64 ((l2_.getD (((((i2_ - 1) / 2 : Nat) : Int)).toNat) it0).2.2.2.1), .int .u64 ((l2_.getD (((((i2_ - 1) / 2 : Nat) : Int)).toNat) it0).2.2.2.2)] := At.rowF itC itC_len (i := 600) (r := ⟨89, 5, .slice A18 (n1m_ + 1) c18, n1m_ + 1, l2_.flatMap itC⟩) it0 rfl rfl rfl (by rw [hln2_]; omega)
       refine Dx 11 14 4095 B81 6 84 89 5 A18 (n1m_ + 1) c18 .i64 (((i2_ - 1) / 2 : Nat) : Int) (.tmp 18) (.tmp 19) hQ41 b46 b47 (rowSome (i := 600) (q := (RR 89 5 A18 (n1m_ + 1) c18 (l2_.flatMap itC))) rfl rfl (flat_pos itC_len (by decide) (by rw [hln2_]; omega))) ?_
       refine Ts [12, 13] 14 16383 0 2 hQ41 ?_
       refine XD.done (by kernel_rfl) ?_
       refine Rn 3 (Qc B81 28) [Qs B81 29, Qs B81 15] ⟨52, [(6, VB false), (7, .v (elt A18 (((i2_ : Int)).toNat * 5))), (8, .v (elt A18 (((((i2_ - 1) / 2 : Nat) : Int)).toNat * 5)))], [(4700, ⟨87, [VL A18 (n1m_ + 1) c18, I7 (qm_ + 1)]⟩), (4701, ⟨87, [VL none 0 0, I7 qy_]⟩)]⟩ ?_
       have hra_d49 := hra
       have hrb_d49 := hrb
       have hrxx__d49 := hrxx_
       have hrxy__d49 := hrxy_
       refine Og 2 B81 28 11 [] [(600, RR 89 5 A18 (n1m_ + 1) c18 (l2_.flatMap itC))] [] trivial (by simp) (fun ρ0 => ?_)
       refine Tk 0 11 1 B81 28 (.v (elt A18 (((i2_ : Int)).toNat * 5))) hQ41 ?_
       refine XD.nilElt (i := 1) (l' := (lb 11 3)) (oA B81 (pa 28) 1) (x := .tmp 21) (A := A18) (j := ((i2_ : Int)).toNat * 5) hQ41 (by kernel_rfl) (by kernel_rfl) (by kernel_rfl) (by kernel_rfl) (by kernel_rfl) (by kernel_rfl) ?_
       refine XD.field (i := 2) (l' := (lb 11 7)) (o := (oA B81 (pa 28) 2)) (t := 89) (f := 0) (n := 0) (A := A18) (j := ((i2_ : Int)).toNat * 5) (x := .tmp 22) hQ41 (by kernel_rfl) (by kernel_rfl) (by kernel_rfl) (by kernel_rfl) (by kernel_rfl) (by kernel_rfl) (by kernel_rfl) ?_
       refine XD.field (i := 3) (l' := (lb 11 15)) (o := (oA B81 (pa 28) 3)) (t := 27) (f := 0) (n := 0) (A := A18) (j := ((i2_ : Int)).toNat * 5 + 0) (x := .tmp 23) hQ41 (by kernel_rfl) (by kernel_rfl) (by kernel_rfl) (by kernel_rfl) (by kernel_rfl) (by kernel_rfl) (by kernel_rfl) ?_
       have at50 : At G20 [(600, ⟨89, 5, .slice A18 (n1m_ + 1) c18, n1m_ + 1, l2_.flatMap itC⟩)] A18 (((i2_ : Int)).toNat * 5) [.int .i64 ((l2_.getD (((i2_ : Int)).toNat) it0).1), .int .i64 ((l2_.getD (((i2_ : Int)).toNat) it0).2.1), .int .i64 ((l2_.getD (((i2_ : Int)).toNat) it0).2.2.1), .int .i64 ((l2_.getD (((i2_ : Int)).toNat) it0).2.2.2.1), .int .u64 ((l2_.getD (((i2_ : Int)).toNat) it0).2.2.2.2)] := At.rowF itC itC_len (i := 600) (r := ⟨89, 5, .slice A18 (n1m_ + 1) c18, n1m_ + 1, l2_.flatMap itC⟩) it0 rfl rfl rfl (by rw [hln2_]; omega)
       refine Dl 4 11 31 B81 28 2 A18 (((i2_ : Int)).toNat * 5 + 0 + 0) (.tmp 24) (N6 ((l2_.getD (((i2_ : Int)).toNat) it0).1)) [N6 ((l2_.getD (((i2_ : Int)).toNat) it0).1)] hQ41 (at50.part 0 1) ?_
       refine Tk 5 11 63 B81 28 (.v (elt A18 (((((i2_ - 1) / 2 : Nat) : Int)).toNat * 5))) hQ41 ?_
       refine XD.nilElt (i := 6) (l' := (lb 11 127)) (oA B81 (pa 28) 6) (x := .tmp 26) (A := A18) (j := ((((i2_ - 1) / 2 : Nat) : Int)).toNat * 5) hQ41 (by kernel_rfl) (by kernel_rfl) (by kernel_rfl) (by kernel_rfl) (by kernel_rfl) (by kernel_rfl) ?_
       refine XD.field (i := 7) (l' := (lb 11 255)) (o := (oA B81 (pa 28) 7)) (t := 89) (f := 0) (n := 0) (A := A18) (j := ((((i2_ - 1) / 2 : Nat) : Int)).toNat * 5) (x := .tmp 27) hQ41 (by kernel_rfl) (by kernel_rfl) (by kernel_rfl) (by kernel_rfl) (by kernel_rfl) (by kernel_rfl) (by kernel_rfl) ?_
       refine XD.field (i := 8) (l' := (lb 11 511)) (o := (oA B81 (pa 28) 8)) (t := 27) (f := 0) (n := 0) (A := A18) (j := ((((i2_ - 1) / 2 : Nat) : Int)).toNat * 5 + 0) (x := .tmp 28) hQ41 (by kernel_rfl) (by kernel_rfl) (by kernel_rfl) (by kernel_rfl) (by kernel_rfl) (by kernel_rfl) (by kernel_rfl) ?_
       have at51 : At G20 [(600, ⟨89, 5, .slice A18 (n1m_ + 1) c18, n1m_ + 1, l2_.flatMap itC⟩)] A18 (((((i2_ - 1) / 2 : Nat) : Int)).toNat * 5) [.int .i64 ((l2_.getD (((((i2_ - 1) / 2 : Nat) : Int)).toNat) it0).1), .int .i64 ((l2_.getD (((((i2_ - 1) / 2 : Nat) : Int)).toNat) it0).2.1), .int .i64 ((l2_.getD (((((i2_ - 1) / 2 : Nat) : Int)).toNat) it0).2.2.1), .int .i64 ((l2_.getD (((((i2_ - 1) / 2 : Nat) : Int)).toNat) it0).2.2.2.1), .int .u64 ((l2_.getD (((((i2_ - 1) / 2 : Nat) : Int)).toNat) it0).2.2.2.2)] := At.rowF itC itC_len (i := 600) (r := ⟨89, 5, .slice A18 (n1m_ + 1) c18, n1m_ + 1, l2_.flatMap itC⟩) it0 rfl rfl rfl (by rw [hln2_]; omega)
       refine Dl 9 11 1023 B81 28 2 A18 (((((i2_ - 1) / 2 : Nat) : Int)).toNat * 5 + 0 + 0) (.tmp 29) (N6 ((l2_.getD (((((i2_ - 1) / 2 : Nat) : Int)).toNat) it0).1)) [N6 ((l2_.getD (((((i2_ - 1) / 2 : Nat) : Int)).toNat) it0).1)] hQ41 (at51.part 0 1) ?_
       refine Ts [10] 11 2047 0 1 hQ41 ?_
       refine XD.done (by kernel_rfl) ?_
       refine Rn 1 (Qc B81 29) [Qs B81 15] ⟨52, [(6, VB false), (7, .v (elt A18 (((i2_ : Int)).toNat * 5))), (8, .v (elt A18 (((((i2_ - 1) / 2 : Nat) : Int)).toNat * 5))), (31, VB (((l2_.getD (((i2_ : Int)).toNat) it0).1) != ((l2_.getD (((((i2_ - 1) / 2 : Nat) : Int)).toNat) it0).1)))], [(4700, ⟨87, [VL A18 (n1m_ + 1) c18, I7 (qm_ + 1)]⟩), (4701, ⟨87, [VL none 0 0, I7 qy_]⟩)]⟩ ?_
       refine X.split 31 rfl (fun h52 => ?_) (fun h52 => ?_)
       ·
        replace h52 : ((l2_.getD (((i2_ : Int)).toNat) it0).1) ≠ ((l2_.getD (((((i2_ - 1) / 2 : Nat) : Int)).toNat) it0).1) := by simpa using h52
        refine Rn 2 (Qc B81 116) [Qs B81 117, Qs B81 15] ⟨52, [(6, VB false), (7, .v (elt A18 (((i2_ : Int)).toNat * 5))), (8, .v (elt A18 (((((i2_ - 1) / 2 : Nat) : Int)).toNat * 5)))], [(4700, ⟨87, [VL A18 (n1m_ + 1) c18, I7 (qm_ + 1)]⟩), (4701, ⟨87, [VL none 0 0, I7 qy_]⟩)]⟩ ?_
        have hra_d53 := hra
        have hrb_d53 := hrb
        have hrxx__d53 := hrxx_
        have hrxy__d53 := hrxy_
        refine Og 3 B81 116 12 [] [(600, RR 89 5 A18 (n1m_ + 1) c18 (l2_.flatMap itC))] [] trivial (by simp) (fun ρ0 => ?_)
        refine Tk 0 12 1 B81 116 (.v (elt A18 (((i2_ : Int)).toNat * 5))) hQ41 ?_
        refine XD.nilElt (i := 1) (l' := (lb 12 3)) (oA B81 (pa 116) 1) (x := .tmp 32) (A := A18) (j := ((i2_ : Int)).toNat * 5) hQ41 (by kernel_rfl) (by kernel_rfl) (by kernel_rfl) (by kernel_rfl) (by kernel_rfl) (by kernel_rfl) ?_
        refine XD.field (i := 2) (l' := (lb 12 7)) (o := (oA B81 (pa 116) 2)) (t := 89) (f := 0) (n := 0) (A := A18) (j := ((i2_ : Int)).toNat * 5) (x := .tmp 33) hQ41 (by kernel_rfl) (by kernel_rfl) (by kernel_rfl) (by kernel_rfl) (by kernel_rfl) (by kernel_rfl) (by kernel_rfl) ?_
        refine XD.field (i := 3) (l' := (lb 12 15)) (o := (oA B81 (pa 116) 3)) (t := 27) (f := 0) (n := 0) (A := A18) (j := ((i2_ : Int)).toNat * 5 + 0) (x := .tmp 34) hQ41 (by kernel_rfl) (by kernel_rfl) (by kernel_rfl) (by kernel_rfl) (by kernel_rfl) (by kernel_rfl) (by kernel_rfl) ?_
        have at54 : At G20 [(600, ⟨89, 5, .slice A18 (n1m_ + 1) c18, n1m_ + 1, l2_.flatMap itC⟩)] A18 (((i2_ : Int)).toNat * 5) [.int .i64 ((l2_.getD (((i2_ : Int)).toNat) it0).1), .int .i64 ((l2_.getD (((i2_ : Int)).toNat) it0).2.1), .int .i64 ((l2_.getD (((i2_ : Int)).toNat) it0).2.2.1), .int .i64 ((l2_.getD (((i2_ : Int)).toNat) it0).2.2.2.1), .int .u64 ((l2_.getD (((i2_ : Int)).toNat) it0).2.2.2.2)] := At.rowF itC itC_len (i := 600) (r := ⟨89, 5, .slice A18 (n1m_ + 1) c18, n1m_ + 1, l2_.flatMap itC⟩) it0 rfl rfl rfl (by rw [hln2_]; omega)
        refine Dl 4 12 31 B81 116 2 A18 (((i2_ : Int)).toNat * 5 + 0 + 0) (.tmp 35) (N6 ((l2_.getD (((i2_ : Int)).toNat) it0).1)) [N6 ((l2_.getD (((i2_ : Int)).toNat) it0).1)] hQ41 (at54.part 0 1) ?_
        refine Tk 5 12 63 B81 116 (.v (elt A18 (((((i2_ - 1) / 2 : Nat) : Int)).toNat * 5))) hQ41 ?_
        refine XD.nilElt (i := 6) (l' := (lb 12 127)) (oA B81 (pa 116) 6) (x := .tmp 37) (A := A18) (j := ((((i2_ - 1) / 2 : Nat) : Int)).toNat * 5) hQ41 (by kernel_rfl) (by kernel_rfl) (by kernel_rfl) (by kernel_rfl) (by kernel_rfl) (by kernel_rfl) ?_
        refine XD.field (i := 7) (l' := (lb 12 255)) (o := (oA B81 (pa 116) 7)) (t := 89) (f := 0) (n := 0) (A := A18) (j := ((((i2_ - 1) / 2 : Nat) : Int)).toNat * 5) (x := .tmp 38) hQ41 (by kernel_rfl) (by kernel_rfl) (by kernel_rfl) (by kernel_rfl) (by kernel_rfl) (by kernel_rfl) (by kernel_rfl) ?_
        refine XD.field (i := 8) (l' := (lb 12 511)) (o := (oA B81 (pa 116) 8)) (t := 27) (f := 0) (n := 0) (A := A18) (j := ((((i2_ - 1) / 2 : Nat) : Int)).toNat * 5 + 0) (x := .tmp 39) hQ41 (by kernel_rfl) (by kernel_rfl) (by kernel_rfl) (by kernel_rfl) (by kernel_rfl) (by kernel_rfl) (by kernel_rfl) ?_
        have at55 : At G20 [(600, ⟨89, 5, .slice A18 (n1m_ + 1) c18, n1m_ + 1, l2_.flatMap itC⟩)] A18 (((((i2_ - 1) / 2 : Nat) : Int)).toNat * 5) [.int .i64 ((l2_.getD (((((i2_ - 1) / 2 : Nat) : Int)).toNat) it0).1), .int .i64 ((l2_.getD (((((i2_ - 1) / 2 : Nat) : Int)).toNat) it0).2.1), .int .i64 ((l2_.getD (((((i2_ - 1) / 2 : Nat) : Int)).toNat) it0).2.2.1), .int .i64 ((l2_.getD (((((i2_ - 1) / 2 : Nat) : Int)).toNat) it0).2.2.2.1), .int .u64 ((l2_.getD (((((i2_ - 1) / 2 : Nat) : Int)).toNat) it0).2.2.2.2)] := At.rowF itC itC_len (i := 600) (r := ⟨89, 5, .slice A18 (n1m_ + 1) c18, n1m_ + 1, l2_.flatMap itC⟩) it0 rfl rfl rfl (by rw [hln2_]; omega)
        refine Dl 9 12 1023 B81 116 2 A18 (((((i2_ - 1) / 2 : Nat) : Int)).toNat * 5 + 0 + 0) (.tmp 40) (N6 ((l2_.getD (((((i2_ - 1) / 2 : Nat) : Int)).toNat) it0).1)) [N6 ((l2_.getD (((((i2_ - 1) / 2 : Nat) : Int)).toNat) it0).1)] hQ41 (at55.part 0 1) ?_
        refine Ts [10, 11] 12 4095 0 2 hQ41 ?_
        refine XD.done (by kernel_rfl) ?_
        refine Rn 3 (.ex .ret) [] ⟨52, [(6, VB (decide ((l2_.getD (((i2_ : Int)).toNat) it0).1 < (l2_.getD (((((i2_ - 1) / 2 : Nat) : Int)).toNat) it0).1)))], [(4700, ⟨87, [VL A18 (n1m_ + 1) c18, I7 (qm_ + 1)]⟩), (4701, ⟨87, [VL none 0 0, I7 qy_]⟩)]⟩ ?_
        refine fin41 _ _ _ _ [.bool (decide ((l2_.getD (((i2_ : Int)).toNat) it0).1 < (l2_.getD (((((i2_ - 1) / 2 : Nat) : Int)).toNat) it0).1))] [(3700, ⟨87, [VL A18 (n1m_ + 1) c18, I7 (qm_ + 1)]⟩), (3701, ⟨87, [VL none 0 0, I7 qy_]⟩)] (.inl rfl) (by kernel_rfl) (by kernel_rfl) ?_
        refine Rn 3 (Qc B49 149) [Qs B49 75, .blk 1, .loop J20, .blk 0] ⟨42, [(0, .own 3700 0), (1, I6 (i2_ : Int)), (4, I6 (((i2_ - 1) / 2 : Nat) : Int)), (14, VB (!(decide ((l2_.getD (((i2_ : Int)).toNat) it0).1 < (l2_.getD (((((i2_ - 1) / 2 : Nat) : Int)).toNat) it0).1))))], [(3700, ⟨87, [VL A18 (n1m_ + 1) c18, I7 (qm_ + 1)]⟩), (3701, ⟨87, [VL none 0 0, I7 qy_]⟩)]⟩ ?_
        refine X.castS ⟨42, [(0, .own 3700 0), (1, I6 (i2_ : Int)), (4, I6 (((i2_ - 1) / 2 : Nat) : Int)), (14, VB (!(decide (ltI (l2_.getD ((i2_ : Int)).toNat it0) (l2_.getD ((((i2_ - 1) / 2 : Nat) : Int)).toNat it0)))))], [(3700, ⟨87, [VL A18 (n1m_ + 1) c18, I7 (qm_ + 1)]⟩), (3701, ⟨87, [VL none 0 0, I7 qy_]⟩)]⟩ (congrArg (fun zb_ : Bool => (⟨42, [(0, .own 3700 0), (1, I6 (i2_ : Int)), (4, I6 (((i2_ - 1) / 2 : Nat) : Int)), (14, VB zb_)], [(3700, ⟨87, [VL A18 (n1m_ + 1) c18, I7 (qm_ + 1)]⟩), (3701, ⟨87, [VL none 0 0, I7 qy_]⟩)]⟩ : S)) (show (!(decide ((l2_.getD (((i2_ : Int)).toNat) it0).1 < (l2_.getD (((((i2_ - 1) / 2 : Nat) : Int)).toNat) it0).1))) = (!(decide (ltI (l2_.getD ((i2_ : Int)).toNat it0) (l2_.getD ((((i2_ - 1) / 2 : Nat) : Int)).toNat it0)))) by first | exact congrArg (fun b_ => !b_) (decide_eq_decide.mpr (by unfold ltI; omega)) | exact decide_eq_decide.mpr (by unfold ltI; omega))) ?_
        exact hY22 _ (Ge.refl _ _)
       ·
        replace h52 : ((l2_.getD (((i2_ : Int)).toNat) it0).1) = ((l2_.getD (((((i2_ - 1) / 2 : Nat) : Int)).toNat) it0).1) := by simpa using h52
        refine Rn 4 (Qc B81 30) [Qs B81 31] ⟨52, [(6, VB false), (7, .v (elt A18 (((i2_ : Int)).toNat * 5))), (8, .v (elt A18 (((((i2_ - 1) / 2 : Nat) : Int)).toNat * 5)))], [(4700, ⟨87, [VL A18 (n1m_ + 1) c18, I7 (qm_ + 1)]⟩), (4701, ⟨87, [VL none 0 0, I7 qy_]⟩)]⟩ ?_
        have hra_d56 := hra
        have hrb_d56 := hrb
        have hrxx__d56 := hrxx_
        have hrxy__d56 := hrxy_
        refine Og 4 B81 30 10 [] [(600, RR 89 5 A18 (n1m_ + 1) c18 (l2_.flatMap itC))] [] trivial (by simp) (fun ρ0 => ?_)
        refine Tk 0 10 1 B81 30 (.v (elt A18 (((i2_ : Int)).toNat * 5))) hQ41 ?_
        refine XD.nilElt (i := 1) (l' := (lb 10 3)) (oA B81 (pa 30) 1) (x := .tmp 43) (A := A18) (j := ((i2_ : Int)).toNat * 5) hQ41 (by kernel_rfl) (by kernel_rfl) (by kernel_rfl) (by kernel_rfl) (by kernel_rfl) (by kernel_rfl) ?_
        refine XD.field (i := 2) (l' := (lb 10 7)) (o := (oA B81 (pa 30) 2)) (t := 89) (f := 1) (n := 4) (A := A18) (j := ((i2_ : Int)).toNat * 5) (x := .tmp 44) hQ41 (by kernel_rfl) (by kernel_rfl) (by kernel_rfl) (by kernel_rfl) (by kernel_rfl) (by kernel_rfl) (by kernel_rfl) ?_
        have at57 : At G20 [(600, ⟨89, 5, .slice A18 (n1m_ + 1) c18, n1m_ + 1, l2_.flatMap itC⟩)] A18 (((i2_ : Int)).toNat * 5) [.int .i64 ((l2_.getD (((i2_ : Int)).toNat) it0).1), .int .i64 ((l2_.getD (((i2_ : Int)).toNat) it0).2.1), .int .i64 ((l2_.getD (((i2_ : Int)).toNat) it0).2.2.1), .int .i64 ((l2_.getD (((i2_ : Int)).toNat) it0).2.2.2.1), .int .u64 ((l2_.getD (((i2_ : Int)).toNat) it0).2.2.2.2)] := At.rowF itC itC_len (i := 600) (r := ⟨89, 5, .slice A18 (n1m_ + 1) c18, n1m_ + 1, l2_.flatMap itC⟩) it0 rfl rfl rfl (by rw [hln2_]; omega)
        refine Dl 3 10 15 B81 30 85 A18 (((i2_ : Int)).toNat * 5 + 4) (.tmp 45) (N7 ((l2_.getD (((i2_ : Int)).toNat) it0).2.2.2.2)) [N7 ((l2_.getD (((i2_ : Int)).toNat) it0).2.2.2.2)] hQ41 (at57.part 4 1) ?_
        refine Tk 4 10 31 B81 30 (.v (elt A18 (((((i2_ - 1) / 2 : Nat) : Int)).toNat * 5))) hQ41 ?_
        refine XD.nilElt (i := 5) (l' := (lb 10 63)) (oA B81 (pa 30) 5) (x := .tmp 47) (A := A18) (j := ((((i2_ - 1) / 2 : Nat) : Int)).toNat * 5) hQ41 (by kernel_rfl) (by kernel_rfl) (by kernel_rfl) (by kernel_rfl) (by kernel_rfl) (by kernel_rfl) ?_
        refine XD.field (i := 6) (l' := (lb 10 127)) (o := (oA B81 (pa 30) 6)) (t := 89) (f := 1) (n := 4) (A := A18) (j := ((((i2_ - 1) / 2 : Nat) : Int)).toNat * 5) (x := .tmp 48) hQ41 (by kernel_rfl) (by kernel_rfl) (by kernel_rfl) (by kernel_rfl) (by kernel_rfl) (by kernel_rfl) (by kernel_rfl) ?_
        have at58 : At G20 [(600, ⟨89, 5, .slice A18 (n1m_ + 1) c18, n1m_ + 1, l2_.flatMap itC⟩)] A18 (((((i2_ - 1) / 2 : Nat) : Int)).toNat * 5) [.int .i64 ((l2_.getD (((((i2_ - 1) / 2 : Nat) : Int)).toNat) it0).1), .int .i64 ((l2_.getD (((((i2_ - 1) / 2 : Nat) : Int)).toNat) it0).2.1), .int .i64 ((l2_.getD (((((i2_ - 1) / 2 : Nat) : Int)).toNat) it0).2.2.1), .int .i64 ((l2_.getD (((((i2_ - 1) / 2 : Nat) : Int)).toNat) it0).2.2.2.1), .int .u64 ((l2_.getD (((((i2_ - 1) / 2 : Nat) : Int)).toNat) it0).2.2.2.2)] := At.rowF itC itC_len (i := 600) (r := ⟨89, 5, .slice A18 (n1m_ + 1) c18, n1m_ + 1, l2_.flatMap itC⟩) it0 rfl rfl rfl (by rw [hln2_]; omega)
        refine Dl 7 10 255 B81 30 85 A18 (((((i2_ - 1) / 2 : Nat) : Int)).toNat * 5 + 4) (.tmp 49) (N7 ((l2_.getD (((((i2_ - 1) / 2 : Nat) : Int)).toNat) it0).2.2.2.2)) [N7 ((l2_.getD (((((i2_ - 1) / 2 : Nat) : Int)).toNat) it0).2.2.2.2)] hQ41 (at58.part 4 1) ?_
        refine Ts [8, 9] 10 1023 0 2 hQ41 ?_
        refine XD.done (by kernel_rfl) ?_
        refine Rn 2 (.ex .ret) [] ⟨52, [(6, VB (decide ((l2_.getD (((i2_ : Int)).toNat) it0).2.2.2.2 < (l2_.getD (((((i2_ - 1) / 2 : Nat) : Int)).toNat) it0).2.2.2.2)))], [(4700, ⟨87, [VL A18 (n1m_ + 1) c18, I7 (qm_ + 1)]⟩), (4701, ⟨87, [VL none 0 0, I7 qy_]⟩)]⟩ ?_
        refine fin41 _ _ _ _ [.bool (decide ((l2_.getD (((i2_ : Int)).toNat) it0).2.2.2.2 < (l2_.getD (((((i2_ - 1) / 2 : Nat) : Int)).toNat) it0).2.2.2.2))] [(3700, ⟨87, [VL A18 (n1m_ + 1) c18, I7 (qm_ + 1)]⟩), (3701, ⟨87, [VL none 0 0, I7 qy_]⟩)] (.inl rfl) (by kernel_rfl) (by kernel_rfl) ?_
        refine Rn 3 (Qc B49 149) [Qs B49 75, .blk 1, .loop J20, .blk 0] ⟨42, [(0, .own 3700 0), (1, I6 (i2_ : Int)), (4, I6 (((i2_ - 1) / 2 : Nat) : Int)), (14, VB (!(decide ((l2_.getD (((i2_ : Int)).toNat) it0).2.2.2.2 < (l2_.getD (((((i2_ - 1) / 2 : Nat) : Int)).toNat) it0).2.2.2.2))))], [(3700, ⟨87, [VL A18 (n1m_ + 1) c18, I7 (qm_ + 1)]⟩), (3701, ⟨87, [VL none 0 0, I7 qy_]⟩)]⟩ ?_
        refine X.castS ⟨42, [(0, .own 3700 0), (1, I6 (i2_ : Int)), (4, I6 (((i2_ - 1) / 2 : Nat) : Int)), (14, VB (!(decide (ltI (l2_.getD ((i2_ : Int)).toNat it0) (l2_.getD ((((i2_ - 1) / 2 : Nat) : Int)).toNat it0)))))], [(3700, ⟨87, [VL A18 (n1m_ + 1) c18, I7 (qm_ + 1)]⟩), (3701, ⟨87, [VL none 0 0, I7 qy_]⟩)]⟩ (congrArg (fun zb_ : Bool => (⟨42, [(0, .own 3700 0), (1, I6 (i2_ : Int)), (4, I6 (((i2_ - 1) / 2 : Nat) : Int)), (14, VB zb_)], [(3700, ⟨87, [VL A18 (n1m_ + 1) c18, I7 (qm_ + 1)]⟩), (3701, ⟨87, [VL none 0 0, I7 qy_]⟩)]⟩ : S)) (show (!(decide ((l2_.getD (((i2_ : Int)).toNat) it0).2.2.2.2 < (l2_.getD (((((i2_ - 1) / 2 : Nat) : Int)).toNat) it0).2.2.2.2))) = (!(decide (ltI (l2_.getD ((i2_ : Int)).toNat it0) (l2_.getD ((((i2_ - 1) / 2 : Nat) : Int)).toNat it0)))) by first | exact congrArg (fun b_ => !b_) (decide_eq_decide.mpr (by unfold ltI; omega)) | exact decide_eq_decide.mpr (by unfold ltI; omega))) ?_
        exact hY22 _ (Ge.refl _ _)
     ·
      replace h21 : ¬ ((i2_ : Int) > 0) := of_decide_eq_false h21
      have hh2_ : HeapFrom l2_ 0 := up_end hup_ (.inl (by omega))
      refine Rn 5 (.ex .normal) [] ⟨42, [], [(3700, ⟨87, [VL A18 (n1m_ + 1) c18, I7 (qm_ + 1)]⟩), (3701, ⟨87, [VL none 0 0, I7 qy_]⟩)]⟩ ?_
      refine fin19 _ _ _ _ [] [(2700, ⟨87, [VL A18 (n1m_ + 1) c18, I7 (qm_ + 1)]⟩), (2701, ⟨87, [VL none 0 0, I7 qy_]⟩)] (.inr rfl) (by kernel_rfl) (by kernel_rfl) ?_
      refine Rn 1 (.ex .normal) [] ⟨36, [], [(2700, ⟨87, [VL A18 (n1m_ + 1) c18, I7 (qm_ + 1)]⟩), (2701, ⟨87, [VL none 0 0, I7 qy_]⟩)]⟩ ?_
      refine fin15 _ _ _ _ [] [(1700, ⟨87, [VL A18 (n1m_ + 1) c18, I7 (qm_ + 1)]⟩), (1701, ⟨87, [VL none 0 0, I7 qy_]⟩)] (.inr rfl) (by kernel_rfl) (by kernel_rfl) ?_
      refine Rn 5 (Qo B47 4007 1) [.loop J9, .blk 0, Qs B47 63] ⟨36, [(0, .own 1700 0), (4, I6 0), (5, VL E_ n1y_ ce_), (24, VL E_ n1y_ ce_), (25, I6 ((n1y_ : Nat) : Int)), (26, I6 (jm_ : Int)), (33, I6 (IntKind.i64.wrap ((jm_ : Int) + 1)))], [(1700, ⟨87, [VL A18 (n1m_ + 1) c18, I7 (qm_ + 1)]⟩), (1701, ⟨87, [VL none 0 0, I7 qy_]⟩)]⟩ ?_
      refine Kn 33 .i64 ((jm_ : Int) + 1) rfl (wi64 (by omega) (by omega)) ?_
      refine Rn 2 (.ex .normal) [.loop J9, .blk 0, Qs B47 63] ⟨36, [(0, .own 1700 0), (4, I6 0), (5, VL E_ n1y_ ce_), (24, VL E_ n1y_ ce_), (25, I6 ((n1y_ : Nat) : Int)), (26, I6 ((jm_ : Int) + 1))], [(1700, ⟨87, [VL A18 (n1m_ + 1) c18, I7 (qm_ + 1)]⟩), (1701, ⟨87, [VL none 0 0, I7 qy_]⟩)]⟩ ?_
      refine X.tellR [600, 19] (R' := [(600, RR 89 5 A18 (n1m_ + 1) c18 (l2_.flatMap itC)), (19, RR 27 4 E_ n1y_ ce_ (xsy_.flatMap evC))]) rfl ?_
      exact X.again (hJ9 _ _ _ _ ⟨A18, c18, (n1m_ + 1), l2_, (qm_ + 1), (jm_ + 1), rfl, rfl, (hG9.trans hG20), ⟨by omega, hln2_, by rw [insF_step hjl_]; exact plays_push (x := ((xsy_.getD jm_ ev0).1, (xsy_.getD jm_ ev0).2.1, (xsy_.getD jm_ ev0).2.2.1, (xsy_.getD jm_ ev0).2.2.2, qm_)) hPm_ rfl hh2_ (by rw [← hl18] at hpm_; exact hpm_), by omega, by omega, by omega⟩, rfl⟩ (by omega))
    ·
     replace h10 : ¬ ((jm_ : Int) < ((n1y_ : Nat) : Int)) := of_decide_eq_false h10
     rw [insF_all (show xsy_.length ≤ jm_ by omega)] at hPm_
     have hxl_ := insF_len xsx_ xsy_
     refine Rn 14 (.ex .ret) [] ⟨36, [(4, I6 ((n1y_ : Nat) : Int))], [(1700, ⟨87, [VL Cm_ n1m_ c1m_, I7 qm_]⟩), (1701, ⟨87, [VL none 0 0, I7 qy_]⟩)]⟩ ?_
     refine fin7 _ _ _ _ [N6 ((n1y_ : Nat) : Int)] [(700, ⟨87, [VL Cm_ n1m_ c1m_, I7 qm_]⟩), (701, ⟨87, [VL none 0 0, I7 qy_]⟩)] (.inl rfl) (by kernel_rfl) (by kernel_rfl) ?_
     refine Rn 5 (Qo B13 252 18) [Qs B13 253, Qs B13 127] ⟨165, [(4, VB false), (5, .own 700 0), (6, .own 701 0), (7, VL Xx_ xsx_.length cxx_), (8, VL Xy_ xsy_.length cxy_), (82, VB (((n1y_ : Nat) : Int) != (xsy_.length : Int)))], [(700, ⟨87, [VL Cm_ n1m_ c1m_, I7 qm_]⟩), (701, ⟨87, [VL none 0 0, I7 qy_]⟩)]⟩ ?_
     refine X.isFalse 82 rfl (by simp only [bne_eq_false_iff_eq]; omega) ?_
     refine Rn 1 (Qo B13 252 19) [Qs B13 253, Qs B13 127] ⟨165, [(4, VB false), (5, .own 700 0), (6, .own 701 0), (7, VL Xx_ xsx_.length cxx_), (8, VL Xy_ xsy_.length cxy_), (82, VB false), (83, .own 701 0)], [(700, ⟨87, [VL Cm_ n1m_ c1m_, I7 qm_]⟩), (701, ⟨87, [VL none 0 0, I7 qy_]⟩)]⟩ ?_
     refine X.inline (f := 17) (l := [.own 701 0]) (fn := Try.f17) (c := B17) (by kernel_rfl) (by kernel_rfl) Try.func17 (by kernel_rfl) ?_
     intro Q59 M59 hM59 hQ59 fin59
     refine Rn 9 (Qo B17 12 1) [Qs B17 13, Qs B17 7] ⟨10, [(0, .own 1701 0), (2, I6 0), (3, .own 1701 0)], [(1700, ⟨87, [VL Cm_ n1m_ c1m_, I7 qm_]⟩), (1701, ⟨87, [VL none 0 0, I7 qy_]⟩)]⟩ ?_
     refine X.eqOwnNil (t := 23) (t' := 23) (e := 87) (b := 1701) (off := 0) (x := .tmp 3) (y := .const (.pointer none)) (by kernel_rfl) (fun g => by kernel_rfl) (by kernel_rfl) (by kernel_rfl) (by kernel_rfl) (by kernel_rfl) ?_
     refine Rn 16 (.ex .ret) [] ⟨10, [(2, I6 0)], [(1700, ⟨87, [VL Cm_ n1m_ c1m_, I7 qm_]⟩), (1701, ⟨87, [VL none 0 0, I7 qy_]⟩)]⟩ ?_
     refine fin59 _ _ _ _ [N6 0] [(700, ⟨87, [VL Cm_ n1m_ c1m_, I7 qm_]⟩), (701, ⟨87, [VL none 0 0, I7 qy_]⟩)] (.inl rfl) (by kernel_rfl) (by kernel_rfl) ?_
     refine Rn 4 (Qo B13 252 24) [Qs B13 253, Qs B13 127] ⟨165, [(4, VB false), (5, .own 700 0), (6, .own 701 0), (7, VL Xx_ xsx_.length cxx_), (8, VL Xy_ xsy_.length cxy_), (87, VB false), (88, .own 700 0)], [(700, ⟨87, [VL Cm_ n1m_ c1m_, I7 qm_]⟩), (701, ⟨87, [VL none 0 0, I7 qy_]⟩)]⟩ ?_
     refine X.inline (f := 17) (l := [.own 700 0]) (fn := Try.f17) (c := B17) (by kernel_rfl) (by kernel_rfl) Try.func17 (by kernel_rfl) ?_
     intro Q60 M60 hM60 hQ60 fin60
     refine Rn 9 (Qo B17 12 1) [Qs B17 13, Qs B17 7] ⟨10, [(0, .own 1700 0), (2, I6 0), (3, .own 1700 0)], [(1700, ⟨87, [VL Cm_ n1m_ c1m_, I7 qm_]⟩), (1701, ⟨87, [VL none 0 0, I7 qy_]⟩)]⟩ ?_
     refine X.eqOwnNil (t := 23) (t' := 23) (e := 87) (b := 1700) (off := 0) (x := .tmp 3) (y := .const (.pointer none)) (by kernel_rfl) (fun g => by kernel_rfl) (by kernel_rfl) (by kernel_rfl) (by kernel_rfl) (by kernel_rfl) ?_
     refine Rn 16 (.ex .ret) [] ⟨10, [(2, I6 ((n1m_ : Nat) : Int))], [(1700, ⟨87, [VL Cm_ n1m_ c1m_, I7 qm_]⟩), (1701, ⟨87, [VL none 0 0, I7 qy_]⟩)]⟩ ?_
     refine fin60 _ _ _ _ [N6 ((n1m_ : Nat) : Int)] [(700, ⟨87, [VL Cm_ n1m_ c1m_, I7 qm_]⟩), (701, ⟨87, [VL none 0 0, I7 qy_]⟩)] (.inl rfl) (by kernel_rfl) (by kernel_rfl) ?_
     refine Rn 5 (Qo B13 252 30) [Qs B13 253, Qs B13 127] ⟨165, [(4, VB false), (5, .own 700 0), (6, .own 701 0), (7, VL Xx_ xsx_.length cxx_), (8, VL Xy_ xsy_.length cxy_), (87, VB false), (89, I6 ((n1m_ : Nat) : Int)), (94, I6 (IntKind.i64.wrap ((xsx_.length : Int) + (xsy_.length : Int))))], [(700, ⟨87, [VL Cm_ n1m_ c1m_, I7 qm_]⟩), (701, ⟨87, [VL none 0 0, I7 qy_]⟩)]⟩ ?_
     refine Kn 94 .i64 ((xsx_.length : Int) + (xsy_.length : Int)) rfl (wi64 (by omega) (by omega)) ?_
     refine Rn 4 (Qc B13 253) [Qs B13 127] ⟨165, [(4, VB false), (5, .own 700 0), (6, .own 701 0), (7, VL Xx_ xsx_.length cxx_), (8, VL Xy_ xsy_.length cxy_), (96, VB (((n1m_ : Nat) : Int) != ((xsx_.length : Int) + (xsy_.length : Int))))], [(700, ⟨87, [VL Cm_ n1m_ c1m_, I7 qm_]⟩), (701, ⟨87, [VL none 0 0, I7 qy_]⟩)]⟩ ?_
     refine X.isFalse 96 rfl (by simp only [bne_eq_false_iff_eq]; omega) ?_
     refine Rn 12 (Qc B13 1018) [.blk 4, Qs B13 255] ⟨165, [(4, VB false), (5, .own 700 0), (6, .own 701 0), (7, VL Xx_ xsx_.length cxx_), (8, VL Xy_ xsy_.length cxy_), (98, I6 (xsy_.length : Int)), (99, I6 0)], [(700, ⟨87, [VL Cm_ n1m_ c1m_, I7 qm_]⟩), (701, ⟨87, [VL none 0 0, I7 qy_]⟩)]⟩ ?_
     refine X.tellR [600] (R' := [(600, RR 89 5 Cm_ n1m_ c1m_ (l1m_.flatMap itC))]) rfl ?_
     refine X.loopJ (fun m s R' G' => ∃ (Xr_ : Option Addr) (cxr_ : Nat) (xsr_ : List Ev) (kr_ : Nat), s = ⟨165, [(4, VB false), (5, .own 700 0), (6, .own 701 0), (7, VL Xr_ xsr_.length cxr_), (8, VL Xy_ xsy_.length cxy_), (98, I6 (xsy_.length : Int)), (99, I6 (kr_ : Int))], [(700, ⟨87, [VL Cm_ n1m_ c1m_, I7 qm_]⟩), (701, ⟨87, [VL none 0 0, I7 qy_]⟩)]⟩ ∧ R' = [(600, RR 89 5 Cm_ n1m_ c1m_ (l1m_.flatMap itC))] ∧ Ge G9 w.heap.size G' ∧ (kr_ ≤ xsy_.length ∧ xsr_ = insF xsx_ (xsy_.take kr_) ∧ xsr_.length ≤ cxr_ ∧ cxr_ ≤ maxLen ∧ rowAt evD G' Xr_ xsr_) ∧ m = (xsy_.length - kr_)) _ ⟨Xx_, cxx_, xsx_, 0, rfl, rfl, Ge.refl _ _, ⟨by omega, rfl, hlxx_, by simp only [maxLen]; omega, hrxx_⟩, rfl⟩ ?_
     rintro m61 s61 R61 G61 ⟨Xr_, cxr_, xsr_, kr_, rfl, rfl, hG61, hF61, rfl⟩ J61 hJ61
     replace hra := hra.mono hG61.le
     replace hrb := hrb.mono hG61.le
     replace hrxx_ := hrxx_.mono hG61.le
     replace hrxy_ := hrxy_.mono hG61.le
     obtain ⟨hkr_, hxsr_, hlxr_, hmxr_, hrxr_⟩ := hF61
     simp only [maxLen] at hmxr_
     have hrl_ : xsr_.length = xsx_.length + kr_ := by rw [hxsr_, insF_len, List.length_take]; omega
     refine Rn 6 (Qc B13 8146) [Qs B13 8147, .loop J61, .blk 4, Qs B13 255] ⟨165, [(4, VB false), (5, .own 700 0), (6, .own 701 0), (7, VL Xr_ xsr_.length cxr_), (8, VL Xy_ xsy_.length cxy_), (98, I6 (xsy_.length : Int)), (99, I6 (kr_ : Int)), (100, VB (decide ((kr_ : Int) < (xsy_.length : Int))))], [(700, ⟨87, [VL Cm_ n1m_ c1m_, I7 qm_]⟩), (701, ⟨87, [VL none 0 0, I7 qy_]⟩)]⟩ ?_
     refine X.split 100 rfl (fun h62 => ?_) (fun h62 => ?_)
     ·
      replace h62 : (kr_ : Int) < ((xsy_.length : Nat) : Int) := of_decide_eq_true h62
      have hkl_ : kr_ < xsy_.length := by omega
      refine Rn 15 (Qo B13 65177 3) [.blk 5, Qs B13 16295, .loop J61, .blk 4, Qs B13 255] ⟨165, [(4, VB false), (5, .own 700 0), (6, .own 701 0), (7, VL Xr_ xsr_.length cxr_), (8, VL Xy_ xsy_.length cxy_), (98, I6 (xsy_.length : Int)), (99, I6 (kr_ : Int)), (102, VL Xr_ xsr_.length cxr_), (103, VL Xy_ xsy_.length cxy_), (104, I6 (kr_ : Int))], [(700, ⟨87, [VL Cm_ n1m_ c1m_, I7 qm_]⟩), (701, ⟨87, [VL none 0 0, I7 qy_]⟩)]⟩ ?_
      have b63 : (0 : Int) ≤ (kr_ : Int) := by omega
      have b64 : (kr_ : Int) < ((xsy_.length : Nat) : Int) := by omega
      refine Ix 59 66 4 Xy_ xsy_.length cxy_ .i64 (kr_ : Int) (.tmp 103) (.tmp 104) b63 b64 (fun _ _ => rowAt.so hrxy_ (by omega)) ?_
      have at65 := At.ev [(600, ⟨89, 5, .slice Cm_ n1m_ c1m_, n1m_, l1m_.flatMap itC⟩)] hrxy_ (((kr_ : Int)).toNat) (by omega)
      simp only [evC] at at65
      refine Rn 0 (Qo B13 65177 4) [.blk 5, Qs B13 16295, .loop J61, .blk 4, Qs B13 255] ⟨165, [(4, VB false), (5, .own 700 0), (6, .own 701 0), (7, VL Xr_ xsr_.length cxr_), (8, VL Xy_ xsy_.length cxy_), (98, I6 (xsy_.length : Int)), (99, I6 (kr_ : Int)), (102, VL Xr_ xsr_.length cxr_), (105, .v (elt Xy_ (((kr_ : Int)).toNat * 4)))], [(700, ⟨87, [VL Cm_ n1m_ c1m_, I7 qm_]⟩), (701, ⟨87, [VL none 0 0, I7 qy_]⟩)]⟩ ?_
      refine Ld 66 Xy_ (((kr_ : Int)).toNat * 4) (.tmp 105) (.agg #[N6 ((xsy_.getD (((kr_ : Int)).toNat) ev0).1), N6 ((xsy_.getD (((kr_ : Int)).toNat) ev0).2.1), N6 ((xsy_.getD (((kr_ : Int)).toNat) ev0).2.2.1), N6 ((xsy_.getD (((kr_ : Int)).toNat) ev0).2.2.2)]) [N6 ((xsy_.getD (((kr_ : Int)).toNat) ev0).1), N6 ((xsy_.getD (((kr_ : Int)).toNat) ev0).2.1), N6 ((xsy_.getD (((kr_ : Int)).toNat) ev0).2.2.1), N6 ((xsy_.getD (((kr_ : Int)).toNat) ev0).2.2.2)] at65 ?_
      refine Rn 0 (Qo B13 65177 5) [.blk 5, Qs B13 16295, .loop J61, .blk 4, Qs B13 255] ⟨165, [(4, VB false), (5, .own 700 0), (6, .own 701 0), (7, VL Xr_ xsr_.length cxr_), (8, VL Xy_ xsy_.length cxy_), (98, I6 (xsy_.length : Int)), (99, I6 (kr_ : Int)), (102, VL Xr_ xsr_.length cxr_), (106, .v (.agg #[N6 ((xsy_.getD (((kr_ : Int)).toNat) ev0).1), N6 ((xsy_.getD (((kr_ : Int)).toNat) ev0).2.1), N6 ((xsy_.getD (((kr_ : Int)).toNat) ev0).2.2.1), N6 ((xsy_.getD (((kr_ : Int)).toNat) ev0).2.2.2)]))], [(700, ⟨87, [VL Cm_ n1m_ c1m_, I7 qm_]⟩), (701, ⟨87, [VL none 0 0, I7 qy_]⟩)]⟩ ?_
      refine Cg 30 [.slice Xr_ xsr_.length cxr_, .agg #[N6 ((xsy_.getD (((kr_ : Int)).toNat) ev0).1), N6 ((xsy_.getD (((kr_ : Int)).toNat) ev0).2.1), N6 ((xsy_.getD (((kr_ : Int)).toNat) ev0).2.2.1), N6 ((xsy_.getD (((kr_ : Int)).toNat) ev0).2.2.2)]] 561 (rPush_ok Xr_ cxr_ xsr_ ((xsy_.getD (((kr_ : Int)).toNat) ev0).1) ((xsy_.getD (((kr_ : Int)).toNat) ev0).2.1) ((xsy_.getD (((kr_ : Int)).toNat) ev0).2.2.1) ((xsy_.getD (((kr_ : Int)).toNat) ev0).2.2.2) _ hrxr_ hlxr_ hmxr_ (by omega)) ?_
      rintro v66 G66 rows66 hG66 ⟨A66, c66, rfl, rfl⟩
      replace hra := hra.mono hG66.le
      replace hrb := hrb.mono hG66.le
      replace hrxx_ := hrxx_.mono hG66.le
      replace hrxy_ := hrxy_.mono hG66.le
      replace hrxr_ := hrxr_.mono hG66.le
      refine X.asR (R' := [(561, RR 66 4 A66 ((insE xsr_ ((xsy_.getD (((kr_ : Int)).toNat) ev0).1, (xsy_.getD (((kr_ : Int)).toNat) ev0).2.1, (xsy_.getD (((kr_ : Int)).toNat) ev0).2.2.1, (xsy_.getD (((kr_ : Int)).toNat) ev0).2.2.2)).length) c66 ((insE xsr_ ((xsy_.getD (((kr_ : Int)).toNat) ev0).1, (xsy_.getD (((kr_ : Int)).toNat) ev0).2.1, (xsy_.getD (((kr_ : Int)).toNat) ev0).2.2.1, (xsy_.getD (((kr_ : Int)).toNat) ev0).2.2.2)).flatMap evC)), (600, RR 89 5 Cm_ n1m_ c1m_ (l1m_.flatMap itC))]) rfl ?_
      refine X.tellR [561, 600] (R' := [(561, RR 66 4 A66 ((insE xsr_ ((xsy_.getD (((kr_ : Int)).toNat) ev0).1, (xsy_.getD (((kr_ : Int)).toNat) ev0).2.1, (xsy_.getD (((kr_ : Int)).toNat) ev0).2.2.1, (xsy_.getD (((kr_ : Int)).toNat) ev0).2.2.2)).length) c66 ((insE xsr_ ((xsy_.getD (((kr_ : Int)).toNat) ev0).1, (xsy_.getD (((kr_ : Int)).toNat) ev0).2.1, (xsy_.getD (((kr_ : Int)).toNat) ev0).2.2.1, (xsy_.getD (((kr_ : Int)).toNat) ev0).2.2.2)).flatMap evC)), (600, RR 89 5 Cm_ n1m_ c1m_ (l1m_.flatMap itC))]) rfl ?_
      refine X.capLe (i := 561) (q := (RR 66 4 A66 ((insE xsr_ ((xsy_.getD (((kr_ : Int)).toNat) ev0).1, (xsy_.getD (((kr_ : Int)).toNat) ev0).2.1, (xsy_.getD (((kr_ : Int)).toNat) ev0).2.2.1, (xsy_.getD (((kr_ : Int)).toNat) ev0).2.2.2)).length) c66 ((insE xsr_ ((xsy_.getD (((kr_ : Int)).toNat) ev0).1, (xsy_.getD (((kr_ : Int)).toNat) ev0).2.1, (xsy_.getD (((kr_ : Int)).toNat) ev0).2.2.1, (xsy_.getD (((kr_ : Int)).toNat) ev0).2.2.2)).flatMap evC))) (n := (insE xsr_ ((xsy_.getD (((kr_ : Int)).toNat) ev0).1, (xsy_.getD (((kr_ : Int)).toNat) ev0).2.1, (xsy_.getD (((kr_ : Int)).toNat) ev0).2.2.1, (xsy_.getD (((kr_ : Int)).toNat) ev0).2.2.2)).length) (c := c66) (A := A66) rfl rfl ?_
      intro hle67 hmx67
      refine X.freezeT (d := evD) (i := 561) (n := (insE xsr_ ((xsy_.getD (((kr_ : Int)).toNat) ev0).1, (xsy_.getD (((kr_ : Int)).toNat) ev0).2.1, (xsy_.getD (((kr_ : Int)).toNat) ev0).2.2.1, (xsy_.getD (((kr_ : Int)).toNat) ev0).2.2.2)).length) (c := c66) (A := A66) ((insE xsr_ ((xsy_.getD (((kr_ : Int)).toNat) ev0).1, (xsy_.getD (((kr_ : Int)).toNat) ev0).2.1, (xsy_.getD (((kr_ : Int)).toNat) ev0).2.2.1, (xsy_.getD (((kr_ : Int)).toNat) ev0).2.2.2))) rfl (by decide) (fun _ _ => evD_reps) (by kernel_rfl) (fun _ h => h) ?_
      intro G67 hG67 hr67
      replace hra := hra.mono hG67.le
      replace hrb := hrb.mono hG67.le
      replace hrxx_ := hrxx_.mono hG67.le
      replace hrxy_ := hrxy_.mono hG67.le
      replace hrxr_ := hrxr_.mono hG67.le
      refine Rn 6 (Qo B13 16295 1) [.loop J61, .blk 4, Qs B13 255] ⟨165, [(4, VB false), (5, .own 700 0), (6, .own 701 0), (7, VL A66 ((insE xsr_ ((xsy_.getD (((kr_ : Int)).toNat) ev0).1, (xsy_.getD (((kr_ : Int)).toNat) ev0).2.1, (xsy_.getD (((kr_ : Int)).toNat) ev0).2.2.1, (xsy_.getD (((kr_ : Int)).toNat) ev0).2.2.2)).length) c66), (8, VL Xy_ xsy_.length cxy_), (98, I6 (xsy_.length : Int)), (99, I6 (kr_ : Int)), (108, I6 (IntKind.i64.wrap ((kr_ : Int) + 1)))], [(700, ⟨87, [VL Cm_ n1m_ c1m_, I7 qm_]⟩), (701, ⟨87, [VL none 0 0, I7 qy_]⟩)]⟩ ?_
      refine Kn 108 .i64 ((kr_ : Int) + 1) rfl (wi64 (by omega) (by omega)) ?_
      refine Rn 2 (.ex .normal) [.loop J61, .blk 4, Qs B13 255] ⟨165, [(4, VB false), (5, .own 700 0), (6, .own 701 0), (7, VL A66 ((insE xsr_ ((xsy_.getD (((kr_ : Int)).toNat) ev0).1, (xsy_.getD (((kr_ : Int)).toNat) ev0).2.1, (xsy_.getD (((kr_ : Int)).toNat) ev0).2.2.1, (xsy_.getD (((kr_ : Int)).toNat) ev0).2.2.2)).length) c66), (8, VL Xy_ xsy_.length cxy_), (98, I6 (xsy_.length : Int)), (99, I6 ((kr_ : Int) + 1))], [(700, ⟨87, [VL Cm_ n1m_ c1m_, I7 qm_]⟩), (701, ⟨87, [VL none 0 0, I7 qy_]⟩)]⟩ ?_
      exact X.again (hJ61 _ _ _ _ ⟨A66, c66, (insE xsr_ ((xsy_.getD (((kr_ : Int)).toNat) ev0).1, (xsy_.getD (((kr_ : Int)).toNat) ev0).2.1, (xsy_.getD (((kr_ : Int)).toNat) ev0).2.2.1, (xsy_.getD (((kr_ : Int)).toNat) ev0).2.2.2)), (kr_ + 1), rfl, rfl, ((hG61.trans hG66).trans hG67), ⟨by omega, by rw [insF_step hkl_, ← hxsr_] <;> rfl, hle67, by have h_ := hmx67; simp only [maxLen] at h_ ⊢; omega, hr67⟩, rfl⟩ (by omega))
     ·
      replace h62 : ¬ ((kr_ : Int) < ((xsy_.length : Nat) : Int)) := of_decide_eq_false h62
      rw [insF_all (show xsy_.length ≤ kr_ by omega)] at hxsr_
      rw [← hxsr_] at hPm_
      refine Rn 9 (Qo B13 510 1) [Qs B13 511] ⟨165, [(4, VB false), (5, .own 700 0), (6, .own 701 0), (7, VL Xr_ xsr_.length cxr_), (109, .own 700 0)], [(700, ⟨87, [VL Cm_ n1m_ c1m_, I7 qm_]⟩), (701, ⟨87, [VL none 0 0, I7 qy_]⟩)]⟩ ?_
      refine X.joinJ (Qc B13 511) [] (fun s2_ R2_ G2_ => ∃ (E_ : Option Addr) (ce_ : Nat), s2_ = ⟨165, [(4, VB false), (5, .own 700 0), (6, .own 701 0), (7, VL Xr_ xsr_.length cxr_), (12, VL E_ n1m_ ce_)], [(700, ⟨87, [VL Cm_ n1m_ c1m_, I7 qm_]⟩), (701, ⟨87, [VL none 0 0, I7 qy_]⟩)]⟩ ∧ R2_ = [(19, RR 27 4 E_ n1m_ ce_ (xsr_.flatMap evC)), (600, RR 89 5 Cm_ n1m_ c1m_ (l1m_.flatMap itC))] ∧ Ge G61 w.heap.size G2_ ∧ (True)) ?_ fun hY68 => ?_
      ·
       exact merges_tail ((((hG3.trans hG4).trans hG8).trans hG9).trans hG61) hln1m_ hPm_ (by omega) hlxr_ (by simp only [maxLen]; omega) hrxr_ hra hrb hrxx_ hrxy_
      ·
       refine X.inline (f := 48) (l := [.own 700 0]) (fn := Try.f48) (c := B48) (by kernel_rfl) (by kernel_rfl) Try.func48 (by kernel_rfl) ?_
       intro Q167 M167 hM167 hQ167 fin167
       refine Rn 9 (Qo B48 12 1) [Qs B48 13, Qs B48 7] ⟨34, [(0, .own 1700 0), (2, VL none 0 0), (7, .own 1700 0)], [(1700, ⟨87, [VL Cm_ n1m_ c1m_, I7 qm_]⟩), (1701, ⟨87, [VL none 0 0, I7 qy_]⟩)]⟩ ?_
       refine X.inline (f := 17) (l := [.own 1700 0]) (fn := Try.f17) (c := B17) (by kernel_rfl) (by kernel_rfl) Try.func17 (by kernel_rfl) ?_
       intro Q168 M168 hM168 hQ168 fin168
       refine Rn 9 (Qo B17 12 1) [Qs B17 13, Qs B17 7] ⟨10, [(0, .own 2700 0), (2, I6 0), (3, .own 2700 0)], [(2700, ⟨87, [VL Cm_ n1m_ c1m_, I7 qm_]⟩), (2701, ⟨87, [VL none 0 0, I7 qy_]⟩)]⟩ ?_
       refine X.eqOwnNil (t := 23) (t' := 23) (e := 87) (b := 2700) (off := 0) (x := .tmp 3) (y := .const (.pointer none)) (by kernel_rfl) (fun g => by kernel_rfl) (by kernel_rfl) (by kernel_rfl) (by kernel_rfl) (by kernel_rfl) ?_
       refine Rn 16 (.ex .ret) [] ⟨10, [(2, I6 ((n1m_ : Nat) : Int))], [(2700, ⟨87, [VL Cm_ n1m_ c1m_, I7 qm_]⟩), (2701, ⟨87, [VL none 0 0, I7 qy_]⟩)]⟩ ?_
       refine fin168 _ _ _ _ [N6 ((n1m_ : Nat) : Int)] [(1700, ⟨87, [VL Cm_ n1m_ c1m_, I7 qm_]⟩), (1701, ⟨87, [VL none 0 0, I7 qy_]⟩)] (.inl rfl) (by kernel_rfl) (by kernel_rfl) ?_
       refine Rn 3 (Qc B48 13) [Qs B48 7] ⟨34, [(0, .own 1700 0), (2, VL none 0 0), (9, VB (((n1m_ : Nat) : Int) == 0))], [(1700, ⟨87, [VL Cm_ n1m_ c1m_, I7 qm_]⟩), (1701, ⟨87, [VL none 0 0, I7 qy_]⟩)]⟩ ?_
       refine X.split 9 rfl (fun h169 => ?_) (fun h169 => ?_)
       ·
        replace h169 : ((n1m_ : Nat) : Int) = 0 := by simpa using h169
        refine X.nilRow 19 27 4 rfl ?_
        refine Rn 8 (.ex .ret) [] ⟨34, [(2, VL none 0 0)], [(1700, ⟨87, [VL Cm_ n1m_ c1m_, I7 qm_]⟩), (1701, ⟨87, [VL none 0 0, I7 qy_]⟩)]⟩ ?_
        refine fin167 _ _ _ _ [.slice none 0 0] [(700, ⟨87, [VL Cm_ n1m_ c1m_, I7 qm_]⟩), (701, ⟨87, [VL none 0 0, I7 qy_]⟩)] (.inl rfl) (by kernel_rfl) (by kernel_rfl) ?_
        refine Rn 3 (Qc B13 511) [] ⟨165, [(4, VB false), (5, .own 700 0), (6, .own 701 0), (7, VL Xr_ xsr_.length cxr_), (12, VL none 0 0)], [(700, ⟨87, [VL Cm_ n1m_ c1m_, I7 qm_]⟩), (701, ⟨87, [VL none 0 0, I7 qy_]⟩)]⟩ ?_
        have hE0_ : xsr_ = [] := List.length_eq_zero_iff.mp (by omega)
        have hE1_ : n1m_ = 0 := by omega
        refine X.tellR [19, 600] (R' := [(19, RR 27 4 none n1m_ 0 (xsr_.flatMap evC)), (600, RR 89 5 Cm_ n1m_ c1m_ (l1m_.flatMap itC))]) (congrArg (fun r_ : Row => (19, r_) :: [(600, RR 89 5 Cm_ n1m_ c1m_ (l1m_.flatMap itC))]) (show (RR 27 4 none 0 0 [] : Row) = (RR 27 4 none n1m_ 0 (xsr_.flatMap evC)) by rw [hE0_, hE1_] <;> rfl)) ?_
        refine X.castS ⟨165, [(4, VB false), (5, .own 700 0), (6, .own 701 0), (7, VL Xr_ xsr_.length cxr_), (12, VL none n1m_ 0)], [(700, ⟨87, [VL Cm_ n1m_ c1m_, I7 qm_]⟩), (701, ⟨87, [VL none 0 0, I7 qy_]⟩)]⟩ (congrArg (fun z_ : Nat => (⟨165, [(4, VB false), (5, .own 700 0), (6, .own 701 0), (7, VL Xr_ xsr_.length cxr_), (12, VL none z_ 0)], [(700, ⟨87, [VL Cm_ n1m_ c1m_, I7 qm_]⟩), (701, ⟨87, [VL none 0 0, I7 qy_]⟩)]⟩ : S)) hE1_.symm) ?_
        exact hY68 _ _ _ ⟨none, 0, rfl, rfl, (Ge.refl _ _), trivial⟩
       ·
        replace h169 : ((n1m_ : Nat) : Int) ≠ 0 := by simpa using h169
        refine Rn 9 (Qo B48 14 4) [Qs B48 15] ⟨34, [(2, VL none 0 0), (13, VL Cm_ n1m_ c1m_)], [(1700, ⟨87, [VL Cm_ n1m_ c1m_, I7 qm_]⟩), (1701, ⟨87, [VL none 0 0, I7 qy_]⟩)]⟩ ?_
        refine X.rowIs (i := 600) (q := (RR 89 5 Cm_ n1m_ c1m_ (l1m_.flatMap itC))) (n := n1m_) (c := c1m_) (A := Cm_) rfl rfl rfl (by omega) ?_
        intro hsome_
        refine X.inline (f := 75) (l := [VL Cm_ n1m_ c1m_]) (fn := Try.f75) (c := B75) (by kernel_rfl) (by kernel_rfl) Try.func75 (by kernel_rfl) ?_
        intro Q170 M170 hM170 hQ170 fin170
        refine Rn 9 (Qo B75 12 1) [Qs B75 13, Qs B75 7] ⟨8, [(0, VL Cm_ n1m_ c1m_), (2, VL none 0 0), (3, VL Cm_ n1m_ c1m_)], [(2700, ⟨87, [VL Cm_ n1m_ c1m_, I7 qm_]⟩), (2701, ⟨87, [VL none 0 0, I7 qy_]⟩)]⟩ ?_
        refine X.eqNil (t := 84) (t' := 84) (e := 89) (n := n1m_) (c := c1m_) (A := Cm_) (x := .tmp 3) (y := .const (.slice none 0 0)) (by kernel_rfl) (by kernel_rfl) (by kernel_rfl) (by kernel_rfl) (by kernel_rfl) (by kernel_rfl) ?_
        refine Rn 2 (Qc B75 13) [Qs B75 7] ⟨8, [(0, VL Cm_ n1m_ c1m_), (2, VL none 0 0), (4, VB Cm_.isNone)], [(2700, ⟨87, [VL Cm_ n1m_ c1m_, I7 qm_]⟩), (2701, ⟨87, [VL none 0 0, I7 qy_]⟩)]⟩ ?_
        refine X.isFalse 4 rfl (hsome_) ?_
        refine Rn 5 (Qo B75 14 0) [Qs B75 15] ⟨8, [(0, VL Cm_ n1m_ c1m_), (2, VL none 0 0)], [(2700, ⟨87, [VL Cm_ n1m_ c1m_, I7 qm_]⟩), (2701, ⟨87, [VL none 0 0, I7 qy_]⟩)]⟩ ?_
        refine Lt 5 89 5 0 [] ?_
        intro A171
        refine Rn 1 (Qo B75 14 2) [Qs B75 15] ⟨8, [(2, VL none 0 0), (5, VL A171 0 0), (6, VL Cm_ n1m_ c1m_)], [(2700, ⟨87, [VL Cm_ n1m_ c1m_, I7 qm_]⟩), (2701, ⟨87, [VL none 0 0, I7 qy_]⟩)]⟩ ?_
        refine Ap 5 (RR 89 5 A171 0 0 []) 84 40 (.agg #[N6 0, N6 0, N6 0, N6 0, N7 0]) (.tmp 5) (.tmp 6) 0 0 n1m_ c1m_ A171 Cm_ (l1m_.flatMap itC) (.inl rfl) (by rw [flat_len itC_len, hln1m_]) (At.of_row (i := 600) (r := (RR 89 5 Cm_ n1m_ c1m_ (l1m_.flatMap itC))) rfl rfl) (fun w hw e => absurd (rowSome (i := 600) (q := (RR 89 5 Cm_ n1m_ c1m_ (l1m_.flatMap itC))) rfl rfl (flat_pos itC_len (by decide) (by omega)) w hw) (by rw [e]; decide)) ones_it (by omega) ?_
        intro A172 c172 hc172
        rw [Nat.zero_add]
        refine X.tellR [5, 600] (R' := [(5, RR 89 5 A172 n1m_ c172 (([] ++ l1m_).flatMap itC)), (600, RR 89 5 Cm_ n1m_ c1m_ (l1m_.flatMap itC))]) (congrArg (fun cs_ => (5, (RR 89 5 A172 n1m_ c172 cs_ : Row)) :: [(600, RR 89 5 Cm_ n1m_ c1m_ (l1m_.flatMap itC))]) (show [] ++ (l1m_.flatMap itC) = ([] ++ l1m_).flatMap itC by simp)) ?_
        obtain ⟨l172, hl172⟩ : ∃ z_, ([] ++ l1m_) = z_ := ⟨_, rfl⟩
        rw [hl172]
        have hn172 : l172.length = n1m_ := by rw [← hl172, List.length_append, hln1m_]; simp
        refine Rn 4 (.ex .ret) [] ⟨8, [(2, VL A172 n1m_ c172)], [(2700, ⟨87, [VL Cm_ n1m_ c1m_, I7 qm_]⟩), (2701, ⟨87, [VL none 0 0, I7 qy_]⟩)]⟩ ?_
        refine fin170 _ _ _ _ [.slice A172 n1m_ c172] [(1700, ⟨87, [VL Cm_ n1m_ c1m_, I7 qm_]⟩), (1701, ⟨87, [VL none 0 0, I7 qy_]⟩)] (.inl rfl) (by kernel_rfl) (by kernel_rfl) ?_
        refine Rn 6 (Qo B48 30 1) [Qs B48 31] ⟨34, [(2, VL none 0 0), (3, VL A172 n1m_ c172), (15, VL A172 n1m_ c172)], [(1700, ⟨87, [VL Cm_ n1m_ c1m_, I7 qm_]⟩), (1701, ⟨87, [VL none 0 0, I7 qy_]⟩)]⟩ ?_
        refine X.callR (f := 76) (l := [VL A172 n1m_ c172, .fn 77 []]) 5 (q := (RR 89 5 A172 n1m_ c172 (l172.flatMap itC))) (by kernel_rfl) rfl (by kernel_rfl) rfl (Sort76_ok A172 n1m_ c172 l172 _ (hn172) (by omega) (by omega)) ?_
        rintro _ _ ⟨rfl, s1_, hsp_, hsa_, rfl⟩
        refine X.tellR [5, 600] (R' := [(5, RR 89 5 A172 n1m_ c172 (s1_.flatMap itC)), (600, RR 89 5 Cm_ n1m_ c1m_ (l1m_.flatMap itC))]) rfl ?_
        have hsn_ : s1_.length = n1m_ := hsp_.length_eq.trans (hn172)
        refine Rn 6 (Qo B48 62 2) [Qs B48 63] ⟨34, [(2, VL none 0 0), (3, VL A172 n1m_ c172), (18, I6 ((n1m_ : Nat) : Int))], [(1700, ⟨87, [VL Cm_ n1m_ c1m_, I7 qm_]⟩), (1701, ⟨87, [VL none 0 0, I7 qy_]⟩)]⟩ ?_
        refine X.makeK (t := 80) (e := 27) (bytes := 32) (size := 4) 19 (.agg #[N6 0, N6 0, N6 0, N6 0]) evC ev0 (x := .tmp 18) (y := .tmp 18) (n := n1m_) (by kernel_rfl) (by kernel_rfl) (by kernel_rfl) (by kernel_rfl) (by kernel_rfl) rfl (by kernel_rfl) (by decide) (by kernel_rfl) (by omega) (by omega) (by omega) ?_
        intro A174
        refine X.tellR [19, 5, 600] (R' := [(19, RR 27 4 A174 n1m_ n1m_ ((List.replicate n1m_ ev0).flatMap evC)), (5, RR 89 5 A172 n1m_ c172 (s1_.flatMap itC)), (600, RR 89 5 Cm_ n1m_ c1m_ (l1m_.flatMap itC))]) rfl ?_
        refine Rn 12 (Qc B48 506) [.blk 0, Qs B48 127] ⟨34, [(2, VL none 0 0), (4, VL A174 n1m_ n1m_), (20, VL A172 n1m_ c172), (21, I6 ((n1m_ : Nat) : Int)), (22, I6 0)], [(1700, ⟨87, [VL Cm_ n1m_ c1m_, I7 qm_]⟩), (1701, ⟨87, [VL none 0 0, I7 qy_]⟩)]⟩ ?_
        refine X.loopJ (fun m s R' G' => ∃ (js_ : Nat) (e_ : List Ev), s = ⟨34, [(2, VL none 0 0), (4, VL A174 n1m_ n1m_), (20, VL A172 n1m_ c172), (21, I6 ((n1m_ : Nat) : Int)), (22, I6 (js_ : Int))], [(1700, ⟨87, [VL Cm_ n1m_ c1m_, I7 qm_]⟩), (1701, ⟨87, [VL none 0 0, I7 qy_]⟩)]⟩ ∧ R' = [(19, RR 27 4 A174 n1m_ n1m_ (e_.flatMap evC)), (5, RR 89 5 A172 n1m_ c172 (s1_.flatMap itC)), (600, RR 89 5 Cm_ n1m_ c1m_ (l1m_.flatMap itC))] ∧ G61 = G' ∧ (js_ ≤ n1m_ ∧ e_.length = n1m_ ∧ ∀ j_, j_ < js_ → e_.getD j_ ev0 = evOf (at_ s1_ j_)) ∧ m = (n1m_ - js_)) _ ⟨0, (List.replicate n1m_ ev0), rfl, rfl, rfl, ⟨Nat.zero_le _, by first | assumption | simp, fun _ h_ => absurd h_ (Nat.not_lt_zero _)⟩, rfl⟩ ?_
        rintro m175 s175 R175 G175 ⟨js_, e_, rfl, rfl, rfl, hF175, rfl⟩ J175 hJ175
        obtain ⟨hjs_, hen_, he_⟩ := hF175
        refine Rn 6 (Qc B48 4050) [Qs B48 4051, .loop J175, .blk 0, Qs B48 127] ⟨34, [(2, VL none 0 0), (4, VL A174 n1m_ n1m_), (20, VL A172 n1m_ c172), (21, I6 ((n1m_ : Nat) : Int)), (22, I6 (js_ : Int)), (23, VB (decide ((js_ : Int) < ((n1m_ : Nat) : Int))))], [(1700, ⟨87, [VL Cm_ n1m_ c1m_, I7 qm_]⟩), (1701, ⟨87, [VL none 0 0, I7 qy_]⟩)]⟩ ?_
        refine X.split 23 rfl (fun h176 => ?_) (fun h176 => ?_)
        ·
         replace h176 : (js_ : Int) < ((n1m_ : Nat) : Int) := of_decide_eq_true h176
         refine Rn 8 (Qo B48 32408 1) [Qs B48 32409, .blk 1, Qs B48 8103, .loop J175, .blk 0, Qs B48 127] ⟨34, [(2, VL none 0 0), (4, VL A174 n1m_ n1m_), (20, VL A172 n1m_ c172), (21, I6 ((n1m_ : Nat) : Int)), (22, I6 (js_ : Int)), (24, I6 (js_ : Int))], [(1700, ⟨87, [VL Cm_ n1m_ c1m_, I7 qm_]⟩), (1701, ⟨87, [VL none 0 0, I7 qy_]⟩)]⟩ ?_
         have b177 : (0 : Int) ≤ (js_ : Int) := by omega
         have b178 : (js_ : Int) < ((n1m_ : Nat) : Int) := by omega
         refine Ix 84 89 5 A172 n1m_ c172 .i64 (js_ : Int) (.tmp 20) (.tmp 22) b177 b178 (rowSome (i := 5) (q := (RR 89 5 A172 n1m_ c172 (s1_.flatMap itC))) rfl rfl (flat_pos itC_len (by decide) (by rw [hsn_]; omega))) ?_
         have at179 : At G61 [(19, ⟨27, 4, .slice A174 n1m_ n1m_, n1m_, e_.flatMap evC⟩), (5, ⟨89, 5, .slice A172 n1m_ c172, n1m_, s1_.flatMap itC⟩), (600, ⟨89, 5, .slice Cm_ n1m_ c1m_, n1m_, l1m_.flatMap itC⟩)] A172 (((js_ : Int)).toNat * 5) [.int .i64 ((s1_.getD (((js_ : Int)).toNat) it0).1), .int .i64 ((s1_.getD (((js_ : Int)).toNat) it0).2.1), .int .i64 ((s1_.getD (((js_ : Int)).toNat) it0).2.2.1), .int .i64 ((s1_.getD (((js_ : Int)).toNat) it0).2.2.2.1), .int .u64 ((s1_.getD (((js_ : Int)).toNat) it0).2.2.2.2)] := At.rowF itC itC_len (i := 5) (r := ⟨89, 5, .slice A172 n1m_ c172, n1m_, s1_.flatMap itC⟩) it0 rfl rfl rfl (by rw [hsn_]; omega)
         have at180 : At G61 [(19, ⟨27, 4, .slice A174 n1m_ n1m_, n1m_, e_.flatMap evC⟩), (5, ⟨89, 5, .slice A172 n1m_ c172, n1m_, s1_.flatMap itC⟩), (600, ⟨89, 5, .slice Cm_ n1m_ c1m_, n1m_, l1m_.flatMap itC⟩)] A172 (((js_ : Int)).toNat * 5) [.int .i64 ((s1_.getD (((js_ : Int)).toNat) it0).1), .int .i64 ((s1_.getD (((js_ : Int)).toNat) it0).2.1), .int .i64 ((s1_.getD (((js_ : Int)).toNat) it0).2.2.1), .int .i64 ((s1_.getD (((js_ : Int)).toNat) it0).2.2.2.1), .int .u64 ((s1_.getD (((js_ : Int)).toNat) it0).2.2.2.2)] := At.rowF itC itC_len (i := 5) (r := ⟨89, 5, .slice A172 n1m_ c172, n1m_, s1_.flatMap itC⟩) it0 rfl rfl rfl (by rw [hsn_]; omega)
         refine Ld 89 A172 (((js_ : Int)).toNat * 5) (.tmp 25) (.agg #[N6 ((s1_.getD (((js_ : Int)).toNat) it0).1), N6 ((s1_.getD (((js_ : Int)).toNat) it0).2.1), N6 ((s1_.getD (((js_ : Int)).toNat) it0).2.2.1), N6 ((s1_.getD (((js_ : Int)).toNat) it0).2.2.2.1), N7 ((s1_.getD (((js_ : Int)).toNat) it0).2.2.2.2)]) [N6 ((s1_.getD (((js_ : Int)).toNat) it0).1), N6 ((s1_.getD (((js_ : Int)).toNat) it0).2.1), N6 ((s1_.getD (((js_ : Int)).toNat) it0).2.2.1), N6 ((s1_.getD (((js_ : Int)).toNat) it0).2.2.2.1), N7 ((s1_.getD (((js_ : Int)).toNat) it0).2.2.2.2)] at180 ?_
         refine Rn 10 (Qo B48 32409 4) [.blk 1, Qs B48 8103, .loop J175, .blk 0, Qs B48 127] ⟨34, [(2, VL none 0 0), (4, VL A174 n1m_ n1m_), (20, VL A172 n1m_ c172), (21, I6 ((n1m_ : Nat) : Int)), (22, I6 (js_ : Int)), (27, VL A174 n1m_ n1m_), (28, I6 (js_ : Int)), (30, .v (.agg #[N6 ((s1_.getD (((js_ : Int)).toNat) it0).1), N6 ((s1_.getD (((js_ : Int)).toNat) it0).2.1), N6 ((s1_.getD (((js_ : Int)).toNat) it0).2.2.1), N6 ((s1_.getD (((js_ : Int)).toNat) it0).2.2.2.1)]))], [(1700, ⟨87, [VL Cm_ n1m_ c1m_, I7 qm_]⟩), (1701, ⟨87, [VL none 0 0, I7 qy_]⟩)]⟩ ?_
         have b181 : (0 : Int) ≤ (js_ : Int) := by omega
         have b182 : (js_ : Int) < ((n1m_ : Nat) : Int) := by omega
         refine Ix 80 27 4 A174 n1m_ n1m_ .i64 (js_ : Int) (.tmp 27) (.tmp 28) b181 b182 (rowSome (i := 19) (q := (RR 27 4 A174 n1m_ n1m_ (e_.flatMap evC))) rfl rfl (flat_pos evC_len (by decide) (by rw [hen_]; omega))) ?_
         have at183 : At G61 [(19, ⟨27, 4, .slice A174 n1m_ n1m_, n1m_, e_.flatMap evC⟩), (5, ⟨89, 5, .slice A172 n1m_ c172, n1m_, s1_.flatMap itC⟩), (600, ⟨89, 5, .slice Cm_ n1m_ c1m_, n1m_, l1m_.flatMap itC⟩)] A174 (((js_ : Int)).toNat * 4) [.int .i64 ((e_.getD (((js_ : Int)).toNat) ev0).1), .int .i64 ((e_.getD (((js_ : Int)).toNat) ev0).2.1), .int .i64 ((e_.getD (((js_ : Int)).toNat) ev0).2.2.1), .int .i64 ((e_.getD (((js_ : Int)).toNat) ev0).2.2.2)] := At.rowF evC evC_len (i := 19) (r := ⟨27, 4, .slice A174 n1m_ n1m_, n1m_, e_.flatMap evC⟩) ev0 rfl rfl rfl (by rw [hen_]; omega)
         refine Rn 0 (Qo B48 32409 5) [.blk 1, Qs B48 8103, .loop J175, .blk 0, Qs B48 127] ⟨34, [(2, VL none 0 0), (4, VL A174 n1m_ n1m_), (20, VL A172 n1m_ c172), (21, I6 ((n1m_ : Nat) : Int)), (22, I6 (js_ : Int)), (30, .v (.agg #[N6 ((s1_.getD (((js_ : Int)).toNat) it0).1), N6 ((s1_.getD (((js_ : Int)).toNat) it0).2.1), N6 ((s1_.getD (((js_ : Int)).toNat) it0).2.2.1), N6 ((s1_.getD (((js_ : Int)).toNat) it0).2.2.2.1)])), (31, .v (elt A174 (((js_ : Int)).toNat * 4)))], [(1700, ⟨87, [VL Cm_ n1m_ c1m_, I7 qm_]⟩), (1701, ⟨87, [VL none 0 0, I7 qy_]⟩)]⟩ ?_
         refine X.storeElem (i := 19) (t := 27) (j := ((js_ : Int)).toNat * 4) (n := n1m_) (c := n1m_) (q := (RR 27 4 A174 n1m_ n1m_ (e_.flatMap evC))) (A := A174) (x := .tmp 31) (y := .tmp 30) (z := .agg #[N6 ((s1_.getD (((js_ : Int)).toNat) it0).1), N6 ((s1_.getD (((js_ : Int)).toNat) it0).2.1), N6 ((s1_.getD (((js_ : Int)).toNat) it0).2.2.1), N6 ((s1_.getD (((js_ : Int)).toNat) it0).2.2.2.1)]) (by kernel_rfl) (by kernel_rfl) (by kernel_rfl) rfl rfl (by kernel_rfl) (by rw [show _ = _ from flat_len evC_len _, hen_]; show ((js_ : Int)).toNat * 4 + 4 ≤ _; omega) (by kernel_rfl) (Nat.succ_pos _) (by kernel_rfl) ?_
         refine X.tellR [19, 5, 600] (R' := [(19, RR 27 4 A174 n1m_ n1m_ ((e_.set (((js_ : Int)).toNat) ((s1_.getD (((js_ : Int)).toNat) it0).1, (s1_.getD (((js_ : Int)).toNat) it0).2.1, (s1_.getD (((js_ : Int)).toNat) it0).2.2.1, (s1_.getD (((js_ : Int)).toNat) it0).2.2.2.1)).flatMap evC)), (5, RR 89 5 A172 n1m_ c172 (s1_.flatMap itC)), (600, RR 89 5 Cm_ n1m_ c1m_ (l1m_.flatMap itC))]) (congrArg (fun cs_ => (19, (RR 27 4 A174 n1m_ n1m_ cs_ : Row)) :: [(5, RR 89 5 A172 n1m_ c172 (s1_.flatMap itC)), (600, RR 89 5 Cm_ n1m_ c1m_ (l1m_.flatMap itC))]) (splice_flat evC_len (((s1_.getD (((js_ : Int)).toNat) it0).1, (s1_.getD (((js_ : Int)).toNat) it0).2.1, (s1_.getD (((js_ : Int)).toNat) it0).2.2.1, (s1_.getD (((js_ : Int)).toNat) it0).2.2.2.1) : Ev) e_ (((js_ : Int)).toNat) (by rw [hen_]; omega))) ?_
         obtain ⟨l184, hl184⟩ : ∃ z_, (e_.set (((js_ : Int)).toNat) ((s1_.getD (((js_ : Int)).toNat) it0).1, (s1_.getD (((js_ : Int)).toNat) it0).2.1, (s1_.getD (((js_ : Int)).toNat) it0).2.2.1, (s1_.getD (((js_ : Int)).toNat) it0).2.2.2.1)) = z_ := ⟨_, rfl⟩
         rw [hl184]
         have hn184 : l184.length = n1m_ := by rw [← hl184, List.length_set, hen_]
         refine Rn 5 (Qo B48 8103 1) [.loop J175, .blk 0, Qs B48 127] ⟨34, [(2, VL none 0 0), (4, VL A174 n1m_ n1m_), (20, VL A172 n1m_ c172), (21, I6 ((n1m_ : Nat) : Int)), (22, I6 (js_ : Int)), (32, I6 (IntKind.i64.wrap ((js_ : Int) + 1)))], [(1700, ⟨87, [VL Cm_ n1m_ c1m_, I7 qm_]⟩), (1701, ⟨87, [VL none 0 0, I7 qy_]⟩)]⟩ ?_
         refine Kn 32 .i64 ((js_ : Int) + 1) rfl (wi64 (by omega) (by omega)) ?_
         refine Rn 2 (.ex .normal) [.loop J175, .blk 0, Qs B48 127] ⟨34, [(2, VL none 0 0), (4, VL A174 n1m_ n1m_), (20, VL A172 n1m_ c172), (21, I6 ((n1m_ : Nat) : Int)), (22, I6 ((js_ : Int) + 1))], [(1700, ⟨87, [VL Cm_ n1m_ c1m_, I7 qm_]⟩), (1701, ⟨87, [VL none 0 0, I7 qy_]⟩)]⟩ ?_
         exact X.again (hJ175 _ _ _ _ ⟨(js_ + 1), l184, rfl, rfl, rfl, ⟨by omega, by assumption, by rw [← hl184]; exact told_step (by omega) he_⟩, rfl⟩ (by omega))
        ·
         replace h176 : ¬ ((js_ : Int) < ((n1m_ : Nat) : Int)) := of_decide_eq_false h176
         have hF1_ : e_ = xsr_ := (told_all (by omega) (fun j_ h_ => he_ j_ (by omega))).trans (asc_plays hPm_ (hsp_.trans (by rw [← hl172]; exact List.Perm.refl _)) hsa_)
         rw [hF1_]
         refine Rn 13 (.ex .ret) [] ⟨34, [(2, VL A174 n1m_ n1m_)], [(1700, ⟨87, [VL Cm_ n1m_ c1m_, I7 qm_]⟩), (1701, ⟨87, [VL none 0 0, I7 qy_]⟩)]⟩ ?_
         refine fin167 _ _ _ _ [.slice A174 n1m_ n1m_] [(700, ⟨87, [VL Cm_ n1m_ c1m_, I7 qm_]⟩), (701, ⟨87, [VL none 0 0, I7 qy_]⟩)] (.inl rfl) (by kernel_rfl) (by kernel_rfl) ?_
         refine Rn 3 (Qc B13 511) [] ⟨165, [(4, VB false), (5, .own 700 0), (6, .own 701 0), (7, VL Xr_ xsr_.length cxr_), (12, VL A174 n1m_ n1m_)], [(700, ⟨87, [VL Cm_ n1m_ c1m_, I7 qm_]⟩), (701, ⟨87, [VL none 0 0, I7 qy_]⟩)]⟩ ?_
         refine X.tellR [19, 600] (R' := [(19, RR 27 4 A174 n1m_ n1m_ (xsr_.flatMap evC)), (600, RR 89 5 Cm_ n1m_ c1m_ (l1m_.flatMap itC))]) rfl ?_
         exact hY68 _ _ _ ⟨A174, n1m_, rfl, rfl, (Ge.refl _ _), trivial⟩
   ·
    refine X.inline (f := 48) (l := [.own 1701 0]) (fn := Try.f48) (c := B48) (by kernel_rfl) (by kernel_rfl) Try.func48 (by kernel_rfl) ?_
    intro Q185 M185 hM185 hQ185 fin185
    refine Rn 9 (Qo B48 12 1) [Qs B48 13, Qs B48 7] ⟨34, [(0, .own 2701 0), (2, VL none 0 0), (7, .own 2701 0)], [(2700, ⟨87, [VL Cx_ n1x_ c1x_, I7 qx_]⟩), (2701, ⟨87, [VL Cy_ n1y_ c1y_, I7 qy_]⟩)]⟩ ?_
    refine X.inline (f := 17) (l := [.own 2701 0]) (fn := Try.f17) (c := B17) (by kernel_rfl) (by kernel_rfl) Try.func17 (by kernel_rfl) ?_
    intro Q186 M186 hM186 hQ186 fin186
    refine Rn 9 (Qo B17 12 1) [Qs B17 13, Qs B17 7] ⟨10, [(0, .own 3701 0), (2, I6 0), (3, .own 3701 0)], [(3700, ⟨87, [VL Cx_ n1x_ c1x_, I7 qx_]⟩), (3701, ⟨87, [VL Cy_ n1y_ c1y_, I7 qy_]⟩)]⟩ ?_
    refine X.eqOwnNil (t := 23) (t' := 23) (e := 87) (b := 3701) (off := 0) (x := .tmp 3) (y := .const (.pointer none)) (by kernel_rfl) (fun g => by kernel_rfl) (by kernel_rfl) (by kernel_rfl) (by kernel_rfl) (by kernel_rfl) ?_
    refine Rn 16 (.ex .ret) [] ⟨10, [(2, I6 ((n1y_ : Nat) : Int))], [(3700, ⟨87, [VL Cx_ n1x_ c1x_, I7 qx_]⟩), (3701, ⟨87, [VL Cy_ n1y_ c1y_, I7 qy_]⟩)]⟩ ?_
    refine fin186 _ _ _ _ [N6 ((n1y_ : Nat) : Int)] [(2700, ⟨87, [VL Cx_ n1x_ c1x_, I7 qx_]⟩), (2701, ⟨87, [VL Cy_ n1y_ c1y_, I7 qy_]⟩)] (.inl rfl) (by kernel_rfl) (by kernel_rfl) ?_
    refine Rn 3 (Qc B48 13) [Qs B48 7] ⟨34, [(0, .own 2701 0), (2, VL none 0 0), (9, VB (((n1y_ : Nat) : Int) == 0))], [(2700, ⟨87, [VL Cx_ n1x_ c1x_, I7 qx_]⟩), (2701, ⟨87, [VL Cy_ n1y_ c1y_, I7 qy_]⟩)]⟩ ?_
    refine X.split 9 rfl (fun h187 => ?_) (fun h187 => ?_)
    ·
     replace h187 : ((n1y_ : Nat) : Int) = 0 := by simpa using h187
     refine X.nilRow 19 27 4 rfl ?_
     refine Rn 8 (.ex .ret) [] ⟨34, [(2, VL none 0 0)], [(2700, ⟨87, [VL Cx_ n1x_ c1x_, I7 qx_]⟩), (2701, ⟨87, [VL Cy_ n1y_ c1y_, I7 qy_]⟩)]⟩ ?_
     refine fin185 _ _ _ _ [.slice none 0 0] [(1700, ⟨87, [VL Cx_ n1x_ c1x_, I7 qx_]⟩), (1701, ⟨87, [VL Cy_ n1y_ c1y_, I7 qy_]⟩)] (.inl rfl) (by kernel_rfl) (by kernel_rfl) ?_
     refine Rn 3 (Qc B47 15) [] ⟨36, [(0, .own 1700 0), (1, .own 1701 0), (4, I6 0), (5, VL none 0 0)], [(1700, ⟨87, [VL Cx_ n1x_ c1x_, I7 qx_]⟩), (1701, ⟨87, [VL Cy_ n1y_ c1y_, I7 qy_]⟩)]⟩ ?_
     have hE0_ : xsy_ = [] := List.length_eq_zero_iff.mp (by omega)
     have hE1_ : n1y_ = 0 := by omega
     refine X.tellR [19, 601, 600] (R' := [(19, RR 27 4 none n1y_ 0 (xsy_.flatMap evC)), (601, RR 89 5 Cy_ n1y_ c1y_ (l1y_.flatMap itC)), (600, RR 89 5 Cx_ n1x_ c1x_ (l1x_.flatMap itC))]) (congrArg (fun r_ : Row => (19, r_) :: [(601, RR 89 5 Cy_ n1y_ c1y_ (l1y_.flatMap itC)), (600, RR 89 5 Cx_ n1x_ c1x_ (l1x_.flatMap itC))]) (show (RR 27 4 none 0 0 [] : Row) = (RR 27 4 none n1y_ 0 (xsy_.flatMap evC)) by rw [hE0_, hE1_] <;> rfl)) ?_
     refine X.castS ⟨36, [(0, .own 1700 0), (1, .own 1701 0), (4, I6 0), (5, VL none n1y_ 0)], [(1700, ⟨87, [VL Cx_ n1x_ c1x_, I7 qx_]⟩), (1701, ⟨87, [VL Cy_ n1y_ c1y_, I7 qy_]⟩)]⟩ (congrArg (fun z_ : Nat => (⟨36, [(0, .own 1700 0), (1, .own 1701 0), (4, I6 0), (5, VL none z_ 0)], [(1700, ⟨87, [VL Cx_ n1x_ c1x_, I7 qx_]⟩), (1701, ⟨87, [VL Cy_ n1y_ c1y_, I7 qy_]⟩)]⟩ : S)) hE1_.symm) ?_
     exact hY8 _ _ _ ⟨none, 0, rfl, rfl, (Ge.refl _ _), trivial⟩
    ·
     replace h187 : ((n1y_ : Nat) : Int) ≠ 0 := by simpa using h187
     refine Rn 9 (Qo B48 14 4) [Qs B48 15] ⟨34, [(2, VL none 0 0), (13, VL Cy_ n1y_ c1y_)], [(2700, ⟨87, [VL Cx_ n1x_ c1x_, I7 qx_]⟩), (2701, ⟨87, [VL Cy_ n1y_ c1y_, I7 qy_]⟩)]⟩ ?_
     refine X.rowIs (i := 601) (q := (RR 89 5 Cy_ n1y_ c1y_ (l1y_.flatMap itC))) (n := n1y_) (c := c1y_) (A := Cy_) rfl rfl rfl (by omega) ?_
     intro hsome_
     refine X.inline (f := 75) (l := [VL Cy_ n1y_ c1y_]) (fn := Try.f75) (c := B75) (by kernel_rfl) (by kernel_rfl) Try.func75 (by kernel_rfl) ?_
     intro Q188 M188 hM188 hQ188 fin188
     refine Rn 9 (Qo B75 12 1) [Qs B75 13, Qs B75 7] ⟨8, [(0, VL Cy_ n1y_ c1y_), (2, VL none 0 0), (3, VL Cy_ n1y_ c1y_)], [(3700, ⟨87, [VL Cx_ n1x_ c1x_, I7 qx_]⟩), (3701, ⟨87, [VL Cy_ n1y_ c1y_, I7 qy_]⟩)]⟩ ?_
     refine X.eqNil (t := 84) (t' := 84) (e := 89) (n := n1y_) (c := c1y_) (A := Cy_) (x := .tmp 3) (y := .const (.slice none 0 0)) (by kernel_rfl) (by kernel_rfl) (by kernel_rfl) (by kernel_rfl) (by kernel_rfl) (by kernel_rfl) ?_
     refine Rn 2 (Qc B75 13) [Qs B75 7] ⟨8, [(0, VL Cy_ n1y_ c1y_), (2, VL none 0 0), (4, VB Cy_.isNone)], [(3700, ⟨87, [VL Cx_ n1x_ c1x_, I7 qx_]⟩), (3701, ⟨87, [VL Cy_ n1y_ c1y_, I7 qy_]⟩)]⟩ ?_
     refine X.isFalse 4 rfl (hsome_) ?_
     refine Rn 5 (Qo B75 14 0) [Qs B75 15] ⟨8, [(0, VL Cy_ n1y_ c1y_), (2, VL none 0 0)], [(3700, ⟨87, [VL Cx_ n1x_ c1x_, I7 qx_]⟩), (3701, ⟨87, [VL Cy_ n1y_ c1y_, I7 qy_]⟩)]⟩ ?_
     refine Lt 5 89 5 0 [] ?_
     intro A189
     refine Rn 1 (Qo B75 14 2) [Qs B75 15] ⟨8, [(2, VL none 0 0), (5, VL A189 0 0), (6, VL Cy_ n1y_ c1y_)], [(3700, ⟨87, [VL Cx_ n1x_ c1x_, I7 qx_]⟩), (3701, ⟨87, [VL Cy_ n1y_ c1y_, I7 qy_]⟩)]⟩ ?_
     refine Ap 5 (RR 89 5 A189 0 0 []) 84 40 (.agg #[N6 0, N6 0, N6 0, N6 0, N7 0]) (.tmp 5) (.tmp 6) 0 0 n1y_ c1y_ A189 Cy_ (l1y_.flatMap itC) (.inl rfl) (by rw [flat_len itC_len, hln1y_]) (At.of_row (i := 601) (r := (RR 89 5 Cy_ n1y_ c1y_ (l1y_.flatMap itC))) rfl rfl) (fun w hw e => absurd (rowSome (i := 601) (q := (RR 89 5 Cy_ n1y_ c1y_ (l1y_.flatMap itC))) rfl rfl (flat_pos itC_len (by decide) (by omega)) w hw) (by rw [e]; decide)) ones_it (by omega) ?_
     intro A190 c190 hc190
     rw [Nat.zero_add]
     refine X.tellR [5, 601, 600] (R' := [(5, RR 89 5 A190 n1y_ c190 (([] ++ l1y_).flatMap itC)), (601, RR 89 5 Cy_ n1y_ c1y_ (l1y_.flatMap itC)), (600, RR 89 5 Cx_ n1x_ c1x_ (l1x_.flatMap itC))]) (congrArg (fun cs_ => (5, (RR 89 5 A190 n1y_ c190 cs_ : Row)) :: [(601, RR 89 5 Cy_ n1y_ c1y_ (l1y_.flatMap itC)), (600, RR 89 5 Cx_ n1x_ c1x_ (l1x_.flatMap itC))]) (show [] ++ (l1y_.flatMap itC) = ([] ++ l1y_).flatMap itC by simp)) ?_
     obtain ⟨l190, hl190⟩ : ∃ z_, ([] ++ l1y_) = z_ := ⟨_, rfl⟩
     rw [hl190]
     have hn190 : l190.length = n1y_ := by rw [← hl190, List.length_append, hln1y_]; simp
     refine Rn 4 (.ex .ret) [] ⟨8, [(2, VL A190 n1y_ c190)], [(3700, ⟨87, [VL Cx_ n1x_ c1x_, I7 qx_]⟩), (3701, ⟨87, [VL Cy_ n1y_ c1y_, I7 qy_]⟩)]⟩ ?_
     refine fin188 _ _ _ _ [.slice A190 n1y_ c190] [(2700, ⟨87, [VL Cx_ n1x_ c1x_, I7 qx_]⟩), (2701, ⟨87, [VL Cy_ n1y_ c1y_, I7 qy_]⟩)] (.inl rfl) (by kernel_rfl) (by kernel_rfl) ?_
     refine Rn 6 (Qo B48 30 1) [Qs B48 31] ⟨34, [(2, VL none 0 0), (3, VL A190 n1y_ c190), (15, VL A190 n1y_ c190)], [(2700, ⟨87, [VL Cx_ n1x_ c1x_, I7 qx_]⟩), (2701, ⟨87, [VL Cy_ n1y_ c1y_, I7 qy_]⟩)]⟩ ?_
     refine X.callR (f := 76) (l := [VL A190 n1y_ c190, .fn 77 []]) 5 (q := (RR 89 5 A190 n1y_ c190 (l190.flatMap itC))) (by kernel_rfl) rfl (by kernel_rfl) rfl (Sort76_ok A190 n1y_ c190 l190 _ (hn190) (by omega) (by omega)) ?_
     rintro _ _ ⟨rfl, s1_, hsp_, hsa_, rfl⟩
     refine X.tellR [5, 601, 600] (R' := [(5, RR 89 5 A190 n1y_ c190 (s1_.flatMap itC)), (601, RR 89 5 Cy_ n1y_ c1y_ (l1y_.flatMap itC)), (600, RR 89 5 Cx_ n1x_ c1x_ (l1x_.flatMap itC))]) rfl ?_
     have hsn_ : s1_.length = n1y_ := hsp_.length_eq.trans (hn190)
     refine Rn 6 (Qo B48 62 2) [Qs B48 63] ⟨34, [(2, VL none 0 0), (3, VL A190 n1y_ c190), (18, I6 ((n1y_ : Nat) : Int))], [(2700, ⟨87, [VL Cx_ n1x_ c1x_, I7 qx_]⟩), (2701, ⟨87, [VL Cy_ n1y_ c1y_, I7 qy_]⟩)]⟩ ?_
     refine X.makeK (t := 80) (e := 27) (bytes := 32) (size := 4) 19 (.agg #[N6 0, N6 0, N6 0, N6 0]) evC ev0 (x := .tmp 18) (y := .tmp 18) (n := n1y_) (by kernel_rfl) (by kernel_rfl) (by kernel_rfl) (by kernel_rfl) (by kernel_rfl) rfl (by kernel_rfl) (by decide) (by kernel_rfl) (by omega) (by omega) (by omega) ?_
     intro A192
     refine X.tellR [19, 5, 601, 600] (R' := [(19, RR 27 4 A192 n1y_ n1y_ ((List.replicate n1y_ ev0).flatMap evC)), (5, RR 89 5 A190 n1y_ c190 (s1_.flatMap itC)), (601, RR 89 5 Cy_ n1y_ c1y_ (l1y_.flatMap itC)), (600, RR 89 5 Cx_ n1x_ c1x_ (l1x_.flatMap itC))]) rfl ?_
     refine Rn 12 (Qc B48 506) [.blk 0, Qs B48 127] ⟨34, [(2, VL none 0 0), (4, VL A192 n1y_ n1y_), (20, VL A190 n1y_ c190), (21, I6 ((n1y_ : Nat) : Int)), (22, I6 0)], [(2700, ⟨87, [VL Cx_ n1x_ c1x_, I7 qx_]⟩), (2701, ⟨87, [VL Cy_ n1y_ c1y_, I7 qy_]⟩)]⟩ ?_
     refine X.loopJ (fun m s R' G' => ∃ (js_ : Nat) (e_ : List Ev), s = ⟨34, [(2, VL none 0 0), (4, VL A192 n1y_ n1y_), (20, VL A190 n1y_ c190), (21, I6 ((n1y_ : Nat) : Int)), (22, I6 (js_ : Int))], [(2700, ⟨87, [VL Cx_ n1x_ c1x_, I7 qx_]⟩), (2701, ⟨87, [VL Cy_ n1y_ c1y_, I7 qy_]⟩)]⟩ ∧ R' = [(19, RR 27 4 A192 n1y_ n1y_ (e_.flatMap evC)), (5, RR 89 5 A190 n1y_ c190 (s1_.flatMap itC)), (601, RR 89 5 Cy_ n1y_ c1y_ (l1y_.flatMap itC)), (600, RR 89 5 Cx_ n1x_ c1x_ (l1x_.flatMap itC))] ∧ G4 = G' ∧ (js_ ≤ n1y_ ∧ e_.length = n1y_ ∧ ∀ j_, j_ < js_ → e_.getD j_ ev0 = evOf (at_ s1_ j_)) ∧ m = (n1y_ - js_)) _ ⟨0, (List.replicate n1y_ ev0), rfl, rfl, rfl, ⟨Nat.zero_le _, by first | assumption | simp, fun _ h_ => absurd h_ (Nat.not_lt_zero _)⟩, rfl⟩ ?_
     rintro m193 s193 R193 G193 ⟨js_, e_, rfl, rfl, rfl, hF193, rfl⟩ J193 hJ193
     obtain ⟨hjs_, hen_, he_⟩ := hF193
     refine Rn 6 (Qc B48 4050) [Qs B48 4051, .loop J193, .blk 0, Qs B48 127] ⟨34, [(2, VL none 0 0), (4, VL A192 n1y_ n1y_), (20, VL A190 n1y_ c190), (21, I6 ((n1y_ : Nat) : Int)), (22, I6 (js_ : Int)), (23, VB (decide ((js_ : Int) < ((n1y_ : Nat) : Int))))], [(2700, ⟨87, [VL Cx_ n1x_ c1x_, I7 qx_]⟩), (2701, ⟨87, [VL Cy_ n1y_ c1y_, I7 qy_]⟩)]⟩ ?_
     refine X.split 23 rfl (fun h194 => ?_) (fun h194 => ?_)
     ·
      replace h194 : (js_ : Int) < ((n1y_ : Nat) : Int) := of_decide_eq_true h194
      refine Rn 8 (Qo B48 32408 1) [Qs B48 32409, .blk 1, Qs B48 8103, .loop J193, .blk 0, Qs B48 127] ⟨34, [(2, VL none 0 0), (4, VL A192 n1y_ n1y_), (20, VL A190 n1y_ c190), (21, I6 ((n1y_ : Nat) : Int)), (22, I6 (js_ : Int)), (24, I6 (js_ : Int))], [(2700, ⟨87, [VL Cx_ n1x_ c1x_, I7 qx_]⟩), (2701, ⟨87, [VL Cy_ n1y_ c1y_, I7 qy_]⟩)]⟩ ?_
      have b195 : (0 : Int) ≤ (js_ : Int) := by omega
      have b196 : (js_ : Int) < ((n1y_ : Nat) : Int) := by omega
      refine Ix 84 89 5 A190 n1y_ c190 .i64 (js_ : Int) (.tmp 20) (.tmp 22) b195 b196 (rowSome (i := 5) (q := (RR 89 5 A190 n1y_ c190 (s1_.flatMap itC))) rfl rfl (flat_pos itC_len (by decide) (by rw [hsn_]; omega))) ?_
      have at197 : At G4 [(19, ⟨27, 4, .slice A192 n1y_ n1y_, n1y_, e_.flatMap evC⟩), (5, ⟨89, 5, .slice A190 n1y_ c190, n1y_, s1_.flatMap itC⟩), (601, ⟨89, 5, .slice Cy_ n1y_ c1y_, n1y_, l1y_.flatMap itC⟩), (600, ⟨89, 5, .slice Cx_ n1x_ c1x_, n1x_, l1x_.flatMap itC⟩)] A190 (((js_ : Int)).toNat * 5) [.int .i64 ((s1_.getD (((js_ : Int)).toNat) it0).1), .int .i64 ((s1_.getD (((js_ : Int)).toNat) it0).2.1), .int .i64 ((s1_.getD (((js_ : Int)).toNat) it0).2.2.1), .int .i64 ((s1_.getD (((js_ : Int)).toNat) it0).2.2.2.1), .int .u64 ((s1_.getD (((js_ : Int)).toNat) it0).2.2.2.2)] := At.rowF itC itC_len (i := 5) (r := ⟨89, 5, .slice A190 n1y_ c190, n1y_, s1_.flatMap itC⟩) it0 rfl rfl rfl (by rw [hsn_]; omega)
      have at198 : At G4 [(19, ⟨27, 4, .slice A192 n1y_ n1y_, n1y_, e_.flatMap evC⟩), (5, ⟨89, 5, .slice A190 n1y_ c190, n1y_, s1_.flatMap itC⟩), (601, ⟨89, 5, .slice Cy_ n1y_ c1y_, n1y_, l1y_.flatMap itC⟩), (600, ⟨89, 5, .slice Cx_ n1x_ c1x_, n1x_, l1x_.flatMap itC⟩)] A190 (((js_ : Int)).toNat * 5) [.int .i64 ((s1_.getD (((js_ : Int)).toNat) it0).1), .int .i64 ((s1_.getD (((js_ : Int)).toNat) it0).2.1), .int .i64 ((s1_.getD (((js_ : Int)).toNat) it0).2.2.1), .int .i64 ((s1_.getD (((js_ : Int)).toNat) it0).2.2.2.1), .int .u64 ((s1_.getD (((js_ : Int)).toNat) it0).2.2.2.2)] := At.rowF itC itC_len (i := 5) (r := ⟨89, 5, .slice A190 n1y_ c190, n1y_, s1_.flatMap itC⟩) it0 rfl rfl rfl (by rw [hsn_]; omega)
      refine Ld 89 A190 (((js_ : Int)).toNat * 5) (.tmp 25) (.agg #[N6 ((s1_.getD (((js_ : Int)).toNat) it0).1), N6 ((s1_.getD (((js_ : Int)).toNat) it0).2.1), N6 ((s1_.getD (((js_ : Int)).toNat) it0).2.2.1), N6 ((s1_.getD (((js_ : Int)).toNat) it0).2.2.2.1), N7 ((s1_.getD (((js_ : Int)).toNat) it0).2.2.2.2)]) [N6 ((s1_.getD (((js_ : Int)).toNat) it0).1), N6 ((s1_.getD (((js_ : Int)).toNat) it0).2.1), N6 ((s1_.getD (((js_ : Int)).toNat) it0).2.2.1), N6 ((s1_.getD (((js_ : Int)).toNat) it0).2.2.2.1), N7 ((s1_.getD (((js_ : Int)).toNat) it0).2.2.2.2)] at198 ?_
      refine Rn 10 (Qo B48 32409 4) [.blk 1, Qs B48 8103, .loop J193, .blk 0, Qs B48 127] ⟨34, [(2, VL none 0 0), (4, VL A192 n1y_ n1y_), (20, VL A190 n1y_ c190), (21, I6 ((n1y_ : Nat) : Int)), (22, I6 (js_ : Int)), (27, VL A192 n1y_ n1y_), (28, I6 (js_ : Int)), (30, .v (.agg #[N6 ((s1_.getD (((js_ : Int)).toNat) it0).1), N6 ((s1_.getD (((js_ : Int)).toNat) it0).2.1), N6 ((s1_.getD (((js_ : Int)).toNat) it0).2.2.1), N6 ((s1_.getD (((js_ : Int)).toNat) it0).2.2.2.1)]))], [(2700, ⟨87, [VL Cx_ n1x_ c1x_, I7 qx_]⟩), (2701, ⟨87, [VL Cy_ n1y_ c1y_, I7 qy_]⟩)]⟩ ?_
      have b199 : (0 : Int) ≤ (js_ : Int) := by omega
      have b200 : (js_ : Int) < ((n1y_ : Nat) : Int) := by omega
      refine Ix 80 27 4 A192 n1y_ n1y_ .i64 (js_ : Int) (.tmp 27) (.tmp 28) b199 b200 (rowSome (i := 19) (q := (RR 27 4 A192 n1y_ n1y_ (e_.flatMap evC))) rfl rfl (flat_pos evC_len (by decide) (by rw [hen_]; omega))) ?_
      have at201 : At G4 [(19, ⟨27, 4, .slice A192 n1y_ n1y_, n1y_, e_.flatMap evC⟩), (5, ⟨89, 5, .slice A190 n1y_ c190, n1y_, s1_.flatMap itC⟩), (601, ⟨89, 5, .slice Cy_ n1y_ c1y_, n1y_, l1y_.flatMap itC⟩), (600, ⟨89, 5, .slice Cx_ n1x_ c1x_, n1x_, l1x_.flatMap itC⟩)] A192 (((js_ : Int)).toNat * 4) [.int .i64 ((e_.getD (((js_ : Int)).toNat) ev0).1), .int .i64 ((e_.getD (((js_ : Int)).toNat) ev0).2.1), .int .i64 ((e_.getD (((js_ : Int)).toNat) ev0).2.2.1), .int .i64 ((e_.getD (((js_ : Int)).toNat) ev0).2.2.2)] := At.rowF evC evC_len (i := 19) (r := ⟨27, 4, .slice A192 n1y_ n1y_, n1y_, e_.flatMap evC⟩) ev0 rfl rfl rfl (by rw [hen_]; omega)
      refine Rn 0 (Qo B48 32409 5) [.blk 1, Qs B48 8103, .loop J193, .blk 0, Qs B48 127] ⟨34, [(2, VL none 0 0), (4, VL A192 n1y_ n1y_), (20, VL A190 n1y_ c190), (21, I6 ((n1y_ : Nat) : Int)), (22, I6 (js_ : Int)), (30, .v (.agg #[N6 ((s1_.getD (((js_ : Int)).toNat) it0).1), N6 ((s1_.getD (((js_ : Int)).toNat) it0).2.1), N6 ((s1_.getD (((js_ : Int)).toNat) it0).2.2.1), N6 ((s1_.getD (((js_ : Int)).toNat) it0).2.2.2.1)])), (31, .v (elt A192 (((js_ : Int)).toNat * 4)))], [(2700, ⟨87, [VL Cx_ n1x_ c1x_, I7 qx_]⟩), (2701, ⟨87, [VL Cy_ n1y_ c1y_, I7 qy_]⟩)]⟩ ?_
      refine X.storeElem (i := 19) (t := 27) (j := ((js_ : Int)).toNat * 4) (n := n1y_) (c := n1y_) (q := (RR 27 4 A192 n1y_ n1y_ (e_.flatMap evC))) (A := A192) (x := .tmp 31) (y := .tmp 30) (z := .agg #[N6 ((s1_.getD (((js_ : Int)).toNat) it0).1), N6 ((s1_.getD (((js_ : Int)).toNat) it0).2.1), N6 ((s1_.getD (((js_ : Int)).toNat) it0).2.2.1), N6 ((s1_.getD (((js_ : Int)).toNat) it0).2.2.2.1)]) (by kernel_rfl) (by kernel_rfl) (by kernel_rfl) rfl rfl (by kernel_rfl) (by rw [show _ = _ from flat_len evC_len _, hen_]; show ((js_ : Int)).toNat * 4 + 4 ≤ _; omega) (by kernel_rfl) (Nat.succ_pos _) (by kernel_rfl) ?_
      refine X.tellR [19, 5, 601, 600] (R' := [(19, RR 27 4 A192 n1y_ n1y_ ((e_.set (((js_ : Int)).toNat) ((s1_.getD (((js_ : Int)).toNat) it0).1, (s1_.getD (((js_ : Int)).toNat) it0).2.1, (s1_.getD (((js_ : Int)).toNat) it0).2.2.1, (s1_.getD (((js_ : Int)).toNat) it0).2.2.2.1)).flatMap evC)), (5, RR 89 5 A190 n1y_ c190 (s1_.flatMap itC)), (601, RR 89 5 Cy_ n1y_ c1y_ (l1y_.flatMap itC)), (600, RR 89 5 Cx_ n1x_ c1x_ (l1x_.flatMap itC))]) (congrArg (fun cs_ => (19, (RR 27 4 A192 n1y_ n1y_ cs_ : Row)) :: [(5, RR 89 5 A190 n1y_ c190 (s1_.flatMap itC)), (601, RR 89 5 Cy_ n1y_ c1y_ (l1y_.flatMap itC)), (600, RR 89 5 Cx_ n1x_ c1x_ (l1x_.flatMap itC))]) (splice_flat evC_len (((s1_.getD (((js_ : Int)).toNat) it0).1, (s1_.getD (((js_ : Int)).toNat) it0).2.1, (s1_.getD (((js_ : Int)).toNat) it0).2.2.1, (s1_.getD (((js_ : Int)).toNat) it0).2.2.2.1) : Ev) e_ (((js_ : Int)).toNat) (by rw [hen_]; omega))) ?_
      obtain ⟨l202, hl202⟩ : ∃ z_, (e_.set (((js_ : Int)).toNat) ((s1_.getD (((js_ : Int)).toNat) it0).1, (s1_.getD (((js_ : Int)).toNat) it0).2.1, (s1_.getD (((js_ : Int)).toNat) it0).2.2.1, (s1_.getD (((js_ : Int)).toNat) it0).2.2.2.1)) = z_ := ⟨_, rfl⟩
      rw [hl202]
      have hn202 : l202.length = n1y_ := by rw [← hl202, List.length_set, hen_]
      refine Rn 5 (Qo B48 8103 1) [.loop J193, .blk 0, Qs B48 127] ⟨34, [(2, VL none 0 0), (4, VL A192 n1y_ n1y_), (20, VL A190 n1y_ c190), (21, I6 ((n1y_ : Nat) : Int)), (22, I6 (js_ : Int)), (32, I6 (IntKind.i64.wrap ((js_ : Int) + 1)))], [(2700, ⟨87, [VL Cx_ n1x_ c1x_, I7 qx_]⟩), (2701, ⟨87, [VL Cy_ n1y_ c1y_, I7 qy_]⟩)]⟩ ?_
      refine Kn 32 .i64 ((js_ : Int) + 1) rfl (wi64 (by omega) (by omega)) ?_
      refine Rn 2 (.ex .normal) [.loop J193, .blk 0, Qs B48 127] ⟨34, [(2, VL none 0 0), (4, VL A192 n1y_ n1y_), (20, VL A190 n1y_ c190), (21, I6 ((n1y_ : Nat) : Int)), (22, I6 ((js_ : Int) + 1))], [(2700, ⟨87, [VL Cx_ n1x_ c1x_, I7 qx_]⟩), (2701, ⟨87, [VL Cy_ n1y_ c1y_, I7 qy_]⟩)]⟩ ?_
      exact X.again (hJ193 _ _ _ _ ⟨(js_ + 1), l202, rfl, rfl, rfl, ⟨by omega, by assumption, by rw [← hl202]; exact told_step (by omega) he_⟩, rfl⟩ (by omega))
     ·
      replace h194 : ¬ ((js_ : Int) < ((n1y_ : Nat) : Int)) := of_decide_eq_false h194
      have hF1_ : e_ = xsy_ := (told_all (by omega) (fun j_ h_ => he_ j_ (by omega))).trans (asc_plays hPy_ (hsp_.trans (by rw [← hl190]; exact List.Perm.refl _)) hsa_)
      rw [hF1_]
      refine Rn 13 (.ex .ret) [] ⟨34, [(2, VL A192 n1y_ n1y_)], [(2700, ⟨87, [VL Cx_ n1x_ c1x_, I7 qx_]⟩), (2701, ⟨87, [VL Cy_ n1y_ c1y_, I7 qy_]⟩)]⟩ ?_
      refine fin185 _ _ _ _ [.slice A192 n1y_ n1y_] [(1700, ⟨87, [VL Cx_ n1x_ c1x_, I7 qx_]⟩), (1701, ⟨87, [VL Cy_ n1y_ c1y_, I7 qy_]⟩)] (.inl rfl) (by kernel_rfl) (by kernel_rfl) ?_
      refine Rn 3 (Qc B47 15) [] ⟨36, [(0, .own 1700 0), (1, .own 1701 0), (4, I6 0), (5, VL A192 n1y_ n1y_)], [(1700, ⟨87, [VL Cx_ n1x_ c1x_, I7 qx_]⟩), (1701, ⟨87, [VL Cy_ n1y_ c1y_, I7 qy_]⟩)]⟩ ?_
      refine X.tellR [19, 601, 600] (R' := [(19, RR 27 4 A192 n1y_ n1y_ (xsy_.flatMap evC)), (601, RR 89 5 Cy_ n1y_ c1y_ (l1y_.flatMap itC)), (600, RR 89 5 Cx_ n1x_ c1x_ (l1x_.flatMap itC))]) rfl ?_
      exact hY8 _ _ _ ⟨A192, n1y_, rfl, rfl, (Ge.refl _ _), trivial⟩
  ·
   refine Rn 8 (Qo B13 2000 5) [Qs B13 2001, Qs B13 1001, .loop J4, .blk 2, Qs B13 63] ⟨165, [(1, VL A2 eb.length d), (4, VB false), (5, .own 700 0), (6, .own 701 0), (7, VL Xx_ xsx_.length cxx_), (8, VL Xy_ xsy_.length cxy_), (10, I6 (ib_ : Int)), (46, VB (decide ((ib_ : Int) < (eb.length : Int))))], [(700, ⟨87, [VL Cx_ n1x_ c1x_, I7 qx_]⟩), (701, ⟨87, [VL Cy_ n1y_ c1y_, I7 qy_]⟩)]⟩ ?_
   refine X.split 46 rfl (fun h203 => ?_) (fun h203 => ?_)
   ·
    replace h203 : (ib_ : Int) < ((eb.length : Nat) : Int) := of_decide_eq_true h203
    refine Rn 5 (Qc B13 2001) [Qs B13 1001, .loop J4, .blk 2, Qs B13 63] ⟨165, [(1, VL A2 eb.length d), (4, VB false), (5, .own 700 0), (6, .own 701 0), (7, VL Xx_ xsx_.length cxx_), (8, VL Xy_ xsy_.length cxy_), (10, I6 (ib_ : Int)), (49, VB (decide ((ib_ : Int) < 50)))], [(700, ⟨87, [VL Cx_ n1x_ c1x_, I7 qx_]⟩), (701, ⟨87, [VL Cy_ n1y_ c1y_, I7 qy_]⟩)]⟩ ?_
    refine X.split 49 rfl (fun h204 => ?_) (fun h204 => ?_)
    ·
     replace h204 : (ib_ : Int) < 50 := of_decide_eq_true h204
     refine Rn 10 (Qo B13 8008 3) [Qs B13 8009, .blk 3, Qs B13 2003, .loop J4, .blk 2, Qs B13 63] ⟨165, [(1, VL A2 eb.length d), (4, VB false), (5, .own 700 0), (6, .own 701 0), (7, VL Xx_ xsx_.length cxx_), (8, VL Xy_ xsy_.length cxy_), (10, I6 (ib_ : Int)), (52, .own 701 0), (53, VL A2 eb.length d), (54, I6 (ib_ : Int))], [(700, ⟨87, [VL Cx_ n1x_ c1x_, I7 qx_]⟩), (701, ⟨87, [VL Cy_ n1y_ c1y_, I7 qy_]⟩)]⟩ ?_
     have b205 : (0 : Int) ≤ (ib_ : Int) := by omega
     have b206 : (ib_ : Int) < ((eb.length : Nat) : Int) := by omega
     refine Ix 80 27 4 A2 eb.length d .i64 (ib_ : Int) (.tmp 53) (.tmp 54) b205 b206 (fun _ _ => rowAt.so hrb (by omega)) ?_
     have at207 := At.ev [(601, ⟨89, 5, .slice Cy_ n1y_ c1y_, n1y_, l1y_.flatMap itC⟩), (600, ⟨89, 5, .slice Cx_ n1x_ c1x_, n1x_, l1x_.flatMap itC⟩)] hrb (((ib_ : Int)).toNat) (by omega)
     simp only [evC] at at207
     refine Rn 0 (Qo B13 8008 4) [Qs B13 8009, .blk 3, Qs B13 2003, .loop J4, .blk 2, Qs B13 63] ⟨165, [(1, VL A2 eb.length d), (4, VB false), (5, .own 700 0), (6, .own 701 0), (7, VL Xx_ xsx_.length cxx_), (8, VL Xy_ xsy_.length cxy_), (10, I6 (ib_ : Int)), (52, .own 701 0), (55, .v (elt A2 (((ib_ : Int)).toNat * 4)))], [(700, ⟨87, [VL Cx_ n1x_ c1x_, I7 qx_]⟩), (701, ⟨87, [VL Cy_ n1y_ c1y_, I7 qy_]⟩)]⟩ ?_
     refine Ld 27 A2 (((ib_ : Int)).toNat * 4) (.tmp 55) (.agg #[N6 ((eb.getD (((ib_ : Int)).toNat) ev0).1), N6 ((eb.getD (((ib_ : Int)).toNat) ev0).2.1), N6 ((eb.getD (((ib_ : Int)).toNat) ev0).2.2.1), N6 ((eb.getD (((ib_ : Int)).toNat) ev0).2.2.2)]) [N6 ((eb.getD (((ib_ : Int)).toNat) ev0).1), N6 ((eb.getD (((ib_ : Int)).toNat) ev0).2.1), N6 ((eb.getD (((ib_ : Int)).toNat) ev0).2.2.1), N6 ((eb.getD (((ib_ : Int)).toNat) ev0).2.2.2)] at207 ?_
     refine Rn 0 (Qo B13 8008 5) [Qs B13 8009, .blk 3, Qs B13 2003, .loop J4, .blk 2, Qs B13 63] ⟨165, [(1, VL A2 eb.length d), (4, VB false), (5, .own 700 0), (6, .own 701 0), (7, VL Xx_ xsx_.length cxx_), (8, VL Xy_ xsy_.length cxy_), (10, I6 (ib_ : Int)), (52, .own 701 0), (56, .v (.agg #[N6 ((eb.getD (((ib_ : Int)).toNat) ev0).1), N6 ((eb.getD (((ib_ : Int)).toNat) ev0).2.1), N6 ((eb.getD (((ib_ : Int)).toNat) ev0).2.2.1), N6 ((eb.getD (((ib_ : Int)).toNat) ev0).2.2.2)]))], [(700, ⟨87, [VL Cx_ n1x_ c1x_, I7 qx_]⟩), (701, ⟨87, [VL Cy_ n1y_ c1y_, I7 qy_]⟩)]⟩ ?_
     refine X.inline (f := 15) (l := [.own 701 0, .v (.agg #[N6 ((eb.getD (((ib_ : Int)).toNat) ev0).1), N6 ((eb.getD (((ib_ : Int)).toNat) ev0).2.1), N6 ((eb.getD (((ib_ : Int)).toNat) ev0).2.2.1), N6 ((eb.getD (((ib_ : Int)).toNat) ev0).2.2.2)])]) (fn := Try.f15) (c := B15) (by kernel_rfl) (by kernel_rfl) Try.func15 (by kernel_rfl) ?_
     intro Q208 M208 hM208 hQ208 fin208
     refine Rn 9 (Qo B15 12 1) [Qs B15 13, Qs B15 7] ⟨36, [(0, .own 1701 0), (3, .own 3 0), (4, .own 1701 0)], [(3, ⟨27, [I6 ((eb.getD (((ib_ : Int)).toNat) ev0).1), I6 ((eb.getD (((ib_ : Int)).toNat) ev0).2.1), I6 ((eb.getD (((ib_ : Int)).toNat) ev0).2.2.1), I6 ((eb.getD (((ib_ : Int)).toNat) ev0).2.2.2)]⟩), (1700, ⟨87, [VL Cx_ n1x_ c1x_, I7 qx_]⟩), (1701, ⟨87, [VL Cy_ n1y_ c1y_, I7 qy_]⟩)]⟩ ?_
     refine X.eqOwnNil (t := 23) (t' := 23) (e := 87) (b := 1701) (off := 0) (x := .tmp 4) (y := .const (.pointer none)) (by kernel_rfl) (fun g => by kernel_rfl) (by kernel_rfl) (by kernel_rfl) (by kernel_rfl) (by kernel_rfl) ?_
     refine Rn 6 (Qc B15 14) [Qs B15 15] ⟨36, [(0, .own 1701 0), (3, .own 3 0)], [(3, ⟨27, [I6 ((eb.getD (((ib_ : Int)).toNat) ev0).1), I6 ((eb.getD (((ib_ : Int)).toNat) ev0).2.1), I6 ((eb.getD (((ib_ : Int)).toNat) ev0).2.2.1), I6 ((eb.getD (((ib_ : Int)).toNat) ev0).2.2.2)]⟩), (1700, ⟨87, [VL Cx_ n1x_ c1x_, I7 qx_]⟩), (1701, ⟨87, [VL Cy_ n1y_ c1y_, I7 qy_]⟩)]⟩ ?_
     have hra_d209 := hra
     have hrb_d209 := hrb
     have hrxx__d209 := hrxx_
     have hrxy__d209 := hrxy_
     refine Og 2 B15 14 16 [⟨some 0, 1701, 87, [VL Cy_ n1y_ c1y_, I7 qy_]⟩, ⟨some 3, 3, 27, [I6 ((eb.getD (((ib_ : Int)).toNat) ev0).1), I6 ((eb.getD (((ib_ : Int)).toNat) ev0).2.1), I6 ((eb.getD (((ib_ : Int)).toNat) ev0).2.2.1), I6 ((eb.getD (((ib_ : Int)).toNat) ev0).2.2.2)]⟩] [] [15] ⟨⟨fun _ h => (by cases h; rfl), rfl⟩, ⟨fun _ h => (by cases h; rfl), rfl⟩, trivial⟩ (by intro p hp hn; simp only [List.mem_cons, List.not_mem_nil, or_false] at hp; rcases hp with rfl | rfl <;> first | (cases hn; done) | exact hM208 _ (Nat.le_of_ble_eq_true rfl)) (fun ρ0 => ?_)
     refine Tk 0 16 1 B15 14 (.own 1701 0) hQ208 ?_
     refine Tk 1 16 3 B15 14 (.own 1701 0) hQ208 ?_
     refine XD.nilOwn (i := 2) (l' := (lb 16 7)) (oA B15 (pa 14) 2) (x := .tmp 7) (b := 1701) (off := 0) hQ208 (by kernel_rfl) (by kernel_rfl) (by kernel_rfl) (by kernel_rfl) (by kernel_rfl) (by kernel_rfl) ?_
     refine Tk 3 16 15 B15 14 (.own 1701 0) hQ208 ?_
     refine Tk 4 16 31 B15 14 (VL Cy_ n1y_ c1y_) hQ208 ?_
     refine Tk 5 16 63 B15 14 (.v (.agg #[N6 ((eb.getD (((ib_ : Int)).toNat) ev0).1), N6 ((eb.getD (((ib_ : Int)).toNat) ev0).2.1), N6 ((eb.getD (((ib_ : Int)).toNat) ev0).2.2.1), N6 ((eb.getD (((ib_ : Int)).toNat) ev0).2.2.2)])) hQ208 ?_
     refine Tk 6 16 127 B15 14 (.own 1701 0) hQ208 ?_
     refine XD.nilOwn (i := 7) (l' := (lb 16 255)) (oA B15 (pa 14) 7) (x := .tmp 12) (b := 1701) (off := 0) hQ208 (by kernel_rfl) (by kernel_rfl) (by kernel_rfl) (by kernel_rfl) (by kernel_rfl) (by kernel_rfl) ?_
     refine Ts [8, 9, 10] 16 2047 5 8 hQ208 ?_
     refine Dn ⟨36, [(0, .own 1701 0), (3, .own 3 0), (6, .own 1701 0), (10, VL Cy_ n1y_ c1y_), (16, .v (.agg #[N6 ((eb.getD (((ib_ : Int)).toNat) ev0).1), N6 ((eb.getD (((ib_ : Int)).toNat) ev0).2.1), N6 ((eb.getD (((ib_ : Int)).toNat) ev0).2.2.1), N6 ((eb.getD (((ib_ : Int)).toNat) ev0).2.2.2), N7 qy_]))], [(3, ⟨27, [I6 ((eb.getD (((ib_ : Int)).toNat) ev0).1), I6 ((eb.getD (((ib_ : Int)).toNat) ev0).2.1), I6 ((eb.getD (((ib_ : Int)).toNat) ev0).2.2.1), I6 ((eb.getD (((ib_ : Int)).toNat) ev0).2.2.2)]⟩), (1700, ⟨87, [VL Cx_ n1x_ c1x_, I7 qx_]⟩), (1701, ⟨87, [VL Cy_ n1y_ c1y_, I7 qy_]⟩)]⟩ ⟨⟨fun _ h => (by cases h; rfl), rfl⟩, ⟨fun _ h => (by cases h; rfl), rfl⟩, trivial⟩ ?_
     refine Do 11 16 4095 B15 14 ?_
     refine Lt 17 89 5 1 [N6 ((eb.getD (((ib_ : Int)).toNat) ev0).1), N6 ((eb.getD (((ib_ : Int)).toNat) ev0).2.1), N6 ((eb.getD (((ib_ : Int)).toNat) ev0).2.2.1), N6 ((eb.getD (((ib_ : Int)).toNat) ev0).2.2.2), N7 qy_] ?_
     intro A210
     refine X.back ⟨⟨⟨fun _ h => (by cases h; rfl), rfl⟩, ⟨fun _ h => (by cases h; rfl), rfl⟩, trivial⟩, Le.refl _, rfl, ?_⟩
     refine Dn ⟨36, [(0, .own 1701 0), (3, .own 3 0), (6, .own 1701 0), (10, VL Cy_ n1y_ c1y_), (17, VL A210 1 1)], [(3, ⟨27, [I6 ((eb.getD (((ib_ : Int)).toNat) ev0).1), I6 ((eb.getD (((ib_ : Int)).toNat) ev0).2.1), I6 ((eb.getD (((ib_ : Int)).toNat) ev0).2.2.1), I6 ((eb.getD (((ib_ : Int)).toNat) ev0).2.2.2)]⟩), (1700, ⟨87, [VL Cx_ n1x_ c1x_, I7 qx_]⟩), (1701, ⟨87, [VL Cy_ n1y_ c1y_, I7 qy_]⟩)]⟩ ⟨⟨fun _ h => (by cases h; rfl), rfl⟩, ⟨fun _ h => (by cases h; rfl), rfl⟩, trivial⟩ ?_
     refine Do 12 16 8191 B15 14 ?_
     refine Ap 601 (RR 89 5 Cy_ n1y_ c1y_ (l1y_.flatMap itC)) 84 40 (.agg #[N6 0, N6 0, N6 0, N6 0, N7 0]) (.tmp 10) (.tmp 17) n1y_ c1y_ 1 1 Cy_ A210 [N6 ((eb.getD (((ib_ : Int)).toNat) ev0).1), N6 ((eb.getD (((ib_ : Int)).toNat) ev0).2.1), N6 ((eb.getD (((ib_ : Int)).toNat) ev0).2.2.1), N6 ((eb.getD (((ib_ : Int)).toNat) ev0).2.2.2), N7 qy_] (.inl rfl) (by kernel_rfl) (At.of_row (i := 17) (r := (RR 89 5 A210 1 1 [N6 ((eb.getD (((ib_ : Int)).toNat) ev0).1), N6 ((eb.getD (((ib_ : Int)).toNat) ev0).2.1), N6 ((eb.getD (((ib_ : Int)).toNat) ev0).2.2.1), N6 ((eb.getD (((ib_ : Int)).toNat) ev0).2.2.2), N7 qy_])) rfl rfl) (fun w hw e => absurd (rowSome (i := 17) (q := (RR 89 5 A210 1 1 [N6 ((eb.getD (((ib_ : Int)).toNat) ev0).1), N6 ((eb.getD (((ib_ : Int)).toNat) ev0).2.1), N6 ((eb.getD (((ib_ : Int)).toNat) ev0).2.2.1), N6 ((eb.getD (((ib_ : Int)).toNat) ev0).2.2.2), N7 qy_])) rfl rfl (Nat.succ_pos _) w hw) (by rw [e]; decide)) (ones (by kernel_rfl)) (by omega) ?_
     intro A211 c211 hc211
     refine X.tellR [601, 17, 600] (R' := [(601, RR 89 5 A211 (n1y_ + 1) c211 ((l1y_ ++ [((eb.getD (((ib_ : Int)).toNat) ev0).1, (eb.getD (((ib_ : Int)).toNat) ev0).2.1, (eb.getD (((ib_ : Int)).toNat) ev0).2.2.1, (eb.getD (((ib_ : Int)).toNat) ev0).2.2.2, qy_)]).flatMap itC)), (17, RR 89 5 A210 1 1 [N6 ((eb.getD (((ib_ : Int)).toNat) ev0).1), N6 ((eb.getD (((ib_ : Int)).toNat) ev0).2.1), N6 ((eb.getD (((ib_ : Int)).toNat) ev0).2.2.1), N6 ((eb.getD (((ib_ : Int)).toNat) ev0).2.2.2), N7 qy_]), (600, RR 89 5 Cx_ n1x_ c1x_ (l1x_.flatMap itC))]) (congrArg (fun cs_ => (601, (RR 89 5 A211 (n1y_ + 1) c211 cs_ : Row)) :: [(17, RR 89 5 A210 1 1 [N6 ((eb.getD (((ib_ : Int)).toNat) ev0).1), N6 ((eb.getD (((ib_ : Int)).toNat) ev0).2.1), N6 ((eb.getD (((ib_ : Int)).toNat) ev0).2.2.1), N6 ((eb.getD (((ib_ : Int)).toNat) ev0).2.2.2), N7 qy_]), (600, RR 89 5 Cx_ n1x_ c1x_ (l1x_.flatMap itC))]) (flat_snoc itC l1y_ (((eb.getD (((ib_ : Int)).toNat) ev0).1, (eb.getD (((ib_ : Int)).toNat) ev0).2.1, (eb.getD (((ib_ : Int)).toNat) ev0).2.2.1, (eb.getD (((ib_ : Int)).toNat) ev0).2.2.2, qy_) : Item))) ?_
     obtain ⟨l211, hl211⟩ : ∃ z_, (l1y_ ++ [((eb.getD (((ib_ : Int)).toNat) ev0).1, (eb.getD (((ib_ : Int)).toNat) ev0).2.1, (eb.getD (((ib_ : Int)).toNat) ev0).2.2.1, (eb.getD (((ib_ : Int)).toNat) ev0).2.2.2, qy_)]) = z_ := ⟨_, rfl⟩
     rw [hl211]
     have hn211 : l211.length = n1y_ + 1 := by rw [← hl211, List.length_append, hln1y_]; rfl
     refine X.back ⟨⟨⟨fun _ h => (by cases h; rfl), rfl⟩, ⟨fun _ h => (by cases h; rfl), rfl⟩, trivial⟩, Le.refl _, rfl, ?_⟩
     refine XD.nilOwn (i := 13) (l' := (lb 16 16383)) (oA B15 (pa 14) 13) (x := .tmp 6) (b := 1701) (off := 0) hQ208 (by kernel_rfl) (by kernel_rfl) (by kernel_rfl) (by kernel_rfl) (by kernel_rfl) (by kernel_rfl) ?_
     refine Ts [14] 16 32767 1 2 hQ208 ?_
     refine XD.toE ?_
     refine En ⟨36, [(0, .own 1701 0), (3, .own 3 0), (18, VL A211 (n1y_ + 1) c211), (20, .own 1701 0)], [(3, ⟨27, [I6 ((eb.getD (((ib_ : Int)).toNat) ev0).1), I6 ((eb.getD (((ib_ : Int)).toNat) ev0).2.1), I6 ((eb.getD (((ib_ : Int)).toNat) ev0).2.2.1), I6 ((eb.getD (((ib_ : Int)).toNat) ev0).2.2.2)]⟩), (1700, ⟨87, [VL Cx_ n1x_ c1x_, I7 qx_]⟩), (1701, ⟨87, [VL Cy_ n1y_ c1y_, I7 qy_]⟩)]⟩ ?_
     refine Eo 15 16 65535 B15 14 ?_
     refine X.simple (by kernel_rfl) ?_
     refine X.back ?_
     refine XE.done (by kernel_rfl) ?_
     refine Rn 8 (Qo B15 30 5) [Qs B15 31] ⟨36, [(0, .own 1701 0), (21, .own 1701 0), (25, I7 (IntKind.u64.wrap (qy_ + 1)))], [(1700, ⟨87, [VL Cx_ n1x_ c1x_, I7 qx_]⟩), (1701, ⟨87, [VL A211 (n1y_ + 1) c211, I7 qy_]⟩)]⟩ ?_
     refine Kn 25 .u64 (qy_ + 1) rfl (wu64 (by omega) (by omega)) ?_
     refine Rn 13 (Qo B15 31 7) [] ⟨36, [(28, .own 1701 0), (34, I6 (IntKind.i64.wrap (((n1y_ + 1 : Nat) : Int) - 1)))], [(1700, ⟨87, [VL Cx_ n1x_ c1x_, I7 qx_]⟩), (1701, ⟨87, [VL A211 (n1y_ + 1) c211, I7 (qy_ + 1)]⟩)]⟩ ?_
     refine Kn 34 .i64 (n1y_ : Int) rfl (by rw [wi64 (by omega) (by omega)]; omega) ?_
     refine X.inline (f := 49) (l := [.own 1701 0, I6 (n1y_ : Int)]) (fn := Try.f49) (c := B49) (by kernel_rfl) (by kernel_rfl) Try.func49 (by kernel_rfl) ?_
     intro Q212 M212 hM212 hQ212 fin212
     refine Rn 1 (Qc B49 2) [.blk 0] ⟨42, [(0, .own 2701 0), (1, I6 (n1y_ : Int))], [(2700, ⟨87, [VL Cx_ n1x_ c1x_, I7 qx_]⟩), (2701, ⟨87, [VL A211 (n1y_ + 1) c211, I7 (qy_ + 1)]⟩)]⟩ ?_
     refine X.loopJ (fun m s R' G' => ∃ (i2_ : Nat) (l2_ : List Item), s = ⟨42, [(0, .own 2701 0), (1, I6 (i2_ : Int))], [(2700, ⟨87, [VL Cx_ n1x_ c1x_, I7 qx_]⟩), (2701, ⟨87, [VL A211 (n1y_ + 1) c211, I7 (qy_ + 1)]⟩)]⟩ ∧ R' = [(601, RR 89 5 A211 (n1y_ + 1) c211 (l2_.flatMap itC)), (17, RR 89 5 A210 1 1 [N6 ((eb.getD (((ib_ : Int)).toNat) ev0).1), N6 ((eb.getD (((ib_ : Int)).toNat) ev0).2.1), N6 ((eb.getD (((ib_ : Int)).toNat) ev0).2.2.1), N6 ((eb.getD (((ib_ : Int)).toNat) ev0).2.2.2), N7 qy_]), (600, RR 89 5 Cx_ n1x_ c1x_ (l1x_.flatMap itC))] ∧ Ge G4 w.heap.size G' ∧ (i2_ < n1y_ + 1 ∧ l2_.length = n1y_ + 1 ∧ UpOk l2_ i2_ ∧ l2_.Perm l211) ∧ m = (i2_ + 1)) _ ⟨n1y_, l211, rfl, rfl, Ge.refl _ _, ⟨by omega, hn211, by rw [← hl211, ← hln1y_]; exact up_new hh1y_ _, List.Perm.refl _⟩, rfl⟩ ?_
     rintro m213 s213 R213 G213 ⟨i2_, l2_, rfl, rfl, hG213, hF213, rfl⟩ J213 hJ213
     replace hra := hra.mono hG213.le
     replace hrb := hrb.mono hG213.le
     replace hrxx_ := hrxx_.mono hG213.le
     replace hrxy_ := hrxy_.mono hG213.le
     obtain ⟨hi2_, hln2_, hup_, hpm_⟩ := hF213
     refine Rn 7 (Qc B49 17) [Qs B49 9, .loop J213, .blk 0] ⟨42, [(0, .own 2701 0), (1, I6 (i2_ : Int)), (6, VB (decide ((i2_ : Int) > 0)))], [(2700, ⟨87, [VL Cx_ n1x_ c1x_, I7 qx_]⟩), (2701, ⟨87, [VL A211 (n1y_ + 1) c211, I7 (qy_ + 1)]⟩)]⟩ ?_
     refine X.split 6 rfl (fun h214 => ?_) (fun h214 => ?_)
     ·
      replace h214 : (i2_ : Int) > 0 := of_decide_eq_true h214
      refine Rn 8 (Qo B49 36 2) [Qs B49 37, .blk 1, .loop J213, .blk 0] ⟨42, [(0, .own 2701 0), (1, I6 (i2_ : Int)), (8, I6 (IntKind.i64.wrap ((i2_ : Int) - 1)))], [(2700, ⟨87, [VL Cx_ n1x_ c1x_, I7 qx_]⟩), (2701, ⟨87, [VL A211 (n1y_ + 1) c211, I7 (qy_ + 1)]⟩)]⟩ ?_
      refine Kn 8 .i64 ((i2_ : Int) - 1) rfl (wi64 (by omega) (by omega)) ?_
      refine Rn 1 (Qo B49 36 3) [Qs B49 37, .blk 1, .loop J213, .blk 0] ⟨42, [(0, .own 2701 0), (1, I6 (i2_ : Int)), (9, I6 (IntKind.i64.wrap (Int.tdiv ((i2_ : Int) - 1) 2)))], [(2700, ⟨87, [VL Cx_ n1x_ c1x_, I7 qx_]⟩), (2701, ⟨87, [VL A211 (n1y_ + 1) c211, I7 (qy_ + 1)]⟩)]⟩ ?_
      refine Kn 9 .i64 (((i2_ - 1) / 2 : Nat) : Int) rfl (by rw [wdiv_i64 (by omega) (by omega) (by omega)]; omega) ?_
      refine Rn 9 (Qo B49 148 3) [Qs B49 149, Qs B49 75, .blk 1, .loop J213, .blk 0] ⟨42, [(0, .own 2701 0), (1, I6 (i2_ : Int)), (4, I6 (((i2_ - 1) / 2 : Nat) : Int)), (10, .own 2701 0), (11, I6 (i2_ : Int)), (12, I6 (((i2_ - 1) / 2 : Nat) : Int))], [(2700, ⟨87, [VL Cx_ n1x_ c1x_, I7 qx_]⟩), (2701, ⟨87, [VL A211 (n1y_ + 1) c211, I7 (qy_ + 1)]⟩)]⟩ ?_
      refine X.joinCG (Qc B49 149) [Qs B49 75, .blk 1, .loop J213, .blk 0] ⟨42, [(0, .own 2701 0), (1, I6 (i2_ : Int)), (4, I6 (((i2_ - 1) / 2 : Nat) : Int)), (14, VB (!(decide (ltI (l2_.getD ((i2_ : Int)).toNat it0) (l2_.getD ((((i2_ - 1) / 2 : Nat) : Int)).toNat it0)))))], [(2700, ⟨87, [VL Cx_ n1x_ c1x_, I7 qx_]⟩), (2701, ⟨87, [VL A211 (n1y_ + 1) c211, I7 (qy_ + 1)]⟩)]⟩ ?_ fun hY215 => ?_
      ·
       intro G215 hG215
       replace hra := hra.mono hG215.le
       replace hrb := hrb.mono hG215.le
       replace hrxx_ := hrxx_.mono hG215.le
       replace hrxy_ := hrxy_.mono hG215.le
       refine Rn 0 (Qc B49 149) [Qs B49 75, .blk 1, .loop J213, .blk 0] ⟨42, [(0, .own 2701 0), (1, I6 (i2_ : Int)), (4, I6 (((i2_ - 1) / 2 : Nat) : Int)), (14, VB (!(decide (ltI (l2_.getD ((i2_ : Int)).toNat it0) (l2_.getD ((((i2_ - 1) / 2 : Nat) : Int)).toNat it0)))))], [(2700, ⟨87, [VL Cx_ n1x_ c1x_, I7 qx_]⟩), (2701, ⟨87, [VL A211 (n1y_ + 1) c211, I7 (qy_ + 1)]⟩)]⟩ ?_
       refine X.split 14 rfl (fun h216 => ?_) (fun h216 => ?_)
       ·
        replace h216 : (decide (ltI (l2_.getD ((i2_ : Int)).toNat it0) (l2_.getD ((((i2_ - 1) / 2 : Nat) : Int)).toNat it0))) = false := by first | (simpa using h216; done) | (have h_ := congrArg (fun b_ => !b_) h216; simpa only [Bool.not_not, Bool.not_true, Bool.not_false] using h_)
        replace h216 : ¬ (ltI (l2_.getD ((i2_ : Int)).toNat it0) (l2_.getD ((((i2_ - 1) / 2 : Nat) : Int)).toNat it0)) := of_decide_eq_false h216
        have hh2_ : HeapFrom l2_ 0 := up_end hup_ (.inr h216)
        refine Rn 6 (.ex .ret) [] ⟨42, [], [(2700, ⟨87, [VL Cx_ n1x_ c1x_, I7 qx_]⟩), (2701, ⟨87, [VL A211 (n1y_ + 1) c211, I7 (qy_ + 1)]⟩)]⟩ ?_
        refine fin212 _ _ _ _ [] [(1700, ⟨87, [VL Cx_ n1x_ c1x_, I7 qx_]⟩), (1701, ⟨87, [VL A211 (n1y_ + 1) c211, I7 (qy_ + 1)]⟩)] (.inl rfl) (by kernel_rfl) (by kernel_rfl) ?_
        refine Rn 1 (.ex .normal) [] ⟨36, [], [(1700, ⟨87, [VL Cx_ n1x_ c1x_, I7 qx_]⟩), (1701, ⟨87, [VL A211 (n1y_ + 1) c211, I7 (qy_ + 1)]⟩)]⟩ ?_
        refine fin208 _ _ _ _ [] [(700, ⟨87, [VL Cx_ n1x_ c1x_, I7 qx_]⟩), (701, ⟨87, [VL A211 (n1y_ + 1) c211, I7 (qy_ + 1)]⟩)] (.inr rfl) (by kernel_rfl) (by kernel_rfl) ?_
        refine Rn 6 (Qo B13 8009 3) [.blk 3, Qs B13 2003, .loop J4, .blk 2, Qs B13 63] ⟨165, [(1, VL A2 eb.length d), (4, VB false), (5, .own 700 0), (6, .own 701 0), (7, VL Xx_ xsx_.length cxx_), (8, VL Xy_ xsy_.length cxy_), (10, I6 (ib_ : Int)), (58, VL Xy_ xsy_.length cxy_), (59, VL A2 eb.length d), (60, I6 (ib_ : Int))], [(700, ⟨87, [VL Cx_ n1x_ c1x_, I7 qx_]⟩), (701, ⟨87, [VL A211 (n1y_ + 1) c211, I7 (qy_ + 1)]⟩)]⟩ ?_
        have b217 : (0 : Int) ≤ (ib_ : Int) := by omega
        have b218 : (ib_ : Int) < ((eb.length : Nat) : Int) := by omega
        refine Ix 80 27 4 A2 eb.length d .i64 (ib_ : Int) (.tmp 59) (.tmp 60) b217 b218 (fun _ _ => rowAt.so hrb (by omega)) ?_
        have at219 := At.ev [(601, ⟨89, 5, .slice A211 (n1y_ + 1) c211, n1y_ + 1, l2_.flatMap itC⟩), (17, ⟨89, 5, .slice A210 1 1, 1, [.int .i64 ((eb.getD (((ib_ : Int)).toNat) ev0).1), .int .i64 ((eb.getD (((ib_ : Int)).toNat) ev0).2.1), .int .i64 ((eb.getD (((ib_ : Int)).toNat) ev0).2.2.1), .int .i64 ((eb.getD (((ib_ : Int)).toNat) ev0).2.2.2), .int .u64 qy_]⟩), (600, ⟨89, 5, .slice Cx_ n1x_ c1x_, n1x_, l1x_.flatMap itC⟩)] hrb (((ib_ : Int)).toNat) (by omega)
        simp only [evC] at at219
        refine Rn 0 (Qo B13 8009 4) [.blk 3, Qs B13 2003, .loop J4, .blk 2, Qs B13 63] ⟨165, [(1, VL A2 eb.length d), (4, VB false), (5, .own 700 0), (6, .own 701 0), (7, VL Xx_ xsx_.length cxx_), (8, VL Xy_ xsy_.length cxy_), (10, I6 (ib_ : Int)), (58, VL Xy_ xsy_.length cxy_), (61, .v (elt A2 (((ib_ : Int)).toNat * 4)))], [(700, ⟨87, [VL Cx_ n1x_ c1x_, I7 qx_]⟩), (701, ⟨87, [VL A211 (n1y_ + 1) c211, I7 (qy_ + 1)]⟩)]⟩ ?_
        refine Ld 27 A2 (((ib_ : Int)).toNat * 4) (.tmp 61) (.agg #[N6 ((eb.getD (((ib_ : Int)).toNat) ev0).1), N6 ((eb.getD (((ib_ : Int)).toNat) ev0).2.1), N6 ((eb.getD (((ib_ : Int)).toNat) ev0).2.2.1), N6 ((eb.getD (((ib_ : Int)).toNat) ev0).2.2.2)]) [N6 ((eb.getD (((ib_ : Int)).toNat) ev0).1), N6 ((eb.getD (((ib_ : Int)).toNat) ev0).2.1), N6 ((eb.getD (((ib_ : Int)).toNat) ev0).2.2.1), N6 ((eb.getD (((ib_ : Int)).toNat) ev0).2.2.2)] at219 ?_
        refine Rn 0 (Qo B13 8009 5) [.blk 3, Qs B13 2003, .loop J4, .blk 2, Qs B13 63] ⟨165, [(1, VL A2 eb.length d), (4, VB false), (5, .own 700 0), (6, .own 701 0), (7, VL Xx_ xsx_.length cxx_), (8, VL Xy_ xsy_.length cxy_), (10, I6 (ib_ : Int)), (58, VL Xy_ xsy_.length cxy_), (62, .v (.agg #[N6 ((eb.getD (((ib_ : Int)).toNat) ev0).1), N6 ((eb.getD (((ib_ : Int)).toNat) ev0).2.1), N6 ((eb.getD (((ib_ : Int)).toNat) ev0).2.2.1), N6 ((eb.getD (((ib_ : Int)).toNat) ev0).2.2.2)]))], [(700, ⟨87, [VL Cx_ n1x_ c1x_, I7 qx_]⟩), (701, ⟨87, [VL A211 (n1y_ + 1) c211, I7 (qy_ + 1)]⟩)]⟩ ?_
        refine Cg 31 [.agg #[N6 ((eb.getD (((ib_ : Int)).toNat) ev0).1), N6 ((eb.getD (((ib_ : Int)).toNat) ev0).2.1), N6 ((eb.getD (((ib_ : Int)).toNat) ev0).2.2.1), N6 ((eb.getD (((ib_ : Int)).toNat) ev0).2.2.2)]] 0 (event_ok ((eb.getD (((ib_ : Int)).toNat) ev0).1) ((eb.getD (((ib_ : Int)).toNat) ev0).2.1) ((eb.getD (((ib_ : Int)).toNat) ev0).2.2.1) ((eb.getD (((ib_ : Int)).toNat) ev0).2.2.2) _) ?_
        rintro v220 G220 rows220 hG220 ⟨rfl, rfl⟩
        replace hra := hra.mono hG220.le
        replace hrb := hrb.mono hG220.le
        replace hrxx_ := hrxx_.mono hG220.le
        replace hrxy_ := hrxy_.mono hG220.le
        refine Rn 0 (Qo B13 8009 6) [.blk 3, Qs B13 2003, .loop J4, .blk 2, Qs B13 63] ⟨165, [(1, VL A2 eb.length d), (4, VB false), (5, .own 700 0), (6, .own 701 0), (7, VL Xx_ xsx_.length cxx_), (8, VL Xy_ xsy_.length cxy_), (10, I6 (ib_ : Int)), (58, VL Xy_ xsy_.length cxy_), (63, .v (.agg #[N6 ((eb.getD (((ib_ : Int)).toNat) ev0).1), N6 ((eb.getD (((ib_ : Int)).toNat) ev0).2.1), N6 ((eb.getD (((ib_ : Int)).toNat) ev0).2.2.1), N6 ((eb.getD (((ib_ : Int)).toNat) ev0).2.2.2)]))], [(700, ⟨87, [VL Cx_ n1x_ c1x_, I7 qx_]⟩), (701, ⟨87, [VL A211 (n1y_ + 1) c211, I7 (qy_ + 1)]⟩)]⟩ ?_
        refine Cg 30 [.slice Xy_ xsy_.length cxy_, .agg #[N6 ((eb.getD (((ib_ : Int)).toNat) ev0).1), N6 ((eb.getD (((ib_ : Int)).toNat) ev0).2.1), N6 ((eb.getD (((ib_ : Int)).toNat) ev0).2.2.1), N6 ((eb.getD (((ib_ : Int)).toNat) ev0).2.2.2)]] 561 (rPush_ok Xy_ cxy_ xsy_ ((eb.getD (((ib_ : Int)).toNat) ev0).1) ((eb.getD (((ib_ : Int)).toNat) ev0).2.1) ((eb.getD (((ib_ : Int)).toNat) ev0).2.2.1) ((eb.getD (((ib_ : Int)).toNat) ev0).2.2.2) _ hrxy_ hlxy_ hmxy_ (by omega)) ?_
        rintro v221 G221 rows221 hG221 ⟨A221, c221, rfl, rfl⟩
        replace hra := hra.mono hG221.le
        replace hrb := hrb.mono hG221.le
        replace hrxx_ := hrxx_.mono hG221.le
        replace hrxy_ := hrxy_.mono hG221.le
        refine X.asR (R' := [(561, RR 66 4 A221 ((insE xsy_ ((eb.getD (((ib_ : Int)).toNat) ev0).1, (eb.getD (((ib_ : Int)).toNat) ev0).2.1, (eb.getD (((ib_ : Int)).toNat) ev0).2.2.1, (eb.getD (((ib_ : Int)).toNat) ev0).2.2.2)).length) c221 ((insE xsy_ ((eb.getD (((ib_ : Int)).toNat) ev0).1, (eb.getD (((ib_ : Int)).toNat) ev0).2.1, (eb.getD (((ib_ : Int)).toNat) ev0).2.2.1, (eb.getD (((ib_ : Int)).toNat) ev0).2.2.2)).flatMap evC)), (601, RR 89 5 A211 (n1y_ + 1) c211 (l2_.flatMap itC)), (17, RR 89 5 A210 1 1 [N6 ((eb.getD (((ib_ : Int)).toNat) ev0).1), N6 ((eb.getD (((ib_ : Int)).toNat) ev0).2.1), N6 ((eb.getD (((ib_ : Int)).toNat) ev0).2.2.1), N6 ((eb.getD (((ib_ : Int)).toNat) ev0).2.2.2), N7 qy_]), (600, RR 89 5 Cx_ n1x_ c1x_ (l1x_.flatMap itC))]) rfl ?_
        refine X.tellR [561, 601, 17, 600] (R' := [(561, RR 66 4 A221 ((insE xsy_ ((eb.getD (((ib_ : Int)).toNat) ev0).1, (eb.getD (((ib_ : Int)).toNat) ev0).2.1, (eb.getD (((ib_ : Int)).toNat) ev0).2.2.1, (eb.getD (((ib_ : Int)).toNat) ev0).2.2.2)).length) c221 ((insE xsy_ ((eb.getD (((ib_ : Int)).toNat) ev0).1, (eb.getD (((ib_ : Int)).toNat) ev0).2.1, (eb.getD (((ib_ : Int)).toNat) ev0).2.2.1, (eb.getD (((ib_ : Int)).toNat) ev0).2.2.2)).flatMap evC)), (601, RR 89 5 A211 (n1y_ + 1) c211 (l2_.flatMap itC)), (17, RR 89 5 A210 1 1 [N6 ((eb.getD (((ib_ : Int)).toNat) ev0).1), N6 ((eb.getD (((ib_ : Int)).toNat) ev0).2.1), N6 ((eb.getD (((ib_ : Int)).toNat) ev0).2.2.1), N6 ((eb.getD (((ib_ : Int)).toNat) ev0).2.2.2), N7 qy_]), (600, RR 89 5 Cx_ n1x_ c1x_ (l1x_.flatMap itC))]) rfl ?_
        refine X.capLe (i := 561) (q := (RR 66 4 A221 ((insE xsy_ ((eb.getD (((ib_ : Int)).toNat) ev0).1, (eb.getD (((ib_ : Int)).toNat) ev0).2.1, (eb.getD (((ib_ : Int)).toNat) ev0).2.2.1, (eb.getD (((ib_ : Int)).toNat) ev0).2.2.2)).length) c221 ((insE xsy_ ((eb.getD (((ib_ : Int)).toNat) ev0).1, (eb.getD (((ib_ : Int)).toNat) ev0).2.1, (eb.getD (((ib_ : Int)).toNat) ev0).2.2.1, (eb.getD (((ib_ : Int)).toNat) ev0).2.2.2)).flatMap evC))) (n := (insE xsy_ ((eb.getD (((ib_ : Int)).toNat) ev0).1, (eb.getD (((ib_ : Int)).toNat) ev0).2.1, (eb.getD (((ib_ : Int)).toNat) ev0).2.2.1, (eb.getD (((ib_ : Int)).toNat) ev0).2.2.2)).length) (c := c221) (A := A221) rfl rfl ?_
        intro hle222 hmx222
        refine X.freezeT (d := evD) (i := 561) (n := (insE xsy_ ((eb.getD (((ib_ : Int)).toNat) ev0).1, (eb.getD (((ib_ : Int)).toNat) ev0).2.1, (eb.getD (((ib_ : Int)).toNat) ev0).2.2.1, (eb.getD (((ib_ : Int)).toNat) ev0).2.2.2)).length) (c := c221) (A := A221) ((insE xsy_ ((eb.getD (((ib_ : Int)).toNat) ev0).1, (eb.getD (((ib_ : Int)).toNat) ev0).2.1, (eb.getD (((ib_ : Int)).toNat) ev0).2.2.1, (eb.getD (((ib_ : Int)).toNat) ev0).2.2.2))) rfl (by decide) (fun _ _ => evD_reps) (by kernel_rfl) (fun _ h => h) ?_
        intro G222 hG222 hr222
        replace hra := hra.mono hG222.le
        replace hrb := hrb.mono hG222.le
        replace hrxx_ := hrxx_.mono hG222.le
        replace hrxy_ := hrxy_.mono hG222.le
        refine Rn 7 (Qo B13 2003 2) [.loop J4, .blk 2, Qs B13 63] ⟨165, [(1, VL A2 eb.length d), (4, VB false), (5, .own 700 0), (6, .own 701 0), (7, VL Xx_ xsx_.length cxx_), (8, VL A221 ((insE xsy_ ((eb.getD (((ib_ : Int)).toNat) ev0).1, (eb.getD (((ib_ : Int)).toNat) ev0).2.1, (eb.getD (((ib_ : Int)).toNat) ev0).2.2.1, (eb.getD (((ib_ : Int)).toNat) ev0).2.2.2)).length) c221), (10, I6 (ib_ : Int)), (51, I6 (IntKind.i64.wrap ((ib_ : Int) + 1)))], [(700, ⟨87, [VL Cx_ n1x_ c1x_, I7 qx_]⟩), (701, ⟨87, [VL A211 (n1y_ + 1) c211, I7 (qy_ + 1)]⟩)]⟩ ?_
        refine Kn 51 .i64 ((ib_ : Int) + 1) rfl (wi64 (by omega) (by omega)) ?_
        refine Rn 2 (.ex .normal) [.loop J4, .blk 2, Qs B13 63] ⟨165, [(1, VL A2 eb.length d), (4, VB false), (5, .own 700 0), (6, .own 701 0), (7, VL Xx_ xsx_.length cxx_), (8, VL A221 ((insE xsy_ ((eb.getD (((ib_ : Int)).toNat) ev0).1, (eb.getD (((ib_ : Int)).toNat) ev0).2.1, (eb.getD (((ib_ : Int)).toNat) ev0).2.2.1, (eb.getD (((ib_ : Int)).toNat) ev0).2.2.2)).length) c221), (10, I6 ((ib_ : Int) + 1))], [(700, ⟨87, [VL Cx_ n1x_ c1x_, I7 qx_]⟩), (701, ⟨87, [VL A211 (n1y_ + 1) c211, I7 (qy_ + 1)]⟩)]⟩ ?_
        refine X.tellR [601, 600] (R' := [(601, RR 89 5 A211 (n1y_ + 1) c211 (l2_.flatMap itC)), (600, RR 89 5 Cx_ n1x_ c1x_ (l1x_.flatMap itC))]) rfl ?_
        exact X.again (hJ4 _ _ _ _ ⟨A211, c211, (n1y_ + 1), l2_, (qy_ + 1), A221, c221, (insE xsy_ ((eb.getD (((ib_ : Int)).toNat) ev0).1, (eb.getD (((ib_ : Int)).toNat) ev0).2.1, (eb.getD (((ib_ : Int)).toNat) ev0).2.2.1, (eb.getD (((ib_ : Int)).toNat) ev0).2.2.2)), (ib_ + 1), rfl, rfl, (((((hG4.trans hG213).trans hG215).trans hG220).trans hG221).trans hG222), ⟨⟨by omega, by omega⟩, hln2_, plays_push (x := ((eb.getD ib_ ev0).1, (eb.getD ib_ ev0).2.1, (eb.getD ib_ ev0).2.2.1, (eb.getD ib_ ev0).2.2.2, qy_)) hPy_ rfl hh2_ (by rw [← hl211] at hpm_; exact hpm_), ⟨by omega, by omega, by omega⟩, hle222, by have h_ := hmx222; simp only [maxLen] at h_ ⊢; omega, hr222⟩, rfl⟩ (by omega))
       ·
        replace h216 : (decide (ltI (l2_.getD ((i2_ : Int)).toNat it0) (l2_.getD ((((i2_ - 1) / 2 : Nat) : Int)).toNat it0))) = true := by first | (simpa using h216; done) | (have h_ := congrArg (fun b_ => !b_) h216; simpa only [Bool.not_not, Bool.not_true, Bool.not_false] using h_)
        replace h216 : ltI (l2_.getD ((i2_ : Int)).toNat it0) (l2_.getD ((((i2_ - 1) / 2 : Nat) : Int)).toNat it0) := of_decide_eq_true h216
        have hlt_ : ltI (at_ l2_ i2_) (at_ l2_ ((i2_ - 1) / 2)) := h216
        refine Rn 4 (Qc B49 150) [Qs B49 151, .blk 1, .loop J213, .blk 0] ⟨42, [(0, .own 2701 0), (1, I6 (i2_ : Int)), (4, I6 (((i2_ - 1) / 2 : Nat) : Int))], [(2700, ⟨87, [VL Cx_ n1x_ c1x_, I7 qx_]⟩), (2701, ⟨87, [VL A211 (n1y_ + 1) c211, I7 (qy_ + 1)]⟩)]⟩ ?_
        have hra_d223 := hra
        have hrb_d223 := hrb
        have hrxx__d223 := hrxx_
        have hrxy__d223 := hrxy_
        refine Og 3 B49 150 28 [⟨some 0, 2701, 87, [VL A211 (n1y_ + 1) c211, I7 (qy_ + 1)]⟩] [(601, RR 89 5 A211 (n1y_ + 1) c211 (l2_.flatMap itC))] [25, 26, 27] ⟨⟨fun _ h => (by cases h; rfl), rfl⟩, trivial⟩ (by intro p hp hn; simp only [List.mem_cons, List.not_mem_nil, or_false] at hp; rcases hp with rfl <;> first | (cases hn; done) | exact hM212 _ (Nat.le_of_ble_eq_true rfl)) (fun ρ0 => ?_)
        refine Tk 0 28 1 B49 150 (.own 2701 0) hQ212 ?_
        refine XD.nilOwn (i := 1) (l' := (lb 28 3)) (oA B49 (pa 150) 1) (x := .tmp 15) (b := 2701) (off := 0) hQ212 (by kernel_rfl) (by kernel_rfl) (by kernel_rfl) (by kernel_rfl) (by kernel_rfl) (by kernel_rfl) ?_
        refine Tk 2 28 7 B49 150 (.own 2701 0) hQ212 ?_
        refine Tk 3 28 15 B49 150 (VL A211 (n1y_ + 1) c211) hQ212 ?_
        refine Tk 4 28 31 B49 150 (I6 (i2_ : Int)) hQ212 ?_
        refine Tk 5 28 63 B49 150 (.own 2701 0) hQ212 ?_
        refine XD.nilOwn (i := 6) (l' := (lb 28 127)) (oA B49 (pa 150) 6) (x := .tmp 20) (b := 2701) (off := 0) hQ212 (by kernel_rfl) (by kernel_rfl) (by kernel_rfl) (by kernel_rfl) (by kernel_rfl) (by kernel_rfl) ?_
        refine Tk 7 28 255 B49 150 (.own 2701 0) hQ212 ?_
        refine Tk 8 28 511 B49 150 (VL A211 (n1y_ + 1) c211) hQ212 ?_
        refine XD.pureMove (i := 9) (l' := (lb 28 1023)) (x := .tmp 4) (oA B49 (pa 150) 9) (I6 (((i2_ - 1) / 2 : Nat) : Int)) hQ212 (by kernel_rfl) (by kernel_rfl) (by kernel_rfl) (by kernel_rfl) (by kernel_rfl) (by kernel_rfl) ?_
        refine Tk 10 28 2047 B49 150 (.own 2701 0) hQ212 ?_
        refine XD.nilOwn (i := 11) (l' := (lb 28 4095)) (oA B49 (pa 150) 11) (x := .tmp 25) (b := 2701) (off := 0) hQ212 (by kernel_rfl) (by kernel_rfl) (by kernel_rfl) (by kernel_rfl) (by kernel_rfl) (by kernel_rfl) ?_
        refine Tk 12 28 8191 B49 150 (.own 2701 0) hQ212 ?_
        refine Tk 13 28 16383 B49 150 (VL A211 (n1y_ + 1) c211) hQ212 ?_
        refine Tk 14 28 32767 B49 150 (I6 (((i2_ - 1) / 2 : Nat) : Int)) hQ212 ?_
        have b224 : (0 : Int) ≤ (((i2_ - 1) / 2 : Nat) : Int) := by omega
        have b225 : (((i2_ - 1) / 2 : Nat) : Int) < ((n1y_ + 1 : Nat) : Int) := by omega
        have at226 : At G215 [(601, ⟨89, 5, .slice A211 (n1y_ + 1) c211, n1y_ + 1, l2_.flatMap itC⟩)] A211 (((((i2_ - 1) / 2 : Nat) : Int)).toNat * 5) [.int .i64 ((l2_.getD (((((i2_ - 1) / 2 : Nat) : Int)).toNat) it0).1), .int .i64 ((l2_.getD (((((i2_ - 1) / 2 : Nat) : Int)).toNat) it0).2.1), .int .i64 ((l2_.getD (((((i2_ - 1) / 2 : Nat) : Int)).toNat) it0).2.2.1), .int .i64 ((l2_.getD (((((i2_ - 1) / 2 : Nat) : Int)).toNat) it0).2.2.2.1), .int .u64 ((l2_.getD (((((i2_ - 1) / 2 : Nat) : Int)).toNat) it0).2.2.2.2)] := At.rowF itC itC_len (i := 601) (r := ⟨89, 5, .slice A211 (n1y_ + 1) c211, n1y_ + 1, l2_.flatMap itC⟩) it0 rfl rfl rfl (by rw [hln2_]; omega)
        refine Dx 15 28 65535 B49 150 84 89 5 A211 (n1y_ + 1) c211 .i64 (((i2_ - 1) / 2 : Nat) : Int) (.tmp 28) (.tmp 29) hQ212 b224 b225 (rowSome (i := 601) (q := (RR 89 5 A211 (n1y_ + 1) c211 (l2_.flatMap itC))) rfl rfl (flat_pos itC_len (by decide) (by rw [hln2_]; omega))) ?_
        have at227 : At G215 [(601, ⟨89, 5, .slice A211 (n1y_ + 1) c211, n1y_ + 1, l2_.flatMap itC⟩)] A211 (((((i2_ - 1) / 2 : Nat) : Int)).toNat * 5) [.int .i64 ((l2_.getD (((((i2_ - 1) / 2 : Nat) : Int)).toNat) it0).1), .int .i64 ((l2_.getD (((((i2_ - 1) / 2 : Nat) : Int)).toNat) it0).2.1), .int .i64 ((l2_.getD (((((i2_ - 1) / 2 : Nat) : Int)).toNat) it0).2.2.1), .int .i64 ((l2_.getD (((((i2_ - 1) / 2 : Nat) : Int)).toNat) it0).2.2.2.1), .int .u64 ((l2_.getD (((((i2_ - 1) / 2 : Nat) : Int)).toNat) it0).2.2.2.2)] := At.rowF itC itC_len (i := 601) (r := ⟨89, 5, .slice A211 (n1y_ + 1) c211, n1y_ + 1, l2_.flatMap itC⟩) it0 rfl rfl rfl (by rw [hln2_]; omega)
        refine Dl 16 28 131071 B49 150 89 A211 (((((i2_ - 1) / 2 : Nat) : Int)).toNat * 5) (.tmp 30) (.agg #[N6 ((l2_.getD (((((i2_ - 1) / 2 : Nat) : Int)).toNat) it0).1), N6 ((l2_.getD (((((i2_ - 1) / 2 : Nat) : Int)).toNat) it0).2.1), N6 ((l2_.getD (((((i2_ - 1) / 2 : Nat) : Int)).toNat) it0).2.2.1), N6 ((l2_.getD (((((i2_ - 1) / 2 : Nat) : Int)).toNat) it0).2.2.2.1), N7 ((l2_.getD (((((i2_ - 1) / 2 : Nat) : Int)).toNat) it0).2.2.2.2)]) [N6 ((l2_.getD (((((i2_ - 1) / 2 : Nat) : Int)).toNat) it0).1), N6 ((l2_.getD (((((i2_ - 1) / 2 : Nat) : Int)).toNat) it0).2.1), N6 ((l2_.getD (((((i2_ - 1) / 2 : Nat) : Int)).toNat) it0).2.2.1), N6 ((l2_.getD (((((i2_ - 1) / 2 : Nat) : Int)).toNat) it0).2.2.2.1), N7 ((l2_.getD (((((i2_ - 1) / 2 : Nat) : Int)).toNat) it0).2.2.2.2)] hQ212 at227 ?_
        refine Tk 17 28 262143 B49 150 (.own 2701 0) hQ212 ?_
        refine XD.nilOwn (i := 18) (l' := (lb 28 524287)) (oA B49 (pa 150) 18) (x := .tmp 32) (b := 2701) (off := 0) hQ212 (by kernel_rfl) (by kernel_rfl) (by kernel_rfl) (by kernel_rfl) (by kernel_rfl) (by kernel_rfl) ?_
        refine Tk 19 28 1048575 B49 150 (.own 2701 0) hQ212 ?_
        refine Tk 20 28 2097151 B49 150 (VL A211 (n1y_ + 1) c211) hQ212 ?_
        refine Tk 21 28 4194303 B49 150 (I6 (i2_ : Int)) hQ212 ?_
        have b228 : (0 : Int) ≤ (i2_ : Int) := by omega
        have b229 : (i2_ : Int) < ((n1y_ + 1 : Nat) : Int) := by omega
        have at230 : At G215 [(601, ⟨89, 5, .slice A211 (n1y_ + 1) c211, n1y_ + 1, l2_.flatMap itC⟩)] A211 (((i2_ : Int)).toNat * 5) [.int .i64 ((l2_.getD (((i2_ : Int)).toNat) it0).1), .int .i64 ((l2_.getD (((i2_ : Int)).toNat) it0).2.1), .int .i64 ((l2_.getD (((i2_ : Int)).toNat) it0).2.2.1), .int .i64 ((l2_.getD (((i2_ : Int)).toNat) it0).2.2.2.1), .int .u64 ((l2_.getD (((i2_ : Int)).toNat) it0).2.2.2.2)] := At.rowF itC itC_len (i := 601) (r := ⟨89, 5, .slice A211 (n1y_ + 1) c211, n1y_ + 1, l2_.flatMap itC⟩) it0 rfl rfl rfl (by rw [hln2_]; omega)
        refine Dx 22 28 8388607 B49 150 84 89 5 A211 (n1y_ + 1) c211 .i64 (i2_ : Int) (.tmp 35) (.tmp 36) hQ212 b228 b229 (rowSome (i := 601) (q := (RR 89 5 A211 (n1y_ + 1) c211 (l2_.flatMap itC))) rfl rfl (flat_pos itC_len (by decide) (by rw [hln2_]; omega))) ?_
        have at231 : At G215 [(601, ⟨89, 5, .slice A211 (n1y_ + 1) c211, n1y_ + 1, l2_.flatMap itC⟩)] A211 (((i2_ : Int)).toNat * 5) [.int .i64 ((l2_.getD (((i2_ : Int)).toNat) it0).1), .int .i64 ((l2_.getD (((i2_ : Int)).toNat) it0).2.1), .int .i64 ((l2_.getD (((i2_ : Int)).toNat) it0).2.2.1), .int .i64 ((l2_.getD (((i2_ : Int)).toNat) it0).2.2.2.1), .int .u64 ((l2_.getD (((i2_ : Int)).toNat) it0).2.2.2.2)] := At.rowF itC itC_len (i := 601) (r := ⟨89, 5, .slice A211 (n1y_ + 1) c211, n1y_ + 1, l2_.flatMap itC⟩) it0 rfl rfl rfl (by rw [hln2_]; omega)
        refine Dl 23 28 16777215 B49 150 89 A211 (((i2_ : Int)).toNat * 5) (.tmp 37) (.agg #[N6 ((l2_.getD (((i2_ : Int)).toNat) it0).1), N6 ((l2_.getD (((i2_ : Int)).toNat) it0).2.1), N6 ((l2_.getD (((i2_ : Int)).toNat) it0).2.2.1), N6 ((l2_.getD (((i2_ : Int)).toNat) it0).2.2.2.1), N7 ((l2_.getD (((i2_ : Int)).toNat) it0).2.2.2.2)]) [N6 ((l2_.getD (((i2_ : Int)).toNat) it0).1), N6 ((l2_.getD (((i2_ : Int)).toNat) it0).2.1), N6 ((l2_.getD (((i2_ : Int)).toNat) it0).2.2.1), N6 ((l2_.getD (((i2_ : Int)).toNat) it0).2.2.2.1), N7 ((l2_.getD (((i2_ : Int)).toNat) it0).2.2.2.2)] hQ212 at231 ?_
        have b232 : (0 : Int) ≤ (i2_ : Int) := by omega
        have b233 : (i2_ : Int) < ((n1y_ + 1 : Nat) : Int) := by omega
        have at234 : At G215 [(601, ⟨89, 5, .slice A211 (n1y_ + 1) c211, n1y_ + 1, l2_.flatMap itC⟩)] A211 (((i2_ : Int)).toNat * 5) [.int .i64 ((l2_.getD (((i2_ : Int)).toNat) it0).1), .int .i64 ((l2_.getD (((i2_ : Int)).toNat) it0).2.1), .int .i64 ((l2_.getD (((i2_ : Int)).toNat) it0).2.2.1), .int .i64 ((l2_.getD (((i2_ : Int)).toNat) it0).2.2.2.1), .int .u64 ((l2_.getD (((i2_ : Int)).toNat) it0).2.2.2.2)] := At.rowF itC itC_len (i := 601) (r := ⟨89, 5, .slice A211 (n1y_ + 1) c211, n1y_ + 1, l2_.flatMap itC⟩) it0 rfl rfl rfl (by rw [hln2_]; omega)
        refine Dx 24 28 33554431 B49 150 84 89 5 A211 (n1y_ + 1) c211 .i64 (i2_ : Int) (.tmp 18) (.tmp 19) hQ212 b232 b233 (rowSome (i := 601) (q := (RR 89 5 A211 (n1y_ + 1) c211 (l2_.flatMap itC))) rfl rfl (flat_pos itC_len (by decide) (by rw [hln2_]; omega))) ?_
        refine XD.toE ?_
        refine En ⟨42, [(0, .own 2701 0), (1, I6 (i2_ : Int)), (4, I6 (((i2_ - 1) / 2 : Nat) : Int)), (23, VL A211 (n1y_ + 1) c211), (24, I6 (((i2_ - 1) / 2 : Nat) : Int)), (31, .v (.agg #[N6 ((l2_.getD (((((i2_ - 1) / 2 : Nat) : Int)).toNat) it0).1), N6 ((l2_.getD (((((i2_ - 1) / 2 : Nat) : Int)).toNat) it0).2.1), N6 ((l2_.getD (((((i2_ - 1) / 2 : Nat) : Int)).toNat) it0).2.2.1), N6 ((l2_.getD (((((i2_ - 1) / 2 : Nat) : Int)).toNat) it0).2.2.2.1), N7 ((l2_.getD (((((i2_ - 1) / 2 : Nat) : Int)).toNat) it0).2.2.2.2)])), (38, .v (.agg #[N6 ((l2_.getD (((i2_ : Int)).toNat) it0).1), N6 ((l2_.getD (((i2_ : Int)).toNat) it0).2.1), N6 ((l2_.getD (((i2_ : Int)).toNat) it0).2.2.1), N6 ((l2_.getD (((i2_ : Int)).toNat) it0).2.2.2.1), N7 ((l2_.getD (((i2_ : Int)).toNat) it0).2.2.2.2)])), (39, .v (elt A211 (((i2_ : Int)).toNat * 5)))], [(2700, ⟨87, [VL Cx_ n1x_ c1x_, I7 qx_]⟩), (2701, ⟨87, [VL A211 (n1y_ + 1) c211, I7 (qy_ + 1)]⟩)]⟩ ?_
        refine Eo 25 28 67108863 B49 150 ?_
        refine X.storeElem (i := 601) (t := 89) (j := ((i2_ : Int)).toNat * 5) (n := n1y_ + 1) (c := c211) (q := (RR 89 5 A211 (n1y_ + 1) c211 (l2_.flatMap itC))) (A := A211) (x := .tmp 39) (y := .tmp 31) (z := .agg #[N6 ((l2_.getD (((((i2_ - 1) / 2 : Nat) : Int)).toNat) it0).1), N6 ((l2_.getD (((((i2_ - 1) / 2 : Nat) : Int)).toNat) it0).2.1), N6 ((l2_.getD (((((i2_ - 1) / 2 : Nat) : Int)).toNat) it0).2.2.1), N6 ((l2_.getD (((((i2_ - 1) / 2 : Nat) : Int)).toNat) it0).2.2.2.1), N7 ((l2_.getD (((((i2_ - 1) / 2 : Nat) : Int)).toNat) it0).2.2.2.2)]) (by kernel_rfl) (by kernel_rfl) (by kernel_rfl) rfl rfl (by kernel_rfl) (by rw [show _ = _ from flat_len itC_len _, hln2_]; show ((i2_ : Int)).toNat * 5 + 5 ≤ _; omega) (by kernel_rfl) (Nat.succ_pos _) (by kernel_rfl) ?_
        refine X.tellR [601, 17, 600] (R' := [(601, RR 89 5 A211 (n1y_ + 1) c211 ((l2_.set (((i2_ : Int)).toNat) ((l2_.getD (((((i2_ - 1) / 2 : Nat) : Int)).toNat) it0).1, (l2_.getD (((((i2_ - 1) / 2 : Nat) : Int)).toNat) it0).2.1, (l2_.getD (((((i2_ - 1) / 2 : Nat) : Int)).toNat) it0).2.2.1, (l2_.getD (((((i2_ - 1) / 2 : Nat) : Int)).toNat) it0).2.2.2.1, (l2_.getD (((((i2_ - 1) / 2 : Nat) : Int)).toNat) it0).2.2.2.2)).flatMap itC)), (17, RR 89 5 A210 1 1 [N6 ((eb.getD (((ib_ : Int)).toNat) ev0).1), N6 ((eb.getD (((ib_ : Int)).toNat) ev0).2.1), N6 ((eb.getD (((ib_ : Int)).toNat) ev0).2.2.1), N6 ((eb.getD (((ib_ : Int)).toNat) ev0).2.2.2), N7 qy_]), (600, RR 89 5 Cx_ n1x_ c1x_ (l1x_.flatMap itC))]) (congrArg (fun cs_ => (601, (RR 89 5 A211 (n1y_ + 1) c211 cs_ : Row)) :: [(17, RR 89 5 A210 1 1 [N6 ((eb.getD (((ib_ : Int)).toNat) ev0).1), N6 ((eb.getD (((ib_ : Int)).toNat) ev0).2.1), N6 ((eb.getD (((ib_ : Int)).toNat) ev0).2.2.1), N6 ((eb.getD (((ib_ : Int)).toNat) ev0).2.2.2), N7 qy_]), (600, RR 89 5 Cx_ n1x_ c1x_ (l1x_.flatMap itC))]) (splice_flat itC_len (((l2_.getD (((((i2_ - 1) / 2 : Nat) : Int)).toNat) it0).1, (l2_.getD (((((i2_ - 1) / 2 : Nat) : Int)).toNat) it0).2.1, (l2_.getD (((((i2_ - 1) / 2 : Nat) : Int)).toNat) it0).2.2.1, (l2_.getD (((((i2_ - 1) / 2 : Nat) : Int)).toNat) it0).2.2.2.1, (l2_.getD (((((i2_ - 1) / 2 : Nat) : Int)).toNat) it0).2.2.2.2) : Item) l2_ (((i2_ : Int)).toNat) (by rw [hln2_]; omega))) ?_
        obtain ⟨l235, hl235⟩ : ∃ z_, (l2_.set (((i2_ : Int)).toNat) ((l2_.getD (((((i2_ - 1) / 2 : Nat) : Int)).toNat) it0).1, (l2_.getD (((((i2_ - 1) / 2 : Nat) : Int)).toNat) it0).2.1, (l2_.getD (((((i2_ - 1) / 2 : Nat) : Int)).toNat) it0).2.2.1, (l2_.getD (((((i2_ - 1) / 2 : Nat) : Int)).toNat) it0).2.2.2.1, (l2_.getD (((((i2_ - 1) / 2 : Nat) : Int)).toNat) it0).2.2.2.2)) = z_ := ⟨_, rfl⟩
        rw [hl235]
        have hn235 : l235.length = n1y_ + 1 := by rw [← hl235, List.length_set, hln2_]
        refine X.back ?_
        refine En ⟨42, [(0, .own 2701 0), (1, I6 (i2_ : Int)), (4, I6 (((i2_ - 1) / 2 : Nat) : Int)), (23, VL A211 (n1y_ + 1) c211), (24, I6 (((i2_ - 1) / 2 : Nat) : Int)), (38, .v (.agg #[N6 ((l2_.getD (((i2_ : Int)).toNat) it0).1), N6 ((l2_.getD (((i2_ : Int)).toNat) it0).2.1), N6 ((l2_.getD (((i2_ : Int)).toNat) it0).2.2.1), N6 ((l2_.getD (((i2_ : Int)).toNat) it0).2.2.2.1), N7 ((l2_.getD (((i2_ : Int)).toNat) it0).2.2.2.2)]))], [(2700, ⟨87, [VL Cx_ n1x_ c1x_, I7 qx_]⟩), (2701, ⟨87, [VL A211 (n1y_ + 1) c211, I7 (qy_ + 1)]⟩)]⟩ ?_
        refine Eo 26 28 134217727 B49 150 ?_
        have b236 : (0 : Int) ≤ (((i2_ - 1) / 2 : Nat) : Int) := by omega
        have b237 : (((i2_ - 1) / 2 : Nat) : Int) < ((n1y_ + 1 : Nat) : Int) := by omega
        refine Ix 84 89 5 A211 (n1y_ + 1) c211 .i64 (((i2_ - 1) / 2 : Nat) : Int) (.tmp 23) (.tmp 24) b236 b237 (rowSome (i := 601) (q := (RR 89 5 A211 (n1y_ + 1) c211 (l235.flatMap itC))) rfl rfl (flat_pos itC_len (by decide) (by rw [hn235]; omega))) ?_
        have at238 : At G215 [(601, ⟨89, 5, .slice A211 (n1y_ + 1) c211, n1y_ + 1, l235.flatMap itC⟩), (17, ⟨89, 5, .slice A210 1 1, 1, [.int .i64 ((eb.getD (((ib_ : Int)).toNat) ev0).1), .int .i64 ((eb.getD (((ib_ : Int)).toNat) ev0).2.1), .int .i64 ((eb.getD (((ib_ : Int)).toNat) ev0).2.2.1), .int .i64 ((eb.getD (((ib_ : Int)).toNat) ev0).2.2.2), .int .u64 qy_]⟩), (600, ⟨89, 5, .slice Cx_ n1x_ c1x_, n1x_, l1x_.flatMap itC⟩)] A211 (((((i2_ - 1) / 2 : Nat) : Int)).toNat * 5) [.int .i64 ((l235.getD (((((i2_ - 1) / 2 : Nat) : Int)).toNat) it0).1), .int .i64 ((l235.getD (((((i2_ - 1) / 2 : Nat) : Int)).toNat) it0).2.1), .int .i64 ((l235.getD (((((i2_ - 1) / 2 : Nat) : Int)).toNat) it0).2.2.1), .int .i64 ((l235.getD (((((i2_ - 1) / 2 : Nat) : Int)).toNat) it0).2.2.2.1), .int .u64 ((l235.getD (((((i2_ - 1) / 2 : Nat) : Int)).toNat) it0).2.2.2.2)] := At.rowF itC itC_len (i := 601) (r := ⟨89, 5, .slice A211 (n1y_ + 1) c211, n1y_ + 1, l235.flatMap itC⟩) it0 rfl rfl rfl (by rw [hn235]; omega)
        refine X.back ?_
        refine En ⟨42, [(0, .own 2701 0), (1, I6 (i2_ : Int)), (4, I6 (((i2_ - 1) / 2 : Nat) : Int)), (38, .v (.agg #[N6 ((l2_.getD (((i2_ : Int)).toNat) it0).1), N6 ((l2_.getD (((i2_ : Int)).toNat) it0).2.1), N6 ((l2_.getD (((i2_ : Int)).toNat) it0).2.2.1), N6 ((l2_.getD (((i2_ : Int)).toNat) it0).2.2.2.1), N7 ((l2_.getD (((i2_ : Int)).toNat) it0).2.2.2.2)])), (40, .v (elt A211 (((((i2_ - 1) / 2 : Nat) : Int)).toNat * 5)))], [(2700, ⟨87, [VL Cx_ n1x_ c1x_, I7 qx_]⟩), (2701, ⟨87, [VL A211 (n1y_ + 1) c211, I7 (qy_ + 1)]⟩)]⟩ ?_
        refine Eo 27 28 268435455 B49 150 ?_
        refine X.storeElem (i := 601) (t := 89) (j := ((((i2_ - 1) / 2 : Nat) : Int)).toNat * 5) (n := n1y_ + 1) (c := c211) (q := (RR 89 5 A211 (n1y_ + 1) c211 (l235.flatMap itC))) (A := A211) (x := .tmp 40) (y := .tmp 38) (z := .agg #[N6 ((l2_.getD (((i2_ : Int)).toNat) it0).1), N6 ((l2_.getD (((i2_ : Int)).toNat) it0).2.1), N6 ((l2_.getD (((i2_ : Int)).toNat) it0).2.2.1), N6 ((l2_.getD (((i2_ : Int)).toNat) it0).2.2.2.1), N7 ((l2_.getD (((i2_ : Int)).toNat) it0).2.2.2.2)]) (by kernel_rfl) (by kernel_rfl) (by kernel_rfl) rfl rfl (by kernel_rfl) (by rw [show _ = _ from flat_len itC_len _, hn235]; show ((((i2_ - 1) / 2 : Nat) : Int)).toNat * 5 + 5 ≤ _; omega) (by kernel_rfl) (Nat.succ_pos _) (by kernel_rfl) ?_
        refine X.tellR [601, 17, 600] (R' := [(601, RR 89 5 A211 (n1y_ + 1) c211 ((l235.set (((((i2_ - 1) / 2 : Nat) : Int)).toNat) ((l2_.getD (((i2_ : Int)).toNat) it0).1, (l2_.getD (((i2_ : Int)).toNat) it0).2.1, (l2_.getD (((i2_ : Int)).toNat) it0).2.2.1, (l2_.getD (((i2_ : Int)).toNat) it0).2.2.2.1, (l2_.getD (((i2_ : Int)).toNat) it0).2.2.2.2)).flatMap itC)), (17, RR 89 5 A210 1 1 [N6 ((eb.getD (((ib_ : Int)).toNat) ev0).1), N6 ((eb.getD (((ib_ : Int)).toNat) ev0).2.1), N6 ((eb.getD (((ib_ : Int)).toNat) ev0).2.2.1), N6 ((eb.getD (((ib_ : Int)).toNat) ev0).2.2.2), N7 qy_]), (600, RR 89 5 Cx_ n1x_ c1x_ (l1x_.flatMap itC))]) (congrArg (fun cs_ => (601, (RR 89 5 A211 (n1y_ + 1) c211 cs_ : Row)) :: [(17, RR 89 5 A210 1 1 [N6 ((eb.getD (((ib_ : Int)).toNat) ev0).1), N6 ((eb.getD (((ib_ : Int)).toNat) ev0).2.1), N6 ((eb.getD (((ib_ : Int)).toNat) ev0).2.2.1), N6 ((eb.getD (((ib_ : Int)).toNat) ev0).2.2.2), N7 qy_]), (600, RR 89 5 Cx_ n1x_ c1x_ (l1x_.flatMap itC))]) (splice_flat itC_len (((l2_.getD (((i2_ : Int)).toNat) it0).1, (l2_.getD (((i2_ : Int)).toNat) it0).2.1, (l2_.getD (((i2_ : Int)).toNat) it0).2.2.1, (l2_.getD (((i2_ : Int)).toNat) it0).2.2.2.1, (l2_.getD (((i2_ : Int)).toNat) it0).2.2.2.2) : Item) l235 (((((i2_ - 1) / 2 : Nat) : Int)).toNat) (by rw [hn235]; omega))) ?_
        obtain ⟨l239, hl239⟩ : ∃ z_, (l235.set (((((i2_ - 1) / 2 : Nat) : Int)).toNat) ((l2_.getD (((i2_ : Int)).toNat) it0).1, (l2_.getD (((i2_ : Int)).toNat) it0).2.1, (l2_.getD (((i2_ : Int)).toNat) it0).2.2.1, (l2_.getD (((i2_ : Int)).toNat) it0).2.2.2.1, (l2_.getD (((i2_ : Int)).toNat) it0).2.2.2.2)) = z_ := ⟨_, rfl⟩
        rw [hl239]
        have hn239 : l239.length = n1y_ + 1 := by rw [← hl239, List.length_set, hn235]
        refine X.back ?_
        refine XE.done (by kernel_rfl) ?_
        refine Rn 6 (.ex .normal) [.loop J213, .blk 0] ⟨42, [(0, .own 2701 0), (1, I6 (((i2_ - 1) / 2 : Nat) : Int))], [(2700, ⟨87, [VL Cx_ n1x_ c1x_, I7 qx_]⟩), (2701, ⟨87, [VL A211 (n1y_ + 1) c211, I7 (qy_ + 1)]⟩)]⟩ ?_
        have hsw_ : l239 = swp l2_ i2_ ((i2_ - 1) / 2) := by rw [← hl239, ← hl235]; rfl
        exact X.again (hJ213 _ _ _ _ ⟨((i2_ - 1) / 2), l239, rfl, rfl, (hG213.trans hG215), ⟨by omega, by rw [hsw_, swp_len]; exact hln2_, by rw [hsw_]; exact up_step hup_ (by omega) (by omega) hlt_, by rw [hsw_]; exact (swp_perm (by omega) (by omega)).trans hpm_⟩, rfl⟩ (by omega))
      ·
       refine X.inline (f := 81) (l := [.own 2701 0, I6 (i2_ : Int), I6 (((i2_ - 1) / 2 : Nat) : Int)]) (fn := Try.f81) (c := B81) (by kernel_rfl) (by kernel_rfl) Try.func81 (by kernel_rfl) ?_
       intro Q240 M240 hM240 hQ240 fin240
       refine Rn 6 (Qc B81 6) [Qs B81 7] ⟨52, [(0, .own 3701 0), (1, I6 (i2_ : Int)), (2, I6 (((i2_ - 1) / 2 : Nat) : Int)), (6, VB false)], [(3700, ⟨87, [VL Cx_ n1x_ c1x_, I7 qx_]⟩), (3701, ⟨87, [VL A211 (n1y_ + 1) c211, I7 (qy_ + 1)]⟩)]⟩ ?_
       have hra_d241 := hra
       have hrb_d241 := hrb
       have hrxx__d241 := hrxx_
       have hrxy__d241 := hrxy_
       refine Og 1 B81 6 14 [⟨some 0, 3701, 87, [VL A211 (n1y_ + 1) c211, I7 (qy_ + 1)]⟩] [(601, RR 89 5 A211 (n1y_ + 1) c211 (l2_.flatMap itC))] [] ⟨⟨fun _ h => (by cases h; rfl), rfl⟩, trivial⟩ (by intro p hp hn; simp only [List.mem_cons, List.not_mem_nil, or_false] at hp; rcases hp with rfl <;> first | (cases hn; done) | exact hM240 _ (Nat.le_of_ble_eq_true rfl)) (fun ρ0 => ?_)
       refine Tk 0 14 1 B81 6 (.own 3701 0) hQ240 ?_
       refine XD.nilOwn (i := 1) (l' := (lb 14 3)) (oA B81 (pa 6) 1) (x := .tmp 9) (b := 3701) (off := 0) hQ240 (by kernel_rfl) (by kernel_rfl) (by kernel_rfl) (by kernel_rfl) (by kernel_rfl) (by kernel_rfl) ?_
       refine Tk 2 14 7 B81 6 (.own 3701 0) hQ240 ?_
       refine Tk 3 14 15 B81 6 (VL A211 (n1y_ + 1) c211) hQ240 ?_
       refine Tk 4 14 31 B81 6 (I6 (i2_ : Int)) hQ240 ?_
       have b242 : (0 : Int) ≤ (i2_ : Int) := by omega
       have b243 : (i2_ : Int) < ((n1y_ + 1 : Nat) : Int) := by omega
       have at244 : At G213 [(601, ⟨89, 5, .slice A211 (n1y_ + 1) c211, n1y_ + 1, l2_.flatMap itC⟩)] A211 (((i2_ : Int)).toNat * 5) [.int .i64 ((l2_.getD (((i2_ : Int)).toNat) it0).1), .int .i64 ((l2_.getD (((i2_ : Int)).toNat) it0).2.1), .int .i64 ((l2_.getD (((i2_ : Int)).toNat) it0).2.2.1), .int .i64 ((l2_.getD (((i2_ : Int)).toNat) it0).2.2.2.1), .int .u64 ((l2_.getD (((i2_ : Int)).toNat) it0).2.2.2.2)] := At.rowF itC itC_len (i := 601) (r := ⟨89, 5, .slice A211 (n1y_ + 1) c211, n1y_ + 1, l2_.flatMap itC⟩) it0 rfl rfl rfl (by rw [hln2_]; omega)
       refine Dx 5 14 63 B81 6 84 89 5 A211 (n1y_ + 1) c211 .i64 (i2_ : Int) (.tmp 12) (.tmp 13) hQ240 b242 b243 (rowSome (i := 601) (q := (RR 89 5 A211 (n1y_ + 1) c211 (l2_.flatMap itC))) rfl rfl (flat_pos itC_len (by decide) (by rw [hln2_]; omega))) ?_
       refine Tk 6 14 127 B81 6 (.own 3701 0) hQ240 ?_
       refine XD.nilOwn (i := 7) (l' := (lb 14 255)) (oA B81 (pa 6) 7) (x := .tmp 15) (b := 3701) (off := 0) hQ240 (by kernel_rfl) (by kernel_rfl) (by kernel_rfl) (by kernel_rfl) (by kernel_rfl) (by kernel_rfl) ?_
       refine Tk 8 14 511 B81 6 (.own 3701 0) hQ240 ?_
       refine Tk 9 14 1023 B81 6 (VL A211 (n1y_ + 1) c211) hQ240 ?_
       refine Tk 10 14 2047 B81 6 (I6 (((i2_ - 1) / 2 : Nat) : Int)) hQ240 ?_
       have b245 : (0 : Int) ≤ (((i2_ - 1) / 2 : Nat) : Int) := by omega
       have b246 : (((i2_ - 1) / 2 : Nat) : Int) < ((n1y_ + 1 : Nat) : Int) := by omega
       have at247 : At G213 [(601, ⟨89, 5, .slice A211 (n1y_ + 1) c211, n1y_ + 1, l2_.flatMap itC⟩)] A211 (((((i2_ - 1) / 2 : Nat) : Int)).toNat * 5) [.int .i64 ((l2_.getD (((((i2_ - 1) / 2 : Nat) : Int)).toNat) it0).1), .int .i64 ((l2_.getD (((((i2_ - 1) / 2 : Nat) : Int)).toNat) it0).2.1), .int .i64 ((l2_.getD (((((i2_ - 1) / 2 : Nat) : Int)).toNat) it0).2.2.1), .int .i64 ((l2_.getD (((((i2_ - 1) / 2 : Nat) : Int)).toNat) it0).2.2.2.1), .int .u64 ((l2_.getD (((((i2_ - 1) / 2 : Nat) : Int)).toNat) it0).2.2.2.2)] := At.rowF itC itC_len (i := 601) (r := ⟨89, 5, .slice A211 (n1y_ + 1) c211, n1y_ + 1, l2_.flatMap itC⟩) it0 rfl rfl rfl (by rw [hln2_]; omega)
       refine Dx 11 14 4095 B81 6 84 89 5 A211 (n1y_ + 1) c211 .i64 (((i2_ - 1) / 2 : Nat) : Int) (.tmp 18) (.tmp 19) hQ240 b245 b246 (rowSome (i := 601) (q := (RR 89 5 A211 (n1y_ + 1) c211 (l2_.flatMap itC))) rfl rfl (flat_pos itC_len (by decide) (by rw [hln2_]; omega))) ?_
       refine Ts [12, 13] 14 16383 0 2 hQ240 ?_
       refine XD.done (by kernel_rfl) ?_
       refine Rn 3 (Qc B81 28) [Qs B81 29, Qs B81 15] ⟨52, [(6, VB false), (7, .v (elt A211 (((i2_ : Int)).toNat * 5))), (8, .v (elt A211 (((((i2_ - 1) / 2 : Nat) : Int)).toNat * 5)))], [(3700, ⟨87, [VL Cx_ n1x_ c1x_, I7 qx_]⟩), (3701, ⟨87, [VL A211 (n1y_ + 1) c211, I7 (qy_ + 1)]⟩)]⟩ ?_
       have hra_d248 := hra
       have hrb_d248 := hrb
       have hrxx__d248 := hrxx_
       have hrxy__d248 := hrxy_
       refine Og 2 B81 28 11 [] [(601, RR 89 5 A211 (n1y_ + 1) c211 (l2_.flatMap itC))] [] trivial (by simp) (fun ρ0 => ?_)
       refine Tk 0 11 1 B81 28 (.v (elt A211 (((i2_ : Int)).toNat * 5))) hQ240 ?_
       refine XD.nilElt (i := 1) (l' := (lb 11 3)) (oA B81 (pa 28) 1) (x := .tmp 21) (A := A211) (j := ((i2_ : Int)).toNat * 5) hQ240 (by kernel_rfl) (by kernel_rfl) (by kernel_rfl) (by kernel_rfl) (by kernel_rfl) (by kernel_rfl) ?_
       refine XD.field (i := 2) (l' := (lb 11 7)) (o := (oA B81 (pa 28) 2)) (t := 89) (f := 0) (n := 0) (A := A211) (j := ((i2_ : Int)).toNat * 5) (x := .tmp 22) hQ240 (by kernel_rfl) (by kernel_rfl) (by kernel_rfl) (by kernel_rfl) (by kernel_rfl) (by kernel_rfl) (by kernel_rfl) ?_
       refine XD.field (i := 3) (l' := (lb 11 15)) (o := (oA B81 (pa 28) 3)) (t := 27) (f := 0) (n := 0) (A := A211) (j := ((i2_ : Int)).toNat * 5 + 0) (x := .tmp 23) hQ240 (by kernel_rfl) (by kernel_rfl) (by kernel_rfl) (by kernel_rfl) (by kernel_rfl) (by kernel_rfl) (by kernel_rfl) ?_
       have at249 : At G213 [(601, ⟨89, 5, .slice A211 (n1y_ + 1) c211, n1y_ + 1, l2_.flatMap itC⟩)] A211 (((i2_ : Int)).toNat * 5) [.int .i64 ((l2_.getD (((i2_ : Int)).toNat) it0).1), .int .i64 ((l2_.getD (((i2_ : Int)).toNat) it0).2.1), .int .i64 ((l2_.getD (((i2_ : Int)).toNat) it0).2.2.1), .int .i64 ((l2_.getD (((i2_ : Int)).toNat) it0).2.2.2.1), .int .u64 ((l2_.getD (((i2_ : Int)).toNat) it0).2.2.2.2)] := At.rowF itC itC_len (i := 601) (r := ⟨89, 5, .slice A211 (n1y_ + 1) c211, n1y_ + 1, l2_.flatMap itC⟩) it0 rfl rfl rfl (by rw [hln2_]; omega)
       refine Dl 4 11 31 B81 28 2 A211 (((i2_ : Int)).toNat * 5 + 0 + 0) (.tmp 24) (N6 ((l2_.getD (((i2_ : Int)).toNat) it0).1)) [N6 ((l2_.getD (((i2_ : Int)).toNat) it0).1)] hQ240 (at249.part 0 1) ?_
       refine Tk 5 11 63 B81 28 (.v (elt A211 (((((i2_ - 1) / 2 : Nat) : Int)).toNat * 5))) hQ240 ?_
       refine XD.nilElt (i := 6) (l' := (lb 11 127)) (oA B81 (pa 28) 6) (x := .tmp 26) (A := A211) (j := ((((i2_ - 1) / 2 : Nat) : Int)).toNat * 5) hQ240 (by kernel_rfl) (by kernel_rfl) (by kernel_rfl) (by kernel_rfl) (by kernel_rfl) (by kernel_rfl) ?_
       refine XD.field (i := 7) (l' := (lb 11 255)) (o := (oA B81 (pa 28) 7)) (t := 89) (f := 0) (n := 0) (A := A211) (j := ((((i2_ - 1) / 2 : Nat) : Int)).toNat * 5) (x := .tmp 27) hQ240 (by kernel_rfl) (by kernel_rfl) (by kernel_rfl) (by kernel_rfl) (by kernel_rfl) (by kernel_rfl) (by kernel_rfl) ?_
       refine XD.field (i := 8) (l' := (lb 11 511)) (o := (oA B81 (pa 28) 8)) (t := 27) (f := 0) (n := 0) (A := A211) (j := ((((i2_ - 1) / 2 : Nat) : Int)).toNat * 5 + 0) (x := .tmp 28) hQ240 (by kernel_rfl) (by kernel_rfl) (by kernel_rfl) (by kernel_rfl) (by kernel_rfl) (by kernel_rfl) (by kernel_rfl) ?_
       have at250 : At G213 [(601, ⟨89, 5, .slice A211 (n1y_ + 1) c211, n1y_ + 1, l2_.flatMap itC⟩)] A211 (((((i2_ - 1) / 2 : Nat) : Int)).toNat * 5) [.int .i64 ((l2_.getD (((((i2_ - 1) / 2 : Nat) : Int)).toNat) it0).1), .int .i64 ((l2_.getD (((((i2_ - 1) / 2 : Nat) : Int)).toNat) it0).2.1), .int .i64 ((l2_.getD (((((i2_ - 1) / 2 : Nat) : Int)).toNat) it0).2.2.1), .int .i64 ((l2_.getD (((((i2_ - 1) / 2 : Nat) : Int)).toNat) it0).2.2.2.1), .int .u64 ((l2_.getD (((((i2_ - 1) / 2 : Nat) : Int)).toNat) it0).2.2.2.2)] := At.rowF itC itC_len (i := 601) (r := ⟨89, 5, .slice A211 (n1y_ + 1) c211, n1y_ + 1, l2_.flatMap itC⟩) it0 rfl rfl rfl (by rw [hln2_]; omega)
       refine Dl 9 11 1023 B81 28 2 A211 (((((i2_ - 1) / 2 : Nat) : Int)).toNat * 5 + 0 + 0) (.tmp 29) (N6 ((l2_.getD (((((i2_ - 1) / 2 : Nat) : Int)).toNat) it0).1)) [N6 ((l2_.getD (((((i2_ - 1) / 2 : Nat) : Int)).toNat) it0).1)] hQ240 (at250.part 0 1) ?_
       refine Ts [10] 11 2047 0 1 hQ240 ?_
       refine XD.done (by kernel_rfl) ?_
       refine Rn 1 (Qc B81 29) [Qs B81 15] ⟨52, [(6, VB false), (7, .v (elt A211 (((i2_ : Int)).toNat * 5))), (8, .v (elt A211 (((((i2_ - 1) / 2 : Nat) : Int)).toNat * 5))), (31, VB (((l2_.getD (((i2_ : Int)).toNat) it0).1) != ((l2_.getD (((((i2_ - 1) / 2 : Nat) : Int)).toNat) it0).1)))], [(3700, ⟨87, [VL Cx_ n1x_ c1x_, I7 qx_]⟩), (3701, ⟨87, [VL A211 (n1y_ + 1) c211, I7 (qy_ + 1)]⟩)]⟩ ?_
       refine X.split 31 rfl (fun h251 => ?_) (fun h251 => ?_)
       ·
        replace h251 : ((l2_.getD (((i2_ : Int)).toNat) it0).1) ≠ ((l2_.getD (((((i2_ - 1) / 2 : Nat) : Int)).toNat) it0).1) := by simpa using h251
        refine Rn 2 (Qc B81 116) [Qs B81 117, Qs B81 15] ⟨52, [(6, VB false), (7, .v (elt A211 (((i2_ : Int)).toNat * 5))), (8, .v (elt A211 (((((i2_ - 1) / 2 : Nat) : Int)).toNat * 5)))], [(3700, ⟨87, [VL Cx_ n1x_ c1x_, I7 qx_]⟩), (3701, ⟨87, [VL A211 (n1y_ + 1) c211, I7 (qy_ + 1)]⟩)]⟩ ?_
        have hra_d252 := hra
        have hrb_d252 := hrb
        have hrxx__d252 := hrxx_
        have hrxy__d252 := hrxy_
        refine Og 3 B81 116 12 [] [(601, RR 89 5 A211 (n1y_ + 1) c211 (l2_.flatMap itC))] [] trivial (by simp) (fun ρ0 => ?_)
        refine Tk 0 12 1 B81 116 (.v (elt A211 (((i2_ : Int)).toNat * 5))) hQ240 ?_
        refine XD.nilElt (i := 1) (l' := (lb 12 3)) (oA B81 (pa 116) 1) (x := .tmp 32) (A := A211) (j := ((i2_ : Int)).toNat * 5) hQ240 (by kernel_rfl) (by kernel_rfl) (by kernel_rfl) (by kernel_rfl) (by kernel_rfl) (by kernel_rfl) ?_
        refine XD.field (i := 2) (l' := (lb 12 7)) (o := (oA B81 (pa 116) 2)) (t := 89) (f := 0) (n := 0) (A := A211) (j := ((i2_ : Int)).toNat * 5) (x := .tmp 33) hQ240 (by kernel_rfl) (by kernel_rfl) (by kernel_rfl) (by kernel_rfl) (by kernel_rfl) (by kernel_rfl) (by kernel_rfl) ?_
        refine XD.field (i := 3) (l' := (lb 12 15)) (o := (oA B81 (pa 116) 3)) (t := 27) (f := 0) (n := 0) (A := A211) (j := ((i2_ : Int)).toNat * 5 + 0) (x := .tmp 34) hQ240 (by kernel_rfl) (by kernel_rfl) (by kernel_rfl) (by kernel_rfl) (by kernel_rfl) (by kernel_rfl) (by kernel_rfl) ?_
        have at253 : At G213 [(601, ⟨89, 5, .slice A211 (n1y_ + 1) c211, n1y_ + 1, l2_.flatMap itC⟩)] A211 (((i2_ : Int)).toNat * 5) [.int .i64 ((l2_.getD (((i2_ : Int)).toNat) it0).1), .int .i64 ((l2_.getD (((i2_ : Int)).toNat) it0).2.1), .int .i64 ((l2_.getD (((i2_ : Int)).toNat) it0).2.2.1), .int .i64 ((l2_.getD (((i2_ : Int)).toNat) it0).2.2.2.1), .int .u64 ((l2_.getD (((i2_ : Int)).toNat) it0).2.2.2.2)] := At.rowF itC itC_len (i := 601) (r := ⟨89, 5, .slice A211 (n1y_ + 1) c211, n1y_ + 1, l2_.flatMap itC⟩) it0 rfl rfl rfl (by rw [hln2_]; omega)
        refine Dl 4 12 31 B81 116 2 A211 (((i2_ : Int)).toNat * 5 + 0 + 0) (.tmp 35) (N6 ((l2_.getD (((i2_ : Int)).toNat) it0).1)) [N6 ((l2_.getD (((i2_ : Int)).toNat) it0).1)] hQ240 (at253.part 0 1) ?_
        refine Tk 5 12 63 B81 116 (.v (elt A211 (((((i2_ - 1) / 2 : Nat) : Int)).toNat * 5))) hQ240 ?_
        refine XD.nilElt (i := 6) (l' := (lb 12 127)) (oA B81 (pa 116) 6) (x := .tmp 37) (A := A211) (j := ((((i2_ - 1) / 2 : Nat) : Int)).toNat * 5) hQ240 (by kernel_rfl) (by kernel_rfl) (by kernel_rfl) (by kernel_rfl) (by kernel_rfl) (by kernel_rfl) ?_
        refine XD.field (i := 7) (l' := (lb 12 255)) (o := (oA B81 (pa 116) 7)) (t := 89) (f := 0) (n := 0) (A := A211) (j := ((((i2_ - 1) / 2 : Nat) : Int)).toNat * 5) (x := .tmp 38) hQ240 (by kernel_rfl) (by kernel_rfl) (by kernel_rfl) (by kernel_rfl) (by kernel_rfl) (by kernel_rfl) (by kernel_rfl) ?_
        refine XD.field (i := 8) (l' := (lb 12 511)) (o := (oA B81 (pa 116) 8)) (t := 27) (f := 0) (n := 0) (A := A211) (j := ((((i2_ - 1) / 2 : Nat) : Int)).toNat * 5 + 0) (x := .tmp 39) hQ240 (by kernel_rfl) (by kernel_rfl) (by kernel_rfl) (by kernel_rfl) (by kernel_rfl) (by kernel_rfl) (by kernel_rfl) ?_
        have at254 : At G213 [(601, ⟨89, 5, .slice A211 (n1y_ + 1) c211, n1y_ + 1, l2_.flatMap itC⟩)] A211 (((((i2_ - 1) / 2 : Nat) : Int)).toNat * 5) [.int .i64 ((l2_.getD (((((i2_ - 1) / 2 : Nat) : Int)).toNat) it0).1), .int .i64 ((l2_.getD (((((i2_ - 1) / 2 : Nat) : Int)).toNat) it0).2.1), .int .i64 ((l2_.getD (((((i2_ - 1) / 2 : Nat) : Int)).toNat) it0).2.2.1), .int .i64 ((l2_.getD (((((i2_ - 1) / 2 : Nat) : Int)).toNat) it0).2.2.2.1), .int .u64 ((l2_.getD (((((i2_ - 1) / 2 : Nat) : Int)).toNat) it0).2.2.2.2)] := At.rowF itC itC_len (i := 601) (r := ⟨89, 5, .slice A211 (n1y_ + 1) c211, n1y_ + 1, l2_.flatMap itC⟩) it0 rfl rfl rfl (by rw [hln2_]; omega)
        refine Dl 9 12 1023 B81 116 2 A211 (((((i2_ - 1) / 2 : Nat) : Int)).toNat * 5 + 0 + 0) (.tmp 40) (N6 ((l2_.getD (((((i2_ - 1) / 2 : Nat) : Int)).toNat) it0).1)) [N6 ((l2_.getD (((((i2_ - 1) / 2 : Nat) : Int)).toNat) it0).1)] hQ240 (at254.part 0 1) ?_
        refine Ts [10, 11] 12 4095 0 2 hQ240 ?_
        refine XD.done (by kernel_rfl) ?_
        refine Rn 3 (.ex .ret) [] ⟨52, [(6, VB (decide ((l2_.getD (((i2_ : Int)).toNat) it0).1 < (l2_.getD (((((i2_ - 1) / 2 : Nat) : Int)).toNat) it0).1)))], [(3700, ⟨87, [VL Cx_ n1x_ c1x_, I7 qx_]⟩), (3701, ⟨87, [VL A211 (n1y_ + 1) c211, I7 (qy_ + 1)]⟩)]⟩ ?_
        refine fin240 _ _ _ _ [.bool (decide ((l2_.getD (((i2_ : Int)).toNat) it0).1 < (l2_.getD (((((i2_ - 1) / 2 : Nat) : Int)).toNat) it0).1))] [(2700, ⟨87, [VL Cx_ n1x_ c1x_, I7 qx_]⟩), (2701, ⟨87, [VL A211 (n1y_ + 1) c211, I7 (qy_ + 1)]⟩)] (.inl rfl) (by kernel_rfl) (by kernel_rfl) ?_
        refine Rn 3 (Qc B49 149) [Qs B49 75, .blk 1, .loop J213, .blk 0] ⟨42, [(0, .own 2701 0), (1, I6 (i2_ : Int)), (4, I6 (((i2_ - 1) / 2 : Nat) : Int)), (14, VB (!(decide ((l2_.getD (((i2_ : Int)).toNat) it0).1 < (l2_.getD (((((i2_ - 1) / 2 : Nat) : Int)).toNat) it0).1))))], [(2700, ⟨87, [VL Cx_ n1x_ c1x_, I7 qx_]⟩), (2701, ⟨87, [VL A211 (n1y_ + 1) c211, I7 (qy_ + 1)]⟩)]⟩ ?_
        refine X.castS ⟨42, [(0, .own 2701 0), (1, I6 (i2_ : Int)), (4, I6 (((i2_ - 1) / 2 : Nat) : Int)), (14, VB (!(decide (ltI (l2_.getD ((i2_ : Int)).toNat it0) (l2_.getD ((((i2_ - 1) / 2 : Nat) : Int)).toNat it0)))))], [(2700, ⟨87, [VL Cx_ n1x_ c1x_, I7 qx_]⟩), (2701, ⟨87, [VL A211 (n1y_ + 1) c211, I7 (qy_ + 1)]⟩)]⟩ (congrArg (fun zb_ : Bool => (⟨42, [(0, .own 2701 0), (1, I6 (i2_ : Int)), (4, I6 (((i2_ - 1) / 2 : Nat) : Int)), (14, VB zb_)], [(2700, ⟨87, [VL Cx_ n1x_ c1x_, I7 qx_]⟩), (2701, ⟨87, [VL A211 (n1y_ + 1) c211, I7 (qy_ + 1)]⟩)]⟩ : S)) (show (!(decide ((l2_.getD (((i2_ : Int)).toNat) it0).1 < (l2_.getD (((((i2_ - 1) / 2 : Nat) : Int)).toNat) it0).1))) = (!(decide (ltI (l2_.getD ((i2_ : Int)).toNat it0) (l2_.getD ((((i2_ - 1) / 2 : Nat) : Int)).toNat it0)))) by first | exact congrArg (fun b_ => !b_) (decide_eq_decide.mpr (by unfold ltI; omega)) | exact decide_eq_decide.mpr (by unfold ltI; omega))) ?_
        exact hY215 _ (Ge.refl _ _)
       ·
        replace h251 : ((l2_.getD (((i2_ : Int)).toNat) it0).1) = ((l2_.getD (((((i2_ - 1) / 2 : Nat) : Int)).toNat) it0).1) := by simpa using h251
        refine Rn 4 (Qc B81 30) [Qs B81 31] ⟨52, [(6, VB false), (7, .v (elt A211 (((i2_ : Int)).toNat * 5))), (8, .v (elt A211 (((((i2_ - 1) / 2 : Nat) : Int)).toNat * 5)))], [(3700, ⟨87, [VL Cx_ n1x_ c1x_, I7 qx_]⟩), (3701, ⟨87, [VL A211 (n1y_ + 1) c211, I7 (qy_ + 1)]⟩)]⟩ ?_
        have hra_d255 := hra
        have hrb_d255 := hrb
        have hrxx__d255 := hrxx_
        have hrxy__d255 := hrxy_
        refine Og 4 B81 30 10 [] [(601, RR 89 5 A211 (n1y_ + 1) c211 (l2_.flatMap itC))] [] trivial (by simp) (fun ρ0 => ?_)
        refine Tk 0 10 1 B81 30 (.v (elt A211 (((i2_ : Int)).toNat * 5))) hQ240 ?_
        refine XD.nilElt (i := 1) (l' := (lb 10 3)) (oA B81 (pa 30) 1) (x := .tmp 43) (A := A211) (j := ((i2_ : Int)).toNat * 5) hQ240 (by kernel_rfl) (by kernel_rfl) (by kernel_rfl) (by kernel_rfl) (by kernel_rfl) (by kernel_rfl) ?_
        refine XD.field (i := 2) (l' := (lb 10 7)) (o := (oA B81 (pa 30) 2)) (t := 89) (f := 1) (n := 4) (A := A211) (j := ((i2_ : Int)).toNat * 5) (x := .tmp 44) hQ240 (by kernel_rfl) (by kernel_rfl) (by kernel_rfl) (by kernel_rfl) (by kernel_rfl) (by kernel_rfl) (by kernel_rfl) ?_
        have at256 : At G213 [(601, ⟨89, 5, .slice A211 (n1y_ + 1) c211, n1y_ + 1, l2_.flatMap itC⟩)] A211 (((i2_ : Int)).toNat * 5) [.int .i64 ((l2_.getD (((i2_ : Int)).toNat) it0).1), .int .i64 ((l2_.getD (((i2_ : Int)).toNat) it0).2.1), .int .i64 ((l2_.getD (((i2_ : Int)).toNat) it0).2.2.1), .int .i64 ((l2_.getD (((i2_ : Int)).toNat) it0).2.2.2.1), .int .u64 ((l2_.getD (((i2_ : Int)).toNat) it0).2.2.2.2)] := At.rowF itC itC_len (i := 601) (r := ⟨89, 5, .slice A211 (n1y_ + 1) c211, n1y_ + 1, l2_.flatMap itC⟩) it0 rfl rfl rfl (by rw [hln2_]; omega)
        refine Dl 3 10 15 B81 30 85 A211 (((i2_ : Int)).toNat * 5 + 4) (.tmp 45) (N7 ((l2_.getD (((i2_ : Int)).toNat) it0).2.2.2.2)) [N7 ((l2_.getD (((i2_ : Int)).toNat) it0).2.2.2.2)] hQ240 (at256.part 4 1) ?_
        refine Tk 4 10 31 B81 30 (.v (elt A211 (((((i2_ - 1) / 2 : Nat) : Int)).toNat * 5))) hQ240 ?_
        refine XD.nilElt (i := 5) (l' := (lb 10 63)) (oA B81 (pa 30) 5) (x := .tmp 47) (A := A211) (j := ((((i2_ - 1) / 2 : Nat) : Int)).toNat * 5) hQ240 (by kernel_rfl) (by kernel_rfl) (by kernel_rfl) (by kernel_rfl) (by kernel_rfl) (by kernel_rfl) ?_
        refine XD.field (i := 6) (l' := (lb 10 127)) (o := (oA B81 (pa 30) 6)) (t := 89) (f := 1) (n := 4) (A := A211) (j := ((((i2_ - 1) / 2 : Nat) : Int)).toNat * 5) (x := .tmp 48) hQ240 (by kernel_rfl) (by kernel_rfl) (by kernel_rfl) (by kernel_rfl) (by kernel_rfl) (by kernel_rfl) (by kernel_rfl) ?_
        have at257 : At G213 [(601, ⟨89, 5, .slice A211 (n1y_ + 1) c211, n1y_ + 1, l2_.flatMap itC⟩)] A211 (((((i2_ - 1) / 2 : Nat) : Int)).toNat * 5) [.int .i64 ((l2_.getD (((((i2_ - 1) / 2 : Nat) : Int)).toNat) it0).1), .int .i64 ((l2_.getD (((((i2_ - 1) / 2 : Nat) : Int)).toNat) it0).2.1), .int .i64 ((l2_.getD (((((i2_ - 1) / 2 : Nat) : Int)).toNat) it0).2.2.1), .int .i64 ((l2_.getD (((((i2_ - 1) / 2 : Nat) : Int)).toNat) it0).2.2.2.1), .int .u64 ((l2_.getD (((((i2_ - 1) / 2 : Nat) : Int)).toNat) it0).2.2.2.2)] := At.rowF itC itC_len (i := 601) (r := ⟨89, 5, .slice A211 (n1y_ + 1) c211, n1y_ + 1, l2_.flatMap itC⟩) it0 rfl rfl rfl (by rw [hln2_]; omega)
        refine Dl 7 10 255 B81 30 85 A211 (((((i2_ - 1) / 2 : Nat) : Int)).toNat * 5 + 4) (.tmp 49) (N7 ((l2_.getD (((((i2_ - 1) / 2 : Nat) : Int)).toNat) it0).2.2.2.2)) [N7 ((l2_.getD (((((i2_ - 1) / 2 : Nat) : Int)).toNat) it0).2.2.2.2)] hQ240 (at257.part 4 1) ?_
        refine Ts [8, 9] 10 1023 0 2 hQ240 ?_
        refine XD.done (by kernel_rfl) ?_
        refine Rn 2 (.ex .ret) [] ⟨52, [(6, VB (decide ((l2_.getD (((i2_ : Int)).toNat) it0).2.2.2.2 < (l2_.getD (((((i2_ - 1) / 2 : Nat) : Int)).toNat) it0).2.2.2.2)))], [(3700, ⟨87, [VL Cx_ n1x_ c1x_, I7 qx_]⟩), (3701, ⟨87, [VL A211 (n1y_ + 1) c211, I7 (qy_ + 1)]⟩)]⟩ ?_
        refine fin240 _ _ _ _ [.bool (decide ((l2_.getD (((i2_ : Int)).toNat) it0).2.2.2.2 < (l2_.getD (((((i2_ - 1) / 2 : Nat) : Int)).toNat) it0).2.2.2.2))] [(2700, ⟨87, [VL Cx_ n1x_ c1x_, I7 qx_]⟩), (2701, ⟨87, [VL A211 (n1y_ + 1) c211, I7 (qy_ + 1)]⟩)] (.inl rfl) (by kernel_rfl) (by kernel_rfl) ?_
        refine Rn 3 (Qc B49 149) [Qs B49 75, .blk 1, .loop J213, .blk 0] ⟨42, [(0, .own 2701 0), (1, I6 (i2_ : Int)), (4, I6 (((i2_ - 1) / 2 : Nat) : Int)), (14, VB (!(decide ((l2_.getD (((i2_ : Int)).toNat) it0).2.2.2.2 < (l2_.getD (((((i2_ - 1) / 2 : Nat) : Int)).toNat) it0).2.2.2.2))))], [(2700, ⟨87, [VL Cx_ n1x_ c1x_, I7 qx_]⟩), (2701, ⟨87, [VL A211 (n1y_ + 1) c211, I7 (qy_ + 1)]⟩)]⟩ ?_
        refine X.castS ⟨42, [(0, .own 2701 0), (1, I6 (i2_ : Int)), (4, I6 (((i2_ - 1) / 2 : Nat) : Int)), (14, VB (!(decide (ltI (l2_.getD ((i2_ : Int)).toNat it0) (l2_.getD ((((i2_ - 1) / 2 : Nat) : Int)).toNat it0)))))], [(2700, ⟨87, [VL Cx_ n1x_ c1x_, I7 qx_]⟩), (2701, ⟨87, [VL A211 (n1y_ + 1) c211, I7 (qy_ + 1)]⟩)]⟩ (congrArg (fun zb_ : Bool => (⟨42, [(0, .own 2701 0), (1, I6 (i2_ : Int)), (4, I6 (((i2_ - 1) / 2 : Nat) : Int)), (14, VB zb_)], [(2700, ⟨87, [VL Cx_ n1x_ c1x_, I7 qx_]⟩), (2701, ⟨87, [VL A211 (n1y_ + 1) c211, I7 (qy_ + 1)]⟩)]⟩ : S)) (show (!(decide ((l2_.getD (((i2_ : Int)).toNat) it0).2.2.2.2 < (l2_.getD (((((i2_ - 1) / 2 : Nat) : Int)).toNat) it0).2.2.2.2))) = (!(decide (ltI (l2_.getD ((i2_ : Int)).toNat it0) (l2_.getD ((((i2_ - 1) / 2 : Nat) : Int)).toNat it0)))) by first | exact congrArg (fun b_ => !b_) (decide_eq_decide.mpr (by unfold ltI; omega)) | exact decide_eq_decide.mpr (by unfold ltI; omega))) ?_
        exact hY215 _ (Ge.refl _ _)
     ·
      replace h214 : ¬ ((i2_ : Int) > 0) := of_decide_eq_false h214
      have hh2_ : HeapFrom l2_ 0 := up_end hup_ (.inl (by omega))
      refine Rn 5 (.ex .normal) [] ⟨42, [], [(2700, ⟨87, [VL Cx_ n1x_ c1x_, I7 qx_]⟩), (2701, ⟨87, [VL A211 (n1y_ + 1) c211, I7 (qy_ + 1)]⟩)]⟩ ?_
      refine fin212 _ _ _ _ [] [(1700, ⟨87, [VL Cx_ n1x_ c1x_, I7 qx_]⟩), (1701, ⟨87, [VL A211 (n1y_ + 1) c211, I7 (qy_ + 1)]⟩)] (.inr rfl) (by kernel_rfl) (by kernel_rfl) ?_
      refine Rn 1 (.ex .normal) [] ⟨36, [], [(1700, ⟨87, [VL Cx_ n1x_ c1x_, I7 qx_]⟩), (1701, ⟨87, [VL A211 (n1y_ + 1) c211, I7 (qy_ + 1)]⟩)]⟩ ?_
      refine fin208 _ _ _ _ [] [(700, ⟨87, [VL Cx_ n1x_ c1x_, I7 qx_]⟩), (701, ⟨87, [VL A211 (n1y_ + 1) c211, I7 (qy_ + 1)]⟩)] (.inr rfl) (by kernel_rfl) (by kernel_rfl) ?_
      refine Rn 6 (Qo B13 8009 3) [.blk 3, Qs B13 2003, .loop J4, .blk 2, Qs B13 63] ⟨165, [(1, VL A2 eb.length d), (4, VB false), (5, .own 700 0), (6, .own 701 0), (7, VL Xx_ xsx_.length cxx_), (8, VL Xy_ xsy_.length cxy_), (10, I6 (ib_ : Int)), (58, VL Xy_ xsy_.length cxy_), (59, VL A2 eb.length d), (60, I6 (ib_ : Int))], [(700, ⟨87, [VL Cx_ n1x_ c1x_, I7 qx_]⟩), (701, ⟨87, [VL A211 (n1y_ + 1) c211, I7 (qy_ + 1)]⟩)]⟩ ?_
      have b258 : (0 : Int) ≤ (ib_ : Int) := by omega
      have b259 : (ib_ : Int) < ((eb.length : Nat) : Int) := by omega
      refine Ix 80 27 4 A2 eb.length d .i64 (ib_ : Int) (.tmp 59) (.tmp 60) b258 b259 (fun _ _ => rowAt.so hrb (by omega)) ?_
      have at260 := At.ev [(601, ⟨89, 5, .slice A211 (n1y_ + 1) c211, n1y_ + 1, l2_.flatMap itC⟩), (17, ⟨89, 5, .slice A210 1 1, 1, [.int .i64 ((eb.getD (((ib_ : Int)).toNat) ev0).1), .int .i64 ((eb.getD (((ib_ : Int)).toNat) ev0).2.1), .int .i64 ((eb.getD (((ib_ : Int)).toNat) ev0).2.2.1), .int .i64 ((eb.getD (((ib_ : Int)).toNat) ev0).2.2.2), .int .u64 qy_]⟩), (600, ⟨89, 5, .slice Cx_ n1x_ c1x_, n1x_, l1x_.flatMap itC⟩)] hrb (((ib_ : Int)).toNat) (by omega)
      simp only [evC] at at260
      refine Rn 0 (Qo B13 8009 4) [.blk 3, Qs B13 2003, .loop J4, .blk 2, Qs B13 63] ⟨165, [(1, VL A2 eb.length d), (4, VB false), (5, .own 700 0), (6, .own 701 0), (7, VL Xx_ xsx_.length cxx_), (8, VL Xy_ xsy_.length cxy_), (10, I6 (ib_ : Int)), (58, VL Xy_ xsy_.length cxy_), (61, .v (elt A2 (((ib_ : Int)).toNat * 4)))], [(700, ⟨87, [VL Cx_ n1x_ c1x_, I7 qx_]⟩), (701, ⟨87, [VL A211 (n1y_ + 1) c211, I7 (qy_ + 1)]⟩)]⟩ ?_
      refine Ld 27 A2 (((ib_ : Int)).toNat * 4) (.tmp 61) (.agg #[N6 ((eb.getD (((ib_ : Int)).toNat) ev0).1), N6 ((eb.getD (((ib_ : Int)).toNat) ev0).2.1), N6 ((eb.getD (((ib_ : Int)).toNat) ev0).2.2.1), N6 ((eb.getD (((ib_ : Int)).toNat) ev0).2.2.2)]) [N6 ((eb.getD (((ib_ : Int)).toNat) ev0).1), N6 ((eb.getD (((ib_ : Int)).toNat) ev0).2.1), N6 ((eb.getD (((ib_ : Int)).toNat) ev0).2.2.1), N6 ((eb.getD (((ib_ : Int)).toNat) ev0).2.2.2)] at260 ?_
      refine Rn 0 (Qo B13 8009 5) [.blk 3, Qs B13 2003, .loop J4, .blk 2, Qs B13 63] ⟨165, [(1, VL A2 eb.length d), (4, VB false), (5, .own 700 0), (6, .own 701 0), (7, VL Xx_ xsx_.length cxx_), (8, VL Xy_ xsy_.length cxy_), (10, I6 (ib_ : Int)), (58, VL Xy_ xsy_.length cxy_), (62, .v (.agg #[N6 ((eb.getD (((ib_ : Int)).toNat) ev0).1), N6 ((eb.getD (((ib_ : Int)).toNat) ev0).2.1), N6 ((eb.getD (((ib_ : Int)).toNat) ev0).2.2.1), N6 ((eb.getD (((ib_ : Int)).toNat) ev0).2.2.2)]))], [(700, ⟨87, [VL Cx_ n1x_ c1x_, I7 qx_]⟩), (701, ⟨87, [VL A211 (n1y_ + 1) c211, I7 (qy_ + 1)]⟩)]⟩ ?_
      refine Cg 31 [.agg #[N6 ((eb.getD (((ib_ : Int)).toNat) ev0).1), N6 ((eb.getD (((ib_ : Int)).toNat) ev0).2.1), N6 ((eb.getD (((ib_ : Int)).toNat) ev0).2.2.1), N6 ((eb.getD (((ib_ : Int)).toNat) ev0).2.2.2)]] 0 (event_ok ((eb.getD (((ib_ : Int)).toNat) ev0).1) ((eb.getD (((ib_ : Int)).toNat) ev0).2.1) ((eb.getD (((ib_ : Int)).toNat) ev0).2.2.1) ((eb.getD (((ib_ : Int)).toNat) ev0).2.2.2) _) ?_
      rintro v261 G261 rows261 hG261 ⟨rfl, rfl⟩
      replace hra := hra.mono hG261.le
      replace hrb := hrb.mono hG261.le
      replace hrxx_ := hrxx_.mono hG261.le
      replace hrxy_ := hrxy_.mono hG261.le
      refine Rn 0 (Qo B13 8009 6) [.blk 3, Qs B13 2003, .loop J4, .blk 2, Qs B13 63] ⟨165, [(1, VL A2 eb.length d), (4, VB false), (5, .own 700 0), (6, .own 701 0), (7, VL Xx_ xsx_.length cxx_), (8, VL Xy_ xsy_.length cxy_), (10, I6 (ib_ : Int)), (58, VL Xy_ xsy_.length cxy_), (63, .v (.agg #[N6 ((eb.getD (((ib_ : Int)).toNat) ev0).1), N6 ((eb.getD (((ib_ : Int)).toNat) ev0).2.1), N6 ((eb.getD (((ib_ : Int)).toNat) ev0).2.2.1), N6 ((eb.getD (((ib_ : Int)).toNat) ev0).2.2.2)]))], [(700, ⟨87, [VL Cx_ n1x_ c1x_, I7 qx_]⟩), (701, ⟨87, [VL A211 (n1y_ + 1) c211, I7 (qy_ + 1)]⟩)]⟩ ?_
      refine Cg 30 [.slice Xy_ xsy_.length cxy_, .agg #[N6 ((eb.getD (((ib_ : Int)).toNat) ev0).1), N6 ((eb.getD (((ib_ : Int)).toNat) ev0).2.1), N6 ((eb.getD (((ib_ : Int)).toNat) ev0).2.2.1), N6 ((eb.getD (((ib_ : Int)).toNat) ev0).2.2.2)]] 561 (rPush_ok Xy_ cxy_ xsy_ ((eb.getD (((ib_ : Int)).toNat) ev0).1) ((eb.getD (((ib_ : Int)).toNat) ev0).2.1) ((eb.getD (((ib_ : Int)).toNat) ev0).2.2.1) ((eb.getD (((ib_ : Int)).toNat) ev0).2.2.2) _ hrxy_ hlxy_ hmxy_ (by omega)) ?_
      rintro v262 G262 rows262 hG262 ⟨A262, c262, rfl, rfl⟩
      replace hra := hra.mono hG262.le
      replace hrb := hrb.mono hG262.le
      replace hrxx_ := hrxx_.mono hG262.le
      replace hrxy_ := hrxy_.mono hG262.le
      refine X.asR (R' := [(561, RR 66 4 A262 ((insE xsy_ ((eb.getD (((ib_ : Int)).toNat) ev0).1, (eb.getD (((ib_ : Int)).toNat) ev0).2.1, (eb.getD (((ib_ : Int)).toNat) ev0).2.2.1, (eb.getD (((ib_ : Int)).toNat) ev0).2.2.2)).length) c262 ((insE xsy_ ((eb.getD (((ib_ : Int)).toNat) ev0).1, (eb.getD (((ib_ : Int)).toNat) ev0).2.1, (eb.getD (((ib_ : Int)).toNat) ev0).2.2.1, (eb.getD (((ib_ : Int)).toNat) ev0).2.2.2)).flatMap evC)), (601, RR 89 5 A211 (n1y_ + 1) c211 (l2_.flatMap itC)), (17, RR 89 5 A210 1 1 [N6 ((eb.getD (((ib_ : Int)).toNat) ev0).1), N6 ((eb.getD (((ib_ : Int)).toNat) ev0).2.1), N6 ((eb.getD (((ib_ : Int)).toNat) ev0).2.2.1), N6 ((eb.getD (((ib_ : Int)).toNat) ev0).2.2.2), N7 qy_]), (600, RR 89 5 Cx_ n1x_ c1x_ (l1x_.flatMap itC))]) rfl ?_
      refine X.tellR [561, 601, 17, 600] (R' := [(561, RR 66 4 A262 ((insE xsy_ ((eb.getD (((ib_ : Int)).toNat) ev0).1, (eb.getD (((ib_ : Int)).toNat) ev0).2.1, (eb.getD (((ib_ : Int)).toNat) ev0).2.2.1, (eb.getD (((ib_ : Int)).toNat) ev0).2.2.2)).length) c262 ((insE xsy_ ((eb.getD (((ib_ : Int)).toNat) ev0).1, (eb.getD (((ib_ : Int)).toNat) ev0).2.1, (eb.getD (((ib_ : Int)).toNat) ev0).2.2.1, (eb.getD (((ib_ : Int)).toNat) ev0).2.2.2)).flatMap evC)), (601, RR 89 5 A211 (n1y_ + 1) c211 (l2_.flatMap itC)), (17, RR 89 5 A210 1 1 [N6 ((eb.getD (((ib_ : Int)).toNat) ev0).1), N6 ((eb.getD (((ib_ : Int)).toNat) ev0).2.1), N6 ((eb.getD (((ib_ : Int)).toNat) ev0).2.2.1), N6 ((eb.getD (((ib_ : Int)).toNat) ev0).2.2.2), N7 qy_]), (600, RR 89 5 Cx_ n1x_ c1x_ (l1x_.flatMap itC))]) rfl ?_
      refine X.capLe (i := 561) (q := (RR 66 4 A262 ((insE xsy_ ((eb.getD (((ib_ : Int)).toNat) ev0).1, (eb.getD (((ib_ : Int)).toNat) ev0).2.1, (eb.getD (((ib_ : Int)).toNat) ev0).2.2.1, (eb.getD (((ib_ : Int)).toNat) ev0).2.2.2)).length) c262 ((insE xsy_ ((eb.getD (((ib_ : Int)).toNat) ev0).1, (eb.getD (((ib_ : Int)).toNat) ev0).2.1, (eb.getD (((ib_ : Int)).toNat) ev0).2.2.1, (eb.getD (((ib_ : Int)).toNat) ev0).2.2.2)).flatMap evC))) (n := (insE xsy_ ((eb.getD (((ib_ : Int)).toNat) ev0).1, (eb.getD (((ib_ : Int)).toNat) ev0).2.1, (eb.getD (((ib_ : Int)).toNat) ev0).2.2.1, (eb.getD (((ib_ : Int)).toNat) ev0).2.2.2)).length) (c := c262) (A := A262) rfl rfl ?_
      intro hle263 hmx263
      refine X.freezeT (d := evD) (i := 561) (n := (insE xsy_ ((eb.getD (((ib_ : Int)).toNat) ev0).1, (eb.getD (((ib_ : Int)).toNat) ev0).2.1, (eb.getD (((ib_ : Int)).toNat) ev0).2.2.1, (eb.getD (((ib_ : Int)).toNat) ev0).2.2.2)).length) (c := c262) (A := A262) ((insE xsy_ ((eb.getD (((ib_ : Int)).toNat) ev0).1, (eb.getD (((ib_ : Int)).toNat) ev0).2.1, (eb.getD (((ib_ : Int)).toNat) ev0).2.2.1, (eb.getD (((ib_ : Int)).toNat) ev0).2.2.2))) rfl (by decide) (fun _ _ => evD_reps) (by kernel_rfl) (fun _ h => h) ?_
      intro G263 hG263 hr263
      replace hra := hra.mono hG263.le
      replace hrb := hrb.mono hG263.le
      replace hrxx_ := hrxx_.mono hG263.le
      replace hrxy_ := hrxy_.mono hG263.le
      refine Rn 7 (Qo B13 2003 2) [.loop J4, .blk 2, Qs B13 63] ⟨165, [(1, VL A2 eb.length d), (4, VB false), (5, .own 700 0), (6, .own 701 0), (7, VL Xx_ xsx_.length cxx_), (8, VL A262 ((insE xsy_ ((eb.getD (((ib_ : Int)).toNat) ev0).1, (eb.getD (((ib_ : Int)).toNat) ev0).2.1, (eb.getD (((ib_ : Int)).toNat) ev0).2.2.1, (eb.getD (((ib_ : Int)).toNat) ev0).2.2.2)).length) c262), (10, I6 (ib_ : Int)), (51, I6 (IntKind.i64.wrap ((ib_ : Int) + 1)))], [(700, ⟨87, [VL Cx_ n1x_ c1x_, I7 qx_]⟩), (701, ⟨87, [VL A211 (n1y_ + 1) c211, I7 (qy_ + 1)]⟩)]⟩ ?_
      refine Kn 51 .i64 ((ib_ : Int) + 1) rfl (wi64 (by omega) (by omega)) ?_
      refine Rn 2 (.ex .normal) [.loop J4, .blk 2, Qs B13 63] ⟨165, [(1, VL A2 eb.length d), (4, VB false), (5, .own 700 0), (6, .own 701 0), (7, VL Xx_ xsx_.length cxx_), (8, VL A262 ((insE xsy_ ((eb.getD (((ib_ : Int)).toNat) ev0).1, (eb.getD (((ib_ : Int)).toNat) ev0).2.1, (eb.getD (((ib_ : Int)).toNat) ev0).2.2.1, (eb.getD (((ib_ : Int)).toNat) ev0).2.2.2)).length) c262), (10, I6 ((ib_ : Int) + 1))], [(700, ⟨87, [VL Cx_ n1x_ c1x_, I7 qx_]⟩), (701, ⟨87, [VL A211 (n1y_ + 1) c211, I7 (qy_ + 1)]⟩)]⟩ ?_
      refine X.tellR [601, 600] (R' := [(601, RR 89 5 A211 (n1y_ + 1) c211 (l2_.flatMap itC)), (600, RR 89 5 Cx_ n1x_ c1x_ (l1x_.flatMap itC))]) rfl ?_
      exact X.again (hJ4 _ _ _ _ ⟨A211, c211, (n1y_ + 1), l2_, (qy_ + 1), A262, c262, (insE xsy_ ((eb.getD (((ib_ : Int)).toNat) ev0).1, (eb.getD (((ib_ : Int)).toNat) ev0).2.1, (eb.getD (((ib_ : Int)).toNat) ev0).2.2.1, (eb.getD (((ib_ : Int)).toNat) ev0).2.2.2)), (ib_ + 1), rfl, rfl, ((((hG4.trans hG213).trans hG261).trans hG262).trans hG263), ⟨⟨by omega, by omega⟩, hln2_, plays_push (x := ((eb.getD ib_ ev0).1, (eb.getD ib_ ev0).2.1, (eb.getD ib_ ev0).2.2.1, (eb.getD ib_ ev0).2.2.2, qy_)) hPy_ rfl hh2_ (by rw [← hl211] at hpm_; exact hpm_), ⟨by omega, by omega, by omega⟩, hle263, by have h_ := hmx263; simp only [maxLen] at h_ ⊢; omega, hr263⟩, rfl⟩ (by omega))
    ·
     replace h204 : ¬ ((ib_ : Int) < 50) := of_decide_eq_false h204
     refine Rn 3 (.ex (.exit 2)) [.loop J4, .blk 2, Qs B13 63] ⟨165, [(1, VL A2 eb.length d), (4, VB false), (5, .own 700 0), (6, .own 701 0), (7, VL Xx_ xsx_.length cxx_), (8, VL Xy_ xsy_.length cxy_), (10, I6 (ib_ : Int))], [(700, ⟨87, [VL Cx_ n1x_ c1x_, I7 qx_]⟩), (701, ⟨87, [VL Cy_ n1y_ c1y_, I7 qy_]⟩)]⟩ ?_
     exact hX4
   ·
    replace h203 : ¬ ((ib_ : Int) < ((eb.length : Nat) : Int)) := of_decide_eq_false h203
    refine Rn 8 (.ex (.exit 2)) [.loop J4, .blk 2, Qs B13 63] ⟨165, [(1, VL A2 eb.length d), (4, VB false), (5, .own 700 0), (6, .own 701 0), (7, VL Xx_ xsx_.length cxx_), (8, VL Xy_ xsy_.length cxy_), (10, I6 (ib_ : Int))], [(700, ⟨87, [VL Cx_ n1x_ c1x_, I7 qx_]⟩), (701, ⟨87, [VL Cy_ n1y_ c1y_, I7 qy_]⟩)]⟩ ?_
    exact hX4
 ·
  refine Rn 8 (Qo B13 976 5) [Qs B13 977, Qs B13 489, .loop J3, .blk 0, Qs B13 31] ⟨165, [(0, VL A ea.length c), (1, VL A2 eb.length d), (4, VB false), (5, .own 700 0), (6, .own 701 0), (7, VL Xx_ xsx_.length cxx_), (8, VL none 0 0), (9, I6 (ia_ : Int)), (23, VB (decide ((ia_ : Int) < (ea.length : Int))))], [(700, ⟨87, [VL Cx_ n1x_ c1x_, I7 qx_]⟩), (701, ⟨87, [VL none 0 0, I7 0]⟩)]⟩ ?_
  refine X.split 23 rfl (fun h264 => ?_) (fun h264 => ?_)
  ·
   replace h264 : (ia_ : Int) < ((ea.length : Nat) : Int) := of_decide_eq_true h264
   refine Rn 5 (Qc B13 977) [Qs B13 489, .loop J3, .blk 0, Qs B13 31] ⟨165, [(0, VL A ea.length c), (1, VL A2 eb.length d), (4, VB false), (5, .own 700 0), (6, .own 701 0), (7, VL Xx_ xsx_.length cxx_), (8, VL none 0 0), (9, I6 (ia_ : Int)), (26, VB (decide ((ia_ : Int) < 50)))], [(700, ⟨87, [VL Cx_ n1x_ c1x_, I7 qx_]⟩), (701, ⟨87, [VL none 0 0, I7 0]⟩)]⟩ ?_
   refine X.split 26 rfl (fun h265 => ?_) (fun h265 => ?_)
   ·
    replace h265 : (ia_ : Int) < 50 := of_decide_eq_true h265
    refine Rn 10 (Qo B13 3912 3) [Qs B13 3913, .blk 1, Qs B13 979, .loop J3, .blk 0, Qs B13 31] ⟨165, [(0, VL A ea.length c), (1, VL A2 eb.length d), (4, VB false), (5, .own 700 0), (6, .own 701 0), (7, VL Xx_ xsx_.length cxx_), (8, VL none 0 0), (9, I6 (ia_ : Int)), (29, .own 700 0), (30, VL A ea.length c), (31, I6 (ia_ : Int))], [(700, ⟨87, [VL Cx_ n1x_ c1x_, I7 qx_]⟩), (701, ⟨87, [VL none 0 0, I7 0]⟩)]⟩ ?_
    have b266 : (0 : Int) ≤ (ia_ : Int) := by omega
    have b267 : (ia_ : Int) < ((ea.length : Nat) : Int) := by omega
    refine Ix 80 27 4 A ea.length c .i64 (ia_ : Int) (.tmp 30) (.tmp 31) b266 b267 (fun _ _ => rowAt.so hra (by omega)) ?_
    have at268 := At.ev [(600, ⟨89, 5, .slice Cx_ n1x_ c1x_, n1x_, l1x_.flatMap itC⟩)] hra (((ia_ : Int)).toNat) (by omega)
    simp only [evC] at at268
    refine Rn 0 (Qo B13 3912 4) [Qs B13 3913, .blk 1, Qs B13 979, .loop J3, .blk 0, Qs B13 31] ⟨165, [(0, VL A ea.length c), (1, VL A2 eb.length d), (4, VB false), (5, .own 700 0), (6, .own 701 0), (7, VL Xx_ xsx_.length cxx_), (8, VL none 0 0), (9, I6 (ia_ : Int)), (29, .own 700 0), (32, .v (elt A (((ia_ : Int)).toNat * 4)))], [(700, ⟨87, [VL Cx_ n1x_ c1x_, I7 qx_]⟩), (701, ⟨87, [VL none 0 0, I7 0]⟩)]⟩ ?_
    refine Ld 27 A (((ia_ : Int)).toNat * 4) (.tmp 32) (.agg #[N6 ((ea.getD (((ia_ : Int)).toNat) ev0).1), N6 ((ea.getD (((ia_ : Int)).toNat) ev0).2.1), N6 ((ea.getD (((ia_ : Int)).toNat) ev0).2.2.1), N6 ((ea.getD (((ia_ : Int)).toNat) ev0).2.2.2)]) [N6 ((ea.getD (((ia_ : Int)).toNat) ev0).1), N6 ((ea.getD (((ia_ : Int)).toNat) ev0).2.1), N6 ((ea.getD (((ia_ : Int)).toNat) ev0).2.2.1), N6 ((ea.getD (((ia_ : Int)).toNat) ev0).2.2.2)] at268 ?_
    refine Rn 0 (Qo B13 3912 5) [Qs B13 3913, .blk 1, Qs B13 979, .loop J3, .blk 0, Qs B13 31] ⟨165, [(0, VL A ea.length c), (1, VL A2 eb.length d), (4, VB false), (5, .own 700 0), (6, .own 701 0), (7, VL Xx_ xsx_.length cxx_), (8, VL none 0 0), (9, I6 (ia_ : Int)), (29, .own 700 0), (33, .v (.agg #[N6 ((ea.getD (((ia_ : Int)).toNat) ev0).1), N6 ((ea.getD (((ia_ : Int)).toNat) ev0).2.1), N6 ((ea.getD (((ia_ : Int)).toNat) ev0).2.2.1), N6 ((ea.getD (((ia_ : Int)).toNat) ev0).2.2.2)]))], [(700, ⟨87, [VL Cx_ n1x_ c1x_, I7 qx_]⟩), (701, ⟨87, [VL none 0 0, I7 0]⟩)]⟩ ?_
    refine X.inline (f := 15) (l := [.own 700 0, .v (.agg #[N6 ((ea.getD (((ia_ : Int)).toNat) ev0).1), N6 ((ea.getD (((ia_ : Int)).toNat) ev0).2.1), N6 ((ea.getD (((ia_ : Int)).toNat) ev0).2.2.1), N6 ((ea.getD (((ia_ : Int)).toNat) ev0).2.2.2)])]) (fn := Try.f15) (c := B15) (by kernel_rfl) (by kernel_rfl) Try.func15 (by kernel_rfl) ?_
    intro Q269 M269 hM269 hQ269 fin269
    refine Rn 9 (Qo B15 12 1) [Qs B15 13, Qs B15 7] ⟨36, [(0, .own 1700 0), (3, .own 3 0), (4, .own 1700 0)], [(3, ⟨27, [I6 ((ea.getD (((ia_ : Int)).toNat) ev0).1), I6 ((ea.getD (((ia_ : Int)).toNat) ev0).2.1), I6 ((ea.getD (((ia_ : Int)).toNat) ev0).2.2.1), I6 ((ea.getD (((ia_ : Int)).toNat) ev0).2.2.2)]⟩), (1700, ⟨87, [VL Cx_ n1x_ c1x_, I7 qx_]⟩), (1701, ⟨87, [VL none 0 0, I7 0]⟩)]⟩ ?_
    refine X.eqOwnNil (t := 23) (t' := 23) (e := 87) (b := 1700) (off := 0) (x := .tmp 4) (y := .const (.pointer none)) (by kernel_rfl) (fun g => by kernel_rfl) (by kernel_rfl) (by kernel_rfl) (by kernel_rfl) (by kernel_rfl) ?_
    refine Rn 6 (Qc B15 14) [Qs B15 15] ⟨36, [(0, .own 1700 0), (3, .own 3 0)], [(3, ⟨27, [I6 ((ea.getD (((ia_ : Int)).toNat) ev0).1), I6 ((ea.getD (((ia_ : Int)).toNat) ev0).2.1), I6 ((ea.getD (((ia_ : Int)).toNat) ev0).2.2.1), I6 ((ea.getD (((ia_ : Int)).toNat) ev0).2.2.2)]⟩), (1700, ⟨87, [VL Cx_ n1x_ c1x_, I7 qx_]⟩), (1701, ⟨87, [VL none 0 0, I7 0]⟩)]⟩ ?_
    have hra_d270 := hra
    have hrb_d270 := hrb
    have hrxx__d270 := hrxx_
    refine Og 2 B15 14 16 [⟨some 0, 1700, 87, [VL Cx_ n1x_ c1x_, I7 qx_]⟩, ⟨some 3, 3, 27, [I6 ((ea.getD (((ia_ : Int)).toNat) ev0).1), I6 ((ea.getD (((ia_ : Int)).toNat) ev0).2.1), I6 ((ea.getD (((ia_ : Int)).toNat) ev0).2.2.1), I6 ((ea.getD (((ia_ : Int)).toNat) ev0).2.2.2)]⟩] [] [15] ⟨⟨fun _ h => (by cases h; rfl), rfl⟩, ⟨fun _ h => (by cases h; rfl), rfl⟩, trivial⟩ (by intro p hp hn; simp only [List.mem_cons, List.not_mem_nil, or_false] at hp; rcases hp with rfl | rfl <;> first | (cases hn; done) | exact hM269 _ (Nat.le_of_ble_eq_true rfl)) (fun ρ0 => ?_)
    refine Tk 0 16 1 B15 14 (.own 1700 0) hQ269 ?_
    refine Tk 1 16 3 B15 14 (.own 1700 0) hQ269 ?_
    refine XD.nilOwn (i := 2) (l' := (lb 16 7)) (oA B15 (pa 14) 2) (x := .tmp 7) (b := 1700) (off := 0) hQ269 (by kernel_rfl) (by kernel_rfl) (by kernel_rfl) (by kernel_rfl) (by kernel_rfl) (by kernel_rfl) ?_
    refine Tk 3 16 15 B15 14 (.own 1700 0) hQ269 ?_
    refine Tk 4 16 31 B15 14 (VL Cx_ n1x_ c1x_) hQ269 ?_
    refine Tk 5 16 63 B15 14 (.v (.agg #[N6 ((ea.getD (((ia_ : Int)).toNat) ev0).1), N6 ((ea.getD (((ia_ : Int)).toNat) ev0).2.1), N6 ((ea.getD (((ia_ : Int)).toNat) ev0).2.2.1), N6 ((ea.getD (((ia_ : Int)).toNat) ev0).2.2.2)])) hQ269 ?_
    refine Tk 6 16 127 B15 14 (.own 1700 0) hQ269 ?_
    refine XD.nilOwn (i := 7) (l' := (lb 16 255)) (oA B15 (pa 14) 7) (x := .tmp 12) (b := 1700) (off := 0) hQ269 (by kernel_rfl) (by kernel_rfl) (by kernel_rfl) (by kernel_rfl) (by kernel_rfl) (by kernel_rfl) ?_
    refine Ts [8, 9, 10] 16 2047 5 8 hQ269 ?_
    refine Dn ⟨36, [(0, .own 1700 0), (3, .own 3 0), (6, .own 1700 0), (10, VL Cx_ n1x_ c1x_), (16, .v (.agg #[N6 ((ea.getD (((ia_ : Int)).toNat) ev0).1), N6 ((ea.getD (((ia_ : Int)).toNat) ev0).2.1), N6 ((ea.getD (((ia_ : Int)).toNat) ev0).2.2.1), N6 ((ea.getD (((ia_ : Int)).toNat) ev0).2.2.2), N7 qx_]))], [(3, ⟨27, [I6 ((ea.getD (((ia_ : Int)).toNat) ev0).1), I6 ((ea.getD (((ia_ : Int)).toNat) ev0).2.1), I6 ((ea.getD (((ia_ : Int)).toNat) ev0).2.2.1), I6 ((ea.getD (((ia_ : Int)).toNat) ev0).2.2.2)]⟩), (1700, ⟨87, [VL Cx_ n1x_ c1x_, I7 qx_]⟩), (1701, ⟨87, [VL none 0 0, I7 0]⟩)]⟩ ⟨⟨fun _ h => (by cases h; rfl), rfl⟩, ⟨fun _ h => (by cases h; rfl), rfl⟩, trivial⟩ ?_
    refine Do 11 16 4095 B15 14 ?_
    refine Lt 17 89 5 1 [N6 ((ea.getD (((ia_ : Int)).toNat) ev0).1), N6 ((ea.getD (((ia_ : Int)).toNat) ev0).2.1), N6 ((ea.getD (((ia_ : Int)).toNat) ev0).2.2.1), N6 ((ea.getD (((ia_ : Int)).toNat) ev0).2.2.2), N7 qx_] ?_
    intro A271
    refine X.back ⟨⟨⟨fun _ h => (by cases h; rfl), rfl⟩, ⟨fun _ h => (by cases h; rfl), rfl⟩, trivial⟩, Le.refl _, rfl, ?_⟩
    refine Dn ⟨36, [(0, .own 1700 0), (3, .own 3 0), (6, .own 1700 0), (10, VL Cx_ n1x_ c1x_), (17, VL A271 1 1)], [(3, ⟨27, [I6 ((ea.getD (((ia_ : Int)).toNat) ev0).1), I6 ((ea.getD (((ia_ : Int)).toNat) ev0).2.1), I6 ((ea.getD (((ia_ : Int)).toNat) ev0).2.2.1), I6 ((ea.getD (((ia_ : Int)).toNat) ev0).2.2.2)]⟩), (1700, ⟨87, [VL Cx_ n1x_ c1x_, I7 qx_]⟩), (1701, ⟨87, [VL none 0 0, I7 0]⟩)]⟩ ⟨⟨fun _ h => (by cases h; rfl), rfl⟩, ⟨fun _ h => (by cases h; rfl), rfl⟩, trivial⟩ ?_
    refine Do 12 16 8191 B15 14 ?_
    refine Ap 600 (RR 89 5 Cx_ n1x_ c1x_ (l1x_.flatMap itC)) 84 40 (.agg #[N6 0, N6 0, N6 0, N6 0, N7 0]) (.tmp 10) (.tmp 17) n1x_ c1x_ 1 1 Cx_ A271 [N6 ((ea.getD (((ia_ : Int)).toNat) ev0).1), N6 ((ea.getD (((ia_ : Int)).toNat) ev0).2.1), N6 ((ea.getD (((ia_ : Int)).toNat) ev0).2.2.1), N6 ((ea.getD (((ia_ : Int)).toNat) ev0).2.2.2), N7 qx_] (.inl rfl) (by kernel_rfl) (At.of_row (i := 17) (r := (RR 89 5 A271 1 1 [N6 ((ea.getD (((ia_ : Int)).toNat) ev0).1), N6 ((ea.getD (((ia_ : Int)).toNat) ev0).2.1), N6 ((ea.getD (((ia_ : Int)).toNat) ev0).2.2.1), N6 ((ea.getD (((ia_ : Int)).toNat) ev0).2.2.2), N7 qx_])) rfl rfl) (fun w hw e => absurd (rowSome (i := 17) (q := (RR 89 5 A271 1 1 [N6 ((ea.getD (((ia_ : Int)).toNat) ev0).1), N6 ((ea.getD (((ia_ : Int)).toNat) ev0).2.1), N6 ((ea.getD (((ia_ : Int)).toNat) ev0).2.2.1), N6 ((ea.getD (((ia_ : Int)).toNat) ev0).2.2.2), N7 qx_])) rfl rfl (Nat.succ_pos _) w hw) (by rw [e]; decide)) (ones (by kernel_rfl)) (by omega) ?_
    intro A272 c272 hc272
    refine X.tellR [600, 17] (R' := [(600, RR 89 5 A272 (n1x_ + 1) c272 ((l1x_ ++ [((ea.getD (((ia_ : Int)).toNat) ev0).1, (ea.getD (((ia_ : Int)).toNat) ev0).2.1, (ea.getD (((ia_ : Int)).toNat) ev0).2.2.1, (ea.getD (((ia_ : Int)).toNat) ev0).2.2.2, qx_)]).flatMap itC)), (17, RR 89 5 A271 1 1 [N6 ((ea.getD (((ia_ : Int)).toNat) ev0).1), N6 ((ea.getD (((ia_ : Int)).toNat) ev0).2.1), N6 ((ea.getD (((ia_ : Int)).toNat) ev0).2.2.1), N6 ((ea.getD (((ia_ : Int)).toNat) ev0).2.2.2), N7 qx_])]) (congrArg (fun cs_ => (600, (RR 89 5 A272 (n1x_ + 1) c272 cs_ : Row)) :: [(17, RR 89 5 A271 1 1 [N6 ((ea.getD (((ia_ : Int)).toNat) ev0).1), N6 ((ea.getD (((ia_ : Int)).toNat) ev0).2.1), N6 ((ea.getD (((ia_ : Int)).toNat) ev0).2.2.1), N6 ((ea.getD (((ia_ : Int)).toNat) ev0).2.2.2), N7 qx_])]) (flat_snoc itC l1x_ (((ea.getD (((ia_ : Int)).toNat) ev0).1, (ea.getD (((ia_ : Int)).toNat) ev0).2.1, (ea.getD (((ia_ : Int)).toNat) ev0).2.2.1, (ea.getD (((ia_ : Int)).toNat) ev0).2.2.2, qx_) : Item))) ?_
    obtain ⟨l272, hl272⟩ : ∃ z_, (l1x_ ++ [((ea.getD (((ia_ : Int)).toNat) ev0).1, (ea.getD (((ia_ : Int)).toNat) ev0).2.1, (ea.getD (((ia_ : Int)).toNat) ev0).2.2.1, (ea.getD (((ia_ : Int)).toNat) ev0).2.2.2, qx_)]) = z_ := ⟨_, rfl⟩
    rw [hl272]
    have hn272 : l272.length = n1x_ + 1 := by rw [← hl272, List.length_append, hln1x_]; rfl
    refine X.back ⟨⟨⟨fun _ h => (by cases h; rfl), rfl⟩, ⟨fun _ h => (by cases h; rfl), rfl⟩, trivial⟩, Le.refl _, rfl, ?_⟩
    refine XD.nilOwn (i := 13) (l' := (lb 16 16383)) (oA B15 (pa 14) 13) (x := .tmp 6) (b := 1700) (off := 0) hQ269 (by kernel_rfl) (by kernel_rfl) (by kernel_rfl) (by kernel_rfl) (by kernel_rfl) (by kernel_rfl) ?_
    refine Ts [14] 16 32767 1 2 hQ269 ?_
    refine XD.toE ?_
    refine En ⟨36, [(0, .own 1700 0), (3, .own 3 0), (18, VL A272 (n1x_ + 1) c272), (20, .own 1700 0)], [(3, ⟨27, [I6 ((ea.getD (((ia_ : Int)).toNat) ev0).1), I6 ((ea.getD (((ia_ : Int)).toNat) ev0).2.1), I6 ((ea.getD (((ia_ : Int)).toNat) ev0).2.2.1), I6 ((ea.getD (((ia_ : Int)).toNat) ev0).2.2.2)]⟩), (1700, ⟨87, [VL Cx_ n1x_ c1x_, I7 qx_]⟩), (1701, ⟨87, [VL none 0 0, I7 0]⟩)]⟩ ?_
    refine Eo 15 16 65535 B15 14 ?_
    refine X.simple (by kernel_rfl) ?_
    refine X.back ?_
    refine XE.done (by kernel_rfl) ?_
    refine Rn 8 (Qo B15 30 5) [Qs B15 31] ⟨36, [(0, .own 1700 0), (21, .own 1700 0), (25, I7 (IntKind.u64.wrap (qx_ + 1)))], [(1700, ⟨87, [VL A272 (n1x_ + 1) c272, I7 qx_]⟩), (1701, ⟨87, [VL none 0 0, I7 0]⟩)]⟩ ?_
    refine Kn 25 .u64 (qx_ + 1) rfl (wu64 (by omega) (by omega)) ?_
    refine Rn 13 (Qo B15 31 7) [] ⟨36, [(28, .own 1700 0), (34, I6 (IntKind.i64.wrap (((n1x_ + 1 : Nat) : Int) - 1)))], [(1700, ⟨87, [VL A272 (n1x_ + 1) c272, I7 (qx_ + 1)]⟩), (1701, ⟨87, [VL none 0 0, I7 0]⟩)]⟩ ?_
    refine Kn 34 .i64 (n1x_ : Int) rfl (by rw [wi64 (by omega) (by omega)]; omega) ?_
    refine X.inline (f := 49) (l := [.own 1700 0, I6 (n1x_ : Int)]) (fn := Try.f49) (c := B49) (by kernel_rfl) (by kernel_rfl) Try.func49 (by kernel_rfl) ?_
    intro Q273 M273 hM273 hQ273 fin273
    refine Rn 1 (Qc B49 2) [.blk 0] ⟨42, [(0, .own 2700 0), (1, I6 (n1x_ : Int))], [(2700, ⟨87, [VL A272 (n1x_ + 1) c272, I7 (qx_ + 1)]⟩), (2701, ⟨87, [VL none 0 0, I7 0]⟩)]⟩ ?_
    refine X.loopJ (fun m s R' G' => ∃ (i2_ : Nat) (l2_ : List Item), s = ⟨42, [(0, .own 2700 0), (1, I6 (i2_ : Int))], [(2700, ⟨87, [VL A272 (n1x_ + 1) c272, I7 (qx_ + 1)]⟩), (2701, ⟨87, [VL none 0 0, I7 0]⟩)]⟩ ∧ R' = [(600, RR 89 5 A272 (n1x_ + 1) c272 (l2_.flatMap itC)), (17, RR 89 5 A271 1 1 [N6 ((ea.getD (((ia_ : Int)).toNat) ev0).1), N6 ((ea.getD (((ia_ : Int)).toNat) ev0).2.1), N6 ((ea.getD (((ia_ : Int)).toNat) ev0).2.2.1), N6 ((ea.getD (((ia_ : Int)).toNat) ev0).2.2.2), N7 qx_])] ∧ Ge G3 w.heap.size G' ∧ (i2_ < n1x_ + 1 ∧ l2_.length = n1x_ + 1 ∧ UpOk l2_ i2_ ∧ l2_.Perm l272) ∧ m = (i2_ + 1)) _ ⟨n1x_, l272, rfl, rfl, Ge.refl _ _, ⟨by omega, hn272, by rw [← hl272, ← hln1x_]; exact up_new hh1x_ _, List.Perm.refl _⟩, rfl⟩ ?_
    rintro m274 s274 R274 G274 ⟨i2_, l2_, rfl, rfl, hG274, hF274, rfl⟩ J274 hJ274
    replace hra := hra.mono hG274.le
    replace hrb := hrb.mono hG274.le
    replace hrxx_ := hrxx_.mono hG274.le
    obtain ⟨hi2_, hln2_, hup_, hpm_⟩ := hF274
    refine Rn 7 (Qc B49 17) [Qs B49 9, .loop J274, .blk 0] ⟨42, [(0, .own 2700 0), (1, I6 (i2_ : Int)), (6, VB (decide ((i2_ : Int) > 0)))], [(2700, ⟨87, [VL A272 (n1x_ + 1) c272, I7 (qx_ + 1)]⟩), (2701, ⟨87, [VL none 0 0, I7 0]⟩)]⟩ ?_
    refine X.split 6 rfl (fun h275 => ?_) (fun h275 => ?_)
    ·
     replace h275 : (i2_ : Int) > 0 := of_decide_eq_true h275
     refine Rn 8 (Qo B49 36 2) [Qs B49 37, .blk 1, .loop J274, .blk 0] ⟨42, [(0, .own 2700 0), (1, I6 (i2_ : Int)), (8, I6 (IntKind.i64.wrap ((i2_ : Int) - 1)))], [(2700, ⟨87, [VL A272 (n1x_ + 1) c272, I7 (qx_ + 1)]⟩), (2701, ⟨87, [VL none 0 0, I7 0]⟩)]⟩ ?_
     refine Kn 8 .i64 ((i2_ : Int) - 1) rfl (wi64 (by omega) (by omega)) ?_
     refine Rn 1 (Qo B49 36 3) [Qs B49 37, .blk 1, .loop J274, .blk 0] ⟨42, [(0, .own 2700 0), (1, I6 (i2_ : Int)), (9, I6 (IntKind.i64.wrap (Int.tdiv ((i2_ : Int) - 1) 2)))], [(2700, ⟨87, [VL A272 (n1x_ + 1) c272, I7 (qx_ + 1)]⟩), (2701, ⟨87, [VL none 0 0, I7 0]⟩)]⟩ ?_
     refine Kn 9 .i64 (((i2_ - 1) / 2 : Nat) : Int) rfl (by rw [wdiv_i64 (by omega) (by omega) (by omega)]; omega) ?_
     refine Rn 9 (Qo B49 148 3) [Qs B49 149, Qs B49 75, .blk 1, .loop J274, .blk 0] ⟨42, [(0, .own 2700 0), (1, I6 (i2_ : Int)), (4, I6 (((i2_ - 1) / 2 : Nat) : Int)), (10, .own 2700 0), (11, I6 (i2_ : Int)), (12, I6 (((i2_ - 1) / 2 : Nat) : Int))], [(2700, ⟨87, [VL A272 (n1x_ + 1) c272, I7 (qx_ + 1)]⟩), (2701, ⟨87, [VL none 0 0, I7 0]⟩)]⟩ ?_
     refine X.joinCG (Qc B49 149) [Qs B49 75, .blk 1, .loop J274, .blk 0] ⟨42, [(0, .own 2700 0), (1, I6 (i2_ : Int)), (4, I6 (((i2_ - 1) / 2 : Nat) : Int)), (14, VB (!(decide (ltI (l2_.getD ((i2_ : Int)).toNat it0) (l2_.getD ((((i2_ - 1) / 2 : Nat) : Int)).toNat it0)))))], [(2700, ⟨87, [VL A272 (n1x_ + 1) c272, I7 (qx_ + 1)]⟩), (2701, ⟨87, [VL none 0 0, I7 0]⟩)]⟩ ?_ fun hY276 => ?_
     ·
      intro G276 hG276
      replace hra := hra.mono hG276.le
      replace hrb := hrb.mono hG276.le
      replace hrxx_ := hrxx_.mono hG276.le
      refine Rn 0 (Qc B49 149) [Qs B49 75, .blk 1, .loop J274, .blk 0] ⟨42, [(0, .own 2700 0), (1, I6 (i2_ : Int)), (4, I6 (((i2_ - 1) / 2 : Nat) : Int)), (14, VB (!(decide (ltI (l2_.getD ((i2_ : Int)).toNat it0) (l2_.getD ((((i2_ - 1) / 2 : Nat) : Int)).toNat it0)))))], [(2700, ⟨87, [VL A272 (n1x_ + 1) c272, I7 (qx_ + 1)]⟩), (2701, ⟨87, [VL none 0 0, I7 0]⟩)]⟩ ?_
      refine X.split 14 rfl (fun h277 => ?_) (fun h277 => ?_)
      ·
       replace h277 : (decide (ltI (l2_.getD ((i2_ : Int)).toNat it0) (l2_.getD ((((i2_ - 1) / 2 : Nat) : Int)).toNat it0))) = false := by first | (simpa using h277; done) | (have h_ := congrArg (fun b_ => !b_) h277; simpa only [Bool.not_not, Bool.not_true, Bool.not_false] using h_)
       replace h277 : ¬ (ltI (l2_.getD ((i2_ : Int)).toNat it0) (l2_.getD ((((i2_ - 1) / 2 : Nat) : Int)).toNat it0)) := of_decide_eq_false h277
       have hh2_ : HeapFrom l2_ 0 := up_end hup_ (.inr h277)
       refine Rn 6 (.ex .ret) [] ⟨42, [], [(2700, ⟨87, [VL A272 (n1x_ + 1) c272, I7 (qx_ + 1)]⟩), (2701, ⟨87, [VL none 0 0, I7 0]⟩)]⟩ ?_
       refine fin273 _ _ _ _ [] [(1700, ⟨87, [VL A272 (n1x_ + 1) c272, I7 (qx_ + 1)]⟩), (1701, ⟨87, [VL none 0 0, I7 0]⟩)] (.inl rfl) (by kernel_rfl) (by kernel_rfl) ?_
       refine Rn 1 (.ex .normal) [] ⟨36, [], [(1700, ⟨87, [VL A272 (n1x_ + 1) c272, I7 (qx_ + 1)]⟩), (1701, ⟨87, [VL none 0 0, I7 0]⟩)]⟩ ?_
       refine fin269 _ _ _ _ [] [(700, ⟨87, [VL A272 (n1x_ + 1) c272, I7 (qx_ + 1)]⟩), (701, ⟨87, [VL none 0 0, I7 0]⟩)] (.inr rfl) (by kernel_rfl) (by kernel_rfl) ?_
       refine Rn 6 (Qo B13 3913 3) [.blk 1, Qs B13 979, .loop J3, .blk 0, Qs B13 31] ⟨165, [(0, VL A ea.length c), (1, VL A2 eb.length d), (4, VB false), (5, .own 700 0), (6, .own 701 0), (7, VL Xx_ xsx_.length cxx_), (8, VL none 0 0), (9, I6 (ia_ : Int)), (35, VL Xx_ xsx_.length cxx_), (36, VL A ea.length c), (37, I6 (ia_ : Int))], [(700, ⟨87, [VL A272 (n1x_ + 1) c272, I7 (qx_ + 1)]⟩), (701, ⟨87, [VL none 0 0, I7 0]⟩)]⟩ ?_
       have b278 : (0 : Int) ≤ (ia_ : Int) := by omega
       have b279 : (ia_ : Int) < ((ea.length : Nat) : Int) := by omega
       refine Ix 80 27 4 A ea.length c .i64 (ia_ : Int) (.tmp 36) (.tmp 37) b278 b279 (fun _ _ => rowAt.so hra (by omega)) ?_
       have at280 := At.ev [(600, ⟨89, 5, .slice A272 (n1x_ + 1) c272, n1x_ + 1, l2_.flatMap itC⟩), (17, ⟨89, 5, .slice A271 1 1, 1, [.int .i64 ((ea.getD (((ia_ : Int)).toNat) ev0).1), .int .i64 ((ea.getD (((ia_ : Int)).toNat) ev0).2.1), .int .i64 ((ea.getD (((ia_ : Int)).toNat) ev0).2.2.1), .int .i64 ((ea.getD (((ia_ : Int)).toNat) ev0).2.2.2), .int .u64 qx_]⟩)] hra (((ia_ : Int)).toNat) (by omega)
       simp only [evC] at at280
       refine Rn 0 (Qo B13 3913 4) [.blk 1, Qs B13 979, .loop J3, .blk 0, Qs B13 31] ⟨165, [(0, VL A ea.length c), (1, VL A2 eb.length d), (4, VB false), (5, .own 700 0), (6, .own 701 0), (7, VL Xx_ xsx_.length cxx_), (8, VL none 0 0), (9, I6 (ia_ : Int)), (35, VL Xx_ xsx_.length cxx_), (38, .v (elt A (((ia_ : Int)).toNat * 4)))], [(700, ⟨87, [VL A272 (n1x_ + 1) c272, I7 (qx_ + 1)]⟩), (701, ⟨87, [VL none 0 0, I7 0]⟩)]⟩ ?_
       refine Ld 27 A (((ia_ : Int)).toNat * 4) (.tmp 38) (.agg #[N6 ((ea.getD (((ia_ : Int)).toNat) ev0).1), N6 ((ea.getD (((ia_ : Int)).toNat) ev0).2.1), N6 ((ea.getD (((ia_ : Int)).toNat) ev0).2.2.1), N6 ((ea.getD (((ia_ : Int)).toNat) ev0).2.2.2)]) [N6 ((ea.getD (((ia_ : Int)).toNat) ev0).1), N6 ((ea.getD (((ia_ : Int)).toNat) ev0).2.1), N6 ((ea.getD (((ia_ : Int)).toNat) ev0).2.2.1), N6 ((ea.getD (((ia_ : Int)).toNat) ev0).2.2.2)] at280 ?_
       refine Rn 0 (Qo B13 3913 5) [.blk 1, Qs B13 979, .loop J3, .blk 0, Qs B13 31] ⟨165, [(0, VL A ea.length c), (1, VL A2 eb.length d), (4, VB false), (5, .own 700 0), (6, .own 701 0), (7, VL Xx_ xsx_.length cxx_), (8, VL none 0 0), (9, I6 (ia_ : Int)), (35, VL Xx_ xsx_.length cxx_), (39, .v (.agg #[N6 ((ea.getD (((ia_ : Int)).toNat) ev0).1), N6 ((ea.getD (((ia_ : Int)).toNat) ev0).2.1), N6 ((ea.getD (((ia_ : Int)).toNat) ev0).2.2.1), N6 ((ea.getD (((ia_ : Int)).toNat) ev0).2.2.2)]))], [(700, ⟨87, [VL A272 (n1x_ + 1) c272, I7 (qx_ + 1)]⟩), (701, ⟨87, [VL none 0 0, I7 0]⟩)]⟩ ?_
       refine Cg 31 [.agg #[N6 ((ea.getD (((ia_ : Int)).toNat) ev0).1), N6 ((ea.getD (((ia_ : Int)).toNat) ev0).2.1), N6 ((ea.getD (((ia_ : Int)).toNat) ev0).2.2.1), N6 ((ea.getD (((ia_ : Int)).toNat) ev0).2.2.2)]] 0 (event_ok ((ea.getD (((ia_ : Int)).toNat) ev0).1) ((ea.getD (((ia_ : Int)).toNat) ev0).2.1) ((ea.getD (((ia_ : Int)).toNat) ev0).2.2.1) ((ea.getD (((ia_ : Int)).toNat) ev0).2.2.2) _) ?_
       rintro v281 G281 rows281 hG281 ⟨rfl, rfl⟩
       replace hra := hra.mono hG281.le
       replace hrb := hrb.mono hG281.le
       replace hrxx_ := hrxx_.mono hG281.le
       refine Rn 0 (Qo B13 3913 6) [.blk 1, Qs B13 979, .loop J3, .blk 0, Qs B13 31] ⟨165, [(0, VL A ea.length c), (1, VL A2 eb.length d), (4, VB false), (5, .own 700 0), (6, .own 701 0), (7, VL Xx_ xsx_.length cxx_), (8, VL none 0 0), (9, I6 (ia_ : Int)), (35, VL Xx_ xsx_.length cxx_), (40, .v (.agg #[N6 ((ea.getD (((ia_ : Int)).toNat) ev0).1), N6 ((ea.getD (((ia_ : Int)).toNat) ev0).2.1), N6 ((ea.getD (((ia_ : Int)).toNat) ev0).2.2.1), N6 ((ea.getD (((ia_ : Int)).toNat) ev0).2.2.2)]))], [(700, ⟨87, [VL A272 (n1x_ + 1) c272, I7 (qx_ + 1)]⟩), (701, ⟨87, [VL none 0 0, I7 0]⟩)]⟩ ?_
       refine Cg 30 [.slice Xx_ xsx_.length cxx_, .agg #[N6 ((ea.getD (((ia_ : Int)).toNat) ev0).1), N6 ((ea.getD (((ia_ : Int)).toNat) ev0).2.1), N6 ((ea.getD (((ia_ : Int)).toNat) ev0).2.2.1), N6 ((ea.getD (((ia_ : Int)).toNat) ev0).2.2.2)]] 561 (rPush_ok Xx_ cxx_ xsx_ ((ea.getD (((ia_ : Int)).toNat) ev0).1) ((ea.getD (((ia_ : Int)).toNat) ev0).2.1) ((ea.getD (((ia_ : Int)).toNat) ev0).2.2.1) ((ea.getD (((ia_ : Int)).toNat) ev0).2.2.2) _ hrxx_ hlxx_ hmxx_ (by omega)) ?_
       rintro v282 G282 rows282 hG282 ⟨A282, c282, rfl, rfl⟩
       replace hra := hra.mono hG282.le
       replace hrb := hrb.mono hG282.le
       replace hrxx_ := hrxx_.mono hG282.le
       refine X.asR (R' := [(561, RR 66 4 A282 ((insE xsx_ ((ea.getD (((ia_ : Int)).toNat) ev0).1, (ea.getD (((ia_ : Int)).toNat) ev0).2.1, (ea.getD (((ia_ : Int)).toNat) ev0).2.2.1, (ea.getD (((ia_ : Int)).toNat) ev0).2.2.2)).length) c282 ((insE xsx_ ((ea.getD (((ia_ : Int)).toNat) ev0).1, (ea.getD (((ia_ : Int)).toNat) ev0).2.1, (ea.getD (((ia_ : Int)).toNat) ev0).2.2.1, (ea.getD (((ia_ : Int)).toNat) ev0).2.2.2)).flatMap evC)), (600, RR 89 5 A272 (n1x_ + 1) c272 (l2_.flatMap itC)), (17, RR 89 5 A271 1 1 [N6 ((ea.getD (((ia_ : Int)).toNat) ev0).1), N6 ((ea.getD (((ia_ : Int)).toNat) ev0).2.1), N6 ((ea.getD (((ia_ : Int)).toNat) ev0).2.2.1), N6 ((ea.getD (((ia_ : Int)).toNat) ev0).2.2.2), N7 qx_])]) rfl ?_
       refine X.tellR [561, 600, 17] (R' := [(561, RR 66 4 A282 ((insE xsx_ ((ea.getD (((ia_ : Int)).toNat) ev0).1, (ea.getD (((ia_ : Int)).toNat) ev0).2.1, (ea.getD (((ia_ : Int)).toNat) ev0).2.2.1, (ea.getD (((ia_ : Int)).toNat) ev0).2.2.2)).length) c282 ((insE xsx_ ((ea.getD (((ia_ : Int)).toNat) ev0).1, (ea.getD (((ia_ : Int)).toNat) ev0).2.1, (ea.getD (((ia_ : Int)).toNat) ev0).2.2.1, (ea.getD (((ia_ : Int)).toNat) ev0).2.2.2)).flatMap evC)), (600, RR 89 5 A272 (n1x_ + 1) c272 (l2_.flatMap itC)), (17, RR 89 5 A271 1 1 [N6 ((ea.getD (((ia_ : Int)).toNat) ev0).1), N6 ((ea.getD (((ia_ : Int)).toNat) ev0).2.1), N6 ((ea.getD (((ia_ : Int)).toNat) ev0).2.2.1), N6 ((ea.getD (((ia_ : Int)).toNat) ev0).2.2.2), N7 qx_])]) rfl ?_
       refine X.capLe (i := 561) (q := (RR 66 4 A282 ((insE xsx_ ((ea.getD (((ia_ : Int)).toNat) ev0).1, (ea.getD (((ia_ : Int)).toNat) ev0).2.1, (ea.getD (((ia_ : Int)).toNat) ev0).2.2.1, (ea.getD (((ia_ : Int)).toNat) ev0).2.2.2)).length) c282 ((insE xsx_ ((ea.getD (((ia_ : Int)).toNat) ev0).1, (ea.getD (((ia_ : Int)).toNat) ev0).2.1, (ea.getD (((ia_ : Int)).toNat) ev0).2.2.1, (ea.getD (((ia_ : Int)).toNat) ev0).2.2.2)).flatMap evC))) (n := (insE xsx_ ((ea.getD (((ia_ : Int)).toNat) ev0).1, (ea.getD (((ia_ : Int)).toNat) ev0).2.1, (ea.getD (((ia_ : Int)).toNat) ev0).2.2.1, (ea.getD (((ia_ : Int)).toNat) ev0).2.2.2)).length) (c := c282) (A := A282) rfl rfl ?_
       intro hle283 hmx283
       refine X.freezeT (d := evD) (i := 561) (n := (insE xsx_ ((ea.getD (((ia_ : Int)).toNat) ev0).1, (ea.getD (((ia_ : Int)).toNat) ev0).2.1, (ea.getD (((ia_ : Int)).toNat) ev0).2.2.1, (ea.getD (((ia_ : Int)).toNat) ev0).2.2.2)).length) (c := c282) (A := A282) ((insE xsx_ ((ea.getD (((ia_ : Int)).toNat) ev0).1, (ea.getD (((ia_ : Int)).toNat) ev0).2.1, (ea.getD (((ia_ : Int)).toNat) ev0).2.2.1, (ea.getD (((ia_ : Int)).toNat) ev0).2.2.2))) rfl (by decide) (fun _ _ => evD_reps) (by kernel_rfl) (fun _ h => h) ?_
       intro G283 hG283 hr283
       replace hra := hra.mono hG283.le
       replace hrb := hrb.mono hG283.le
       replace hrxx_ := hrxx_.mono hG283.le
       refine Rn 7 (Qo B13 979 2) [.loop J3, .blk 0, Qs B13 31] ⟨165, [(0, VL A ea.length c), (1, VL A2 eb.length d), (4, VB false), (5, .own 700 0), (6, .own 701 0), (7, VL A282 ((insE xsx_ ((ea.getD (((ia_ : Int)).toNat) ev0).1, (ea.getD (((ia_ : Int)).toNat) ev0).2.1, (ea.getD (((ia_ : Int)).toNat) ev0).2.2.1, (ea.getD (((ia_ : Int)).toNat) ev0).2.2.2)).length) c282), (8, VL none 0 0), (9, I6 (ia_ : Int)), (28, I6 (IntKind.i64.wrap ((ia_ : Int) + 1)))], [(700, ⟨87, [VL A272 (n1x_ + 1) c272, I7 (qx_ + 1)]⟩), (701, ⟨87, [VL none 0 0, I7 0]⟩)]⟩ ?_
       refine Kn 28 .i64 ((ia_ : Int) + 1) rfl (wi64 (by omega) (by omega)) ?_
       refine Rn 2 (.ex .normal) [.loop J3, .blk 0, Qs B13 31] ⟨165, [(0, VL A ea.length c), (1, VL A2 eb.length d), (4, VB false), (5, .own 700 0), (6, .own 701 0), (7, VL A282 ((insE xsx_ ((ea.getD (((ia_ : Int)).toNat) ev0).1, (ea.getD (((ia_ : Int)).toNat) ev0).2.1, (ea.getD (((ia_ : Int)).toNat) ev0).2.2.1, (ea.getD (((ia_ : Int)).toNat) ev0).2.2.2)).length) c282), (8, VL none 0 0), (9, I6 ((ia_ : Int) + 1))], [(700, ⟨87, [VL A272 (n1x_ + 1) c272, I7 (qx_ + 1)]⟩), (701, ⟨87, [VL none 0 0, I7 0]⟩)]⟩ ?_
       refine X.tellR [600] (R' := [(600, RR 89 5 A272 (n1x_ + 1) c272 (l2_.flatMap itC))]) rfl ?_
       exact X.again (hJ3 _ _ _ _ ⟨A272, c272, (n1x_ + 1), l2_, (qx_ + 1), A282, c282, (insE xsx_ ((ea.getD (((ia_ : Int)).toNat) ev0).1, (ea.getD (((ia_ : Int)).toNat) ev0).2.1, (ea.getD (((ia_ : Int)).toNat) ev0).2.2.1, (ea.getD (((ia_ : Int)).toNat) ev0).2.2.2)), (ia_ + 1), rfl, rfl, (((((hG3.trans hG274).trans hG276).trans hG281).trans hG282).trans hG283), ⟨⟨by omega, by omega⟩, hln2_, plays_push (x := ((ea.getD ia_ ev0).1, (ea.getD ia_ ev0).2.1, (ea.getD ia_ ev0).2.2.1, (ea.getD ia_ ev0).2.2.2, qx_)) hPx_ rfl hh2_ (by rw [← hl272] at hpm_; exact hpm_), ⟨by omega, by omega, by omega⟩, hle283, by have h_ := hmx283; simp only [maxLen] at h_ ⊢; omega, hr283⟩, rfl⟩ (by omega))
      ·
       replace h277 : (decide (ltI (l2_.getD ((i2_ : Int)).toNat it0) (l2_.getD ((((i2_ - 1) / 2 : Nat) : Int)).toNat it0))) = true := by first | (simpa using h277; done) | (have h_ := congrArg (fun b_ => !b_) h277; simpa only [Bool.not_not, Bool.not_true, Bool.not_false] using h_)
       replace h277 : ltI (l2_.getD ((i2_ : Int)).toNat it0) (l2_.getD ((((i2_ - 1) / 2 : Nat) : Int)).toNat it0) := of_decide_eq_true h277
       have hlt_ : ltI (at_ l2_ i2_) (at_ l2_ ((i2_ - 1) / 2)) := h277
       refine Rn 4 (Qc B49 150) [Qs B49 151, .blk 1, .loop J274, .blk 0] ⟨42, [(0, .own 2700 0), (1, I6 (i2_ : Int)), (4, I6 (((i2_ - 1) / 2 : Nat) : Int))], [(2700, ⟨87, [VL A272 (n1x_ + 1) c272, I7 (qx_ + 1)]⟩), (2701, ⟨87, [VL none 0 0, I7 0]⟩)]⟩ ?_
       have hra_d284 := hra
       have hrb_d284 := hrb
       have hrxx__d284 := hrxx_
       refine Og 3 B49 150 28 [⟨some 0, 2700, 87, [VL A272 (n1x_ + 1) c272, I7 (qx_ + 1)]⟩] [(600, RR 89 5 A272 (n1x_ + 1) c272 (l2_.flatMap itC))] [25, 26, 27] ⟨⟨fun _ h => (by cases h; rfl), rfl⟩, trivial⟩ (by intro p hp hn; simp only [List.mem_cons, List.not_mem_nil, or_false] at hp; rcases hp with rfl <;> first | (cases hn; done) | exact hM273 _ (Nat.le_of_ble_eq_true rfl)) (fun ρ0 => ?_)
       refine Tk 0 28 1 B49 150 (.own 2700 0) hQ273 ?_
       refine XD.nilOwn (i := 1) (l' := (lb 28 3)) (oA B49 (pa 150) 1) (x := .tmp 15) (b := 2700) (off := 0) hQ273 (by kernel_rfl) (by kernel_rfl) (by kernel_rfl) (by kernel_rfl) (by kernel_rfl) (by kernel_rfl) ?_
       refine Tk 2 28 7 B49 150 (.own 2700 0) hQ273 ?_
       refine Tk 3 28 15 B49 150 (VL A272 (n1x_ + 1) c272) hQ273 ?_
       refine Tk 4 28 31 B49 150 (I6 (i2_ : Int)) hQ273 ?_
       refine Tk 5 28 63 B49 150 (.own 2700 0) hQ273 ?_
       refine XD.nilOwn (i := 6) (l' := (lb 28 127)) (oA B49 (pa 150) 6) (x := .tmp 20) (b := 2700) (off := 0) hQ273 (by kernel_rfl) (by kernel_rfl) (by kernel_rfl) (by kernel_rfl) (by kernel_rfl) (by kernel_rfl) ?_
       refine Tk 7 28 255 B49 150 (.own 2700 0) hQ273 ?_
       refine Tk 8 28 511 B49 150 (VL A272 (n1x_ + 1) c272) hQ273 ?_
       refine XD.pureMove (i := 9) (l' := (lb 28 1023)) (x := .tmp 4) (oA B49 (pa 150) 9) (I6 (((i2_ - 1) / 2 : Nat) : Int)) hQ273 (by kernel_rfl) (by kernel_rfl) (by kernel_rfl) (by kernel_rfl) (by kernel_rfl) (by kernel_rfl) ?_
       refine Tk 10 28 2047 B49 150 (.own 2700 0) hQ273 ?_
       refine XD.nilOwn (i := 11) (l' := (lb 28 4095)) (oA B49 (pa 150) 11) (x := .tmp 25) (b := 2700) (off := 0) hQ273 (by kernel_rfl) (by kernel_rfl) (by kernel_rfl) (by kernel_rfl) (by kernel_rfl) (by kernel_rfl) ?_
       refine Tk 12 28 8191 B49 150 (.own 2700 0) hQ273 ?_
       refine Tk 13 28 16383 B49 150 (VL A272 (n1x_ + 1) c272) hQ273 ?_
       refine Tk 14 28 32767 B49 150 (I6 (((i2_ - 1) / 2 : Nat) : Int)) hQ273 ?_
       have b285 : (0 : Int) ≤ (((i2_ - 1) / 2 : Nat) : Int) := by omega
       have b286 : (((i2_ - 1) / 2 : Nat) : Int) < ((n1x_ + 1 : Nat) : Int) := by omega
       have at287 : At G276 [(600, ⟨89, 5, .slice A272 (n1x_ + 1) c272, n1x_ + 1, l2_.flatMap itC⟩)] A272 (((((i2_ - 1) / 2 : Nat) : Int)).toNat * 5) [.int .i64 ((l2_.getD (((((i2_ - 1) / 2 : Nat) : Int)).toNat) it0).1), .int .i64 ((l2_.getD (((((i2_ - 1) / 2 : Nat) : Int)).toNat) it0).2.1), .int .i64 ((l2_.getD (((((i2_ - 1) / 2 : Nat) : Int)).toNat) it0).2.2.1), .int .i64 ((l2_.getD (((((i2_ - 1) / 2 : Nat) : Int)).toNat) it0).2.2.2.1), .int .u64 ((l2_.getD (((((i2_ - 1) / 2 : Nat) : Int)).toNat) it0).2.2.2.2)] := At.rowF itC itC_len (i := 600) (r := ⟨89, 5, .slice A272 (n1x_ + 1) c272, n1x_ + 1, l2_.flatMap itC⟩) it0 rfl rfl rfl (by rw [hln2_]; omega)
       refine Dx 15 28 65535 B49 150 84 89 5 A272 (n1x_ + 1) c272 .i64 (((i2_ - 1) / 2 : Nat) : Int) (.tmp 28) (.tmp 29) hQ273 b285 b286 (rowSome (i := 600) (q := (RR 89 5 A272 (n1x_ + 1) c272 (l2_.flatMap itC))) rfl rfl (flat_pos itC_len (by decide) (by rw [hln2_]; omega))) ?_
       have at288 : At G276 [(600, ⟨89, 5, .slice A272 (n1x_ + 1) c272, n1x_ + 1, l2_.flatMap itC⟩)] A272 (((((i2_ - 1) / 2 : Nat) : Int)).toNat * 5) [.int .i64 ((l2_.getD (((((i2_ - 1) / 2 : Nat) : Int)).toNat) it0).1), .int .i64 ((l2_.getD (((((i2_ - 1) / 2 : Nat) : Int)).toNat) it0).2.1), .int .i64 ((l2_.getD (((((i2_ - 1) / 2 : Nat) : Int)).toNat) it0).2.2.1), .int .i64 ((l2_.getD (((((i2_ - 1) / 2 : Nat) : Int)).toNat) it0).2.2.2.1), .int .u64 ((l2_.getD (((((i2_ - 1) / 2 : Nat) : Int)).toNat) it0).2.2.2.2)] := At.rowF itC itC_len (i := 600) (r := ⟨89, 5, .slice A272 (n1x_ + 1) c272, n1x_ + 1, l2_.flatMap itC⟩) it0 rfl rfl rfl (by rw [hln2_]; omega)
       refine Dl 16 28 131071 B49 150 89 A272 (((((i2_ - 1) / 2 : Nat) : Int)).toNat * 5) (.tmp 30) (.agg #[N6 ((l2_.getD (((((i2_ - 1) / 2 : Nat) : Int)).toNat) it0).1), N6 ((l2_.getD (((((i2_ - 1) / 2 : Nat) : Int)).toNat) it0).2.1), N6 ((l2_.getD (((((i2_ - 1) / 2 : Nat) : Int)).toNat) it0).2.2.1), N6 ((l2_.getD (((((i2_ - 1) / 2 : Nat) : Int)).toNat) it0).2.2.2.1), N7 ((l2_.getD (((((i2_ - 1) / 2 : Nat) : Int)).toNat) it0).2.2.2.2)]) [N6 ((l2_.getD (((((i2_ - 1) / 2 : Nat) : Int)).toNat) it0).1), N6 ((l2_.getD (((((i2_ - 1) / 2 : Nat) : Int)).toNat) it0).2.1), N6 ((l2_.getD (((((i2_ - 1) / 2 : Nat) : Int)).toNat) it0).2.2.1), N6 ((l2_.getD (((((i2_ - 1) / 2 : Nat) : Int)).toNat) it0).2.2.2.1), N7 ((l2_.getD (((((i2_ - 1) / 2 : Nat) : Int)).toNat) it0).2.2.2.2)] hQ273 at288 ?_
       refine Tk 17 28 262143 B49 150 (.own 2700 0) hQ273 ?_
       refine XD.nilOwn (i := 18) (l' := (lb 28 524287)) (oA B49 (pa 150) 18) (x := .tmp 32) (b := 2700) (off := 0) hQ273 (by kernel_rfl) (by kernel_rfl) (by kernel_rfl) (by kernel_rfl) (by kernel_rfl) (by kernel_rfl) ?_
       refine Tk 19 28 1048575 B49 150 (.own 2700 0) hQ273 ?_
       refine Tk 20 28 2097151 B49 150 (VL A272 (n1x_ + 1) c272) hQ273 ?_
       refine Tk 21 28 4194303 B49 150 (I6 (i2_ : Int)) hQ273 ?_
       have b289 : (0 : Int) ≤ (i2_ : Int) := by omega
       have b290 : (i2_ : Int) < ((n1x_ + 1 : Nat) : Int) := by omega
       have at291 : At G276 [(600, ⟨89, 5, .slice A272 (n1x_ + 1) c272, n1x_ + 1, l2_.flatMap itC⟩)] A272 (((i2_ : Int)).toNat * 5) [.int .i64 ((l2_.getD (((i2_ : Int)).toNat) it0).1), .int .i64 ((l2_.getD (((i2_ : Int)).toNat) it0).2.1), .int .i64 ((l2_.getD (((i2_ : Int)).toNat) it0).2.2.1), .int .i64 ((l2_.getD (((i2_ : Int)).toNat) it0).2.2.2.1), .int .u64 ((l2_.getD (((i2_ : Int)).toNat) it0).2.2.2.2)] := At.rowF itC itC_len (i := 600) (r := ⟨89, 5, .slice A272 (n1x_ + 1) c272, n1x_ + 1, l2_.flatMap itC⟩) it0 rfl rfl rfl (by rw [hln2_]; omega)
       refine Dx 22 28 8388607 B49 150 84 89 5 A272 (n1x_ + 1) c272 .i64 (i2_ : Int) (.tmp 35) (.tmp 36) hQ273 b289 b290 (rowSome (i := 600) (q := (RR 89 5 A272 (n1x_ + 1) c272 (l2_.flatMap itC))) rfl rfl (flat_pos itC_len (by decide) (by rw [hln2_]; omega))) ?_
       have at292 : At G276 [(600, ⟨89, 5, .slice A272 (n1x_ + 1) c272, n1x_ + 1, l2_.flatMap itC⟩)] A272 (((i2_ : Int)).toNat * 5) [.int .i64 ((l2_.getD (((i2_ : Int)).toNat) it0).1), .int .i64 ((l2_.getD (((i2_ : Int)).toNat) it0).2.1), .int .i64 ((l2_.getD (((i2_ : Int)).toNat) it0).2.2.1), .int .i64 ((l2_.getD (((i2_ : Int)).toNat) it0).2.2.2.1), .int .u64 ((l2_.getD (((i2_ : Int)).toNat) it0).2.2.2.2)] := At.rowF itC itC_len (i := 600) (r := ⟨89, 5, .slice A272 (n1x_ + 1) c272, n1x_ + 1, l2_.flatMap itC⟩) it0 rfl rfl rfl (by rw [hln2_]; omega)
       refine Dl 23 28 16777215 B49 150 89 A272 (((i2_ : Int)).toNat * 5) (.tmp 37) (.agg #[N6 ((l2_.getD (((i2_ : Int)).toNat) it0).1), N6 ((l2_.getD (((i2_ : Int)).toNat) it0).2.1), N6 ((l2_.getD (((i2_ : Int)).toNat) it0).2.2.1), N6 ((l2_.getD (((i2_ : Int)).toNat) it0).2.2.2.1), N7 ((l2_.getD (((i2_ : Int)).toNat) it0).2.2.2.2)]) [N6 ((l2_.getD (((i2_ : Int)).toNat) it0).1), N6 ((l2_.getD (((i2_ : Int)).toNat) it0).2.1), N6 ((l2_.getD (((i2_ : Int)).toNat) it0).2.2.1), N6 ((l2_.getD (((i2_ : Int)).toNat) it0).2.2.2.1), N7 ((l2_.getD (((i2_ : Int)).toNat) it0).2.2.2.2)] hQ273 at292 ?_
       have b293 : (0 : Int) ≤ (i2_ : Int) := by omega
       have b294 : (i2_ : Int) < ((n1x_ + 1 : Nat) : Int) := by omega
       have at295 : At G276 [(600, ⟨89, 5, .slice A272 (n1x_ + 1) c272, n1x_ + 1, l2_.flatMap itC⟩)] A272 (((i2_ : Int)).toNat * 5) [.int .i64 ((l2_.getD (((i2_ : Int)).toNat) it0).1), .int .i64 ((l2_.getD (((i2_ : Int)).toNat) it0).2.1), .int .i64 ((l2_.getD (((i2_ : Int)).toNat) it0).2.2.1), .int .i64 ((l2_.getD (((i2_ : Int)).toNat) it0).2.2.2.1), .int .u64 ((l2_.getD (((i2_ : Int)).toNat) it0).2.2.2.2)] := At.rowF itC itC_len (i := 600) (r := ⟨89, 5, .slice A272 (n1x_ + 1) c272, n1x_ + 1, l2_.flatMap itC⟩) it0 rfl rfl rfl (by rw [hln2_]; omega)
       refine Dx 24 28 33554431 B49 150 84 89 5 A272 (n1x_ + 1) c272 .i64 (i2_ : Int) (.tmp 18) (.tmp 19) hQ273 b293 b294 (rowSome (i := 600) (q := (RR 89 5 A272 (n1x_ + 1) c272 (l2_.flatMap itC))) rfl rfl (flat_pos itC_len (by decide) (by rw [hln2_]; omega))) ?_
       refine XD.toE ?_
       refine En ⟨42, [(0, .own 2700 0), (1, I6 (i2_ : Int)), (4, I6 (((i2_ - 1) / 2 : Nat) : Int)), (23, VL A272 (n1x_ + 1) c272), (24, I6 (((i2_ - 1) / 2 : Nat) : Int)), (31, .v (.agg #[N6 ((l2_.getD (((((i2_ - 1) / 2 : Nat) : Int)).toNat) it0).1), N6 ((l2_.getD (((((i2_ - 1) / 2 : Nat) : Int)).toNat) it0).2.1), N6 ((l2_.getD (((((i2_ - 1) / 2 : Nat) : Int)).toNat) it0).2.2.1), N6 ((l2_.getD (((((i2_ - 1) / 2 : Nat) : Int)).toNat) it0).2.2.2.1), N7 ((l2_.getD (((((i2_ - 1) / 2 : Nat) : Int)).toNat) it0).2.2.2.2)])), (38, .v (.agg #[N6 ((l2_.getD (((i2_ : Int)).toNat) it0).1), N6 ((l2_.getD (((i2_ : Int)).toNat) it0).2.1), N6 ((l2_.getD (((i2_ : Int)).toNat) it0).2.2.1), N6 ((l2_.getD (((i2_ : Int)).toNat) it0).2.2.2.1), N7 ((l2_.getD (((i2_ : Int)).toNat) it0).2.2.2.2)])), (39, .v (elt A272 (((i2_ : Int)).toNat * 5)))], [(2700, ⟨87, [VL A272 (n1x_ + 1) c272, I7 (qx_ + 1)]⟩), (2701, ⟨87, [VL none 0 0, I7 0]⟩)]⟩ ?_
       refine Eo 25 28 67108863 B49 150 ?_
       refine X.storeElem (i := 600) (t := 89) (j := ((i2_ : Int)).toNat * 5) (n := n1x_ + 1) (c := c272) (q := (RR 89 5 A272 (n1x_ + 1) c272 (l2_.flatMap itC))) (A := A272) (x := .tmp 39) (y := .tmp 31) (z := .agg #[N6 ((l2_.getD (((((i2_ - 1) / 2 : Nat) : Int)).toNat) it0).1), N6 ((l2_.getD (((((i2_ - 1) / 2 : Nat) : Int)).toNat) it0).2.1), N6 ((l2_.getD (((((i2_ - 1) / 2 : Nat) : Int)).toNat) it0).2.2.1), N6 ((l2_.getD (((((i2_ - 1) / 2 : Nat) : Int)).toNat) it0).2.2.2.1), N7 ((l2_.getD (((((i2_ - 1) / 2 : Nat) : Int)).toNat) it0).2.2.2.2)]) (by kernel_rfl) (by kernel_rfl) (by kernel_rfl) rfl rfl (by kernel_rfl) (by rw [show _ = _ from flat_len itC_len _, hln2_]; show ((i2_ : Int)).toNat * 5 + 5 ≤ _; omega) (by kernel_rfl) (Nat.succ_pos _) (by kernel_rfl) ?_
       refine X.tellR [600, 17] (R' := [(600, RR 89 5 A272 (n1x_ + 1) c272 ((l2_.set (((i2_ : Int)).toNat) ((l2_.getD (((((i2_ - 1) / 2 : Nat) : Int)).toNat) it0).1, (l2_.getD (((((i2_ - 1) / 2 : Nat) : Int)).toNat) it0).2.1, (l2_.getD (((((i2_ - 1) / 2 : Nat) : Int)).toNat) it0).2.2.1, (l2_.getD (((((i2_ - 1) / 2 : Nat) : Int)).toNat) it0).2.2.2.1, (l2_.getD (((((i2_ - 1) / 2 : Nat) : Int)).toNat) it0).2.2.2.2)).flatMap itC)), (17, RR 89 5 A271 1 1 [N6 ((ea.getD (((ia_ : Int)).toNat) ev0).1), N6 ((ea.getD (((ia_ : Int)).toNat) ev0).2.1), N6 ((ea.getD (((ia_ : Int)).toNat) ev0).2.2.1), N6 ((ea.getD (((ia_ : Int)).toNat) ev0).2.2.2), N7 qx_])]) (congrArg (fun cs_ => (600, (RR 89 5 A272 (n1x_ + 1) c272 cs_ : Row)) :: [(17, RR 89 5 A271 1 1 [N6 ((ea.getD (((ia_ : Int)).toNat) ev0).1), N6 ((ea.getD (((ia_ : Int)).toNat) ev0).2.1), N6 ((ea.getD (((ia_ : Int)).toNat) ev0).2.2.1), N6 ((ea.getD (((ia_ : Int)).toNat) ev0).2.2.2), N7 qx_])]) (splice_flat itC_len (((l2_.getD (((((i2_ - 1) / 2 : Nat) : Int)).toNat) it0).1, (l2_.getD (((((i2_ - 1) / 2 : Nat) : Int)).toNat) it0).2.1, (l2_.getD (((((i2_ - 1) / 2 : Nat) : Int)).toNat) it0).2.2.1, (l2_.getD (((((i2_ - 1) / 2 : Nat) : Int)).toNat) it0).2.2.2.1, (l2_.getD (((((i2_ - 1) / 2 : Nat) : Int)).toNat) it0).2.2.2.2) : Item) l2_ (((i2_ : Int)).toNat) (by rw [hln2_]; omega))) ?_
       obtain ⟨l296, hl296⟩ : ∃ z_, (l2_.set (((i2_ : Int)).toNat) ((l2_.getD (((((i2_ - 1) / 2 : Nat) : Int)).toNat) it0).1, (l2_.getD (((((i2_ - 1) / 2 : Nat) : Int)).toNat) it0).2.1, (l2_.getD (((((i2_ - 1) / 2 : Nat) : Int)).toNat) it0).2.2.1, (l2_.getD (((((i2_ - 1) / 2 : Nat) : Int)).toNat) it0).2.2.2.1, (l2_.getD (((((i2_ - 1) / 2 : Nat) : Int)).toNat) it0).2.2.2.2)) = z_ := ⟨_, rfl⟩
       rw [hl296]
       have hn296 : l296.length = n1x_ + 1 := by rw [← hl296, List.length_set, hln2_]
       refine X.back ?_
       refine En ⟨42, [(0, .own 2700 0), (1, I6 (i2_ : Int)), (4, I6 (((i2_ - 1) / 2 : Nat) : Int)), (23, VL A272 (n1x_ + 1) c272), (24, I6 (((i2_ - 1) / 2 : Nat) : Int)), (38, .v (.agg #[N6 ((l2_.getD (((i2_ : Int)).toNat) it0).1), N6 ((l2_.getD (((i2_ : Int)).toNat) it0).2.1), N6 ((l2_.getD (((i2_ : Int)).toNat) it0).2.2.1), N6 ((l2_.getD (((i2_ : Int)).toNat) it0).2.2.2.1), N7 ((l2_.getD (((i2_ : Int)).toNat) it0).2.2.2.2)]))], [(2700, ⟨87, [VL A272 (n1x_ + 1) c272, I7 (qx_ + 1)]⟩), (2701, ⟨87, [VL none 0 0, I7 0]⟩)]⟩ ?_
       refine Eo 26 28 134217727 B49 150 ?_
       have b297 : (0 : Int) ≤ (((i2_ - 1) / 2 : Nat) : Int) := by omega
       have b298 : (((i2_ - 1) / 2 : Nat) : Int) < ((n1x_ + 1 : Nat) : Int) := by omega
       refine Ix 84 89 5 A272 (n1x_ + 1) c272 .i64 (((i2_ - 1) / 2 : Nat) : Int) (.tmp 23) (.tmp 24) b297 b298 (rowSome (i := 600) (q := (RR 89 5 A272 (n1x_ + 1) c272 (l296.flatMap itC))) rfl rfl (flat_pos itC_len (by decide) (by rw [hn296]; omega))) ?_
       have at299 : At G276 [(600, ⟨89, 5, .slice A272 (n1x_ + 1) c272, n1x_ + 1, l296.flatMap itC⟩), (17, ⟨89, 5, .slice A271 1 1, 1, [.int .i64 ((ea.getD (((ia_ : Int)).toNat) ev0).1), .int .i64 ((ea.getD (((ia_ : Int)).toNat) ev0).2.1), .int .i64 ((ea.getD (((ia_ : Int)).toNat) ev0).2.2.1), .int .i64 ((ea.getD (((ia_ : Int)).toNat) ev0).2.2.2), .int .u64 qx_]⟩)] A272 (((((i2_ - 1) / 2 : Nat) : Int)).toNat * 5) [.int .i64 ((l296.getD (((((i2_ - 1) / 2 : Nat) : Int)).toNat) it0).1), .int .i64 ((l296.getD (((((i2_ - 1) / 2 : Nat) : Int)).toNat) it0).2.1), .int .i64 ((l296.getD (((((i2_ - 1) / 2 : Nat) : Int)).toNat) it0).2.2.1), .int .i64 ((l296.getD (((((i2_ - 1) / 2 : Nat) : Int)).toNat) it0).2.2.2.1), .int .u64 ((l296.getD (((((i2_ - 1) / 2 : Nat) : Int)).toNat) it0).2.2.2.2)] := At.rowF itC itC_len (i := 600) (r := ⟨89, 5, .slice A272 (n1x_ + 1) c272, n1x_ + 1, l296.flatMap itC⟩) it0 rfl rfl rfl (by rw [hn296]; omega)
       refine X.back ?_
       refine En ⟨42, [(0, .own 2700 0), (1, I6 (i2_ : Int)), (4, I6 (((i2_ - 1) / 2 : Nat) : Int)), (38, .v (.agg #[N6 ((l2_.getD (((i2_ : Int)).toNat) it0).1), N6 ((l2_.getD (((i2_ : Int)).toNat) it0).2.1), N6 ((l2_.getD (((i2_ : Int)).toNat) it0).2.2.1), N6 ((l2_.getD (((i2_ : Int)).toNat) it0).2.2.2.1), N7 ((l2_.getD (((i2_ : Int)).toNat) it0).2.2.2.2)])), (40, .v (elt A272 (((((i2_ - 1) / 2 : Nat) : Int)).toNat * 5)))], [(2700, ⟨87, [VL A272 (n1x_ + 1) c272, I7 (qx_ + 1)]⟩), (2701, ⟨87, [VL none 0 0, I7 0]⟩)]⟩ ?_
       refine Eo 27 28 268435455 B49 150 ?_
       refine X.storeElem (i := 600) (t := 89) (j := ((((i2_ - 1) / 2 : Nat) : Int)).toNat * 5) (n := n1x_ + 1) (c := c272) (q := (RR 89 5 A272 (n1x_ + 1) c272 (l296.flatMap itC))) (A := A272) (x := .tmp 40) (y := .tmp 38) (z := .agg #[N6 ((l2_.getD (((i2_ : Int)).toNat) it0).1), N6 ((l2_.getD (((i2_ : Int)).toNat) it0).2.1), N6 ((l2_.getD (((i2_ : Int)).toNat) it0).2.2.1), N6 ((l2_.getD (((i2_ : Int)).toNat) it0).2.2.2.1), N7 ((l2_.getD (((i2_ : Int)).toNat) it0).2.2.2.2)]) (by kernel_rfl) (by kernel_rfl) (by kernel_rfl) rfl rfl (by kernel_rfl) (by rw [show _ = _ from flat_len itC_len _, hn296]; show ((((i2_ - 1) / 2 : Nat) : Int)).toNat * 5 + 5 ≤ _; omega) (by kernel_rfl) (Nat.succ_pos _) (by kernel_rfl) ?_
       refine X.tellR [600, 17] (R' := [(600, RR 89 5 A272 (n1x_ + 1) c272 ((l296.set (((((i2_ - 1) / 2 : Nat) : Int)).toNat) ((l2_.getD (((i2_ : Int)).toNat) it0).1, (l2_.getD (((i2_ : Int)).toNat) it0).2.1, (l2_.getD (((i2_ : Int)).toNat) it0).2.2.1, (l2_.getD (((i2_ : Int)).toNat) it0).2.2.2.1, (l2_.getD (((i2_ : Int)).toNat) it0).2.2.2.2)).flatMap itC)), (17, RR 89 5 A271 1 1 [N6 ((ea.getD (((ia_ : Int)).toNat) ev0).1), N6 ((ea.getD (((ia_ : Int)).toNat) ev0).2.1), N6 ((ea.getD (((ia_ : Int)).toNat) ev0).2.2.1), N6 ((ea.getD (((ia_ : Int)).toNat) ev0).2.2.2), N7 qx_])]) (congrArg (fun cs_ => (600, (RR 89 5 A272 (n1x_ + 1) c272 cs_ : Row)) :: [(17, RR 89 5 A271 1 1 [N6 ((ea.getD (((ia_ : Int)).toNat) ev0).1), N6 ((ea.getD (((ia_ : Int)).toNat) ev0).2.1), N6 ((ea.getD (((ia_ : Int)).toNat) ev0).2.2.1), N6 ((ea.getD (((ia_ : Int)).toNat) ev0).2.2.2), N7 qx_])]) (splice_flat itC_len (((l2_.getD (((i2_ : Int)).toNat) it0).1, (l2_.getD (((i2_ : Int)).toNat) it0).2.1, (l2_.getD (((i2_ : Int)).toNat) it0).2.2.1, (l2_.getD (((i2_ : Int)).toNat) it0).2.2.2.1, (l2_.getD (((i2_ : Int)).toNat) it0).2.2.2.2) : Item) l296 (((((i2_ - 1) / 2 : Nat) : Int)).toNat) (by rw [hn296]; omega))) ?_
       obtain ⟨l300, hl300⟩ : ∃ z_, (l296.set (((((i2_ - 1) / 2 : Nat) : Int)).toNat) ((l2_.getD (((i2_ : Int)).toNat) it0).1, (l2_.getD (((i2_ : Int)).toNat) it0).2.1, (l2_.getD (((i2_ : Int)).toNat) it0).2.2.1, (l2_.getD (((i2_ : Int)).toNat) it0).2.2.2.1, (l2_.getD (((i2_ : Int)).toNat) it0).2.2.2.2)) = z_ := ⟨_, rfl⟩
       rw [hl300]
       have hn300 : l300.length = n1x_ + 1 := by rw [← hl300, List.length_set, hn296]
       refine X.back ?_
       refine XE.done (by kernel_rfl) ?_
       refine Rn 6 (.ex .normal) [.loop J274, .blk 0] ⟨42, [(0, .own 2700 0), (1, I6 (((i2_ - 1) / 2 : Nat) : Int))], [(2700, ⟨87, [VL A272 (n1x_ + 1) c272, I7 (qx_ + 1)]⟩), (2701, ⟨87, [VL none 0 0, I7 0]⟩)]⟩ ?_
       have hsw_ : l300 = swp l2_ i2_ ((i2_ - 1) / 2) := by rw [← hl300, ← hl296]; rfl
       exact X.again (hJ274 _ _ _ _ ⟨((i2_ - 1) / 2), l300, rfl, rfl, (hG274.trans hG276), ⟨by omega, by rw [hsw_, swp_len]; exact hln2_, by rw [hsw_]; exact up_step hup_ (by omega) (by omega) hlt_, by rw [hsw_]; exact (swp_perm (by omega) (by omega)).trans hpm_⟩, rfl⟩ (by omega))
     ·
      refine X.inline (f := 81) (l := [.own 2700 0, I6 (i2_ : Int), I6 (((i2_ - 1) / 2 : Nat) : Int)]) (fn := Try.f81) (c := B81) (by kernel_rfl) (by kernel_rfl) Try.func81 (by kernel_rfl) ?_
      intro Q301 M301 hM301 hQ301 fin301
      refine Rn 6 (Qc B81 6) [Qs B81 7] ⟨52, [(0, .own 3700 0), (1, I6 (i2_ : Int)), (2, I6 (((i2_ - 1) / 2 : Nat) : Int)), (6, VB false)], [(3700, ⟨87, [VL A272 (n1x_ + 1) c272, I7 (qx_ + 1)]⟩), (3701, ⟨87, [VL none 0 0, I7 0]⟩)]⟩ ?_
      have hra_d302 := hra
      have hrb_d302 := hrb
      have hrxx__d302 := hrxx_
      refine Og 1 B81 6 14 [⟨some 0, 3700, 87, [VL A272 (n1x_ + 1) c272, I7 (qx_ + 1)]⟩] [(600, RR 89 5 A272 (n1x_ + 1) c272 (l2_.flatMap itC))] [] ⟨⟨fun _ h => (by cases h; rfl), rfl⟩, trivial⟩ (by intro p hp hn; simp only [List.mem_cons, List.not_mem_nil, or_false] at hp; rcases hp with rfl <;> first | (cases hn; done) | exact hM301 _ (Nat.le_of_ble_eq_true rfl)) (fun ρ0 => ?_)
      refine Tk 0 14 1 B81 6 (.own 3700 0) hQ301 ?_
      refine XD.nilOwn (i := 1) (l' := (lb 14 3)) (oA B81 (pa 6) 1) (x := .tmp 9) (b := 3700) (off := 0) hQ301 (by kernel_rfl) (by kernel_rfl) (by kernel_rfl) (by kernel_rfl) (by kernel_rfl) (by kernel_rfl) ?_
      refine Tk 2 14 7 B81 6 (.own 3700 0) hQ301 ?_
      refine Tk 3 14 15 B81 6 (VL A272 (n1x_ + 1) c272) hQ301 ?_
      refine Tk 4 14 31 B81 6 (I6 (i2_ : Int)) hQ301 ?_
      have b303 : (0 : Int) ≤ (i2_ : Int) := by omega
      have b304 : (i2_ : Int) < ((n1x_ + 1 : Nat) : Int) := by omega
      have at305 : At G274 [(600, ⟨89, 5, .slice A272 (n1x_ + 1) c272, n1x_ + 1, l2_.flatMap itC⟩)] A272 (((i2_ : Int)).toNat * 5) [.int .i64 ((l2_.getD (((i2_ : Int)).toNat) it0).1), .int .i64 ((l2_.getD (((i2_ : Int)).toNat) it0).2.1), .int .i64 ((l2_.getD (((i2_ : Int)).toNat) it0).2.2.1), .int .i64 ((l2_.getD (((i2_ : Int)).toNat) it0).2.2.2.1), .int .u64 ((l2_.getD (((i2_ : Int)).toNat) it0).2.2.2.2)] := At.rowF itC itC_len (i := 600) (r := ⟨89, 5, .slice A272 (n1x_ + 1) c272, n1x_ + 1, l2_.flatMap itC⟩) it0 rfl rfl rfl (by rw [hln2_]; omega)
      refine Dx 5 14 63 B81 6 84 89 5 A272 (n1x_ + 1) c272 .i64 (i2_ : Int) (.tmp 12) (.tmp 13) hQ301 b303 b304 (rowSome (i := 600) (q := (RR 89 5 A272 (n1x_ + 1) c272 (l2_.flatMap itC))) rfl rfl (flat_pos itC_len (by decide) (by rw [hln2_]; omega))) ?_
      refine Tk 6 14 127 B81 6 (.own 3700 0) hQ301 ?_
      refine XD.nilOwn (i := 7) (l' := (lb 14 255)) (oA B81 (pa 6) 7) (x := .tmp 15) (b := 3700) (off := 0) hQ301 (by kernel_rfl) (by kernel_rfl) (by kernel_rfl) (by kernel_rfl) (by kernel_rfl) (by kernel_rfl) ?_
      refine Tk 8 14 511 B81 6 (.own 3700 0) hQ301 ?_
      refine Tk 9 14 1023 B81 6 (VL A272 (n1x_ + 1) c272) hQ301 ?_
      refine Tk 10 14 2047 B81 6 (I6 (((i2_ - 1) / 2 : Nat) : Int)) hQ301 ?_
      have b306 : (0 : Int) ≤ (((i2_ - 1) / 2 : Nat) : Int) := by omega
      have b307 : (((i2_ - 1) / 2 : Nat) : Int) < ((n1x_ + 1 : Nat) : Int) := by omega
      have at308 : At G274 [(600, ⟨89, 5, .slice A272 (n1x_ + 1) c272, n1x_ + 1, l2_.flatMap itC⟩)] A272 (((((i2_ - 1) / 2 : Nat) : Int)).toNat * 5) [.int .i64 ((l2_.getD (((((i2_ - 1) / 2 : Nat) : Int)).toNat) it0).1), .int .i64 ((l2_.getD (((((i2_ - 1) / 2 : Nat) : Int)).toNat) it0).2.1), .int .i64 ((l2_.getD (((((i2_ - 1) / 2 : Nat) : Int)).toNat) it0).2.2.1), .int .i64 ((l2_.getD (((((i2_ - 1) / 2 : Nat) : Int)).toNat) it0).2.2.2.1), .int .u64 ((l2_.getD (((((i2_ - 1) / 2 : Nat) : Int)).toNat) it0).2.2.2.2)] := At.rowF itC itC_len (i := 600) (r := ⟨89, 5, .slice A272 (n1x_ + 1) c272, n1x_ + 1, l2_.flatMap itC⟩) it0 rfl rfl rfl (by rw [hln2_]; omega)
      refine Dx 11 14 4095 B81 6 84 89 5 A272 (n1x_ + 1) c272 .i64 (((i2_ - 1) / 2 : Nat) : Int) (.tmp 18) (.tmp 19) hQ301 b306 b307 (rowSome (i := 600) (q := (RR 89 5 A272 (n1x_ + 1) c272 (l2_.flatMap itC))) rfl rfl (flat_pos itC_len (by decide) (by rw [hln2_]; omega))) ?_
      refine Ts [12, 13] 14 16383 0 2 hQ301 ?_
      refine XD.done (by kernel_rfl) ?_
      refine Rn 3 (Qc B81 28) [Qs B81 29, Qs B81 15] ⟨52, [(6, VB false), (7, .v (elt A272 (((i2_ : Int)).toNat * 5))), (8, .v (elt A272 (((((i2_ - 1) / 2 : Nat) : Int)).toNat * 5)))], [(3700, ⟨87, [VL A272 (n1x_ + 1) c272, I7 (qx_ + 1)]⟩), (3701, ⟨87, [VL none 0 0, I7 0]⟩)]⟩ ?_
      have hra_d309 := hra
      have hrb_d309 := hrb
      have hrxx__d309 := hrxx_
      refine Og 2 B81 28 11 [] [(600, RR 89 5 A272 (n1x_ + 1) c272 (l2_.flatMap itC))] [] trivial (by simp) (fun ρ0 => ?_)
      refine Tk 0 11 1 B81 28 (.v (elt A272 (((i2_ : Int)).toNat * 5))) hQ301 ?_
      refine XD.nilElt (i := 1) (l' := (lb 11 3)) (oA B81 (pa 28) 1) (x := .tmp 21) (A := A272) (j := ((i2_ : Int)).toNat * 5) hQ301 (by kernel_rfl) (by kernel_rfl) (by kernel_rfl) (by kernel_rfl) (by kernel_rfl) (by kernel_rfl) ?_
      refine XD.field (i := 2) (l' := (lb 11 7)) (o := (oA B81 (pa 28) 2)) (t := 89) (f := 0) (n := 0) (A := A272) (j := ((i2_ : Int)).toNat * 5) (x := .tmp 22) hQ301 (by kernel_rfl) (by kernel_rfl) (by kernel_rfl) (by kernel_rfl) (by kernel_rfl) (by kernel_rfl) (by kernel_rfl) ?_
      refine XD.field (i := 3) (l' := (lb 11 15)) (o := (oA B81 (pa 28) 3)) (t := 27) (f := 0) (n := 0) (A := A272) (j := ((i2_ : Int)).toNat * 5 + 0) (x := .tmp 23) hQ301 (by kernel_rfl) (by kernel_rfl) (by kernel_rfl) (by kernel_rfl) (by kernel_rfl) (by kernel_rfl) (by kernel_rfl) ?_
      have at310 : At G274 [(600, ⟨89, 5, .slice A272 (n1x_ + 1) c272, n1x_ + 1, l2_.flatMap itC⟩)] A272 (((i2_ : Int)).toNat * 5) [.int .i64 ((l2_.getD (((i2_ : Int)).toNat) it0).1), .int .i64 ((l2_.getD (((i2_ : Int)).toNat) it0).2.1), .int .i64 ((l2_.getD (((i2_ : Int)).toNat) it0).2.2.1), .int .i64 ((l2_.getD (((i2_ : Int)).toNat) it0).2.2.2.1), .int .u64 ((l2_.getD (((i2_ : Int)).toNat) it0).2.2.2.2)] := At.rowF itC itC_len (i := 600) (r := ⟨89, 5, .slice A272 (n1x_ + 1) c272, n1x_ + 1, l2_.flatMap itC⟩) it0 rfl rfl rfl (by rw [hln2_]; omega)
      refine Dl 4 11 31 B81 28 2 A272 (((i2_ : Int)).toNat * 5 + 0 + 0) (.tmp 24) (N6 ((l2_.getD (((i2_ : Int)).toNat) it0).1)) [N6 ((l2_.getD (((i2_ : Int)).toNat) it0).1)] hQ301 (at310.part 0 1) ?_
      refine Tk 5 11 63 B81 28 (.v (elt A272 (((((i2_ - 1) / 2 : Nat) : Int)).toNat * 5))) hQ301 ?_
      refine XD.nilElt (i := 6) (l' := (lb 11 127)) (oA B81 (pa 28) 6) (x := .tmp 26) (A := A272) (j := ((((i2_ - 1) / 2 : Nat) : Int)).toNat * 5) hQ301 (by kernel_rfl) (by kernel_rfl) (by kernel_rfl) (by kernel_rfl) (by kernel_rfl) (by kernel_rfl) ?_
      refine XD.field (i := 7) (l' := (lb 11 255)) (o := (oA B81 (pa 28) 7)) (t := 89) (f := 0) (n := 0) (A := A272) (j := ((((i2_ - 1) / 2 : Nat) : Int)).toNat * 5) (x := .tmp 27) hQ301 (by kernel_rfl) (by kernel_rfl) (by kernel_rfl) (by kernel_rfl) (by kernel_rfl) (by kernel_rfl) (by kernel_rfl) ?_
      refine XD.field (i := 8) (l' := (lb 11 511)) (o := (oA B81 (pa 28) 8)) (t := 27) (f := 0) (n := 0) (A := A272) (j := ((((i2_ - 1) / 2 : Nat) : Int)).toNat * 5 + 0) (x := .tmp 28) hQ301 (by kernel_rfl) (by kernel_rfl) (by kernel_rfl) (by kernel_rfl) (by kernel_rfl) (by kernel_rfl) (by kernel_rfl) ?_
      have at311 : At G274 [(600, ⟨89, 5, .slice A272 (n1x_ + 1) c272, n1x_ + 1, l2_.flatMap itC⟩)] A272 (((((i2_ - 1) / 2 : Nat) : Int)).toNat * 5) [.int .i64 ((l2_.getD (((((i2_ - 1) / 2 : Nat) : Int)).toNat) it0).1), .int .i64 ((l2_.getD (((((i2_ - 1) / 2 : Nat) : Int)).toNat) it0).2.1), .int .i64 ((l2_.getD (((((i2_ - 1) / 2 : Nat) : Int)).toNat) it0).2.2.1), .int .i64 ((l2_.getD (((((i2_ - 1) / 2 : Nat) : Int)).toNat) it0).2.2.2.1), .int .u64 ((l2_.getD (((((i2_ - 1) / 2 : Nat) : Int)).toNat) it0).2.2.2.2)] := At.rowF itC itC_len (i := 600) (r := ⟨89, 5, .slice A272 (n1x_ + 1) c272, n1x_ + 1, l2_.flatMap itC⟩) it0 rfl rfl rfl (by rw [hln2_]; omega)
      refine Dl 9 11 1023 B81 28 2 A272 (((((i2_ - 1) / 2 : Nat) : Int)).toNat * 5 + 0 + 0) (.tmp 29) (N6 ((l2_.getD (((((i2_ - 1) / 2 : Nat) : Int)).toNat) it0).1)) [N6 ((l2_.getD (((((i2_ - 1) / 2 : Nat) : Int)).toNat) it0).1)] hQ301 (at311.part 0 1) ?_
      refine Ts [10] 11 2047 0 1 hQ301 ?_
      refine XD.done (by kernel_rfl) ?_
      refine Rn 1 (Qc B81 29) [Qs B81 15] ⟨52, [(6, VB false), (7, .v (elt A272 (((i2_ : Int)).toNat * 5))), (8, .v (elt A272 (((((i2_ - 1) / 2 : Nat) : Int)).toNat * 5))), (31, VB (((l2_.getD (((i2_ : Int)).toNat) it0).1) != ((l2_.getD (((((i2_ - 1) / 2 : Nat) : Int)).toNat) it0).1)))], [(3700, ⟨87, [VL A272 (n1x_ + 1) c272, I7 (qx_ + 1)]⟩), (3701, ⟨87, [VL none 0 0, I7 0]⟩)]⟩ ?_
      refine X.split 31 rfl (fun h312 => ?_) (fun h312 => ?_)
      ·
       replace h312 : ((l2_.getD (((i2_ : Int)).toNat) it0).1) ≠ ((l2_.getD (((((i2_ - 1) / 2 : Nat) : Int)).toNat) it0).1) := by simpa using h312
       refine Rn 2 (Qc B81 116) [Qs B81 117, Qs B81 15] ⟨52, [(6, VB false), (7, .v (elt A272 (((i2_ : Int)).toNat * 5))), (8, .v (elt A272 (((((i2_ - 1) / 2 : Nat) : Int)).toNat * 5)))], [(3700, ⟨87, [VL A272 (n1x_ + 1) c272, I7 (qx_ + 1)]⟩), (3701, ⟨87, [VL none 0 0, I7 0]⟩)]⟩ ?_
       have hra_d313 := hra
       have hrb_d313 := hrb
       have hrxx__d313 := hrxx_
       refine Og 3 B81 116 12 [] [(600, RR 89 5 A272 (n1x_ + 1) c272 (l2_.flatMap itC))] [] trivial (by simp) (fun ρ0 => ?_)
       refine Tk 0 12 1 B81 116 (.v (elt A272 (((i2_ : Int)).toNat * 5))) hQ301 ?_
       refine XD.nilElt (i := 1) (l' := (lb 12 3)) (oA B81 (pa 116) 1) (x := .tmp 32) (A := A272) (j := ((i2_ : Int)).toNat * 5) hQ301 (by kernel_rfl) (by kernel_rfl) (by kernel_rfl) (by kernel_rfl) (by kernel_rfl) (by kernel_rfl) ?_
       refine XD.field (i := 2) (l' := (lb 12 7)) (o := (oA B81 (pa 116) 2)) (t := 89) (f := 0) (n := 0) (A := A272) (j := ((i2_ : Int)).toNat * 5) (x := .tmp 33) hQ301 (by kernel_rfl) (by kernel_rfl) (by kernel_rfl) (by kernel_rfl) (by kernel_rfl) (by kernel_rfl) (by kernel_rfl) ?_
       refine XD.field (i := 3) (l' := (lb 12 15)) (o := (oA B81 (pa 116) 3)) (t := 27) (f := 0) (n := 0) (A := A272) (j := ((i2_ : Int)).toNat * 5 + 0) (x := .tmp 34) hQ301 (by kernel_rfl) (by kernel_rfl) (by kernel_rfl) (by kernel_rfl) (by kernel_rfl) (by kernel_rfl) (by kernel_rfl) ?_
       have at314 : At G274 [(600, ⟨89, 5, .slice A272 (n1x_ + 1) c272, n1x_ + 1, l2_.flatMap itC⟩)] A272 (((i2_ : Int)).toNat * 5) [.int .i64 ((l2_.getD (((i2_ : Int)).toNat) it0).1), .int .i64 ((l2_.getD (((i2_ : Int)).toNat) it0).2.1), .int .i64 ((l2_.getD (((i2_ : Int)).toNat) it0).2.2.1), .int .i64 ((l2_.getD (((i2_ : Int)).toNat) it0).2.2.2.1), .int .u64 ((l2_.getD (((i2_ : Int)).toNat) it0).2.2.2.2)] := At.rowF itC itC_len (i := 600) (r := ⟨89, 5, .slice A272 (n1x_ + 1) c272, n1x_ + 1, l2_.flatMap itC⟩) it0 rfl rfl rfl (by rw [hln2_]; omega)
       refine Dl 4 12 31 B81 116 2 A272 (((i2_ : Int)).toNat * 5 + 0 + 0) (.tmp 35) (N6 ((l2_.getD (((i2_ : Int)).toNat) it0).1)) [N6 ((l2_.getD (((i2_ : Int)).toNat) it0).1)] hQ301 (at314.part 0 1) ?_
       refine Tk 5 12 63 B81 116 (.v (elt A272 (((((i2_ - 1) / 2 : Nat) : Int)).toNat * 5))) hQ301 ?_
       refine XD.nilElt (i := 6) (l' := (lb 12 127)) (oA B81 (pa 116) 6) (x := .tmp 37) (A := A272) (j := ((((i2_ - 1) / 2 : Nat) : Int)).toNat * 5) hQ301 (by kernel_rfl) (by kernel_rfl) (by kernel_rfl) (by kernel_rfl) (by kernel_rfl) (by kernel_rfl) ?_
       refine XD.field (i := 7) (l' := (lb 12 255)) (o := (oA B81 (pa 116) 7)) (t := 89) (f := 0) (n := 0) (A := A272) (j := ((((i2_ - 1) / 2 : Nat) : Int)).toNat * 5) (x := .tmp 38) hQ301 (by kernel_rfl) (by kernel_rfl) (by kernel_rfl) (by kernel_rfl) (by kernel_rfl) (by kernel_rfl) (by kernel_rfl) ?_
       refine XD.field (i := 8) (l' := (lb 12 511)) (o := (oA B81 (pa 116) 8)) (t := 27) (f := 0) (n := 0) (A := A272) (j := ((((i2_ - 1) / 2 : Nat) : Int)).toNat * 5 + 0) (x := .tmp 39) hQ301 (by kernel_rfl) (by kernel_rfl) (by kernel_rfl) (by kernel_rfl) (by kernel_rfl) (by kernel_rfl) (by kernel_rfl) ?_
       have at315 : At G274 [(600, ⟨89, 5, .slice A272 (n1x_ + 1) c272, n1x_ + 1, l2_.flatMap itC⟩)] A272 (((((i2_ - 1) / 2 : Nat) : Int)).toNat * 5) [.int .i64 ((l2_.getD (((((i2_ - 1) / 2 : Nat) : Int)).toNat) it0).1), .int .i64 ((l2_.getD (((((i2_ - 1) / 2 : Nat) : Int)).toNat) it0).2.1), .int .i64 ((l2_.getD (((((i2_ - 1) / 2 : Nat) : Int)).toNat) it0).2.2.1), .int .i64 ((l2_.getD (((((i2_ - 1) / 2 : Nat) : Int)).toNat) it0).2.2.2.1), .int .u64 ((l2_.getD (((((i2_ - 1) / 2 : Nat) : Int)).toNat) it0).2.2.2.2)] := At.rowF itC itC_len (i := 600) (r := ⟨89, 5, .slice A272 (n1x_ + 1) c272, n1x_ + 1, l2_.flatMap itC⟩) it0 rfl rfl rfl (by rw [hln2_]; omega)
       refine Dl 9 12 1023 B81 116 2 A272 (((((i2_ - 1) / 2 : Nat) : Int)).toNat * 5 + 0 + 0) (.tmp 40) (N6 ((l2_.getD (((((i2_ - 1) / 2 : Nat) : Int)).toNat) it0).1)) [N6 ((l2_.getD (((((i2_ - 1) / 2 : Nat) : Int)).toNat) it0).1)] hQ301 (at315.part 0 1) ?_
       refine Ts [10, 11] 12 4095 0 2 hQ301 ?_
       refine XD.done (by kernel_rfl) ?_
       refine Rn 3 (.ex .ret) [] ⟨52, [(6, VB (decide ((l2_.getD (((i2_ : Int)).toNat) it0).1 < (l2_.getD (((((i2_ - 1) / 2 : Nat) : Int)).toNat) it0).1)))], [(3700, ⟨87, [VL A272 (n1x_ + 1) c272, I7 (qx_ + 1)]⟩), (3701, ⟨87, [VL none 0 0, I7 0]⟩)]⟩ ?_
       refine fin301 _ _ _ _ [.bool (decide ((l2_.getD (((i2_ : Int)).toNat) it0).1 < (l2_.getD (((((i2_ - 1) / 2 : Nat) : Int)).toNat) it0).1))] [(2700, ⟨87, [VL A272 (n1x_ + 1) c272, I7 (qx_ + 1)]⟩), (2701, ⟨87, [VL none 0 0, I7 0]⟩)] (.inl rfl) (by kernel_rfl) (by kernel_rfl) ?_
       refine Rn 3 (Qc B49 149) [Qs B49 75, .blk 1, .loop J274, .blk 0] ⟨42, [(0, .own 2700 0), (1, I6 (i2_ : Int)), (4, I6 (((i2_ - 1) / 2 : Nat) : Int)), (14, VB (!(decide ((l2_.getD (((i2_ : Int)).toNat) it0).1 < (l2_.getD (((((i2_ - 1) / 2 : Nat) : Int)).toNat) it0).1))))], [(2700, ⟨87, [VL A272 (n1x_ + 1) c272, I7 (qx_ + 1)]⟩), (2701, ⟨87, [VL none 0 0, I7 0]⟩)]⟩ ?_
       refine X.castS ⟨42, [(0, .own 2700 0), (1, I6 (i2_ : Int)), (4, I6 (((i2_ - 1) / 2 : Nat) : Int)), (14, VB (!(decide (ltI (l2_.getD ((i2_ : Int)).toNat it0) (l2_.getD ((((i2_ - 1) / 2 : Nat) : Int)).toNat it0)))))], [(2700, ⟨87, [VL A272 (n1x_ + 1) c272, I7 (qx_ + 1)]⟩), (2701, ⟨87, [VL none 0 0, I7 0]⟩)]⟩ (congrArg (fun zb_ : Bool => (⟨42, [(0, .own 2700 0), (1, I6 (i2_ : Int)), (4, I6 (((i2_ - 1) / 2 : Nat) : Int)), (14, VB zb_)], [(2700, ⟨87, [VL A272 (n1x_ + 1) c272, I7 (qx_ + 1)]⟩), (2701, ⟨87, [VL none 0 0, I7 0]⟩)]⟩ : S)) (show (!(decide ((l2_.getD (((i2_ : Int)).toNat) it0).1 < (l2_.getD (((((i2_ - 1) / 2 : Nat) : Int)).toNat) it0).1))) = (!(decide (ltI (l2_.getD ((i2_ : Int)).toNat it0) (l2_.getD ((((i2_ - 1) / 2 : Nat) : Int)).toNat it0)))) by first | exact congrArg (fun b_ => !b_) (decide_eq_decide.mpr (by unfold ltI; omega)) | exact decide_eq_decide.mpr (by unfold ltI; omega))) ?_
       exact hY276 _ (Ge.refl _ _)
      ·
       replace h312 : ((l2_.getD (((i2_ : Int)).toNat) it0).1) = ((l2_.getD (((((i2_ - 1) / 2 : Nat) : Int)).toNat) it0).1) := by simpa using h312
       refine Rn 4 (Qc B81 30) [Qs B81 31] ⟨52, [(6, VB false), (7, .v (elt A272 (((i2_ : Int)).toNat * 5))), (8, .v (elt A272 (((((i2_ - 1) / 2 : Nat) : Int)).toNat * 5)))], [(3700, ⟨87, [VL A272 (n1x_ + 1) c272, I7 (qx_ + 1)]⟩), (3701, ⟨87, [VL none 0 0, I7 0]⟩)]⟩ ?_
       have hra_d316 := hra
       have hrb_d316 := hrb
       have hrxx__d316 := hrxx_
       refine Og 4 B81 30 10 [] [(600, RR 89 5 A272 (n1x_ + 1) c272 (l2_.flatMap itC))] [] trivial (by simp) (fun ρ0 => ?_)
       refine Tk 0 10 1 B81 30 (.v (elt A272 (((i2_ : Int)).toNat * 5))) hQ301 ?_
       refine XD.nilElt (i := 1) (l' := (lb 10 3)) (oA B81 (pa 30) 1) (x := .tmp 43) (A := A272) (j := ((i2_ : Int)).toNat * 5) hQ301 (by kernel_rfl) (by kernel_rfl) (by kernel_rfl) (by kernel_rfl) (by kernel_rfl) (by kernel_rfl) ?_
       refine XD.field (i := 2) (l' := (lb 10 7)) (o := (oA B81 (pa 30) 2)) (t := 89) (f := 1) (n := 4) (A := A272) (j := ((i2_ : Int)).toNat * 5) (x := .tmp 44) hQ301 (by kernel_rfl) (by kernel_rfl) (by kernel_rfl) (by kernel_rfl) (by kernel_rfl) (by kernel_rfl) (by kernel_rfl) ?_
       have at317 : At G274 [(600, ⟨89, 5, .slice A272 (n1x_ + 1) c272, n1x_ + 1, l2_.flatMap itC⟩)] A272 (((i2_ : Int)).toNat * 5) [.int .i64 ((l2_.getD (((i2_ : Int)).toNat) it0).1), .int .i64 ((l2_.getD (((i2_ : Int)).toNat) it0).2.1), .int .i64 ((l2_.getD (((i2_ : Int)).toNat) it0).2.2.1), .int .i64 ((l2_.getD (((i2_ : Int)).toNat) it0).2.2.2.1), .int .u64 ((l2_.getD (((i2_ : Int)).toNat) it0).2.2.2.2)] := At.rowF itC itC_len (i := 600) (r := ⟨89, 5, .slice A272 (n1x_ + 1) c272, n1x_ + 1, l2_.flatMap itC⟩) it0 rfl rfl rfl (by rw [hln2_]; omega)
       refine Dl 3 10 15 B81 30 85 A272 (((i2_ : Int)).toNat * 5 + 4) (.tmp 45) (N7 ((l2_.getD (((i2_ : Int)).toNat) it0).2.2.2.2)) [N7 ((l2_.getD (((i2_ : Int)).toNat) it0).2.2.2.2)] hQ301 (at317.part 4 1) ?_
       refine Tk 4 10 31 B81 30 (.v (elt A272 (((((i2_ - 1) / 2 : Nat) : Int)).toNat * 5))) hQ301 ?_
       refine XD.nilElt (i := 5) (l' := (lb 10 63)) (oA B81 (pa 30) 5) (x := .tmp 47) (A := A272) (j := ((((i2_ - 1) / 2 : Nat) : Int)).toNat * 5) hQ301 (by kernel_rfl) (by kernel_rfl) (by kernel_rfl) (by kernel_rfl) (by kernel_rfl) (by kernel_rfl) ?_
       refine XD.field (i := 6) (l' := (lb 10 127)) (o := (oA B81 (pa 30) 6)) (t := 89) (f := 1) (n := 4) (A := A272) (j := ((((i2_ - 1) / 2 : Nat) : Int)).toNat * 5) (x := .tmp 48) hQ301 (by kernel_rfl) (by kernel_rfl) (by kernel_rfl) (by kernel_rfl) (by kernel_rfl) (by kernel_rfl) (by kernel_rfl) ?_
       have at318 : At G274 [(600, ⟨89, 5, .slice A272 (n1x_ + 1) c272, n1x_ + 1, l2_.flatMap itC⟩)] A272 (((((i2_ - 1) / 2 : Nat) : Int)).toNat * 5) [.int .i64 ((l2_.getD (((((i2_ - 1) / 2 : Nat) : Int)).toNat) it0).1), .int .i64 ((l2_.getD (((((i2_ - 1) / 2 : Nat) : Int)).toNat) it0).2.1), .int .i64 ((l2_.getD (((((i2_ - 1) / 2 : Nat) : Int)).toNat) it0).2.2.1), .int .i64 ((l2_.getD (((((i2_ - 1) / 2 : Nat) : Int)).toNat) it0).2.2.2.1), .int .u64 ((l2_.getD (((((i2_ - 1) / 2 : Nat) : Int)).toNat) it0).2.2.2.2)] := At.rowF itC itC_len (i := 600) (r := ⟨89, 5, .slice A272 (n1x_ + 1) c272, n1x_ + 1, l2_.flatMap itC⟩) it0 rfl rfl rfl (by rw [hln2_]; omega)
       refine Dl 7 10 255 B81 30 85 A272 (((((i2_ - 1) / 2 : Nat) : Int)).toNat * 5 + 4) (.tmp 49) (N7 ((l2_.getD (((((i2_ - 1) / 2 : Nat) : Int)).toNat) it0).2.2.2.2)) [N7 ((l2_.getD (((((i2_ - 1) / 2 : Nat) : Int)).toNat) it0).2.2.2.2)] hQ301 (at318.part 4 1) ?_
       refine Ts [8, 9] 10 1023 0 2 hQ301 ?_
       refine XD.done (by kernel_rfl) ?_
       refine Rn 2 (.ex .ret) [] ⟨52, [(6, VB (decide ((l2_.getD (((i2_ : Int)).toNat) it0).2.2.2.2 < (l2_.getD (((((i2_ - 1) / 2 : Nat) : Int)).toNat) it0).2.2.2.2)))], [(3700, ⟨87, [VL A272 (n1x_ + 1) c272, I7 (qx_ + 1)]⟩), (3701, ⟨87, [VL none 0 0, I7 0]⟩)]⟩ ?_
       refine fin301 _ _ _ _ [.bool (decide ((l2_.getD (((i2_ : Int)).toNat) it0).2.2.2.2 < (l2_.getD (((((i2_ - 1) / 2 : Nat) : Int)).toNat) it0).2.2.2.2))] [(2700, ⟨87, [VL A272 (n1x_ + 1) c272, I7 (qx_ + 1)]⟩), (2701, ⟨87, [VL none 0 0, I7 0]⟩)] (.inl rfl) (by kernel_rfl) (by kernel_rfl) ?_
       refine Rn 3 (Qc B49 149) [Qs B49 75, .blk 1, .loop J274, .blk 0] ⟨42, [(0, .own 2700 0), (1, I6 (i2_ : Int)), (4, I6 (((i2_ - 1) / 2 : Nat) : Int)), (14, VB (!(decide ((l2_.getD (((i2_ : Int)).toNat) it0).2.2.2.2 < (l2_.getD (((((i2_ - 1) / 2 : Nat) : Int)).toNat) it0).2.2.2.2))))], [(2700, ⟨87, [VL A272 (n1x_ + 1) c272, I7 (qx_ + 1)]⟩), (2701, ⟨87, [VL none 0 0, I7 0]⟩)]⟩ ?_
       refine X.castS ⟨42, [(0, .own 2700 0), (1, I6 (i2_ : Int)), (4, I6 (((i2_ - 1) / 2 : Nat) : Int)), (14, VB (!(decide (ltI (l2_.getD ((i2_ : Int)).toNat it0) (l2_.getD ((((i2_ - 1) / 2 : Nat) : Int)).toNat it0)))))], [(2700, ⟨87, [VL A272 (n1x_ + 1) c272, I7 (qx_ + 1)]⟩), (2701, ⟨87, [VL none 0 0, I7 0]⟩)]⟩ (congrArg (fun zb_ : Bool => (⟨42, [(0, .own 2700 0), (1, I6 (i2_ : Int)), (4, I6 (((i2_ - 1) / 2 : Nat) : Int)), (14, VB zb_)], [(2700, ⟨87, [VL A272 (n1x_ + 1) c272, I7 (qx_ + 1)]⟩), (2701, ⟨87, [VL none 0 0, I7 0]⟩)]⟩ : S)) (show (!(decide ((l2_.getD (((i2_ : Int)).toNat) it0).2.2.2.2 < (l2_.getD (((((i2_ - 1) / 2 : Nat) : Int)).toNat) it0).2.2.2.2))) = (!(decide (ltI (l2_.getD ((i2_ : Int)).toNat it0) (l2_.getD ((((i2_ - 1) / 2 : Nat) : Int)).toNat it0)))) by first | exact congrArg (fun b_ => !b_) (decide_eq_decide.mpr (by unfold ltI; omega)) | exact decide_eq_decide.mpr (by unfold ltI; omega))) ?_
       exact hY276 _ (Ge.refl _ _)
    ·
     replace h275 : ¬ ((i2_ : Int) > 0) := of_decide_eq_false h275
     have hh2_ : HeapFrom l2_ 0 := up_end hup_ (.inl (by omega))
     refine Rn 5 (.ex .normal) [] ⟨42, [], [(2700, ⟨87, [VL A272 (n1x_ + 1) c272, I7 (qx_ + 1)]⟩), (2701, ⟨87, [VL none 0 0, I7 0]⟩)]⟩ ?_
     refine fin273 _ _ _ _ [] [(1700, ⟨87, [VL A272 (n1x_ + 1) c272, I7 (qx_ + 1)]⟩), (1701, ⟨87, [VL none 0 0, I7 0]⟩)] (.inr rfl) (by kernel_rfl) (by kernel_rfl) ?_
     refine Rn 1 (.ex .normal) [] ⟨36, [], [(1700, ⟨87, [VL A272 (n1x_ + 1) c272, I7 (qx_ + 1)]⟩), (1701, ⟨87, [VL none 0 0, I7 0]⟩)]⟩ ?_
     refine fin269 _ _ _ _ [] [(700, ⟨87, [VL A272 (n1x_ + 1) c272, I7 (qx_ + 1)]⟩), (701, ⟨87, [VL none 0 0, I7 0]⟩)] (.inr rfl) (by kernel_rfl) (by kernel_rfl) ?_
     refine Rn 6 (Qo B13 3913 3) [.blk 1, Qs B13 979, .loop J3, .blk 0, Qs B13 31] ⟨165, [(0, VL A ea.length c), (1, VL A2 eb.length d), (4, VB false), (5, .own 700 0), (6, .own 701 0), (7, VL Xx_ xsx_.length cxx_), (8, VL none 0 0), (9, I6 (ia_ : Int)), (35, VL Xx_ xsx_.length cxx_), (36, VL A ea.length c), (37, I6 (ia_ : Int))], [(700, ⟨87, [VL A272 (n1x_ + 1) c272, I7 (qx_ + 1)]⟩), (701, ⟨87, [VL none 0 0, I7 0]⟩)]⟩ ?_
     have b319 : (0 : Int) ≤ (ia_ : Int) := by omega
     have b320 : (ia_ : Int) < ((ea.length : Nat) : Int) := by omega
     refine Ix 80 27 4 A ea.length c .i64 (ia_ : Int) (.tmp 36) (.tmp 37) b319 b320 (fun _ _ => rowAt.so hra (by omega)) ?_
     have at321 := At.ev [(600, ⟨89, 5, .slice A272 (n1x_ + 1) c272, n1x_ + 1, l2_.flatMap itC⟩), (17, ⟨89, 5, .slice A271 1 1, 1, [.int .i64 ((ea.getD (((ia_ : Int)).toNat) ev0).1), .int .i64 ((ea.getD (((ia_ : Int)).toNat) ev0).2.1), .int .i64 ((ea.getD (((ia_ : Int)).toNat) ev0).2.2.1), .int .i64 ((ea.getD (((ia_ : Int)).toNat) ev0).2.2.2), .int .u64 qx_]⟩)] hra (((ia_ : Int)).toNat) (by omega)
     simp only [evC] at at321
     refine Rn 0 (Qo B13 3913 4) [.blk 1, Qs B13 979, .loop J3, .blk 0, Qs B13 31] ⟨165, [(0, VL A ea.length c), (1, VL A2 eb.length d), (4, VB false), (5, .own 700 0), (6, .own 701 0), (7, VL Xx_ xsx_.length cxx_), (8, VL none 0 0), (9, I6 (ia_ : Int)), (35, VL Xx_ xsx_.length cxx_), (38, .v (elt A (((ia_ : Int)).toNat * 4)))], [(700, ⟨87, [VL A272 (n1x_ + 1) c272, I7 (qx_ + 1)]⟩), (701, ⟨87, [VL none 0 0, I7 0]⟩)]⟩ ?_
     refine Ld 27 A (((ia_ : Int)).toNat * 4) (.tmp 38) (.agg #[N6 ((ea.getD (((ia_ : Int)).toNat) ev0).1), N6 ((ea.getD (((ia_ : Int)).toNat) ev0).2.1), N6 ((ea.getD (((ia_ : Int)).toNat) ev0).2.2.1), N6 ((ea.getD (((ia_ : Int)).toNat) ev0).2.2.2)]) [N6 ((ea.getD (((ia_ : Int)).toNat) ev0).1), N6 ((ea.getD (((ia_ : Int)).toNat) ev0).2.1), N6 ((ea.getD (((ia_ : Int)).toNat) ev0).2.2.1), N6 ((ea.getD (((ia_ : Int)).toNat) ev0).2.2.2)] at321 ?_
     refine Rn 0 (Qo B13 3913 5) [.blk 1, Qs B13 979, .loop J3, .blk 0, Qs B13 31] ⟨165, [(0, VL A ea.length c), (1, VL A2 eb.length d), (4, VB false), (5, .own 700 0), (6, .own 701 0), (7, VL Xx_ xsx_.length cxx_), (8, VL none 0 0), (9, I6 (ia_ : Int)), (35, VL Xx_ xsx_.length cxx_), (39, .v (.agg #[N6 ((ea.getD (((ia_ : Int)).toNat) ev0).1), N6 ((ea.getD (((ia_ : Int)).toNat) ev0).2.1), N6 ((ea.getD (((ia_ : Int)).toNat) ev0).2.2.1), N6 ((ea.getD (((ia_ : Int)).toNat) ev0).2.2.2)]))], [(700, ⟨87, [VL A272 (n1x_ + 1) c272, I7 (qx_ + 1)]⟩), (701, ⟨87, [VL none 0 0, I7 0]⟩)]⟩ ?_
     refine Cg 31 [.agg #[N6 ((ea.getD (((ia_ : Int)).toNat) ev0).1), N6 ((ea.getD (((ia_ : Int)).toNat) ev0).2.1), N6 ((ea.getD (((ia_ : Int)).toNat) ev0).2.2.1), N6 ((ea.getD (((ia_ : Int)).toNat) ev0).2.2.2)]] 0 (event_ok ((ea.getD (((ia_ : Int)).toNat) ev0).1) ((ea.getD (((ia_ : Int)).toNat) ev0).2.1) ((ea.getD (((ia_ : Int)).toNat) ev0).2.2.1) ((ea.getD (((ia_ : Int)).toNat) ev0).2.2.2) _) ?_
     rintro v322 G322 rows322 hG322 ⟨rfl, rfl⟩
     replace hra := hra.mono hG322.le
     replace hrb := hrb.mono hG322.le
     replace hrxx_ := hrxx_.mono hG322.le
     refine Rn 0 (Qo B13 3913 6) [.blk 1, Qs B13 979, .loop J3, .blk 0, Qs B13 31] ⟨165, [(0, VL A ea.length c), (1, VL A2 eb.length d), (4, VB false), (5, .own 700 0), (6, .own 701 0), (7, VL Xx_ xsx_.length cxx_), (8, VL none 0 0), (9, I6 (ia_ : Int)), (35, VL Xx_ xsx_.length cxx_), (40, .v (.agg #[N6 ((ea.getD (((ia_ : Int)).toNat) ev0).1), N6 ((ea.getD (((ia_ : Int)).toNat) ev0).2.1), N6 ((ea.getD (((ia_ : Int)).toNat) ev0).2.2.1), N6 ((ea.getD (((ia_ : Int)).toNat) ev0).2.2.2)]))], [(700, ⟨87, [VL A272 (n1x_ + 1) c272, I7 (qx_ + 1)]⟩), (701, ⟨87, [VL none 0 0, I7 0]⟩)]⟩ ?_
     refine Cg 30 [.slice Xx_ xsx_.length cxx_, .agg #[N6 ((ea.getD (((ia_ : Int)).toNat) ev0).1), N6 ((ea.getD (((ia_ : Int)).toNat) ev0).2.1), N6 ((ea.getD (((ia_ : Int)).toNat) ev0).2.2.1), N6 ((ea.getD (((ia_ : Int)).toNat) ev0).2.2.2)]] 561 (rPush_ok Xx_ cxx_ xsx_ ((ea.getD (((ia_ : Int)).toNat) ev0).1) ((ea.getD (((ia_ : Int)).toNat) ev0).2.1) ((ea.getD (((ia_ : Int)).toNat) ev0).2.2.1) ((ea.getD (((ia_ : Int)).toNat) ev0).2.2.2) _ hrxx_ hlxx_ hmxx_ (by omega)) ?_
     rintro v323 G323 rows323 hG323 ⟨A323, c323, rfl, rfl⟩
     replace hra := hra.mono hG323.le
     replace hrb := hrb.mono hG323.le
     replace hrxx_ := hrxx_.mono hG323.le
     refine X.asR (R' := [(561, RR 66 4 A323 ((insE xsx_ ((ea.getD (((ia_ : Int)).toNat) ev0).1, (ea.getD (((ia_ : Int)).toNat) ev0).2.1, (ea.getD (((ia_ : Int)).toNat) ev0).2.2.1, (ea.getD (((ia_ : Int)).toNat) ev0).2.2.2)).length) c323 ((insE xsx_ ((ea.getD (((ia_ : Int)).toNat) ev0).1, (ea.getD (((ia_ : Int)).toNat) ev0).2.1, (ea.getD (((ia_ : Int)).toNat) ev0).2.2.1, (ea.getD (((ia_ : Int)).toNat) ev0).2.2.2)).flatMap evC)), (600, RR 89 5 A272 (n1x_ + 1) c272 (l2_.flatMap itC)), (17, RR 89 5 A271 1 1 [N6 ((ea.getD (((ia_ : Int)).toNat) ev0).1), N6 ((ea.getD (((ia_ : Int)).toNat) ev0).2.1), N6 ((ea.getD (((ia_ : Int)).toNat) ev0).2.2.1), N6 ((ea.getD (((ia_ : Int)).toNat) ev0).2.2.2), N7 qx_])]) rfl ?_
     refine X.tellR [561, 600, 17] (R' := [(561, RR 66 4 A323 ((insE xsx_ ((ea.getD (((ia_ : Int)).toNat) ev0).1, (ea.getD (((ia_ : Int)).toNat) ev0).2.1, (ea.getD (((ia_ : Int)).toNat) ev0).2.2.1, (ea.getD (((ia_ : Int)).toNat) ev0).2.2.2)).length) c323 ((insE xsx_ ((ea.getD (((ia_ : Int)).toNat) ev0).1, (ea.getD (((ia_ : Int)).toNat) ev0).2.1, (ea.getD (((ia_ : Int)).toNat) ev0).2.2.1, (ea.getD (((ia_ : Int)).toNat) ev0).2.2.2)).flatMap evC)), (600, RR 89 5 A272 (n1x_ + 1) c272 (l2_.flatMap itC)), (17, RR 89 5 A271 1 1 [N6 ((ea.getD (((ia_ : Int)).toNat) ev0).1), N6 ((ea.getD (((ia_ : Int)).toNat) ev0).2.1), N6 ((ea.getD (((ia_ : Int)).toNat) ev0).2.2.1), N6 ((ea.getD (((ia_ : Int)).toNat) ev0).2.2.2), N7 qx_])]) rfl ?_
     refine X.capLe (i := 561) (q := (RR 66 4 A323 ((insE xsx_ ((ea.getD (((ia_ : Int)).toNat) ev0).1, (ea.getD (((ia_ : Int)).toNat) ev0).2.1, (ea.getD (((ia_ : Int)).toNat) ev0).2.2.1, (ea.getD (((ia_ : Int)).toNat) ev0).2.2.2)).length) c323 ((insE xsx_ ((ea.getD (((ia_ : Int)).toNat) ev0).1, (ea.getD (((ia_ : Int)).toNat) ev0).2.1, (ea.getD (((ia_ : Int)).toNat) ev0).2.2.1, (ea.getD (((ia_ : Int)).toNat) ev0).2.2.2)).flatMap evC))) (n := (insE xsx_ ((ea.getD (((ia_ : Int)).toNat) ev0).1, (ea.getD (((ia_ : Int)).toNat) ev0).2.1, (ea.getD (((ia_ : Int)).toNat) ev0).2.2.1, (ea.getD (((ia_ : Int)).toNat) ev0).2.2.2)).length) (c := c323) (A := A323) rfl rfl ?_
     intro hle324 hmx324
     refine X.freezeT (d := evD) (i := 561) (n := (insE xsx_ ((ea.getD (((ia_ : Int)).toNat) ev0).1, (ea.getD (((ia_ : Int)).toNat) ev0).2.1, (ea.getD (((ia_ : Int)).toNat) ev0).2.2.1, (ea.getD (((ia_ : Int)).toNat) ev0).2.2.2)).length) (c := c323) (A := A323) ((insE xsx_ ((ea.getD (((ia_ : Int)).toNat) ev0).1, (ea.getD (((ia_ : Int)).toNat) ev0).2.1, (ea.getD (((ia_ : Int)).toNat) ev0).2.2.1, (ea.getD (((ia_ : Int)).toNat) ev0).2.2.2))) rfl (by decide) (fun _ _ => evD_reps) (by kernel_rfl) (fun _ h => h) ?_
     intro G324 hG324 hr324
     replace hra := hra.mono hG324.le
     replace hrb := hrb.mono hG324.le
     replace hrxx_ := hrxx_.mono hG324.le
     refine Rn 7 (Qo B13 979 2) [.loop J3, .blk 0, Qs B13 31] ⟨165, [(0, VL A ea.length c), (1, VL A2 eb.length d), (4, VB false), (5, .own 700 0), (6, .own 701 0), (7, VL A323 ((insE xsx_ ((ea.getD (((ia_ : Int)).toNat) ev0).1, (ea.getD (((ia_ : Int)).toNat) ev0).2.1, (ea.getD (((ia_ : Int)).toNat) ev0).2.2.1, (ea.getD (((ia_ : Int)).toNat) ev0).2.2.2)).length) c323), (8, VL none 0 0), (9, I6 (ia_ : Int)), (28, I6 (IntKind.i64.wrap ((ia_ : Int) + 1)))], [(700, ⟨87, [VL A272 (n1x_ + 1) c272, I7 (qx_ + 1)]⟩), (701, ⟨87, [VL none 0 0, I7 0]⟩)]⟩ ?_
     refine Kn 28 .i64 ((ia_ : Int) + 1) rfl (wi64 (by omega) (by omega)) ?_
     refine Rn 2 (.ex .normal) [.loop J3, .blk 0, Qs B13 31] ⟨165, [(0, VL A ea.length c), (1, VL A2 eb.length d), (4, VB false), (5, .own 700 0), (6, .own 701 0), (7, VL A323 ((insE xsx_ ((ea.getD (((ia_ : Int)).toNat) ev0).1, (ea.getD (((ia_ : Int)).toNat) ev0).2.1, (ea.getD (((ia_ : Int)).toNat) ev0).2.2.1, (ea.getD (((ia_ : Int)).toNat) ev0).2.2.2)).length) c323), (8, VL none 0 0), (9, I6 ((ia_ : Int) + 1))], [(700, ⟨87, [VL A272 (n1x_ + 1) c272, I7 (qx_ + 1)]⟩), (701, ⟨87, [VL none 0 0, I7 0]⟩)]⟩ ?_
     refine X.tellR [600] (R' := [(600, RR 89 5 A272 (n1x_ + 1) c272 (l2_.flatMap itC))]) rfl ?_
     exact X.again (hJ3 _ _ _ _ ⟨A272, c272, (n1x_ + 1), l2_, (qx_ + 1), A323, c323, (insE xsx_ ((ea.getD (((ia_ : Int)).toNat) ev0).1, (ea.getD (((ia_ : Int)).toNat) ev0).2.1, (ea.getD (((ia_ : Int)).toNat) ev0).2.2.1, (ea.getD (((ia_ : Int)).toNat) ev0).2.2.2)), (ia_ + 1), rfl, rfl, ((((hG3.trans hG274).trans hG322).trans hG323).trans hG324), ⟨⟨by omega, by omega⟩, hln2_, plays_push (x := ((ea.getD ia_ ev0).1, (ea.getD ia_ ev0).2.1, (ea.getD ia_ ev0).2.2.1, (ea.getD ia_ ev0).2.2.2, qx_)) hPx_ rfl hh2_ (by rw [← hl272] at hpm_; exact hpm_), ⟨by omega, by omega, by omega⟩, hle324, by have h_ := hmx324; simp only [maxLen] at h_ ⊢; omega, hr324⟩, rfl⟩ (by omega))
   ·
    replace h265 : ¬ ((ia_ : Int) < 50) := of_decide_eq_false h265
    refine Rn 3 (.ex (.exit 0)) [.loop J3, .blk 0, Qs B13 31] ⟨165, [(0, VL A ea.length c), (1, VL A2 eb.length d), (4, VB false), (5, .own 700 0), (6, .own 701 0), (7, VL Xx_ xsx_.length cxx_), (8, VL none 0 0), (9, I6 (ia_ : Int))], [(700, ⟨87, [VL Cx_ n1x_ c1x_, I7 qx_]⟩), (701, ⟨87, [VL none 0 0, I7 0]⟩)]⟩ ?_
    exact hX3
  ·
   replace h264 : ¬ ((ia_ : Int) < ((ea.length : Nat) : Int)) := of_decide_eq_false h264
   refine Rn 8 (.ex (.exit 0)) [.loop J3, .blk 0, Qs B13 31] ⟨165, [(0, VL A ea.length c), (1, VL A2 eb.length d), (4, VB false), (5, .own 700 0), (6, .own 701 0), (7, VL Xx_ xsx_.length cxx_), (8, VL none 0 0), (9, I6 (ia_ : Int))], [(700, ⟨87, [VL Cx_ n1x_ c1x_, I7 qx_]⟩), (701, ⟨87, [VL none 0 0, I7 0]⟩)]⟩ ?_
   exact hX3
end Go.Proofs.YthpinlcfcgnilaaX
