/- leatref06.Push. Walked; printed by a small program of this session. Conditions: none. -/
import Derived.Test.YthpinlcfcgnilaaProg
import Derived.KernelRfl
import Derived.Test.YthpinlcfcgnilaaYH3
namespace Go.Proofs.YthpinlcfcgnilaaX
open Go.RowKit
open Go.Proofs.YthpinlcfcgnilaaW.PrintLast
set_option linter.unusedVariables false
set_option linter.unusedSimpArgs false
set_option maxRecDepth 100000
/-- leat/leatref06.Push -/
noncomputable def B30 : Code := bodyOf Try.f30
set_option maxHeartbeats 1000000 in
theorem rPush_ok (A : Option Addr) (c : Nat) (xs : List Ev) (e0_ e1_ e2_ e3_ : Int) (G : Mem) (hr : rowAt evD G A xs) (hle : xs.length ≤ c) (hmx : c ≤ maxLen) (hsz : xs.length ≤ 1000) : CallsG Try.prog 30 [.slice A xs.length c, .agg #[.int .i64 e0_, .int .i64 e1_, .int .i64 e2_, .int .i64 e3_]] G (fun _ v rows => ∃ A' c', v = .slice A' (insE xs (e0_, e1_, e2_, e3_)).length c' ∧ rows = [⟨66, 4, .slice A' (insE xs (e0_, e1_, e2_, e3_)).length c', (insE xs (e0_, e1_, e2_, e3_)).length, (insE xs (e0_, e1_, e2_, e3_)).flatMap evC⟩]) := by
 simp only [maxLen] at hmx
 refine CallsG.enter Try.func30 rfl rfl ?_
 intro w
 refine Rn 13 (Qc B30 28) [.blk 0, Qs B30 15] ⟨34, [(0, VL A xs.length c), (3, .own 3 0), (4, VL none 0 0), (5, I6 0)], [(3, ⟨66, [I6 e0_, I6 e1_, I6 e2_, I6 e3_]⟩)]⟩ ?_
 refine X.loopJ (fun m s R' G' => ∃ (i_ : Nat), s = ⟨34, [(0, VL A xs.length c), (3, .own 3 0), (4, VL none 0 0), (5, I6 (i_ : Int))], [(3, ⟨66, [I6 e0_, I6 e1_, I6 e2_, I6 e3_]⟩)]⟩ ∧ R' = [] ∧ G = G' ∧ (i_ ≤ xs.length ∧ ∀ j_, j_ < i_ → (xs.getD j_ ev0).1 ≤ e0_) ∧ m = (xs.length - i_)) _ ⟨0, rfl, rfl, rfl, ⟨by omega, fun _ h_ => absurd h_ (Nat.not_lt_zero _)⟩, rfl⟩ ?_
 rintro m1 s1 R1 G1 ⟨i_, rfl, rfl, rfl, hF1, rfl⟩ J1 hJ1
 obtain ⟨hi_, hj_⟩ := hF1
 refine Rn 2 (Qc B30 224) [Qs B30 225, Qs B30 113, .loop J1, .blk 0, Qs B30 15] ⟨34, [(0, VL A xs.length c), (3, .own 3 0), (4, VL none 0 0), (5, I6 (i_ : Int))], [(3, ⟨66, [I6 e0_, I6 e1_, I6 e2_, I6 e3_]⟩)]⟩ ?_
 have hr_d2 := hr
 refine Og 2 B30 224 14 [⟨some 3, 3, 66, [I6 e0_, I6 e1_, I6 e2_, I6 e3_]⟩] [] [] ⟨⟨fun _ h => (by cases h; rfl), rfl⟩, trivial⟩ (by intro p hp hn; simp only [List.mem_cons, List.not_mem_nil, or_false] at hp; rcases hp with rfl <;> first | (cases hn; done) | exact absurd _ (Nat.le_of_ble_eq_true rfl)) (fun ρ0 => ?_)
 refine Tk 0 14 1 B30 224 (I6 (i_ : Int)) QOk.ctxG ?_
 refine Tk 1 14 3 B30 224 (VL A xs.length c) QOk.ctxG ?_
 refine Tk 2 14 7 B30 224 (I6 (xs.length : Int)) QOk.ctxG ?_
 refine Tk 3 14 15 B30 224 (VB (decide ((i_ : Int) < (xs.length : Int)))) QOk.ctxG ?_
 refine Tk 4 14 31 B30 224 (VB (decide ((i_ : Int) < (xs.length : Int)))) QOk.ctxG ?_
 refine XD.split 10 rfl (fun h3 => ?_) (fun h3 => ?_)
 ·
  replace h3 : (i_ : Int) < ((xs.length : Nat) : Int) := of_decide_eq_true h3
  refine Tk 5 14 63 B30 224 (VL A xs.length c) QOk.ctxG ?_
  refine Tk 6 14 127 B30 224 (I6 (i_ : Int)) QOk.ctxG ?_
  have b4 : (0 : Int) ≤ (i_ : Int) := by omega
  have b5 : (i_ : Int) < ((xs.length : Nat) : Int) := by omega
  have at6 := At.ev [] hr_d2 (((i_ : Int)).toNat) (by omega)
  simp only [evC] at at6
  refine Dx 7 14 255 B30 224 59 66 4 A xs.length c .i64 (i_ : Int) (.tmp 11) (.tmp 12) QOk.ctxG b4 b5 (fun _ _ => rowAt.so hr_d2 (by omega)) ?_
  refine XD.field (i := 8) (l' := (lb 14 511)) (o := (oA B30 (pa 224) 8)) (t := 66) (f := 0) (n := 0) (A := A) (j := ((i_ : Int)).toNat * 4) (x := .tmp 13) QOk.ctxG (by kernel_rfl) (by kernel_rfl) (by kernel_rfl) (by kernel_rfl) (by kernel_rfl) (by kernel_rfl) (by kernel_rfl) ?_
  refine Dl 9 14 1023 B30 224 2 A (((i_ : Int)).toNat * 4 + 0) (.tmp 14) (N6 ((xs.getD (((i_ : Int)).toNat) ev0).1)) [N6 ((xs.getD (((i_ : Int)).toNat) ev0).1)] QOk.ctxG (at6.part 0 1) ?_
  refine Ts [10, 11, 12, 13] 14 16383 0 4 QOk.ctxG ?_
  refine XD.done (by kernel_rfl) ?_
  refine Rn 1 (Qc B30 225) [Qs B30 113, .loop J1, .blk 0, Qs B30 15] ⟨34, [(0, VL A xs.length c), (3, .own 3 0), (4, VL none 0 0), (5, I6 (i_ : Int)), (19, VB (decide ((xs.getD (((i_ : Int)).toNat) ev0).1 ≤ e0_)))], [(3, ⟨66, [I6 e0_, I6 e1_, I6 e2_, I6 e3_]⟩)]⟩ ?_
  refine X.split 19 rfl (fun h7 => ?_) (fun h7 => ?_)
  ·
   replace h7 : (xs.getD (((i_ : Int)).toNat) ev0).1 ≤ e0_ := of_decide_eq_true h7
   have hle_ : (xs.getD i_ ev0).1 ≤ e0_ := h7
   refine Rn 7 (Qo B30 226 2) [.blk 1, .loop J1, .blk 0, Qs B30 15] ⟨34, [(0, VL A xs.length c), (3, .own 3 0), (4, VL none 0 0), (5, I6 (i_ : Int)), (21, I6 (IntKind.i64.wrap ((i_ : Int) + 1)))], [(3, ⟨66, [I6 e0_, I6 e1_, I6 e2_, I6 e3_]⟩)]⟩ ?_
   refine Kn 21 .i64 ((i_ : Int) + 1) rfl (wi64 (by omega) (by omega)) ?_
   refine Rn 3 (.ex .normal) [.loop J1, .blk 0, Qs B30 15] ⟨34, [(0, VL A xs.length c), (3, .own 3 0), (4, VL none 0 0), (5, I6 ((i_ : Int) + 1))], [(3, ⟨66, [I6 e0_, I6 e1_, I6 e2_, I6 e3_]⟩)]⟩ ?_
   exact X.again (hJ1 _ _ _ _ ⟨(i_ + 1), rfl, rfl, rfl, ⟨by omega, fun j_ h_ => by
    rcases Nat.lt_or_ge j_ i_ with h1_ | h1_
    · exact hj_ j_ h1_
    · rw [show j_ = i_ by omega]; exact hle_⟩, rfl⟩ (by omega))
  ·
   replace h7 : ¬ ((xs.getD (((i_ : Int)).toNat) ev0).1 ≤ e0_) := of_decide_eq_false h7
   have hst_ : i_ = xs.length ∨ ¬ (xs.getD i_ ev0).1 ≤ e0_ := .inr h7
   refine Rn 7 (Qc B30 30) [Qs B30 31] ⟨34, [(0, VL A xs.length c), (3, .own 3 0), (4, VL none 0 0), (5, I6 (i_ : Int))], [(3, ⟨66, [I6 e0_, I6 e1_, I6 e2_, I6 e3_]⟩)]⟩ ?_
   have hr_d8 := hr
   refine Og 4 B30 30 13 [⟨some 3, 3, 66, [I6 e0_, I6 e1_, I6 e2_, I6 e3_]⟩] [] [] ⟨⟨fun _ h => (by cases h; rfl), rfl⟩, trivial⟩ (by intro p hp hn; simp only [List.mem_cons, List.not_mem_nil, or_false] at hp; rcases hp with rfl <;> first | (cases hn; done) | exact absurd _ (Nat.le_of_ble_eq_true rfl)) (fun ρ0 => ?_)
   refine Tk 1 13 2 B30 30 (VL A xs.length c) QOk.ctxG ?_
   refine Tk 2 13 6 B30 30 (I6 (i_ : Int)) QOk.ctxG ?_
   have hlo9 : 0 ≤ ((i_ : Int)).toNat := by omega
   have hhi9 : ((i_ : Int)).toNat ≤ xs.length := by omega
   refine XD.cut (i := 3) (l' := (lb 13 14)) (o := (oA B30 (pa 30) 3)) (t := 59) (e := 66) (sz := 4) (n := xs.length) (c := c) (A := A) (x := .tmp 23) (l0 := none) (h := (some (.tmp 24))) (lv := none) (hv := (some (N6 (i_ : Int)))) 0 (((i_ : Int)).toNat) QOk.ctxG (by kernel_rfl) (by kernel_rfl) (by kernel_rfl) (by kernel_rfl) (by kernel_rfl) (by kernel_rfl) (by kernel_rfl) (by kernel_rfl) (by kernel_rfl) (rfl) (⟨_, _, rfl, by omega, rfl⟩) hlo9 (Nat.le_trans hhi9 hle) (by kernel_rfl) ?_
   obtain ⟨A9, hA9⟩ : ∃ A_, cutA A c 0 4 = A_ := ⟨_, rfl⟩
   obtain ⟨ys9, hys9⟩ : ∃ l_, (xs.take (((i_ : Int)).toNat)).drop 0 = l_ := ⟨_, rfl⟩
   have hr9 : rowAt evD G (cutA A c 0 4) ((xs.take (((i_ : Int)).toNat)).drop 0) := rowAt_cut hr hlo9 hhi9 hle
   have hl9 : (((i_ : Int)).toNat) - 0 = ys9.length := by rw [← hys9, List.length_drop, List.length_take]; omega
   have hc9 : ys9.length ≤ c - 0 := by omega
   have hm9 : c - 0 ≤ maxLen := Nat.le_trans (Nat.sub_le _ _) hmx
   rw [hys9, show cutA A c 0 _ = A9 from hA9] at hr9
   rw [hA9, hl9]
   refine Tk 5 13 46 B30 30 (.v (.agg #[N6 e0_, N6 e1_, N6 e2_, N6 e3_])) QOk.ctxG ?_
   refine Tk 8 13 302 B30 30 (VL A xs.length c) QOk.ctxG ?_
   refine Tk 9 13 814 B30 30 (I6 (i_ : Int)) QOk.ctxG ?_
   have hlo10 : ((i_ : Int)).toNat ≤ xs.length := by omega
   have hhi10 : xs.length ≤ xs.length := by omega
   refine XD.cut (i := 10) (l' := (lb 13 1838)) (o := (oA B30 (pa 30) 10)) (t := 59) (e := 66) (sz := 4) (n := xs.length) (c := c) (A := A) (x := .tmp 30) (l0 := (some (.tmp 31))) (h := none) (lv := (some (N6 (i_ : Int)))) (hv := none) (((i_ : Int)).toNat) xs.length QOk.ctxG (by kernel_rfl) (by kernel_rfl) (by kernel_rfl) (by kernel_rfl) (by kernel_rfl) (by kernel_rfl) (by kernel_rfl) (by kernel_rfl) (by kernel_rfl) (⟨_, _, rfl, by omega, rfl⟩) (rfl) hlo10 (Nat.le_trans hhi10 hle) (by kernel_rfl) ?_
   obtain ⟨A10, hA10⟩ : ∃ A_, cutA A c (((i_ : Int)).toNat) 4 = A_ := ⟨_, rfl⟩
   obtain ⟨ys10, hys10⟩ : ∃ l_, (xs.take xs.length).drop (((i_ : Int)).toNat) = l_ := ⟨_, rfl⟩
   have hr10 : rowAt evD G (cutA A c (((i_ : Int)).toNat) 4) ((xs.take xs.length).drop (((i_ : Int)).toNat)) := rowAt_cut hr hlo10 hhi10 hle
   have hl10 : xs.length - (((i_ : Int)).toNat) = ys10.length := by rw [← hys10, List.length_drop, List.length_take]; omega
   have hc10 : ys10.length ≤ c - (((i_ : Int)).toNat) := by omega
   have hm10 : c - (((i_ : Int)).toNat) ≤ maxLen := Nat.le_trans (Nat.sub_le _ _) hmx
   rw [hys10, show cutA A c (((i_ : Int)).toNat) _ = A10 from hA10] at hr10
   rw [hA10, hl10]
   refine Dn ⟨34, [(3, .own 3 0), (4, VL none 0 0), (25, VL A9 ys9.length (c - 0)), (27, .v (.agg #[N6 e0_, N6 e1_, N6 e2_, N6 e3_])), (32, VL A10 ys10.length (c - (((i_ : Int)).toNat)))], [(3, ⟨66, [I6 e0_, I6 e1_, I6 e2_, I6 e3_]⟩)]⟩ ⟨⟨fun _ h => (by cases h; rfl), rfl⟩, trivial⟩ ?_
   refine XD.two (i := 0) (j := 6) (li := (lb 13 1839)) (lj := (lb 13 1902)) (oA B30 (pa 30) 0) (oA B30 (pa 30) 6) (by kernel_rfl) (by kernel_rfl) (by kernel_rfl) (by kernel_rfl) (by kernel_rfl) ?_ ?_
   ·
    refine Lt 22 66 4 0 [] ?_
    intro A11
    refine X.back ⟨⟨⟨fun _ h => (by cases h; rfl), rfl⟩, trivial⟩, Le.refl _, rfl, ?_⟩
    refine Dn ⟨34, [(3, .own 3 0), (4, VL none 0 0), (22, VL A11 0 0), (25, VL A9 ys9.length (c - 0)), (27, .v (.agg #[N6 e0_, N6 e1_, N6 e2_, N6 e3_])), (32, VL A10 ys10.length (c - (((i_ : Int)).toNat)))], [(3, ⟨66, [I6 e0_, I6 e1_, I6 e2_, I6 e3_]⟩)]⟩ ⟨⟨fun _ h => (by cases h; rfl), rfl⟩, trivial⟩ ?_
    refine XD.two (i := 4) (j := 6) (li := (lb 13 1855)) (lj := (lb 13 1903)) (oA B30 (pa 30) 4) (oA B30 (pa 30) 6) (by kernel_rfl) (by kernel_rfl) (by kernel_rfl) (by kernel_rfl) (by kernel_rfl) ?_ ?_
    ·
     refine Aw 22 (RR 66 4 A11 0 0 []) 59 32 (.agg #[N6 0, N6 0, N6 0, N6 0]) (.tmp 22) (.tmp 25) 0 0 ys9.length (c - 0) A11 A9 (ys9.flatMap evC) (.inl rfl) (evs_len _) (at_evs [(22, RR 66 4 A11 0 0 [])] hr9) (fun _ _ e => rowAt.none hr9 e) ones_ev (by omega) ?_
     intro A12 c12 hc12
     refine X.tellR [22] (R' := [(22, RR 66 4 A12 (0 + ys9.length) c12 (([] ++ ys9).flatMap evC))]) (congrArg (fun cs_ => (22, (RR 66 4 A12 (0 + ys9.length) c12 cs_ : Row)) :: []) (show [] ++ (ys9.flatMap evC) = ([] ++ ys9).flatMap evC by simp)) ?_
     obtain ⟨l12, hl12⟩ : ∃ z_, ([] ++ ys9) = z_ := ⟨_, rfl⟩
     rw [hl12]
     have hn12 : l12.length = 0 + ys9.length := by rw [← hl12, List.length_append]; simp
     refine X.back ⟨⟨⟨fun _ h => (by cases h; rfl), rfl⟩, trivial⟩, Le.refl _, rfl, ?_⟩
     refine Dn ⟨34, [(3, .own 3 0), (4, VL none 0 0), (26, VL A12 (0 + ys9.length) c12), (27, .v (.agg #[N6 e0_, N6 e1_, N6 e2_, N6 e3_])), (32, VL A10 ys10.length (c - (((i_ : Int)).toNat)))], [(3, ⟨66, [I6 e0_, I6 e1_, I6 e2_, I6 e3_]⟩)]⟩ ⟨⟨fun _ h => (by cases h; rfl), rfl⟩, trivial⟩ ?_
     refine Do 6 13 1919 B30 30 ?_
     refine Lt 28 66 4 1 [N6 e0_, N6 e1_, N6 e2_, N6 e3_] ?_
     intro A13
     refine X.back ⟨⟨⟨fun _ h => (by cases h; rfl), rfl⟩, trivial⟩, Le.refl _, rfl, ?_⟩
     refine Dn ⟨34, [(3, .own 3 0), (4, VL none 0 0), (26, VL A12 (0 + ys9.length) c12), (28, VL A13 1 1), (32, VL A10 ys10.length (c - (((i_ : Int)).toNat)))], [(3, ⟨66, [I6 e0_, I6 e1_, I6 e2_, I6 e3_]⟩)]⟩ ⟨⟨fun _ h => (by cases h; rfl), rfl⟩, trivial⟩ ?_
     refine Do 7 13 2047 B30 30 ?_
     refine Ap 22 (RR 66 4 A12 (0 + ys9.length) c12 (l12.flatMap evC)) 59 32 (.agg #[N6 0, N6 0, N6 0, N6 0]) (.tmp 26) (.tmp 28) (0 + ys9.length) c12 1 1 A12 A13 [N6 e0_, N6 e1_, N6 e2_, N6 e3_] (.inl rfl) (by kernel_rfl) (At.of_row (i := 28) (r := (RR 66 4 A13 1 1 [N6 e0_, N6 e1_, N6 e2_, N6 e3_])) rfl rfl) (fun w hw e => absurd (rowSome (i := 28) (q := (RR 66 4 A13 1 1 [N6 e0_, N6 e1_, N6 e2_, N6 e3_])) rfl rfl (Nat.succ_pos _) w hw) (by rw [e]; decide)) (ones (by kernel_rfl)) (by omega) ?_
     intro A14 c14 hc14
     refine X.tellR [22, 28] (R' := [(22, RR 66 4 A14 (0 + ys9.length + 1) c14 ((l12 ++ [(e0_, e1_, e2_, e3_)]).flatMap evC)), (28, RR 66 4 A13 1 1 [N6 e0_, N6 e1_, N6 e2_, N6 e3_])]) (congrArg (fun cs_ => (22, (RR 66 4 A14 (0 + ys9.length + 1) c14 cs_ : Row)) :: [(28, RR 66 4 A13 1 1 [N6 e0_, N6 e1_, N6 e2_, N6 e3_])]) (flat_snoc evC l12 ((e0_, e1_, e2_, e3_) : Ev))) ?_
     obtain ⟨l14, hl14⟩ : ∃ z_, (l12 ++ [(e0_, e1_, e2_, e3_)]) = z_ := ⟨_, rfl⟩
     rw [hl14]
     have hn14 : l14.length = 0 + ys9.length + 1 := by rw [← hl14, List.length_append, hn12]; rfl
     refine X.back ⟨⟨⟨fun _ h => (by cases h; rfl), rfl⟩, trivial⟩, Le.refl _, rfl, ?_⟩
     refine Dn ⟨34, [(3, .own 3 0), (4, VL none 0 0), (29, VL A14 (0 + ys9.length + 1) c14), (32, VL A10 ys10.length (c - (((i_ : Int)).toNat)))], [(3, ⟨66, [I6 e0_, I6 e1_, I6 e2_, I6 e3_]⟩)]⟩ ⟨⟨fun _ h => (by cases h; rfl), rfl⟩, trivial⟩ ?_
     refine Do 11 13 4095 B30 30 ?_
     refine Aw 22 (RR 66 4 A14 (0 + ys9.length + 1) c14 (l14.flatMap evC)) 59 32 (.agg #[N6 0, N6 0, N6 0, N6 0]) (.tmp 29) (.tmp 32) (0 + ys9.length + 1) c14 ys10.length (c - (((i_ : Int)).toNat)) A14 A10 (ys10.flatMap evC) (.inl rfl) (evs_len _) (at_evs [(22, RR 66 4 A14 (0 + ys9.length + 1) c14 (l14.flatMap evC)), (28, RR 66 4 A13 1 1 [N6 e0_, N6 e1_, N6 e2_, N6 e3_])] hr10) (fun _ _ e => rowAt.none hr10 e) ones_ev (by omega) ?_
     intro A15 c15 hc15
     refine X.tellR [22] (R' := [(22, RR 66 4 A15 (0 + ys9.length + 1 + ys10.length) c15 ((l14 ++ ys10).flatMap evC))]) (congrArg (fun cs_ => (22, (RR 66 4 A15 (0 + ys9.length + 1 + ys10.length) c15 cs_ : Row)) :: []) (show l14.flatMap evC ++ (ys10.flatMap evC) = (l14 ++ ys10).flatMap evC by simp)) ?_
     obtain ⟨l15, hl15⟩ : ∃ z_, (l14 ++ ys10) = z_ := ⟨_, rfl⟩
     rw [hl15]
     have hn15 : l15.length = 0 + ys9.length + 1 + ys10.length := by rw [← hl15, List.length_append, hn14]
     refine X.back ⟨⟨⟨fun _ h => (by cases h; rfl), rfl⟩, trivial⟩, Le.refl _, rfl, ?_⟩
     refine Ts [12] 13 8191 0 1 QOk.ctxG ?_
     refine XD.done (by kernel_rfl) ?_
     refine Rn 2 (.ex .ret) [] ⟨34, [(4, VL A15 (0 + ys9.length + 1 + ys10.length) c15)], []⟩ ?_
     refine Dg (.inl rfl) [.slice A15 (0 + ys9.length + 1 + ys10.length) c15] [22] rfl (Ge.refl _ _) ?_
     have hF_ : l15 = insE xs (e0_, e1_, e2_, e3_) := by
      rw [← hl15, ← hl14, ← hl12, ← hys9, ← hys10, List.take_length, List.nil_append, List.drop_zero]
      exact insE_at hi_ hj_ hst_
     rw [← hF_, ← hn15]
     exact ⟨_, _, rfl, rfl⟩
    ·
     refine Lt 28 66 4 1 [N6 e0_, N6 e1_, N6 e2_, N6 e3_] ?_
     intro A16
     refine X.back ⟨⟨⟨fun _ h => (by cases h; rfl), rfl⟩, trivial⟩, Le.refl _, rfl, ?_⟩
     refine Dn ⟨34, [(3, .own 3 0), (4, VL none 0 0), (22, VL A11 0 0), (25, VL A9 ys9.length (c - 0)), (28, VL A16 1 1), (32, VL A10 ys10.length (c - (((i_ : Int)).toNat)))], [(3, ⟨66, [I6 e0_, I6 e1_, I6 e2_, I6 e3_]⟩)]⟩ ⟨⟨fun _ h => (by cases h; rfl), rfl⟩, trivial⟩ ?_
     refine Do 4 13 1919 B30 30 ?_
     refine Aw 22 (RR 66 4 A11 0 0 []) 59 32 (.agg #[N6 0, N6 0, N6 0, N6 0]) (.tmp 22) (.tmp 25) 0 0 ys9.length (c - 0) A11 A9 (ys9.flatMap evC) (.inl rfl) (evs_len _) (at_evs [(28, RR 66 4 A16 1 1 [N6 e0_, N6 e1_, N6 e2_, N6 e3_]), (22, RR 66 4 A11 0 0 [])] hr9) (fun _ _ e => rowAt.none hr9 e) ones_ev (by omega) ?_
     intro A17 c17 hc17
     refine X.tellR [22, 28] (R' := [(22, RR 66 4 A17 (0 + ys9.length) c17 (([] ++ ys9).flatMap evC)), (28, RR 66 4 A16 1 1 [N6 e0_, N6 e1_, N6 e2_, N6 e3_])]) (congrArg (fun cs_ => (22, (RR 66 4 A17 (0 + ys9.length) c17 cs_ : Row)) :: [(28, RR 66 4 A16 1 1 [N6 e0_, N6 e1_, N6 e2_, N6 e3_])]) (show [] ++ (ys9.flatMap evC) = ([] ++ ys9).flatMap evC by simp)) ?_
     obtain ⟨l17, hl17⟩ : ∃ z_, ([] ++ ys9) = z_ := ⟨_, rfl⟩
     rw [hl17]
     have hn17 : l17.length = 0 + ys9.length := by rw [← hl17, List.length_append]; simp
     refine X.back ⟨⟨⟨fun _ h => (by cases h; rfl), rfl⟩, trivial⟩, Le.refl _, rfl, ?_⟩
     refine Dn ⟨34, [(3, .own 3 0), (4, VL none 0 0), (26, VL A17 (0 + ys9.length) c17), (28, VL A16 1 1), (32, VL A10 ys10.length (c - (((i_ : Int)).toNat)))], [(3, ⟨66, [I6 e0_, I6 e1_, I6 e2_, I6 e3_]⟩)]⟩ ⟨⟨fun _ h => (by cases h; rfl), rfl⟩, trivial⟩ ?_
     refine Do 7 13 2047 B30 30 ?_
     refine Ap 22 (RR 66 4 A17 (0 + ys9.length) c17 (l17.flatMap evC)) 59 32 (.agg #[N6 0, N6 0, N6 0, N6 0]) (.tmp 26) (.tmp 28) (0 + ys9.length) c17 1 1 A17 A16 [N6 e0_, N6 e1_, N6 e2_, N6 e3_] (.inl rfl) (by kernel_rfl) (At.of_row (i := 28) (r := (RR 66 4 A16 1 1 [N6 e0_, N6 e1_, N6 e2_, N6 e3_])) rfl rfl) (fun w hw e => absurd (rowSome (i := 28) (q := (RR 66 4 A16 1 1 [N6 e0_, N6 e1_, N6 e2_, N6 e3_])) rfl rfl (Nat.succ_pos _) w hw) (by rw [e]; decide)) (ones (by kernel_rfl)) (by omega) ?_
     intro A18 c18 hc18
     refine X.tellR [22, 28] (R' := [(22, RR 66 4 A18 (0 + ys9.length + 1) c18 ((l17 ++ [(e0_, e1_, e2_, e3_)]).flatMap evC)), (28, RR 66 4 A16 1 1 [N6 e0_, N6 e1_, N6 e2_, N6 e3_])]) (congrArg (fun cs_ => (22, (RR 66 4 A18 (0 + ys9.length + 1) c18 cs_ : Row)) :: [(28, RR 66 4 A16 1 1 [N6 e0_, N6 e1_, N6 e2_, N6 e3_])]) (flat_snoc evC l17 ((e0_, e1_, e2_, e3_) : Ev))) ?_
     obtain ⟨l18, hl18⟩ : ∃ z_, (l17 ++ [(e0_, e1_, e2_, e3_)]) = z_ := ⟨_, rfl⟩
     rw [hl18]
     have hn18 : l18.length = 0 + ys9.length + 1 := by rw [← hl18, List.length_append, hn17]; rfl
     refine X.back ⟨⟨⟨fun _ h => (by cases h; rfl), rfl⟩, trivial⟩, Le.refl _, rfl, ?_⟩
     refine Dn ⟨34, [(3, .own 3 0), (4, VL none 0 0), (29, VL A18 (0 + ys9.length + 1) c18), (32, VL A10 ys10.length (c - (((i_ : Int)).toNat)))], [(3, ⟨66, [I6 e0_, I6 e1_, I6 e2_, I6 e3_]⟩)]⟩ ⟨⟨fun _ h => (by cases h; rfl), rfl⟩, trivial⟩ ?_
     refine Do 11 13 4095 B30 30 ?_
     refine Aw 22 (RR 66 4 A18 (0 + ys9.length + 1) c18 (l18.flatMap evC)) 59 32 (.agg #[N6 0, N6 0, N6 0, N6 0]) (.tmp 29) (.tmp 32) (0 + ys9.length + 1) c18 ys10.length (c - (((i_ : Int)).toNat)) A18 A10 (ys10.flatMap evC) (.inl rfl) (evs_len _) (at_evs [(22, RR 66 4 A18 (0 + ys9.length + 1) c18 (l18.flatMap evC)), (28, RR 66 4 A16 1 1 [N6 e0_, N6 e1_, N6 e2_, N6 e3_])] hr10) (fun _ _ e => rowAt.none hr10 e) ones_ev (by omega) ?_
     intro A19 c19 hc19
     refine X.tellR [22] (R' := [(22, RR 66 4 A19 (0 + ys9.length + 1 + ys10.length) c19 ((l18 ++ ys10).flatMap evC))]) (congrArg (fun cs_ => (22, (RR 66 4 A19 (0 + ys9.length + 1 + ys10.length) c19 cs_ : Row)) :: []) (show l18.flatMap evC ++ (ys10.flatMap evC) = (l18 ++ ys10).flatMap evC by simp)) ?_
     obtain ⟨l19, hl19⟩ : ∃ z_, (l18 ++ ys10) = z_ := ⟨_, rfl⟩
     rw [hl19]
     have hn19 : l19.length = 0 + ys9.length + 1 + ys10.length := by rw [← hl19, List.length_append, hn18]
     refine X.back ⟨⟨⟨fun _ h => (by cases h; rfl), rfl⟩, trivial⟩, Le.refl _, rfl, ?_⟩
     refine Ts [12] 13 8191 0 1 QOk.ctxG ?_
     refine XD.done (by kernel_rfl) ?_
     refine Rn 2 (.ex .ret) [] ⟨34, [(4, VL A19 (0 + ys9.length + 1 + ys10.length) c19)], []⟩ ?_
     refine Dg (.inl rfl) [.slice A19 (0 + ys9.length + 1 + ys10.length) c19] [22] rfl (Ge.refl _ _) ?_
     have hF_ : l19 = insE xs (e0_, e1_, e2_, e3_) := by
      rw [← hl19, ← hl18, ← hl17, ← hys9, ← hys10, List.take_length, List.nil_append, List.drop_zero]
      exact insE_at hi_ hj_ hst_
     rw [← hF_, ← hn19]
     exact ⟨_, _, rfl, rfl⟩
   ·
    refine Lt 28 66 4 1 [N6 e0_, N6 e1_, N6 e2_, N6 e3_] ?_
    intro A20
    refine X.back ⟨⟨⟨fun _ h => (by cases h; rfl), rfl⟩, trivial⟩, Le.refl _, rfl, ?_⟩
    refine Dn ⟨34, [(3, .own 3 0), (4, VL none 0 0), (25, VL A9 ys9.length (c - 0)), (28, VL A20 1 1), (32, VL A10 ys10.length (c - (((i_ : Int)).toNat)))], [(3, ⟨66, [I6 e0_, I6 e1_, I6 e2_, I6 e3_]⟩)]⟩ ⟨⟨fun _ h => (by cases h; rfl), rfl⟩, trivial⟩ ?_
    refine Do 0 13 1903 B30 30 ?_
    refine Lt 22 66 4 0 [] ?_
    intro A21
    refine X.back ⟨⟨⟨fun _ h => (by cases h; rfl), rfl⟩, trivial⟩, Le.refl _, rfl, ?_⟩
    refine Dn ⟨34, [(3, .own 3 0), (4, VL none 0 0), (22, VL A21 0 0), (25, VL A9 ys9.length (c - 0)), (28, VL A20 1 1), (32, VL A10 ys10.length (c - (((i_ : Int)).toNat)))], [(3, ⟨66, [I6 e0_, I6 e1_, I6 e2_, I6 e3_]⟩)]⟩ ⟨⟨fun _ h => (by cases h; rfl), rfl⟩, trivial⟩ ?_
    refine Do 4 13 1919 B30 30 ?_
    refine Aw 22 (RR 66 4 A21 0 0 []) 59 32 (.agg #[N6 0, N6 0, N6 0, N6 0]) (.tmp 22) (.tmp 25) 0 0 ys9.length (c - 0) A21 A9 (ys9.flatMap evC) (.inl rfl) (evs_len _) (at_evs [(22, RR 66 4 A21 0 0 []), (28, RR 66 4 A20 1 1 [N6 e0_, N6 e1_, N6 e2_, N6 e3_])] hr9) (fun _ _ e => rowAt.none hr9 e) ones_ev (by omega) ?_
    intro A22 c22 hc22
    refine X.tellR [22, 28] (R' := [(22, RR 66 4 A22 (0 + ys9.length) c22 (([] ++ ys9).flatMap evC)), (28, RR 66 4 A20 1 1 [N6 e0_, N6 e1_, N6 e2_, N6 e3_])]) (congrArg (fun cs_ => (22, (RR 66 4 A22 (0 + ys9.length) c22 cs_ : Row)) :: [(28, RR 66 4 A20 1 1 [N6 e0_, N6 e1_, N6 e2_, N6 e3_])]) (show [] ++ (ys9.flatMap evC) = ([] ++ ys9).flatMap evC by simp)) ?_
    obtain ⟨l22, hl22⟩ : ∃ z_, ([] ++ ys9) = z_ := ⟨_, rfl⟩
    rw [hl22]
    have hn22 : l22.length = 0 + ys9.length := by rw [← hl22, List.length_append]; simp
    refine X.back ⟨⟨⟨fun _ h => (by cases h; rfl), rfl⟩, trivial⟩, Le.refl _, rfl, ?_⟩
    refine Dn ⟨34, [(3, .own 3 0), (4, VL none 0 0), (26, VL A22 (0 + ys9.length) c22), (28, VL A20 1 1), (32, VL A10 ys10.length (c - (((i_ : Int)).toNat)))], [(3, ⟨66, [I6 e0_, I6 e1_, I6 e2_, I6 e3_]⟩)]⟩ ⟨⟨fun _ h => (by cases h; rfl), rfl⟩, trivial⟩ ?_
    refine Do 7 13 2047 B30 30 ?_
    refine Ap 22 (RR 66 4 A22 (0 + ys9.length) c22 (l22.flatMap evC)) 59 32 (.agg #[N6 0, N6 0, N6 0, N6 0]) (.tmp 26) (.tmp 28) (0 + ys9.length) c22 1 1 A22 A20 [N6 e0_, N6 e1_, N6 e2_, N6 e3_] (.inl rfl) (by kernel_rfl) (At.of_row (i := 28) (r := (RR 66 4 A20 1 1 [N6 e0_, N6 e1_, N6 e2_, N6 e3_])) rfl rfl) (fun w hw e => absurd (rowSome (i := 28) (q := (RR 66 4 A20 1 1 [N6 e0_, N6 e1_, N6 e2_, N6 e3_])) rfl rfl (Nat.succ_pos _) w hw) (by rw [e]; decide)) (ones (by kernel_rfl)) (by omega) ?_
    intro A23 c23 hc23
    refine X.tellR [22, 28] (R' := [(22, RR 66 4 A23 (0 + ys9.length + 1) c23 ((l22 ++ [(e0_, e1_, e2_, e3_)]).flatMap evC)), (28, RR 66 4 A20 1 1 [N6 e0_, N6 e1_, N6 e2_, N6 e3_])]) (congrArg (fun cs_ => (22, (RR 66 4 A23 (0 + ys9.length + 1) c23 cs_ : Row)) :: [(28, RR 66 4 A20 1 1 [N6 e0_, N6 e1_, N6 e2_, N6 e3_])]) (flat_snoc evC l22 ((e0_, e1_, e2_, e3_) : Ev))) ?_
    obtain ⟨l23, hl23⟩ : ∃ z_, (l22 ++ [(e0_, e1_, e2_, e3_)]) = z_ := ⟨_, rfl⟩
    rw [hl23]
    have hn23 : l23.length = 0 + ys9.length + 1 := by rw [← hl23, List.length_append, hn22]; rfl
    refine X.back ⟨⟨⟨fun _ h => (by cases h; rfl), rfl⟩, trivial⟩, Le.refl _, rfl, ?_⟩
    refine Dn ⟨34, [(3, .own 3 0), (4, VL none 0 0), (29, VL A23 (0 + ys9.length + 1) c23), (32, VL A10 ys10.length (c - (((i_ : Int)).toNat)))], [(3, ⟨66, [I6 e0_, I6 e1_, I6 e2_, I6 e3_]⟩)]⟩ ⟨⟨fun _ h => (by cases h; rfl), rfl⟩, trivial⟩ ?_
    refine Do 11 13 4095 B30 30 ?_
    refine Aw 22 (RR 66 4 A23 (0 + ys9.length + 1) c23 (l23.flatMap evC)) 59 32 (.agg #[N6 0, N6 0, N6 0, N6 0]) (.tmp 29) (.tmp 32) (0 + ys9.length + 1) c23 ys10.length (c - (((i_ : Int)).toNat)) A23 A10 (ys10.flatMap evC) (.inl rfl) (evs_len _) (at_evs [(22, RR 66 4 A23 (0 + ys9.length + 1) c23 (l23.flatMap evC)), (28, RR 66 4 A20 1 1 [N6 e0_, N6 e1_, N6 e2_, N6 e3_])] hr10) (fun _ _ e => rowAt.none hr10 e) ones_ev (by omega) ?_
    intro A24 c24 hc24
    refine X.tellR [22] (R' := [(22, RR 66 4 A24 (0 + ys9.length + 1 + ys10.length) c24 ((l23 ++ ys10).flatMap evC))]) (congrArg (fun cs_ => (22, (RR 66 4 A24 (0 + ys9.length + 1 + ys10.length) c24 cs_ : Row)) :: []) (show l23.flatMap evC ++ (ys10.flatMap evC) = (l23 ++ ys10).flatMap evC by simp)) ?_
    obtain ⟨l24, hl24⟩ : ∃ z_, (l23 ++ ys10) = z_ := ⟨_, rfl⟩
    rw [hl24]
    have hn24 : l24.length = 0 + ys9.length + 1 + ys10.length := by rw [← hl24, List.length_append, hn23]
    refine X.back ⟨⟨⟨fun _ h => (by cases h; rfl), rfl⟩, trivial⟩, Le.refl _, rfl, ?_⟩
    refine Ts [12] 13 8191 0 1 QOk.ctxG ?_
    refine XD.done (by kernel_rfl) ?_
    refine Rn 2 (.ex .ret) [] ⟨34, [(4, VL A24 (0 + ys9.length + 1 + ys10.length) c24)], []⟩ ?_
    refine Dg (.inl rfl) [.slice A24 (0 + ys9.length + 1 + ys10.length) c24] [22] rfl (Ge.refl _ _) ?_
    have hF_ : l24 = insE xs (e0_, e1_, e2_, e3_) := by
     rw [← hl24, ← hl23, ← hl22, ← hys9, ← hys10, List.take_length, List.nil_append, List.drop_zero]
     exact insE_at hi_ hj_ hst_
    rw [← hF_, ← hn24]
    exact ⟨_, _, rfl, rfl⟩
 ·
  replace h3 : ¬ ((i_ : Int) < ((xs.length : Nat) : Int)) := of_decide_eq_false h3
  have hst_ : i_ = xs.length ∨ ¬ (xs.getD i_ ev0).1 ≤ e0_ := .inl (by omega)
  refine Ts [5, 6, 7, 8, 9, 10, 11, 12, 13] 14 16383 0 9 QOk.ctxG ?_
  refine XD.done (by kernel_rfl) ?_
  refine Rn 8 (Qc B30 30) [Qs B30 31] ⟨34, [(0, VL A xs.length c), (3, .own 3 0), (4, VL none 0 0), (5, I6 (i_ : Int))], [(3, ⟨66, [I6 e0_, I6 e1_, I6 e2_, I6 e3_]⟩)]⟩ ?_
  have hr_d25 := hr
  refine Og 4 B30 30 13 [⟨some 3, 3, 66, [I6 e0_, I6 e1_, I6 e2_, I6 e3_]⟩] [] [] ⟨⟨fun _ h => (by cases h; rfl), rfl⟩, trivial⟩ (by intro p hp hn; simp only [List.mem_cons, List.not_mem_nil, or_false] at hp; rcases hp with rfl <;> first | (cases hn; done) | exact absurd _ (Nat.le_of_ble_eq_true rfl)) (fun ρ0 => ?_)
  refine Tk 1 13 2 B30 30 (VL A xs.length c) QOk.ctxG ?_
  refine Tk 2 13 6 B30 30 (I6 (i_ : Int)) QOk.ctxG ?_
  have hlo26 : 0 ≤ ((i_ : Int)).toNat := by omega
  have hhi26 : ((i_ : Int)).toNat ≤ xs.length := by omega
  refine XD.cut (i := 3) (l' := (lb 13 14)) (o := (oA B30 (pa 30) 3)) (t := 59) (e := 66) (sz := 4) (n := xs.length) (c := c) (A := A) (x := .tmp 23) (l0 := none) (h := (some (.tmp 24))) (lv := none) (hv := (some (N6 (i_ : Int)))) 0 (((i_ : Int)).toNat) QOk.ctxG (by kernel_rfl) (by kernel_rfl) (by kernel_rfl) (by kernel_rfl) (by kernel_rfl) (by kernel_rfl) (by kernel_rfl) (by kernel_rfl) (by kernel_rfl) (rfl) (⟨_, _, rfl, by omega, rfl⟩) hlo26 (Nat.le_trans hhi26 hle) (by kernel_rfl) ?_
  obtain ⟨A26, hA26⟩ : ∃ A_, cutA A c 0 4 = A_ := ⟨_, rfl⟩
  obtain ⟨ys26, hys26⟩ : ∃ l_, (xs.take (((i_ : Int)).toNat)).drop 0 = l_ := ⟨_, rfl⟩
  have hr26 : rowAt evD G (cutA A c 0 4) ((xs.take (((i_ : Int)).toNat)).drop 0) := rowAt_cut hr hlo26 hhi26 hle
  have hl26 : (((i_ : Int)).toNat) - 0 = ys26.length := by rw [← hys26, List.length_drop, List.length_take]; omega
  have hc26 : ys26.length ≤ c - 0 := by omega
  have hm26 : c - 0 ≤ maxLen := Nat.le_trans (Nat.sub_le _ _) hmx
  rw [hys26, show cutA A c 0 _ = A26 from hA26] at hr26
  rw [hA26, hl26]
  refine Tk 5 13 46 B30 30 (.v (.agg #[N6 e0_, N6 e1_, N6 e2_, N6 e3_])) QOk.ctxG ?_
  refine Tk 8 13 302 B30 30 (VL A xs.length c) QOk.ctxG ?_
  refine Tk 9 13 814 B30 30 (I6 (i_ : Int)) QOk.ctxG ?_
  have hlo27 : ((i_ : Int)).toNat ≤ xs.length := by omega
  have hhi27 : xs.length ≤ xs.length := by omega
  refine XD.cut (i := 10) (l' := (lb 13 1838)) (o := (oA B30 (pa 30) 10)) (t := 59) (e := 66) (sz := 4) (n := xs.length) (c := c) (A := A) (x := .tmp 30) (l0 := (some (.tmp 31))) (h := none) (lv := (some (N6 (i_ : Int)))) (hv := none) (((i_ : Int)).toNat) xs.length QOk.ctxG (by kernel_rfl) (by kernel_rfl) (by kernel_rfl) (by kernel_rfl) (by kernel_rfl) (by kernel_rfl) (by kernel_rfl) (by kernel_rfl) (by kernel_rfl) (⟨_, _, rfl, by omega, rfl⟩) (rfl) hlo27 (Nat.le_trans hhi27 hle) (by kernel_rfl) ?_
  obtain ⟨A27, hA27⟩ : ∃ A_, cutA A c (((i_ : Int)).toNat) 4 = A_ := ⟨_, rfl⟩
  obtain ⟨ys27, hys27⟩ : ∃ l_, (xs.take xs.length).drop (((i_ : Int)).toNat) = l_ := ⟨_, rfl⟩
  have hr27 : rowAt evD G (cutA A c (((i_ : Int)).toNat) 4) ((xs.take xs.length).drop (((i_ : Int)).toNat)) := rowAt_cut hr hlo27 hhi27 hle
  have hl27 : xs.length - (((i_ : Int)).toNat) = ys27.length := by rw [← hys27, List.length_drop, List.length_take]; omega
  have hc27 : ys27.length ≤ c - (((i_ : Int)).toNat) := by omega
  have hm27 : c - (((i_ : Int)).toNat) ≤ maxLen := Nat.le_trans (Nat.sub_le _ _) hmx
  rw [hys27, show cutA A c (((i_ : Int)).toNat) _ = A27 from hA27] at hr27
  rw [hA27, hl27]
  refine Dn ⟨34, [(3, .own 3 0), (4, VL none 0 0), (25, VL A26 ys26.length (c - 0)), (27, .v (.agg #[N6 e0_, N6 e1_, N6 e2_, N6 e3_])), (32, VL A27 ys27.length (c - (((i_ : Int)).toNat)))], [(3, ⟨66, [I6 e0_, I6 e1_, I6 e2_, I6 e3_]⟩)]⟩ ⟨⟨fun _ h => (by cases h; rfl), rfl⟩, trivial⟩ ?_
  refine XD.two (i := 0) (j := 6) (li := (lb 13 1839)) (lj := (lb 13 1902)) (oA B30 (pa 30) 0) (oA B30 (pa 30) 6) (by kernel_rfl) (by kernel_rfl) (by kernel_rfl) (by kernel_rfl) (by kernel_rfl) ?_ ?_
  ·
   refine Lt 22 66 4 0 [] ?_
   intro A28
   refine X.back ⟨⟨⟨fun _ h => (by cases h; rfl), rfl⟩, trivial⟩, Le.refl _, rfl, ?_⟩
   refine Dn ⟨34, [(3, .own 3 0), (4, VL none 0 0), (22, VL A28 0 0), (25, VL A26 ys26.length (c - 0)), (27, .v (.agg #[N6 e0_, N6 e1_, N6 e2_, N6 e3_])), (32, VL A27 ys27.length (c - (((i_ : Int)).toNat)))], [(3, ⟨66, [I6 e0_, I6 e1_, I6 e2_, I6 e3_]⟩)]⟩ ⟨⟨fun _ h => (by cases h; rfl), rfl⟩, trivial⟩ ?_
   refine XD.two (i := 4) (j := 6) (li := (lb 13 1855)) (lj := (lb 13 1903)) (oA B30 (pa 30) 4) (oA B30 (pa 30) 6) (by kernel_rfl) (by kernel_rfl) (by kernel_rfl) (by kernel_rfl) (by kernel_rfl) ?_ ?_
   ·
    refine Aw 22 (RR 66 4 A28 0 0 []) 59 32 (.agg #[N6 0, N6 0, N6 0, N6 0]) (.tmp 22) (.tmp 25) 0 0 ys26.length (c - 0) A28 A26 (ys26.flatMap evC) (.inl rfl) (evs_len _) (at_evs [(22, RR 66 4 A28 0 0 [])] hr26) (fun _ _ e => rowAt.none hr26 e) ones_ev (by omega) ?_
    intro A29 c29 hc29
    refine X.tellR [22] (R' := [(22, RR 66 4 A29 (0 + ys26.length) c29 (([] ++ ys26).flatMap evC))]) (congrArg (fun cs_ => (22, (RR 66 4 A29 (0 + ys26.length) c29 cs_ : Row)) :: []) (show [] ++ (ys26.flatMap evC) = ([] ++ ys26).flatMap evC by simp)) ?_
    obtain ⟨l29, hl29⟩ : ∃ z_, ([] ++ ys26) = z_ := ⟨_, rfl⟩
    rw [hl29]
    have hn29 : l29.length = 0 + ys26.length := by rw [← hl29, List.length_append]; simp
    refine X.back ⟨⟨⟨fun _ h => (by cases h; rfl), rfl⟩, trivial⟩, Le.refl _, rfl, ?_⟩
    refine Dn ⟨34, [(3, .own 3 0), (4, VL none 0 0), (26, VL A29 (0 + ys26.length) c29), (27, .v (.agg #[N6 e0_, N6 e1_, N6 e2_, N6 e3_])), (32, VL A27 ys27.length (c - (((i_ : Int)).toNat)))], [(3, ⟨66, [I6 e0_, I6 e1_, I6 e2_, I6 e3_]⟩)]⟩ ⟨⟨fun _ h => (by cases h; rfl), rfl⟩, trivial⟩ ?_
    refine Do 6 13 1919 B30 30 ?_
    refine Lt 28 66 4 1 [N6 e0_, N6 e1_, N6 e2_, N6 e3_] ?_
    intro A30
    refine X.back ⟨⟨⟨fun _ h => (by cases h; rfl), rfl⟩, trivial⟩, Le.refl _, rfl, ?_⟩
    refine Dn ⟨34, [(3, .own 3 0), (4, VL none 0 0), (26, VL A29 (0 + ys26.length) c29), (28, VL A30 1 1), (32, VL A27 ys27.length (c - (((i_ : Int)).toNat)))], [(3, ⟨66, [I6 e0_, I6 e1_, I6 e2_, I6 e3_]⟩)]⟩ ⟨⟨fun _ h => (by cases h; rfl), rfl⟩, trivial⟩ ?_
    refine Do 7 13 2047 B30 30 ?_
    refine Ap 22 (RR 66 4 A29 (0 + ys26.length) c29 (l29.flatMap evC)) 59 32 (.agg #[N6 0, N6 0, N6 0, N6 0]) (.tmp 26) (.tmp 28) (0 + ys26.length) c29 1 1 A29 A30 [N6 e0_, N6 e1_, N6 e2_, N6 e3_] (.inl rfl) (by kernel_rfl) (At.of_row (i := 28) (r := (RR 66 4 A30 1 1 [N6 e0_, N6 e1_, N6 e2_, N6 e3_])) rfl rfl) (fun w hw e => absurd (rowSome (i := 28) (q := (RR 66 4 A30 1 1 [N6 e0_, N6 e1_, N6 e2_, N6 e3_])) rfl rfl (Nat.succ_pos _) w hw) (by rw [e]; decide)) (ones (by kernel_rfl)) (by omega) ?_
    intro A31 c31 hc31
    refine X.tellR [22, 28] (R' := [(22, RR 66 4 A31 (0 + ys26.length + 1) c31 ((l29 ++ [(e0_, e1_, e2_, e3_)]).flatMap evC)), (28, RR 66 4 A30 1 1 [N6 e0_, N6 e1_, N6 e2_, N6 e3_])]) (congrArg (fun cs_ => (22, (RR 66 4 A31 (0 + ys26.length + 1) c31 cs_ : Row)) :: [(28, RR 66 4 A30 1 1 [N6 e0_, N6 e1_, N6 e2_, N6 e3_])]) (flat_snoc evC l29 ((e0_, e1_, e2_, e3_) : Ev))) ?_
    obtain ⟨l31, hl31⟩ : ∃ z_, (l29 ++ [(e0_, e1_, e2_, e3_)]) = z_ := ⟨_, rfl⟩
    rw [hl31]
    have hn31 : l31.length = 0 + ys26.length + 1 := by rw [← hl31, List.length_append, hn29]; rfl
    refine X.back ⟨⟨⟨fun _ h => (by cases h; rfl), rfl⟩, trivial⟩, Le.refl _, rfl, ?_⟩
    refine Dn ⟨34, [(3, .own 3 0), (4, VL none 0 0), (29, VL A31 (0 + ys26.length + 1) c31), (32, VL A27 ys27.length (c - (((i_ : Int)).toNat)))], [(3, ⟨66, [I6 e0_, I6 e1_, I6 e2_, I6 e3_]⟩)]⟩ ⟨⟨fun _ h => (by cases h; rfl), rfl⟩, trivial⟩ ?_
    refine Do 11 13 4095 B30 30 ?_
    refine Aw 22 (RR 66 4 A31 (0 + ys26.length + 1) c31 (l31.flatMap evC)) 59 32 (.agg #[N6 0, N6 0, N6 0, N6 0]) (.tmp 29) (.tmp 32) (0 + ys26.length + 1) c31 ys27.length (c - (((i_ : Int)).toNat)) A31 A27 (ys27.flatMap evC) (.inl rfl) (evs_len _) (at_evs [(22, RR 66 4 A31 (0 + ys26.length + 1) c31 (l31.flatMap evC)), (28, RR 66 4 A30 1 1 [N6 e0_, N6 e1_, N6 e2_, N6 e3_])] hr27) (fun _ _ e => rowAt.none hr27 e) ones_ev (by omega) ?_
    intro A32 c32 hc32
    refine X.tellR [22] (R' := [(22, RR 66 4 A32 (0 + ys26.length + 1 + ys27.length) c32 ((l31 ++ ys27).flatMap evC))]) (congrArg (fun cs_ => (22, (RR 66 4 A32 (0 + ys26.length + 1 + ys27.length) c32 cs_ : Row)) :: []) (show l31.flatMap evC ++ (ys27.flatMap evC) = (l31 ++ ys27).flatMap evC by simp)) ?_
    obtain ⟨l32, hl32⟩ : ∃ z_, (l31 ++ ys27) = z_ := ⟨_, rfl⟩
    rw [hl32]
    have hn32 : l32.length = 0 + ys26.length + 1 + ys27.length := by rw [← hl32, List.length_append, hn31]
    refine X.back ⟨⟨⟨fun _ h => (by cases h; rfl), rfl⟩, trivial⟩, Le.refl _, rfl, ?_⟩
    refine Ts [12] 13 8191 0 1 QOk.ctxG ?_
    refine XD.done (by kernel_rfl) ?_
    refine Rn 2 (.ex .ret) [] ⟨34, [(4, VL A32 (0 + ys26.length + 1 + ys27.length) c32)], []⟩ ?_
    refine Dg (.inl rfl) [.slice A32 (0 + ys26.length + 1 + ys27.length) c32] [22] rfl (Ge.refl _ _) ?_
    have hF_ : l32 = insE xs (e0_, e1_, e2_, e3_) := by
     rw [← hl32, ← hl31, ← hl29, ← hys26, ← hys27, List.take_length, List.nil_append, List.drop_zero]
     exact insE_at hi_ hj_ hst_
    rw [← hF_, ← hn32]
    exact ⟨_, _, rfl, rfl⟩
   ·
    refine Lt 28 66 4 1 [N6 e0_, N6 e1_, N6 e2_, N6 e3_] ?_
    intro A33
    refine X.back ⟨⟨⟨fun _ h => (by cases h; rfl), rfl⟩, trivial⟩, Le.refl _, rfl, ?_⟩
    refine Dn ⟨34, [(3, .own 3 0), (4, VL none 0 0), (22, VL A28 0 0), (25, VL A26 ys26.length (c - 0)), (28, VL A33 1 1), (32, VL A27 ys27.length (c - (((i_ : Int)).toNat)))], [(3, ⟨66, [I6 e0_, I6 e1_, I6 e2_, I6 e3_]⟩)]⟩ ⟨⟨fun _ h => (by cases h; rfl), rfl⟩, trivial⟩ ?_
    refine Do 4 13 1919 B30 30 ?_
    refine Aw 22 (RR 66 4 A28 0 0 []) 59 32 (.agg #[N6 0, N6 0, N6 0, N6 0]) (.tmp 22) (.tmp 25) 0 0 ys26.length (c - 0) A28 A26 (ys26.flatMap evC) (.inl rfl) (evs_len _) (at_evs [(28, RR 66 4 A33 1 1 [N6 e0_, N6 e1_, N6 e2_, N6 e3_]), (22, RR 66 4 A28 0 0 [])] hr26) (fun _ _ e => rowAt.none hr26 e) ones_ev (by omega) ?_
    intro A34 c34 hc34
    refine X.tellR [22, 28] (R' := [(22, RR 66 4 A34 (0 + ys26.length) c34 (([] ++ ys26).flatMap evC)), (28, RR 66 4 A33 1 1 [N6 e0_, N6 e1_, N6 e2_, N6 e3_])]) (congrArg (fun cs_ => (22, (RR 66 4 A34 (0 + ys26.length) c34 cs_ : Row)) :: [(28, RR 66 4 A33 1 1 [N6 e0_, N6 e1_, N6 e2_, N6 e3_])]) (show [] ++ (ys26.flatMap evC) = ([] ++ ys26).flatMap evC by simp)) ?_
    obtain ⟨l34, hl34⟩ : ∃ z_, ([] ++ ys26) = z_ := ⟨_, rfl⟩
    rw [hl34]
    have hn34 : l34.length = 0 + ys26.length := by rw [← hl34, List.length_append]; simp
    refine X.back ⟨⟨⟨fun _ h => (by cases h; rfl), rfl⟩, trivial⟩, Le.refl _, rfl, ?_⟩
    refine Dn ⟨34, [(3, .own 3 0), (4, VL none 0 0), (26, VL A34 (0 + ys26.length) c34), (28, VL A33 1 1), (32, VL A27 ys27.length (c - (((i_ : Int)).toNat)))], [(3, ⟨66, [I6 e0_, I6 e1_, I6 e2_, I6 e3_]⟩)]⟩ ⟨⟨fun _ h => (by cases h; rfl), rfl⟩, trivial⟩ ?_
    refine Do 7 13 2047 B30 30 ?_
    refine Ap 22 (RR 66 4 A34 (0 + ys26.length) c34 (l34.flatMap evC)) 59 32 (.agg #[N6 0, N6 0, N6 0, N6 0]) (.tmp 26) (.tmp 28) (0 + ys26.length) c34 1 1 A34 A33 [N6 e0_, N6 e1_, N6 e2_, N6 e3_] (.inl rfl) (by kernel_rfl) (At.of_row (i := 28) (r := (RR 66 4 A33 1 1 [N6 e0_, N6 e1_, N6 e2_, N6 e3_])) rfl rfl) (fun w hw e => absurd (rowSome (i := 28) (q := (RR 66 4 A33 1 1 [N6 e0_, N6 e1_, N6 e2_, N6 e3_])) rfl rfl (Nat.succ_pos _) w hw) (by rw [e]; decide)) (ones (by kernel_rfl)) (by omega) ?_
    intro A35 c35 hc35
    refine X.tellR [22, 28] (R' := [(22, RR 66 4 A35 (0 + ys26.length + 1) c35 ((l34 ++ [(e0_, e1_, e2_, e3_)]).flatMap evC)), (28, RR 66 4 A33 1 1 [N6 e0_, N6 e1_, N6 e2_, N6 e3_])]) (congrArg (fun cs_ => (22, (RR 66 4 A35 (0 + ys26.length + 1) c35 cs_ : Row)) :: [(28, RR 66 4 A33 1 1 [N6 e0_, N6 e1_, N6 e2_, N6 e3_])]) (flat_snoc evC l34 ((e0_, e1_, e2_, e3_) : Ev))) ?_
    obtain ⟨l35, hl35⟩ : ∃ z_, (l34 ++ [(e0_, e1_, e2_, e3_)]) = z_ := ⟨_, rfl⟩
    rw [hl35]
    have hn35 : l35.length = 0 + ys26.length + 1 := by rw [← hl35, List.length_append, hn34]; rfl
    refine X.back ⟨⟨⟨fun _ h => (by cases h; rfl), rfl⟩, trivial⟩, Le.refl _, rfl, ?_⟩
    refine Dn ⟨34, [(3, .own 3 0), (4, VL none 0 0), (29, VL A35 (0 + ys26.length + 1) c35), (32, VL A27 ys27.length (c - (((i_ : Int)).toNat)))], [(3, ⟨66, [I6 e0_, I6 e1_, I6 e2_, I6 e3_]⟩)]⟩ ⟨⟨fun _ h => (by cases h; rfl), rfl⟩, trivial⟩ ?_
    refine Do 11 13 4095 B30 30 ?_
    refine Aw 22 (RR 66 4 A35 (0 + ys26.length + 1) c35 (l35.flatMap evC)) 59 32 (.agg #[N6 0, N6 0, N6 0, N6 0]) (.tmp 29) (.tmp 32) (0 + ys26.length + 1) c35 ys27.length (c - (((i_ : Int)).toNat)) A35 A27 (ys27.flatMap evC) (.inl rfl) (evs_len _) (at_evs [(22, RR 66 4 A35 (0 + ys26.length + 1) c35 (l35.flatMap evC)), (28, RR 66 4 A33 1 1 [N6 e0_, N6 e1_, N6 e2_, N6 e3_])] hr27) (fun _ _ e => rowAt.none hr27 e) ones_ev (by omega) ?_
    intro A36 c36 hc36
    refine X.tellR [22] (R' := [(22, RR 66 4 A36 (0 + ys26.length + 1 + ys27.length) c36 ((l35 ++ ys27).flatMap evC))]) (congrArg (fun cs_ => (22, (RR 66 4 A36 (0 + ys26.length + 1 + ys27.length) c36 cs_ : Row)) :: []) (show l35.flatMap evC ++ (ys27.flatMap evC) = (l35 ++ ys27).flatMap evC by simp)) ?_
    obtain ⟨l36, hl36⟩ : ∃ z_, (l35 ++ ys27) = z_ := ⟨_, rfl⟩
    rw [hl36]
    have hn36 : l36.length = 0 + ys26.length + 1 + ys27.length := by rw [← hl36, List.length_append, hn35]
    refine X.back ⟨⟨⟨fun _ h => (by cases h; rfl), rfl⟩, trivial⟩, Le.refl _, rfl, ?_⟩
    refine Ts [12] 13 8191 0 1 QOk.ctxG ?_
    refine XD.done (by kernel_rfl) ?_
    refine Rn 2 (.ex .ret) [] ⟨34, [(4, VL A36 (0 + ys26.length + 1 + ys27.length) c36)], []⟩ ?_
    refine Dg (.inl rfl) [.slice A36 (0 + ys26.length + 1 + ys27.length) c36] [22] rfl (Ge.refl _ _) ?_
    have hF_ : l36 = insE xs (e0_, e1_, e2_, e3_) := by
     rw [← hl36, ← hl35, ← hl34, ← hys26, ← hys27, List.take_length, List.nil_append, List.drop_zero]
     exact insE_at hi_ hj_ hst_
    rw [← hF_, ← hn36]
    exact ⟨_, _, rfl, rfl⟩
  ·
   refine Lt 28 66 4 1 [N6 e0_, N6 e1_, N6 e2_, N6 e3_] ?_
   intro A37
   refine X.back ⟨⟨⟨fun _ h => (by cases h; rfl), rfl⟩, trivial⟩, Le.refl _, rfl, ?_⟩
   refine Dn ⟨34, [(3, .own 3 0), (4, VL none 0 0), (25, VL A26 ys26.length (c - 0)), (28, VL A37 1 1), (32, VL A27 ys27.length (c - (((i_ : Int)).toNat)))], [(3, ⟨66, [I6 e0_, I6 e1_, I6 e2_, I6 e3_]⟩)]⟩ ⟨⟨fun _ h => (by cases h; rfl), rfl⟩, trivial⟩ ?_
   refine Do 0 13 1903 B30 30 ?_
   refine Lt 22 66 4 0 [] ?_
   intro A38
   refine X.back ⟨⟨⟨fun _ h => (by cases h; rfl), rfl⟩, trivial⟩, Le.refl _, rfl, ?_⟩
   refine Dn ⟨34, [(3, .own 3 0), (4, VL none 0 0), (22, VL A38 0 0), (25, VL A26 ys26.length (c - 0)), (28, VL A37 1 1), (32, VL A27 ys27.length (c - (((i_ : Int)).toNat)))], [(3, ⟨66, [I6 e0_, I6 e1_, I6 e2_, I6 e3_]⟩)]⟩ ⟨⟨fun _ h => (by cases h; rfl), rfl⟩, trivial⟩ ?_
   refine Do 4 13 1919 B30 30 ?_
   refine Aw 22 (RR 66 4 A38 0 0 []) 59 32 (.agg #[N6 0, N6 0, N6 0, N6 0]) (.tmp 22) (.tmp 25) 0 0 ys26.length (c - 0) A38 A26 (ys26.flatMap evC) (.inl rfl) (evs_len _) (at_evs [(22, RR 66 4 A38 0 0 []), (28, RR 66 4 A37 1 1 [N6 e0_, N6 e1_, N6 e2_, N6 e3_])] hr26) (fun _ _ e => rowAt.none hr26 e) ones_ev (by omega) ?_
   intro A39 c39 hc39
   refine X.tellR [22, 28] (R' := [(22, RR 66 4 A39 (0 + ys26.length) c39 (([] ++ ys26).flatMap evC)), (28, RR 66 4 A37 1 1 [N6 e0_, N6 e1_, N6 e2_, N6 e3_])]) (congrArg (fun cs_ => (22, (RR 66 4 A39 (0 + ys26.length) c39 cs_ : Row)) :: [(28, RR 66 4 A37 1 1 [N6 e0_, N6 e1_, N6 e2_, N6 e3_])]) (show [] ++ (ys26.flatMap evC) = ([] ++ ys26).flatMap evC by simp)) ?_
   obtain ⟨l39, hl39⟩ : ∃ z_, ([] ++ ys26) = z_ := ⟨_, rfl⟩
   rw [hl39]
   have hn39 : l39.length = 0 + ys26.length := by rw [← hl39, List.length_append]; simp
   refine X.back ⟨⟨⟨fun _ h => (by cases h; rfl), rfl⟩, trivial⟩, Le.refl _, rfl, ?_⟩
   refine Dn ⟨34, [(3, .own 3 0), (4, VL none 0 0), (26, VL A39 (0 + ys26.length) c39), (28, VL A37 1 1), (32, VL A27 ys27.length (c - (((i_ : Int)).toNat)))], [(3, ⟨66, [I6 e0_, I6 e1_, I6 e2_, I6 e3_]⟩)]⟩ ⟨⟨fun _ h => (by cases h; rfl), rfl⟩, trivial⟩ ?_
   refine Do 7 13 2047 B30 30 ?_
   refine Ap 22 (RR 66 4 A39 (0 + ys26.length) c39 (l39.flatMap evC)) 59 32 (.agg #[N6 0, N6 0, N6 0, N6 0]) (.tmp 26) (.tmp 28) (0 + ys26.length) c39 1 1 A39 A37 [N6 e0_, N6 e1_, N6 e2_, N6 e3_] (.inl rfl) (by kernel_rfl) (At.of_row (i := 28) (r := (RR 66 4 A37 1 1 [N6 e0_, N6 e1_, N6 e2_, N6 e3_])) rfl rfl) (fun w hw e => absurd (rowSome (i := 28) (q := (RR 66 4 A37 1 1 [N6 e0_, N6 e1_, N6 e2_, N6 e3_])) rfl rfl (Nat.succ_pos _) w hw) (by rw [e]; decide)) (ones (by kernel_rfl)) (by omega) ?_
   intro A40 c40 hc40
   refine X.tellR [22, 28] (R' := [(22, RR 66 4 A40 (0 + ys26.length + 1) c40 ((l39 ++ [(e0_, e1_, e2_, e3_)]).flatMap evC)), (28, RR 66 4 A37 1 1 [N6 e0_, N6 e1_, N6 e2_, N6 e3_])]) (congrArg (fun cs_ => (22, (RR 66 4 A40 (0 + ys26.length + 1) c40 cs_ : Row)) :: [(28, RR 66 4 A37 1 1 [N6 e0_, N6 e1_, N6 e2_, N6 e3_])]) (flat_snoc evC l39 ((e0_, e1_, e2_, e3_) : Ev))) ?_
   obtain ⟨l40, hl40⟩ : ∃ z_, (l39 ++ [(e0_, e1_, e2_, e3_)]) = z_ := ⟨_, rfl⟩
   rw [hl40]
   have hn40 : l40.length = 0 + ys26.length + 1 := by rw [← hl40, List.length_append, hn39]; rfl
   refine X.back ⟨⟨⟨fun _ h => (by cases h; rfl), rfl⟩, trivial⟩, Le.refl _, rfl, ?_⟩
   refine Dn ⟨34, [(3, .own 3 0), (4, VL none 0 0), (29, VL A40 (0 + ys26.length + 1) c40), (32, VL A27 ys27.length (c - (((i_ : Int)).toNat)))], [(3, ⟨66, [I6 e0_, I6 e1_, I6 e2_, I6 e3_]⟩)]⟩ ⟨⟨fun _ h => (by cases h; rfl), rfl⟩, trivial⟩ ?_
   refine Do 11 13 4095 B30 30 ?_
   refine Aw 22 (RR 66 4 A40 (0 + ys26.length + 1) c40 (l40.flatMap evC)) 59 32 (.agg #[N6 0, N6 0, N6 0, N6 0]) (.tmp 29) (.tmp 32) (0 + ys26.length + 1) c40 ys27.length (c - (((i_ : Int)).toNat)) A40 A27 (ys27.flatMap evC) (.inl rfl) (evs_len _) (at_evs [(22, RR 66 4 A40 (0 + ys26.length + 1) c40 (l40.flatMap evC)), (28, RR 66 4 A37 1 1 [N6 e0_, N6 e1_, N6 e2_, N6 e3_])] hr27) (fun _ _ e => rowAt.none hr27 e) ones_ev (by omega) ?_
   intro A41 c41 hc41
   refine X.tellR [22] (R' := [(22, RR 66 4 A41 (0 + ys26.length + 1 + ys27.length) c41 ((l40 ++ ys27).flatMap evC))]) (congrArg (fun cs_ => (22, (RR 66 4 A41 (0 + ys26.length + 1 + ys27.length) c41 cs_ : Row)) :: []) (show l40.flatMap evC ++ (ys27.flatMap evC) = (l40 ++ ys27).flatMap evC by simp)) ?_
   obtain ⟨l41, hl41⟩ : ∃ z_, (l40 ++ ys27) = z_ := ⟨_, rfl⟩
   rw [hl41]
   have hn41 : l41.length = 0 + ys26.length + 1 + ys27.length := by rw [← hl41, List.length_append, hn40]
   refine X.back ⟨⟨⟨fun _ h => (by cases h; rfl), rfl⟩, trivial⟩, Le.refl _, rfl, ?_⟩
   refine Ts [12] 13 8191 0 1 QOk.ctxG ?_
   refine XD.done (by kernel_rfl) ?_
   refine Rn 2 (.ex .ret) [] ⟨34, [(4, VL A41 (0 + ys26.length + 1 + ys27.length) c41)], []⟩ ?_
   refine Dg (.inl rfl) [.slice A41 (0 + ys26.length + 1 + ys27.length) c41] [22] rfl (Ge.refl _ _) ?_
   have hF_ : l41 = insE xs (e0_, e1_, e2_, e3_) := by
    rw [← hl41, ← hl40, ← hl39, ← hys26, ← hys27, List.take_length, List.nil_append, List.drop_zero]
    exact insE_at hi_ hj_ hst_
   rw [← hF_, ← hn41]
   exact ⟨_, _, rfl, rfl⟩
end Go.Proofs.YthpinlcfcgnilaaX
