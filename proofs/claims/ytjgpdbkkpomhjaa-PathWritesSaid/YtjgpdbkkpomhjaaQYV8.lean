/- A part of a law's proof. Conditions: none. -/
import Derived.Test.YtjgpdbkkpomhjaaProg
import Derived.KernelRfl
import Derived.Test.YtjgpdbkkpomhjaaQYG5
import Derived.Test.YtjgpdbkkpomhjaaQYV3
import Derived.Test.YtjgpdbkkpomhjaaQXF
import Derived.Test.YtjgpdbkkpomhjaaQYT
namespace Go.Proofs.YtjgpdbkkpomhjaaX
open Go.RowKit
open Go.Proofs.YtjgpdbkkpomhjaaW.PrintLast
set_option linter.unusedVariables false
set_option linter.unusedSimpArgs false
set_option maxRecDepth 100000
noncomputable def B62 : Code := bodyOf Try.f62
set_option maxHeartbeats 4000000 in
theorem RSegDec_ok (a : Ad) (A : Option Addr) (c : Nat) (b : List Int) (G : Mem) (ha : a.ok) (hb : rowAt (D.int .u8) G A b) (hle : b.length ≤ c) (hmx : c ≤ maxLen) : CallsG Try.prog 62 [.agg #[.int .u8 a.a0, .int .u8 a.a1, .int .u8 a.a2, .int .u8 a.a3], .agg #[.int .u8 a.b0, .int .u8 a.b1, .int .u8 a.b2, .int .u8 a.b3], .slice A b.length c] G (fun G' v rows => ∃ A' c' cs, v = .tuple #[.agg #[.int .u16 (decS a b).1.1.s0, .int .u16 (decS a b).1.1.s1, .int .u32 (decS a b).1.1.s2, .int .u32 (decS a b).1.1.s3, .int .u8 (decS a b).1.1.s4, .int .u8 (decS a b).1.1.s5, .int .u8 (decS a b).1.1.s6, .int .u16 (decS a b).1.1.s7, .int .u16 (decS a b).1.1.s8, .int .u16 (decS a b).1.1.s9, .slice A' (decS a b).1.2.1.length c', .string (decS a b).1.2.2], .int .i64 (decS a b).2] ∧ rows = [⟨65, 3, .slice A' (decS a b).1.2.1.length c', (decS a b).1.2.1.length, cs⟩] ∧ repsD optD G' (decS a b).1.2.1 cs) := by
 simp only [maxLen] at hmx
 refine CallsG.enter Try.func62 rfl rfl ?_
 intro w
 refine Rn 11 (Qo B62 6 1) [Qs B62 7] ⟨66, [(2, VL A b.length c), (3, .own 3 0), (4, .own 4 0), (6, .own 6 0), (7, I6 0), (12, VL A b.length c)], [(3, ⟨55, [I8 a.a0, I8 a.a1, I8 a.a2, I8 a.a3]⟩), (4, ⟨55, [I8 a.b0, I8 a.b1, I8 a.b2, I8 a.b3]⟩), (6, ⟨82, [I1 0, I1 0, I3 0, I3 0, I8 0, I8 0, I8 0, I1 0, I1 0, I1 0, VL none 0 0, VT ByteArray.empty]⟩)]⟩ ?_
 refine Cg 39 [.slice A b.length c] 0 (RefDec_ok _ _ b _ hb hle hmx) ?_
 rintro v1 G1 rows1 hG1 ⟨ea1, eb1, ec1, rfl⟩
 replace hb := hb.mono hG1.le
 rcases (show b.length < 20 ∨ (20 ≤ b.length ∧ badH b) ∨ (20 ≤ b.length ∧ ¬ badH b) by by_cases h1 : b.length < 20; exact .inl h1; by_cases h2 : badH b; exact .inr (.inl ⟨by omega, h2⟩); exact .inr (.inr ⟨by omega, h2⟩)) with hc_ | hc_ | hc_
 ·
  obtain rfl := ea1 hc_
  refine X.nilRow 391 65 3 rfl ?_
  refine Rb 26 (.ex .ret) 1 [] [(7, I6 3)] [2, 3, 4, 12] [] [3, 4] ?_
  refine Dg (.inl rfl) [.agg #[N1 0, N1 0, N3 0, N3 0, N8 0, N8 0, N8 0, N1 0, N1 0, N1 0, .slice none 0 0, .string ByteArray.empty], N6 3] [391] rfl (hG1) ?_
  rw [decS_short hc_]
  exact ⟨none, 0, [], rfl, rfl, rfl⟩
 ·
  obtain rfl := eb1 ⟨hc_.1, (decBad (row_bytes hb) hc_.1).mp hc_.2⟩
  refine X.nilRow 391 65 3 rfl ?_
  refine Rb 26 (.ex .ret) 1 [] [(7, I6 5)] [2, 3, 4, 12] [] [3, 4] ?_
  refine Dg (.inl rfl) [.agg #[N1 0, N1 0, N3 0, N3 0, N8 0, N8 0, N8 0, N1 0, N1 0, N1 0, .slice none 0 0, .string ByteArray.empty], N6 5] [391] rfl (hG1) ?_
  rw [decS_form hc_.1 hc_.2]
  exact ⟨none, 0, [], rfl, rfl, rfl⟩
 ·
  obtain rfl := ec1 ⟨hc_.1, fun h_ => hc_.2 ((decBad (row_bytes hb) hc_.1).mpr h_)⟩
  rw [← decEq (row_bytes hb) hc_.1]
  have hho_ := hd_off (row_bytes hb) hc_.1 hc_.2
  refine Rb 27 (Qo B62 60 6) 1 [Qs B62 61, Qs B62 31] [(8, .own 8 0), (9, I6 0), (21, I6 (b.length : Int)), (25, I6 (IntKind.i64.wrap (4 * (IntKind.i64.wrap ((hdOf b).s4)))))] [] [(8, ⟨31, [I1 ((hdOf b).s0), I1 ((hdOf b).s1), I3 ((hdOf b).s2), I3 ((hdOf b).s3), I8 ((hdOf b).s4), I8 ((hdOf b).s5), I8 ((hdOf b).s6), I1 ((hdOf b).s7), I1 ((hdOf b).s8), I1 ((hdOf b).s9)]⟩)] [] ?_
  refine Kn 25 .i64 (4 * (hdOf b).s4) rfl (by rw [wi64 (x := (hdOf b).s4) (by omega) (by omega), wi64 (by omega) (by omega)]) ?_
  refine Ra 3 (Qc B62 61) 1 [] [(26, VB (decide ((b.length : Int) < 4 * (hdOf b).s4)))] ?_
  refine Sd 26 rfl ?_ ?_ <;> intro h2
  ·
   refine X.nilRow 391 65 3 rfl ?_
   refine Rb 10 (.ex .ret) 1 [] [(7, I6 3)] [2, 3, 4, 8, 9, 26] [] [3, 4, 8] ?_
   refine Dg (.inl rfl) [.agg #[N1 0, N1 0, N3 0, N3 0, N8 0, N8 0, N8 0, N1 0, N1 0, N1 0, .slice none 0 0, .string ByteArray.empty], N6 3] [391] rfl (hG1) ?_
   rw [decS_cut hc_.1 hc_.2 (by unfold offB; omega)]
   exact ⟨none, 0, [], rfl, rfl, rfl⟩
  ·
   refine Ra 11 (Qc B62 125) 1 [Qs B62 63] [(30, VB (decide ((b.length : Int) > 65535)))] ?_
   refine Sd 30 rfl ?_ ?_ <;> intro h3
   ·
    refine X.nilRow 391 65 3 rfl ?_
    refine Rb 10 (.ex .ret) 1 [] [(7, I6 4)] [2, 3, 4, 8, 9, 30] [] [3, 4, 8] ?_
    refine Dg (.inl rfl) [.agg #[N1 0, N1 0, N3 0, N3 0, N8 0, N8 0, N8 0, N1 0, N1 0, N1 0, .slice none 0 0, .string ByteArray.empty], N6 4] [391] rfl (hG1) ?_
    rw [decS_long hc_.1 hc_.2 (by unfold offB; omega) (by omega)]
    exact ⟨none, 0, [], rfl, rfl, rfl⟩
   ·
    refine Rb 10 (Qo B62 252 4) 1 [Qs B62 253, Qs B62 127] [(32, .v (.agg #[N8 a.a0, N8 a.a1, N8 a.a2, N8 a.a3])), (33, .v (.agg #[N8 a.b0, N8 a.b1, N8 a.b2, N8 a.b3])), (35, I6 (b.length : Int))] [] [] [3, 4] ?_
    refine Cg 47 [.agg #[N8 a.a0, N8 a.a1, N8 a.a2, N8 a.a3], .agg #[N8 a.b0, N8 a.b1, N8 a.b2, N8 a.b3], N8 6, N6 (b.length : Int)] 345 (RefPseudo_ok a.a0 a.a1 a.a2 a.a3 a.b0 a.b1 a.b2 a.b3 6 (b.length : Int)  (by omega) _) ?_
    rintro v4 G4 rows4 hG4 ⟨A4, rfl, rfl⟩
    replace hb := hb.mono hG4.le
    refine Ra 1 (Qo B62 252 6) 0 [] [(36, VL A4 12 12), (37, VL A b.length c)] ?_
    refine Aw 345 _ 22 1 (N8 0) (.tmp 36) (.tmp 37) 12 12 b.length c A4 A (b.map (Value.int .u8)) (.inl rfl) (by simp) (at_ints [(345, RR 5 1 A4 12 12 ((psd a b.length).map (Value.int .u8)))] hb) (fun _ _ e => rowAt.none hb e) ones_ints (by show (12 + b.length) * 1 ≤ 140737488355328; omega) ?_
    intro A5 c5 hc5
    refine Tc [] (show (psd a b.length).map (Value.int .u8) ++ (b.map (Value.int .u8)) = (psd a b.length ++ b).map (Value.int .u8) by simp) ?_
    refine Ra 0 (Qo B62 252 7) 0 [] [(38, VL A5 (12 + b.length) c5)] ?_
    refine Tr [345] ?_
    refine X.capLe (i := 345) rfl rfl ?_
    intro hle6 hmx6
    refine X.freezeHd (i := 345) (n := 12 + b.length) (c := c5) (A := A5) (kd := .u8) (psd a b.length ++ b) rfl rfl ((fun x_ hx_ => by rcases List.mem_append.1 hx_ with h1_ | h1_; have h_ := psd_bytes ha _ x_ h1_; simp only [IntKind.lo, IntKind.hi]; omega; have h_ := row_bytes hb x_ h1_; simp only [IntKind.lo, IntKind.hi]; omega)) (by kernel_rfl) (fun _ h => h) ?_
    intro G6 hG6 hr6
    replace hb := hb.mono hG6.le
    have hsn_ := SumRef_ok A5 c5 (psd a b.length ++ b) G6 hr6 (by simp only [List.length_append, show (psd a b.length).length = 12 from rfl]; omega) hmx6 (by simp only [List.length_append, show (psd a b.length).length = 12 from rfl]; omega)
    rw [show (psd a b.length ++ b).length = 12 + b.length from (by rw [List.length_append]; rfl)] at hsn_
    refine Cg 29 [.slice A5 (12 + b.length) c5] 0 hsn_ ?_
    rintro v7 G7 rows7 hG7 ⟨rfl, rfl⟩
    replace hb := hb.mono hG7.le
    replace hr6 := hr6.mono hG7.le
    refine Ra 3 (Qc B62 253) 1 [] [(40, VB ((cks (psd a b.length ++ b)) != 0))] ?_
    refine Sn 40 rfl ?_ ?_ <;> intro h8
    ·
     have hck_ := h8
     refine X.nilRow 391 65 3 rfl ?_
     refine Rb 10 (.ex .ret) 1 [] [(7, I6 6)] [2, 8, 9, 40] [] [8] ?_
     refine Dg (.inl rfl) [.agg #[N1 0, N1 0, N3 0, N3 0, N8 0, N8 0, N8 0, N1 0, N1 0, N1 0, .slice none 0 0, .string ByteArray.empty], N6 6] [391] rfl ((((hG1.trans hG4).trans hG6).trans hG7)) ?_
     rw [decS_sum hc_.1 hc_.2 (by unfold offB; omega) (by omega) hck_]
     exact ⟨none, 0, [], rfl, rfl, rfl⟩
    ·
     have hck_ := h8
     refine Ra 10 (Qo B62 254 5) 1 [Qs B62 255] [(43, VL A b.length c), (47, I6 (IntKind.i64.wrap (4 * (IntKind.i64.wrap ((hdOf b).s4)))))] ?_
     refine Kn 47 .i64 (4 * (hdOf b).s4) rfl (by rw [wi64 (x := (hdOf b).s4) (by omega) (by omega), wi64 (by omega) (by omega)]) ?_
     have hlo9 : 20 ≤ (4 * (hdOf b).s4).toNat := by omega
     have hhi9 : (4 * (hdOf b).s4).toNat ≤ b.length := by omega
     refine X.cut (t := 22) (e := 5) (sz := 1) (n := b.length) (c := c) (A := A) (x := .tmp 43) (l := (some (.const (N6 20)))) (h := (some (.tmp 47))) (lv := (some (N6 20))) (hv := (some (N6 (4 * (hdOf b).s4)))) 20 ((4 * (hdOf b).s4).toNat) (by kernel_rfl) (by kernel_rfl) (by kernel_rfl) (by kernel_rfl) (by kernel_rfl) (by kernel_rfl) (by kernel_rfl) (⟨_, _, rfl, by omega, rfl⟩) (⟨_, _, rfl, by omega, rfl⟩) hlo9 (Nat.le_trans hhi9 hle) ?_
     obtain ⟨A9, hA9⟩ : ∃ A_, cutA A c 20 1 = A_ := ⟨_, rfl⟩
     obtain ⟨ys9, hys9⟩ : ∃ l_, (b.take ((4 * (hdOf b).s4).toNat)).drop 20 = l_ := ⟨_, rfl⟩
     have hr9 : rowAt (D.int .u8) G7 (cutA A c 20 1) ((b.take ((4 * (hdOf b).s4).toNat)).drop 20) := rowAt_cut hb hlo9 hhi9 hle
     have hl9 : ((4 * (hdOf b).s4).toNat) - 20 = ys9.length := by rw [← hys9, List.length_drop, List.length_take]; omega
     have hc9 : ys9.length ≤ c - 20 := by omega
     have hm9 : c - 20 ≤ maxLen := Nat.le_trans (Nat.sub_le _ _) hmx
     rw [hys9, show cutA A c 20 _ = A9 from hA9] at hr9
     rw [hA9, hl9]
     subst hys9
     refine Ra 0 (Qo B62 254 6) 0 [] [(48, VL A9 (((b.take (4 * (hdOf b).s4).toNat).drop 20).length) (c - 20))] ?_
     have hcs_ := rParse_ok A9 (c - 20) ((b.take (4 * (hdOf b).s4).toNat).drop 20) G7 hr9 hc9 hm9
     refine Cg 59 [.slice A9 (((b.take (4 * (hdOf b).s4).toNat).drop 20).length) (c - 20)] 360 hcs_ ?_
     rintro v10 G10 rows10 hG10 ⟨A10, c10, cs10, rfl, rfl, hcs10⟩
     replace hb := hb.mono hG10.le
     replace hr6 := hr6.mono hG10.le
     replace hr9 := hr9.mono hG10.le
     refine Ra 14 (Qc B62 1021) 1 [Qs B62 511] [(9, I6 ((optB b).2)), (10, VL A10 ((optB b).1.length) c10), (53, VB (((optB b).2) != 0))] ?_
     refine Sn 53 rfl ?_ ?_ <;> intro h11
     ·
      refine X.nilRow 391 65 3 rfl ?_
      refine Rb 11 (.ex .ret) 1 [] [(7, I6 ((optB b).2))] [2, 8, 9, 10, 53] [] [8] ?_
      refine Dg (.inl rfl) [.agg #[N1 0, N1 0, N3 0, N3 0, N8 0, N8 0, N8 0, N1 0, N1 0, N1 0, .slice none 0 0, .string ByteArray.empty], N6 ((optB b).2)] [391] rfl (((((hG1.trans hG4).trans hG6).trans hG7).trans hG10)) ?_
      rw [decS_opt hc_.1 hc_.2 (by unfold offB; omega) (by omega) hck_ (by assumption)]
      exact ⟨none, 0, [], rfl, rfl, rfl⟩
     ·
      refine Rc 4 (Qc B62 1022) 1 [Qs B62 1023] [] [9] ?_
      have hb_d12 := hb
      have hr6_d12 := hr6
      have hr9_d12 := hr9
      have hcs10_d12 := hcs10
      refine Oh 13 B62 1022 12 [⟨some 8, 8, 31, [I1 ((hdOf b).s0), I1 ((hdOf b).s1), I3 ((hdOf b).s2), I3 ((hdOf b).s3), I8 ((hdOf b).s4), I8 ((hdOf b).s5), I8 ((hdOf b).s6), I1 ((hdOf b).s7), I1 ((hdOf b).s8), I1 ((hdOf b).s9)]⟩] [] [] ⟨P1, trivial⟩ Mt (fun ρ0 => ?_)
      refine Tk 0 12 1 B62 1022 (.v (.agg #[N1 ((hdOf b).s0), N1 ((hdOf b).s1), N3 ((hdOf b).s2), N3 ((hdOf b).s3), N8 ((hdOf b).s4), N8 ((hdOf b).s5), N8 ((hdOf b).s6), N1 ((hdOf b).s7), N1 ((hdOf b).s8), N1 ((hdOf b).s9)])) QOk.ctxG ?_
      refine Tk 1 12 3 B62 1022 (VL A10 ((optB b).1.length) c10) QOk.ctxG ?_
      refine Tk 2 12 7 B62 1022 (VL A b.length c) QOk.ctxG ?_
      refine Tk 3 12 15 B62 1022 (.own 8 4) QOk.ctxG ?_
      refine Tk 4 12 31 B62 1022 (I8 ((hdOf b).s4)) QOk.ctxG ?_
      refine Tk 5 12 63 B62 1022 (I6 (IntKind.i64.wrap ((hdOf b).s4))) QOk.ctxG ?_
      refine Dk 61 .i64 ((hdOf b).s4) rfl (wi64 (by omega) (by omega)) ?_
      refine Tk 6 12 127 B62 1022 (I6 (IntKind.i64.wrap (4 * ((hdOf b).s4)))) QOk.ctxG ?_
      refine Dk 62 .i64 (4 * ((hdOf b).s4)) rfl (wi64 (by omega) (by omega)) ?_
      have hlo13 : (4 * ((hdOf b).s4)).toNat ≤ b.length := by omega
      have hhi13 : b.length ≤ b.length := by omega
      refine XD.cut (i := 7) (l' := (lb 12 255)) (o := (oA B62 (pa 1022) 7)) (t := 22) (e := 5) (sz := 1) (n := b.length) (c := c) (A := A) (x := .tmp 58) (l0 := (some (.tmp 62))) (h := none) (lv := (some (N6 (4 * ((hdOf b).s4))))) (hv := none) ((4 * ((hdOf b).s4)).toNat) b.length QOk.ctxG (by kernel_rfl) (by kernel_rfl) (by kernel_rfl) (by kernel_rfl) (by kernel_rfl) (by kernel_rfl) (by kernel_rfl) (by kernel_rfl) (by kernel_rfl) (⟨_, _, rfl, by omega, rfl⟩) (rfl) hlo13 (Nat.le_trans hhi13 hle) (by kernel_rfl) ?_
      obtain ⟨A13, hA13⟩ : ∃ A_, cutA A c ((4 * ((hdOf b).s4)).toNat) 1 = A_ := ⟨_, rfl⟩
      obtain ⟨ys13, hys13⟩ : ∃ l_, (b.take b.length).drop ((4 * ((hdOf b).s4)).toNat) = l_ := ⟨_, rfl⟩
      have hr13 : rowAt (D.int .u8) G10 (cutA A c ((4 * ((hdOf b).s4)).toNat) 1) ((b.take b.length).drop ((4 * ((hdOf b).s4)).toNat)) := rowAt_cut hb hlo13 hhi13 hle
      have hl13 : b.length - ((4 * ((hdOf b).s4)).toNat) = ys13.length := by rw [← hys13, List.length_drop, List.length_take]; omega
      have hc13 : ys13.length ≤ c - ((4 * ((hdOf b).s4)).toNat) := by omega
      have hm13 : c - ((4 * ((hdOf b).s4)).toNat) ≤ maxLen := Nat.le_trans (Nat.sub_le _ _) hmx
      rw [hys13, show cutA A c ((4 * ((hdOf b).s4)).toNat) _ = A13 from hA13] at hr13
      rw [hA13, hl13]
      refine Do 8 12 511 B62 1022 ?_
      refine X.toStrW (src := 22) (dst := 9) (e := 5) (n := ys13.length) (c := c - ((4 * ((hdOf b).s4)).toNat)) (A := A13) (x := .tmp 63) ys13 (by kernel_rfl) (by kernel_rfl) (by kernel_rfl) (by kernel_rfl) (by kernel_rfl) rfl (at_ints [(360, RR 65 3 A10 ((optB b).1.length) c10 cs10)] hr13) (fun w hw e => rowAt.none hr13 e) (by kernel_rfl) ?_
      refine X.back ⟨⟨P1, trivial⟩, Le.refl _, by kernel_rfl, ?_⟩
      refine Ts [9] 12 1023 2 3 QOk.ctxG ?_
      refine Dn ⟨66, [(6, .own 6 0), (7, I6 0), (8, .own 8 0), (65, .v (.agg #[N1 ((hdOf b).s0), N1 ((hdOf b).s1), N3 ((hdOf b).s2), N3 ((hdOf b).s3), N8 ((hdOf b).s4), N8 ((hdOf b).s5), N8 ((hdOf b).s6), N1 ((hdOf b).s7), N1 ((hdOf b).s8), N1 ((hdOf b).s9), .slice A10 ((optB b).1.length) c10, .string (strOf ys13)]))], [(6, ⟨82, [I1 0, I1 0, I3 0, I3 0, I8 0, I8 0, I8 0, I1 0, I1 0, I1 0, VL none 0 0, VT ByteArray.empty]⟩), (8, ⟨31, [I1 ((hdOf b).s0), I1 ((hdOf b).s1), I3 ((hdOf b).s2), I3 ((hdOf b).s3), I8 ((hdOf b).s4), I8 ((hdOf b).s5), I8 ((hdOf b).s6), I1 ((hdOf b).s7), I1 ((hdOf b).s8), I1 ((hdOf b).s9)]⟩)]⟩ ⟨P1, trivial⟩ ?_
      refine Do 10 12 2047 B62 1022 ?_
      refine X.simple (by kernel_rfl) ?_
      refine X.back ⟨⟨P1, trivial⟩, Le.refl _, by kernel_rfl, ?_⟩
      refine Ts [11] 12 4095 0 1 QOk.ctxG ?_
      refine XD.done (by kernel_rfl) ?_
      refine Rn 2 (.ex .ret) [] ⟨66, [(6, .own 6 0), (7, I6 0)], [(6, ⟨82, [I1 ((hdOf b).s0), I1 ((hdOf b).s1), I3 ((hdOf b).s2), I3 ((hdOf b).s3), I8 ((hdOf b).s4), I8 ((hdOf b).s5), I8 ((hdOf b).s6), I1 ((hdOf b).s7), I1 ((hdOf b).s8), I1 ((hdOf b).s9), VL A10 ((optB b).1.length) c10, VT (strOf ys13)]⟩)]⟩ ?_
      refine Dg (.inl rfl) [.agg #[N1 ((hdOf b).s0), N1 ((hdOf b).s1), N3 ((hdOf b).s2), N3 ((hdOf b).s3), N8 ((hdOf b).s4), N8 ((hdOf b).s5), N8 ((hdOf b).s6), N1 ((hdOf b).s7), N1 ((hdOf b).s8), N1 ((hdOf b).s9), .slice A10 ((optB b).1.length) c10, .string (strOf ys13)], N6 0] [360] rfl (((((hG1.trans hG4).trans hG6).trans hG7).trans hG10)) ?_
      rw [decS_fine hc_.1 hc_.2 (by unfold offB; omega) (by omega) hck_ (by assumption)]
      rw [List.take_of_length_le (Nat.le_refl _)] at hys13
      rw [← hys13]
      exact ⟨_, _, _, rfl, rfl, hcs10⟩
end Go.Proofs.YtjgpdbkkpomhjaaX
