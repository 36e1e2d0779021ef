/- A part of a law's proof. Conditions: none. -/
import Derived.Test.YtjgpdbkkpomhjaaProg
import Derived.KernelRfl
import Derived.Test.YtjgpdbkkpomhjaaQYGX
import Derived.Test.YtjgpdbkkpomhjaaQYG2
import Derived.Test.YtjgpdbkkpomhjaaQYT
namespace Go.Proofs.YtjgpdbkkpomhjaaX
open Go.RowKit
open Go.Proofs.YtjgpdbkkpomhjaaW.PrintLast
set_option linter.unusedVariables false
set_option linter.unusedSimpArgs false
set_option maxRecDepth 100000
noncomputable def B61 : Code := bodyOf Try.f61
set_option maxHeartbeats 4000000 in
theorem SegDec_ok (a : Ad) (A : Option Addr) (c : Nat) (b : List Int) (G : Mem) (ha : a.ok) (hb : rowAt (D.int .u8) G A b) (hle : b.length ≤ c) (hmx : c ≤ maxLen) : CallsG Try.prog 61 [.agg #[.int .u8 a.a0, .int .u8 a.a1, .int .u8 a.a2, .int .u8 a.a3], .agg #[.int .u8 a.b0, .int .u8 a.b1, .int .u8 a.b2, .int .u8 a.b3], .slice A b.length c] G (fun G' v rows => ∃ A' c' cs, v = .tuple #[.agg #[.int .u16 (decS a b).1.1.s0, .int .u16 (decS a b).1.1.s1, .int .u32 (decS a b).1.1.s2, .int .u32 (decS a b).1.1.s3, .int .u8 (decS a b).1.1.s4, .int .u8 (decS a b).1.1.s5, .int .u8 (decS a b).1.1.s6, .int .u16 (decS a b).1.1.s7, .int .u16 (decS a b).1.1.s8, .int .u16 (decS a b).1.1.s9, .slice A' (decS a b).1.2.1.length c', .string (decS a b).1.2.2], .int .i64 (decS a b).2] ∧ rows = [⟨65, 3, .slice A' (decS a b).1.2.1.length c', (decS a b).1.2.1.length, cs⟩] ∧ repsD optD G' (decS a b).1.2.1 cs) := by
 simp only [maxLen] at hmx
 refine CallsG.enter Try.func61 rfl rfl ?_
 intro w
 refine Rn 11 (Qo B61 6 1) [Qs B61 7] ⟨67, [(2, VL A b.length c), (3, .own 3 0), (4, .own 4 0), (6, .own 6 0), (7, I6 0), (13, VL A b.length c)], [(3, ⟨55, [I8 a.a0, I8 a.a1, I8 a.a2, I8 a.a3]⟩), (4, ⟨55, [I8 a.b0, I8 a.b1, I8 a.b2, I8 a.b3]⟩), (6, ⟨82, [I1 0, I1 0, I3 0, I3 0, I8 0, I8 0, I8 0, I1 0, I1 0, I1 0, VL none 0 0, VT ByteArray.empty]⟩)]⟩ ?_
 refine Cg 38 [.slice A b.length c] 0 (Dec11_ok _ _ b _ hb hle) ?_
 rintro v1 G1 rows1 hG1 ⟨ea1, eb1, ec1, rfl⟩
 replace hb := hb.mono hG1.le
 rcases (show b.length < 20 ∨ (20 ≤ b.length ∧ badH b) ∨ (20 ≤ b.length ∧ ¬ badH b) by by_cases h1 : b.length < 20; exact .inl h1; by_cases h2 : badH b; exact .inr (.inl ⟨by omega, h2⟩); exact .inr (.inr ⟨by omega, h2⟩)) with hc_ | hc_ | hc_
 ·
  obtain rfl := ea1 hc_
  refine X.nilRow 391 65 3 rfl ?_
  refine Rb 38 (.ex .ret) 1 [] [(7, I6 3)] [2, 3, 4, 13] [] [3, 4] ?_
  refine Dg (.inl rfl) [.agg #[N1 0, N1 0, N3 0, N3 0, N8 0, N8 0, N8 0, N1 0, N1 0, N1 0, .slice none 0 0, .string ByteArray.empty], N6 3] [391] rfl (hG1) ?_
  rw [decS_short hc_]
  exact ⟨none, 0, [], rfl, rfl, rfl⟩
 ·
  obtain rfl := eb1 hc_
  refine X.nilRow 391 65 3 rfl ?_
  refine Rb 38 (.ex .ret) 1 [] [(7, I6 5)] [2, 3, 4, 13] [] [3, 4] ?_
  refine Dg (.inl rfl) [.agg #[N1 0, N1 0, N3 0, N3 0, N8 0, N8 0, N8 0, N1 0, N1 0, N1 0, .slice none 0 0, .string ByteArray.empty], N6 5] [391] rfl (hG1) ?_
  rw [decS_form hc_.1 hc_.2]
  exact ⟨none, 0, [], rfl, rfl, rfl⟩
 ·
  obtain rfl := ec1 hc_
  have hho_ := hd_off (row_bytes hb) hc_.1 hc_.2
  refine Rb 14 (Qo B61 14 4) 1 [Qs B61 15] [(8, .own 8 0), (9, I6 0), (20, I6 (IntKind.i64.wrap (4 * (IntKind.i64.wrap ((hdOf b).s4)))))] [] [(8, ⟨31, [I1 ((hdOf b).s0), I1 ((hdOf b).s1), I3 ((hdOf b).s2), I3 ((hdOf b).s3), I8 ((hdOf b).s4), I8 ((hdOf b).s5), I8 ((hdOf b).s6), I1 ((hdOf b).s7), I1 ((hdOf b).s8), I1 ((hdOf b).s9)]⟩)] [] ?_
  refine Kn 20 .i64 (4 * (hdOf b).s4) rfl (by rw [wi64 (x := (hdOf b).s4) (by omega) (by omega), wi64 (by omega) (by omega)]) ?_
  refine Ra 22 (Qc B61 487) 1 [.blk 0, Qs B61 31] [(10, I6 (4 * (hdOf b).s4)), (26, VB (decide (4 * (hdOf b).s4 > (b.length : Int))))] ?_
  refine Sd 26 rfl ?_ ?_ <;> intro h2
  ·
   refine X.nilRow 391 65 3 rfl ?_
   refine Rb 11 (.ex .ret) 2 [] [(7, I6 3)] [2, 3, 4, 8, 9, 10, 26] [] [3, 4, 8] ?_
   refine Dg (.inl rfl) [.agg #[N1 0, N1 0, N3 0, N3 0, N8 0, N8 0, N8 0, N1 0, N1 0, N1 0, .slice none 0 0, .string ByteArray.empty], N6 3] [391] rfl (hG1) ?_
   rw [decS_cut hc_.1 hc_.2 (by unfold offB; omega)]
   exact ⟨none, 0, [], rfl, rfl, rfl⟩
  ·
   refine Rc 9 (Qc B61 1951) 0 [] [(32, VB (decide ((b.length : Int) > 65535)))] [26] ?_
   refine Sd 32 rfl ?_ ?_ <;> intro h3
   ·
    refine X.nilRow 391 65 3 rfl ?_
    refine Rb 11 (.ex .ret) 2 [] [(7, I6 4)] [2, 3, 4, 8, 9, 10, 32] [] [3, 4, 8] ?_
    refine Dg (.inl rfl) [.agg #[N1 0, N1 0, N3 0, N3 0, N8 0, N8 0, N8 0, N1 0, N1 0, N1 0, .slice none 0 0, .string ByteArray.empty], N6 4] [391] rfl (hG1) ?_
    rw [decS_long hc_.1 hc_.2 (by unfold offB; omega) (by omega)]
    exact ⟨none, 0, [], rfl, rfl, rfl⟩
   ·
    refine Rb 7 (Qo B61 7806 4) 0 [Qs B61 7807] [(38, .v (.agg #[N8 a.a0, N8 a.a1, N8 a.a2, N8 a.a3])), (39, .v (.agg #[N8 a.b0, N8 a.b1, N8 a.b2, N8 a.b3])), (41, I6 (b.length : Int))] [32] [] [3, 4] ?_
    refine Cg 46 [.agg #[N8 a.a0, N8 a.a1, N8 a.a2, N8 a.a3], .agg #[N8 a.b0, N8 a.b1, N8 a.b2, N8 a.b3], N8 6, N6 (b.length : Int)] 340 (Pseudo_ok a.a0 a.a1 a.a2 a.a3 a.b0 a.b1 a.b2 a.b3 6 (b.length : Int) (by obtain ⟨q0_, q1_, q2_, q3_, q4_, q5_, q6_, q7_⟩ := ha; exact ⟨q0_, q1_, q2_, q3_, q4_, q5_, q6_, q7_⟩) (by decide) (by omega) _) ?_
    rintro v4 G4 rows4 hG4 ⟨A4, c4, rfl, hc4, rfl⟩
    replace hb := hb.mono hG4.le
    refine Tr [340] ?_
    refine X.capLe (i := 340) rfl rfl ?_
    intro hle5 hmx5
    refine X.freezeHd (i := 340) (n := 12) (c := c4) (A := A4) (kd := .u8) (psd a b.length) rfl rfl (fun x_ hx_ => by have h_ := psd_bytes ha _ x_ hx_; simp only [IntKind.lo, IntKind.hi]; omega) (by kernel_rfl) (fun _ h => h) ?_
    intro G5 hG5 hr5
    replace hb := hb.mono hG5.le
    refine Ra 1 (Qo B61 7806 6) 0 [] [(42, VL A4 12 c4), (43, VL A b.length c)] ?_
    refine Lt 44 22 1 2 [.slice A4 12 c4, .slice A b.length c] ?_
    intro A6
    refine Ra 0 (Qo B61 7806 7) 0 [] [(44, VL A6 2 2)] ?_
    refine X.callV (f := 30) (l := [VL A6 2 2]) (Q := fun v_ => v_ = .bool (cks ([psd a b.length, b]).flatten == 0)) [.slice A6 2 2] (by kernel_rfl) (by kernel_rfl) (by kernel_rfl) (fun G1_ hl_ hr_ => (Verify_ok _ _ [psd a b.length, b] G1_ (rowLit (hr_ 44 _ rfl) (⟨_, _, rfl, rep_sliceN rfl hle5 hmx5 (hr5.mono hl_), ⟨_, _, rfl, rep_sliceN rfl hle hmx (hb.mono hl_), rfl⟩⟩) (by decide)) (by simp) (by rw [List.flatten_cons, List.flatten_cons, List.flatten_nil, List.append_nil]; have h_ := wsum_le (l := psd a b.length ++ b) (fun x_ hx_ => by rcases List.mem_append.1 hx_ with h1_ | h1_; exact psd_bytes ha _ x_ h1_; exact row_bytes hb x_ h1_) 70000 (by rw [List.length_append]; show 12 + _ ≤ _; omega); omega)).mono (fun _ _ _ _ h_ => h_.1)) ?_
    rintro _ rfl
    refine X.known 45 (y := VB (cks (psd a b.length ++ b) == 0)) rfl (by simp only [List.flatten_cons, List.flatten_nil, List.append_nil]) ?_
    refine Ra 4 (Qc B61 7807) 1 [] [(37, VB (!(cks (psd a b.length ++ b) == 0)))] ?_
    refine X.split 37 rfl (fun h7 => ?_) (fun h7 => ?_)
    ·
     replace h7 : (cks (psd a b.length ++ b) == 0) = false := by first | (simpa using h7; done) | (have h_ := congrArg (fun b_ => !b_) h7; simpa only [Bool.not_not, Bool.not_true, Bool.not_false] using h_)
     replace h7 : cks (psd a b.length ++ b) ≠ 0 := by simpa using h7
     have hck_ := h7
     refine X.nilRow 391 65 3 rfl ?_
     refine Rb 11 (.ex .ret) 2 [] [(7, I6 6)] [2, 8, 9, 10, 37] [] [8] ?_
     refine Dg (.inl rfl) [.agg #[N1 0, N1 0, N3 0, N3 0, N8 0, N8 0, N8 0, N1 0, N1 0, N1 0, .slice none 0 0, .string ByteArray.empty], N6 6] [391] rfl (((hG1.trans hG4).trans hG5)) ?_
     rw [decS_sum hc_.1 hc_.2 (by unfold offB; omega) (by omega) (by simpa using hck_)]
     exact ⟨none, 0, [], rfl, rfl, rfl⟩
    ·
     replace h7 : (cks (psd a b.length ++ b) == 0) = true := by first | (simpa using h7; done) | (have h_ := congrArg (fun b_ => !b_) h7; simpa only [Bool.not_not, Bool.not_true, Bool.not_false] using h_)
     replace h7 : cks (psd a b.length ++ b) = 0 := by simpa using h7
     have hck_ := h7
     refine Rc 9 (Qo B61 62 3) 2 [Qs B61 63] [(49, VL A b.length c), (50, I6 (4 * (hdOf b).s4)), (51, I6 (4 * (hdOf b).s4))] [37] ?_
     have hlo8 : 20 ≤ (4 * (hdOf b).s4).toNat := by omega
     have hhi8 : (4 * (hdOf b).s4).toNat ≤ b.length := by omega
     refine X.cutM (t := 22) (e := 5) (sz := 1) (n := b.length) (c := c) (A := A) (x := .tmp 49) (h := .tmp 50) (z := .tmp 51) (l := some (.const (N6 20))) (lv := some (N6 20)) (hv := N6 (4 * (hdOf b).s4)) (zv := N6 (4 * (hdOf b).s4)) 20 (4 * (hdOf b).s4).toNat (4 * (hdOf b).s4).toNat hlo8 (Nat.le_refl _) (Nat.le_trans hhi8 hle) ⟨_, _, rfl, by omega, rfl⟩ ⟨_, _, rfl, by omega, rfl⟩ ⟨_, _, rfl, by omega, rfl⟩ ?_
     have hr8 : rowAt (D.int .u8) G5 (cutA A ((4 * (hdOf b).s4).toNat) 20 1) ((b.take (4 * (hdOf b).s4).toNat).drop 20) := rowAt_cutM hb hlo8 (by omega) (Nat.le_refl _)
     have hl8 : ((b.take (4 * (hdOf b).s4).toNat).drop 20).length = (4 * (hdOf b).s4).toNat - 20 := by rw [List.length_drop, List.length_take]; omega
     obtain ⟨A8, hA8⟩ : ∃ A_, cutA A ((4 * (hdOf b).s4).toNat) 20 1 = A_ := ⟨_, rfl⟩
     rw [hA8] at hr8
     rw [hA8]
     refine Ra 0 (Qo B61 62 4) 0 [] [(52, VL A8 ((4 * (hdOf b).s4).toNat - 20) ((4 * (hdOf b).s4).toNat - 20))] ?_
     have hcs_ := Parse_ok A8 ((4 * (hdOf b).s4).toNat - 20) ((b.take (4 * (hdOf b).s4).toNat).drop 20) _ hr8 (by rw [hl8]; exact Nat.le_refl _) (by simp only [maxLen]; omega)
     rw [hl8] at hcs_
     refine Cg 58 [.slice A8 ((4 * (hdOf b).s4).toNat - 20) ((4 * (hdOf b).s4).toNat - 20)] 360 hcs_ ?_
     rintro v9 G9 rows9 hG9 ⟨A9, c9, cs9, rfl, rfl, hcs9⟩
     replace hb := hb.mono hG9.le
     replace hr5 := hr5.mono hG9.le
     replace hr8 := hr8.mono hG9.le
     refine Ra 14 (Qc B61 253) 1 [Qs B61 127] [(9, I6 ((optB b).2)), (11, VL A9 ((optB b).1.length) c9), (57, VB (((optB b).2) != 0))] ?_
     refine Sn 57 rfl ?_ ?_ <;> intro h10
     ·
      refine X.nilRow 391 65 3 rfl ?_
      refine Rb 11 (.ex .ret) 1 [] [(7, I6 ((optB b).2))] [2, 8, 9, 10, 11, 57] [] [8] ?_
      refine Dg (.inl rfl) [.agg #[N1 0, N1 0, N3 0, N3 0, N8 0, N8 0, N8 0, N1 0, N1 0, N1 0, .slice none 0 0, .string ByteArray.empty], N6 ((optB b).2)] [391] rfl ((((hG1.trans hG4).trans hG5).trans hG9)) ?_
      rw [decS_opt hc_.1 hc_.2 (by unfold offB; omega) (by omega) (by simpa using hck_) (by assumption)]
      exact ⟨none, 0, [], rfl, rfl, rfl⟩
     ·
      refine Rc 4 (Qc B61 254) 1 [Qs B61 255] [] [9] ?_
      have hb_d11 := hb
      have hr5_d11 := hr5
      have hr8_d11 := hr8
      have hcs9_d11 := hcs9
      refine Oh 14 B61 254 9 [⟨some 8, 8, 31, [I1 ((hdOf b).s0), I1 ((hdOf b).s1), I3 ((hdOf b).s2), I3 ((hdOf b).s3), I8 ((hdOf b).s4), I8 ((hdOf b).s5), I8 ((hdOf b).s6), I1 ((hdOf b).s7), I1 ((hdOf b).s8), I1 ((hdOf b).s9)]⟩] [] [] ⟨P1, trivial⟩ Mt (fun ρ0 => ?_)
      refine Tk 0 9 1 B61 254 (.v (.agg #[N1 ((hdOf b).s0), N1 ((hdOf b).s1), N3 ((hdOf b).s2), N3 ((hdOf b).s3), N8 ((hdOf b).s4), N8 ((hdOf b).s5), N8 ((hdOf b).s6), N1 ((hdOf b).s7), N1 ((hdOf b).s8), N1 ((hdOf b).s9)])) QOk.ctxG ?_
      refine Tk 1 9 3 B61 254 (VL A9 ((optB b).1.length) c9) QOk.ctxG ?_
      refine Tk 2 9 7 B61 254 (VL A b.length c) QOk.ctxG ?_
      refine Tk 3 9 15 B61 254 (I6 (4 * (hdOf b).s4)) QOk.ctxG ?_
      have hlo12 : (4 * (hdOf b).s4).toNat ≤ b.length := by omega
      have hhi12 : b.length ≤ b.length := by omega
      refine XD.cut (i := 4) (l' := (lb 9 31)) (o := (oA B61 (pa 254) 4)) (t := 22) (e := 5) (sz := 1) (n := b.length) (c := c) (A := A) (x := .tmp 62) (l0 := (some (.tmp 63))) (h := none) (lv := (some (N6 (4 * (hdOf b).s4)))) (hv := none) ((4 * (hdOf b).s4).toNat) b.length QOk.ctxG (by kernel_rfl) (by kernel_rfl) (by kernel_rfl) (by kernel_rfl) (by kernel_rfl) (by kernel_rfl) (by kernel_rfl) (by kernel_rfl) (by kernel_rfl) (⟨_, _, rfl, by omega, rfl⟩) (rfl) hlo12 (Nat.le_trans hhi12 hle) (by kernel_rfl) ?_
      obtain ⟨A12, hA12⟩ : ∃ A_, cutA A c ((4 * (hdOf b).s4).toNat) 1 = A_ := ⟨_, rfl⟩
      obtain ⟨ys12, hys12⟩ : ∃ l_, (b.take b.length).drop ((4 * (hdOf b).s4).toNat) = l_ := ⟨_, rfl⟩
      have hr12 : rowAt (D.int .u8) G9 (cutA A c ((4 * (hdOf b).s4).toNat) 1) ((b.take b.length).drop ((4 * (hdOf b).s4).toNat)) := rowAt_cut hb hlo12 hhi12 hle
      have hl12 : b.length - ((4 * (hdOf b).s4).toNat) = ys12.length := by rw [← hys12, List.length_drop, List.length_take]; omega
      have hc12 : ys12.length ≤ c - ((4 * (hdOf b).s4).toNat) := by omega
      have hm12 : c - ((4 * (hdOf b).s4).toNat) ≤ maxLen := Nat.le_trans (Nat.sub_le _ _) hmx
      rw [hys12, show cutA A c ((4 * (hdOf b).s4).toNat) _ = A12 from hA12] at hr12
      rw [hA12, hl12]
      refine Do 5 9 63 B61 254 ?_
      refine X.toStrW (src := 22) (dst := 9) (e := 5) (n := ys12.length) (c := c - ((4 * (hdOf b).s4).toNat)) (A := A12) (x := .tmp 64) ys12 (by kernel_rfl) (by kernel_rfl) (by kernel_rfl) (by kernel_rfl) (by kernel_rfl) rfl (at_ints [(360, RR 65 3 A9 ((optB b).1.length) c9 cs9), (44, RR 22 1 A6 2 2 [.slice A4 12 c4, .slice A b.length c])] hr12) (fun w hw e => rowAt.none hr12 e) (by kernel_rfl) ?_
      refine X.back ⟨⟨P1, trivial⟩, Le.refl _, by kernel_rfl, ?_⟩
      refine Ts [6] 9 127 2 3 QOk.ctxG ?_
      refine Dn ⟨67, [(6, .own 6 0), (7, I6 0), (8, .own 8 0), (66, .v (.agg #[N1 ((hdOf b).s0), N1 ((hdOf b).s1), N3 ((hdOf b).s2), N3 ((hdOf b).s3), N8 ((hdOf b).s4), N8 ((hdOf b).s5), N8 ((hdOf b).s6), N1 ((hdOf b).s7), N1 ((hdOf b).s8), N1 ((hdOf b).s9), .slice A9 ((optB b).1.length) c9, .string (strOf ys12)]))], [(6, ⟨82, [I1 0, I1 0, I3 0, I3 0, I8 0, I8 0, I8 0, I1 0, I1 0, I1 0, VL none 0 0, VT ByteArray.empty]⟩), (8, ⟨31, [I1 ((hdOf b).s0), I1 ((hdOf b).s1), I3 ((hdOf b).s2), I3 ((hdOf b).s3), I8 ((hdOf b).s4), I8 ((hdOf b).s5), I8 ((hdOf b).s6), I1 ((hdOf b).s7), I1 ((hdOf b).s8), I1 ((hdOf b).s9)]⟩)]⟩ ⟨P1, trivial⟩ ?_
      refine Do 7 9 255 B61 254 ?_
      refine X.simple (by kernel_rfl) ?_
      refine X.back ⟨⟨P1, trivial⟩, Le.refl _, by kernel_rfl, ?_⟩
      refine Ts [8] 9 511 0 1 QOk.ctxG ?_
      refine XD.done (by kernel_rfl) ?_
      refine Rn 2 (.ex .ret) [] ⟨67, [(6, .own 6 0), (7, I6 0)], [(6, ⟨82, [I1 ((hdOf b).s0), I1 ((hdOf b).s1), I3 ((hdOf b).s2), I3 ((hdOf b).s3), I8 ((hdOf b).s4), I8 ((hdOf b).s5), I8 ((hdOf b).s6), I1 ((hdOf b).s7), I1 ((hdOf b).s8), I1 ((hdOf b).s9), VL A9 ((optB b).1.length) c9, VT (strOf ys12)]⟩)]⟩ ?_
      refine Dg (.inl rfl) [.agg #[N1 ((hdOf b).s0), N1 ((hdOf b).s1), N3 ((hdOf b).s2), N3 ((hdOf b).s3), N8 ((hdOf b).s4), N8 ((hdOf b).s5), N8 ((hdOf b).s6), N1 ((hdOf b).s7), N1 ((hdOf b).s8), N1 ((hdOf b).s9), .slice A9 ((optB b).1.length) c9, .string (strOf ys12)], N6 0] [360] rfl ((((hG1.trans hG4).trans hG5).trans hG9)) ?_
      rw [decS_fine hc_.1 hc_.2 (by unfold offB; omega) (by omega) (by simpa using hck_) (by assumption)]
      rw [List.take_of_length_le (Nat.le_refl _)] at hys12
      rw [← hys12]
      exact ⟨_, _, _, rfl, rfl, hcs9⟩
end Go.Proofs.YtjgpdbkkpomhjaaX
