/- leatlaw13.SegmentGathers. Walked; printed by a small program of this session. Conditions: none. -/
import Derived.Test.YtjgpdbkkpomhjaaProg
import Derived.KernelRfl
import Derived.Test.YtjgpdbkkpomhjaaYP2
import Derived.Test.YtjgpdbkkpomhjaaYP3
import Derived.Test.YtjgpdbkkpomhjaaYG5
namespace Go.Proofs.YtjgpdbkkpomhjaaX
open Go.RowKit
open Go.Proofs.YtjgpdbkkpomhjaaW.PrintLast
set_option linter.unusedVariables false
set_option linter.unusedSimpArgs false
set_option maxRecDepth 100000
theorem okG_app {l : List Sg} {x : Sg} (h : ∀ y ∈ l, okG y) (hx : okG x) : ∀ y ∈ l ++ [x], okG y := by
 intro y hy
 rcases List.mem_append.1 hy with h1 | h1
 · exact h y h1
 · rw [List.mem_singleton.1 h1]; exact hx
/-- leat/leatlaw13.SegmentGathers -/
noncomputable def B20 : Code := bodyOf Try.f20
set_option maxHeartbeats 4000000 in
theorem SegmentGathers_ok (A : Option Addr) (c : Nat) (xs : List SegT) (n : Int) (G : Mem) (hr : rowAt sgtD G A xs) (hle : xs.length ≤ c) (hmx : c ≤ maxLen) (hn : 0 ≤ n ∧ n ≤ 4294967295) : CallsG Try.prog 20 [.slice A xs.length c, .int .u32 n] G (fun _ v rows => v = .bool true ∧ rows = []) := by
 simp only [maxLen] at hmx
 refine CallsG.enter Try.func20 rfl rfl ?_
 intro w
 refine Rn 17 (Qc B20 58) [.blk 0, Qs B20 15] ⟨61, [(0, VL A xs.length c), (1, I3 n), (4, VB false), (5, VL none 0 0), (6, I6 0)], []⟩ ?_
 refine X.nilRow 30 82 12 rfl ?_
 refine X.loopJ (fun m s R' G' => ∃ (B_ : Option Addr) (c_ n_ : Nat) (l_ : List Sg) (i_ : Nat), s = ⟨61, [(0, VL A xs.length c), (1, I3 n), (4, VB false), (5, VL B_ n_ c_), (6, I6 (i_ : Int))], []⟩ ∧ R' = [(30, RR 82 12 B_ n_ c_ (l_.flatMap sgV))] ∧ Ge G w.heap.size G' ∧ (i_ ≤ xs.length ∧ i_ ≤ 20 ∧ n_ = i_ ∧ l_.length = n_ ∧ (∀ x ∈ l_, okG x)) ∧ m = (xs.length - i_)) _ ⟨none, 0, 0, [], 0, rfl, rfl, Ge.refl _ _, ⟨by omega, by omega, rfl, rfl, fun _ h_ => absurd h_ List.not_mem_nil⟩, rfl⟩ ?_
 rintro m1 s1 R1 G1 ⟨B_, c_, n_, l_, i_, rfl, rfl, hG1, hF1, rfl⟩ J1 hJ1
 replace hr := hr.mono hG1.le
 obtain ⟨hi_, hit_, hni_, hln_, hok_⟩ := hF1
 refine Rn 8 (Qo B20 464 5) [Qs B20 465, Qs B20 233, .loop J1, .blk 0, Qs B20 15] ⟨61, [(0, VL A xs.length c), (1, I3 n), (4, VB false), (5, VL B_ n_ c_), (6, I6 (i_ : Int)), (17, VB (decide ((i_ : Int) < (xs.length : Int))))], []⟩ ?_
 refine X.split 17 rfl (fun h2 => ?_) (fun h2 => ?_)
 ·
  replace h2 : (i_ : Int) < ((xs.length : Nat) : Int) := of_decide_eq_true h2
  refine Rn 5 (Qc B20 465) [Qs B20 233, .loop J1, .blk 0, Qs B20 15] ⟨61, [(0, VL A xs.length c), (1, I3 n), (4, VB false), (5, VL B_ n_ c_), (6, I6 (i_ : Int)), (20, VB (decide ((i_ : Int) < 20)))], []⟩ ?_
  refine X.split 20 rfl (fun h3 => ?_) (fun h3 => ?_)
  ·
   replace h3 : (i_ : Int) < 20 := of_decide_eq_true h3
   refine Rn 9 (Qo B20 932 3) [.blk 1, Qs B20 467, .loop J1, .blk 0, Qs B20 15] ⟨61, [(0, VL A xs.length c), (1, I3 n), (4, VB false), (5, VL B_ n_ c_), (6, I6 (i_ : Int)), (23, VL B_ n_ c_), (24, VL A xs.length c), (25, I6 (i_ : Int))], []⟩ ?_
   have b4 : (0 : Int) ≤ (i_ : Int) := by omega
   have b5 : (i_ : Int) < ((xs.length : Nat) : Int) := by omega
   refine Ix 96 82 12 A xs.length c .i64 (i_ : Int) (.tmp 24) (.tmp 25) b4 b5 (fun _ _ => rowAt.so hr (by omega)) ?_
   obtain ⟨A6, c6, at6, ok6, le6, mx6, hr6, sz6⟩ := At.sgt [(30, ⟨82, 12, .slice B_ n_ c_, n_, l_.flatMap sgV⟩)] hr (((i_ : Int)).toNat) (by omega)
   simp only [maxLen] at mx6 sz6
   simp only [sgV] at at6
   refine Rn 0 (Qo B20 932 4) [.blk 1, Qs B20 467, .loop J1, .blk 0, Qs B20 15] ⟨61, [(0, VL A xs.length c), (1, I3 n), (4, VB false), (5, VL B_ n_ c_), (6, I6 (i_ : Int)), (23, VL B_ n_ c_), (26, .v (elt A (((i_ : Int)).toNat * 12)))], []⟩ ?_
   refine Ld 82 A (((i_ : Int)).toNat * 12) (.tmp 26) (.agg #[N1 ((hdT (xs.getD (((i_ : Int)).toNat) sgt0)).s0), N1 ((hdT (xs.getD (((i_ : Int)).toNat) sgt0)).s1), N3 ((hdT (xs.getD (((i_ : Int)).toNat) sgt0)).s2), N3 ((hdT (xs.getD (((i_ : Int)).toNat) sgt0)).s3), N8 ((hdT (xs.getD (((i_ : Int)).toNat) sgt0)).s4), N8 ((hdT (xs.getD (((i_ : Int)).toNat) sgt0)).s5), N8 ((hdT (xs.getD (((i_ : Int)).toNat) sgt0)).s6), N1 ((hdT (xs.getD (((i_ : Int)).toNat) sgt0)).s7), N1 ((hdT (xs.getD (((i_ : Int)).toNat) sgt0)).s8), N1 ((hdT (xs.getD (((i_ : Int)).toNat) sgt0)).s9), .slice A6 ((xs.getD (((i_ : Int)).toNat) sgt0).2.1.length) c6, .string ((xs.getD (((i_ : Int)).toNat) sgt0).2.2)]) [N1 ((hdT (xs.getD (((i_ : Int)).toNat) sgt0)).s0), N1 ((hdT (xs.getD (((i_ : Int)).toNat) sgt0)).s1), N3 ((hdT (xs.getD (((i_ : Int)).toNat) sgt0)).s2), N3 ((hdT (xs.getD (((i_ : Int)).toNat) sgt0)).s3), N8 ((hdT (xs.getD (((i_ : Int)).toNat) sgt0)).s4), N8 ((hdT (xs.getD (((i_ : Int)).toNat) sgt0)).s5), N8 ((hdT (xs.getD (((i_ : Int)).toNat) sgt0)).s6), N1 ((hdT (xs.getD (((i_ : Int)).toNat) sgt0)).s7), N1 ((hdT (xs.getD (((i_ : Int)).toNat) sgt0)).s8), N1 ((hdT (xs.getD (((i_ : Int)).toNat) sgt0)).s9), .slice A6 ((xs.getD (((i_ : Int)).toNat) sgt0).2.1.length) c6, .string ((xs.getD (((i_ : Int)).toNat) sgt0).2.2)] at6 ?_
   refine Rn 0 (Qo B20 932 5) [.blk 1, Qs B20 467, .loop J1, .blk 0, Qs B20 15] ⟨61, [(0, VL A xs.length c), (1, I3 n), (4, VB false), (5, VL B_ n_ c_), (6, I6 (i_ : Int)), (23, VL B_ n_ c_), (27, .v (.agg #[N1 ((hdT (xs.getD (((i_ : Int)).toNat) sgt0)).s0), N1 ((hdT (xs.getD (((i_ : Int)).toNat) sgt0)).s1), N3 ((hdT (xs.getD (((i_ : Int)).toNat) sgt0)).s2), N3 ((hdT (xs.getD (((i_ : Int)).toNat) sgt0)).s3), N8 ((hdT (xs.getD (((i_ : Int)).toNat) sgt0)).s4), N8 ((hdT (xs.getD (((i_ : Int)).toNat) sgt0)).s5), N8 ((hdT (xs.getD (((i_ : Int)).toNat) sgt0)).s6), N1 ((hdT (xs.getD (((i_ : Int)).toNat) sgt0)).s7), N1 ((hdT (xs.getD (((i_ : Int)).toNat) sgt0)).s8), N1 ((hdT (xs.getD (((i_ : Int)).toNat) sgt0)).s9), .slice A6 ((xs.getD (((i_ : Int)).toNat) sgt0).2.1.length) c6, .string ((xs.getD (((i_ : Int)).toNat) sgt0).2.2)]))], []⟩ ?_
   refine Cg 65 [.agg #[N1 ((hdT (xs.getD (((i_ : Int)).toNat) sgt0)).s0), N1 ((hdT (xs.getD (((i_ : Int)).toNat) sgt0)).s1), N3 ((hdT (xs.getD (((i_ : Int)).toNat) sgt0)).s2), N3 ((hdT (xs.getD (((i_ : Int)).toNat) sgt0)).s3), N8 ((hdT (xs.getD (((i_ : Int)).toNat) sgt0)).s4), N8 ((hdT (xs.getD (((i_ : Int)).toNat) sgt0)).s5), N8 ((hdT (xs.getD (((i_ : Int)).toNat) sgt0)).s6), N1 ((hdT (xs.getD (((i_ : Int)).toNat) sgt0)).s7), N1 ((hdT (xs.getD (((i_ : Int)).toNat) sgt0)).s8), N1 ((hdT (xs.getD (((i_ : Int)).toNat) sgt0)).s9), .slice A6 ((xs.getD (((i_ : Int)).toNat) sgt0).2.1.length) c6, .string ((xs.getD (((i_ : Int)).toNat) sgt0).2.2)]] 420 (few_ok (hdT (xs.getD (((i_ : Int)).toNat) sgt0)) A6 c6 ((xs.getD (((i_ : Int)).toNat) sgt0).2.1) ((xs.getD (((i_ : Int)).toNat) sgt0).2.2) _ hr6 le6 (by simp only [maxLen]; omega) (by simp only [maxLen]; omega)) ?_
   rintro v7 G7 rows7 hG7 ⟨A7, c7, cs7, rfl, rfl, hcs7⟩
   replace hr := hr.mono hG7.le
   replace hr6 := hr6.mono hG7.le
   refine X.asR (R' := [(420, RR 65 3 A7 ((fewO ((xs.getD (((i_ : Int)).toNat) sgt0).2.1)).length) c7 cs7), (30, RR 82 12 B_ n_ c_ (l_.flatMap sgV))]) rfl ?_
   refine X.tellR [420, 30] (R' := [(420, RR 65 3 A7 ((fewO ((xs.getD (((i_ : Int)).toNat) sgt0).2.1)).length) c7 cs7), (30, RR 82 12 B_ n_ c_ (l_.flatMap sgV))]) rfl ?_
   refine X.capLe (i := 420) (q := (RR 65 3 A7 ((fewO ((xs.getD (((i_ : Int)).toNat) sgt0).2.1)).length) c7 cs7)) (n := (fewO ((xs.getD (((i_ : Int)).toNat) sgt0).2.1)).length) (c := c7) (A := A7) rfl rfl ?_
   intro hle8 hmx8
   refine X.freezeD (d := optD) (i := 420) (n := (fewO ((xs.getD (((i_ : Int)).toNat) sgt0).2.1)).length) (c := c7) (A := A7) (fewO ((xs.getD (((i_ : Int)).toNat) sgt0).2.1)) rfl hcs7 (by decide) (by kernel_rfl) (fun _ h => h) ?_
   intro G8 hG8 hr8
   replace hr := hr.mono hG8.le
   replace hr6 := hr6.mono hG8.le
   refine Rn 0 (Qo B20 932 6) [.blk 1, Qs B20 467, .loop J1, .blk 0, Qs B20 15] ⟨61, [(0, VL A xs.length c), (1, I3 n), (4, VB false), (5, VL B_ n_ c_), (6, I6 (i_ : Int)), (23, VL B_ n_ c_), (28, .v (.agg #[N1 ((hdT (xs.getD (((i_ : Int)).toNat) sgt0)).s0), N1 ((hdT (xs.getD (((i_ : Int)).toNat) sgt0)).s1), N3 ((hdT (xs.getD (((i_ : Int)).toNat) sgt0)).s2), N3 ((hdT (xs.getD (((i_ : Int)).toNat) sgt0)).s3), N8 ((hdT (xs.getD (((i_ : Int)).toNat) sgt0)).s4), N8 ((hdT (xs.getD (((i_ : Int)).toNat) sgt0)).s5), N8 ((hdT (xs.getD (((i_ : Int)).toNat) sgt0)).s6), N1 ((hdT (xs.getD (((i_ : Int)).toNat) sgt0)).s7), N1 ((hdT (xs.getD (((i_ : Int)).toNat) sgt0)).s8), N1 ((hdT (xs.getD (((i_ : Int)).toNat) sgt0)).s9), .slice A7 ((fewO ((xs.getD (((i_ : Int)).toNat) sgt0).2.1)).length) c7, .string (fewD ((xs.getD (((i_ : Int)).toNat) sgt0).2.2))]))], []⟩ ?_
   refine Lt 29 82 12 1 [N1 ((hdT (xs.getD (((i_ : Int)).toNat) sgt0)).s0), N1 ((hdT (xs.getD (((i_ : Int)).toNat) sgt0)).s1), N3 ((hdT (xs.getD (((i_ : Int)).toNat) sgt0)).s2), N3 ((hdT (xs.getD (((i_ : Int)).toNat) sgt0)).s3), N8 ((hdT (xs.getD (((i_ : Int)).toNat) sgt0)).s4), N8 ((hdT (xs.getD (((i_ : Int)).toNat) sgt0)).s5), N8 ((hdT (xs.getD (((i_ : Int)).toNat) sgt0)).s6), N1 ((hdT (xs.getD (((i_ : Int)).toNat) sgt0)).s7), N1 ((hdT (xs.getD (((i_ : Int)).toNat) sgt0)).s8), N1 ((hdT (xs.getD (((i_ : Int)).toNat) sgt0)).s9), .slice A7 ((fewO ((xs.getD (((i_ : Int)).toNat) sgt0).2.1)).length) c7, .string (fewD ((xs.getD (((i_ : Int)).toNat) sgt0).2.2))] ?_
   intro A9
   refine Rn 0 (Qo B20 932 7) [.blk 1, Qs B20 467, .loop J1, .blk 0, Qs B20 15] ⟨61, [(0, VL A xs.length c), (1, I3 n), (4, VB false), (5, VL B_ n_ c_), (6, I6 (i_ : Int)), (23, VL B_ n_ c_), (29, VL A9 1 1)], []⟩ ?_
   refine Ap 30 (RR 82 12 B_ n_ c_ (l_.flatMap sgV)) 96 64 (.agg #[N1 0, N1 0, N3 0, N3 0, N8 0, N8 0, N8 0, N1 0, N1 0, N1 0, .slice none 0 0, .string ByteArray.empty]) (.tmp 23) (.tmp 29) n_ c_ 1 1 B_ A9 [N1 ((hdT (xs.getD (((i_ : Int)).toNat) sgt0)).s0), N1 ((hdT (xs.getD (((i_ : Int)).toNat) sgt0)).s1), N3 ((hdT (xs.getD (((i_ : Int)).toNat) sgt0)).s2), N3 ((hdT (xs.getD (((i_ : Int)).toNat) sgt0)).s3), N8 ((hdT (xs.getD (((i_ : Int)).toNat) sgt0)).s4), N8 ((hdT (xs.getD (((i_ : Int)).toNat) sgt0)).s5), N8 ((hdT (xs.getD (((i_ : Int)).toNat) sgt0)).s6), N1 ((hdT (xs.getD (((i_ : Int)).toNat) sgt0)).s7), N1 ((hdT (xs.getD (((i_ : Int)).toNat) sgt0)).s8), N1 ((hdT (xs.getD (((i_ : Int)).toNat) sgt0)).s9), .slice A7 ((fewO ((xs.getD (((i_ : Int)).toNat) sgt0).2.1)).length) c7, .string (fewD ((xs.getD (((i_ : Int)).toNat) sgt0).2.2))] (.inl rfl) (by kernel_rfl) (At.of_row (i := 29) (r := (RR 82 12 A9 1 1 [N1 ((hdT (xs.getD (((i_ : Int)).toNat) sgt0)).s0), N1 ((hdT (xs.getD (((i_ : Int)).toNat) sgt0)).s1), N3 ((hdT (xs.getD (((i_ : Int)).toNat) sgt0)).s2), N3 ((hdT (xs.getD (((i_ : Int)).toNat) sgt0)).s3), N8 ((hdT (xs.getD (((i_ : Int)).toNat) sgt0)).s4), N8 ((hdT (xs.getD (((i_ : Int)).toNat) sgt0)).s5), N8 ((hdT (xs.getD (((i_ : Int)).toNat) sgt0)).s6), N1 ((hdT (xs.getD (((i_ : Int)).toNat) sgt0)).s7), N1 ((hdT (xs.getD (((i_ : Int)).toNat) sgt0)).s8), N1 ((hdT (xs.getD (((i_ : Int)).toNat) sgt0)).s9), .slice A7 ((fewO ((xs.getD (((i_ : Int)).toNat) sgt0).2.1)).length) c7, .string (fewD ((xs.getD (((i_ : Int)).toNat) sgt0).2.2))])) rfl rfl) (fun w hw e => absurd (rowSome (i := 29) (q := (RR 82 12 A9 1 1 [N1 ((hdT (xs.getD (((i_ : Int)).toNat) sgt0)).s0), N1 ((hdT (xs.getD (((i_ : Int)).toNat) sgt0)).s1), N3 ((hdT (xs.getD (((i_ : Int)).toNat) sgt0)).s2), N3 ((hdT (xs.getD (((i_ : Int)).toNat) sgt0)).s3), N8 ((hdT (xs.getD (((i_ : Int)).toNat) sgt0)).s4), N8 ((hdT (xs.getD (((i_ : Int)).toNat) sgt0)).s5), N8 ((hdT (xs.getD (((i_ : Int)).toNat) sgt0)).s6), N1 ((hdT (xs.getD (((i_ : Int)).toNat) sgt0)).s7), N1 ((hdT (xs.getD (((i_ : Int)).toNat) sgt0)).s8), N1 ((hdT (xs.getD (((i_ : Int)).toNat) sgt0)).s9), .slice A7 ((fewO ((xs.getD (((i_ : Int)).toNat) sgt0).2.1)).length) c7, .string (fewD ((xs.getD (((i_ : Int)).toNat) sgt0).2.2))])) rfl rfl (Nat.succ_pos _) w hw) (by rw [e]; decide)) (ones (by kernel_rfl)) (by omega) ?_
   intro A10 c10 hc10
   refine X.tellR [30, 29] (R' := [(30, RR 82 12 A10 (n_ + 1) c10 ((l_ ++ [(⟨⟨(hdT (xs.getD (((i_ : Int)).toNat) sgt0)).s0, (hdT (xs.getD (((i_ : Int)).toNat) sgt0)).s1, (hdT (xs.getD (((i_ : Int)).toNat) sgt0)).s2, (hdT (xs.getD (((i_ : Int)).toNat) sgt0)).s3, (hdT (xs.getD (((i_ : Int)).toNat) sgt0)).s4, (hdT (xs.getD (((i_ : Int)).toNat) sgt0)).s5, (hdT (xs.getD (((i_ : Int)).toNat) sgt0)).s6, (hdT (xs.getD (((i_ : Int)).toNat) sgt0)).s7, (hdT (xs.getD (((i_ : Int)).toNat) sgt0)).s8, (hdT (xs.getD (((i_ : Int)).toNat) sgt0)).s9⟩, A7, (fewO ((xs.getD (((i_ : Int)).toNat) sgt0).2.1)).length, c7, fewD ((xs.getD (((i_ : Int)).toNat) sgt0).2.2)⟩ : Sg)]).flatMap sgV)), (29, RR 82 12 A9 1 1 [N1 ((hdT (xs.getD (((i_ : Int)).toNat) sgt0)).s0), N1 ((hdT (xs.getD (((i_ : Int)).toNat) sgt0)).s1), N3 ((hdT (xs.getD (((i_ : Int)).toNat) sgt0)).s2), N3 ((hdT (xs.getD (((i_ : Int)).toNat) sgt0)).s3), N8 ((hdT (xs.getD (((i_ : Int)).toNat) sgt0)).s4), N8 ((hdT (xs.getD (((i_ : Int)).toNat) sgt0)).s5), N8 ((hdT (xs.getD (((i_ : Int)).toNat) sgt0)).s6), N1 ((hdT (xs.getD (((i_ : Int)).toNat) sgt0)).s7), N1 ((hdT (xs.getD (((i_ : Int)).toNat) sgt0)).s8), N1 ((hdT (xs.getD (((i_ : Int)).toNat) sgt0)).s9), .slice A7 ((fewO ((xs.getD (((i_ : Int)).toNat) sgt0).2.1)).length) c7, .string (fewD ((xs.getD (((i_ : Int)).toNat) sgt0).2.2))])]) (congrArg (fun cs_ => (30, (RR 82 12 A10 (n_ + 1) c10 cs_ : Row)) :: [(29, RR 82 12 A9 1 1 [N1 ((hdT (xs.getD (((i_ : Int)).toNat) sgt0)).s0), N1 ((hdT (xs.getD (((i_ : Int)).toNat) sgt0)).s1), N3 ((hdT (xs.getD (((i_ : Int)).toNat) sgt0)).s2), N3 ((hdT (xs.getD (((i_ : Int)).toNat) sgt0)).s3), N8 ((hdT (xs.getD (((i_ : Int)).toNat) sgt0)).s4), N8 ((hdT (xs.getD (((i_ : Int)).toNat) sgt0)).s5), N8 ((hdT (xs.getD (((i_ : Int)).toNat) sgt0)).s6), N1 ((hdT (xs.getD (((i_ : Int)).toNat) sgt0)).s7), N1 ((hdT (xs.getD (((i_ : Int)).toNat) sgt0)).s8), N1 ((hdT (xs.getD (((i_ : Int)).toNat) sgt0)).s9), .slice A7 ((fewO ((xs.getD (((i_ : Int)).toNat) sgt0).2.1)).length) c7, .string (fewD ((xs.getD (((i_ : Int)).toNat) sgt0).2.2))])]) (flat_snoc sgV l_ ((⟨⟨(hdT (xs.getD (((i_ : Int)).toNat) sgt0)).s0, (hdT (xs.getD (((i_ : Int)).toNat) sgt0)).s1, (hdT (xs.getD (((i_ : Int)).toNat) sgt0)).s2, (hdT (xs.getD (((i_ : Int)).toNat) sgt0)).s3, (hdT (xs.getD (((i_ : Int)).toNat) sgt0)).s4, (hdT (xs.getD (((i_ : Int)).toNat) sgt0)).s5, (hdT (xs.getD (((i_ : Int)).toNat) sgt0)).s6, (hdT (xs.getD (((i_ : Int)).toNat) sgt0)).s7, (hdT (xs.getD (((i_ : Int)).toNat) sgt0)).s8, (hdT (xs.getD (((i_ : Int)).toNat) sgt0)).s9⟩, A7, (fewO ((xs.getD (((i_ : Int)).toNat) sgt0).2.1)).length, c7, fewD ((xs.getD (((i_ : Int)).toNat) sgt0).2.2)⟩ : Sg) : Sg))) ?_
   obtain ⟨l10, hl10⟩ : ∃ z_, (l_ ++ [(⟨⟨(hdT (xs.getD (((i_ : Int)).toNat) sgt0)).s0, (hdT (xs.getD (((i_ : Int)).toNat) sgt0)).s1, (hdT (xs.getD (((i_ : Int)).toNat) sgt0)).s2, (hdT (xs.getD (((i_ : Int)).toNat) sgt0)).s3, (hdT (xs.getD (((i_ : Int)).toNat) sgt0)).s4, (hdT (xs.getD (((i_ : Int)).toNat) sgt0)).s5, (hdT (xs.getD (((i_ : Int)).toNat) sgt0)).s6, (hdT (xs.getD (((i_ : Int)).toNat) sgt0)).s7, (hdT (xs.getD (((i_ : Int)).toNat) sgt0)).s8, (hdT (xs.getD (((i_ : Int)).toNat) sgt0)).s9⟩, A7, (fewO ((xs.getD (((i_ : Int)).toNat) sgt0).2.1)).length, c7, fewD ((xs.getD (((i_ : Int)).toNat) sgt0).2.2)⟩ : Sg)]) = z_ := ⟨_, rfl⟩
   rw [hl10]
   have hn10 : l10.length = n_ + 1 := by rw [← hl10, List.length_append, hln_]; rfl
   refine Rn 7 (Qo B20 467 2) [.loop J1, .blk 0, Qs B20 15] ⟨61, [(0, VL A xs.length c), (1, I3 n), (4, VB false), (5, VL A10 (n_ + 1) c10), (6, I6 (i_ : Int)), (22, I6 (IntKind.i64.wrap ((i_ : Int) + 1)))], []⟩ ?_
   refine Kn 22 .i64 ((i_ : Int) + 1) rfl (wi64 (by omega) (by omega)) ?_
   refine Rn 2 (.ex .normal) [.loop J1, .blk 0, Qs B20 15] ⟨61, [(0, VL A xs.length c), (1, I3 n), (4, VB false), (5, VL A10 (n_ + 1) c10), (6, I6 ((i_ : Int) + 1))], []⟩ ?_
   refine X.tellR [30] (R' := [(30, RR 82 12 A10 (n_ + 1) c10 (l10.flatMap sgV))]) rfl ?_
   exact X.again (hJ1 _ _ _ _ ⟨A10, c10, (n_ + 1), l10, (i_ + 1), rfl, rfl, ((hG1.trans hG7).trans hG8), ⟨by omega, by omega, by omega, by assumption, by rw [← hl10]; exact okG_app hok_ ⟨ok6, fewD_size _⟩⟩, rfl⟩ (by omega))
  ·
   replace h3 : ¬ ((i_ : Int) < 20) := of_decide_eq_false h3
   refine Rn 10 (Qo B20 30 2) [Qs B20 31] ⟨61, [(1, I3 n), (4, VB false), (5, VL B_ n_ c_), (32, VL B_ n_ c_), (33, I3 n)], []⟩ ?_
   subst hln_
   refine X.tellR [30] (R' := [(30, RR 82 12 B_ l_.length c_ (l_.flatMap sgV))]) rfl ?_
   refine X.capLe (i := 30) (q := (RR 82 12 B_ l_.length c_ (l_.flatMap sgV))) (n := l_.length) (c := c_) (A := B_) rfl rfl ?_
   intro hle11 hmx11
   refine X.freezeT (d := sgD) (i := 30) (n := l_.length) (c := c_) (A := B_) (l_) rfl (by decide) (fun _ hl_ => sgD_reps) (by kernel_rfl) (fun _ h => h) ?_
   intro G11 hG11 hr11
   replace hr := hr.mono hG11.le
   refine Cg 71 [.slice B_ l_.length c_, N3 n] 0 (Gather_ok B_ c_ l_ n _ hr11 hle11 hmx11 (by omega) hok_ hn) ?_
   rintro v13 G13 rows13 hG13 ⟨d12_, n12_, hgd12_, rfl, rfl⟩
   replace hr := hr.mono hG13.le
   replace hr11 := hr11.mono hG13.le
   refine Rn 13 (Qo B20 62 2) [Qs B20 63] ⟨61, [(4, VB false), (7, VT d12_), (8, I3 n12_), (9, I6 ((gapsG l_ n12_ : Nat) : Int)), (39, VL B_ l_.length c_), (40, I3 n)], []⟩ ?_
   refine Cg 72 [.slice B_ l_.length c_, N3 n] 0 (RGather_ok B_ c_ l_ n _ hr11 hle11 hmx11 (by omega) hok_ hn) ?_
   rintro v15 G15 rows15 hG15 ⟨d14_, n14_, hgd14_, rfl, rfl⟩
   replace hr := hr.mono hG15.le
   replace hr11 := hr11.mono hG15.le
   obtain ⟨he1_, he2_⟩ := hgd12_.det hgd14_
   rw [← he1_, ← he2_]
   refine Rn 15 (Qo B20 126 4) [Qs B20 127] ⟨61, [(4, VB false), (8, I3 n12_), (9, I6 ((gapsG l_ n12_ : Nat) : Int)), (11, I3 n12_), (12, I6 ((gapsG l_ n12_ : Nat) : Int)), (48, VB (d12_.toList == d12_.toList))], []⟩ ?_
   refine X.isTrue 48 rfl (by simp) ?_
   refine Rn 5 (Qo B20 126 9) [Qs B20 127] ⟨61, [(4, VB false), (9, I6 ((gapsG l_ n12_ : Nat) : Int)), (12, I6 ((gapsG l_ n12_ : Nat) : Int)), (53, VB (n12_ == n12_))], []⟩ ?_
   refine X.isTrue 53 rfl (by simp) ?_
   refine Rn 5 (Qo B20 126 14) [Qs B20 127] ⟨61, [(4, VB false), (58, VB (((gapsG l_ n12_ : Nat) : Int) == ((gapsG l_ n12_ : Nat) : Int)))], []⟩ ?_
   refine X.isTrue 58 rfl (by simp) ?_
   refine Cg 64 [] 0 (works13_ok _) ?_
   rintro v16 G16 rows16 hG16 ⟨rfl, rfl⟩
   replace hr := hr.mono hG16.le
   replace hr11 := hr11.mono hG16.le
   refine Rn 5 (.ex .ret) [] ⟨61, [(4, VB true)], []⟩ ?_
   refine Dg (.inl rfl) [.bool true] [] rfl (((((hG1.trans hG11).trans hG13).trans hG15).trans hG16)) ?_
   exact ⟨rfl, rfl⟩
 ·
  replace h2 : ¬ ((i_ : Int) < ((xs.length : Nat) : Int)) := of_decide_eq_false h2
  refine Rn 15 (Qo B20 30 2) [Qs B20 31] ⟨61, [(1, I3 n), (4, VB false), (5, VL B_ n_ c_), (32, VL B_ n_ c_), (33, I3 n)], []⟩ ?_
  subst hln_
  refine X.tellR [30] (R' := [(30, RR 82 12 B_ l_.length c_ (l_.flatMap sgV))]) rfl ?_
  refine X.capLe (i := 30) (q := (RR 82 12 B_ l_.length c_ (l_.flatMap sgV))) (n := l_.length) (c := c_) (A := B_) rfl rfl ?_
  intro hle17 hmx17
  refine X.freezeT (d := sgD) (i := 30) (n := l_.length) (c := c_) (A := B_) (l_) rfl (by decide) (fun _ hl_ => sgD_reps) (by kernel_rfl) (fun _ h => h) ?_
  intro G17 hG17 hr17
  replace hr := hr.mono hG17.le
  refine Cg 71 [.slice B_ l_.length c_, N3 n] 0 (Gather_ok B_ c_ l_ n _ hr17 hle17 hmx17 (by omega) hok_ hn) ?_
  rintro v19 G19 rows19 hG19 ⟨d18_, n18_, hgd18_, rfl, rfl⟩
  replace hr := hr.mono hG19.le
  replace hr17 := hr17.mono hG19.le
  refine Rn 13 (Qo B20 62 2) [Qs B20 63] ⟨61, [(4, VB false), (7, VT d18_), (8, I3 n18_), (9, I6 ((gapsG l_ n18_ : Nat) : Int)), (39, VL B_ l_.length c_), (40, I3 n)], []⟩ ?_
  refine Cg 72 [.slice B_ l_.length c_, N3 n] 0 (RGather_ok B_ c_ l_ n _ hr17 hle17 hmx17 (by omega) hok_ hn) ?_
  rintro v21 G21 rows21 hG21 ⟨d20_, n20_, hgd20_, rfl, rfl⟩
  replace hr := hr.mono hG21.le
  replace hr17 := hr17.mono hG21.le
  obtain ⟨he1_, he2_⟩ := hgd18_.det hgd20_
  rw [← he1_, ← he2_]
  refine Rn 15 (Qo B20 126 4) [Qs B20 127] ⟨61, [(4, VB false), (8, I3 n18_), (9, I6 ((gapsG l_ n18_ : Nat) : Int)), (11, I3 n18_), (12, I6 ((gapsG l_ n18_ : Nat) : Int)), (48, VB (d18_.toList == d18_.toList))], []⟩ ?_
  refine X.isTrue 48 rfl (by simp) ?_
  refine Rn 5 (Qo B20 126 9) [Qs B20 127] ⟨61, [(4, VB false), (9, I6 ((gapsG l_ n18_ : Nat) : Int)), (12, I6 ((gapsG l_ n18_ : Nat) : Int)), (53, VB (n18_ == n18_))], []⟩ ?_
  refine X.isTrue 53 rfl (by simp) ?_
  refine Rn 5 (Qo B20 126 14) [Qs B20 127] ⟨61, [(4, VB false), (58, VB (((gapsG l_ n18_ : Nat) : Int) == ((gapsG l_ n18_ : Nat) : Int)))], []⟩ ?_
  refine X.isTrue 58 rfl (by simp) ?_
  refine Cg 64 [] 0 (works13_ok _) ?_
  rintro v22 G22 rows22 hG22 ⟨rfl, rfl⟩
  replace hr := hr.mono hG22.le
  replace hr17 := hr17.mono hG22.le
  refine Rn 5 (.ex .ret) [] ⟨61, [(4, VB true)], []⟩ ?_
  refine Dg (.inl rfl) [.bool true] [] rfl (((((hG1.trans hG17).trans hG19).trans hG21).trans hG22)) ?_
  exact ⟨rfl, rfl⟩
end Go.Proofs.YtjgpdbkkpomhjaaX
