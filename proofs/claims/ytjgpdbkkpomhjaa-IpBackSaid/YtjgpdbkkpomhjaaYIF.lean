/- sum.Fill. Conditions: none. -/
import Derived.Test.YtjgpdbkkpomhjaaProg
import Derived.KernelRfl
import Derived.Test.YtjgpdbkkpomhjaaYI1
namespace Go.Proofs.YtjgpdbkkpomhjaaX
open Go.RowKit
open Go.Proofs.YtjgpdbkkpomhjaaW.PrintLast
set_option linter.unusedVariables false
set_option linter.unusedSimpArgs false
set_option maxRecDepth 100000
/-- slices.Clone[[]byte,byte] -/
noncomputable def B102 : Code := bodyOf Try.f102
set_option maxHeartbeats 1000000 in
theorem Clone_ok (A : Option Addr) (c : Nat) (b : List Int) (G : Mem) (hb : rowAt (D.int .u8) G A b) (hle : b.length ≤ c) (hsz : b.length ≤ 140737488355328) : CallsG Try.prog 102 [.slice A b.length c] G (fun _ v rows => ∃ A' c', v = .slice A' b.length c' ∧ b.length ≤ c' ∧ rows = [⟨5, 1, .slice A' b.length c', b.length, b.map (Value.int .u8)⟩]) := by
 refine CallsG.enter Try.func102 rfl rfl ?_
 intro w
 refine Rn 9 (Qo B102 12 1) [Qs B102 13, Qs B102 7] ⟨8, [(0, VL A b.length c), (2, VL none 0 0), (3, VL A b.length c)], []⟩ ?_
 refine X.eqNil (t := 22) (t' := 22) (e := 5) (n := b.length) (c := c) (A := A) (x := .tmp 3) (y := .const (.slice none 0 0)) (by kernel_rfl) (by kernel_rfl) (by kernel_rfl) (by kernel_rfl) (by kernel_rfl) (by kernel_rfl) ?_
 refine Rn 2 (Qc B102 13) [Qs B102 7] ⟨8, [(0, VL A b.length c), (2, VL none 0 0), (4, VB A.isNone)], []⟩ ?_
 refine X.split 4 rfl (fun h1 => ?_) (fun h1 => ?_)
 ·
  refine Rn 8 (.ex .ret) [] ⟨8, [(2, VL none 0 0)], []⟩ ?_
  refine X.nilRow 99 5 1 rfl ?_
  refine Dg (.inl rfl) [.slice none 0 0] [99] rfl (Ge.refl _ _) ?_
  obtain rfl : b = [] := List.eq_nil_of_length_eq_zero (rowAt.none hb (by simpa using h1))
  exact ⟨none, 0, rfl, by simp, rfl⟩
 ·
  refine Rn 5 (Qo B102 14 0) [Qs B102 15] ⟨8, [(0, VL A b.length c), (2, VL none 0 0)], []⟩ ?_
  refine Lt 5 5 1 0 [] ?_
  intro A2
  refine Rn 1 (Qo B102 14 2) [Qs B102 15] ⟨8, [(2, VL none 0 0), (5, VL A2 0 0), (6, VL A b.length c)], []⟩ ?_
  refine Aw 5 (RR 5 1 A2 0 0 []) 22 1 (N8 0) (.tmp 5) (.tmp 6) 0 0 b.length c A2 A (b.map (Value.int .u8)) (.inl rfl) (by simp) (at_ints [(5, RR 5 1 A2 0 0 [])] hb) (fun _ _ e => rowAt.none hb e) ones_ints (by omega) ?_
  intro A3 c3 hc3
  refine X.tellR [5] (R' := [(5, RR 5 1 A3 (0 + b.length) c3 ([] ++ (b.map (Value.int .u8))))]) rfl ?_
  refine Rn 4 (.ex .ret) [] ⟨8, [(2, VL A3 (0 + b.length) c3)], []⟩ ?_
  refine Dg (.inl rfl) [.slice A3 (0 + b.length) c3] [5] rfl (Ge.refl _ _) ?_
  exact ⟨_, _, by rw [Nat.zero_add]; rfl, by omega, by simp⟩
theorem band_one {x : Int} (h0 : 0 ≤ x) (h1 : x ≤ 9223372036854775807) : band .i64 x 1 = x % 2 := by
 obtain ⟨n, rfl⟩ := Int.eq_ofNat_of_zero_le h0
 unfold band
 have e : (BitVec.ofInt 64 (n : Int) &&& BitVec.ofInt 64 1).toNat = n % 2 := by
  rw [BitVec.toNat_and, ofInt_nat (by omega), show (BitVec.ofInt 64 1).toNat = 1 from rfl, Nat.and_one_is_mod]
 show IntKind.i64.wrap ((BitVec.ofInt 64 (n : Int) &&& BitVec.ofInt 64 1).toNat : Int) = _
 rw [e]
 rw [wi64 (by omega) (by omega)]
 omega
def filled (b : List Int) (at_ : Int) : List Int := ((((b.set at_.toNat 0).set (at_ + 1).toNat 0).set at_.toNat (IntKind.u8.wrap (bshr .u16 (cks ((b.set at_.toNat 0).set (at_ + 1).toNat 0)) 8))).set (at_ + 1).toNat (IntKind.u8.wrap (cks ((b.set at_.toNat 0).set (at_ + 1).toNat 0))))
theorem bytes_set {l : List Int} (h : isBytes l) {i : Nat} {x : Int} (hx : 0 ≤ x ∧ x ≤ 255) : isBytes (l.set i x) := fun y hy => by
 rcases List.mem_or_eq_of_mem_set hy with h1 | rfl
 · exact h y h1
 · exact hx
/-- leat/sum.Fill -/
noncomputable def B40 : Code := bodyOf Try.f40
set_option maxHeartbeats 1000000 in
theorem Fill_ok (A : Option Addr) (c : Nat) (b : List Int) (at_ : Int) (G : Mem) (hb : rowAt (D.int .u8) G A b) (hle : b.length ≤ c) (hsz : b.length ≤ 300) (h0 : -9223372036854775808 ≤ at_ ∧ at_ ≤ 9223372036854775807) : CallsG Try.prog 40 [.slice A b.length c, .int .i64 at_] G (fun _ v rows => (¬ (0 ≤ at_ ∧ at_ % 2 = 0 ∧ at_ + 2 ≤ (b.length : Int)) → v = .tuple #[.slice none 0 0, .bool false] ∧ rows = []) ∧ ((0 ≤ at_ ∧ at_ % 2 = 0 ∧ at_ + 2 ≤ (b.length : Int)) → ∃ A' c', v = .tuple #[.slice A' b.length c', .bool true] ∧ b.length ≤ c' ∧ rows = [⟨5, 1, .slice A' b.length c', b.length, (filled b at_).map (Value.int .u8)⟩])) := by
 refine CallsG.enter Try.func40 rfl rfl ?_
 intro w
 refine Rn 12 (Qo B40 12 3) [Qs B40 13, Qs B40 7] ⟨47, [(0, VL A b.length c), (1, I6 at_), (4, VL none 0 0), (5, VB false), (10, VB (decide (at_ < 0)))], []⟩ ?_
 refine X.split 10 rfl (fun h1 => ?_) (fun h1 => ?_)
 ·
  replace h1 : at_ < 0 := of_decide_eq_true h1
  refine Rn 22 (.ex .ret) [] ⟨47, [(4, VL none 0 0), (5, VB false)], []⟩ ?_
  refine Dg (.inl rfl) [.slice none 0 0, .bool false] [] rfl (Ge.refl _ _) ?_
  exact ⟨fun _ => ⟨rfl, rfl⟩, fun h => by exfalso; have := band_one h.1 h0.2; omega⟩
 ·
  replace h1 : ¬ (at_ < 0) := of_decide_eq_false h1
  refine Rn 5 (Qo B40 12 8) [Qs B40 13, Qs B40 7] ⟨47, [(0, VL A b.length c), (1, I6 at_), (4, VL none 0 0), (5, VB false), (15, VB ((band .i64 at_ 1) == 1))], []⟩ ?_
  refine X.split 15 rfl (fun h2 => ?_) (fun h2 => ?_)
  ·
   replace h2 : (band .i64 at_ 1) = 1 := by simpa using h2
   refine Rn 17 (.ex .ret) [] ⟨47, [(4, VL none 0 0), (5, VB false)], []⟩ ?_
   refine Dg (.inl rfl) [.slice none 0 0, .bool false] [] rfl (Ge.refl _ _) ?_
   exact ⟨fun _ => ⟨rfl, rfl⟩, fun h => by exfalso; have := band_one h.1 h0.2; omega⟩
  ·
   replace h2 : (band .i64 at_ 1) ≠ 1 := by simpa using h2
   refine Rn 4 (Qo B40 12 12) [Qs B40 13, Qs B40 7] ⟨47, [(0, VL A b.length c), (1, I6 at_), (4, VL none 0 0), (5, VB false), (15, VB false), (16, I6 at_), (19, I6 (IntKind.i64.wrap ((b.length : Int) - 2)))], []⟩ ?_
   refine Kn 19 .i64 ((b.length : Int) - 2) rfl (wi64 (by omega) (by omega)) ?_
   refine Rn 4 (Qc B40 13) [Qs B40 7] ⟨47, [(0, VL A b.length c), (1, I6 at_), (4, VL none 0 0), (5, VB false), (21, VB (decide (at_ > (b.length : Int) - 2)))], []⟩ ?_
   refine X.split 21 rfl (fun h3 => ?_) (fun h3 => ?_)
   ·
    replace h3 : at_ > ((b.length : Nat) : Int) - 2 := of_decide_eq_true h3
    refine Rn 9 (.ex .ret) [] ⟨47, [(4, VL none 0 0), (5, VB false)], []⟩ ?_
    refine Dg (.inl rfl) [.slice none 0 0, .bool false] [] rfl (Ge.refl _ _) ?_
    exact ⟨fun _ => ⟨rfl, rfl⟩, fun h => by exfalso; have := band_one h.1 h0.2; omega⟩
   ·
    replace h3 : ¬ (at_ > ((b.length : Nat) : Int) - 2) := of_decide_eq_false h3
    refine Rn 6 (Qo B40 14 1) [Qs B40 15] ⟨47, [(1, I6 at_), (4, VL none 0 0), (5, VB false), (22, VL A b.length c)], []⟩ ?_
    refine Cg 102 [.slice A b.length c] 423 (Clone_ok _ _ b _ hb hle (by omega)) ?_
    rintro v4 G4 rows4 hG4 ⟨A4, c4, rfl, hc4, rfl⟩
    replace hb := hb.mono hG4.le
    refine X.tellR [423] (R' := [(423, RR 5 1 A4 b.length c4 (b.map (Value.int .u8)))]) rfl ?_
    refine Rn 10 (Qo B40 30 5) [Qs B40 31] ⟨47, [(1, I6 at_), (4, VL none 0 0), (5, VB false), (6, VL A4 b.length c4), (24, VL A4 b.length c4), (25, I6 at_), (26, VL A4 b.length c4), (28, I6 (IntKind.i64.wrap (at_ + 1)))], []⟩ ?_
    refine Kn 28 .i64 (at_ + 1) rfl (wi64 (by omega) (by omega)) ?_
    have b5 : (0 : Int) ≤ at_ := by omega
    have b6 : at_ < ((b.length : Nat) : Int) := by omega
    refine Ix 22 5 1 A4 b.length c4 .i64 at_ (.tmp 24) (.tmp 25) b5 b6 (rowSome (i := 423) (q := (RR 5 1 A4 b.length c4 (b.map (Value.int .u8)))) rfl rfl (by simp; omega)) ?_
    refine Rn 0 (Qo B40 30 6) [Qs B40 31] ⟨47, [(1, I6 at_), (4, VL none 0 0), (5, VB false), (6, VL A4 b.length c4), (26, VL A4 b.length c4), (28, I6 (at_ + 1)), (29, .v (elt A4 ((at_).toNat * 1)))], []⟩ ?_
    refine X.storeElem (i := 423) (t := 5) (j := (at_).toNat * 1) (n := b.length) (c := c4) (q := (RR 5 1 A4 b.length c4 (b.map (Value.int .u8)))) (A := A4) (x := .tmp 29) (y := .const (N8 0)) (z := N8 0) (by kernel_rfl) (by kernel_rfl) (by kernel_rfl) rfl rfl (by kernel_rfl) (by show _ + 1 ≤ _; simp; omega) (by kernel_rfl) (Nat.succ_pos _) (by kernel_rfl) ?_
    refine X.tellR [423] (R' := [(423, RR 5 1 A4 b.length c4 ((b.set at_.toNat 0).map (Value.int .u8)))]) (congrArg (fun cs_ => (423, (RR 5 1 A4 b.length c4 cs_ : Row)) :: []) (splice_ints1 (kd := .u8) (l := b) (j := at_.toNat) (x := 0) (by (try simp only [List.length_set]); omega))) ?_
    refine Rn 0 (Qo B40 30 7) [Qs B40 31] ⟨47, [(1, I6 at_), (4, VL none 0 0), (5, VB false), (6, VL A4 b.length c4), (26, VL A4 b.length c4), (28, I6 (at_ + 1))], []⟩ ?_
    have b7 : (0 : Int) ≤ at_ + 1 := by omega
    have b8 : at_ + 1 < ((b.length : Nat) : Int) := by omega
    refine Ix 22 5 1 A4 b.length c4 .i64 (at_ + 1) (.tmp 26) (.tmp 28) b7 b8 (rowSome (i := 423) (q := (RR 5 1 A4 b.length c4 ((b.set at_.toNat 0).map (Value.int .u8)))) rfl rfl (by simp; omega)) ?_
    refine Rn 0 (Qo B40 30 8) [Qs B40 31] ⟨47, [(1, I6 at_), (4, VL none 0 0), (5, VB false), (6, VL A4 b.length c4), (30, .v (elt A4 ((at_ + 1).toNat * 1)))], []⟩ ?_
    refine X.storeElem (i := 423) (t := 5) (j := (at_ + 1).toNat * 1) (n := b.length) (c := c4) (q := (RR 5 1 A4 b.length c4 ((b.set at_.toNat 0).map (Value.int .u8)))) (A := A4) (x := .tmp 30) (y := .const (N8 0)) (z := N8 0) (by kernel_rfl) (by kernel_rfl) (by kernel_rfl) rfl rfl (by kernel_rfl) (by show _ + 1 ≤ _; simp; omega) (by kernel_rfl) (Nat.succ_pos _) (by kernel_rfl) ?_
    refine X.tellR [423] (R' := [(423, RR 5 1 A4 b.length c4 (((b.set at_.toNat 0).set ((at_ + 1).toNat) 0).map (Value.int .u8)))]) (congrArg (fun cs_ => (423, (RR 5 1 A4 b.length c4 cs_ : Row)) :: []) (splice_ints1 (kd := .u8) (l := (b.set at_.toNat 0)) (j := ((at_ + 1).toNat)) (x := 0) (by (try simp only [List.length_set]); omega))) ?_
    refine Rn 5 (Qo B40 62 1) [Qs B40 63] ⟨47, [(1, I6 at_), (4, VL none 0 0), (5, VB false), (6, VL A4 b.length c4), (31, VL A4 b.length c4)], []⟩ ?_
    refine Lt 32 22 1 1 [.slice A4 b.length c4] ?_
    intro A9
    refine Rn 0 (Qo B40 62 2) [Qs B40 63] ⟨47, [(1, I6 at_), (4, VL none 0 0), (5, VB false), (6, VL A4 b.length c4), (32, VL A9 1 1)], []⟩ ?_
    refine X.capLe (i := 423) (q := (RR 5 1 A4 b.length c4 (((b.set at_.toNat 0).set ((at_ + 1).toNat) 0).map (Value.int .u8)))) (n := b.length) (c := c4) (A := A4) rfl rfl fun hn10 hx10 => ?_
    have hl10 : ((b.set ((at_).toNat) 0).set ((at_ + 1).toNat) 0).length = b.length := by simp
    have hb10 : isBytes ((b.set ((at_).toNat) 0).set ((at_ + 1).toNat) 0) := bytes_set (bytes_set (row_bytes hb) (by omega)) (by omega)
    refine X.callV (f := 28) (l := [VL A9 1 1]) (Q := fun v_ => v_ = N1 (cks ((b.set at_.toNat 0).set ((at_ + 1).toNat) 0))) [.slice A9 1 1] (by kernel_rfl) (by kernel_rfl) (by kernel_rfl) (fun G1_ hl_ hr_ => (Sum_ok _ _ [(b.set at_.toNat 0).set ((at_ + 1).toNat) 0] G1_ (rowLit (hr_ 32 _ rfl) ⟨_, _, rfl, (show (D.slice (D.int .u8)).rep G1_ ((b.set at_.toNat 0).set ((at_ + 1).toNat) 0) [.slice A4 b.length c4] by rw [← hl10]; exact rep_slice (by omega) hx10 (rowLit (hr_ 423 _ rfl) (reps_ints hb10) (by decide))), rfl⟩ (by decide)) (by simp) (by rw [List.flatten_cons, List.flatten_nil, List.append_nil]; have := wsum_le hb10 300 (by omega); omega)).mono (fun _ _ _ _ h_ => by rw [h_.1, List.flatten_cons, List.flatten_nil, List.append_nil])) ?_
    rintro _ rfl
    refine Rn 10 (Qo B40 126 5) [Qs B40 127] ⟨47, [(4, VL none 0 0), (5, VB false), (6, VL A4 b.length c4), (7, I1 (cks ((b.set at_.toNat 0).set ((at_ + 1).toNat) 0))), (34, VL A4 b.length c4), (35, I6 at_), (36, VL A4 b.length c4), (38, I6 (IntKind.i64.wrap (at_ + 1)))], []⟩ ?_
    refine Kn 38 .i64 (at_ + 1) rfl (wi64 (by omega) (by omega)) ?_
    refine Rn 5 (Qo B40 126 10) [Qs B40 127] ⟨47, [(4, VL none 0 0), (5, VB false), (6, VL A4 b.length c4), (34, VL A4 b.length c4), (35, I6 at_), (36, VL A4 b.length c4), (38, I6 (at_ + 1)), (41, I8 (IntKind.u8.wrap (bshr .u16 (cks ((b.set at_.toNat 0).set ((at_ + 1).toNat) 0)) 8))), (43, I8 (IntKind.u8.wrap (cks ((b.set at_.toNat 0).set ((at_ + 1).toNat) 0))))], []⟩ ?_
    have b11 : (0 : Int) ≤ at_ := by omega
    have b12 : at_ < ((b.length : Nat) : Int) := by omega
    refine Ix 22 5 1 A4 b.length c4 .i64 at_ (.tmp 34) (.tmp 35) b11 b12 (rowSome (i := 423) (q := (RR 5 1 A4 b.length c4 (((b.set at_.toNat 0).set ((at_ + 1).toNat) 0).map (Value.int .u8)))) rfl rfl (by simp; omega)) ?_
    refine Rn 0 (Qo B40 126 11) [Qs B40 127] ⟨47, [(4, VL none 0 0), (5, VB false), (6, VL A4 b.length c4), (36, VL A4 b.length c4), (38, I6 (at_ + 1)), (41, I8 (IntKind.u8.wrap (bshr .u16 (cks ((b.set at_.toNat 0).set ((at_ + 1).toNat) 0)) 8))), (43, I8 (IntKind.u8.wrap (cks ((b.set at_.toNat 0).set ((at_ + 1).toNat) 0)))), (44, .v (elt A4 ((at_).toNat * 1)))], []⟩ ?_
    refine X.storeElem (i := 423) (t := 5) (j := (at_).toNat * 1) (n := b.length) (c := c4) (q := (RR 5 1 A4 b.length c4 (((b.set at_.toNat 0).set ((at_ + 1).toNat) 0).map (Value.int .u8)))) (A := A4) (x := .tmp 44) (y := .tmp 41) (z := N8 (IntKind.u8.wrap (bshr .u16 (cks ((b.set at_.toNat 0).set ((at_ + 1).toNat) 0)) 8))) (by kernel_rfl) (by kernel_rfl) (by kernel_rfl) rfl rfl (by kernel_rfl) (by show _ + 1 ≤ _; simp; omega) (by kernel_rfl) (Nat.succ_pos _) (by kernel_rfl) ?_
    refine X.tellR [423, 32] (R' := [(423, RR 5 1 A4 b.length c4 ((((b.set at_.toNat 0).set ((at_ + 1).toNat) 0).set at_.toNat (IntKind.u8.wrap (bshr .u16 (cks ((b.set at_.toNat 0).set ((at_ + 1).toNat) 0)) 8))).map (Value.int .u8))), (32, RR 22 1 A9 1 1 [.slice A4 b.length c4])]) (congrArg (fun cs_ => (423, (RR 5 1 A4 b.length c4 cs_ : Row)) :: [(32, RR 22 1 A9 1 1 [.slice A4 b.length c4])]) (splice_ints1 (kd := .u8) (l := ((b.set at_.toNat 0).set ((at_ + 1).toNat) 0)) (j := at_.toNat) (x := (IntKind.u8.wrap (bshr .u16 (cks ((b.set at_.toNat 0).set ((at_ + 1).toNat) 0)) 8))) (by (try simp only [List.length_set]); omega))) ?_
    refine Rn 0 (Qo B40 126 12) [Qs B40 127] ⟨47, [(4, VL none 0 0), (5, VB false), (6, VL A4 b.length c4), (36, VL A4 b.length c4), (38, I6 (at_ + 1)), (43, I8 (IntKind.u8.wrap (cks ((b.set at_.toNat 0).set ((at_ + 1).toNat) 0))))], []⟩ ?_
    have b13 : (0 : Int) ≤ at_ + 1 := by omega
    have b14 : at_ + 1 < ((b.length : Nat) : Int) := by omega
    refine Ix 22 5 1 A4 b.length c4 .i64 (at_ + 1) (.tmp 36) (.tmp 38) b13 b14 (rowSome (i := 423) (q := (RR 5 1 A4 b.length c4 ((((b.set at_.toNat 0).set ((at_ + 1).toNat) 0).set at_.toNat (IntKind.u8.wrap (bshr .u16 (cks ((b.set at_.toNat 0).set ((at_ + 1).toNat) 0)) 8))).map (Value.int .u8)))) rfl rfl (by simp; omega)) ?_
    refine Rn 0 (Qo B40 126 13) [Qs B40 127] ⟨47, [(4, VL none 0 0), (5, VB false), (6, VL A4 b.length c4), (43, I8 (IntKind.u8.wrap (cks ((b.set at_.toNat 0).set ((at_ + 1).toNat) 0)))), (45, .v (elt A4 ((at_ + 1).toNat * 1)))], []⟩ ?_
    refine X.storeElem (i := 423) (t := 5) (j := (at_ + 1).toNat * 1) (n := b.length) (c := c4) (q := (RR 5 1 A4 b.length c4 ((((b.set at_.toNat 0).set ((at_ + 1).toNat) 0).set at_.toNat (IntKind.u8.wrap (bshr .u16 (cks ((b.set at_.toNat 0).set ((at_ + 1).toNat) 0)) 8))).map (Value.int .u8)))) (A := A4) (x := .tmp 45) (y := .tmp 43) (z := N8 (IntKind.u8.wrap (cks ((b.set at_.toNat 0).set ((at_ + 1).toNat) 0)))) (by kernel_rfl) (by kernel_rfl) (by kernel_rfl) rfl rfl (by kernel_rfl) (by show _ + 1 ≤ _; simp; omega) (by kernel_rfl) (Nat.succ_pos _) (by kernel_rfl) ?_
    refine X.tellR [423, 32] (R' := [(423, RR 5 1 A4 b.length c4 (((((b.set at_.toNat 0).set ((at_ + 1).toNat) 0).set at_.toNat (IntKind.u8.wrap (bshr .u16 (cks ((b.set at_.toNat 0).set ((at_ + 1).toNat) 0)) 8))).set ((at_ + 1).toNat) (IntKind.u8.wrap (cks ((b.set at_.toNat 0).set ((at_ + 1).toNat) 0)))).map (Value.int .u8))), (32, RR 22 1 A9 1 1 [.slice A4 b.length c4])]) (congrArg (fun cs_ => (423, (RR 5 1 A4 b.length c4 cs_ : Row)) :: [(32, RR 22 1 A9 1 1 [.slice A4 b.length c4])]) (splice_ints1 (kd := .u8) (l := (((b.set at_.toNat 0).set ((at_ + 1).toNat) 0).set at_.toNat (IntKind.u8.wrap (bshr .u16 (cks ((b.set at_.toNat 0).set ((at_ + 1).toNat) 0)) 8)))) (j := ((at_ + 1).toNat)) (x := (IntKind.u8.wrap (cks ((b.set at_.toNat 0).set ((at_ + 1).toNat) 0)))) (by (try simp only [List.length_set]); omega))) ?_
    refine Rn 10 (.ex .ret) [] ⟨47, [(4, VL A4 b.length c4), (5, VB true)], []⟩ ?_
    have hbo := band_one (x := at_) (by omega) h0.2
    refine Dg (.inl rfl) [.slice A4 b.length c4, .bool true] [423] rfl (hG4) ?_
    exact ⟨fun h => by exfalso; apply h; omega, fun _ => ⟨_, _, rfl, by omega, rfl⟩⟩
end Go.Proofs.YtjgpdbkkpomhjaaX
