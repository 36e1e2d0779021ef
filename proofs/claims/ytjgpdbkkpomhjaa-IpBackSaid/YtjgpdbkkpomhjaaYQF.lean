/- leatlaw46.works. Walked; printed by a small program of this session. Conditions: none. -/
import Derived.Test.YtjgpdbkkpomhjaaProg
import Derived.KernelRfl
import Derived.Test.YtjgpdbkkpomhjaaYJC
import Derived.Test.YtjgpdbkkpomhjaaYQE
import Derived.Test.YtjgpdbkkpomhjaaYJM
namespace Go.Proofs.YtjgpdbkkpomhjaaX
open Go.RowKit
open Go.Proofs.YtjgpdbkkpomhjaaW.PrintLast
set_option linter.unusedVariables false
set_option linter.unusedSimpArgs false
set_option maxRecDepth 100000
theorem joinI_bytes {ps : List (List Int)} (h : ∀ b ∈ ps, isBytes b) : isBytes (joinI ps).1 := by
 have hn : isBytes [] := fun x h => absurd h List.not_mem_nil
 have hok := (readI_ok ps [] h (fun x h => absurd h List.not_mem_nil)).1
 unfold joinI
 split
 · exact hn
 ·
  split
  · exact hn
  ·
   split
   · exact hn
   ·
    split
    · exact hn
    ·
     rename_i h1 h2 h3 h4
     refine encI_bytes ?_ _
     have h0 : okP ((sortI plI (readI [] ps).1).getD 0 pk0) := hok _ ((sortI_perm _).mem_iff.mp (getD_mem (by rw [sortI_len]; omega)))
     have hx := h0.1.h4
     exact tosI_ok (frI_ok h0.1 (by omega)) (putT_range h0.1.h0 (codeJ_range h0.1.h0.1))
theorem hopI_bytes {b : List Int} (hb : isBytes b) : isBytes (hopI b).1 := by
 have hd := (decI_ok hb).1
 unfold hopI
 split
 · exact fun x h => absurd h List.not_mem_nil
 ·
  split
  · exact fun x h => absurd h List.not_mem_nil
  ·
   rename_i h1 h2
   exact encI_bytes (ttlI_ok hd (by omega)) _
theorem markI_bytes {b : List Int} (hb : isBytes b) : isBytes (markI b).1 := by
 have hd := (decI_ok hb).1
 unfold markI
 split
 · exact fun x h => absurd h List.not_mem_nil
 ·
  split
  · exact fun x h => absurd h List.not_mem_nil
  · exact encI_bytes (tosI_ok hd (putT_range hd.h0 (by decide))) _
/-- leat/leatlaw46.works -/
noncomputable def B82 : Code := bodyOf Try.f82
set_option maxHeartbeats 1000000 in
theorem works46_ok (G : Mem) : CallsG Try.prog 82 [] G (fun _ v rows => v = .bool true ∧ rows = []) := by
 have hx3_ := ex_three
 refine CallsG.enter Try.func82 rfl rfl ?_
 intro w
 refine Rn 8 (Qo B82 6 1) [Qs B82 7] ⟨60, [(0, VB false), (8, .v (.agg #[N8 0, N8 9, N8 0, N1 0, N1 0, N8 0, N8 0, N8 0, N8 0, N8 0, N8 0, N8 0, N8 0]))], []⟩ ?_
 refine Lt 9 5 1 100 [N8 0, N8 0, N8 0, N8 0, N8 0, N8 0, N8 0, N8 0, N8 0, N8 0, N8 0, N8 0, N8 0, N8 0, N8 0, N8 0, N8 0, N8 0, N8 0, N8 0, N8 0, N8 0, N8 0, N8 0, N8 0, N8 0, N8 0, N8 0, N8 0, N8 0, N8 0, N8 0, N8 0, N8 0, N8 0, N8 0, N8 0, N8 0, N8 0, N8 0, N8 0, N8 0, N8 0, N8 0, N8 0, N8 0, N8 0, N8 0, N8 0, N8 0, N8 0, N8 0, N8 0, N8 0, N8 0, N8 0, N8 0, N8 0, N8 0, N8 0, N8 0, N8 0, N8 0, N8 0, N8 0, N8 0, N8 0, N8 0, N8 0, N8 0, N8 0, N8 0, N8 0, N8 0, N8 0, N8 0, N8 0, N8 0, N8 0, N8 0, N8 0, N8 0, N8 0, N8 0, N8 0, N8 0, N8 0, N8 0, N8 0, N8 0, N8 0, N8 0, N8 0, N8 0, N8 0, N8 0, N8 0, N8 0, N8 0, N8 0] ?_
 intro A1
 refine X.toStrW (src := 22) (dst := 9) (e := 5) (n := 100) (c := 100) (A := A1) (x := .tmp 9) [0, 0, 0, 0, 0, 0, 0, 0, 0, 0, 0, 0, 0, 0, 0, 0, 0, 0, 0, 0, 0, 0, 0, 0, 0, 0, 0, 0, 0, 0, 0, 0, 0, 0, 0, 0, 0, 0, 0, 0, 0, 0, 0, 0, 0, 0, 0, 0, 0, 0, 0, 0, 0, 0, 0, 0, 0, 0, 0, 0, 0, 0, 0, 0, 0, 0, 0, 0, 0, 0, 0, 0, 0, 0, 0, 0, 0, 0, 0, 0, 0, 0, 0, 0, 0, 0, 0, 0, 0, 0, 0, 0, 0, 0, 0, 0, 0, 0, 0, 0] (by kernel_rfl) (by kernel_rfl) (by kernel_rfl) (by kernel_rfl) (by kernel_rfl) rfl (At.of_row (i := 9) (r := (RR 5 1 A1 100 100 [N8 0, N8 0, N8 0, N8 0, N8 0, N8 0, N8 0, N8 0, N8 0, N8 0, N8 0, N8 0, N8 0, N8 0, N8 0, N8 0, N8 0, N8 0, N8 0, N8 0, N8 0, N8 0, N8 0, N8 0, N8 0, N8 0, N8 0, N8 0, N8 0, N8 0, N8 0, N8 0, N8 0, N8 0, N8 0, N8 0, N8 0, N8 0, N8 0, N8 0, N8 0, N8 0, N8 0, N8 0, N8 0, N8 0, N8 0, N8 0, N8 0, N8 0, N8 0, N8 0, N8 0, N8 0, N8 0, N8 0, N8 0, N8 0, N8 0, N8 0, N8 0, N8 0, N8 0, N8 0, N8 0, N8 0, N8 0, N8 0, N8 0, N8 0, N8 0, N8 0, N8 0, N8 0, N8 0, N8 0, N8 0, N8 0, N8 0, N8 0, N8 0, N8 0, N8 0, N8 0, N8 0, N8 0, N8 0, N8 0, N8 0, N8 0, N8 0, N8 0, N8 0, N8 0, N8 0, N8 0, N8 0, N8 0, N8 0, N8 0])) rfl rfl) (fun w hw e => absurd (rowSome (i := 9) (q := (RR 5 1 A1 100 100 [N8 0, N8 0, N8 0, N8 0, N8 0, N8 0, N8 0, N8 0, N8 0, N8 0, N8 0, N8 0, N8 0, N8 0, N8 0, N8 0, N8 0, N8 0, N8 0, N8 0, N8 0, N8 0, N8 0, N8 0, N8 0, N8 0, N8 0, N8 0, N8 0, N8 0, N8 0, N8 0, N8 0, N8 0, N8 0, N8 0, N8 0, N8 0, N8 0, N8 0, N8 0, N8 0, N8 0, N8 0, N8 0, N8 0, N8 0, N8 0, N8 0, N8 0, N8 0, N8 0, N8 0, N8 0, N8 0, N8 0, N8 0, N8 0, N8 0, N8 0, N8 0, N8 0, N8 0, N8 0, N8 0, N8 0, N8 0, N8 0, N8 0, N8 0, N8 0, N8 0, N8 0, N8 0, N8 0, N8 0, N8 0, N8 0, N8 0, N8 0, N8 0, N8 0, N8 0, N8 0, N8 0, N8 0, N8 0, N8 0, N8 0, N8 0, N8 0, N8 0, N8 0, N8 0, N8 0, N8 0, N8 0, N8 0, N8 0, N8 0])) rfl rfl (Nat.succ_pos _) w hw) (by rw [e]; decide)) (by kernel_rfl) ?_
 refine X.known 10 (y := VT d100) rfl (congrArg (fun z_ => AV.v (Value.string z_)) (show strOf [0, 0, 0, 0, 0, 0, 0, 0, 0, 0, 0, 0, 0, 0, 0, 0, 0, 0, 0, 0, 0, 0, 0, 0, 0, 0, 0, 0, 0, 0, 0, 0, 0, 0, 0, 0, 0, 0, 0, 0, 0, 0, 0, 0, 0, 0, 0, 0, 0, 0, 0, 0, 0, 0, 0, 0, 0, 0, 0, 0, 0, 0, 0, 0, 0, 0, 0, 0, 0, 0, 0, 0, 0, 0, 0, 0, 0, 0, 0, 0, 0, 0, 0, 0, 0, 0, 0, 0, 0, 0, 0, 0, 0, 0, 0, 0, 0, 0, 0, 0] = d100 from rfl)) ?_
 refine Rn 0 (Qo B82 6 3) [Qs B82 7] ⟨60, [(0, VB false), (8, .v (.agg #[N8 0, N8 9, N8 0, N1 0, N1 0, N8 0, N8 0, N8 0, N8 0, N8 0, N8 0, N8 0, N8 0])), (10, VT d100)], []⟩ ?_
 refine Cg 78 [.agg #[N8 0, N8 9, N8 0, N1 0, N1 0, N8 0, N8 0, N8 0, N8 0, N8 0, N8 0, N8 0, N8 0], .string d100] 631 (EncI_ok h9 d100 _ h9_ok (by rw [d100_size]; decide)) ?_
 rintro v2 G2 rows2 hG2 ⟨A2, c2, rfl, rfl⟩
 refine X.asR (R' := [(631, RR 5 1 A2 ((encI h9 d100).1.length) c2 (((encI h9 d100).1).map (Value.int .u8))), (9, RR 5 1 A1 100 100 [N8 0, N8 0, N8 0, N8 0, N8 0, N8 0, N8 0, N8 0, N8 0, N8 0, N8 0, N8 0, N8 0, N8 0, N8 0, N8 0, N8 0, N8 0, N8 0, N8 0, N8 0, N8 0, N8 0, N8 0, N8 0, N8 0, N8 0, N8 0, N8 0, N8 0, N8 0, N8 0, N8 0, N8 0, N8 0, N8 0, N8 0, N8 0, N8 0, N8 0, N8 0, N8 0, N8 0, N8 0, N8 0, N8 0, N8 0, N8 0, N8 0, N8 0, N8 0, N8 0, N8 0, N8 0, N8 0, N8 0, N8 0, N8 0, N8 0, N8 0, N8 0, N8 0, N8 0, N8 0, N8 0, N8 0, N8 0, N8 0, N8 0, N8 0, N8 0, N8 0, N8 0, N8 0, N8 0, N8 0, N8 0, N8 0, N8 0, N8 0, N8 0, N8 0, N8 0, N8 0, N8 0, N8 0, N8 0, N8 0, N8 0, N8 0, N8 0, N8 0, N8 0, N8 0, N8 0, N8 0, N8 0, N8 0, N8 0, N8 0])]) rfl ?_
 refine X.tellR [631, 9] (R' := [(631, RR 5 1 A2 ((encI h9 d100).1.length) c2 (((encI h9 d100).1).map (Value.int .u8))), (9, RR 5 1 A1 100 100 [N8 0, N8 0, N8 0, N8 0, N8 0, N8 0, N8 0, N8 0, N8 0, N8 0, N8 0, N8 0, N8 0, N8 0, N8 0, N8 0, N8 0, N8 0, N8 0, N8 0, N8 0, N8 0, N8 0, N8 0, N8 0, N8 0, N8 0, N8 0, N8 0, N8 0, N8 0, N8 0, N8 0, N8 0, N8 0, N8 0, N8 0, N8 0, N8 0, N8 0, N8 0, N8 0, N8 0, N8 0, N8 0, N8 0, N8 0, N8 0, N8 0, N8 0, N8 0, N8 0, N8 0, N8 0, N8 0, N8 0, N8 0, N8 0, N8 0, N8 0, N8 0, N8 0, N8 0, N8 0, N8 0, N8 0, N8 0, N8 0, N8 0, N8 0, N8 0, N8 0, N8 0, N8 0, N8 0, N8 0, N8 0, N8 0, N8 0, N8 0, N8 0, N8 0, N8 0, N8 0, N8 0, N8 0, N8 0, N8 0, N8 0, N8 0, N8 0, N8 0, N8 0, N8 0, N8 0, N8 0, N8 0, N8 0, N8 0, N8 0])]) rfl ?_
 refine X.capLe (i := 631) (q := (RR 5 1 A2 ((encI h9 d100).1.length) c2 (((encI h9 d100).1).map (Value.int .u8)))) (n := (encI h9 d100).1.length) (c := c2) (A := A2) rfl rfl ?_
 intro hle3 hmx3
 refine X.freezeHd (i := 631) (n := (encI h9 d100).1.length) (c := c2) (A := A2) (kd := .u8) ((encI h9 d100).1) rfl rfl (fun x_ hx_ => by have h_ := encI_bytes h9_ok _ x_ hx_; simp only [IntKind.lo, IntKind.hi]; omega) (by kernel_rfl) (fun _ h => h) ?_
 intro G3 hG3 hr3
 refine Rn 10 (Qo B82 14 1) [Qs B82 15] ⟨60, [(0, VB false), (1, VL A2 ((encI h9 d100).1.length) c2), (2, I6 ((encI h9 d100).2)), (15, VL A2 ((encI h9 d100).1.length) c2)], []⟩ ?_
 refine Cg 85 [.slice A2 ((encI h9 d100).1.length) c2, N6 68] 50 (Split_ok A2 c2 ((encI h9 d100).1) _ hr3 hle3 hmx3 h9 d100 68 ex_dec46 (by decide) (by decide) (by rw [d100_size]; decide)) ?_
 rintro v4 G4 rows4 hG4 ⟨A4, c4, cs4, rfl, rfl, hcs4⟩
 replace hr3 := hr3.mono hG4.le
 refine X.asR (R' := [(50, RR 22 1 A4 ((splS h9 d100 68).length) c4 cs4), (9, RR 5 1 A1 100 100 [N8 0, N8 0, N8 0, N8 0, N8 0, N8 0, N8 0, N8 0, N8 0, N8 0, N8 0, N8 0, N8 0, N8 0, N8 0, N8 0, N8 0, N8 0, N8 0, N8 0, N8 0, N8 0, N8 0, N8 0, N8 0, N8 0, N8 0, N8 0, N8 0, N8 0, N8 0, N8 0, N8 0, N8 0, N8 0, N8 0, N8 0, N8 0, N8 0, N8 0, N8 0, N8 0, N8 0, N8 0, N8 0, N8 0, N8 0, N8 0, N8 0, N8 0, N8 0, N8 0, N8 0, N8 0, N8 0, N8 0, N8 0, N8 0, N8 0, N8 0, N8 0, N8 0, N8 0, N8 0, N8 0, N8 0, N8 0, N8 0, N8 0, N8 0, N8 0, N8 0, N8 0, N8 0, N8 0, N8 0, N8 0, N8 0, N8 0, N8 0, N8 0, N8 0, N8 0, N8 0, N8 0, N8 0, N8 0, N8 0, N8 0, N8 0, N8 0, N8 0, N8 0, N8 0, N8 0, N8 0, N8 0, N8 0, N8 0, N8 0])]) rfl ?_
 refine X.tellR [50, 9] (R' := [(50, RR 22 1 A4 ((splS h9 d100 68).length) c4 cs4), (9, RR 5 1 A1 100 100 [N8 0, N8 0, N8 0, N8 0, N8 0, N8 0, N8 0, N8 0, N8 0, N8 0, N8 0, N8 0, N8 0, N8 0, N8 0, N8 0, N8 0, N8 0, N8 0, N8 0, N8 0, N8 0, N8 0, N8 0, N8 0, N8 0, N8 0, N8 0, N8 0, N8 0, N8 0, N8 0, N8 0, N8 0, N8 0, N8 0, N8 0, N8 0, N8 0, N8 0, N8 0, N8 0, N8 0, N8 0, N8 0, N8 0, N8 0, N8 0, N8 0, N8 0, N8 0, N8 0, N8 0, N8 0, N8 0, N8 0, N8 0, N8 0, N8 0, N8 0, N8 0, N8 0, N8 0, N8 0, N8 0, N8 0, N8 0, N8 0, N8 0, N8 0, N8 0, N8 0, N8 0, N8 0, N8 0, N8 0, N8 0, N8 0, N8 0, N8 0, N8 0, N8 0, N8 0, N8 0, N8 0, N8 0, N8 0, N8 0, N8 0, N8 0, N8 0, N8 0, N8 0, N8 0, N8 0, N8 0, N8 0, N8 0, N8 0, N8 0])]) rfl ?_
 refine X.capLe (i := 50) (q := (RR 22 1 A4 ((splS h9 d100 68).length) c4 cs4)) (n := (splS h9 d100 68).length) (c := c4) (A := A4) rfl rfl ?_
 intro hle5 hmx5
 refine X.freezeT (d := D.slice (D.int .u8)) (i := 50) (n := (splS h9 d100 68).length) (c := c4) (A := A4) (splS h9 d100 68) rfl (by decide) (fun _ hl_ => hcs4.mono hl_) (by kernel_rfl) (fun _ h => h) ?_
 intro G5 hG5 hr5
 replace hr3 := hr3.mono hG5.le
 refine Rn 10 (Qo B82 30 1) [Qs B82 31] ⟨60, [(0, VB false), (1, VL A2 ((encI h9 d100).1.length) c2), (2, I6 ((encI h9 d100).2)), (3, VL A4 ((splS h9 d100 68).length) c4), (4, I6 0), (20, VL A4 ((splS h9 d100 68).length) c4)], []⟩ ?_
 refine Cg 83 [.slice A4 ((splS h9 d100 68).length) c4] 51 (Join_ok A4 c4 (splS h9 d100 68) _ hr5 hle5 hmx5 (.inl (by rw [ex_three]; decide))) ?_
 rintro v6 G6 rows6 hG6 ⟨A6, c6, rfl, rfl⟩
 replace hr3 := hr3.mono hG6.le
 replace hr5 := hr5.mono hG6.le
 refine X.asR (R' := [(51, RR 5 1 A6 ((joinI (splS h9 d100 68)).1.length) c6 (((joinI (splS h9 d100 68)).1).map (Value.int .u8))), (9, RR 5 1 A1 100 100 [N8 0, N8 0, N8 0, N8 0, N8 0, N8 0, N8 0, N8 0, N8 0, N8 0, N8 0, N8 0, N8 0, N8 0, N8 0, N8 0, N8 0, N8 0, N8 0, N8 0, N8 0, N8 0, N8 0, N8 0, N8 0, N8 0, N8 0, N8 0, N8 0, N8 0, N8 0, N8 0, N8 0, N8 0, N8 0, N8 0, N8 0, N8 0, N8 0, N8 0, N8 0, N8 0, N8 0, N8 0, N8 0, N8 0, N8 0, N8 0, N8 0, N8 0, N8 0, N8 0, N8 0, N8 0, N8 0, N8 0, N8 0, N8 0, N8 0, N8 0, N8 0, N8 0, N8 0, N8 0, N8 0, N8 0, N8 0, N8 0, N8 0, N8 0, N8 0, N8 0, N8 0, N8 0, N8 0, N8 0, N8 0, N8 0, N8 0, N8 0, N8 0, N8 0, N8 0, N8 0, N8 0, N8 0, N8 0, N8 0, N8 0, N8 0, N8 0, N8 0, N8 0, N8 0, N8 0, N8 0, N8 0, N8 0, N8 0, N8 0])]) rfl ?_
 refine X.tellR [51, 9] (R' := [(51, RR 5 1 A6 ((joinI (splS h9 d100 68)).1.length) c6 (((joinI (splS h9 d100 68)).1).map (Value.int .u8))), (9, RR 5 1 A1 100 100 [N8 0, N8 0, N8 0, N8 0, N8 0, N8 0, N8 0, N8 0, N8 0, N8 0, N8 0, N8 0, N8 0, N8 0, N8 0, N8 0, N8 0, N8 0, N8 0, N8 0, N8 0, N8 0, N8 0, N8 0, N8 0, N8 0, N8 0, N8 0, N8 0, N8 0, N8 0, N8 0, N8 0, N8 0, N8 0, N8 0, N8 0, N8 0, N8 0, N8 0, N8 0, N8 0, N8 0, N8 0, N8 0, N8 0, N8 0, N8 0, N8 0, N8 0, N8 0, N8 0, N8 0, N8 0, N8 0, N8 0, N8 0, N8 0, N8 0, N8 0, N8 0, N8 0, N8 0, N8 0, N8 0, N8 0, N8 0, N8 0, N8 0, N8 0, N8 0, N8 0, N8 0, N8 0, N8 0, N8 0, N8 0, N8 0, N8 0, N8 0, N8 0, N8 0, N8 0, N8 0, N8 0, N8 0, N8 0, N8 0, N8 0, N8 0, N8 0, N8 0, N8 0, N8 0, N8 0, N8 0, N8 0, N8 0, N8 0, N8 0])]) rfl ?_
 refine X.capLe (i := 51) (q := (RR 5 1 A6 ((joinI (splS h9 d100 68)).1.length) c6 (((joinI (splS h9 d100 68)).1).map (Value.int .u8)))) (n := (joinI (splS h9 d100 68)).1.length) (c := c6) (A := A6) rfl rfl ?_
 intro hle7 hmx7
 refine X.freezeHd (i := 51) (n := (joinI (splS h9 d100 68)).1.length) (c := c6) (A := A6) (kd := .u8) ((joinI (splS h9 d100 68)).1) rfl rfl (fun x_ hx_ => by have h_ := joinI_bytes (parts_bytes hr5) x_ hx_; simp only [IntKind.lo, IntKind.hi]; omega) (by kernel_rfl) (fun _ h => h) ?_
 intro G7 hG7 hr7
 replace hr3 := hr3.mono hG7.le
 replace hr5 := hr5.mono hG7.le
 refine Rn 12 (Qo B82 62 3) [Qs B82 63] ⟨60, [(0, VB false), (1, VL A2 ((encI h9 d100).1.length) c2), (3, VL A4 ((splS h9 d100 68).length) c4), (4, I6 0), (5, VL A6 ((joinI (splS h9 d100 68)).1.length) c6), (6, I6 ((joinI (splS h9 d100 68)).2)), (26, VB (((encI h9 d100).2) == 0))], []⟩ ?_
 refine X.isTrue 26 rfl (by rw [ex_e46]; rfl) ?_
 refine Rn 8 (Qo B82 62 11) [Qs B82 63] ⟨60, [(0, VB false), (1, VL A2 ((encI h9 d100).1.length) c2), (3, VL A4 ((splS h9 d100 68).length) c4), (5, VL A6 ((joinI (splS h9 d100 68)).1.length) c6), (34, VB (((joinI (splS h9 d100 68)).2) == 0))], []⟩ ?_
 refine X.isTrue 34 rfl (by rw [ex_join46, ex_e46]; rfl) ?_
 refine Rn 5 (Qo B82 62 16) [Qs B82 63] ⟨60, [(0, VB false), (1, VL A2 ((encI h9 d100).1.length) c2), (3, VL A4 ((splS h9 d100 68).length) c4), (5, VL A6 ((joinI (splS h9 d100 68)).1.length) c6), (39, VB ((((splS h9 d100 68).length : Nat) : Int) == 3))], []⟩ ?_
 refine X.isTrue 39 rfl (by rw [ex_three]; rfl) ?_
 refine Rn 1 (Qo B82 62 17) [Qs B82 63] ⟨60, [(0, VB false), (1, VL A2 ((encI h9 d100).1.length) c2), (3, VL A4 ((splS h9 d100 68).length) c4), (5, VL A6 ((joinI (splS h9 d100 68)).1.length) c6), (39, VB true), (40, VL A4 ((splS h9 d100 68).length) c4)], []⟩ ?_
 have b8 : (0 : Int) ≤ 0 := by omega
 have b9 : 0 < (((splS h9 d100 68).length : Nat) : Int) := by omega
 refine Ix 121 22 1 A4 ((splS h9 d100 68).length) c4 .i64 0 (.tmp 40) (.const (N6 0)) b8 b9 (fun _ _ => rowAt.so hr5 (by omega)) ?_
 obtain ⟨A10, c10, at10, le10, mx10, hr10⟩ := At.slice [(9, ⟨5, 1, .slice A1 100 100, 100, [.int .u8 0, .int .u8 0, .int .u8 0, .int .u8 0, .int .u8 0, .int .u8 0, .int .u8 0, .int .u8 0, .int .u8 0, .int .u8 0, .int .u8 0, .int .u8 0, .int .u8 0, .int .u8 0, .int .u8 0, .int .u8 0, .int .u8 0, .int .u8 0, .int .u8 0, .int .u8 0, .int .u8 0, .int .u8 0, .int .u8 0, .int .u8 0, .int .u8 0, .int .u8 0, .int .u8 0, .int .u8 0, .int .u8 0, .int .u8 0, .int .u8 0, .int .u8 0, .int .u8 0, .int .u8 0, .int .u8 0, .int .u8 0, .int .u8 0, .int .u8 0, .int .u8 0, .int .u8 0, .int .u8 0, .int .u8 0, .int .u8 0, .int .u8 0, .int .u8 0, .int .u8 0, .int .u8 0, .int .u8 0, .int .u8 0, .int .u8 0, .int .u8 0, .int .u8 0, .int .u8 0, .int .u8 0, .int .u8 0, .int .u8 0, .int .u8 0, .int .u8 0, .int .u8 0, .int .u8 0, .int .u8 0, .int .u8 0, .int .u8 0, .int .u8 0, .int .u8 0, .int .u8 0, .int .u8 0, .int .u8 0, .int .u8 0, .int .u8 0, .int .u8 0, .int .u8 0, .int .u8 0, .int .u8 0, .int .u8 0, .int .u8 0, .int .u8 0, .int .u8 0, .int .u8 0, .int .u8 0, .int .u8 0, .int .u8 0, .int .u8 0, .int .u8 0, .int .u8 0, .int .u8 0, .int .u8 0, .int .u8 0, .int .u8 0, .int .u8 0, .int .u8 0, .int .u8 0, .int .u8 0, .int .u8 0, .int .u8 0, .int .u8 0, .int .u8 0, .int .u8 0, .int .u8 0, .int .u8 0]⟩)] hr5 0 (by omega)
 simp only [maxLen] at mx10
 refine Rn 0 (Qo B82 62 18) [Qs B82 63] ⟨60, [(0, VB false), (1, VL A2 ((encI h9 d100).1.length) c2), (3, VL A4 ((splS h9 d100 68).length) c4), (5, VL A6 ((joinI (splS h9 d100 68)).1.length) c6), (39, VB true), (41, .v (elt A4 (0 * 1)))], []⟩ ?_
 refine Ld 22 A4 (0 * 1) (.tmp 41) (.slice A10 (((splS h9 d100 68).getD 0 []).length) c10) [.slice A10 (((splS h9 d100 68).getD 0 []).length) c10] at10 ?_
 refine Rn 4 (Qo B82 62 23) [Qs B82 63] ⟨60, [(0, VB false), (1, VL A2 ((encI h9 d100).1.length) c2), (3, VL A4 ((splS h9 d100 68).length) c4), (5, VL A6 ((joinI (splS h9 d100 68)).1.length) c6), (46, VB (((((splS h9 d100 68).getD 0 []).length : Nat) : Int) == 68))], []⟩ ?_
 refine X.isTrue 46 rfl (by rw [ex_at0]; rfl) ?_
 refine Rn 1 (Qo B82 62 24) [Qs B82 63] ⟨60, [(0, VB false), (1, VL A2 ((encI h9 d100).1.length) c2), (5, VL A6 ((joinI (splS h9 d100 68)).1.length) c6), (46, VB true), (47, VL A4 ((splS h9 d100 68).length) c4)], []⟩ ?_
 have b11 : (0 : Int) ≤ 2 := by omega
 have b12 : 2 < (((splS h9 d100 68).length : Nat) : Int) := by omega
 refine Ix 121 22 1 A4 ((splS h9 d100 68).length) c4 .i64 2 (.tmp 47) (.const (N6 2)) b11 b12 (fun _ _ => rowAt.so hr5 (by omega)) ?_
 obtain ⟨A13, c13, at13, le13, mx13, hr13⟩ := At.slice [(9, ⟨5, 1, .slice A1 100 100, 100, [.int .u8 0, .int .u8 0, .int .u8 0, .int .u8 0, .int .u8 0, .int .u8 0, .int .u8 0, .int .u8 0, .int .u8 0, .int .u8 0, .int .u8 0, .int .u8 0, .int .u8 0, .int .u8 0, .int .u8 0, .int .u8 0, .int .u8 0, .int .u8 0, .int .u8 0, .int .u8 0, .int .u8 0, .int .u8 0, .int .u8 0, .int .u8 0, .int .u8 0, .int .u8 0, .int .u8 0, .int .u8 0, .int .u8 0, .int .u8 0, .int .u8 0, .int .u8 0, .int .u8 0, .int .u8 0, .int .u8 0, .int .u8 0, .int .u8 0, .int .u8 0, .int .u8 0, .int .u8 0, .int .u8 0, .int .u8 0, .int .u8 0, .int .u8 0, .int .u8 0, .int .u8 0, .int .u8 0, .int .u8 0, .int .u8 0, .int .u8 0, .int .u8 0, .int .u8 0, .int .u8 0, .int .u8 0, .int .u8 0, .int .u8 0, .int .u8 0, .int .u8 0, .int .u8 0, .int .u8 0, .int .u8 0, .int .u8 0, .int .u8 0, .int .u8 0, .int .u8 0, .int .u8 0, .int .u8 0, .int .u8 0, .int .u8 0, .int .u8 0, .int .u8 0, .int .u8 0, .int .u8 0, .int .u8 0, .int .u8 0, .int .u8 0, .int .u8 0, .int .u8 0, .int .u8 0, .int .u8 0, .int .u8 0, .int .u8 0, .int .u8 0, .int .u8 0, .int .u8 0, .int .u8 0, .int .u8 0, .int .u8 0, .int .u8 0, .int .u8 0, .int .u8 0, .int .u8 0, .int .u8 0, .int .u8 0, .int .u8 0, .int .u8 0, .int .u8 0, .int .u8 0, .int .u8 0, .int .u8 0]⟩)] hr5 2 (by omega)
 simp only [maxLen] at mx13
 refine Rn 0 (Qo B82 62 25) [Qs B82 63] ⟨60, [(0, VB false), (1, VL A2 ((encI h9 d100).1.length) c2), (5, VL A6 ((joinI (splS h9 d100 68)).1.length) c6), (46, VB true), (48, .v (elt A4 (2 * 1)))], []⟩ ?_
 refine Ld 22 A4 (2 * 1) (.tmp 48) (.slice A13 (((splS h9 d100 68).getD 2 []).length) c13) [.slice A13 (((splS h9 d100 68).getD 2 []).length) c13] at13 ?_
 refine Rn 4 (Qo B82 62 30) [Qs B82 63] ⟨60, [(0, VB false), (1, VL A2 ((encI h9 d100).1.length) c2), (5, VL A6 ((joinI (splS h9 d100 68)).1.length) c6), (53, VB (((((splS h9 d100 68).getD 2 []).length : Nat) : Int) == 24))], []⟩ ?_
 refine X.isTrue 53 rfl (by rw [ex_at2]; rfl) ?_
 refine Rn 1 (Qo B82 62 31) [Qs B82 63] ⟨60, [(0, VB false), (1, VL A2 ((encI h9 d100).1.length) c2), (53, VB true), (54, VL A6 ((joinI (splS h9 d100 68)).1.length) c6)], []⟩ ?_
 refine X.toStrW (src := 22) (dst := 9) (e := 5) (n := (joinI (splS h9 d100 68)).1.length) (c := c6) (A := A6) (x := .tmp 54) ((joinI (splS h9 d100 68)).1) (by kernel_rfl) (by kernel_rfl) (by kernel_rfl) (by kernel_rfl) (by kernel_rfl) rfl (at_ints [(9, RR 5 1 A1 100 100 [N8 0, N8 0, N8 0, N8 0, N8 0, N8 0, N8 0, N8 0, N8 0, N8 0, N8 0, N8 0, N8 0, N8 0, N8 0, N8 0, N8 0, N8 0, N8 0, N8 0, N8 0, N8 0, N8 0, N8 0, N8 0, N8 0, N8 0, N8 0, N8 0, N8 0, N8 0, N8 0, N8 0, N8 0, N8 0, N8 0, N8 0, N8 0, N8 0, N8 0, N8 0, N8 0, N8 0, N8 0, N8 0, N8 0, N8 0, N8 0, N8 0, N8 0, N8 0, N8 0, N8 0, N8 0, N8 0, N8 0, N8 0, N8 0, N8 0, N8 0, N8 0, N8 0, N8 0, N8 0, N8 0, N8 0, N8 0, N8 0, N8 0, N8 0, N8 0, N8 0, N8 0, N8 0, N8 0, N8 0, N8 0, N8 0, N8 0, N8 0, N8 0, N8 0, N8 0, N8 0, N8 0, N8 0, N8 0, N8 0, N8 0, N8 0, N8 0, N8 0, N8 0, N8 0, N8 0, N8 0, N8 0, N8 0, N8 0, N8 0])] hr7) (fun w hw e => rowAt.none hr7 e) (by kernel_rfl) ?_
 refine Rn 1 (Qo B82 62 33) [Qs B82 63] ⟨60, [(0, VB false), (53, VB true), (55, VT (strOf ((joinI (splS h9 d100 68)).1))), (56, VL A2 ((encI h9 d100).1.length) c2)], []⟩ ?_
 refine X.toStrW (src := 22) (dst := 9) (e := 5) (n := (encI h9 d100).1.length) (c := c2) (A := A2) (x := .tmp 56) ((encI h9 d100).1) (by kernel_rfl) (by kernel_rfl) (by kernel_rfl) (by kernel_rfl) (by kernel_rfl) rfl (at_ints [(9, RR 5 1 A1 100 100 [N8 0, N8 0, N8 0, N8 0, N8 0, N8 0, N8 0, N8 0, N8 0, N8 0, N8 0, N8 0, N8 0, N8 0, N8 0, N8 0, N8 0, N8 0, N8 0, N8 0, N8 0, N8 0, N8 0, N8 0, N8 0, N8 0, N8 0, N8 0, N8 0, N8 0, N8 0, N8 0, N8 0, N8 0, N8 0, N8 0, N8 0, N8 0, N8 0, N8 0, N8 0, N8 0, N8 0, N8 0, N8 0, N8 0, N8 0, N8 0, N8 0, N8 0, N8 0, N8 0, N8 0, N8 0, N8 0, N8 0, N8 0, N8 0, N8 0, N8 0, N8 0, N8 0, N8 0, N8 0, N8 0, N8 0, N8 0, N8 0, N8 0, N8 0, N8 0, N8 0, N8 0, N8 0, N8 0, N8 0, N8 0, N8 0, N8 0, N8 0, N8 0, N8 0, N8 0, N8 0, N8 0, N8 0, N8 0, N8 0, N8 0, N8 0, N8 0, N8 0, N8 0, N8 0, N8 0, N8 0, N8 0, N8 0, N8 0, N8 0])] hr3) (fun w hw e => rowAt.none hr3 e) (by kernel_rfl) ?_
 refine Rn 6 (.ex .ret) [] ⟨60, [(0, VB ((strOf ((joinI (splS h9 d100 68)).1)).toList == (strOf ((encI h9 d100).1)).toList))], []⟩ ?_
 refine Dg (.inl rfl) [.bool ((strOf ((joinI (splS h9 d100 68)).1)).toList == (strOf ((encI h9 d100).1)).toList)] [] rfl ((((((hG2.trans hG3).trans hG4).trans hG5).trans hG6).trans hG7)) ?_
 exact ⟨congrArg Value.bool (by rw [ex_join46]; exact beq_self_eq_true _), rfl⟩
end Go.Proofs.YtjgpdbkkpomhjaaX
