/- flags: words and their bits -/
import Derived.Test.YtjgpdbkkpomhjaaProg
import Derived.KernelRfl
import Derived.Test.YtjgpdbkkpomhjaaXI
namespace Go.Proofs.YtjgpdbkkpomhjaaX
open Go.RowKit
set_option linter.unusedVariables false
set_option linter.unusedSimpArgs false
set_option maxRecDepth 100000
def aceN (x y z : Bool) : Int := (if x then 4 else 0) + (if y then 2 else 0) + (if z then 1 else 0)

/-- leat/flags.Bits -/
noncomputable def B35 : Code := bodyOf Try.f35
set_option maxHeartbeats 1000000 in
theorem Bits_ok (f : Int) (G : Mem) : CallsG Try.prog 35 [.int .u8 f] G (fun _ v rows => v = .tuple #[.bool (band .u8 f 4 != 0), .bool (band .u8 f 2 != 0), .bool (band .u8 f 1 != 0)] ∧ rows = []) := by
  refine CallsG.enter Try.func35 rfl rfl ?_
  intro w
  refine X.run 24 [2, 3, 4] [] (.ex .ret) [] ⟨14, [(2, .v (.bool ((band .u8 f 4) != 0))), (3, .v (.bool ((band .u8 f 2) != 0))), (4, .v (.bool ((band .u8 f 1) != 0)))], []⟩ (by kernel_rfl) ?_
  refine doneG (.inl rfl) [.bool ((band .u8 f 4) != 0), .bool ((band .u8 f 2) != 0), .bool ((band .u8 f 1) != 0)] [] (by kernel_rfl) rfl rfl (Ge.refl _ _) ?_
  -- end 1 ()
  exact ⟨rfl, rfl⟩

/-- leat/flags.Ace -/
noncomputable def B36 : Code := bodyOf Try.f36
set_option maxHeartbeats 1000000 in
theorem Ace_ok (x y z : Bool) (G : Mem) : CallsG Try.prog 36 [.bool x, .bool y, .bool z] G (fun _ v rows => v = .int .u8 (aceN x y z) ∧ rows = []) := by
  refine CallsG.enter Try.func36 rfl rfl ?_
  intro w
  refine X.run 21 [6, 7, 13, 14] [] (.code (cA B36 [1, 1, 0, 1, 0])) [.blk 0, .seq (cA B36 [1, 1, 1])] ⟨24, [(6, .v (.int .u8 0)), (7, .v (.int .u8 0)), (13, .v (.agg #[.bool x, .bool y, .bool z])), (14, .v (.int .i64 0))], []⟩ (by kernel_rfl) ?_
  refine X.rounds 4 ?_
  refine RX.succ fun J1 hJ1 => ?_
  refine X.run 29 [6, 7, 9, 13, 14, 15, 16, 17, 18, 19] [] (.code (cA B36 [1, 1, 0, 1, 0, 0, 1, 1, 0, 0, 1, 1, 1])) [.blk 1, .seq (cA B36 [1, 1, 0, 1, 0, 0, 1, 1, 1]), .loop J1, .blk 0, .seq (cA B36 [1, 1, 1])] ⟨24, [(6, .v (.int .u8 0)), (7, .v (.int .u8 0)), (9, .v (.bool x)), (13, .v (.agg #[.bool x, .bool y, .bool z])), (14, .v (.int .i64 0)), (15, .v (.bool true)), (16, .v (.bool x)), (17, .v (.int .u8 0)), (18, .v (.int .u8 0)), (19, .v (.bool x))], []⟩ (by kernel_rfl) ?_
  refine X.split 19 rfl (fun h2 => ?_) (fun h2 => ?_)
  · -- slot 19: x is True
    refine X.run 12 [6, 7, 9, 13, 14, 15, 16, 17, 18, 19, 20, 21, 22] [] (.ex .normal) [.loop J1, .blk 0, .seq (cA B36 [1, 1, 1])] ⟨24, [(6, .v (.int .u8 0)), (7, .v (.int .u8 (bor .u8 0 1))), (9, .v (.bool x)), (13, .v (.agg #[.bool x, .bool y, .bool z])), (14, .v (.int .i64 1)), (15, .v (.bool true)), (16, .v (.bool x)), (17, .v (.int .u8 0)), (18, .v (.int .u8 0)), (19, .v (.bool true)), (20, .v (.int .u8 0)), (21, .v (.int .u8 (bor .u8 0 1))), (22, .v (.int .i64 1))], []⟩ (by kernel_rfl) ?_
    refine X.again (hJ1 _ _ _ ?_)
    refine RX.succ fun J3 hJ3 => ?_
    refine X.run 29 [6, 7, 9, 13, 14, 15, 16, 17, 18, 19, 20, 21, 22] [] (.code (cA B36 [1, 1, 0, 1, 0, 0, 1, 1, 0, 0, 1, 1, 1])) [.blk 1, .seq (cA B36 [1, 1, 0, 1, 0, 0, 1, 1, 1]), .loop J3, .blk 0, .seq (cA B36 [1, 1, 1])] ⟨24, [(6, .v (.int .u8 0)), (7, .v (.int .u8 (bshl .u8 (bor .u8 0 1) 1))), (9, .v (.bool y)), (13, .v (.agg #[.bool x, .bool y, .bool z])), (14, .v (.int .i64 1)), (15, .v (.bool true)), (16, .v (.bool y)), (17, .v (.int .u8 (bor .u8 0 1))), (18, .v (.int .u8 (bshl .u8 (bor .u8 0 1) 1))), (19, .v (.bool y)), (20, .v (.int .u8 0)), (21, .v (.int .u8 (bor .u8 0 1))), (22, .v (.int .i64 1))], []⟩ (by kernel_rfl) ?_
    refine X.split 19 rfl (fun h4 => ?_) (fun h4 => ?_)
    · -- slot 19: y is True
      refine X.run 12 [6, 7, 9, 13, 14, 15, 16, 17, 18, 19, 20, 21, 22] [] (.ex .normal) [.loop J3, .blk 0, .seq (cA B36 [1, 1, 1])] ⟨24, [(6, .v (.int .u8 0)), (7, .v (.int .u8 (bor .u8 (bshl .u8 (bor .u8 0 1) 1) 1))), (9, .v (.bool y)), (13, .v (.agg #[.bool x, .bool y, .bool z])), (14, .v (.int .i64 2)), (15, .v (.bool true)), (16, .v (.bool y)), (17, .v (.int .u8 (bor .u8 0 1))), (18, .v (.int .u8 (bshl .u8 (bor .u8 0 1) 1))), (19, .v (.bool true)), (20, .v (.int .u8 (bshl .u8 (bor .u8 0 1) 1))), (21, .v (.int .u8 (bor .u8 (bshl .u8 (bor .u8 0 1) 1) 1))), (22, .v (.int .i64 2))], []⟩ (by kernel_rfl) ?_
      refine X.again (hJ3 _ _ _ ?_)
      refine RX.succ fun J5 hJ5 => ?_
      refine X.run 29 [6, 7, 9, 13, 14, 15, 16, 17, 18, 19, 20, 21, 22] [] (.code (cA B36 [1, 1, 0, 1, 0, 0, 1, 1, 0, 0, 1, 1, 1])) [.blk 1, .seq (cA B36 [1, 1, 0, 1, 0, 0, 1, 1, 1]), .loop J5, .blk 0, .seq (cA B36 [1, 1, 1])] ⟨24, [(6, .v (.int .u8 0)), (7, .v (.int .u8 (bshl .u8 (bor .u8 (bshl .u8 (bor .u8 0 1) 1) 1) 1))), (9, .v (.bool z)), (13, .v (.agg #[.bool x, .bool y, .bool z])), (14, .v (.int .i64 2)), (15, .v (.bool true)), (16, .v (.bool z)), (17, .v (.int .u8 (bor .u8 (bshl .u8 (bor .u8 0 1) 1) 1))), (18, .v (.int .u8 (bshl .u8 (bor .u8 (bshl .u8 (bor .u8 0 1) 1) 1) 1))), (19, .v (.bool z)), (20, .v (.int .u8 (bshl .u8 (bor .u8 0 1) 1))), (21, .v (.int .u8 (bor .u8 (bshl .u8 (bor .u8 0 1) 1) 1))), (22, .v (.int .i64 2))], []⟩ (by kernel_rfl) ?_
      refine X.split 19 rfl (fun h6 => ?_) (fun h6 => ?_)
      · -- slot 19: z is True
        refine X.run 12 [6, 7, 9, 13, 14, 15, 16, 17, 18, 19, 20, 21, 22] [] (.ex .normal) [.loop J5, .blk 0, .seq (cA B36 [1, 1, 1])] ⟨24, [(6, .v (.int .u8 0)), (7, .v (.int .u8 (bor .u8 (bshl .u8 (bor .u8 (bshl .u8 (bor .u8 0 1) 1) 1) 1) 1))), (9, .v (.bool z)), (13, .v (.agg #[.bool x, .bool y, .bool z])), (14, .v (.int .i64 3)), (15, .v (.bool true)), (16, .v (.bool z)), (17, .v (.int .u8 (bor .u8 (bshl .u8 (bor .u8 0 1) 1) 1))), (18, .v (.int .u8 (bshl .u8 (bor .u8 (bshl .u8 (bor .u8 0 1) 1) 1) 1))), (19, .v (.bool true)), (20, .v (.int .u8 (bshl .u8 (bor .u8 (bshl .u8 (bor .u8 0 1) 1) 1) 1))), (21, .v (.int .u8 (bor .u8 (bshl .u8 (bor .u8 (bshl .u8 (bor .u8 0 1) 1) 1) 1) 1))), (22, .v (.int .i64 3))], []⟩ (by kernel_rfl) ?_
        refine X.again (hJ5 _ _ _ ?_)
        refine RX.succ fun J7 hJ7 => ?_
        refine X.run 19 [6] [] (.ex .ret) [] ⟨24, [(6, .v (.int .u8 (bor .u8 (bshl .u8 (bor .u8 (bshl .u8 (bor .u8 0 1) 1) 1) 1) 1)))], []⟩ (by kernel_rfl) ?_
        refine doneG (.inl rfl) [.int .u8 (bor .u8 (bshl .u8 (bor .u8 (bshl .u8 (bor .u8 0 1) 1) 1) 1) 1)] [] (by kernel_rfl) rfl rfl (Ge.refl _ _) ?_
        -- end 1 (TTT)
        refine ⟨?_, rfl⟩
        subst_vars
        rfl
      · -- slot 19: z is False
        refine X.run 8 [6, 7, 9, 13, 14, 15, 16, 17, 18, 19, 20, 21, 22] [] (.ex .normal) [.loop J5, .blk 0, .seq (cA B36 [1, 1, 1])] ⟨24, [(6, .v (.int .u8 0)), (7, .v (.int .u8 (bshl .u8 (bor .u8 (bshl .u8 (bor .u8 0 1) 1) 1) 1))), (9, .v (.bool z)), (13, .v (.agg #[.bool x, .bool y, .bool z])), (14, .v (.int .i64 3)), (15, .v (.bool true)), (16, .v (.bool z)), (17, .v (.int .u8 (bor .u8 (bshl .u8 (bor .u8 0 1) 1) 1))), (18, .v (.int .u8 (bshl .u8 (bor .u8 (bshl .u8 (bor .u8 0 1) 1) 1) 1))), (19, .v (.bool false)), (20, .v (.int .u8 (bshl .u8 (bor .u8 0 1) 1))), (21, .v (.int .u8 (bor .u8 (bshl .u8 (bor .u8 0 1) 1) 1))), (22, .v (.int .i64 3))], []⟩ (by kernel_rfl) ?_
        refine X.again (hJ5 _ _ _ ?_)
        refine RX.succ fun J8 hJ8 => ?_
        refine X.run 19 [6] [] (.ex .ret) [] ⟨24, [(6, .v (.int .u8 (bshl .u8 (bor .u8 (bshl .u8 (bor .u8 0 1) 1) 1) 1)))], []⟩ (by kernel_rfl) ?_
        refine doneG (.inl rfl) [.int .u8 (bshl .u8 (bor .u8 (bshl .u8 (bor .u8 0 1) 1) 1) 1)] [] (by kernel_rfl) rfl rfl (Ge.refl _ _) ?_
        -- end 2 (TTF)
        refine ⟨?_, rfl⟩
        subst_vars
        rfl
    · -- slot 19: y is False
      refine X.run 8 [6, 7, 9, 13, 14, 15, 16, 17, 18, 19, 20, 21, 22] [] (.ex .normal) [.loop J3, .blk 0, .seq (cA B36 [1, 1, 1])] ⟨24, [(6, .v (.int .u8 0)), (7, .v (.int .u8 (bshl .u8 (bor .u8 0 1) 1))), (9, .v (.bool y)), (13, .v (.agg #[.bool x, .bool y, .bool z])), (14, .v (.int .i64 2)), (15, .v (.bool true)), (16, .v (.bool y)), (17, .v (.int .u8 (bor .u8 0 1))), (18, .v (.int .u8 (bshl .u8 (bor .u8 0 1) 1))), (19, .v (.bool false)), (20, .v (.int .u8 0)), (21, .v (.int .u8 (bor .u8 0 1))), (22, .v (.int .i64 2))], []⟩ (by kernel_rfl) ?_
      refine X.again (hJ3 _ _ _ ?_)
      refine RX.succ fun J9 hJ9 => ?_
      refine X.run 29 [6, 7, 9, 13, 14, 15, 16, 17, 18, 19, 20, 21, 22] [] (.code (cA B36 [1, 1, 0, 1, 0, 0, 1, 1, 0, 0, 1, 1, 1])) [.blk 1, .seq (cA B36 [1, 1, 0, 1, 0, 0, 1, 1, 1]), .loop J9, .blk 0, .seq (cA B36 [1, 1, 1])] ⟨24, [(6, .v (.int .u8 0)), (7, .v (.int .u8 (bshl .u8 (bshl .u8 (bor .u8 0 1) 1) 1))), (9, .v (.bool z)), (13, .v (.agg #[.bool x, .bool y, .bool z])), (14, .v (.int .i64 2)), (15, .v (.bool true)), (16, .v (.bool z)), (17, .v (.int .u8 (bshl .u8 (bor .u8 0 1) 1))), (18, .v (.int .u8 (bshl .u8 (bshl .u8 (bor .u8 0 1) 1) 1))), (19, .v (.bool z)), (20, .v (.int .u8 0)), (21, .v (.int .u8 (bor .u8 0 1))), (22, .v (.int .i64 2))], []⟩ (by kernel_rfl) ?_
      refine X.split 19 rfl (fun h10 => ?_) (fun h10 => ?_)
      · -- slot 19: z is True
        refine X.run 12 [6, 7, 9, 13, 14, 15, 16, 17, 18, 19, 20, 21, 22] [] (.ex .normal) [.loop J9, .blk 0, .seq (cA B36 [1, 1, 1])] ⟨24, [(6, .v (.int .u8 0)), (7, .v (.int .u8 (bor .u8 (bshl .u8 (bshl .u8 (bor .u8 0 1) 1) 1) 1))), (9, .v (.bool z)), (13, .v (.agg #[.bool x, .bool y, .bool z])), (14, .v (.int .i64 3)), (15, .v (.bool true)), (16, .v (.bool z)), (17, .v (.int .u8 (bshl .u8 (bor .u8 0 1) 1))), (18, .v (.int .u8 (bshl .u8 (bshl .u8 (bor .u8 0 1) 1) 1))), (19, .v (.bool true)), (20, .v (.int .u8 (bshl .u8 (bshl .u8 (bor .u8 0 1) 1) 1))), (21, .v (.int .u8 (bor .u8 (bshl .u8 (bshl .u8 (bor .u8 0 1) 1) 1) 1))), (22, .v (.int .i64 3))], []⟩ (by kernel_rfl) ?_
        refine X.again (hJ9 _ _ _ ?_)
        refine RX.succ fun J11 hJ11 => ?_
        refine X.run 19 [6] [] (.ex .ret) [] ⟨24, [(6, .v (.int .u8 (bor .u8 (bshl .u8 (bshl .u8 (bor .u8 0 1) 1) 1) 1)))], []⟩ (by kernel_rfl) ?_
        refine doneG (.inl rfl) [.int .u8 (bor .u8 (bshl .u8 (bshl .u8 (bor .u8 0 1) 1) 1) 1)] [] (by kernel_rfl) rfl rfl (Ge.refl _ _) ?_
        -- end 3 (TFT)
        refine ⟨?_, rfl⟩
        subst_vars
        rfl
      · -- slot 19: z is False
        refine X.run 8 [6, 7, 9, 13, 14, 15, 16, 17, 18, 19, 20, 21, 22] [] (.ex .normal) [.loop J9, .blk 0, .seq (cA B36 [1, 1, 1])] ⟨24, [(6, .v (.int .u8 0)), (7, .v (.int .u8 (bshl .u8 (bshl .u8 (bor .u8 0 1) 1) 1))), (9, .v (.bool z)), (13, .v (.agg #[.bool x, .bool y, .bool z])), (14, .v (.int .i64 3)), (15, .v (.bool true)), (16, .v (.bool z)), (17, .v (.int .u8 (bshl .u8 (bor .u8 0 1) 1))), (18, .v (.int .u8 (bshl .u8 (bshl .u8 (bor .u8 0 1) 1) 1))), (19, .v (.bool false)), (20, .v (.int .u8 0)), (21, .v (.int .u8 (bor .u8 0 1))), (22, .v (.int .i64 3))], []⟩ (by kernel_rfl) ?_
        refine X.again (hJ9 _ _ _ ?_)
        refine RX.succ fun J12 hJ12 => ?_
        refine X.run 19 [6] [] (.ex .ret) [] ⟨24, [(6, .v (.int .u8 (bshl .u8 (bshl .u8 (bor .u8 0 1) 1) 1)))], []⟩ (by kernel_rfl) ?_
        refine doneG (.inl rfl) [.int .u8 (bshl .u8 (bshl .u8 (bor .u8 0 1) 1) 1)] [] (by kernel_rfl) rfl rfl (Ge.refl _ _) ?_
        -- end 4 (TFF)
        refine ⟨?_, rfl⟩
        subst_vars
        rfl
  · -- slot 19: x is False
    refine X.run 8 [6, 7, 9, 13, 14, 15, 16, 17, 18, 19, 22] [] (.ex .normal) [.loop J1, .blk 0, .seq (cA B36 [1, 1, 1])] ⟨24, [(6, .v (.int .u8 0)), (7, .v (.int .u8 0)), (9, .v (.bool x)), (13, .v (.agg #[.bool x, .bool y, .bool z])), (14, .v (.int .i64 1)), (15, .v (.bool true)), (16, .v (.bool x)), (17, .v (.int .u8 0)), (18, .v (.int .u8 0)), (19, .v (.bool false)), (22, .v (.int .i64 1))], []⟩ (by kernel_rfl) ?_
    refine X.again (hJ1 _ _ _ ?_)
    refine RX.succ fun J13 hJ13 => ?_
    refine X.run 29 [6, 7, 9, 13, 14, 15, 16, 17, 18, 19, 22] [] (.code (cA B36 [1, 1, 0, 1, 0, 0, 1, 1, 0, 0, 1, 1, 1])) [.blk 1, .seq (cA B36 [1, 1, 0, 1, 0, 0, 1, 1, 1]), .loop J13, .blk 0, .seq (cA B36 [1, 1, 1])] ⟨24, [(6, .v (.int .u8 0)), (7, .v (.int .u8 0)), (9, .v (.bool y)), (13, .v (.agg #[.bool x, .bool y, .bool z])), (14, .v (.int .i64 1)), (15, .v (.bool true)), (16, .v (.bool y)), (17, .v (.int .u8 0)), (18, .v (.int .u8 0)), (19, .v (.bool y)), (22, .v (.int .i64 1))], []⟩ (by kernel_rfl) ?_
    refine X.split 19 rfl (fun h14 => ?_) (fun h14 => ?_)
    · -- slot 19: y is True
      refine X.run 12 [6, 7, 9, 13, 14, 15, 16, 17, 18, 19, 20, 21, 22] [] (.ex .normal) [.loop J13, .blk 0, .seq (cA B36 [1, 1, 1])] ⟨24, [(6, .v (.int .u8 0)), (7, .v (.int .u8 (bor .u8 0 1))), (9, .v (.bool y)), (13, .v (.agg #[.bool x, .bool y, .bool z])), (14, .v (.int .i64 2)), (15, .v (.bool true)), (16, .v (.bool y)), (17, .v (.int .u8 0)), (18, .v (.int .u8 0)), (19, .v (.bool true)), (20, .v (.int .u8 0)), (21, .v (.int .u8 (bor .u8 0 1))), (22, .v (.int .i64 2))], []⟩ (by kernel_rfl) ?_
      refine X.again (hJ13 _ _ _ ?_)
      refine RX.succ fun J15 hJ15 => ?_
      refine X.run 29 [6, 7, 9, 13, 14, 15, 16, 17, 18, 19, 20, 21, 22] [] (.code (cA B36 [1, 1, 0, 1, 0, 0, 1, 1, 0, 0, 1, 1, 1])) [.blk 1, .seq (cA B36 [1, 1, 0, 1, 0, 0, 1, 1, 1]), .loop J15, .blk 0, .seq (cA B36 [1, 1, 1])] ⟨24, [(6, .v (.int .u8 0)), (7, .v (.int .u8 (bshl .u8 (bor .u8 0 1) 1))), (9, .v (.bool z)), (13, .v (.agg #[.bool x, .bool y, .bool z])), (14, .v (.int .i64 2)), (15, .v (.bool true)), (16, .v (.bool z)), (17, .v (.int .u8 (bor .u8 0 1))), (18, .v (.int .u8 (bshl .u8 (bor .u8 0 1) 1))), (19, .v (.bool z)), (20, .v (.int .u8 0)), (21, .v (.int .u8 (bor .u8 0 1))), (22, .v (.int .i64 2))], []⟩ (by kernel_rfl) ?_
      refine X.split 19 rfl (fun h16 => ?_) (fun h16 => ?_)
      · -- slot 19: z is True
        refine X.run 12 [6, 7, 9, 13, 14, 15, 16, 17, 18, 19, 20, 21, 22] [] (.ex .normal) [.loop J15, .blk 0, .seq (cA B36 [1, 1, 1])] ⟨24, [(6, .v (.int .u8 0)), (7, .v (.int .u8 (bor .u8 (bshl .u8 (bor .u8 0 1) 1) 1))), (9, .v (.bool z)), (13, .v (.agg #[.bool x, .bool y, .bool z])), (14, .v (.int .i64 3)), (15, .v (.bool true)), (16, .v (.bool z)), (17, .v (.int .u8 (bor .u8 0 1))), (18, .v (.int .u8 (bshl .u8 (bor .u8 0 1) 1))), (19, .v (.bool true)), (20, .v (.int .u8 (bshl .u8 (bor .u8 0 1) 1))), (21, .v (.int .u8 (bor .u8 (bshl .u8 (bor .u8 0 1) 1) 1))), (22, .v (.int .i64 3))], []⟩ (by kernel_rfl) ?_
        refine X.again (hJ15 _ _ _ ?_)
        refine RX.succ fun J17 hJ17 => ?_
        refine X.run 19 [6] [] (.ex .ret) [] ⟨24, [(6, .v (.int .u8 (bor .u8 (bshl .u8 (bor .u8 0 1) 1) 1)))], []⟩ (by kernel_rfl) ?_
        refine doneG (.inl rfl) [.int .u8 (bor .u8 (bshl .u8 (bor .u8 0 1) 1) 1)] [] (by kernel_rfl) rfl rfl (Ge.refl _ _) ?_
        -- end 5 (FTT)
        refine ⟨?_, rfl⟩
        subst_vars
        rfl
      · -- slot 19: z is False
        refine X.run 8 [6, 7, 9, 13, 14, 15, 16, 17, 18, 19, 20, 21, 22] [] (.ex .normal) [.loop J15, .blk 0, .seq (cA B36 [1, 1, 1])] ⟨24, [(6, .v (.int .u8 0)), (7, .v (.int .u8 (bshl .u8 (bor .u8 0 1) 1))), (9, .v (.bool z)), (13, .v (.agg #[.bool x, .bool y, .bool z])), (14, .v (.int .i64 3)), (15, .v (.bool true)), (16, .v (.bool z)), (17, .v (.int .u8 (bor .u8 0 1))), (18, .v (.int .u8 (bshl .u8 (bor .u8 0 1) 1))), (19, .v (.bool false)), (20, .v (.int .u8 0)), (21, .v (.int .u8 (bor .u8 0 1))), (22, .v (.int .i64 3))], []⟩ (by kernel_rfl) ?_
        refine X.again (hJ15 _ _ _ ?_)
        refine RX.succ fun J18 hJ18 => ?_
        refine X.run 19 [6] [] (.ex .ret) [] ⟨24, [(6, .v (.int .u8 (bshl .u8 (bor .u8 0 1) 1)))], []⟩ (by kernel_rfl) ?_
        refine doneG (.inl rfl) [.int .u8 (bshl .u8 (bor .u8 0 1) 1)] [] (by kernel_rfl) rfl rfl (Ge.refl _ _) ?_
        -- end 6 (FTF)
        refine ⟨?_, rfl⟩
        subst_vars
        rfl
    · -- slot 19: y is False
      refine X.run 8 [6, 7, 9, 13, 14, 15, 16, 17, 18, 19, 22] [] (.ex .normal) [.loop J13, .blk 0, .seq (cA B36 [1, 1, 1])] ⟨24, [(6, .v (.int .u8 0)), (7, .v (.int .u8 0)), (9, .v (.bool y)), (13, .v (.agg #[.bool x, .bool y, .bool z])), (14, .v (.int .i64 2)), (15, .v (.bool true)), (16, .v (.bool y)), (17, .v (.int .u8 0)), (18, .v (.int .u8 0)), (19, .v (.bool false)), (22, .v (.int .i64 2))], []⟩ (by kernel_rfl) ?_
      refine X.again (hJ13 _ _ _ ?_)
      refine RX.succ fun J19 hJ19 => ?_
      refine X.run 29 [6, 7, 9, 13, 14, 15, 16, 17, 18, 19, 22] [] (.code (cA B36 [1, 1, 0, 1, 0, 0, 1, 1, 0, 0, 1, 1, 1])) [.blk 1, .seq (cA B36 [1, 1, 0, 1, 0, 0, 1, 1, 1]), .loop J19, .blk 0, .seq (cA B36 [1, 1, 1])] ⟨24, [(6, .v (.int .u8 0)), (7, .v (.int .u8 0)), (9, .v (.bool z)), (13, .v (.agg #[.bool x, .bool y, .bool z])), (14, .v (.int .i64 2)), (15, .v (.bool true)), (16, .v (.bool z)), (17, .v (.int .u8 0)), (18, .v (.int .u8 0)), (19, .v (.bool z)), (22, .v (.int .i64 2))], []⟩ (by kernel_rfl) ?_
      refine X.split 19 rfl (fun h20 => ?_) (fun h20 => ?_)
      · -- slot 19: z is True
        refine X.run 12 [6, 7, 9, 13, 14, 15, 16, 17, 18, 19, 20, 21, 22] [] (.ex .normal) [.loop J19, .blk 0, .seq (cA B36 [1, 1, 1])] ⟨24, [(6, .v (.int .u8 0)), (7, .v (.int .u8 (bor .u8 0 1))), (9, .v (.bool z)), (13, .v (.agg #[.bool x, .bool y, .bool z])), (14, .v (.int .i64 3)), (15, .v (.bool true)), (16, .v (.bool z)), (17, .v (.int .u8 0)), (18, .v (.int .u8 0)), (19, .v (.bool true)), (20, .v (.int .u8 0)), (21, .v (.int .u8 (bor .u8 0 1))), (22, .v (.int .i64 3))], []⟩ (by kernel_rfl) ?_
        refine X.again (hJ19 _ _ _ ?_)
        refine RX.succ fun J21 hJ21 => ?_
        refine X.run 19 [6] [] (.ex .ret) [] ⟨24, [(6, .v (.int .u8 (bor .u8 0 1)))], []⟩ (by kernel_rfl) ?_
        refine doneG (.inl rfl) [.int .u8 (bor .u8 0 1)] [] (by kernel_rfl) rfl rfl (Ge.refl _ _) ?_
        -- end 7 (FFT)
        refine ⟨?_, rfl⟩
        subst_vars
        rfl
      · -- slot 19: z is False
        refine X.run 8 [6, 7, 9, 13, 14, 15, 16, 17, 18, 19, 22] [] (.ex .normal) [.loop J19, .blk 0, .seq (cA B36 [1, 1, 1])] ⟨24, [(6, .v (.int .u8 0)), (7, .v (.int .u8 0)), (9, .v (.bool z)), (13, .v (.agg #[.bool x, .bool y, .bool z])), (14, .v (.int .i64 3)), (15, .v (.bool true)), (16, .v (.bool z)), (17, .v (.int .u8 0)), (18, .v (.int .u8 0)), (19, .v (.bool false)), (22, .v (.int .i64 3))], []⟩ (by kernel_rfl) ?_
        refine X.again (hJ19 _ _ _ ?_)
        refine RX.succ fun J22 hJ22 => ?_
        refine X.run 19 [6] [] (.ex .ret) [] ⟨24, [(6, .v (.int .u8 0))], []⟩ (by kernel_rfl) ?_
        refine doneG (.inl rfl) [.int .u8 0] [] (by kernel_rfl) rfl rfl (Ge.refl _ _) ?_
        -- end 8 (FFF)
        refine ⟨?_, rfl⟩
        subst_vars
        rfl

/-- leat/flags.Has -/
noncomputable def B37 : Code := bodyOf Try.f37
set_option maxHeartbeats 1000000 in
theorem Has_ok (s0 s1 s2 s3 s4 s5 s6 s7 s8 s9 f : Int) (G : Mem) : CallsG Try.prog 37 [.agg #[.int .u16 s0, .int .u16 s1, .int .u32 s2, .int .u32 s3, .int .u8 s4, .int .u8 s5, .int .u8 s6, .int .u16 s7, .int .u16 s8, .int .u16 s9], .int .u8 f] G (fun _ v rows => v = .bool (band .u8 s6 f == f) ∧ rows = []) := by
  refine CallsG.enter Try.func37 rfl rfl ?_
  intro w
  refine X.run 18 [4] [] (.ex .ret) [] ⟨11, [(4, .v (.bool ((band .u8 s6 f) == f)))], []⟩ (by kernel_rfl) ?_
  refine doneG (.inl rfl) [.bool ((band .u8 s6 f) == f)] [] (by kernel_rfl) rfl rfl (Ge.refl _ _) ?_
  -- end 1 ()
  exact ⟨rfl, rfl⟩
end Go.Proofs.YtjgpdbkkpomhjaaX
