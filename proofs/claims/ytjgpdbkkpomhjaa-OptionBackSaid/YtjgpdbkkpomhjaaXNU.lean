/- slices.Chunk's closure, and option.numbers, walked by hand (the kit's own walk). Conditions: none. -/
import Derived.RangeFuncNested
import Derived.RangeFuncBox
import Derived.RangeFuncLeaves
import Derived.Shelf.Abstract
import Derived.Shelf.RegionOpen
import Derived.WalkKit
import Derived.OwnWalkIn
import Derived.TacticsInMore
import Derived.LoopNIn
import Derived.LoopIn
import Derived.Maps.AppendAt
import Derived.Test.YtjgpdbkkpomhjaaProg
import Derived.KernelRfl
import Derived.Test.YtjgpdbkkpomhjaaX2
namespace Go.Proofs.YtjgpdbkkpomhjaaX
open Go.RowKit Go.Shelf
set_option linter.unusedVariables false
attribute [local go_sem] Oper.semAt_some
/-- What a round keeps: what lay below n₀, and two boxes. -/
def Kc (n₀ Bs Bz : Nat) (A B : World) : Prop := Below n₀ A B ∧ (∀ v, Boxed A Bs 22 v → Boxed B Bs 22 v) ∧ (∀ v, Boxed A Bz 3 v → Boxed B Bz 3 v)
theorem Kc.trans {n₀ Bs Bz : Nat} {A B C : World} (h : Kc n₀ Bs Bz A B) (k : Kc n₀ Bs Bz B C) : Kc n₀ Bs Bz A C := ⟨h.1.trans k.1, fun v x => k.2.1 v (h.2.1 v x), fun v x => k.2.2 v (h.2.2 v x)⟩
/-- The k-th part. -/
def part (b off z : Nat) (k : Nat) : Value := .slice (some ⟨b, off + k * z, none⟩) z z
set_option maxRecDepth 100000 in
set_option maxHeartbeats 4000000 in
theorem chunk1_in (F : Fence) (n : Nat) (h177 : F.fn 177) (hro : F.round = none) (hn : 1 ≤ n) (l Bs Bz n₀ b off z cnt cap : Nat) (hz : 0 < z) (hz4 : z ≤ 4) (hc20 : cnt ≤ 20) (hcap : cnt * z ≤ cap) (J Jx : List (Fin cnt) → World → Prop)
    (hJ : ∀ s W W' row, J s W → W.grownBy W' row → (∀ r, row = some r → False) → J s W')
    (hY : ∀ pre (x : Fin cnt) W, J pre W → pre.length < cnt → YieldAt F (n - 1) Try.prog l #[part b off z x.1] W fun e W' =>
      (e = .returned (.bool true) ∧ J (pre ++ [x]) W' ∧ Kc n₀ Bs Bz W W') ∨ (e = .returned (.bool false) ∧ Jx (pre ++ [x]) W'))
    (W : World) (hBs : Boxed W Bs 22 (.slice (some ⟨b, off, none⟩) (cnt * z) cap)) (hBz : Boxed W Bz 3 (.int .i64 z)) (h0 : J [] W) :
    CallsIn F n Try.prog 177 #[.func (.yield l) #[] #[], .pointer (some ⟨Bs, 0, none⟩), .pointer (some ⟨Bz, 0, none⟩)] W fun e W' => (∃ v, e = .returned v) ∧
      ((∃ ys, ys = List.finRange cnt ∧ J ys W') ∨ (∃ pre, Jx pre W')) := by
  refine callsIn_of_wp Try.func177 rfl h177 ?_ hro
  simp only [Try.ntmps177, List.size_toArray, List.length_cons, List.length_nil, Nat.reduceAdd, Nat.reduceSub, Array.replicate_succ, Array.replicate_zero, List.push_toArray, List.append_toArray, List.nil_append, List.cons_append]
  gi_wp2
  gi_loopw [4] (fun i wr => ∃ k : Nat, k ≤ cnt ∧ i = .int .i64 ((k : Int) * (z : Int)) ∧ J ((List.finRange cnt).take k) wr ∧ Boxed wr Bs 22 (.slice (some ⟨b, off, none⟩) (cnt * z) cap) ∧ Boxed wr Bz 3 (.int .i64 z))
    (fun i _ => cnt * z - (intOf i).toNat)
  case atStart => exact ⟨0, Nat.zero_le _, by simp, h0, hBs, hBz⟩
  case round =>
    obtain ⟨k, hk, rfl, hJs, hbs, hbz⟩ := hrel
    have hcs := hbs.cell
    have hcz := hbz.cell
    have hkz : k * z ≤ cnt * z := Nat.mul_le_mul_right z hk
    have hcz80 : cnt * z ≤ 80 := by
      have := Nat.mul_le_mul hc20 hz4
      omega
    by_cases hlt : k < cnt
    · have hlz : k * z + z ≤ cnt * z := by
        have := Nat.mul_le_mul_right z (show k + 1 ≤ cnt from hlt)
        rw [Nat.add_mul, Nat.one_mul] at this
        exact this
      have hkz2 : ((k * z : Nat) : Int) = (k : Int) * (z : Int) := Int.natCast_mul k z
      have hcz2 : ((cnt * z : Nat) : Int) = (cnt : Int) * (z : Int) := Int.natCast_mul cnt z
      have hi0 : (0 : Int) ≤ (k : Int) * (z : Int) := by omega
      have hi1 : (k : Int) * (z : Int) + (z : Int) ≤ (cnt : Int) * (z : Int) := by omega
      have hi2 : (cnt : Int) * (z : Int) ≤ 80 := by omega
      gi_wp2
      have hkn : ((k : Int) * (z : Int)).toNat = k * z := by omega
      have hneg : ¬ (cnt * z - ((k : Int) * (z : Int)).toNat < z) := by omega
      have hJd : J ((List.finRange cnt).take k) wr.drew := hJ _ _ _ none hJs ⟨rfl, rfl, rfl, Nat.le_refl _, fun _ _ _ => rfl⟩ (fun r h => by cases h)
      have hlen_ : ((List.finRange cnt).take k).length = k := by simp; omega
      obtain ⟨fn, tmps, assign, body, hy, hR⟩ := hY _ ⟨k, hlt⟩ wr.drew hJd (by rw [hlen_]; exact hlt)
      dsimp only [part] at hy
      have htk_ : (List.finRange cnt).take k ++ [⟨k, hlt⟩] = (List.finRange cnt).take (k + 1) := by
        rw [List.take_succ_eq_append_getElem (by simpa using hlt)]
        simp
      rw [htk_] at hR
      gi_region
      all_goals gi_wp2
      all_goals refine hR.mono ?_
      all_goals rintro e W3 (⟨rfl, hJ3, hk3⟩ | ⟨rfl, hJx3⟩)
      all_goals first
        | (have hb3 := hk3.2.1 _ (show Boxed wr.drew Bs _ _ from hbs)
           have hz3 := hk3.2.2 _ (show Boxed wr.drew Bz _ _ from hbz)
           have hcz3 := hz3.cell
           gi_wp2
           go_roundw
           case rel => exact ⟨k + 1, hlt, by congr 1; push_cast; rw [Int.add_mul, Int.one_mul], hJ3, hb3, hz3⟩
           case measure => simp [intOf]; omega)
        | (gi_wp2
           refine bodyPost_ret (results_none rfl _ _ _) rfl ?_
           exact ⟨⟨_, rfl⟩, .inr ⟨_, hJx3⟩⟩)
    · obtain rfl : k = cnt := by omega
      gi_wp2
      go_end0
      exact ⟨⟨_, rfl⟩, .inl ⟨_, rfl, by rw [← List.take_of_length_le (l := List.finRange k) (i := k) (by simp)]; exact hJs⟩⟩
set_option maxHeartbeats 1000000 in
theorem chunk_in (F : Fence) (n : Nat) (h172 : F.fn 172) (hro : F.round = none) (a : Option Addr) (len cap z : Nat) (hz : 0 < z) (w : World) :
    CallsIn F n Try.prog 172 #[.slice a len cap, .int .i64 z] w fun e w' => e = .returned (.func (.func 177) #[] #[.pointer (some ⟨w.heap.size, 0, none⟩), .pointer (some ⟨w.heap.size + 1, 0, none⟩)]) ∧ w' = (w.alloc (.cells #[.slice a len cap] 22)).alloc (.cells #[.int .i64 z] 3) := by
  refine callsIn_of_wp Try.func172 rfl h172 ?_ hro
  simp only [Try.ntmps172, List.size_toArray, List.length_cons, List.length_nil, Nat.reduceAdd, Nat.reduceSub, Array.replicate_succ, Array.replicate_zero, List.push_toArray, List.append_toArray, List.nil_append, List.cons_append]
  gi_wp2
  go_ret
  exact ⟨rfl, rfl⟩
theorem Boxed.over {w W : World} {n B : Nat} {t : TypeId} {v : Value} (h : Boxed w B t v) (hW : Below n w W) (hn : B < n) : Boxed W B t v := (hW.block B hn).trans h
theorem chunk_stops (F : Fence) (n : Nat) (h177 : F.fn 177) (hro : F.round = none) (hn : 1 ≤ n) (Bs Bz n₀ b off z cnt cap : Nat) (hz : 0 < z) (hz4 : z ≤ 4) (hc20 : cnt ≤ 20) (hcap : cnt * z ≤ cap) (w : World)
    (hs : Boxed w Bs 22 (.slice (some ⟨b, off, none⟩) (cnt * z) cap)) (hzz : Boxed w Bz 3 (.int .i64 z)) :
    SeqStopsK F n Try.prog 177 #[.pointer (some ⟨Bs, 0, none⟩), .pointer (some ⟨Bz, 0, none⟩)] (fun x : Fin cnt => #[part b off z x.1]) (Kc n₀ Bs Bz) (fun ys => ys = List.finRange cnt) (fun _ => True) cnt w := fun l J Jx W hW hJ _ hY h0 =>
  (chunk1_in F n h177 hro hn l Bs Bz n₀ b off z cnt cap hz hz4 hc20 hcap J Jx (fun s W W' row h hg hr => hJ s W W' row h hg (fun r e => (hr r e).elim)) hY W (Boxed.over hs hW hs.lt) (Boxed.over hzz hW hzz.lt) h0).mono fun e W' ⟨h1, h2⟩ =>
    ⟨h1, h2.imp (fun ⟨ys, he, hj⟩ => ⟨ys, he, hj⟩) (fun ⟨pre, hj⟩ => ⟨pre, trivial, hj⟩)⟩
end Go.Proofs.YtjgpdbkkpomhjaaX
