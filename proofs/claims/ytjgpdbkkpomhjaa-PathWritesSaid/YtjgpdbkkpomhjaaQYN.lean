/- A part of a law's proof. Conditions: none. -/
import Derived.Test.YtjgpdbkkpomhjaaQYB
import Derived.RangeFuncNested
import Derived.RangeFuncBox
import Derived.RangeFuncLeaves
import Derived.Shelf.Abstract
import Derived.Shelf.RegionOpen
import Derived.WalkKit
import Derived.OwnWalkIn
import Derived.TacticsInMore
import Derived.LoopNIn
import Derived.LoopIn
import Derived.Maps.AppendAt
import Derived.Test.YtjgpdbkkpomhjaaProg
import Derived.KernelRfl
namespace Go.Proofs.YtjgpdbkkpomhjaaX
open Go.RowKit Go.Shelf
set_option linter.unusedVariables false
attribute [local go_sem] Oper.semAt_some
def Kc (n₀ Bs Bz : Nat) (A B : World) : Prop := Below n₀ A B ∧ (∀ v, Boxed A Bs 22 v → Boxed B Bs 22 v) ∧ (∀ v, Boxed A Bz 3 v → Boxed B Bz 3 v)
theorem Kc.trans {n₀ Bs Bz : Nat} {A B C : World} (h : Kc n₀ Bs Bz A B) (k : Kc n₀ Bs Bz B C) : Kc n₀ Bs Bz A C := ⟨h.1.trans k.1, fun v x => k.2.1 v (h.2.1 v x), fun v x => k.2.2 v (h.2.2 v x)⟩
def part (b off z : Nat) (k : Nat) : Value := .slice (some ⟨b, off + k * z, none⟩) z z
set_option maxRecDepth 100000 in
set_option maxHeartbeats 4000000 in
theorem chunk1_in (F : Fence) (n : Nat) (h177 : F.fn 177) (hro : F.round = none) (hn : 1 ≤ n) (l Bs Bz n₀ b off z cnt cap : Nat) (hz : 0 < z) (hz4 : z ≤ 4) (hc20 : cnt ≤ 20) (hcap : cnt * z ≤ cap) (J Jx : List (Fin cnt) → World → Prop)
    (hJ : ∀ s W W' row, J s W → W.grownBy W' row → (∀ r, row = some r → False) → J s W')
    (hY : ∀ pre (x : Fin cnt) W, J pre W → pre.length < cnt → YieldAt F (n - 1) Try.prog l #[part b off z x.1] W fun e W' =>
      (e = .returned (.bool true) ∧ J (pre ++ [x]) W' ∧ Kc n₀ Bs Bz W W') ∨ (e = .returned (.bool false) ∧ Jx (pre ++ [x]) W'))
    (W : World) (hBs : Boxed W Bs 22 (.slice (some ⟨b, off, none⟩) (cnt * z) cap)) (hBz : Boxed W Bz 3 (.int .i64 z)) (h0 : J [] W) :
    CallsIn F n Try.prog 177 #[.func (.yield l) #[] #[], .pointer (some ⟨Bs, 0, none⟩), .pointer (some ⟨Bz, 0, none⟩)] W fun e W' => (∃ v, e = .returned v) ∧
      ((∃ ys, ys = List.finRange cnt ∧ J ys W') ∨ (∃ pre, Jx pre W')) := by
  refine callsIn_of_wp Try.func177 rfl h177 ?_ hro
  simp only [Try.ntmps177, List.size_toArray, List.length_cons, List.length_nil, Nat.reduceAdd, Nat.reduceSub, Array.replicate_succ, Array.replicate_zero, List.push_toArray, List.append_toArray, List.nil_append, List.cons_append]
  gi_wp2
  gi_loopw [4] (fun i wr => ∃ k : Nat, k ≤ cnt ∧ i = .int .i64 ((k : Int) * (z : Int)) ∧ J ((List.finRange cnt).take k) wr ∧ Boxed wr Bs 22 (.slice (some ⟨b, off, none⟩) (cnt * z) cap) ∧ Boxed wr Bz 3 (.int .i64 z))
    (fun i _ => cnt * z - (intOf i).toNat)
  case atStart => exact ⟨0, Nat.zero_le _, by simp, h0, hBs, hBz⟩
  case round =>
    obtain ⟨k, hk, rfl, hJs, hbs, hbz⟩ := hrel
    have hcs := hbs.cell
    have hcz := hbz.cell
    have hkz : k * z ≤ cnt * z := Nat.mul_le_mul_right z hk
    have hcz80 : cnt * z ≤ 80 := by
      have := Nat.mul_le_mul hc20 hz4
      omega
    by_cases hlt : k < cnt
    · have hlz : k * z + z ≤ cnt * z := by
        have := Nat.mul_le_mul_right z (show k + 1 ≤ cnt from hlt)
        rw [Nat.add_mul, Nat.one_mul] at this
        exact this
      have hkz2 : ((k * z : Nat) : Int) = (k : Int) * (z : Int) := Int.natCast_mul k z
      have hcz2 : ((cnt * z : Nat) : Int) = (cnt : Int) * (z : Int) := Int.natCast_mul cnt z
      have hi0 : (0 : Int) ≤ (k : Int) * (z : Int) := by omega
      have hi1 : (k : Int) * (z : Int) + (z : Int) ≤ (cnt : Int) * (z : Int) := by omega
      have hi2 : (cnt : Int) * (z : Int) ≤ 80 := by omega
      gi_wp2
      have hkn : ((k : Int) * (z : Int)).toNat = k * z := by omega
      have hneg : ¬ (cnt * z - ((k : Int) * (z : Int)).toNat < z) := by omega
      have hJd : J ((List.finRange cnt).take k) wr.drew := hJ _ _ _ none hJs ⟨rfl, rfl, rfl, Nat.le_refl _, fun _ _ _ => rfl⟩ (fun r h => by cases h)
      have hlen_ : ((List.finRange cnt).take k).length = k := by simp; omega
      obtain ⟨fn, tmps, assign, body, hy, hR⟩ := hY _ ⟨k, hlt⟩ wr.drew hJd (by rw [hlen_]; exact hlt)
      dsimp only [part] at hy
      have htk_ : (List.finRange cnt).take k ++ [⟨k, hlt⟩] = (List.finRange cnt).take (k + 1) := by
        rw [List.take_succ_eq_append_getElem (by simpa using hlt)]
        simp
      rw [htk_] at hR
      gi_region
      all_goals gi_wp2
      all_goals refine hR.mono ?_
      all_goals rintro e W3 (⟨rfl, hJ3, hk3⟩ | ⟨rfl, hJx3⟩)
      all_goals first
        | (have hb3 := hk3.2.1 _ (show Boxed wr.drew Bs _ _ from hbs)
           have hz3 := hk3.2.2 _ (show Boxed wr.drew Bz _ _ from hbz)
           have hcz3 := hz3.cell
           gi_wp2
           go_roundw
           case rel => exact ⟨k + 1, hlt, by congr 1; push_cast; rw [Int.add_mul, Int.one_mul], hJ3, hb3, hz3⟩
           case measure => simp [intOf]; omega)
        | (gi_wp2
           refine bodyPost_ret (results_none rfl _ _ _) rfl ?_
           exact ⟨⟨_, rfl⟩, .inr ⟨_, hJx3⟩⟩)
    · obtain rfl : k = cnt := by omega
      gi_wp2
      go_end0
      exact ⟨⟨_, rfl⟩, .inl ⟨_, rfl, by rw [← List.take_of_length_le (l := List.finRange k) (i := k) (by simp)]; exact hJs⟩⟩
set_option maxHeartbeats 1000000 in
theorem chunk_in (F : Fence) (n : Nat) (h172 : F.fn 172) (hro : F.round = none) (a : Option Addr) (len cap z : Nat) (hz : 0 < z) (w : World) :
    CallsIn F n Try.prog 172 #[.slice a len cap, .int .i64 z] w fun e w' => e = .returned (.func (.func 177) #[] #[.pointer (some ⟨w.heap.size, 0, none⟩), .pointer (some ⟨w.heap.size + 1, 0, none⟩)]) ∧ w' = (w.alloc (.cells #[.slice a len cap] 22)).alloc (.cells #[.int .i64 z] 3) := by
  refine callsIn_of_wp Try.func172 rfl h172 ?_ hro
  simp only [Try.ntmps172, List.size_toArray, List.length_cons, List.length_nil, Nat.reduceAdd, Nat.reduceSub, Array.replicate_succ, Array.replicate_zero, List.push_toArray, List.append_toArray, List.nil_append, List.cons_append]
  gi_wp2
  go_ret
  exact ⟨rfl, rfl⟩
theorem Boxed.over {w W : World} {n B : Nat} {t : TypeId} {v : Value} (h : Boxed w B t v) (hW : Below n w W) (hn : B < n) : Boxed W B t v := (hW.block B hn).trans h
theorem chunk_stops (F : Fence) (n : Nat) (h177 : F.fn 177) (hro : F.round = none) (hn : 1 ≤ n) (Bs Bz n₀ b off z cnt cap : Nat) (hz : 0 < z) (hz4 : z ≤ 4) (hc20 : cnt ≤ 20) (hcap : cnt * z ≤ cap) (w : World)
    (hs : Boxed w Bs 22 (.slice (some ⟨b, off, none⟩) (cnt * z) cap)) (hzz : Boxed w Bz 3 (.int .i64 z)) :
    SeqStopsK F n Try.prog 177 #[.pointer (some ⟨Bs, 0, none⟩), .pointer (some ⟨Bz, 0, none⟩)] (fun x : Fin cnt => #[part b off z x.1]) (Kc n₀ Bs Bz) (fun ys => ys = List.finRange cnt) (fun _ => True) cnt w := fun l J Jx W hW hJ _ hY h0 =>
  (chunk1_in F n h177 hro hn l Bs Bz n₀ b off z cnt cap hz hz4 hc20 hcap J Jx (fun s W W' row h hg hr => hJ s W W' row h hg (fun r e => (hr r e).elim)) hY W (Boxed.over hs hW hs.lt) (Boxed.over hzz hW hzz.lt) h0).mono fun e W' ⟨h1, h2⟩ =>
    ⟨h1, h2.imp (fun ⟨ys, he, hj⟩ => ⟨ys, he, hj⟩) (fun ⟨pre, hj⟩ => ⟨pre, trivial, hj⟩)⟩
end Go.Proofs.YtjgpdbkkpomhjaaX
namespace Go.Proofs.YtjgpdbkkpomhjaaX
open Go.RowKit Go.Shelf
set_option linter.unusedVariables false
attribute [local go_sem] Oper.semAt_some
theorem info29 : (Try.prog.info? 29).map (fun i => (i.zero, i.size, i.bytes)) = some (some (.int .u32 0), 1, 4) := by kernel_rfl
def accs (zs : List Int) (p : Nat) : Nat → Int
  | 0 => 0
  | j + 1 => bits BinOp.or .u32 (accs zs p j * 256 % 4294967296) (zs[p + j]?.getD 0 % 4294967296)
def numAt (zs : List Int) (p z : Nat) : Int := accs zs p z
def numsP (zs : List Int) (z : Nat) {cnt : Nat} (pre : List (Fin cnt)) : List Int := pre.map (fun k => numAt zs (k.1 * z) z)
set_option maxRecDepth 100000 in
set_option maxHeartbeats 4000000 in
theorem numbers_in (F : Fence) (n : Nat) (h157 : F.fn 157) (h172 : F.fn 172) (h177 : F.fn 177) (hro : F.round = none) (hn : 3 ≤ n) (b off z cnt cap : Nat) (zs : List Int) (hz : 0 < z) (hz4 : z ≤ 4) (hc20 : cnt ≤ 20) (hcap : cnt * z ≤ cap) (w : World) (hb : 0 < cnt → b < w.heap.size)
    (hcells : ∀ j, j < cnt * z → w.cell? ⟨b, off + j, none⟩ = some (.int .u8 (zs[j]?.getD 0))) :
    CallsIn F n Try.prog 157 #[.slice (some ⟨b, off, none⟩) (cnt * z) cap, .int .i64 z] w fun e W' => ∃ v, e = .returned v ∧ W'.ownsRow w.heap.size 29 1 v cnt ((numsP zs z (List.finRange cnt)).map (Value.int .u32)) ∧ (v = .slice none 0 0 ↔ cnt = 0) ∧ Below w.heap.size w W' := by
  have h1 : 1 ≤ n := by omega
  obtain ⟨i0, hi, hz0, hz1, hz2⟩ := info_parts info29
  refine callsIn_of_wp_marks Try.func157 rfl h157 ?_ hro
  simp only [Try.ntmps157, List.size_toArray, List.length_cons, List.length_nil, Nat.reduceAdd, Nat.reduceSub, Array.replicate_succ, Array.replicate_zero, List.push_toArray, List.append_toArray, List.nil_append, List.cons_append]
  gi_wp2_with (gi_at_call 172; refine (chunk_in F (n - 1) h172 hro _ _ _ _ hz _).mono ?_; rintro e w' ⟨rfl, rfl⟩)
  have bO := Boxed.new w 63 (.slice none 0 0)
  have bS := Boxed.new (w.alloc (.cells #[.slice none 0 0] 63)) 22 (.slice (some ⟨b, off, none⟩) (cnt * z) cap)
  have bZ := Boxed.new ((w.alloc (.cells #[.slice none 0 0] 63)).alloc (.cells #[.slice (some ⟨b, off, none⟩) (cnt * z) cap] 22)) 3 (.int .i64 z)
  rw [World.size_alloc] at bS
  rw [World.size_alloc, World.size_alloc] at bZ
  have hB0 : Below w.heap.size w (((w.alloc (.cells #[.slice none 0 0] 63)).alloc (.cells #[.slice (some ⟨b, off, none⟩) (cnt * z) cap] 22)).alloc (.cells #[.int .i64 z] 3)) := (((Below.refl _ w).alloc (Nat.le_refl _) _).alloc (by simp) _).alloc (by simp; omega) _
  have hKt : ∀ {A B C : World}, Kc w.heap.size (w.heap.size + 1) (w.heap.size + 1 + 1) A B → Kc w.heap.size (w.heap.size + 1) (w.heap.size + 1 + 1) B C → Kc w.heap.size (w.heap.size + 1) (w.heap.size + 1 + 1) A C := fun h k => h.trans k
  refine wpIn_rangeFunc_ownF hro h1 (gf := 177) (lb := #[.pointer (some ⟨w.heap.size + 1, 0, none⟩), .pointer (some ⟨w.heap.size + 1 + 1, 0, none⟩)]) rfl h177 (enters_of Try.func177 (by kernel_rfl) rfl)
    (chunk_stops F (n - 1) h177 hro (by omega) (w.heap.size + 1) (w.heap.size + 1 + 1) w.heap.size b off z cnt cap hz hz4 hc20 hcap _ (bS.alloc _) bZ) hKt ?hKb (Below.refl _ _) (fun _ => rfl)
    (fun pre W => ((∃ v, Boxed W w.heap.size 63 v ∧ W.ownsRow w.heap.size 29 1 v (numsP zs z pre).length ((numsP zs z pre).map (Value.int .u32)) ∧ (v = .slice none 0 0 ↔ numsP zs z pre = [])) ∧ Below w.heap.size w W))
    (fun _ _ _ => False)
    (OwnFrom.and (Own.from (holdsRow_own w.heap.size w.heap.size 63 29 1 (fun pre => (numsP zs z pre).length) (fun pre => (numsP zs z pre).map (Value.int .u32)) (fun pre v => v = .slice none 0 0 ↔ numsP zs z pre = [])) _) (ownFrom_below (Nat.le_refl _) (by simp only [World.size_alloc]; omega)))
    (fun _ _ _ _ _ hs _ _ => hs)
    ⟨⟨_, (bO.alloc _).alloc _, World.ownsRow_nil _ _ _ _, by simp [numsP]⟩, hB0⟩
    (fun x => { tmps := #[.slice (some ⟨b, off, none⟩) (cnt * z) cap, .int .i64 z, undef, undef, .slice none 0 0, .pointer (some ⟨w.heap.size, 0, none⟩), part b off z x.1, undef, undef, undef, .slice (some ⟨b, off, none⟩) (cnt * z) cap, .int .i64 z, .func (.func 177) #[] #[.pointer (some ⟨w.heap.size + 1, 0, none⟩), .pointer (some ⟨w.heap.size + 1 + 1, 0, none⟩)], part b off z x.1, undef, undef, undef, undef, undef, undef, undef, undef, undef, undef, undef, undef, undef, undef, undef, undef, undef], defers := [] }) ?assign ?body ?done ?stop
  case hKb =>
    intro W l o o' hl ho _ hw
    simp only [World.size_alloc] at hl
    exact ⟨belowK_b (w := w) (Nat.le_refl _) W l o o' (by omega) ho ‹_› hw, fun v h => (World.putObj_heap_other (by omega)).trans h, fun v h => (World.putObj_heap_other (by omega)).trans h⟩
  case assign =>
    intro l x W K hK
    gi_wp2
    exact hK
  case body =>
    rintro l pre x W ⟨⟨v, hv, hrow, hnil⟩, hB⟩ hlt
    have hc := hv.cell
    have hpl : (numsP zs z pre).length = pre.length := by simp [numsP]
    have hxz : x.1 * z + z ≤ cnt * z := by
      have := Nat.mul_le_mul_right z (show x.1 + 1 ≤ cnt from x.2)
      rw [Nat.add_mul, Nat.one_mul] at this
      exact this
    have hcl : ∀ j, j < z → W.cell? ⟨b, off + x.1 * z + j, none⟩ = some (.int .u8 (zs[x.1 * z + j]?.getD 0)) := fun j hj => by
      rw [hB.cell (p := ⟨b, off + x.1 * z + j, none⟩) (hb (Nat.lt_of_le_of_lt (Nat.zero_le _) x.2)), Nat.add_assoc]
      exact hcells _ (by omega)
    unfold part
    gi_wp2
    gi_loopw [7, 16] (fun nn ii wr => ∃ j : Nat, j ≤ z ∧ ii = .int .i64 (j : Int) ∧ nn = .int .u32 (accs zs (x.1 * z) j) ∧ wr = W) (fun _ ii _ => z - (intOf ii).toNat)
    case atStart => exact ⟨0, Nat.zero_le _, by simp, by simp [accs], rfl⟩
    case round =>
      obtain ⟨j, hj, rfl, rfl, rfl⟩ := hrel
      by_cases hlj : j < z
      · have hcj := hcl j hlj
        gi_wp2
        go_roundw
        case rel =>
          exact ⟨j + 1, hlj, by simp, rfl, trivial⟩
        case measure => simp [intOf]; omega
      · obtain rfl : j = z := by omega
        gi_wp2_with (gi_at_builtin; refine wpListIn_append_own _ rfl _ _ 63 rfl w.heap.size 29 i0 (.int .u32 0) 1 4 Try.underlying63 hi hz0 hz1 hz2 rfl (by decide) _ _ _ rfl (hrow.alloc _) ⟨wr.heap.size, 0, none⟩ 1 1 [.int .u32 (accs zs (x.1 * j) j)] rfl rfl (cell_one_new _ _ _) (by simp [Value.oneCell']) (by simp only [maxLen]; omega) (by omega) (by have := hB.size; simp; omega) ?_; intro v' w1 hown' hgrow _; obtain ⟨g', cap', rfl⟩ := ownsRow_succ hown'; obtain ⟨hv1, hv2, hr2, hk2, hb2⟩ := hv.appended (by decide) hrow hB.size (Nat.le_refl _) hown' hgrow; have hc1 := hv1.cell; have hf1 := hv1.frozen)
        rw [hpl] at hv2 hr2 hk2 hb2
        refine ⟨hk2, ⟨hb2, fun v0 h => ((h.alloc _).kept hgrow (h.not_row (by decide) hrow)).other (by omega) _, fun v0 h => ((h.alloc _).kept hgrow (h.not_row (by decide) hrow)).other (by omega) _⟩, ⟨⟨_, hv2, ?_, ?_⟩, hB.trans hb2⟩⟩
        · have e_ : numsP zs j (pre ++ [x]) = numsP zs j pre ++ [accs zs (x.1 * j) j] := by simp [numsP, numAt]
          rw [e_, List.length_append, hpl, List.map_append]
          exact hr2
        · simp [numsP]
  case done =>
    rintro D ys W hD rfl ⟨⟨v, hv, hrow, hnil⟩, hB⟩ hK
    have hc := hv.cell
    gi_wp2
    refine ⟨by simp, .inl ⟨_, _, rfl, run_takeDeferred hK, ?_⟩⟩
    exact ⟨_, results_tmp rfl _ _ _, v, rfl, by have h_ := ownsRow_putObj hrow (.deferred none) hK rfl; simpa [numsP] using h_, by rw [hnil]; simp [numsP, ← List.length_eq_zero_iff], hB.trans (belowK_b (w := w) (Nat.le_refl _) W D _ _ (by simp at hD; omega) hK rfl rfl)⟩
  case stop =>
    rintro D c pre W _ _ h _
    exact h.elim
end Go.Proofs.YtjgpdbkkpomhjaaX
namespace Go.Proofs.YtjgpdbkkpomhjaaX
open Go.RowKit Go.Shelf
set_option linter.unusedVariables false
def num (l : List Int) : Int := l.foldl (fun n c => (n * 256 + c) % 4294967296) 0
theorem num_snoc (l : List Int) (c : Int) : num (l ++ [c]) = (num l * 256 + c) % 4294967296 := by simp [num]
theorem num_range (l : List Int) : 0 ≤ num l ∧ num l < 4294967296 := by
  rcases List.eq_nil_or_concat l with rfl | ⟨l', c, rfl⟩
  · simp [num]
  · rw [List.concat_eq_append, num_snoc]
    omega
theorem bits_or {a c : Int} (ha : 0 ≤ a) (hc : 0 ≤ c ∧ c ≤ 255) : bits BinOp.or .u32 (a * 256 % 4294967296) (c % 4294967296) = (a * 256 + c) % 4294967296 := by
  obtain ⟨m, hm⟩ : ∃ m : Nat, a * 256 % 4294967296 = ((256 * m : Nat) : Int) := ⟨(a % 16777216).toNat, by omega⟩
  obtain ⟨b, rfl⟩ : ∃ b : Nat, c = b := ⟨c.toNat, by omega⟩
  have hb : (b : Int) % 4294967296 = b := by omega
  have hm2 : 256 * m < 4294967296 := by omega
  have e := bor_nat (k := .u32) (a := 256 * m) (b := b) rfl (show 256 * m < 2 ^ 32 by omega) (show b < 2 ^ 32 by omega)
  have h : 256 * m ||| b = 256 * m + b := (Nat.two_pow_add_eq_or_of_lt (i := 8) (b := b) (by omega) m).symm
  rw [hm, hb]
  refine Eq.trans (show _ = bor .u32 ((256 * m : Nat) : Int) (b : Int) from rfl) (e.trans ?_)
  rw [h]
  omega
theorem accs_num {zs : List Int} (hz : ∀ x ∈ zs, 0 ≤ x ∧ x ≤ 255) (p : Nat) : ∀ j, p + j ≤ zs.length → accs zs p j = num ((zs.drop p).take j)
  | 0, _ => rfl
  | j + 1, h => by
    have ih := accs_num hz p j (by omega)
    have hl : j < (zs.drop p).length := by rw [List.length_drop]; omega
    have hx : zs[p + j]?.getD 0 = zs[p + j]'(by omega) := by simp [show p + j < zs.length by omega]
    rw [accs, ih, hx, bits_or (num_range _).1 (hz _ (List.getElem_mem _)), List.take_succ_eq_append_getElem hl, num_snoc]
    simp
def numsOf (ns : List Int) (z cnt : Nat) : List Int := (List.range cnt).map (fun k => num ((ns.drop (k * z)).take z))
theorem numsP_of {ns : List Int} {z cnt : Nat} (hz : ∀ x ∈ ns, 0 ≤ x ∧ x ≤ 255) (h : ns.length = cnt * z) : numsP ns z (List.finRange cnt) = numsOf ns z cnt := by
  apply List.ext_getElem
  · simp [numsP, numsOf]
  · intro i h1 h2
    have hi : i < cnt := by simpa [numsOf] using h2
    have hle : i * z + z ≤ cnt * z := by
      have := Nat.mul_le_mul_right z (show i + 1 ≤ cnt from hi)
      rw [Nat.add_mul, Nat.one_mul] at this
      exact this
    simp only [numsP, numsOf, List.getElem_map, List.getElem_finRange, List.getElem_range, numAt]
    exact accs_num hz (i * z) z (by omega)
theorem numsOf_len (ns : List Int) (z cnt : Nat) : (numsOf ns z cnt).length = cnt := by simp [numsOf]
theorem numsOf_range (ns : List Int) (z cnt : Nat) : ∀ n ∈ numsOf ns z cnt, 0 ≤ n ∧ n < 4294967296 := by
  intro n hn
  obtain ⟨k, _, rfl⟩ := List.mem_map.mp hn
  exact num_range _
theorem ownsRow_slice {W : World} {base : Nat} {e : TypeId} {size : Nat} {v : Value} {k : Nat} {xs : List Value} (h : W.ownsRow base e size v k xs) (h0 : v = .slice none 0 0 ↔ k = 0) : ∃ A c, v = .slice A k c := by
  rcases h.2 with ⟨rfl, _⟩ | ⟨g, cap, cur, rfl, _⟩
  · have := h0.mp rfl
    subst this
    exact ⟨_, _, rfl⟩
  · exact ⟨_, _, rfl⟩
theorem ownsRow_base {W : World} {base : Nat} {e : TypeId} {size : Nat} {v : Value} {k : Nat} {xs : List Value} (h : W.ownsRow base e size v k xs) {g : Nat} (hg : v.ownBlock = some g) : base ≤ g := by
  rcases h.2 with ⟨rfl, _⟩ | ⟨g', cap, cur, rfl, hb, _⟩
  · simp [Value.ownBlock] at hg
  · simp [Value.ownBlock] at hg
    omega
theorem numbers_ok (b off cap z cnt : Nat) (ns : List Int) (hz : 0 < z) (hz4 : z ≤ 4) (hc20 : cnt ≤ 20) (hl : ns.length = cnt * z) (hcap : ns.length ≤ cap) (G : Mem) (hr : rowAt (D.int .u8) G (some ⟨b, off, none⟩) ns) :
    CallsG Try.prog 157 [.slice (some ⟨b, off, none⟩) ns.length cap, .int .i64 z] G (fun _ v rows => ∃ A c, v = .slice A cnt c ∧ rows = [⟨29, 1, .slice A cnt c, cnt, (numsOf ns z cnt).map (Value.int .u32)⟩]) := by
  intro w hw
  have hx : ∀ x ∈ ns, 0 ≤ x ∧ x ≤ 255 := by
    intro x hx
    obtain ⟨i, hi, rfl⟩ := List.getElem_of_mem hx
    obtain ⟨ad, cs, _, ⟨_, h1, h2⟩, _⟩ := hr i hi
    exact ⟨h1, h2⟩
  have hcell : ∀ j, j < cnt * z → b < w.heap.size ∧ w.cell? ⟨b, off + j, none⟩ = some (.int .u8 (ns[j]?.getD 0)) := by
    intro j hj
    have hj' : j < ns.length := by omega
    obtain ⟨ad, cs, e, ⟨rfl, _, _⟩, h3⟩ := hr j hj'
    cases e
    have h4 := h3 0 _ rfl
    have h5 := cell_of_G hw h4
    have ea : (⟨b, off, none⟩ : Addr).add (j * (D.int .u8).sz + 0) = ⟨b, off + j, none⟩ := by
      show (⟨b, off, none⟩ : Addr).add (j * 1 + 0) = _
      rw [Nat.mul_one, Nat.add_zero]
      by_cases h0 : j = 0
      · subst h0; simp [Addr.add]
      · simp [Addr.add, h0]
    rw [ea] at h5
    obtain ⟨o, ho, _⟩ := cells_of_cell h5
    exact ⟨(Array.getElem?_eq_some_iff.1 ho).1, by rw [h5]; simp [hj']⟩
  refine (callsIn_wide (n := 3)).1 ?_
  rw [hl] at hcap ⊢
  refine (numbers_in Fence.wide 3 trivial trivial trivial rfl (by omega) b off z cnt cap ns hz hz4 hc20 hcap w (fun h => (hcell 0 (Nat.mul_pos h hz)).1) (fun j hj => (hcell j hj).2)).mono ?_
  rintro e W' ⟨v, rfl, hrow, hnil, hB⟩
  rw [numsP_of hx hl] at hrow
  obtain ⟨A, c, rfl⟩ := ownsRow_slice hrow hnil
  have hlt : ∀ k o, G k = some o → k < w.heap.size := fun k o h => (Array.getElem?_eq_some_iff.1 (hw k o h)).1
  refine ⟨_, G, [⟨29, 1, .slice A cnt c, cnt, (numsOf ns z cnt).map (Value.int .u32)⟩], rfl, hB, Ge.refl _ _, fun k o h => (hB.block k (hlt k o h)).trans (hw k o h), ⟨⟨hrow, fun k hk => ?_⟩, (by simp), trivial⟩, A, c, rfl, rfl⟩
  cases hg : G k with
  | none => rfl
  | some o =>
    have := ownsRow_base hrow hk
    have := hlt k o hg
    omega
end Go.Proofs.YtjgpdbkkpomhjaaX
