/- option.numbers, walked by hand (the kit's own walk). Conditions: none. -/
import Derived.Test.YtjgpdbkkpomhjaaXNU
namespace Go.Proofs.YtjgpdbkkpomhjaaX
open Go.RowKit Go.Shelf
set_option linter.unusedVariables false
attribute [local go_sem] Oper.semAt_some
theorem info29 : (Try.prog.info? 29).map (fun i => (i.zero, i.size, i.bytes)) = some (some (.int .u32 0), 1, 4) := by kernel_rfl
def accs (zs : List Int) (p : Nat) : Nat → Int
  | 0 => 0
  | j + 1 => bits BinOp.or .u32 (accs zs p j * 256 % 4294967296) (zs[p + j]?.getD 0 % 4294967296)
def numAt (zs : List Int) (p z : Nat) : Int := accs zs p z
def numsP (zs : List Int) (z : Nat) {cnt : Nat} (pre : List (Fin cnt)) : List Int := pre.map (fun k => numAt zs (k.1 * z) z)
set_option maxRecDepth 100000 in
set_option maxHeartbeats 4000000 in
theorem numbers_in (F : Fence) (n : Nat) (h157 : F.fn 157) (h172 : F.fn 172) (h177 : F.fn 177) (hro : F.round = none) (hn : 3 ≤ n) (b off z cnt cap : Nat) (zs : List Int) (hz : 0 < z) (hz4 : z ≤ 4) (hc20 : cnt ≤ 20) (hcap : cnt * z ≤ cap) (w : World) (hb : 0 < cnt → b < w.heap.size)
    (hcells : ∀ j, j < cnt * z → w.cell? ⟨b, off + j, none⟩ = some (.int .u8 (zs[j]?.getD 0))) :
    CallsIn F n Try.prog 157 #[.slice (some ⟨b, off, none⟩) (cnt * z) cap, .int .i64 z] w fun e W' => ∃ v, e = .returned v ∧ W'.ownsRow w.heap.size 29 1 v cnt ((numsP zs z (List.finRange cnt)).map (Value.int .u32)) ∧ (v = .slice none 0 0 ↔ cnt = 0) ∧ Below w.heap.size w W' := by
  have h1 : 1 ≤ n := by omega
  obtain ⟨i0, hi, hz0, hz1, hz2⟩ := info_parts info29
  refine callsIn_of_wp_marks Try.func157 rfl h157 ?_ hro
  simp only [Try.ntmps157, List.size_toArray, List.length_cons, List.length_nil, Nat.reduceAdd, Nat.reduceSub, Array.replicate_succ, Array.replicate_zero, List.push_toArray, List.append_toArray, List.nil_append, List.cons_append]
  gi_wp2_with (gi_at_call 172; refine (chunk_in F (n - 1) h172 hro _ _ _ _ hz _).mono ?_; rintro e w' ⟨rfl, rfl⟩)
  have bO := Boxed.new w 63 (.slice none 0 0)
  have bS := Boxed.new (w.alloc (.cells #[.slice none 0 0] 63)) 22 (.slice (some ⟨b, off, none⟩) (cnt * z) cap)
  have bZ := Boxed.new ((w.alloc (.cells #[.slice none 0 0] 63)).alloc (.cells #[.slice (some ⟨b, off, none⟩) (cnt * z) cap] 22)) 3 (.int .i64 z)
  rw [World.size_alloc] at bS
  rw [World.size_alloc, World.size_alloc] at bZ
  have hB0 : Below w.heap.size w (((w.alloc (.cells #[.slice none 0 0] 63)).alloc (.cells #[.slice (some ⟨b, off, none⟩) (cnt * z) cap] 22)).alloc (.cells #[.int .i64 z] 3)) := (((Below.refl _ w).alloc (Nat.le_refl _) _).alloc (by simp) _).alloc (by simp; omega) _
  have hKt : ∀ {A B C : World}, Kc w.heap.size (w.heap.size + 1) (w.heap.size + 1 + 1) A B → Kc w.heap.size (w.heap.size + 1) (w.heap.size + 1 + 1) B C → Kc w.heap.size (w.heap.size + 1) (w.heap.size + 1 + 1) A C := fun h k => h.trans k
  refine wpIn_rangeFunc_ownF hro h1 (gf := 177) (lb := #[.pointer (some ⟨w.heap.size + 1, 0, none⟩), .pointer (some ⟨w.heap.size + 1 + 1, 0, none⟩)]) rfl h177 (enters_of Try.func177 (by kernel_rfl) rfl)
    (chunk_stops F (n - 1) h177 hro (by omega) (w.heap.size + 1) (w.heap.size + 1 + 1) w.heap.size b off z cnt cap hz hz4 hc20 hcap _ (bS.alloc _) bZ) hKt ?hKb (Below.refl _ _) (fun _ => rfl)
    (fun pre W => ((∃ v, Boxed W w.heap.size 63 v ∧ W.ownsRow w.heap.size 29 1 v (numsP zs z pre).length ((numsP zs z pre).map (Value.int .u32)) ∧ (v = .slice none 0 0 ↔ numsP zs z pre = [])) ∧ Below w.heap.size w W))
    (fun _ _ _ => False)
    (OwnFrom.and (Own.from (holdsRow_own w.heap.size w.heap.size 63 29 1 (fun pre => (numsP zs z pre).length) (fun pre => (numsP zs z pre).map (Value.int .u32)) (fun pre v => v = .slice none 0 0 ↔ numsP zs z pre = [])) _) (ownFrom_below (Nat.le_refl _) (by simp only [World.size_alloc]; omega)))
    (fun _ _ _ _ _ hs _ _ => hs)
    ⟨⟨_, (bO.alloc _).alloc _, World.ownsRow_nil _ _ _ _, by simp [numsP]⟩, hB0⟩
    (fun x => { tmps := #[.slice (some ⟨b, off, none⟩) (cnt * z) cap, .int .i64 z, undef, undef, .slice none 0 0, .pointer (some ⟨w.heap.size, 0, none⟩), part b off z x.1, undef, undef, undef, .slice (some ⟨b, off, none⟩) (cnt * z) cap, .int .i64 z, .func (.func 177) #[] #[.pointer (some ⟨w.heap.size + 1, 0, none⟩), .pointer (some ⟨w.heap.size + 1 + 1, 0, none⟩)], part b off z x.1, undef, undef, undef, undef, undef, undef, undef, undef, undef, undef, undef, undef, undef, undef, undef, undef, undef], defers := [] }) ?assign ?body ?done ?stop
  case hKb =>
    intro W l o o' hl ho _ hw
    simp only [World.size_alloc] at hl
    exact ⟨belowK_b (w := w) (Nat.le_refl _) W l o o' (by omega) ho ‹_› hw, fun v h => (World.putObj_heap_other (by omega)).trans h, fun v h => (World.putObj_heap_other (by omega)).trans h⟩
  case assign =>
    intro l x W K hK
    gi_wp2
    exact hK
  case body =>
    rintro l pre x W ⟨⟨v, hv, hrow, hnil⟩, hB⟩ hlt
    have hc := hv.cell
    have hpl : (numsP zs z pre).length = pre.length := by simp [numsP]
    have hxz : x.1 * z + z ≤ cnt * z := by
      have := Nat.mul_le_mul_right z (show x.1 + 1 ≤ cnt from x.2)
      rw [Nat.add_mul, Nat.one_mul] at this
      exact this
    have hcl : ∀ j, j < z → W.cell? ⟨b, off + x.1 * z + j, none⟩ = some (.int .u8 (zs[x.1 * z + j]?.getD 0)) := fun j hj => by
      rw [hB.cell (p := ⟨b, off + x.1 * z + j, none⟩) (hb (Nat.lt_of_le_of_lt (Nat.zero_le _) x.2)), Nat.add_assoc]
      exact hcells _ (by omega)
    unfold part
    gi_wp2
    gi_loopw [7, 16] (fun nn ii wr => ∃ j : Nat, j ≤ z ∧ ii = .int .i64 (j : Int) ∧ nn = .int .u32 (accs zs (x.1 * z) j) ∧ wr = W) (fun _ ii _ => z - (intOf ii).toNat)
    case atStart => exact ⟨0, Nat.zero_le _, by simp, by simp [accs], rfl⟩
    case round =>
      obtain ⟨j, hj, rfl, rfl, rfl⟩ := hrel
      by_cases hlj : j < z
      · have hcj := hcl j hlj
        gi_wp2
        go_roundw
        case rel =>
          exact ⟨j + 1, hlj, by simp, rfl, trivial⟩
        case measure => simp [intOf]; omega
      · obtain rfl : j = z := by omega
        gi_wp2_with (gi_at_builtin; refine wpListIn_append_own _ rfl _ _ 63 rfl w.heap.size 29 i0 (.int .u32 0) 1 4 Try.underlying63 hi hz0 hz1 hz2 rfl (by decide) _ _ _ rfl (hrow.alloc _) ⟨wr.heap.size, 0, none⟩ 1 1 [.int .u32 (accs zs (x.1 * j) j)] rfl rfl (cell_one_new _ _ _) (by simp [Value.oneCell']) (by simp only [maxLen]; omega) (by omega) (by have := hB.size; simp; omega) ?_; intro v' w1 hown' hgrow _; obtain ⟨g', cap', rfl⟩ := ownsRow_succ hown'; obtain ⟨hv1, hv2, hr2, hk2, hb2⟩ := hv.appended (by decide) hrow hB.size (Nat.le_refl _) hown' hgrow; have hc1 := hv1.cell; have hf1 := hv1.frozen)
        rw [hpl] at hv2 hr2 hk2 hb2
        refine ⟨hk2, ⟨hb2, fun v0 h => ((h.alloc _).kept hgrow (h.not_row (by decide) hrow)).other (by omega) _, fun v0 h => ((h.alloc _).kept hgrow (h.not_row (by decide) hrow)).other (by omega) _⟩, ⟨⟨_, hv2, ?_, ?_⟩, hB.trans hb2⟩⟩
        · have e_ : numsP zs j (pre ++ [x]) = numsP zs j pre ++ [accs zs (x.1 * j) j] := by simp [numsP, numAt]
          rw [e_, List.length_append, hpl, List.map_append]
          exact hr2
        · simp [numsP]
  case done =>
    rintro D ys W hD rfl ⟨⟨v, hv, hrow, hnil⟩, hB⟩ hK
    have hc := hv.cell
    gi_wp2
    refine ⟨by simp, .inl ⟨_, _, rfl, run_takeDeferred hK, ?_⟩⟩
    exact ⟨_, results_tmp rfl _ _ _, v, rfl, by have h_ := ownsRow_putObj hrow (.deferred none) hK rfl; simpa [numsP] using h_, by rw [hnil]; simp [numsP, ← List.length_eq_zero_iff], hB.trans (belowK_b (w := w) (Nat.le_refl _) W D _ _ (by simp at hD; omega) hK rfl rfl)⟩
  case stop =>
    rintro D c pre W _ _ h _
    exact h.elim
end Go.Proofs.YtjgpdbkkpomhjaaX
