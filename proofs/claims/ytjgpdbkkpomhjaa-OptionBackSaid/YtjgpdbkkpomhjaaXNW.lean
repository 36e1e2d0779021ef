/- option.numbers as a contract. Conditions: none. -/
import Derived.Test.YtjgpdbkkpomhjaaXNV
import Derived.Test.YtjgpdbkkpomhjaaX4
namespace Go.Proofs.YtjgpdbkkpomhjaaX
open Go.RowKit Go.Shelf
set_option linter.unusedVariables false
/-- The number of bytes, the great ones first. -/
def num (l : List Int) : Int := l.foldl (fun n c => (n * 256 + c) % 4294967296) 0
theorem num_snoc (l : List Int) (c : Int) : num (l ++ [c]) = (num l * 256 + c) % 4294967296 := by simp [num]
theorem num_range (l : List Int) : 0 ≤ num l ∧ num l < 4294967296 := by
  rcases List.eq_nil_or_concat l with rfl | ⟨l', c, rfl⟩
  · simp [num]
  · rw [List.concat_eq_append, num_snoc]
    omega
theorem bits_or {a c : Int} (ha : 0 ≤ a) (hc : 0 ≤ c ∧ c ≤ 255) : bits BinOp.or .u32 (a * 256 % 4294967296) (c % 4294967296) = (a * 256 + c) % 4294967296 := by
  obtain ⟨m, hm⟩ : ∃ m : Nat, a * 256 % 4294967296 = ((256 * m : Nat) : Int) := ⟨(a % 16777216).toNat, by omega⟩
  obtain ⟨b, rfl⟩ : ∃ b : Nat, c = b := ⟨c.toNat, by omega⟩
  have hb : (b : Int) % 4294967296 = b := by omega
  have hm2 : 256 * m < 4294967296 := by omega
  have e := bor_nat (k := .u32) (a := 256 * m) (b := b) rfl (show 256 * m < 2 ^ 32 by omega) (show b < 2 ^ 32 by omega)
  have h : 256 * m ||| b = 256 * m + b := (Nat.two_pow_add_eq_or_of_lt (i := 8) (b := b) (by omega) m).symm
  rw [hm, hb]
  refine Eq.trans (show _ = bor .u32 ((256 * m : Nat) : Int) (b : Int) from rfl) (e.trans ?_)
  rw [h]
  omega
theorem accs_num {zs : List Int} (hz : ∀ x ∈ zs, 0 ≤ x ∧ x ≤ 255) (p : Nat) : ∀ j, p + j ≤ zs.length → accs zs p j = num ((zs.drop p).take j)
  | 0, _ => rfl
  | j + 1, h => by
    have ih := accs_num hz p j (by omega)
    have hl : j < (zs.drop p).length := by rw [List.length_drop]; omega
    have hx : zs[p + j]?.getD 0 = zs[p + j]'(by omega) := by simp [show p + j < zs.length by omega]
    rw [accs, ih, hx, bits_or (num_range _).1 (hz _ (List.getElem_mem _)), List.take_succ_eq_append_getElem hl, num_snoc]
    simp
/-- The numbers of bytes, z bytes each. -/
def numsOf (ns : List Int) (z cnt : Nat) : List Int := (List.range cnt).map (fun k => num ((ns.drop (k * z)).take z))
theorem numsP_of {ns : List Int} {z cnt : Nat} (hz : ∀ x ∈ ns, 0 ≤ x ∧ x ≤ 255) (h : ns.length = cnt * z) : numsP ns z (List.finRange cnt) = numsOf ns z cnt := by
  apply List.ext_getElem
  · simp [numsP, numsOf]
  · intro i h1 h2
    have hi : i < cnt := by simpa [numsOf] using h2
    have hle : i * z + z ≤ cnt * z := by
      have := Nat.mul_le_mul_right z (show i + 1 ≤ cnt from hi)
      rw [Nat.add_mul, Nat.one_mul] at this
      exact this
    simp only [numsP, numsOf, List.getElem_map, List.getElem_finRange, List.getElem_range, numAt]
    exact accs_num hz (i * z) z (by omega)
theorem numsOf_len (ns : List Int) (z cnt : Nat) : (numsOf ns z cnt).length = cnt := by simp [numsOf]
theorem numsOf_range (ns : List Int) (z cnt : Nat) : ∀ n ∈ numsOf ns z cnt, 0 ≤ n ∧ n < 4294967296 := by
  intro n hn
  obtain ⟨k, _, rfl⟩ := List.mem_map.mp hn
  exact num_range _
theorem ownsRow_slice {W : World} {base : Nat} {e : TypeId} {size : Nat} {v : Value} {k : Nat} {xs : List Value} (h : W.ownsRow base e size v k xs) (h0 : v = .slice none 0 0 ↔ k = 0) : ∃ A c, v = .slice A k c := by
  rcases h.2 with ⟨rfl, _⟩ | ⟨g, cap, cur, rfl, _⟩
  · have := h0.mp rfl
    subst this
    exact ⟨_, _, rfl⟩
  · exact ⟨_, _, rfl⟩
theorem ownsRow_base {W : World} {base : Nat} {e : TypeId} {size : Nat} {v : Value} {k : Nat} {xs : List Value} (h : W.ownsRow base e size v k xs) {g : Nat} (hg : v.ownBlock = some g) : base ≤ g := by
  rcases h.2 with ⟨rfl, _⟩ | ⟨g', cap, cur, rfl, hb, _⟩
  · simp [Value.ownBlock] at hg
  · simp [Value.ownBlock] at hg
    omega
theorem numbers_ok (b off cap z cnt : Nat) (ns : List Int) (hz : 0 < z) (hz4 : z ≤ 4) (hc20 : cnt ≤ 20) (hl : ns.length = cnt * z) (hcap : ns.length ≤ cap) (G : Mem) (hr : rowAt (D.int .u8) G (some ⟨b, off, none⟩) ns) :
    CallsG Try.prog 157 [.slice (some ⟨b, off, none⟩) ns.length cap, .int .i64 z] G (fun _ v rows => ∃ A c, v = .slice A cnt c ∧ rows = [⟨29, 1, .slice A cnt c, cnt, (numsOf ns z cnt).map (Value.int .u32)⟩]) := by
  intro w hw
  have hx : ∀ x ∈ ns, 0 ≤ x ∧ x ≤ 255 := by
    intro x hx
    obtain ⟨i, hi, rfl⟩ := List.getElem_of_mem hx
    obtain ⟨ad, cs, _, ⟨_, h1, h2⟩, _⟩ := hr i hi
    exact ⟨h1, h2⟩
  have hcell : ∀ j, j < cnt * z → b < w.heap.size ∧ w.cell? ⟨b, off + j, none⟩ = some (.int .u8 (ns[j]?.getD 0)) := by
    intro j hj
    have hj' : j < ns.length := by omega
    obtain ⟨ad, cs, e, ⟨rfl, _, _⟩, h3⟩ := hr j hj'
    cases e
    have h4 := h3 0 _ rfl
    have h5 := cell_of_G hw h4
    have ea : (⟨b, off, none⟩ : Addr).add (j * (D.int .u8).sz + 0) = ⟨b, off + j, none⟩ := by
      show (⟨b, off, none⟩ : Addr).add (j * 1 + 0) = _
      rw [Nat.mul_one, Nat.add_zero]
      by_cases h0 : j = 0
      · subst h0; simp [Addr.add]
      · simp [Addr.add, h0]
    rw [ea] at h5
    obtain ⟨o, ho, _⟩ := cells_of_cell h5
    exact ⟨(Array.getElem?_eq_some_iff.1 ho).1, by rw [h5]; simp [hj']⟩
  refine (callsIn_wide (n := 3)).1 ?_
  rw [hl] at hcap ⊢
  refine (numbers_in Fence.wide 3 trivial trivial trivial rfl (by omega) b off z cnt cap ns hz hz4 hc20 hcap w (fun h => (hcell 0 (Nat.mul_pos h hz)).1) (fun j hj => (hcell j hj).2)).mono ?_
  rintro e W' ⟨v, rfl, hrow, hnil, hB⟩
  rw [numsP_of hx hl] at hrow
  obtain ⟨A, c, rfl⟩ := ownsRow_slice hrow hnil
  have hlt : ∀ k o, G k = some o → k < w.heap.size := fun k o h => (Array.getElem?_eq_some_iff.1 (hw k o h)).1
  refine ⟨_, G, [⟨29, 1, .slice A cnt c, cnt, (numsOf ns z cnt).map (Value.int .u32)⟩], rfl, hB, Ge.refl _ _, fun k o h => (hB.block k (hlt k o h)).trans (hw k o h), ⟨⟨hrow, fun k hk => ?_⟩, (by simp), trivial⟩, A, c, rfl, rfl⟩
  cases hg : G k with
  | none => rfl
  | some o =>
    have := ownsRow_base hrow hk
    have := hlt k o hg
    omega
end Go.Proofs.YtjgpdbkkpomhjaaX
