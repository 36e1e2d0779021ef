/- A part of a law's proof. Conditions: none. -/
import Derived.Test.YtjgpdbkkpomhjaaProg
import Derived.KernelRfl
import Derived.Test.YtjgpdbkkpomhjaaQYI2
import Derived.Test.YtjgpdbkkpomhjaaQYN
import Derived.Scope
import Derived.Test.YtjgpdbkkpomhjaaQYT
namespace Go.Proofs.YtjgpdbkkpomhjaaX
open Go.RowKit
open Go.Proofs.YtjgpdbkkpomhjaaW.PrintLast
set_option linter.unusedVariables false
set_option linter.unusedSimpArgs false
set_option maxRecDepth 100000
theorem lo6 {x : Int} (hx : 0 ≤ x ∧ x ≤ 255) : band .u8 x 63 = Int.tmod x 64 := of_decide_eq_true (byteAll (p := fun x => decide (band .u8 x 63 = Int.tmod x 64)) (by decide +kernel) hx)
def okP (k : Int) (m : Nat) : Bool := decide (szk k = 0) || decide ((m : Int) % szk k = 0 ∧ lk2 k ≤ (m : Int) / szk k ∧ (m : Int) / szk k ≤ mk2 k)
def oneE (l : List Int) : Int := if l.length < 2 then 3 else if l.getD 1 0 < 2 then 5 else if (l.length : Int) < l.getD 1 0 then 3 else if okP (l.getD 0 0) ((l.getD 1 0).toNat - 2) = true then 0 else 5
def oneN (l : List Int) : Int := if oneE l = 0 then l.getD 1 0 else 0
def inB (l : List Int) : List Int := (l.take (l.getD 1 0).toNat).drop 2
def optS (k : Int) (b : List Int) : Opt := if szk k = 0 then (k, [], strOf b) else (k, numsOf b (szk k).toNat (b.length / (szk k).toNat), ⟨#[]⟩)
def oneO (l : List Int) : Opt := if oneE l = 0 then optS (l.getD 0 0) (inB l) else (l.getD 0 0, [], ⟨#[]⟩)
def parseO : List Opt → List Int → List Opt × Int
 | acc, [] => (acc, 0)
 | acc, c :: r => if c = 0 then (if ∃ x ∈ r, x ≠ 0 then ([], 5) else (acc, 0)) else if c = 1 then parseO acc r else if oneE (c :: r) ≠ 0 then ([], oneE (c :: r)) else if hadB acc c = true then ([], 5) else parseO (acc ++ [oneO (c :: r)]) (r.drop ((oneN (c :: r)).toNat - 1))
termination_by _ l => l.length
decreasing_by
 · simp
 · simp only [List.length_cons, List.length_drop]; omega
def optP (l : List Int) : List Opt × Int := if 40 < l.length then ([], 4) else parseO [] l
theorem cons_of {l : List Int} (h : 0 < l.length) : l = l.getD 0 0 :: l.drop 1 := by
 cases l with
 | nil => simp at h
 | cons c r => simp
theorem parse_nil {acc : List Opt} {l : List Int} (h : l.length = 0) : parseO acc l = (acc, 0) := by
 rw [List.eq_nil_of_length_eq_zero h, parseO]
theorem parse_bad {acc : List Opt} {l : List Int} {i : Nat} (h : 0 < l.length) (h0 : l.getD 0 0 = 0) (hi : i < l.length) (hx : l.getD i 0 ≠ 0) : parseO acc l = ([], 5) := by
 cases l with
 | nil => simp at h
 | cons c r =>
  have h0 : c = 0 := h0
  cases i with
  | zero => exact absurd h0 hx
  | succ i =>
   rw [parseO, if_pos h0, if_pos ⟨r.getD i 0, getD_mem (by simpa using hi), hx⟩]
theorem parse_zero {acc : List Opt} {l : List Int} (h : 0 < l.length) (h0 : ∀ x ∈ l, x = 0) : parseO acc l = (acc, 0) := by
 have h1 : l.getD 0 0 = 0 := h0 _ (getD_mem h)
 rw [cons_of h, parseO, if_pos h1, if_neg]
 rintro ⟨x, hx, hn⟩
 exact hn (h0 x (List.mem_of_mem_drop hx))
theorem parse_one {acc : List Opt} {l : List Int} (h : 0 < l.length) (h0 : l.getD 0 0 = 1) : parseO acc l = parseO acc (l.drop 1) := by
 rw [cons_of h, parseO, h0, if_neg (by decide), if_pos rfl]
 simp
theorem parse_err {acc : List Opt} {l : List Int} (h : 0 < l.length) (h0 : l.getD 0 0 ≠ 0) (h1 : l.getD 0 0 ≠ 1) (he : oneE l ≠ 0) : parseO acc l = ([], oneE l) := by
 have e := cons_of h
 rw [e, parseO, if_neg h0, if_neg h1, ← e, if_pos he]
theorem parse_had {acc : List Opt} {l : List Int} (h : 0 < l.length) (h0 : l.getD 0 0 ≠ 0) (h1 : l.getD 0 0 ≠ 1) (he : oneE l = 0) (hh : hadB acc (l.getD 0 0) = true) : parseO acc l = ([], 5) := by
 have e := cons_of h
 rw [e, parseO, if_neg h0, if_neg h1, ← e, if_neg (by rw [he]; decide), if_pos hh]
theorem oneE_ok {l : List Int} (he : oneE l = 0) : 2 ≤ l.length ∧ 2 ≤ l.getD 1 0 ∧ l.getD 1 0 ≤ l.length ∧ okP (l.getD 0 0) ((l.getD 1 0).toNat - 2) = true ∧ oneN l = l.getD 1 0 := by
 have h := he
 unfold oneE at h
 split at h
 · exact absurd h (by decide)
 ·
  split at h
  · exact absurd h (by decide)
  ·
   split at h
   · exact absurd h (by decide)
   ·
    split at h
    ·
     rename_i h1 h2 h3 h4
     exact ⟨by omega, by omega, by omega, h4, by unfold oneN; rw [if_pos he]⟩
    · exact absurd h (by decide)
theorem parse_step {acc : List Opt} {l : List Int} (h : 0 < l.length) (h0 : l.getD 0 0 ≠ 0) (h1 : l.getD 0 0 ≠ 1) (he : oneE l = 0) (hh : hadB acc (l.getD 0 0) = false) : parseO acc l = parseO (acc ++ [oneO l]) (l.drop (oneN l).toNat) := by
 have e := cons_of h
 obtain ⟨_, h2, _, _, h3⟩ := oneE_ok he
 conv => lhs; rw [e, parseO, if_neg h0, if_neg h1, ← e, if_neg (by rw [he]; decide), if_neg (by rw [hh]; decide)]
 rw [List.drop_drop, show 1 + ((oneN l).toNat - 1) = (oneN l).toNat by omega]
theorem optP_long {l : List Int} (h : 40 < l.length) : optP l = ([], 4) := if_pos h
theorem optP_of {l : List Int} (h : ¬ 40 < l.length) : optP l = parseO [] l := if_neg h
theorem oneE_short {l : List Int} (h : l.length < 2) : oneE l = 3 := if_pos h
theorem oneE_small {l : List Int} (h : ¬ l.length < 2) (h1 : l.getD 1 0 < 2) : oneE l = 5 := by rw [oneE, if_neg h, if_pos h1]
theorem oneE_far {l : List Int} (h : ¬ l.length < 2) (h1 : ¬ l.getD 1 0 < 2) (h2 : (l.length : Int) < l.getD 1 0) : oneE l = 3 := by rw [oneE, if_neg h, if_neg h1, if_pos h2]
theorem oneE_form {l : List Int} (h : ¬ l.length < 2) (h1 : ¬ l.getD 1 0 < 2) (h2 : ¬ (l.length : Int) < l.getD 1 0) (h3 : okP (l.getD 0 0) ((l.getD 1 0).toNat - 2) = false) : oneE l = 5 := by rw [oneE, if_neg h, if_neg h1, if_neg h2, if_neg (by rw [h3]; decide)]
theorem oneE_fine {l : List Int} (h : ¬ l.length < 2) (h1 : ¬ l.getD 1 0 < 2) (h2 : ¬ (l.length : Int) < l.getD 1 0) (h3 : okP (l.getD 0 0) ((l.getD 1 0).toNat - 2) = true) : oneE l = 0 := by rw [oneE, if_neg h, if_neg h1, if_neg h2, if_pos h3]
theorem okP_free {k : Int} {m : Nat} (h : szk k = 0) : okP k m = true := by simp [okP, h]
theorem okP_eq {k : Int} {m : Nat} (h : szk k ≠ 0) : okP k m = decide ((m : Int) % szk k = 0 ∧ lk2 k ≤ (m : Int) / szk k ∧ (m : Int) / szk k ≤ mk2 k) := by simp [okP, h]
theorem inB_len {l : List Int} (h : l.getD 1 0 ≤ l.length) : (inB l).length = (l.getD 1 0).toNat - 2 := by
 simp only [inB, List.length_drop, List.length_take]
 omega
theorem strOf_small {l : List Int} (h : l.length ≤ 60) : (strOf l).size ≤ maxLen := by rw [strOf_size]; simp only [maxLen]; omega
theorem rowAt_addr {k : IntKind} {G : Mem} {A : Option Addr} {ns : List Int} (h : rowAt (D.int k) G A ns) (hl : 0 < ns.length) : ∃ b off, A = some ⟨b, off, none⟩ := by
 obtain ⟨ad, cs, rfl, ⟨rfl, _, _⟩, h3⟩ := h 0 hl
 have h4 := h3 0 _ rfl
 obtain ⟨b, off, sp⟩ := ad
 cases sp with
 | none => exact ⟨b, off, rfl⟩
 | some x =>
  unfold cellG Addr.add at h4
  split at h4
  ·
   split at h4
   · simp at h4
   ·
    rename_i hs
    exfalso
    apply hs
    simp
  · cases h4
theorem cutA_addr {A : Option Addr} {c lo sz b off : Nat} (h : A = some ⟨b, off, none⟩) : ∃ b' off', cutA A c lo sz = some ⟨b', off', none⟩ := by
 subst h
 unfold cutA
 split
 · exact ⟨_, _, rfl⟩
 ·
  simp [Addr.add]
  split <;> exact ⟨_, _, rfl⟩
def scopeOf : Code → Code
 | .scope c => c
 | c => c
abbrev scopeCtx (C : Ctx) (k : List CK) : Ctx := ⟨C.P, Exit.noGoto (den C k), C.w0, C.M⟩
section
variable {C : Ctx} {k : List CK} {s : S} {R : List (Nat × Row)} {G : Mem}
theorem X.scope {c c' : Code} (h : c = .scope c') (H : X (scopeCtx C k) (.code c') [] s R G) : X C (.code c) k s R G := by
 subst h
 intro ρ a w hs
 refine wp_scope_straight ?_
 have e : den (scopeCtx C k) [] = Exit.noGoto (den C k) := by
  funext e a w
  rfl
 have h := H ρ a w hs
 rw [← e]
 exact h
theorem X.scopeEnd {e : Exit} (he : ∀ l, e ≠ .goto l) (H : X C (.ex e) k s R G) : X (scopeCtx C k) (.ex e) [] s R G := by
 intro ρ a w hs
 have h := H ρ a w hs
 show Exit.noGoto (den C k) e a w
 cases e with
 | goto l => exact absurd rfl (he l)
 | normal => exact h
 | exit i => exact h
 | ret => exact h
 | panic c => exact h
 | outgrown => exact h
end
theorem okP_lit {k : Int} {m : Nat} {z lo hi : Int} (hz : szk k = z) (h : z ≠ 0) (hl : lk2 k = lo) (hm : mk2 k = hi) : okP k m = decide ((m : Int) % z = 0 ∧ lo ≤ (m : Int) / z ∧ (m : Int) / z ≤ hi) := by
 subst hz hl hm
 exact okP_eq h
theorem numbers_okA {A : Option Addr} {b off : Nat} (hA : A = some ⟨b, off, none⟩) (cap z cnt : Nat) (ns : List Int) (hz : 0 < z) (hz4 : z ≤ 4) (hc20 : cnt ≤ 20) (hl : ns.length = cnt * z) (hcap : ns.length ≤ cap) (G : Mem) (hr : rowAt (D.int .u8) G A ns) :
  CallsG Try.prog 157 [.slice A ns.length cap, .int .i64 z] G (fun _ v rows => ∃ A c, v = .slice A cnt c ∧ rows = [⟨29, 1, .slice A cnt c, cnt, (numsOf ns z cnt).map (Value.int .u32)⟩]) := by
 subst hA
 exact numbers_ok b off cap z cnt ns hz hz4 hc20 hl hcap G hr
noncomputable def B120 : Code := bodyOf Try.f120
set_option maxHeartbeats 4000000 in
theorem one_ok (A : Option Addr) (c : Nat) (ns : List Int) (G : Mem) (hr : rowAt (D.int .u8) G A ns) (hle : ns.length ≤ c) (hmx : c ≤ maxLen) (h0 : 0 < ns.length) (h60 : ns.length ≤ 60) : CallsG Try.prog 120 [.slice A ns.length c] G (fun _ v rows => ∃ A' c', v = .tuple #[.agg #[.int .i64 (ns.getD 0 0), .slice A' (oneO ns).2.1.length c', .string (oneO ns).2.2], .int .i64 (oneN ns), .int .i64 (oneE ns)] ∧ rows = [⟨29, 1, .slice A' (oneO ns).2.1.length c', (oneO ns).2.1.length, (oneO ns).2.1.map (Value.int .u32)⟩]) := by
 simp only [maxLen] at hmx
 obtain ⟨b0, o0, hA0⟩ := rowAt_addr hr h0
 refine CallsG.enter Try.func120 rfl rfl ?_
 intro w
 refine Rn 10 (Qo B120 6 1) [Qs B120 7] ⟨88, [(0, VL A ns.length c), (2, .own 2 0), (3, I6 0), (4, I6 0), (10, VL A ns.length c)], [(2, ⟨65, [I6 0, VL none 0 0, VT ByteArray.empty]⟩)]⟩ ?_
 refine Ix 22 5 1 A ns.length c .i64 0 (.tmp 10) (.const (N6 0)) (by omega) (by omega) (fun _ _ => rowAt.so hr (by omega)) ?_
 obtain ⟨at3, lo3, hi3⟩ := At.int [] hr 0 (by omega)
 simp only [IntKind.lo, IntKind.hi] at lo3 hi3
 refine Ra 0 (Qo B120 6 2) 0 [] [(11, .v (elt A (0 * 1)))] ?_
 refine Ld 5 A (0 * 1) (.tmp 11) (N8 (ns.getD 0 0)) [N8 (ns.getD 0 0)] at3 ?_
 refine Ra 1 (Qo B120 6 4) 0 [] [(13, I6 (IntKind.i64.wrap (ns.getD 0 0)))] ?_
 refine Kn 13 .i64 (ns.getD 0 0) rfl (wi64 (by omega) (by omega)) ?_
 refine Rb 15 (Qc B120 57) 1 [.blk 0, Qs B120 15] [(5, .own 5 0), (15, VB (decide ((ns.length : Int) < 2)))] [] [(5, ⟨65, [I6 (ns.getD 0 0), VL none 0 0, VT ByteArray.empty]⟩)] [] ?_
 refine Sd 15 rfl ?_ ?_ <;> intro h4
 ·
  refine Rb 12 (.ex .ret) 2 [] [(4, I6 3)] [0, 5, 15] [(2, ⟨65, [I6 (ns.getD 0 0), VL none 0 0, VT ByteArray.empty]⟩)] [5] ?_
  refine X.nilRow 900 29 1 rfl ?_
  refine Dg (.inl rfl) [.agg #[N6 (ns.getD 0 0), .slice none 0 0, .string ByteArray.empty], N6 0, N6 3] [900] rfl (Ge.refl _ _) ?_
  have he_ : oneE ns = 3 := oneE_short (by omega)
  have hn_ : oneN ns = 0 := by unfold oneN; rw [if_neg (by rw [he_]; decide)]
  have ho_ : oneO ns = ((ns.getD 0 0), [], ⟨#[]⟩) := by unfold oneO; rw [if_neg (by rw [he_]; decide)]
  rw [he_, hn_, ho_]
  exact ⟨none, 0, rfl, rfl⟩
 ·
  refine Rc 4 (Qo B120 230 1) 0 [Qs B120 231] [(21, VL A ns.length c)] [15] ?_
  refine Ix 22 5 1 A ns.length c .i64 1 (.tmp 21) (.const (N6 1)) (by omega) (by omega) (fun _ _ => rowAt.so hr (by omega)) ?_
  obtain ⟨at7, lo7, hi7⟩ := At.int [] hr 1 (by omega)
  simp only [IntKind.lo, IntKind.hi] at lo7 hi7
  refine Ra 0 (Qo B120 230 2) 0 [] [(22, .v (elt A (1 * 1)))] ?_
  refine Ld 5 A (1 * 1) (.tmp 22) (N8 (ns.getD 1 0)) [N8 (ns.getD 1 0)] at7 ?_
  refine Ra 4 (Qc B120 231) 1 [] [(20, VB (decide ((ns.getD 1 0) < 2)))] ?_
  refine Sd 20 rfl ?_ ?_ <;> intro h8
  ·
   refine Rb 12 (.ex .ret) 2 [] [(4, I6 5)] [0, 5, 20] [(2, ⟨65, [I6 (ns.getD 0 0), VL none 0 0, VT ByteArray.empty]⟩)] [5] ?_
   refine X.nilRow 900 29 1 rfl ?_
   refine Dg (.inl rfl) [.agg #[N6 (ns.getD 0 0), .slice none 0 0, .string ByteArray.empty], N6 0, N6 5] [900] rfl (Ge.refl _ _) ?_
   have he_ : oneE ns = 5 := oneE_small (by omega) (by omega)
   have hn_ : oneN ns = 0 := by unfold oneN; rw [if_neg (by rw [he_]; decide)]
   have ho_ : oneO ns = ((ns.getD 0 0), [], ⟨#[]⟩) := by unfold oneO; rw [if_neg (by rw [he_]; decide)]
   rw [he_, hn_, ho_]
   exact ⟨none, 0, rfl, rfl⟩
  ·
   refine Rc 4 (Qo B120 926 1) 0 [Qs B120 927] [(27, VL A ns.length c)] [20] ?_
   refine Ix 22 5 1 A ns.length c .i64 1 (.tmp 27) (.const (N6 1)) (by omega) (by omega) (fun _ _ => rowAt.so hr (by omega)) ?_
   obtain ⟨at11, lo11, hi11⟩ := At.int [] hr 1 (by omega)
   simp only [IntKind.lo, IntKind.hi] at lo11 hi11
   refine Ra 0 (Qo B120 926 2) 0 [] [(28, .v (elt A (1 * 1)))] ?_
   refine Ld 5 A (1 * 1) (.tmp 28) (N8 (ns.getD 1 0)) [N8 (ns.getD 1 0)] at11 ?_
   refine Ra 1 (Qo B120 926 4) 0 [] [(30, I6 (IntKind.i64.wrap (ns.getD 1 0)))] ?_
   refine Kn 30 .i64 (ns.getD 1 0) rfl (wi64 (by omega) (by omega)) ?_
   refine Ra 6 (Qc B120 927) 1 [] [(26, VB (decide (ns.getD 1 0 > (ns.length : Int))))] ?_
   refine Sd 26 rfl ?_ ?_ <;> intro h12
   ·
    refine Rb 12 (.ex .ret) 2 [] [(4, I6 3)] [0, 5, 26] [(2, ⟨65, [I6 (ns.getD 0 0), VL none 0 0, VT ByteArray.empty]⟩)] [5] ?_
    refine X.nilRow 900 29 1 rfl ?_
    refine Dg (.inl rfl) [.agg #[N6 (ns.getD 0 0), .slice none 0 0, .string ByteArray.empty], N6 0, N6 3] [900] rfl (Ge.refl _ _) ?_
    have he_ : oneE ns = 3 := oneE_far (by omega) (by omega) (by omega)
    have hn_ : oneN ns = 0 := by unfold oneN; rw [if_neg (by rw [he_]; decide)]
    have ho_ : oneO ns = ((ns.getD 0 0), [], ⟨#[]⟩) := by unfold oneO; rw [if_neg (by rw [he_]; decide)]
    rw [he_, hn_, ho_]
    exact ⟨none, 0, rfl, rfl⟩
   ·
    refine Rc 8 (Qo B120 30 2) 2 [Qs B120 31] [(35, VL A ns.length c), (36, VL A ns.length c)] [26] ?_
    refine Ix 22 5 1 A ns.length c .i64 1 (.tmp 36) (.const (N6 1)) (by omega) (by omega) (fun _ _ => rowAt.so hr (by omega)) ?_
    obtain ⟨at15, lo15, hi15⟩ := At.int [] hr 1 (by omega)
    simp only [IntKind.lo, IntKind.hi] at lo15 hi15
    refine Ra 0 (Qo B120 30 3) 0 [] [(37, .v (elt A (1 * 1)))] ?_
    refine Ld 5 A (1 * 1) (.tmp 37) (N8 (ns.getD 1 0)) [N8 (ns.getD 1 0)] at15 ?_
    refine Rn 0 (Qo B120 30 4) [Qs B120 31] ⟨88, [(0, VL A ns.length c), (2, .own 2 0), (3, I6 0), (4, I6 0), (5, .own 5 0), (35, VL A ns.length c), (38, I8 (ns.getD 1 0))], [(2, ⟨65, [I6 0, VL none 0 0, VT ByteArray.empty]⟩), (5, ⟨65, [I6 (ns.getD 0 0), VL none 0 0, VT ByteArray.empty]⟩)]⟩ ?_
    have hlo16 : 2 ≤ ((ns.getD 1 0)).toNat := by omega
    have hhi16 : ((ns.getD 1 0)).toNat ≤ ns.length := by omega
    refine X.cut (t := 22) (e := 5) (sz := 1) (n := ns.length) (c := c) (A := A) (x := .tmp 35) (l := (some (.const (N6 2)))) (h := (some (.tmp 38))) (lv := (some (N6 2))) (hv := (some (N8 (ns.getD 1 0)))) 2 (((ns.getD 1 0)).toNat) (by kernel_rfl) (by kernel_rfl) (by kernel_rfl) (by kernel_rfl) (by kernel_rfl) (by kernel_rfl) (by kernel_rfl) (⟨_, _, rfl, by omega, rfl⟩) (⟨_, _, rfl, by omega, rfl⟩) hlo16 (Nat.le_trans hhi16 hle) ?_
    obtain ⟨A16, hA16⟩ : ∃ A_, cutA A c 2 1 = A_ := ⟨_, rfl⟩
    obtain ⟨ys16, hys16⟩ : ∃ l_, (ns.take (((ns.getD 1 0)).toNat)).drop 2 = l_ := ⟨_, rfl⟩
    have hr16 : rowAt (D.int .u8) G (cutA A c 2 1) ((ns.take (((ns.getD 1 0)).toNat)).drop 2) := rowAt_cut hr hlo16 hhi16 hle
    have hl16 : (((ns.getD 1 0)).toNat) - 2 = ys16.length := by rw [← hys16, List.length_drop, List.length_take]; omega
    have hc16 : ys16.length ≤ c - 2 := by omega
    have hm16 : c - 2 ≤ maxLen := Nat.le_trans (Nat.sub_le _ _) hmx
    rw [hys16, show cutA A c 2 _ = A16 from hA16] at hr16
    rw [hA16, hl16]
    refine Ra 7 (Qo B120 62 2) 1 [Qs B120 63] [(6, VL A16 ys16.length (c - 2)), (42, I6 (ns.getD 0 0))] ?_
    refine X.inline (f := 108) (l := [I6 (ns.getD 0 0)]) (fn := Try.f108) (c := B108) (by kernel_rfl) (by kernel_rfl) Try.func108 (by kernel_rfl) ?_
    intro Q17 M17 hM17 hQ17 fin17
    refine Ra 20 (Qc B108 53) 0 [.blk 0, Qs B108 7] [(2, I6 0), (3, I6 0), (4, I6 0), (5, I6 (ns.getD 0 0)), (6, VB ((ns.getD 0 0) == 2))] ?_
    refine Se 6 rfl ?_ ?_ <;> intro h18
    ·
     refine Rc 11 (.ex .ret) 2 [] [(2, I6 2), (3, I6 1), (4, I6 1)] [5, 6] ?_
     refine fin17 _ _ _ _ [N6 2, N6 1, N6 1] [(2, ⟨65, [I6 0, VL none 0 0, VT ByteArray.empty]⟩), (5, ⟨65, [I6 (ns.getD 0 0), VL none 0 0, VT ByteArray.empty]⟩)] (.inl rfl) (by kernel_rfl) (by kernel_rfl) ?_
     refine Ra 26 (Qo B120 508 4) 1 [Qs B120 509, Qs B120 255] [(7, I6 2), (8, I6 1), (9, I6 1), (60, I6 (Int.tmod (ys16.length : Int) 2))] ?_
     refine Kn 60 .i64 ((ys16.length : Int) % 2) rfl (Int.tmod_eq_emod_of_nonneg (by omega)) ?_
     refine Ra 2 (Qo B120 508 6) 0 [] [(62, VB (((ys16.length : Int) % 2) != 0))] ?_
     refine Sn 62 rfl ?_ ?_ <;> intro h19
     ·
      refine Rb 28 (.ex .ret) 2 [] [(4, I6 5)] [0, 5, 6, 7, 8, 9, 62] [(2, ⟨65, [I6 (ns.getD 0 0), VL none 0 0, VT ByteArray.empty]⟩)] [5] ?_
      refine X.nilRow 900 29 1 rfl ?_
      refine Dg (.inl rfl) [.agg #[N6 (ns.getD 0 0), .slice none 0 0, .string ByteArray.empty], N6 0, N6 5] [900] rfl (Ge.refl _ _) ?_
      have hsz_ : szk (ns.getD 0 0) = 2 := by rw [show (ns.getD 0 0) = 2 by assumption]; rfl
      have hyl_ : ys16.length = (ns.getD 1 0).toNat - 2 := by rw [← hys16, List.length_drop, List.length_take]; omega
      have hok_ := okP_lit (m := (ns.getD 1 0).toNat - 2) hsz_ (by decide) (show lk2 (ns.getD 0 0) = 1 by rw [show (ns.getD 0 0) = 2 by assumption]; rfl) (show mk2 (ns.getD 0 0) = 1 by rw [show (ns.getD 0 0) = 2 by assumption]; rfl)
      rw [decide_eq_false (by omega)] at hok_
      have he_ : oneE ns = 5 := oneE_form (by omega) (by omega) (by omega) hok_
      have hn_ : oneN ns = 0 := by unfold oneN; rw [if_neg (by rw [he_]; decide)]
      have ho_ : oneO ns = ((ns.getD 0 0), [], ⟨#[]⟩) := by unfold oneO; rw [if_neg (by rw [he_]; decide)]
      rw [he_, hn_, ho_]
      exact ⟨none, 0, rfl, rfl⟩
     ·
      refine Ra 4 (Qo B120 508 10) 0 [] [(62, VB false), (66, I6 (IntKind.i64.wrap (Int.tdiv (ys16.length : Int) 2)))] ?_
      refine Kn 66 .i64 ((ys16.length : Int) / 2) rfl (wdiv_i64 (by omega) (by omega) (by omega)) ?_
      refine Rc 4 (Qo B120 508 14) 0 [] [(70, VB (decide ((ys16.length : Int) / 2 < 1)))] [8] ?_
      refine Sd 70 rfl ?_ ?_ <;> intro h20
      ·
       refine Rb 20 (.ex .ret) 2 [] [(4, I6 5)] [0, 5, 6, 7, 9, 70] [(2, ⟨65, [I6 (ns.getD 0 0), VL none 0 0, VT ByteArray.empty]⟩)] [5] ?_
       refine X.nilRow 900 29 1 rfl ?_
       refine Dg (.inl rfl) [.agg #[N6 (ns.getD 0 0), .slice none 0 0, .string ByteArray.empty], N6 0, N6 5] [900] rfl (Ge.refl _ _) ?_
       have hsz_ : szk (ns.getD 0 0) = 2 := by rw [show (ns.getD 0 0) = 2 by assumption]; rfl
       have hyl_ : ys16.length = (ns.getD 1 0).toNat - 2 := by rw [← hys16, List.length_drop, List.length_take]; omega
       have hok_ := okP_lit (m := (ns.getD 1 0).toNat - 2) hsz_ (by decide) (show lk2 (ns.getD 0 0) = 1 by rw [show (ns.getD 0 0) = 2 by assumption]; rfl) (show mk2 (ns.getD 0 0) = 1 by rw [show (ns.getD 0 0) = 2 by assumption]; rfl)
       rw [decide_eq_false (by omega)] at hok_
       have he_ : oneE ns = 5 := oneE_form (by omega) (by omega) (by omega) hok_
       have hn_ : oneN ns = 0 := by unfold oneN; rw [if_neg (by rw [he_]; decide)]
       have ho_ : oneO ns = ((ns.getD 0 0), [], ⟨#[]⟩) := by unfold oneO; rw [if_neg (by rw [he_]; decide)]
       rw [he_, hn_, ho_]
       exact ⟨none, 0, rfl, rfl⟩
      ·
       refine Ra 4 (Qo B120 508 18) 0 [] [(70, VB false), (74, I6 (IntKind.i64.wrap (Int.tdiv (ys16.length : Int) 2)))] ?_
       refine Kn 74 .i64 ((ys16.length : Int) / 2) rfl (wdiv_i64 (by omega) (by omega) (by omega)) ?_
       refine Rc 5 (Qc B120 509) 1 [] [(77, VB (decide ((ys16.length : Int) / 2 > 1)))] [9] ?_
       refine Sd 77 rfl ?_ ?_ <;> intro h21
       ·
        refine Rb 11 (.ex .ret) 1 [] [(4, I6 5)] [0, 5, 6, 7, 77] [(2, ⟨65, [I6 (ns.getD 0 0), VL none 0 0, VT ByteArray.empty]⟩)] [5] ?_
        refine X.nilRow 900 29 1 rfl ?_
        refine Dg (.inl rfl) [.agg #[N6 (ns.getD 0 0), .slice none 0 0, .string ByteArray.empty], N6 0, N6 5] [900] rfl (Ge.refl _ _) ?_
        have hsz_ : szk (ns.getD 0 0) = 2 := by rw [show (ns.getD 0 0) = 2 by assumption]; rfl
        have hyl_ : ys16.length = (ns.getD 1 0).toNat - 2 := by rw [← hys16, List.length_drop, List.length_take]; omega
        have hok_ := okP_lit (m := (ns.getD 1 0).toNat - 2) hsz_ (by decide) (show lk2 (ns.getD 0 0) = 1 by rw [show (ns.getD 0 0) = 2 by assumption]; rfl) (show mk2 (ns.getD 0 0) = 1 by rw [show (ns.getD 0 0) = 2 by assumption]; rfl)
        rw [decide_eq_false (by omega)] at hok_
        have he_ : oneE ns = 5 := oneE_form (by omega) (by omega) (by omega) hok_
        have hn_ : oneN ns = 0 := by unfold oneN; rw [if_neg (by rw [he_]; decide)]
        have ho_ : oneO ns = ((ns.getD 0 0), [], ⟨#[]⟩) := by unfold oneO; rw [if_neg (by rw [he_]; decide)]
        rw [he_, hn_, ho_]
        exact ⟨none, 0, rfl, rfl⟩
       ·
        refine Rc 7 (Qo B120 510 2) 1 [Qs B120 511] [(79, VL A16 ys16.length (c - 2)), (80, I6 2)] [6, 7] ?_
        obtain ⟨nb22, no22, hnA22⟩ := cutA_addr (c := c) (lo := 2) (sz := 1) hA0
        rw [hA16] at hnA22
        refine Cg 157 [.slice A16 ys16.length (c - 2), N6 2] 40 (numbers_okA hnA22 (c - 2) 2 (ys16.length / 2) ys16 (by decide) (by decide) (by omega) (by omega) (by omega) _ hr16) ?_
        rintro v22 G22 rows22 hG22 ⟨A22, c22, rfl, rfl⟩
        replace hr := hr.mono hG22.le
        replace hr16 := hr16.mono hG22.le
        refine Rb 5 (Qc B120 1022) 1 [Qs B120 1023] [] [] [(5, ⟨65, [I6 (ns.getD 0 0), VL A22 (ys16.length / 2) c22, VT ByteArray.empty]⟩)] [] ?_
        have hr_d23 := hr
        have hr16_d23 := hr16
        refine Oh 16 B120 1022 8 [⟨some 5, 5, 65, [I6 (ns.getD 0 0), VL A22 (ys16.length / 2) c22, VT ByteArray.empty]⟩] [] [] ⟨P1, trivial⟩ Mt (fun ρ0 => ?_)
        refine Tk 0 8 1 B120 1022 (.v (.agg #[N6 (ns.getD 0 0), .slice A22 (ys16.length / 2) c22, .string ByteArray.empty])) QOk.ctxG ?_
        refine Tk 1 8 3 B120 1022 (VL A ns.length c) QOk.ctxG ?_
        have b24 : (0 : Int) ≤ 1 := by omega
        have b25 : 1 < ((ns.length : Nat) : Int) := by omega
        obtain ⟨at26, lo26, hi26⟩ := At.int [] hr_d23 1 (by omega)
        simp only [IntKind.lo, IntKind.hi] at lo26 hi26
        refine Dx 2 8 7 B120 1022 22 5 1 A ns.length c .i64 1 (.tmp 84) (.const (N6 1)) QOk.ctxG b24 b25 (fun _ _ => rowAt.so hr_d23 (by omega)) ?_
        refine Dl 3 8 15 B120 1022 5 A (1 * 1) (.tmp 85) (N8 (ns.getD 1 0)) [N8 (ns.getD 1 0)] QOk.ctxG at26 ?_
        refine Tk 4 8 31 B120 1022 (I6 (IntKind.i64.wrap (ns.getD 1 0))) QOk.ctxG ?_
        refine Dk 87 .i64 (ns.getD 1 0) rfl (wi64 (by omega) (by omega)) ?_
        refine Do 5 8 63 B120 1022 ?_
        refine X.simple (by kernel_rfl) ?_
        refine X.back ⟨⟨P1, trivial⟩, Le.refl _, by kernel_rfl, ?_⟩
        refine Ts [6, 7] 8 255 0 2 QOk.ctxG ?_
        refine XD.done (by kernel_rfl) ?_
        refine Rn 2 (.ex .ret) [] ⟨88, [(2, .own 2 0), (3, I6 (ns.getD 1 0)), (4, I6 0)], [(2, ⟨65, [I6 (ns.getD 0 0), VL A22 (ys16.length / 2) c22, VT ByteArray.empty]⟩)]⟩ ?_
        refine Dg (.inl rfl) [.agg #[N6 (ns.getD 0 0), .slice A22 (ys16.length / 2) c22, .string ByteArray.empty], N6 (ns.getD 1 0), N6 0] [40] rfl (hG22) ?_
        have hsz_ : szk (ns.getD 0 0) = 2 := by rw [show (ns.getD 0 0) = 2 by assumption]; rfl
        have hyl_ : ys16.length = (ns.getD 1 0).toNat - 2 := by rw [← hys16, List.length_drop, List.length_take]; omega
        have hok_ := okP_lit (m := (ns.getD 1 0).toNat - 2) hsz_ (by decide) (show lk2 (ns.getD 0 0) = 1 by rw [show (ns.getD 0 0) = 2 by assumption]; rfl) (show mk2 (ns.getD 0 0) = 1 by rw [show (ns.getD 0 0) = 2 by assumption]; rfl)
        rw [decide_eq_true (by omega)] at hok_
        have he_ : oneE ns = 0 := oneE_fine (by omega) (by omega) (by omega) hok_
        have hn_ : oneN ns = ns.getD 1 0 := by unfold oneN; rw [if_pos he_]
        have ho_ : oneO ns = ((ns.getD 0 0), numsOf ys16 2 (ys16.length / 2), ⟨#[]⟩) := by unfold oneO optS; rw [if_pos he_, hsz_, if_neg (by decide), show inB ns = ys16 from hys16]; rfl
        rw [he_, hn_, ho_]
        simp only [numsOf_len]
        exact ⟨_, _, rfl, rfl⟩
    ·
     refine Rc 7 (Qc B108 215) 0 [] [(8, VB ((ns.getD 0 0) == 8))] [6] ?_
     refine Se 8 rfl ?_ ?_ <;> intro h27
     ·
      refine Rc 11 (.ex .ret) 2 [] [(2, I6 4), (3, I6 2), (4, I6 2)] [5, 8] ?_
      refine fin17 _ _ _ _ [N6 4, N6 2, N6 2] [(2, ⟨65, [I6 0, VL none 0 0, VT ByteArray.empty]⟩), (5, ⟨65, [I6 (ns.getD 0 0), VL none 0 0, VT ByteArray.empty]⟩)] (.inl rfl) (by kernel_rfl) (by kernel_rfl) ?_
      refine Ra 26 (Qo B120 508 4) 1 [Qs B120 509, Qs B120 255] [(7, I6 4), (8, I6 2), (9, I6 2), (60, I6 (Int.tmod (ys16.length : Int) 4))] ?_
      refine Kn 60 .i64 ((ys16.length : Int) % 4) rfl (Int.tmod_eq_emod_of_nonneg (by omega)) ?_
      refine Ra 2 (Qo B120 508 6) 0 [] [(62, VB (((ys16.length : Int) % 4) != 0))] ?_
      refine Sn 62 rfl ?_ ?_ <;> intro h28
      ·
       refine Rb 28 (.ex .ret) 2 [] [(4, I6 5)] [0, 5, 6, 7, 8, 9, 62] [(2, ⟨65, [I6 (ns.getD 0 0), VL none 0 0, VT ByteArray.empty]⟩)] [5] ?_
       refine X.nilRow 900 29 1 rfl ?_
       refine Dg (.inl rfl) [.agg #[N6 (ns.getD 0 0), .slice none 0 0, .string ByteArray.empty], N6 0, N6 5] [900] rfl (Ge.refl _ _) ?_
       have hsz_ : szk (ns.getD 0 0) = 4 := by rw [show (ns.getD 0 0) = 8 by assumption]; rfl
       have hyl_ : ys16.length = (ns.getD 1 0).toNat - 2 := by rw [← hys16, List.length_drop, List.length_take]; omega
       have hok_ := okP_lit (m := (ns.getD 1 0).toNat - 2) hsz_ (by decide) (show lk2 (ns.getD 0 0) = 2 by rw [show (ns.getD 0 0) = 8 by assumption]; rfl) (show mk2 (ns.getD 0 0) = 2 by rw [show (ns.getD 0 0) = 8 by assumption]; rfl)
       rw [decide_eq_false (by omega)] at hok_
       have he_ : oneE ns = 5 := oneE_form (by omega) (by omega) (by omega) hok_
       have hn_ : oneN ns = 0 := by unfold oneN; rw [if_neg (by rw [he_]; decide)]
       have ho_ : oneO ns = ((ns.getD 0 0), [], ⟨#[]⟩) := by unfold oneO; rw [if_neg (by rw [he_]; decide)]
       rw [he_, hn_, ho_]
       exact ⟨none, 0, rfl, rfl⟩
      ·
       refine Ra 4 (Qo B120 508 10) 0 [] [(62, VB false), (66, I6 (IntKind.i64.wrap (Int.tdiv (ys16.length : Int) 4)))] ?_
       refine Kn 66 .i64 ((ys16.length : Int) / 4) rfl (wdiv_i64 (by omega) (by omega) (by omega)) ?_
       refine Rc 4 (Qo B120 508 14) 0 [] [(70, VB (decide ((ys16.length : Int) / 4 < 2)))] [8] ?_
       refine Sd 70 rfl ?_ ?_ <;> intro h29
       ·
        refine Rb 20 (.ex .ret) 2 [] [(4, I6 5)] [0, 5, 6, 7, 9, 70] [(2, ⟨65, [I6 (ns.getD 0 0), VL none 0 0, VT ByteArray.empty]⟩)] [5] ?_
        refine X.nilRow 900 29 1 rfl ?_
        refine Dg (.inl rfl) [.agg #[N6 (ns.getD 0 0), .slice none 0 0, .string ByteArray.empty], N6 0, N6 5] [900] rfl (Ge.refl _ _) ?_
        have hsz_ : szk (ns.getD 0 0) = 4 := by rw [show (ns.getD 0 0) = 8 by assumption]; rfl
        have hyl_ : ys16.length = (ns.getD 1 0).toNat - 2 := by rw [← hys16, List.length_drop, List.length_take]; omega
        have hok_ := okP_lit (m := (ns.getD 1 0).toNat - 2) hsz_ (by decide) (show lk2 (ns.getD 0 0) = 2 by rw [show (ns.getD 0 0) = 8 by assumption]; rfl) (show mk2 (ns.getD 0 0) = 2 by rw [show (ns.getD 0 0) = 8 by assumption]; rfl)
        rw [decide_eq_false (by omega)] at hok_
        have he_ : oneE ns = 5 := oneE_form (by omega) (by omega) (by omega) hok_
        have hn_ : oneN ns = 0 := by unfold oneN; rw [if_neg (by rw [he_]; decide)]
        have ho_ : oneO ns = ((ns.getD 0 0), [], ⟨#[]⟩) := by unfold oneO; rw [if_neg (by rw [he_]; decide)]
        rw [he_, hn_, ho_]
        exact ⟨none, 0, rfl, rfl⟩
       ·
        refine Ra 4 (Qo B120 508 18) 0 [] [(70, VB false), (74, I6 (IntKind.i64.wrap (Int.tdiv (ys16.length : Int) 4)))] ?_
        refine Kn 74 .i64 ((ys16.length : Int) / 4) rfl (wdiv_i64 (by omega) (by omega) (by omega)) ?_
        refine Rc 5 (Qc B120 509) 1 [] [(77, VB (decide ((ys16.length : Int) / 4 > 2)))] [9] ?_
        refine Sd 77 rfl ?_ ?_ <;> intro h30
        ·
         refine Rb 11 (.ex .ret) 1 [] [(4, I6 5)] [0, 5, 6, 7, 77] [(2, ⟨65, [I6 (ns.getD 0 0), VL none 0 0, VT ByteArray.empty]⟩)] [5] ?_
         refine X.nilRow 900 29 1 rfl ?_
         refine Dg (.inl rfl) [.agg #[N6 (ns.getD 0 0), .slice none 0 0, .string ByteArray.empty], N6 0, N6 5] [900] rfl (Ge.refl _ _) ?_
         have hsz_ : szk (ns.getD 0 0) = 4 := by rw [show (ns.getD 0 0) = 8 by assumption]; rfl
         have hyl_ : ys16.length = (ns.getD 1 0).toNat - 2 := by rw [← hys16, List.length_drop, List.length_take]; omega
         have hok_ := okP_lit (m := (ns.getD 1 0).toNat - 2) hsz_ (by decide) (show lk2 (ns.getD 0 0) = 2 by rw [show (ns.getD 0 0) = 8 by assumption]; rfl) (show mk2 (ns.getD 0 0) = 2 by rw [show (ns.getD 0 0) = 8 by assumption]; rfl)
         rw [decide_eq_false (by omega)] at hok_
         have he_ : oneE ns = 5 := oneE_form (by omega) (by omega) (by omega) hok_
         have hn_ : oneN ns = 0 := by unfold oneN; rw [if_neg (by rw [he_]; decide)]
         have ho_ : oneO ns = ((ns.getD 0 0), [], ⟨#[]⟩) := by unfold oneO; rw [if_neg (by rw [he_]; decide)]
         rw [he_, hn_, ho_]
         exact ⟨none, 0, rfl, rfl⟩
        ·
         refine Rc 7 (Qo B120 510 2) 1 [Qs B120 511] [(79, VL A16 ys16.length (c - 2)), (80, I6 4)] [6, 7] ?_
         obtain ⟨nb31, no31, hnA31⟩ := cutA_addr (c := c) (lo := 2) (sz := 1) hA0
         rw [hA16] at hnA31
         refine Cg 157 [.slice A16 ys16.length (c - 2), N6 4] 40 (numbers_okA hnA31 (c - 2) 4 (ys16.length / 4) ys16 (by decide) (by decide) (by omega) (by omega) (by omega) _ hr16) ?_
         rintro v31 G31 rows31 hG31 ⟨A31, c31, rfl, rfl⟩
         replace hr := hr.mono hG31.le
         replace hr16 := hr16.mono hG31.le
         refine Rb 5 (Qc B120 1022) 1 [Qs B120 1023] [] [] [(5, ⟨65, [I6 (ns.getD 0 0), VL A31 (ys16.length / 4) c31, VT ByteArray.empty]⟩)] [] ?_
         have hr_d32 := hr
         have hr16_d32 := hr16
         refine Oh 16 B120 1022 8 [⟨some 5, 5, 65, [I6 (ns.getD 0 0), VL A31 (ys16.length / 4) c31, VT ByteArray.empty]⟩] [] [] ⟨P1, trivial⟩ Mt (fun ρ0 => ?_)
         refine Tk 0 8 1 B120 1022 (.v (.agg #[N6 (ns.getD 0 0), .slice A31 (ys16.length / 4) c31, .string ByteArray.empty])) QOk.ctxG ?_
         refine Tk 1 8 3 B120 1022 (VL A ns.length c) QOk.ctxG ?_
         have b33 : (0 : Int) ≤ 1 := by omega
         have b34 : 1 < ((ns.length : Nat) : Int) := by omega
         obtain ⟨at35, lo35, hi35⟩ := At.int [] hr_d32 1 (by omega)
         simp only [IntKind.lo, IntKind.hi] at lo35 hi35
         refine Dx 2 8 7 B120 1022 22 5 1 A ns.length c .i64 1 (.tmp 84) (.const (N6 1)) QOk.ctxG b33 b34 (fun _ _ => rowAt.so hr_d32 (by omega)) ?_
         refine Dl 3 8 15 B120 1022 5 A (1 * 1) (.tmp 85) (N8 (ns.getD 1 0)) [N8 (ns.getD 1 0)] QOk.ctxG at35 ?_
         refine Tk 4 8 31 B120 1022 (I6 (IntKind.i64.wrap (ns.getD 1 0))) QOk.ctxG ?_
         refine Dk 87 .i64 (ns.getD 1 0) rfl (wi64 (by omega) (by omega)) ?_
         refine Do 5 8 63 B120 1022 ?_
         refine X.simple (by kernel_rfl) ?_
         refine X.back ⟨⟨P1, trivial⟩, Le.refl _, by kernel_rfl, ?_⟩
         refine Ts [6, 7] 8 255 0 2 QOk.ctxG ?_
         refine XD.done (by kernel_rfl) ?_
         refine Rn 2 (.ex .ret) [] ⟨88, [(2, .own 2 0), (3, I6 (ns.getD 1 0)), (4, I6 0)], [(2, ⟨65, [I6 (ns.getD 0 0), VL A31 (ys16.length / 4) c31, VT ByteArray.empty]⟩)]⟩ ?_
         refine Dg (.inl rfl) [.agg #[N6 (ns.getD 0 0), .slice A31 (ys16.length / 4) c31, .string ByteArray.empty], N6 (ns.getD 1 0), N6 0] [40] rfl (hG31) ?_
         have hsz_ : szk (ns.getD 0 0) = 4 := by rw [show (ns.getD 0 0) = 8 by assumption]; rfl
         have hyl_ : ys16.length = (ns.getD 1 0).toNat - 2 := by rw [← hys16, List.length_drop, List.length_take]; omega
         have hok_ := okP_lit (m := (ns.getD 1 0).toNat - 2) hsz_ (by decide) (show lk2 (ns.getD 0 0) = 2 by rw [show (ns.getD 0 0) = 8 by assumption]; rfl) (show mk2 (ns.getD 0 0) = 2 by rw [show (ns.getD 0 0) = 8 by assumption]; rfl)
         rw [decide_eq_true (by omega)] at hok_
         have he_ : oneE ns = 0 := oneE_fine (by omega) (by omega) (by omega) hok_
         have hn_ : oneN ns = ns.getD 1 0 := by unfold oneN; rw [if_pos he_]
         have ho_ : oneO ns = ((ns.getD 0 0), numsOf ys16 4 (ys16.length / 4), ⟨#[]⟩) := by unfold oneO optS; rw [if_pos he_, hsz_, if_neg (by decide), show inB ns = ys16 from hys16]; rfl
         rw [he_, hn_, ho_]
         simp only [numsOf_len]
         exact ⟨_, _, rfl, rfl⟩
     ·
      refine Rc 8 (Qc B108 1725) 0 [Qs B108 863] [(10, VB ((ns.getD 0 0) == 172))] [8] ?_
      refine Se 10 rfl ?_ ?_ <;> intro h36
      ·
       refine Rc 14 (.ex .ret) 3 [] [(2, I6 3), (4, I6 3)] [5, 10] ?_
       refine fin17 _ _ _ _ [N6 3, N6 0, N6 3] [(2, ⟨65, [I6 0, VL none 0 0, VT ByteArray.empty]⟩), (5, ⟨65, [I6 (ns.getD 0 0), VL none 0 0, VT ByteArray.empty]⟩)] (.inl rfl) (by kernel_rfl) (by kernel_rfl) ?_
       refine Ra 26 (Qo B120 508 4) 1 [Qs B120 509, Qs B120 255] [(7, I6 3), (8, I6 0), (9, I6 3), (60, I6 (Int.tmod (ys16.length : Int) 3))] ?_
       refine Kn 60 .i64 ((ys16.length : Int) % 3) rfl (Int.tmod_eq_emod_of_nonneg (by omega)) ?_
       refine Ra 2 (Qo B120 508 6) 0 [] [(62, VB (((ys16.length : Int) % 3) != 0))] ?_
       refine Sn 62 rfl ?_ ?_ <;> intro h37
       ·
        refine Rb 28 (.ex .ret) 2 [] [(4, I6 5)] [0, 5, 6, 7, 8, 9, 62] [(2, ⟨65, [I6 (ns.getD 0 0), VL none 0 0, VT ByteArray.empty]⟩)] [5] ?_
        refine X.nilRow 900 29 1 rfl ?_
        refine Dg (.inl rfl) [.agg #[N6 (ns.getD 0 0), .slice none 0 0, .string ByteArray.empty], N6 0, N6 5] [900] rfl (Ge.refl _ _) ?_
        have hsz_ : szk (ns.getD 0 0) = 3 := by rw [show (ns.getD 0 0) = 172 by assumption]; rfl
        have hyl_ : ys16.length = (ns.getD 1 0).toNat - 2 := by rw [← hys16, List.length_drop, List.length_take]; omega
        have hok_ := okP_lit (m := (ns.getD 1 0).toNat - 2) hsz_ (by decide) (show lk2 (ns.getD 0 0) = 0 by rw [show (ns.getD 0 0) = 172 by assumption]; rfl) (show mk2 (ns.getD 0 0) = 3 by rw [show (ns.getD 0 0) = 172 by assumption]; rfl)
        rw [decide_eq_false (by omega)] at hok_
        have he_ : oneE ns = 5 := oneE_form (by omega) (by omega) (by omega) hok_
        have hn_ : oneN ns = 0 := by unfold oneN; rw [if_neg (by rw [he_]; decide)]
        have ho_ : oneO ns = ((ns.getD 0 0), [], ⟨#[]⟩) := by unfold oneO; rw [if_neg (by rw [he_]; decide)]
        rw [he_, hn_, ho_]
        exact ⟨none, 0, rfl, rfl⟩
       ·
        refine Ra 4 (Qo B120 508 10) 0 [] [(62, VB false), (66, I6 (IntKind.i64.wrap (Int.tdiv (ys16.length : Int) 3)))] ?_
        refine Kn 66 .i64 ((ys16.length : Int) / 3) rfl (wdiv_i64 (by omega) (by omega) (by omega)) ?_
        refine Rc 4 (Qo B120 508 14) 0 [] [(70, VB (decide ((ys16.length : Int) / 3 < 0)))] [8] ?_
        refine Sd 70 rfl ?_ ?_ <;> intro h38
        ·
         refine Rb 20 (.ex .ret) 2 [] [(4, I6 5)] [0, 5, 6, 7, 9, 70] [(2, ⟨65, [I6 (ns.getD 0 0), VL none 0 0, VT ByteArray.empty]⟩)] [5] ?_
         refine X.nilRow 900 29 1 rfl ?_
         refine Dg (.inl rfl) [.agg #[N6 (ns.getD 0 0), .slice none 0 0, .string ByteArray.empty], N6 0, N6 5] [900] rfl (Ge.refl _ _) ?_
         have hsz_ : szk (ns.getD 0 0) = 3 := by rw [show (ns.getD 0 0) = 172 by assumption]; rfl
         have hyl_ : ys16.length = (ns.getD 1 0).toNat - 2 := by rw [← hys16, List.length_drop, List.length_take]; omega
         have hok_ := okP_lit (m := (ns.getD 1 0).toNat - 2) hsz_ (by decide) (show lk2 (ns.getD 0 0) = 0 by rw [show (ns.getD 0 0) = 172 by assumption]; rfl) (show mk2 (ns.getD 0 0) = 3 by rw [show (ns.getD 0 0) = 172 by assumption]; rfl)
         rw [decide_eq_false (by omega)] at hok_
         have he_ : oneE ns = 5 := oneE_form (by omega) (by omega) (by omega) hok_
         have hn_ : oneN ns = 0 := by unfold oneN; rw [if_neg (by rw [he_]; decide)]
         have ho_ : oneO ns = ((ns.getD 0 0), [], ⟨#[]⟩) := by unfold oneO; rw [if_neg (by rw [he_]; decide)]
         rw [he_, hn_, ho_]
         exact ⟨none, 0, rfl, rfl⟩
        ·
         refine Ra 4 (Qo B120 508 18) 0 [] [(70, VB false), (74, I6 (IntKind.i64.wrap (Int.tdiv (ys16.length : Int) 3)))] ?_
         refine Kn 74 .i64 ((ys16.length : Int) / 3) rfl (wdiv_i64 (by omega) (by omega) (by omega)) ?_
         refine Rc 5 (Qc B120 509) 1 [] [(77, VB (decide ((ys16.length : Int) / 3 > 3)))] [9] ?_
         refine Sd 77 rfl ?_ ?_ <;> intro h39
         ·
          refine Rb 11 (.ex .ret) 1 [] [(4, I6 5)] [0, 5, 6, 7, 77] [(2, ⟨65, [I6 (ns.getD 0 0), VL none 0 0, VT ByteArray.empty]⟩)] [5] ?_
          refine X.nilRow 900 29 1 rfl ?_
          refine Dg (.inl rfl) [.agg #[N6 (ns.getD 0 0), .slice none 0 0, .string ByteArray.empty], N6 0, N6 5] [900] rfl (Ge.refl _ _) ?_
          have hsz_ : szk (ns.getD 0 0) = 3 := by rw [show (ns.getD 0 0) = 172 by assumption]; rfl
          have hyl_ : ys16.length = (ns.getD 1 0).toNat - 2 := by rw [← hys16, List.length_drop, List.length_take]; omega
          have hok_ := okP_lit (m := (ns.getD 1 0).toNat - 2) hsz_ (by decide) (show lk2 (ns.getD 0 0) = 0 by rw [show (ns.getD 0 0) = 172 by assumption]; rfl) (show mk2 (ns.getD 0 0) = 3 by rw [show (ns.getD 0 0) = 172 by assumption]; rfl)
          rw [decide_eq_false (by omega)] at hok_
          have he_ : oneE ns = 5 := oneE_form (by omega) (by omega) (by omega) hok_
          have hn_ : oneN ns = 0 := by unfold oneN; rw [if_neg (by rw [he_]; decide)]
          have ho_ : oneO ns = ((ns.getD 0 0), [], ⟨#[]⟩) := by unfold oneO; rw [if_neg (by rw [he_]; decide)]
          rw [he_, hn_, ho_]
          exact ⟨none, 0, rfl, rfl⟩
         ·
          refine Rc 7 (Qo B120 510 2) 1 [Qs B120 511] [(79, VL A16 ys16.length (c - 2)), (80, I6 3)] [6, 7] ?_
          obtain ⟨nb40, no40, hnA40⟩ := cutA_addr (c := c) (lo := 2) (sz := 1) hA0
          rw [hA16] at hnA40
          refine Cg 157 [.slice A16 ys16.length (c - 2), N6 3] 40 (numbers_okA hnA40 (c - 2) 3 (ys16.length / 3) ys16 (by decide) (by decide) (by omega) (by omega) (by omega) _ hr16) ?_
          rintro v40 G40 rows40 hG40 ⟨A40, c40, rfl, rfl⟩
          replace hr := hr.mono hG40.le
          replace hr16 := hr16.mono hG40.le
          refine Rb 5 (Qc B120 1022) 1 [Qs B120 1023] [] [] [(5, ⟨65, [I6 (ns.getD 0 0), VL A40 (ys16.length / 3) c40, VT ByteArray.empty]⟩)] [] ?_
          have hr_d41 := hr
          have hr16_d41 := hr16
          refine Oh 16 B120 1022 8 [⟨some 5, 5, 65, [I6 (ns.getD 0 0), VL A40 (ys16.length / 3) c40, VT ByteArray.empty]⟩] [] [] ⟨P1, trivial⟩ Mt (fun ρ0 => ?_)
          refine Tk 0 8 1 B120 1022 (.v (.agg #[N6 (ns.getD 0 0), .slice A40 (ys16.length / 3) c40, .string ByteArray.empty])) QOk.ctxG ?_
          refine Tk 1 8 3 B120 1022 (VL A ns.length c) QOk.ctxG ?_
          have b42 : (0 : Int) ≤ 1 := by omega
          have b43 : 1 < ((ns.length : Nat) : Int) := by omega
          obtain ⟨at44, lo44, hi44⟩ := At.int [] hr_d41 1 (by omega)
          simp only [IntKind.lo, IntKind.hi] at lo44 hi44
          refine Dx 2 8 7 B120 1022 22 5 1 A ns.length c .i64 1 (.tmp 84) (.const (N6 1)) QOk.ctxG b42 b43 (fun _ _ => rowAt.so hr_d41 (by omega)) ?_
          refine Dl 3 8 15 B120 1022 5 A (1 * 1) (.tmp 85) (N8 (ns.getD 1 0)) [N8 (ns.getD 1 0)] QOk.ctxG at44 ?_
          refine Tk 4 8 31 B120 1022 (I6 (IntKind.i64.wrap (ns.getD 1 0))) QOk.ctxG ?_
          refine Dk 87 .i64 (ns.getD 1 0) rfl (wi64 (by omega) (by omega)) ?_
          refine Do 5 8 63 B120 1022 ?_
          refine X.simple (by kernel_rfl) ?_
          refine X.back ⟨⟨P1, trivial⟩, Le.refl _, by kernel_rfl, ?_⟩
          refine Ts [6, 7] 8 255 0 2 QOk.ctxG ?_
          refine XD.done (by kernel_rfl) ?_
          refine Rn 2 (.ex .ret) [] ⟨88, [(2, .own 2 0), (3, I6 (ns.getD 1 0)), (4, I6 0)], [(2, ⟨65, [I6 (ns.getD 0 0), VL A40 (ys16.length / 3) c40, VT ByteArray.empty]⟩)]⟩ ?_
          refine Dg (.inl rfl) [.agg #[N6 (ns.getD 0 0), .slice A40 (ys16.length / 3) c40, .string ByteArray.empty], N6 (ns.getD 1 0), N6 0] [40] rfl (hG40) ?_
          have hsz_ : szk (ns.getD 0 0) = 3 := by rw [show (ns.getD 0 0) = 172 by assumption]; rfl
          have hyl_ : ys16.length = (ns.getD 1 0).toNat - 2 := by rw [← hys16, List.length_drop, List.length_take]; omega
          have hok_ := okP_lit (m := (ns.getD 1 0).toNat - 2) hsz_ (by decide) (show lk2 (ns.getD 0 0) = 0 by rw [show (ns.getD 0 0) = 172 by assumption]; rfl) (show mk2 (ns.getD 0 0) = 3 by rw [show (ns.getD 0 0) = 172 by assumption]; rfl)
          rw [decide_eq_true (by omega)] at hok_
          have he_ : oneE ns = 0 := oneE_fine (by omega) (by omega) (by omega) hok_
          have hn_ : oneN ns = ns.getD 1 0 := by unfold oneN; rw [if_pos he_]
          have ho_ : oneO ns = ((ns.getD 0 0), numsOf ys16 3 (ys16.length / 3), ⟨#[]⟩) := by unfold oneO optS; rw [if_pos he_, hsz_, if_neg (by decide), show inB ns = ys16 from hys16]; rfl
          rw [he_, hn_, ho_]
          simp only [numsOf_len]
          exact ⟨_, _, rfl, rfl⟩
      ·
       refine Ra 6 (Qc B108 863) 1 [] [(10, VB ((ns.getD 0 0) == 174))] ?_
       refine Se 10 rfl ?_ ?_ <;> intro h45
       ·
        refine Rc 11 (.ex .ret) 2 [] [(2, I6 3), (4, I6 3)] [10] ?_
        refine fin17 _ _ _ _ [N6 3, N6 0, N6 3] [(2, ⟨65, [I6 0, VL none 0 0, VT ByteArray.empty]⟩), (5, ⟨65, [I6 (ns.getD 0 0), VL none 0 0, VT ByteArray.empty]⟩)] (.inl rfl) (by kernel_rfl) (by kernel_rfl) ?_
        refine Ra 26 (Qo B120 508 4) 1 [Qs B120 509, Qs B120 255] [(7, I6 3), (8, I6 0), (9, I6 3), (60, I6 (Int.tmod (ys16.length : Int) 3))] ?_
        refine Kn 60 .i64 ((ys16.length : Int) % 3) rfl (Int.tmod_eq_emod_of_nonneg (by omega)) ?_
        refine Ra 2 (Qo B120 508 6) 0 [] [(62, VB (((ys16.length : Int) % 3) != 0))] ?_
        refine Sn 62 rfl ?_ ?_ <;> intro h46
        ·
         refine Rb 28 (.ex .ret) 2 [] [(4, I6 5)] [0, 5, 6, 7, 8, 9, 62] [(2, ⟨65, [I6 (ns.getD 0 0), VL none 0 0, VT ByteArray.empty]⟩)] [5] ?_
         refine X.nilRow 900 29 1 rfl ?_
         refine Dg (.inl rfl) [.agg #[N6 (ns.getD 0 0), .slice none 0 0, .string ByteArray.empty], N6 0, N6 5] [900] rfl (Ge.refl _ _) ?_
         have hsz_ : szk (ns.getD 0 0) = 3 := by rw [show (ns.getD 0 0) = 174 by assumption]; rfl
         have hyl_ : ys16.length = (ns.getD 1 0).toNat - 2 := by rw [← hys16, List.length_drop, List.length_take]; omega
         have hok_ := okP_lit (m := (ns.getD 1 0).toNat - 2) hsz_ (by decide) (show lk2 (ns.getD 0 0) = 0 by rw [show (ns.getD 0 0) = 174 by assumption]; rfl) (show mk2 (ns.getD 0 0) = 3 by rw [show (ns.getD 0 0) = 174 by assumption]; rfl)
         rw [decide_eq_false (by omega)] at hok_
         have he_ : oneE ns = 5 := oneE_form (by omega) (by omega) (by omega) hok_
         have hn_ : oneN ns = 0 := by unfold oneN; rw [if_neg (by rw [he_]; decide)]
         have ho_ : oneO ns = ((ns.getD 0 0), [], ⟨#[]⟩) := by unfold oneO; rw [if_neg (by rw [he_]; decide)]
         rw [he_, hn_, ho_]
         exact ⟨none, 0, rfl, rfl⟩
        ·
         refine Ra 4 (Qo B120 508 10) 0 [] [(62, VB false), (66, I6 (IntKind.i64.wrap (Int.tdiv (ys16.length : Int) 3)))] ?_
         refine Kn 66 .i64 ((ys16.length : Int) / 3) rfl (wdiv_i64 (by omega) (by omega) (by omega)) ?_
         refine Rc 4 (Qo B120 508 14) 0 [] [(70, VB (decide ((ys16.length : Int) / 3 < 0)))] [8] ?_
         refine Sd 70 rfl ?_ ?_ <;> intro h47
         ·
          refine Rb 20 (.ex .ret) 2 [] [(4, I6 5)] [0, 5, 6, 7, 9, 70] [(2, ⟨65, [I6 (ns.getD 0 0), VL none 0 0, VT ByteArray.empty]⟩)] [5] ?_
          refine X.nilRow 900 29 1 rfl ?_
          refine Dg (.inl rfl) [.agg #[N6 (ns.getD 0 0), .slice none 0 0, .string ByteArray.empty], N6 0, N6 5] [900] rfl (Ge.refl _ _) ?_
          have hsz_ : szk (ns.getD 0 0) = 3 := by rw [show (ns.getD 0 0) = 174 by assumption]; rfl
          have hyl_ : ys16.length = (ns.getD 1 0).toNat - 2 := by rw [← hys16, List.length_drop, List.length_take]; omega
          have hok_ := okP_lit (m := (ns.getD 1 0).toNat - 2) hsz_ (by decide) (show lk2 (ns.getD 0 0) = 0 by rw [show (ns.getD 0 0) = 174 by assumption]; rfl) (show mk2 (ns.getD 0 0) = 3 by rw [show (ns.getD 0 0) = 174 by assumption]; rfl)
          rw [decide_eq_false (by omega)] at hok_
          have he_ : oneE ns = 5 := oneE_form (by omega) (by omega) (by omega) hok_
          have hn_ : oneN ns = 0 := by unfold oneN; rw [if_neg (by rw [he_]; decide)]
          have ho_ : oneO ns = ((ns.getD 0 0), [], ⟨#[]⟩) := by unfold oneO; rw [if_neg (by rw [he_]; decide)]
          rw [he_, hn_, ho_]
          exact ⟨none, 0, rfl, rfl⟩
         ·
          refine Ra 4 (Qo B120 508 18) 0 [] [(70, VB false), (74, I6 (IntKind.i64.wrap (Int.tdiv (ys16.length : Int) 3)))] ?_
          refine Kn 74 .i64 ((ys16.length : Int) / 3) rfl (wdiv_i64 (by omega) (by omega) (by omega)) ?_
          refine Rc 5 (Qc B120 509) 1 [] [(77, VB (decide ((ys16.length : Int) / 3 > 3)))] [9] ?_
          refine Sd 77 rfl ?_ ?_ <;> intro h48
          ·
           refine Rb 11 (.ex .ret) 1 [] [(4, I6 5)] [0, 5, 6, 7, 77] [(2, ⟨65, [I6 (ns.getD 0 0), VL none 0 0, VT ByteArray.empty]⟩)] [5] ?_
           refine X.nilRow 900 29 1 rfl ?_
           refine Dg (.inl rfl) [.agg #[N6 (ns.getD 0 0), .slice none 0 0, .string ByteArray.empty], N6 0, N6 5] [900] rfl (Ge.refl _ _) ?_
           have hsz_ : szk (ns.getD 0 0) = 3 := by rw [show (ns.getD 0 0) = 174 by assumption]; rfl
           have hyl_ : ys16.length = (ns.getD 1 0).toNat - 2 := by rw [← hys16, List.length_drop, List.length_take]; omega
           have hok_ := okP_lit (m := (ns.getD 1 0).toNat - 2) hsz_ (by decide) (show lk2 (ns.getD 0 0) = 0 by rw [show (ns.getD 0 0) = 174 by assumption]; rfl) (show mk2 (ns.getD 0 0) = 3 by rw [show (ns.getD 0 0) = 174 by assumption]; rfl)
           rw [decide_eq_false (by omega)] at hok_
           have he_ : oneE ns = 5 := oneE_form (by omega) (by omega) (by omega) hok_
           have hn_ : oneN ns = 0 := by unfold oneN; rw [if_neg (by rw [he_]; decide)]
           have ho_ : oneO ns = ((ns.getD 0 0), [], ⟨#[]⟩) := by unfold oneO; rw [if_neg (by rw [he_]; decide)]
           rw [he_, hn_, ho_]
           exact ⟨none, 0, rfl, rfl⟩
          ·
           refine Rc 7 (Qo B120 510 2) 1 [Qs B120 511] [(79, VL A16 ys16.length (c - 2)), (80, I6 3)] [6, 7] ?_
           obtain ⟨nb49, no49, hnA49⟩ := cutA_addr (c := c) (lo := 2) (sz := 1) hA0
           rw [hA16] at hnA49
           refine Cg 157 [.slice A16 ys16.length (c - 2), N6 3] 40 (numbers_okA hnA49 (c - 2) 3 (ys16.length / 3) ys16 (by decide) (by decide) (by omega) (by omega) (by omega) _ hr16) ?_
           rintro v49 G49 rows49 hG49 ⟨A49, c49, rfl, rfl⟩
           replace hr := hr.mono hG49.le
           replace hr16 := hr16.mono hG49.le
           refine Rb 5 (Qc B120 1022) 1 [Qs B120 1023] [] [] [(5, ⟨65, [I6 (ns.getD 0 0), VL A49 (ys16.length / 3) c49, VT ByteArray.empty]⟩)] [] ?_
           have hr_d50 := hr
           have hr16_d50 := hr16
           refine Oh 16 B120 1022 8 [⟨some 5, 5, 65, [I6 (ns.getD 0 0), VL A49 (ys16.length / 3) c49, VT ByteArray.empty]⟩] [] [] ⟨P1, trivial⟩ Mt (fun ρ0 => ?_)
           refine Tk 0 8 1 B120 1022 (.v (.agg #[N6 (ns.getD 0 0), .slice A49 (ys16.length / 3) c49, .string ByteArray.empty])) QOk.ctxG ?_
           refine Tk 1 8 3 B120 1022 (VL A ns.length c) QOk.ctxG ?_
           have b51 : (0 : Int) ≤ 1 := by omega
           have b52 : 1 < ((ns.length : Nat) : Int) := by omega
           obtain ⟨at53, lo53, hi53⟩ := At.int [] hr_d50 1 (by omega)
           simp only [IntKind.lo, IntKind.hi] at lo53 hi53
           refine Dx 2 8 7 B120 1022 22 5 1 A ns.length c .i64 1 (.tmp 84) (.const (N6 1)) QOk.ctxG b51 b52 (fun _ _ => rowAt.so hr_d50 (by omega)) ?_
           refine Dl 3 8 15 B120 1022 5 A (1 * 1) (.tmp 85) (N8 (ns.getD 1 0)) [N8 (ns.getD 1 0)] QOk.ctxG at53 ?_
           refine Tk 4 8 31 B120 1022 (I6 (IntKind.i64.wrap (ns.getD 1 0))) QOk.ctxG ?_
           refine Dk 87 .i64 (ns.getD 1 0) rfl (wi64 (by omega) (by omega)) ?_
           refine Do 5 8 63 B120 1022 ?_
           refine X.simple (by kernel_rfl) ?_
           refine X.back ⟨⟨P1, trivial⟩, Le.refl _, by kernel_rfl, ?_⟩
           refine Ts [6, 7] 8 255 0 2 QOk.ctxG ?_
           refine XD.done (by kernel_rfl) ?_
           refine Rn 2 (.ex .ret) [] ⟨88, [(2, .own 2 0), (3, I6 (ns.getD 1 0)), (4, I6 0)], [(2, ⟨65, [I6 (ns.getD 0 0), VL A49 (ys16.length / 3) c49, VT ByteArray.empty]⟩)]⟩ ?_
           refine Dg (.inl rfl) [.agg #[N6 (ns.getD 0 0), .slice A49 (ys16.length / 3) c49, .string ByteArray.empty], N6 (ns.getD 1 0), N6 0] [40] rfl (hG49) ?_
           have hsz_ : szk (ns.getD 0 0) = 3 := by rw [show (ns.getD 0 0) = 174 by assumption]; rfl
           have hyl_ : ys16.length = (ns.getD 1 0).toNat - 2 := by rw [← hys16, List.length_drop, List.length_take]; omega
           have hok_ := okP_lit (m := (ns.getD 1 0).toNat - 2) hsz_ (by decide) (show lk2 (ns.getD 0 0) = 0 by rw [show (ns.getD 0 0) = 174 by assumption]; rfl) (show mk2 (ns.getD 0 0) = 3 by rw [show (ns.getD 0 0) = 174 by assumption]; rfl)
           rw [decide_eq_true (by omega)] at hok_
           have he_ : oneE ns = 0 := oneE_fine (by omega) (by omega) (by omega) hok_
           have hn_ : oneN ns = ns.getD 1 0 := by unfold oneN; rw [if_pos he_]
           have ho_ : oneO ns = ((ns.getD 0 0), numsOf ys16 3 (ys16.length / 3), ⟨#[]⟩) := by unfold oneO optS; rw [if_pos he_, hsz_, if_neg (by decide), show inB ns = ys16 from hys16]; rfl
           rw [he_, hn_, ho_]
           simp only [numsOf_len]
           exact ⟨_, _, rfl, rfl⟩
       ·
        refine Rc 12 (.ex .ret) 2 [] [] [10] ?_
        refine fin17 _ _ _ _ [N6 0, N6 0, N6 0] [(2, ⟨65, [I6 0, VL none 0 0, VT ByteArray.empty]⟩), (5, ⟨65, [I6 (ns.getD 0 0), VL none 0 0, VT ByteArray.empty]⟩)] (.inl rfl) (by kernel_rfl) (by kernel_rfl) ?_
        refine Ra 20 (Qo B120 1012 1) 1 [Qs B120 1013, Qs B120 127] [(7, I6 0), (8, I6 0), (9, I6 0), (49, VL A16 ys16.length (c - 2))] ?_
        refine X.toStrW (src := 22) (dst := 9) (e := 5) (n := ys16.length) (c := c - 2) (A := A16) (x := .tmp 49) ys16 (by kernel_rfl) (by kernel_rfl) (by kernel_rfl) (by kernel_rfl) (by kernel_rfl) rfl (at_ints [] hr16) (fun w hw e => rowAt.none hr16 e) (by kernel_rfl) ?_
        refine Rb 5 (Qc B120 2026) 1 [Qs B120 2027] [] [] [(5, ⟨65, [I6 (ns.getD 0 0), VL none 0 0, VT (strOf ys16)]⟩)] [] ?_
        have hr_d54 := hr
        have hr16_d54 := hr16
        refine Oh 12 B120 2026 8 [⟨some 5, 5, 65, [I6 (ns.getD 0 0), VL none 0 0, VT (strOf ys16)]⟩] [] [] ⟨P1, trivial⟩ Mt (fun ρ0 => ?_)
        refine Tk 0 8 1 B120 2026 (.v (.agg #[N6 (ns.getD 0 0), .slice none 0 0, .string (strOf ys16)])) QOk.ctxG ?_
        refine Tk 1 8 3 B120 2026 (VL A ns.length c) QOk.ctxG ?_
        have b55 : (0 : Int) ≤ 1 := by omega
        have b56 : 1 < ((ns.length : Nat) : Int) := by omega
        obtain ⟨at57, lo57, hi57⟩ := At.int [] hr_d54 1 (by omega)
        simp only [IntKind.lo, IntKind.hi] at lo57 hi57
        refine Dx 2 8 7 B120 2026 22 5 1 A ns.length c .i64 1 (.tmp 53) (.const (N6 1)) QOk.ctxG b55 b56 (fun _ _ => rowAt.so hr_d54 (by omega)) ?_
        refine Dl 3 8 15 B120 2026 5 A (1 * 1) (.tmp 54) (N8 (ns.getD 1 0)) [N8 (ns.getD 1 0)] QOk.ctxG at57 ?_
        refine Tk 4 8 31 B120 2026 (I6 (IntKind.i64.wrap (ns.getD 1 0))) QOk.ctxG ?_
        refine Dk 56 .i64 (ns.getD 1 0) rfl (wi64 (by omega) (by omega)) ?_
        refine Do 5 8 63 B120 2026 ?_
        refine X.simple (by kernel_rfl) ?_
        refine X.back ⟨⟨P1, trivial⟩, Le.refl _, by kernel_rfl, ?_⟩
        refine Ts [6, 7] 8 255 0 2 QOk.ctxG ?_
        refine XD.done (by kernel_rfl) ?_
        refine Rn 3 (.ex .ret) [] ⟨88, [(2, .own 2 0), (3, I6 (ns.getD 1 0)), (4, I6 0)], [(2, ⟨65, [I6 (ns.getD 0 0), VL none 0 0, VT (strOf ys16)]⟩)]⟩ ?_
        refine X.nilRow 900 29 1 rfl ?_
        refine Dg (.inl rfl) [.agg #[N6 (ns.getD 0 0), .slice none 0 0, .string (strOf ys16)], N6 (ns.getD 1 0), N6 0] [900] rfl (Ge.refl _ _) ?_
        have hsz_ : szk (ns.getD 0 0) = 0 := by unfold szk; rw [if_neg (by omega), if_neg (by omega), if_neg (by omega)]
        have hyl_ : ys16.length = (ns.getD 1 0).toNat - 2 := by rw [← hys16, List.length_drop, List.length_take]; omega
        have he_ : oneE ns = 0 := oneE_fine (by omega) (by omega) (by omega) (okP_free hsz_)
        have hn_ : oneN ns = ns.getD 1 0 := by unfold oneN; rw [if_pos he_]
        have ho_ : oneO ns = ((ns.getD 0 0), [], strOf ys16) := by unfold oneO optS; rw [if_pos he_, if_pos hsz_, show inB ns = ys16 from hys16]
        rw [he_, hn_, ho_]
        exact ⟨none, 0, rfl, rfl⟩
theorem oneO_kind (l : List Int) : (oneO l).1 = l.getD 0 0 := by
 unfold oneO optS
 (repeat' split) <;> rfl
theorem oneO_range (l : List Int) : ∀ n ∈ (oneO l).2.1, IntKind.lo .u32 ≤ n ∧ n ≤ IntKind.hi .u32 := by
 intro n hn
 simp only [IntKind.lo, IntKind.hi]
 unfold oneO optS at hn
 split at hn
 ·
  split at hn
  · cases hn
  ·
   have := numsOf_range _ _ _ n hn
   omega
 · cases hn
theorem oneO_str {l : List Int} (h : l.length ≤ 60) : (oneO l).2.2.size ≤ maxLen := by
 unfold oneO optS
 split
 ·
  split
  · exact strOf_small (by unfold inB; rw [List.length_drop, List.length_take]; omega)
  · exact Nat.zero_le _
 · exact Nat.zero_le _
theorem one_rep {G : Mem} {A : Option Addr} {c : Nat} {l : List Int} (hk : 0 ≤ l.getD 0 0 ∧ l.getD 0 0 ≤ 255) (h60 : l.length ≤ 60) (h2 : (oneO l).2.1.length ≤ c) (h3 : c ≤ maxLen) (h4 : rowAt (D.int .u32) G A (oneO l).2.1) : optD.rep G (oneO l) [.int .i64 (l.getD 0 0), .slice A (oneO l).2.1.length c, .string (oneO l).2.2] := by
 have h := opt_rep (k := l.getD 0 0) (s := (oneO l).2.2) (by simp only [IntKind.lo, IntKind.hi]; omega) h2 h3 h4 ⟨rfl, oneO_str h60⟩
 rw [← oneO_kind] at h ⊢
 exact h
noncomputable def B118 : Code := bodyOf Try.f118
noncomputable def B156 : Code := bodyOf Try.f156
noncomputable def B119 : Code := bodyOf Try.f119
noncomputable def B58 : Code := bodyOf Try.f58
noncomputable def C58 : Code := scopeOf (cA B58 [1])
set_option maxHeartbeats 4000000 in
theorem Parse_ok (A : Option Addr) (c : Nat) (ns : List Int) (G : Mem) (hr : rowAt (D.int .u8) G A ns) (hle : ns.length ≤ c) (hmx : c ≤ maxLen) : CallsG Try.prog 58 [.slice A ns.length c] G (fun G' v rows => ∃ A' c' cs, v = .tuple #[.slice A' (optP ns).1.length c', .int .i64 (optP ns).2] ∧ rows = [⟨65, 3, .slice A' (optP ns).1.length c', (optP ns).1.length, cs⟩] ∧ repsD optD G' (optP ns).1 cs) := by
 simp only [maxLen] at hmx
 refine CallsG.enter Try.func58 rfl rfl ?_
 intro w
 refine Rn 6 (Qc B58 3) [] ⟨48, [(0, VL A ns.length c), (2, VL none 0 0), (3, I6 0)], []⟩ ?_
 refine X.scope (c' := C58) (by kernel_rfl) ?_
 refine Rn 8 (.code (cA C58 [0, 1])) [.seq (cA C58 [1])] ⟨48, [(0, VL A ns.length c), (2, VL none 0 0), (3, I6 0), (10, VB (decide ((ns.length : Int) > 40)))], []⟩ ?_
 refine Sd 10 rfl ?_ ?_ <;> intro h1
 ·
  refine Rn 9 (.ex .ret) [] ⟨48, [(2, VL none 0 0), (3, I6 4)], []⟩ ?_
  refine X.scopeEnd (fun _ h => by cases h) ?_
  refine Rn 0 (.ex .ret) [] ⟨48, [(2, VL none 0 0), (3, I6 4)], []⟩ ?_
  refine X.nilRow 900 65 3 rfl ?_
  refine Dg (.inl rfl) [.slice none 0 0, N6 4] [900] rfl (Ge.refl _ _) ?_
  have hP_ : optP ns = ([], 4) := optP_long (by omega)
  rw [hP_]
  exact ⟨none, 0, [], rfl, rfl, rfl⟩
 ·
  refine Rc 13 (.code (cA C58 [1, 1, 1, 0, 0])) 1 [.blk 0, .seq (cA C58 [1, 1, 1, 1])] [(4, VL none 0 0)] [10] ?_
  refine X.nilRow 30 65 3 rfl ?_
  refine Rn 0 (.code (cA C58 [1, 1, 1, 0, 0])) [.blk 0, .seq (cA C58 [1, 1, 1, 1])] _ (X.loopJ (fun m s R' G' => ∃ (Y_ B_ : Option Addr) (yc_ c_ n_ : Nat) (ys_ : List Int) (l_ : List Opt) (cs_ : List Value), s = ⟨48, [(0, VL Y_ ys_.length yc_), (4, VL B_ n_ c_)], []⟩ ∧ R' = [(30, RR 65 3 B_ n_ c_ cs_)] ∧ Ge G w.heap.size G' ∧ (rowAt (D.int .u8) G' Y_ ys_ ∧ ys_.length ≤ yc_ ∧ yc_ ≤ maxLen ∧ parseO l_ ys_ = parseO [] ns ∧ repsD optD G' l_ cs_ ∧ n_ = l_.length ∧ 2 * n_ + ys_.length ≤ 40) ∧ m = ys_.length) _ ⟨A, none, c, 0, 0, ns, [], [], rfl, rfl, Ge.refl _ _, ⟨hr, hle, hmx, rfl, rfl, rfl, by omega⟩, rfl⟩ ?_)
  rintro m2 s2 R2 G2 ⟨Y_, B_, yc_, c_, n_, ys_, l_, cs_, rfl, rfl, hG2, hF2, rfl⟩ J2 hJ2
  replace hr := hr.mono hG2.le
  obtain ⟨hry, hyc, hym, hpa, hcs, hn, hb⟩ := hF2
  simp only [maxLen] at hym
  refine Ra 8 (.code (cA C58 [1, 1, 1, 0, 0, 0, 0, 1])) 0 [.seq (cA C58 [1, 1, 1, 0, 0, 0, 1])] [(13, VB (decide ((ys_.length : Int) > 0)))] ?_
  refine Sd 13 rfl ?_ ?_ <;> intro h3
  ·
   refine Rc 8 (.ops (aA C58 [1, 1, 1, 0, 0, 0, 1, 0, 0, 0]) (oA C58 [1, 1, 1, 0, 0, 0, 1, 0, 0, 0] 1 :: lA C58 [1, 1, 1, 0, 0, 0, 1, 0, 0, 0] 2)) 1 [.seq (cA C58 [1, 1, 1, 0, 0, 0, 1, 0, 0, 1]), .seq (cA C58 [1, 1, 1, 0, 0, 0, 1, 0, 1]), .blk 1] [(14, VL Y_ ys_.length yc_)] [13] ?_
   refine Ix 22 5 1 Y_ ys_.length yc_ .i64 0 (.tmp 14) (.const (N6 0)) (by omega) (by omega) (fun _ _ => rowAt.so hry (by omega)) ?_
   obtain ⟨at6, lo6, hi6⟩ := At.int [(30, ⟨65, 3, .slice B_ n_ c_, n_, cs_⟩)] hry 0 (by omega)
   simp only [IntKind.lo, IntKind.hi] at lo6 hi6
   refine Rc 0 (.ops (aA C58 [1, 1, 1, 0, 0, 0, 1, 0, 0, 0]) (oA C58 [1, 1, 1, 0, 0, 0, 1, 0, 0, 0] 2 :: lA C58 [1, 1, 1, 0, 0, 0, 1, 0, 0, 0] 3)) 0 [] [(15, .v (elt Y_ (0 * 1)))] [14] ?_
   refine Ld 5 Y_ (0 * 1) (.tmp 15) (N8 (ys_.getD 0 0)) [N8 (ys_.getD 0 0)] at6 ?_
   refine Rc 9 (.code (cA C58 [1, 1, 1, 0, 0, 0, 1, 0, 0, 1, 0, 1])) 1 [.blk 2] [(16, I8 (ys_.getD 0 0)), (17, VB ((ys_.getD 0 0) == 0))] [15] ?_
   refine Se 17 rfl ?_ ?_ <;> intro h7
   ·
    refine Rc 5 (.ops (aA C58 [1, 1, 1, 0, 0, 0, 1, 0, 0, 1, 0, 1, 0, 0, 0]) (oA C58 [1, 1, 1, 0, 0, 0, 1, 0, 0, 1, 0, 1, 0, 0, 0] 1 :: lA C58 [1, 1, 1, 0, 0, 0, 1, 0, 0, 1, 0, 1, 0, 0, 0] 2)) 0 [.seq (cA C58 [1, 1, 1, 0, 0, 0, 1, 0, 0, 1, 0, 1, 0, 0, 1]), .seq (cA C58 [1, 1, 1, 0, 0, 0, 1, 0, 0, 1, 0, 1, 0, 1])] [(19, VL Y_ ys_.length yc_)] [16, 17] ?_
    refine X.inline (f := 118) (l := [VL Y_ ys_.length yc_, .fn 119 []]) (fn := Try.f118) (c := B118) (by kernel_rfl) (by kernel_rfl) Try.func118 (by kernel_rfl) ?_
    intro Q8 M8 hM8 hQ8 fin8
    refine Ra 9 (Qo B118 6 2) 0 [Qs B118 7] [(4, VB false), (5, VL Y_ ys_.length yc_), (6, .fn 119 [])] ?_
    refine X.inline (f := 156) (l := [VL Y_ ys_.length yc_, .fn 119 []]) (fn := Try.f156) (c := B156) (by kernel_rfl) (by kernel_rfl) Try.func156 (by kernel_rfl) ?_
    intro Q9 M9 hM9 hQ9 fin9
    refine Ra 14 (Qc B156 26) 0 [.blk 0, Qs B156 7] [(4, I6 0), (7, I6 (ys_.length : Int)), (8, I6 0)] ?_
    refine Rn 0 (Qc B156 26) [.blk 0, Qs B156 7] _ (X.loopJ (fun m s R' G' => ∃ (i : Int), s = ⟨19, [(0, VL Y_ ys_.length yc_), (1, .fn 119 []), (7, I6 (ys_.length : Int)), (8, I6 i)], []⟩ ∧ R' = [(30, RR 65 3 B_ n_ c_ cs_)] ∧ G2 = G' ∧ (0 ≤ i ∧ i ≤ (ys_.length : Int) ∧ ∀ x ∈ ys_.take i.toNat, x = 0) ∧ m = ((ys_.length : Int) - i).toNat) _ ⟨0, rfl, rfl, rfl, ⟨by omega, by omega, by simp⟩, rfl⟩ ?_)
    rintro m10 s10 R10 G10 ⟨i, rfl, rfl, rfl, hF10, rfl⟩ J10 hJ10
    obtain ⟨hi0, hi1, hi2⟩ := hF10
    refine Ra 6 (Qc B156 210) 0 [Qs B156 211] [(9, VB (decide (i < (ys_.length : Int))))] ?_
    refine Sd 9 rfl ?_ ?_ <;> intro h11
    ·
     refine Ra 16 (Qo B156 3378 3) 1 [Qs B156 3379, .blk 1, Qs B156 423] [(5, I6 i), (11, .fn 119 []), (12, VL Y_ ys_.length yc_), (13, I6 i)] ?_
     refine Ix 22 5 1 Y_ ys_.length yc_ .i64 i (.tmp 12) (.tmp 13) (by omega) (by omega) (fun _ _ => rowAt.so hry (by omega)) ?_
     obtain ⟨at14, lo14, hi14⟩ := At.int [(30, ⟨65, 3, .slice B_ n_ c_, n_, cs_⟩)] hry ((i).toNat) (by omega)
     simp only [IntKind.lo, IntKind.hi] at lo14 hi14
     refine Ra 0 (Qo B156 3378 4) 0 [] [(14, .v (elt Y_ ((i).toNat * 1)))] ?_
     refine Ld 5 Y_ ((i).toNat * 1) (.tmp 14) (N8 (ys_.getD i.toNat 0)) [N8 (ys_.getD i.toNat 0)] at14 ?_
     refine Ra 0 (Qo B156 3378 5) 0 [] [(15, I8 (ys_.getD i.toNat 0))] ?_
     refine X.inline (f := 119) (l := [I8 (ys_.getD i.toNat 0)]) (fn := Try.f119) (c := B119) (by kernel_rfl) (by kernel_rfl) Try.func119 (by kernel_rfl) ?_
     intro Q15 M15 hM15 hQ15 fin15
     refine Rn 13 (.ex .ret) [] ⟨5, [(2, VB ((ys_.getD i.toNat 0) != 0))], []⟩ ?_
     refine fin15 _ _ _ _ [.bool ((ys_.getD i.toNat 0) != 0)] [] (.inl rfl) (by kernel_rfl) (by kernel_rfl) ?_
     refine Ra 2 (Qc B156 3379) 1 [] [(16, VB ((ys_.getD i.toNat 0) != 0))] ?_
     refine Sn 16 rfl ?_ ?_ <;> intro h16
     ·
      refine Rn 13 (.ex .ret) [] ⟨19, [(4, I6 i)], []⟩ ?_
      refine fin9 _ _ _ _ [N6 i] [] (.inl rfl) (by kernel_rfl) (by kernel_rfl) ?_
      refine Rn 5 (.ex .ret) [] ⟨9, [(4, VB (decide (i ≥ 0)))], []⟩ ?_
      refine fin8 _ _ _ _ [.bool (decide (i ≥ 0))] [] (.inl rfl) (by kernel_rfl) (by kernel_rfl) ?_
      refine Rc 2 (.code (cA C58 [1, 1, 1, 0, 0, 0, 1, 0, 0, 1, 0, 1, 0, 0, 1])) 1 [] [(20, VB (decide (i ≥ 0)))] [19] ?_
      refine X.isTrue 20 rfl (decide_eq_true (by omega)) ?_
      refine Rn 15 (.ex .ret) [] ⟨48, [(2, VL none 0 0), (3, I6 5)], []⟩ ?_
      refine X.scopeEnd (fun _ h => by cases h) ?_
      refine Rn 0 (.ex .ret) [] ⟨48, [(2, VL none 0 0), (3, I6 5)], []⟩ ?_
      refine X.nilRow 900 65 3 rfl ?_
      refine Dg (.inl rfl) [.slice none 0 0, N6 5] [900] rfl (hG2) ?_
      have hP_ : optP ns = ([], 5) := (optP_of (by omega)).trans (hpa.symm.trans (parse_bad (i := i.toNat) (by omega) (by assumption) (by omega) (by assumption)))
      rw [hP_]
      exact ⟨none, 0, [], rfl, rfl, rfl⟩
     ·
      have e1 : IntKind.i64.wrap (i + 1) = i + 1 := wi64 (by omega) (by omega)
      have e0 : (i + 1).toNat = i.toNat + 1 := by omega
      exact Rn 8 (.ex .normal) [.loop J10, .blk 0, Qs B156 7] _ (X.again (hJ10 _ _ _ _ ⟨IntKind.i64.wrap (i + 1), rfl, rfl, rfl, ⟨by omega, by omega, by rw [e1, e0]; exact take_all (p := fun x : Int => x = 0) (d := 0) hi2 (by omega) (by assumption)⟩, rfl⟩ (by rw [e1]; omega)))
    ·
     refine Rn 12 (.ex .ret) [] ⟨19, [(4, I6 (-1))], []⟩ ?_
     refine fin9 _ _ _ _ [N6 (-1)] [] (.inl rfl) (by kernel_rfl) (by kernel_rfl) ?_
     refine Rn 5 (.ex .ret) [] ⟨9, [(4, VB false)], []⟩ ?_
     refine fin8 _ _ _ _ [.bool false] [] (.inl rfl) (by kernel_rfl) (by kernel_rfl) ?_
     refine Rn 20 (.ex .ret) [] ⟨48, [(2, VL B_ n_ c_), (3, I6 0)], []⟩ ?_
     refine X.scopeEnd (fun _ h => by cases h) ?_
     refine Rn 0 (.ex .ret) [] ⟨48, [(2, VL B_ n_ c_), (3, I6 0)], []⟩ ?_
     refine Dg (.inl rfl) [.slice B_ n_ c_, N6 0] [30] rfl (hG2) ?_
     have hP_ : optP ns = (l_, 0) := (optP_of (by omega)).trans (hpa.symm.trans (parse_zero (by omega) (by rw [List.take_of_length_le (by omega)] at hi2; exact hi2)))
     rw [hP_, hn]
     exact ⟨B_, c_, cs_, rfl, rfl, hcs⟩
   ·
    refine Rc 7 (.code (cA C58 [1, 1, 1, 0, 0, 0, 1, 0, 0, 1, 0, 1, 1, 1])) 0 [] [(21, VB ((ys_.getD 0 0) == 1))] [16, 17] ?_
    refine Se 21 rfl ?_ ?_ <;> intro h17
    ·
     refine Rc 4 (.ops (aA C58 [1, 1, 1, 0, 0, 0, 1, 0, 0, 1, 0, 1, 1, 1, 0, 0]) (oA C58 [1, 1, 1, 0, 0, 0, 1, 0, 0, 1, 0, 1, 1, 1, 0, 0] 1 :: lA C58 [1, 1, 1, 0, 0, 0, 1, 0, 0, 1, 0, 1, 1, 1, 0, 0] 2)) 0 [.seq (cA C58 [1, 1, 1, 0, 0, 0, 1, 0, 0, 1, 0, 1, 1, 1, 0, 1])] [(23, VL Y_ ys_.length yc_)] [21] ?_
     have hlo18 : 1 ≤ ys_.length := by omega
     have hhi18 : ys_.length ≤ ys_.length := by omega
     refine X.cut (t := 22) (e := 5) (sz := 1) (n := ys_.length) (c := yc_) (A := Y_) (x := .tmp 23) (l := (some (.const (N6 1)))) (h := none) (lv := (some (N6 1))) (hv := none) 1 ys_.length (by kernel_rfl) (by kernel_rfl) (by kernel_rfl) (by kernel_rfl) (by kernel_rfl) (by kernel_rfl) (by kernel_rfl) (⟨_, _, rfl, by omega, rfl⟩) (rfl) hlo18 (Nat.le_trans hhi18 hyc) ?_
     obtain ⟨A18, hA18⟩ : ∃ A_, cutA Y_ yc_ 1 1 = A_ := ⟨_, rfl⟩
     obtain ⟨ys18, hys18⟩ : ∃ l_, (ys_.take ys_.length).drop 1 = l_ := ⟨_, rfl⟩
     have hr18 : rowAt (D.int .u8) G2 (cutA Y_ yc_ 1 1) ((ys_.take ys_.length).drop 1) := rowAt_cut hry hlo18 hhi18 hyc
     have hl18 : ys_.length - 1 = ys18.length := by rw [← hys18, List.length_drop, List.length_take]; omega
     have hc18 : ys18.length ≤ yc_ - 1 := by omega
     have hm18 : yc_ - 1 ≤ maxLen := Nat.le_trans (Nat.sub_le _ _) hym
     rw [hys18, show cutA Y_ yc_ 1 _ = A18 from hA18] at hr18
     rw [hA18, hl18]
     rw [List.take_of_length_le (Nat.le_refl _)] at hys18
     exact Rn 7 (.ex .normal) [.loop J2, .blk 0, .seq (cA C58 [1, 1, 1, 1])] _ (X.again (hJ2 _ _ _ _ ⟨A18, B_, yc_ - 1, c_, n_, ys18, l_, cs_, rfl, rfl, hG2, ⟨hr18, hc18, hm18, by rw [← hys18, ← parse_one (by omega) (by assumption)]; exact hpa, hcs, hn, by omega⟩, rfl⟩ (by omega)))
    ·
     refine Rc 7 (.ops (aA C58 [1, 1, 1, 0, 0, 0, 1, 0, 1, 0]) (oA C58 [1, 1, 1, 0, 0, 0, 1, 0, 1, 0] 1 :: lA C58 [1, 1, 1, 0, 0, 0, 1, 0, 1, 0] 2)) 2 [.seq (cA C58 [1, 1, 1, 0, 0, 0, 1, 0, 1, 1])] [(26, VL Y_ ys_.length yc_)] [21] ?_
     refine Cg 120 [.slice Y_ ys_.length yc_] 41 (one_ok Y_ yc_ ys_ _ hry hyc hym (by omega) (by omega)) ?_
     rintro v19 G19 rows19 hG19 ⟨A19, c19, rfl, rfl⟩
     replace hr := hr.mono hG19.le
     replace hry := hry.mono hG19.le
     replace hcs := hcs.mono hG19.le
     refine Tr [41, 30] ?_
     refine X.capLe (i := 41) rfl rfl ?_
     intro hle20 hmx20
     refine X.freezeHd (i := 41) (n := (oneO ys_).2.1.length) (c := c19) (A := A19) (kd := .u32) ((oneO ys_).2.1) rfl rfl (oneO_range _) (by kernel_rfl) (fun _ h => h) ?_
     intro G20 hG20 hr20
     replace hr := hr.mono hG20.le
     replace hry := hry.mono hG20.le
     replace hcs := hcs.mono hG20.le
     refine Rb 19 (.code (cA C58 [1, 1, 1, 0, 0, 0, 1, 0, 1, 1, 0, 0, 1])) 1 [.blk 3, .seq (cA C58 [1, 1, 1, 0, 0, 0, 1, 0, 1, 1, 1])] [(5, .own 5 0), (6, I6 (oneN ys_)), (7, I6 (oneE ys_)), (31, VB ((oneE ys_) != 0))] [26] [(5, ⟨65, [I6 (ys_.getD 0 0), VL A19 ((oneO ys_).2.1.length) c19, VT ((oneO ys_).2.2)]⟩)] [] ?_
     refine Sn 31 rfl ?_ ?_ <;> intro h21
     ·
      refine Rn 15 (.ex .ret) [] ⟨48, [(2, VL none 0 0), (3, I6 (oneE ys_))], []⟩ ?_
      refine X.scopeEnd (fun _ h => by cases h) ?_
      refine Rn 0 (.ex .ret) [] ⟨48, [(2, VL none 0 0), (3, I6 (oneE ys_))], []⟩ ?_
      refine X.nilRow 900 65 3 rfl ?_
      refine Dg (.inl rfl) [.slice none 0 0, N6 (oneE ys_)] [900] rfl (((hG2.trans hG19).trans hG20)) ?_
      have hP_ : optP ns = ([], oneE ys_) := (optP_of (by omega)).trans (hpa.symm.trans (parse_err (by omega) (by assumption) (by assumption) (by assumption)))
      rw [hP_]
      exact ⟨none, 0, [], rfl, rfl, rfl⟩
     ·
      obtain ⟨ho1, ho2, ho3, ho4, ho5⟩ := oneE_ok (by assumption)
      refine Rc 6 (.ops (aA C58 [1, 1, 1, 0, 0, 0, 1, 0, 1, 1, 0, 0, 1, 1, 0]) (oA C58 [1, 1, 1, 0, 0, 0, 1, 0, 1, 1, 0, 0, 1, 1, 0] 3 :: lA C58 [1, 1, 1, 0, 0, 0, 1, 0, 1, 1, 0, 0, 1, 1, 0] 4)) 0 [.seq (cA C58 [1, 1, 1, 0, 0, 0, 1, 0, 1, 1, 0, 0, 1, 1, 1])] [(36, VL B_ n_ c_), (38, I6 (ys_.getD 0 0))] [7, 31] ?_
      refine X.capLe (i := 30) rfl rfl ?_
      intro hle22 hmx22
      refine X.callV (f := 107) (l := [VL B_ n_ c_, I6 (ys_.getD 0 0)]) (Q := fun v_ => v_ = .bool (hadB l_ (ys_.getD 0 0))) [.slice B_ n_ c_, N6 (ys_.getD 0 0)] (by kernel_rfl) (by kernel_rfl) (by kernel_rfl) (fun G1_ hl_ hr_ => by rw [hn]; exact (had_ok B_ c_ l_ (ys_.getD 0 0) G1_ (rowLit (hr_ 30 _ rfl) (hcs.mono hl_) (by decide)) (by omega) hmx22).mono (fun _ _ _ _ h_ => h_.1)) ?_
      rintro _ rfl
      refine Rc 3 (.code (cA C58 [1, 1, 1, 0, 0, 0, 1, 0, 1, 1, 0, 0, 1, 1, 1])) 1 [] [(35, VB (hadB l_ (ys_.getD 0 0)))] [36, 38] ?_
      refine X.split 35 rfl (fun h23 => ?_) (fun h23 => ?_)
      ·
       refine Rn 14 (.ex .ret) [] ⟨48, [(2, VL none 0 0), (3, I6 5)], []⟩ ?_
       refine X.scopeEnd (fun _ h => by cases h) ?_
       refine Rn 0 (.ex .ret) [] ⟨48, [(2, VL none 0 0), (3, I6 5)], []⟩ ?_
       refine X.nilRow 900 65 3 rfl ?_
       refine Dg (.inl rfl) [.slice none 0 0, N6 5] [900] rfl (((hG2.trans hG19).trans hG20)) ?_
       have hP_ : optP ns = ([], 5) := (optP_of (by omega)).trans (hpa.symm.trans (parse_had (by omega) (by assumption) (by assumption) (by assumption) (by assumption)))
       rw [hP_]
       exact ⟨none, 0, [], rfl, rfl, rfl⟩
      ·
       refine Rb 8 (.ops (aA C58 [1, 1, 1, 0, 0, 0, 1, 0, 1, 1, 1, 0]) (oA C58 [1, 1, 1, 0, 0, 0, 1, 0, 1, 1, 1, 0] 2 :: lA C58 [1, 1, 1, 0, 0, 0, 1, 0, 1, 1, 1, 0] 3)) 2 [.seq (cA C58 [1, 1, 1, 0, 0, 0, 1, 0, 1, 1, 1, 1])] [(40, VL B_ n_ c_), (41, .v (.agg #[N6 (ys_.getD 0 0), .slice A19 ((oneO ys_).2.1.length) c19, .string ((oneO ys_).2.2)]))] [5, 35] [] [5] ?_
       refine Lt 42 65 3 1 [N6 (ys_.getD 0 0), .slice A19 ((oneO ys_).2.1.length) c19, .string ((oneO ys_).2.2)] ?_
       intro A24
       refine Rc 0 (.ops (aA C58 [1, 1, 1, 0, 0, 0, 1, 0, 1, 1, 1, 0]) (oA C58 [1, 1, 1, 0, 0, 0, 1, 0, 1, 1, 1, 0] 3 :: lA C58 [1, 1, 1, 0, 0, 0, 1, 0, 1, 1, 1, 0] 4)) 0 [] [(42, VL A24 1 1)] [41] ?_
       refine Ap 30 _ 59 48 (.agg #[N6 0, .slice none 0 0, .string ByteArray.empty]) (.tmp 40) (.tmp 42) n_ c_ 1 1 B_ A24 [N6 (ys_.getD 0 0), .slice A19 ((oneO ys_).2.1.length) c19, .string ((oneO ys_).2.2)] (.inl rfl) (by kernel_rfl) (Ar 42 rfl) (Br 42 rfl) (ones (by kernel_rfl)) (by omega) ?_
       intro A25 c25 hc25
       refine Tr [30, 42] ?_
       refine Rc 6 (.ops (aA C58 [1, 1, 1, 0, 0, 0, 1, 0, 1, 1, 1, 1]) (oA C58 [1, 1, 1, 0, 0, 0, 1, 0, 1, 1, 1, 1] 2 :: lA C58 [1, 1, 1, 0, 0, 0, 1, 0, 1, 1, 1, 1] 3)) 1 [] [(4, VL A25 (n_ + 1) c25), (44, VL Y_ ys_.length yc_), (45, I6 (oneN ys_))] [6, 40, 42] ?_
       have hlo26 : (oneN ys_).toNat ≤ ys_.length := by omega
       have hhi26 : ys_.length ≤ ys_.length := by omega
       refine X.cut (t := 22) (e := 5) (sz := 1) (n := ys_.length) (c := yc_) (A := Y_) (x := .tmp 44) (l := (some (.tmp 45))) (h := none) (lv := (some (N6 (oneN ys_)))) (hv := none) ((oneN ys_).toNat) ys_.length (by kernel_rfl) (by kernel_rfl) (by kernel_rfl) (by kernel_rfl) (by kernel_rfl) (by kernel_rfl) (by kernel_rfl) (⟨_, _, rfl, by omega, rfl⟩) (rfl) hlo26 (Nat.le_trans hhi26 hyc) ?_
       obtain ⟨A26, hA26⟩ : ∃ A_, cutA Y_ yc_ ((oneN ys_).toNat) 1 = A_ := ⟨_, rfl⟩
       obtain ⟨ys26, hys26⟩ : ∃ l_, (ys_.take ys_.length).drop ((oneN ys_).toNat) = l_ := ⟨_, rfl⟩
       have hr26 : rowAt (D.int .u8) G20 (cutA Y_ yc_ ((oneN ys_).toNat) 1) ((ys_.take ys_.length).drop ((oneN ys_).toNat)) := rowAt_cut hry hlo26 hhi26 hyc
       have hl26 : ys_.length - ((oneN ys_).toNat) = ys26.length := by rw [← hys26, List.length_drop, List.length_take]; omega
       have hc26 : ys26.length ≤ yc_ - ((oneN ys_).toNat) := by omega
       have hm26 : yc_ - ((oneN ys_).toNat) ≤ maxLen := Nat.le_trans (Nat.sub_le _ _) hym
       rw [hys26, show cutA Y_ yc_ ((oneN ys_).toNat) _ = A26 from hA26] at hr26
       rw [hA26, hl26]
       refine Tr [30] ?_
       rw [List.take_of_length_le (Nat.le_refl _)] at hys26
       exact Rn 3 (.ex .normal) [.loop J2, .blk 0, .seq (cA C58 [1, 1, 1, 1])] _ (X.again (hJ2 _ _ _ _ ⟨A26, A25, yc_ - ((oneN ys_).toNat), c25, n_ + 1, ys26, l_ ++ [oneO ys_], cs_ ++ [N6 (ys_.getD 0 0), .slice A19 ((oneO ys_).2.1.length) c19, .string ((oneO ys_).2.2)], rfl, rfl, ((hG2.trans hG19).trans hG20), ⟨hr26, hc26, hm26, by rw [← hys26, ← parse_step (by omega) (by assumption) (by assumption) (by assumption) (by assumption)]; exact hpa, repsD_snoc hcs (one_rep ⟨by omega, by omega⟩ (by omega) hle20 hmx20 hr20), by rw [List.length_append, ← hn]; rfl, by omega⟩, rfl⟩ (by omega)))
  ·
   refine Rn 14 (.ex .ret) [] ⟨48, [(2, VL B_ n_ c_), (3, I6 0)], []⟩ ?_
   refine X.scopeEnd (fun _ h => by cases h) ?_
   refine Rn 0 (.ex .ret) [] ⟨48, [(2, VL B_ n_ c_), (3, I6 0)], []⟩ ?_
   refine Dg (.inl rfl) [.slice B_ n_ c_, N6 0] [30] rfl (hG2) ?_
   have hP_ : optP ns = (l_, 0) := (optP_of (by omega)).trans (hpa.symm.trans (parse_nil (by omega)))
   rw [hP_, hn]
   exact ⟨B_, c_, cs_, rfl, rfl, hcs⟩
theorem pow_le4 {a b : Nat} (h : a ≤ b) (hb : b ≤ 4) : (256 : Int) ^ a ≤ 256 ^ b := by
 have h5 : ∀ b : Fin 5, ∀ a : Fin 5, a.1 ≤ b.1 → (256 : Int) ^ a.1 ≤ 256 ^ b.1 := by decide
 exact h5 ⟨b, by omega⟩ ⟨a, by omega⟩ h
theorem num_lt : ∀ (n : Nat) (l : List Int), l.length = n → (∀ x ∈ l, 0 ≤ x ∧ x ≤ 255) → n ≤ 4 → num l < 256 ^ n := by
 intro n
 induction n with
 | zero =>
  intro l hl _ _
  rw [List.eq_nil_of_length_eq_zero hl]
  decide
 | succ n ih =>
  intro l hl h hn
  rcases List.eq_nil_or_concat l with rfl | ⟨l', c, rfl⟩
  · simp at hl
  ·
   rw [List.concat_eq_append] at hl h ⊢
   have hl' : l'.length = n := by simpa using hl
   have ih' := ih l' hl' (fun x hx => h x (by simp [hx])) (by omega)
   have hc := h c (by simp)
   have hr := num_range l'
   rw [num_snoc]
   have e : (256 : Int) ^ (n + 1) = 256 ^ n * 256 := Int.pow_succ _ _
   omega
theorem one_fine {l : List Int} (h : 0 < l.length) (hb : ∀ x ∈ l, 0 ≤ x ∧ x ≤ 255) (h0 : l.getD 0 0 ≠ 0) (h1 : l.getD 0 0 ≠ 1) (he : oneE l = 0) : fineB (oneO l) = true ∧ optLen (oneO l) = oneN l ∧ ∀ n ∈ (oneO l).2.1, 0 ≤ n := by
 obtain ⟨e1, e2, e3, e4, e5⟩ := oneE_ok he
 have hk := hb _ (getD_mem (d := 0) h)
 have hk2 : 2 ≤ l.getD 0 0 ∧ l.getD 0 0 ≤ 255 := by omega
 have hil := inB_len e3
 have ho : oneO l = optS (l.getD 0 0) (inB l) := by unfold oneO; rw [if_pos he]
 have hinb : ∀ x ∈ inB l, 0 ≤ x ∧ x ≤ 255 := fun x hx => hb x (List.mem_of_mem_take (List.mem_of_mem_drop hx))
 by_cases hz : szk (l.getD 0 0) = 0
 ·
  have ho2 : oneO l = (l.getD 0 0, [], strOf (inB l)) := by rw [ho]; unfold optS; rw [if_pos hz]
  rw [ho2]
  refine ⟨?_, ?_, fun n hn => by cases hn⟩
  · rw [fine_free hk2 hz]; rfl
  ·
   show 2 + ((0 : Nat) : Int) * szk (l.getD 0 0) + ((strOf (inB l)).size : Int) = oneN l
   rw [strOf_size, hil, hz, e5]
   omega
 ·
  have hz0 := (szk_nn (l.getD 0 0)).1
  have hz4 := (szk_nn (l.getD 0 0)).2
  rw [okP_eq hz] at e4
  have e4 := of_decide_eq_true e4
  have ho2 : oneO l = (l.getD 0 0, numsOf (inB l) (szk (l.getD 0 0)).toNat ((inB l).length / (szk (l.getD 0 0)).toNat), ⟨#[]⟩) := by rw [ho]; unfold optS; rw [if_neg hz]
  have hq : (((inB l).length / (szk (l.getD 0 0)).toNat : Nat) : Int) = (((l.getD 1 0).toNat - 2 : Nat) : Int) / szk (l.getD 0 0) := by
   rw [hil, Int.natCast_ediv, Int.toNat_of_nonneg hz0]
  rw [ho2]
  refine ⟨?_, ?_, fun n hn => (numsOf_range _ _ _ n hn).1⟩
  ·
   refine fine_yes hk2 hz rfl rfl ?_ ?_
   · rw [numsOf_len, hq]; exact e4.2
   ·
    intro n hn
    obtain ⟨k, _, rfl⟩ := List.mem_map.mp hn
    have hlen : (((inB l).drop (k * (szk (l.getD 0 0)).toNat)).take (szk (l.getD 0 0)).toNat).length ≤ (szk (l.getD 0 0)).toNat := by rw [List.length_take]; omega
    refine Int.lt_of_lt_of_le (num_lt _ _ rfl (fun x hx => hinb x (List.mem_of_mem_drop (List.mem_of_mem_take hx))) (by omega)) ?_
    exact pow_le4 hlen (by omega)
  ·
   show 2 + (((numsOf (inB l) _ _).length : Nat) : Int) * szk (l.getD 0 0) + ((0 : Nat) : Int) = oneN l
   rw [numsOf_len, hq, Int.ediv_mul_cancel (Int.dvd_of_emod_eq_zero e4.1), e5]
   omega
theorem parse_fine : ∀ (n : Nat) (b : List Int) (acc m : List Opt), b.length ≤ n → (∀ x ∈ b, 0 ≤ x ∧ x ≤ 255) → parseO acc b = (m, 0) → ∃ l, m = acc ++ l ∧ chk acc l = 0 ∧ sumO l ≤ b.length ∧ ∀ o ∈ l, ∀ n ∈ o.2.1, 0 ≤ n := by
 intro n
 induction n with
 | zero =>
  intro b acc m hn hb h
  rw [parse_nil (by omega)] at h
  injection h with h _
  exact ⟨[], by simp [h], rfl, by simp [sumO], by simp⟩
 | succ n ih =>
  intro b acc m hn hb h
  by_cases hl : 0 < b.length
  ·
   by_cases h0 : b.getD 0 0 = 0
   ·
    by_cases hz : ∀ x ∈ b, x = 0
    ·
     rw [parse_zero hl hz] at h
     injection h with h _
     exact ⟨[], by simp [h], rfl, by simp only [sumO]; omega, by simp⟩
    ·
     exfalso
     have : ∃ i, i < b.length ∧ b.getD i 0 ≠ 0 := Classical.byContradiction fun hne => hz fun x hx => by
      obtain ⟨i, hi, rfl⟩ := List.getElem_of_mem hx
      refine Classical.byContradiction fun hx0 => hne ⟨i, hi, ?_⟩
      simpa [hi] using hx0
     obtain ⟨i, hi, hx⟩ := this
     rw [parse_bad hl h0 hi hx] at h
     injection h with _ h
     exact absurd h (by decide)
   ·
    by_cases h1 : b.getD 0 0 = 1
    ·
     rw [parse_one hl h1] at h
     obtain ⟨l, e1, e2, e3, e4⟩ := ih (b.drop 1) acc m (by rw [List.length_drop]; omega) (fun x hx => hb x (List.mem_of_mem_drop hx)) h
     exact ⟨l, e1, e2, by rw [List.length_drop] at e3; omega, e4⟩
    ·
     by_cases he : oneE b = 0
     ·
      cases hh : hadB acc (b.getD 0 0) with
      | true =>
       rw [parse_had hl h0 h1 he hh] at h
       injection h with _ h
       exact absurd h (by decide)
      | false =>
       rw [parse_step hl h0 h1 he hh] at h
       obtain ⟨f1, f2, f3⟩ := one_fine hl hb h0 h1 he
       obtain ⟨_, g2, g3, _, g5⟩ := oneE_ok he
       obtain ⟨l, e1, e2, e3, e4⟩ := ih (b.drop (oneN b).toNat) (acc ++ [oneO b]) m (by rw [List.length_drop]; omega) (fun x hx => hb x (List.mem_of_mem_drop hx)) h
       rw [List.length_drop] at e3
       refine ⟨oneO b :: l, by rw [e1]; simp, ?_, ?_, ?_⟩
       ·
        have hk : (oneO b).1 = b.getD 0 0 := by
         unfold oneO optS
         (repeat' split) <;> rfl
        rw [chk, if_pos f1, if_neg (by rw [hk, hh]; decide)]
        exact e2
       ·
        show optLen (oneO b) + sumO l ≤ b.length
        omega
       ·
        intro o ho
        rcases List.mem_cons.mp ho with rfl | ho
        · exact f3
        · exact e4 o ho
     ·
      rw [parse_err hl h0 h1 he] at h
      injection h with _ h
      exact absurd h he
  ·
   rw [parse_nil (by omega)] at h
   injection h with h _
   exact ⟨[], by simp [h], rfl, by simp only [sumO]; omega, by simp⟩
end Go.Proofs.YtjgpdbkkpomhjaaX
