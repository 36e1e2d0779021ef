/- Calls that write into a row of the caller's own. Conditions: none. -/
import Derived.Test.YtjgpdbkkpomhjaaYL
namespace Go.Proofs.YtjgpdbkkpomhjaaX
open Go.RowKit
open Go.Proofs.YtjgpdbkkpomhjaaW.PrintLast
set_option linter.unusedVariables false
set_option linter.unusedSimpArgs false
/-- What a value that leads to no box is. -/
def clAV : AV → Option Value
  | .v x => some x
  | .fn f [] => some (.func (.func f) #[] #[])
  | _ => none
def clAll : List AV → Option (List Value)
  | [] => some []
  | x :: l => match clAV x, clAll l with
    | some y, some ys => some (y :: ys)
    | _, _ => none
theorem clAV_eq {ρ : Nat → Nat} {x : AV} {y : Value} (h : clAV x = some y) : x.real ρ = y := by
  cases x with
  | v x => simpa [clAV, AV.real] using h
  | own b o => cases h
  | fn f cs => cases cs with
    | nil => simpa [clAV, AV.real] using h
    | cons c cs => cases h
  | mth f b o => cases h
theorem clAll_eq {ρ : Nat → Nat} : ∀ {l : List AV} {ys : List Value}, clAll l = some ys → l.map (AV.real ρ) = ys
  | [], ys, h => by simp only [clAll, Option.some.injEq] at h; subst h; rfl
  | x :: l, ys, h => by
    simp only [clAll] at h
    split at h
    · rename_i y ys' h1 h2
      injection h with h
      subst h
      rw [List.map_cons, clAV_eq h1, clAll_eq h2]
    · cases h
/-- What such a call leaves: its answer, and the row's cells. -/
def PostR (q : Row) (w : World) (Post : Value → List Value → Prop) (e : Ending) (w' : World) : Prop :=
  ∃ v cs, e = .returned v ∧ w.grownBy w' q.v.ownBlock ∧ w'.ownsRow 0 q.e q.size q.v q.n cs ∧ Post v cs
/-- A call that may write into the row q of the caller's own. -/
def CallsR (P : Program) (f : FuncId) (l : List AV) (G : Mem) (q : Row) (Post : Value → List Value → Prop) : Prop :=
  ∀ w vs, clAll l = some vs → Hold G w → w.ownsRow 0 q.e q.size q.v q.n q.cells → (∀ k o, G k = some o → q.v.ownBlock ≠ some k) → Calls P f vs.toArray w (PostR q w Post)
theorem CallsR.mono {P : Program} {f : FuncId} {l : List AV} {G : Mem} {q : Row} {Post Post' : Value → List Value → Prop} (h : CallsR P f l G q Post) (hp : ∀ v cs, Post v cs → Post' v cs) : CallsR P f l G q Post' := fun w vs h1 h2 h3 h4 =>
  (h w vs h1 h2 h3 h4).mono fun e w' ⟨v, cs, a, b, c, d⟩ => ⟨v, cs, a, b, c, hp v cs d⟩
def CtxR (P : Program) (fn : Func) (q : Row) (w : World) (Post : Value → List Value → Prop) : Ctx := ⟨P, bodyPost P fn (PostR q w Post), w, ⟨fun k => q.v.ownBlock = some k, fun _ => none⟩⟩
theorem CallsR.enter {P : Program} {f : FuncId} {fn : Func} {c : Code} {l : List AV} {G : Mem} {q : Row} {Post : Value → List Value → Prop} (i : Nat) (hf : P.funcs[f]? = some fn) (hb : fn.body = some c) (hn : Nat.ble l.length fn.ntmps = true)
    (H : ∀ w, X (CtxR P fn q w Post) (.code c) [] ⟨fn.ntmps, enumA 0 l, []⟩ [(i, q)] G) : CallsR P f l G q Post := by
  intro w vs hcl hw hq hg
  refine calls_of_wp hf hb ?_
  have hle := Nat.ble_eq.mp hn
  have hvs : vs = l.map (AV.real (fun _ => 0)) := (clAll_eq hcl).symm
  have hR : ∀ {j r}, lk [(i, q)] j = some r → j = i ∧ r = q := fun {j r} h => by
    rw [lk_cons] at h
    by_cases e : i = j
    · rw [if_pos e] at h
      injection h with h
      exact ⟨e.symm, h.symm⟩
    · rw [if_neg e] at h
      simp [lk] at h
  refine H w (fun _ => 0) _ w ⟨fun j x hj => ?_, ?_, rfl, fun j b hj => ?_, fun j b hj => ?_, fun j m b c hj => ?_, fun j r hj => ?_, fun j r k hj hk => ?_, fun j m r p k hj hm _ _ => ?_, fun j m r b hj hm => ?_, hw, fun k o j b _ hj => ?_, fun k o j r hk hj => ?_, Fr.refl _ _, fun b g hb => by cases hb⟩
  · obtain ⟨_, h2⟩ := enumA_lk hj
    rw [Nat.sub_zero] at h2
    have h3 : (l.map (AV.real (fun _ => 0)))[j]? = some (x.real (fun _ => 0)) := by rw [List.getElem?_map, h2]; rfl
    rw [← hvs] at h3
    have hlt := (List.getElem?_eq_some_iff.mp h3).1
    rw [Array.getElem?_append_left (by simpa using hlt)]
    simpa using h3
  · rw [hvs]; simp; omega
  · simp [lk] at hj
  · simp [lk] at hj
  · simp [lk] at hj
  · obtain ⟨rfl, rfl⟩ := hR hj; exact hq
  · obtain ⟨rfl, rfl⟩ := hR hj; exact .inr hk
  · obtain ⟨rfl, rfl⟩ := hR hj
    obtain ⟨rfl, rfl⟩ := hR hm
    rfl
  · simp [lk] at hm
  · simp [lk] at hj
  · obtain ⟨rfl, rfl⟩ := hR hj; exact hg k o hk
/-- The call comes to its end. -/
theorem doneR {P : Program} {fn : Func} {G' : Mem} {w : World} {q : Row} {Post : Value → List Value → Prop} {e : Exit} {s : S} {R : List (Nat × Row)} (he : e = .ret ∨ e = .normal) (vs : List Value) (i : Nat) (cs : List Value)
    (hr : (resAll P s fn.results.toList).bind plainAll = some vs) (hR : lk R i = some ⟨q.e, q.size, q.v, q.n, cs⟩) (H : Post (mkRes vs) cs) : X (CtxR P fn q w Post) (.ex e) [] s R G' := by
  intro ρ a w' hs
  obtain ⟨xs, h1, h2⟩ := Option.bind_eq_some_iff.mp hr
  have hrun := results_run (fn := fn) hs h1 (plainAll_real h2)
  have hfr := hs.fr
  have hq : PostR q w Post (.returned (mkRes vs)) w' := ⟨_, cs, rfl, ⟨hfr.os, hfr.tape, hfr.output, hfr.size, fun k hk hn => hfr.block k hk (fun e => hn e.symm)⟩, hs.rw i _ hR, H⟩
  rcases he with rfl | rfl
  · exact ⟨hs.df, _, hrun, hq⟩
  · exact ⟨hs.df, _, hrun, hq⟩
section
variable {C : Ctx} {arr : Array Oper} {k : List CK} {s : S} {R : List (Nat × Row)} {G : Mem} {o : Oper} {r : List Oper}
theorem X.callR {f : FuncId} {l : List AV} (i : Nat) {q : Row} {Post : Value → List Value → Prop} (hc : calls s o = some (f, l)) (hcl : (clAll l).isSome = true) (hf : (okFn C.P f && (guardOk s arr o && s.can o.dst)) = true) (hq : lk R i = some q) (hC : CallsR C.P f l G q Post)
    (H : ∀ v cs, Post v cs → X C (.ops arr r) k (s.put o.dst (.v v)) ((i, { q with cells := cs }) :: R) G) : X C (.ops arr (o :: r)) k s R G := by
  simp only [Bool.and_eq_true] at hf
  obtain ⟨vs, hvs⟩ := Option.isSome_iff_exists.mp hcl
  refine X.call hc hf.1 hf.2.1 fun ρ a w hs => ?_
  rw [clAll_eq (ρ := ρ) hvs]
  refine (hC w vs hvs hs.g (hs.rw i q hq) (fun k o hk => hs.gr k o i q hk hq)).mono ?_
  rintro e w' ⟨v, cs, rfl, hg, ho, hp⟩
  exact ⟨v, rfl, ρ, _, _, G, H v cs hp, (hs.row i (q := { q with cells := cs }) (old := q.v.ownBlock) (fun g h => ⟨q, hq, h⟩) hg ho (fun g h => .inl h)).put (x := .v v) hf.2.2⟩
end
end Go.Proofs.YtjgpdbkkpomhjaaX
