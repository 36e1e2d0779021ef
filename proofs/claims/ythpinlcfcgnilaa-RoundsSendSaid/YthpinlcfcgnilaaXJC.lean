/- Ways that come together. Conditions: none. -/
import Derived.Test.YthpinlcfcgnilaaXSG
namespace Go.Proofs.YthpinlcfcgnilaaX
abbrev i6 (x : Int) : AV := .v (.int .i64 x)
theorem X.joinCG {C : Ctx} {cur : Cur} {k : List CK} {s : S} {R : List (Nat × Row)} {G : Mem} (cur2 : Cur) (k2 : List CK) (s2 : S) (HJ : ∀ G2, Ge G C.w0.heap.size G2 → X C cur2 k2 s2 R G2) (K : (∀ G2, Ge G C.w0.heap.size G2 → X C cur2 k2 s2 R G2) → X C cur k s R G) : X C cur k s R G := K HJ
theorem X.joinUK {C : Ctx} {cur : Cur} {k : List CK} {s : S} {R : List (Nat × Row)} {G : Mem} (cur2 : Cur) (k2 : List CK) (s2 : Int → List Int → S) (F : Int → List Int → Mem → Prop) (HJ : ∀ U K G2, F U K G2 → X C cur2 k2 (s2 U K) R G2) (K : (∀ U K G2, F U K G2 → X C cur2 k2 (s2 U K) R G2) → X C cur k s R G) : X C cur k s R G := K HJ
theorem X.castS {C : Ctx} {cur : Cur} {k : List CK} {s : S} {R : List (Nat × Row)} {G : Mem} (s' : S) (h : s = s') (H : X C cur k s' R G) : X C cur k s R G := by
  subst h
  exact H
end Go.Proofs.YthpinlcfcgnilaaX
