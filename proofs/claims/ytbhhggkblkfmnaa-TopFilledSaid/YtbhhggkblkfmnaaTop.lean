/-
  TopFilled holds for every input: called with any cavern, stages, truth, cavern of gas, state and content, the law returns true, and its arguments read behind the call as before. No condition.
-/
import Derived.Test.YtbhhggkblkfmnaaAf
set_option linter.unusedVariables false
set_option linter.unusedSimpArgs false
set_option linter.unusedSectionVars false

namespace Go.Proofs.Ytbhhggkblkfmnaa
open Go.ChangeShapes Go.WideShapes Go.ChangeAt Go.RowKit Go.Sim Go.Sim.Le
set_option maxRecDepth 100000 in
theorem topFilled_fit (cs : List V) (h : ArgsFit [(true, shCav), (false, [.row shStg]), (true, shTruth), (true, shGas), (true, shGst), (true, shGpt)] cs) : (E 2000000000000000 26).pf 3 cs = some (.ret (.bool true)) := by
  obtain ⟨l0, cs0, rfl, h0, g0⟩ := h
  obtain ⟨s1, c1, cs1, e1, rfl, h1, g1⟩ := g0
  obtain ⟨l2, cs2, rfl, h2, g2⟩ := g1
  obtain ⟨l3, cs3, rfl, h3, g3⟩ := g2
  obtain ⟨l4, cs4, rfl, h4, g4⟩ := g3
  obtain ⟨l5, cs5, rfl, h5, g5⟩ := g4
  injection e1 with e1 _; subst e1
  obtain rfl : cs5 = [] := g5
  obtain ⟨a0, rfl, m0⟩ := decCav l0 h0
  obtain ⟨a1, rfl, m1, n1⟩ := fitRow decStg h1
  obtain ⟨a2, rfl, m2⟩ := decTruth l2 h2
  obtain ⟨a3, rfl, m3⟩ := decGas l3 h3
  obtain ⟨a4, rfl, m4⟩ := decGst l4 h4
  obtain ⟨a5, rfl, m5⟩ := decGpt l5 h5
  exact law7003 1999999999997000 0 (by omega) a0 a1 a2 a3 a4 a5 m0.1 m1.1 m2.2.1.1 m2.1.2
set_option maxRecDepth 100000 in
theorem topFilled_lifted (os : Os) (started : os.Started) (H : Type) (enc : TypeId × Value → H) :
    ReturnsInHanded {} Try.checked os 3 .any (Rows.topFilledSpec.pre6 enc Try.prog Try.f3 Rows.topFilledRow.domain false) (Rows.topFilledSpec.post enc Try.prog Try.f3 false true false false) := by
  refine returnsInHanded_of_change_sized (C := Try.checked) own started (by kernel_rfl) Try.func3
    (ChangeSpec.witness6 (enc := enc) (C := Try.checked) false ⟨#[], #[.agg #[.slice none 0 0, .int .i64 0, .int .i64 0], .slice none 0 0, .agg #[.slice none 0 0, .slice none 0 0], .agg #[.int .i64 0, .int .i64 0, .int .i64 0, .int .i64 0, .int .i64 0, .int .i64 0, .int .i64 0, .int .i64 0, .int .i64 0, .int .i64 0, .int .i64 0], .agg #[.int .i64 0, .int .i64 0, .int .i64 0, .int .i64 0, .int .i64 0, .int .i64 0, .int .i64 0, .int .i64 0], .agg #[.int .i64 0, .int .i64 0, .int .i64 0, .int .i64 0]], []⟩ 8 (by kernel_rfl) (by kernel_rfl) (by kernel_rfl) (by kernel_rfl)) ?_
  intro W base args ds gs before hval hW _ hwt _
  exact law_contract (tb := 4) (okE 2000000000000000 26) (by kernel_rfl) topFilled_fit
    ⟨rfl, fun H ds h => by match ds, h with | [_, _, _, _, _, _], _ => exact ⟨rfl, rfl, rfl⟩⟩ (by kernel_rfl) (by kernel_rfl) laid (by decide +kernel) W base args ds gs before hval hW hwt
theorem topFilled_holds : Rows.TopFilledSaid :=
  OpenClaim.holds_of_wide 3 Try.f3 rfl rfl rfl rfl rfl rfl rfl ⟨rfl, rfl, rfl, rfl, rfl⟩ rfl rfl rfl rfl rfl (by kernel_rfl) Try.func3 (by kernel_rfl)
    (of_decide_eq_true (by kernel_rfl)) (by unfold Func.isWrapper; first | (rw [if_pos (by decide +kernel)]; kernel_rfl) | (rw [if_neg (by decide +kernel)]; exact ⟨rfl, rfl⟩))
    (fun os started H enc _ => topFilled_lifted os started H enc)
#print axioms topFilled_holds
end Go.Proofs.Ytbhhggkblkfmnaa
