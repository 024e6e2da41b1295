/-
  LeachTrue holds for every input: called with any cavern, stages, truth, weights and number, the law returns true, and its arguments read behind the call as before. No condition.
-/
import Derived.Test.YthbpdkcfnbiejaaAh
set_option linter.unusedVariables false
set_option linter.unusedSimpArgs false
set_option linter.unusedSectionVars false

namespace Go.Proofs.Ythbpdkcfnbiejaa
open Go.ChangeShapes Go.WideShapes Go.ChangeAt Go.RowKit Go.Sim Go.Sim.Le
set_option maxRecDepth 100000 in
theorem leachTrue_fit (cs : List V) (h : ArgsFit [(true, shCav), (false, [.row shStg]), (true, shTruth), (false, [.row [i8]]), (false, [i8])] cs) : (E 2000000000000000 20).pf 17 cs = some (.ret (.bool true)) := by
  obtain ⟨l0, cs0, rfl, h0, g0⟩ := h
  obtain ⟨s1, c1, cs1, e1, rfl, h1, g1⟩ := g0
  obtain ⟨l2, cs2, rfl, h2, g2⟩ := g1
  obtain ⟨s3, c3, cs3, e3, rfl, h3, g3⟩ := g2
  obtain ⟨s4, c4, cs4, e4, rfl, h4, g4⟩ := g3
  injection e1 with e1 _; subst e1
  injection e3 with e3 _; subst e3
  injection e4 with e4 _; subst e4
  obtain rfl : cs4 = [] := g4
  obtain ⟨a0, rfl, m0⟩ := decCav l0 h0
  obtain ⟨a1, rfl, m1, n1⟩ := fitRow decStg h1
  obtain ⟨a2, rfl, m2⟩ := decTruth l2 h2
  obtain ⟨a3, rfl, m3, n3⟩ := fitRow decInt h3
  obtain ⟨a4, rfl, m4⟩ := fitInt h4
  exact s17 2000000000000000 0 a0 a1 a2 a3 a4 (lenB m0.1) (by have := m0.1; omega) (lenB m1.1) (by have := m1.1; omega) (lenB m2.2.1.1) (by have := m2.2.1.1; omega) m2.1.2 (lenB m3.1) (by have := m3.1; omega) (by omega)
set_option maxRecDepth 100000 in
theorem leachTrue_lifted (os : Os) (started : os.Started) (H : Type) (enc : TypeId × Value → H) :
    ReturnsInHanded {} Try.checked os 17 .any (Rows.leachTrueSpec.pre6 enc Try.prog Try.f17 Rows.leachTrueRow.domain false) (Rows.leachTrueSpec.post enc Try.prog Try.f17 false true false false) := by
  refine returnsInHanded_of_change_sized (C := Try.checked) own started (by kernel_rfl) Try.func17
    (ChangeSpec.witness6 (enc := enc) (C := Try.checked) false ⟨#[], #[.agg #[.slice none 0 0, .int .i64 0, .int .i64 0], .slice none 0 0, .agg #[.slice none 0 0, .slice none 0 0], .slice none 0 0, .int .i64 0], []⟩ 8 (by kernel_rfl) (by kernel_rfl) (by kernel_rfl) (by kernel_rfl)) ?_
  intro W base args ds gs before hval hW _ hwt _
  exact law_contract (tb := 4) (okE 2000000000000000 20) (by kernel_rfl) leachTrue_fit
    ⟨rfl, fun H ds h => by match ds, h with | [_, _, _, _, _], _ => exact ⟨rfl, rfl, rfl⟩⟩ (by kernel_rfl) (by kernel_rfl) laid (by decide +kernel) W base args ds gs before hval hW hwt
theorem leachTrue_holds : Rows.LeachTrueSaid :=
  OpenClaim.holds_of_wide 17 Try.f17 rfl rfl rfl rfl rfl rfl rfl ⟨rfl, rfl, rfl, rfl, rfl⟩ rfl rfl rfl rfl rfl (by kernel_rfl) Try.func17 (by kernel_rfl)
    (of_decide_eq_true (by kernel_rfl)) (by unfold Func.isWrapper; first | (rw [if_pos (by decide +kernel)]; kernel_rfl) | (rw [if_neg (by decide +kernel)]; exact ⟨rfl, rfl⟩))
    (fun os started H enc _ => leachTrue_lifted os started H enc)
#print axioms leachTrue_holds
end Go.Proofs.Ythbpdkcfnbiejaa
