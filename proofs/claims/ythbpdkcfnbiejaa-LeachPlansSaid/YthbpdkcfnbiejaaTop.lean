/-
  LeachPlans holds for every input: called with any cavern, menu and shape, the law returns true, and its arguments read behind the call as before. No condition.
-/
import Derived.Test.YthbpdkcfnbiejaaAh
set_option linter.unusedVariables false
set_option linter.unusedSimpArgs false
set_option linter.unusedSectionVars false

namespace Go.Proofs.Ythbpdkcfnbiejaa
open Go.ChangeShapes Go.WideShapes Go.ChangeAt Go.RowKit Go.Sim Go.Sim.Le
set_option maxRecDepth 100000 in
theorem leachPlans_fit (cs : List V) (h : ArgsFit [(true, shCav), (false, [.row shStg]), (false, [.row [i8]])] cs) : (E 2000000000000000 20).pf 6 cs = some (.ret (.bool true)) := by
  obtain ⟨l0, cs0, rfl, h0, g0⟩ := h
  obtain ⟨s1, c1, cs1, e1, rfl, h1, g1⟩ := g0
  obtain ⟨s2, c2, cs2, e2, rfl, h2, g2⟩ := g1
  injection e1 with e1 _; subst e1
  injection e2 with e2 _; subst e2
  obtain rfl : cs2 = [] := g2
  obtain ⟨a0, rfl, m0⟩ := decCav l0 h0
  obtain ⟨a1, rfl, m1, n1⟩ := fitRow decStg h1
  obtain ⟨a2, rfl, m2, n2⟩ := fitRow decInt h2
  exact s6 2000000000000000 0 a0 a1 a2 (lenB m0.1) (by have := m0.1; omega) (lenB m1.1) (by have := m1.1; omega) (lenB m2.1) (by have := m2.1; omega) (by omega)
set_option maxRecDepth 100000 in
theorem leachPlans_lifted (os : Os) (started : os.Started) (H : Type) (enc : TypeId × Value → H) :
    ReturnsInHanded {} Try.checked os 6 .any (Rows.leachPlansSpec.pre6 enc Try.prog Try.f6 Rows.leachPlansRow.domain false) (Rows.leachPlansSpec.post enc Try.prog Try.f6 false true false false) := by
  refine returnsInHanded_of_change_sized (C := Try.checked) own started (by kernel_rfl) Try.func6
    (ChangeSpec.witness6 (enc := enc) (C := Try.checked) false ⟨#[], #[.agg #[.slice none 0 0, .int .i64 0, .int .i64 0], .slice none 0 0, .slice none 0 0], []⟩ 8 (by kernel_rfl) (by kernel_rfl) (by kernel_rfl) (by kernel_rfl)) ?_
  intro W base args ds gs before hval hW _ hwt _
  exact law_contract (tb := 4) (okE 2000000000000000 20) (by kernel_rfl) leachPlans_fit
    ⟨rfl, fun H ds h => by match ds, h with | [_, _, _], _ => exact ⟨rfl, rfl, rfl⟩⟩ (by kernel_rfl) (by kernel_rfl) laid (by decide +kernel) W base args ds gs before hval hW hwt
theorem leachPlans_holds : Rows.LeachPlansSaid :=
  OpenClaim.holds_of_wide 6 Try.f6 rfl rfl rfl rfl rfl rfl rfl ⟨rfl, rfl, rfl, rfl, rfl⟩ rfl rfl rfl rfl rfl (by kernel_rfl) Try.func6 (by kernel_rfl)
    (of_decide_eq_true (by kernel_rfl)) (by unfold Func.isWrapper; first | (rw [if_pos (by decide +kernel)]; kernel_rfl) | (rw [if_neg (by decide +kernel)]; exact ⟨rfl, rfl⟩))
    (fun os started H enc _ => leachPlans_lifted os started H enc)
#print axioms leachPlans_holds
end Go.Proofs.Ythbpdkcfnbiejaa
