/-
  LeachFlawed holds for every input: called with any cavern and stage, the law returns true, and its arguments read behind the call as before. No condition.
-/
import Derived.Test.YthbpdkcfnbiejaaAh
set_option linter.unusedVariables false
set_option linter.unusedSimpArgs false
set_option linter.unusedSectionVars false

namespace Go.Proofs.Ythbpdkcfnbiejaa
open Go.ChangeShapes Go.WideShapes Go.ChangeAt Go.RowKit Go.Sim Go.Sim.Le
set_option maxRecDepth 100000 in
theorem leachFlawed_fit (cs : List V) (h : ArgsFit [(true, shCav), (true, shStg)] cs) : (E 2000000000000000 20).pf 16 cs = some (.ret (.bool true)) := by
  obtain ⟨l0, cs0, rfl, h0, g0⟩ := h
  obtain ⟨l1, cs1, rfl, h1, g1⟩ := g0
  obtain rfl : cs1 = [] := g1
  obtain ⟨a0, rfl, m0⟩ := decCav l0 h0
  obtain ⟨a1, rfl, m1⟩ := decStg l1 h1
  exact s16 2000000000000000 0 a0 a1 (lenB m0.1) (by have := m0.1; omega) (by omega)
set_option maxRecDepth 100000 in
theorem leachFlawed_lifted (os : Os) (started : os.Started) (H : Type) (enc : TypeId × Value → H) :
    ReturnsInHanded {} Try.checked os 16 .any (Rows.leachFlawedSpec.pre6 enc Try.prog Try.f16 Rows.leachFlawedRow.domain false) (Rows.leachFlawedSpec.post enc Try.prog Try.f16 false true false false) := by
  refine returnsInHanded_of_change_sized (C := Try.checked) own started (by kernel_rfl) Try.func16
    (ChangeSpec.witness6 (enc := enc) (C := Try.checked) false ⟨#[], #[.agg #[.slice none 0 0, .int .i64 0, .int .i64 0], .agg #[.int .i64 0, .int .i64 0, .int .i64 0, .int .i64 0]], []⟩ 8 (by kernel_rfl) (by kernel_rfl) (by kernel_rfl) (by kernel_rfl)) ?_
  intro W base args ds gs before hval hW _ hwt _
  exact law_contract (tb := 4) (okE 2000000000000000 20) (by kernel_rfl) leachFlawed_fit
    ⟨rfl, fun H ds h => by match ds, h with | [_, _], _ => exact ⟨rfl, rfl, rfl⟩⟩ (by kernel_rfl) (by kernel_rfl) laid (by decide +kernel) W base args ds gs before hval hW hwt
theorem leachFlawed_holds : Rows.LeachFlawedSaid :=
  OpenClaim.holds_of_wide 16 Try.f16 rfl rfl rfl rfl rfl rfl rfl ⟨rfl, rfl, rfl, rfl, rfl⟩ rfl rfl rfl rfl rfl (by kernel_rfl) Try.func16 (by kernel_rfl)
    (of_decide_eq_true (by kernel_rfl)) (by unfold Func.isWrapper; first | (rw [if_pos (by decide +kernel)]; kernel_rfl) | (rw [if_neg (by decide +kernel)]; exact ⟨rfl, rfl⟩))
    (fun os started H enc _ => leachFlawed_lifted os started H enc)
#print axioms leachFlawed_holds
end Go.Proofs.Ythbpdkcfnbiejaa
