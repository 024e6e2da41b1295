/-
  PlantBests holds for every input (the best schedule for any hours, or the errors; called with any machines and hours): the law returns true, and its arguments read behind the call as before. No condition.
-/
import Derived.Test.YtgigacidbnobjaaAh
set_option linter.unusedVariables false
set_option linter.unusedSimpArgs false
set_option linter.unusedSectionVars false

namespace Go.Proofs.Ytgigacidbnobjaa
open Go.ChangeShapes Go.WideShapes Go.ChangeAt Go.RowKit Go.Sim Go.Sim.Pl
set_option maxRecDepth 100000 in
theorem plantBests_fit (cs : List V) (h : ArgsFit [(false, [.row shMach]), (false, [.row shHour])] cs) : (E 2000000000000000 2000).pf 11 cs = some (.ret (.bool true)) := by
  obtain ⟨s0, c0, cs0, e0, rfl, h0, g0⟩ := h
  obtain ⟨s1, c1, cs1, e1, rfl, h1, g1⟩ := g0
  injection e0 with e0 _; subst e0
  injection e1 with e1 _; subst e1
  obtain rfl : cs1 = [] := g1
  obtain ⟨a0, rfl, m0, n0⟩ := fitRow dcMach h0
  obtain ⟨a1, rfl, m1, n1⟩ := fitRow decHour h1
  exact law11 _ _ (by decide) a0 a1 m0.1 (fun i => (n0 i).1) m1.1
set_option maxRecDepth 100000 in
theorem plantBests_lifted (os : Os) (started : os.Started) (H : Type) (enc : TypeId × Value → H) :
    ReturnsInHanded {} Try.checked os 11 .any (Rows.plantBestsSpec.pre6 enc Try.prog Try.f11 Rows.plantBestsRow.domain false) (Rows.plantBestsSpec.post enc Try.prog Try.f11 false true false false) := by
  refine returnsInHanded_of_change_sized (C := Try.checked) own started (by kernel_rfl) Try.func11
    (ChangeSpec.witness6 (enc := enc) (C := Try.checked) false ⟨#[], #[.slice none 0 0, .slice none 0 0], []⟩ 8 (by kernel_rfl) (by kernel_rfl) (by kernel_rfl) (by kernel_rfl)) ?_
  intro W base args ds gs before hval hW _ hwt _
  exact law_contract (tb := 4) (okE 2000000000000000 2000) (by kernel_rfl) plantBests_fit
    ⟨rfl, fun H ds h => by match ds, h with | [_, _], _ => exact ⟨rfl, rfl, rfl⟩⟩ (by kernel_rfl) (by kernel_rfl) laid (by decide +kernel) W base args ds gs before hval hW hwt
theorem plantBests_holds : Rows.PlantBestsSaid :=
  OpenClaim.holds_of_wide 11 Try.f11 rfl rfl rfl rfl rfl rfl rfl ⟨rfl, rfl, rfl, rfl, rfl⟩ rfl rfl rfl rfl rfl (by kernel_rfl) Try.func11 (by kernel_rfl)
    (of_decide_eq_true (by kernel_rfl)) (by unfold Func.isWrapper; first | (rw [if_pos (by decide +kernel)]; kernel_rfl) | (rw [if_neg (by decide +kernel)]; exact ⟨rfl, rfl⟩))
    (fun os started H enc _ => plantBests_lifted os started H enc)
#print axioms plantBests_holds
end Go.Proofs.Ytgigacidbnobjaa
