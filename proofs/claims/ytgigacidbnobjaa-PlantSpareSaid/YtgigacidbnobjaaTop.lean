/-
  PlantSpare holds for every input (machines that fail, and whether the others carry the flow; called with any machines, truth values, flow, span, machine and ratio): the law returns true, and its arguments read behind the call as before. No condition.
-/
import Derived.Test.YtgigacidbnobjaaAh
set_option linter.unusedVariables false
set_option linter.unusedSimpArgs false
set_option linter.unusedSectionVars false

namespace Go.Proofs.Ytgigacidbnobjaa
open Go.ChangeShapes Go.WideShapes Go.ChangeAt Go.RowKit Go.Sim Go.Sim.Pl
set_option maxRecDepth 100000 in
theorem plantSpare_fit (cs : List V) (h : ArgsFit [(false, [.row shMach]), (false, [.row [.bool]]), (false, [i8]), (true, shSpan), (false, [i8]), (false, [i8])] cs) : (E 2000000000000000 2000).pf 6 cs = some (.ret (.bool true)) := by
  obtain ⟨s0, c0, cs0, e0, rfl, h0, g0⟩ := h
  obtain ⟨s1, c1, cs1, e1, rfl, h1, g1⟩ := g0
  obtain ⟨s2, c2, cs2, e2, rfl, h2, g2⟩ := g1
  obtain ⟨l3, cs3, rfl, h3, g3⟩ := g2
  obtain ⟨s4, c4, cs4, e4, rfl, h4, g4⟩ := g3
  obtain ⟨s5, c5, cs5, e5, rfl, h5, g5⟩ := g4
  injection e0 with e0 _; subst e0
  injection e1 with e1 _; subst e1
  injection e2 with e2 _; subst e2
  injection e4 with e4 _; subst e4
  injection e5 with e5 _; subst e5
  obtain rfl : cs5 = [] := g5
  obtain ⟨a0, rfl, m0, n0⟩ := fitRow dcMach h0
  obtain ⟨a1, rfl, m1, n1⟩ := fitRow decBool h1
  obtain ⟨a2, rfl, m2⟩ := fitInt h2
  obtain ⟨a3, rfl, m3⟩ := decSpan l3 h3
  obtain ⟨a4, rfl, m4⟩ := fitInt h4
  obtain ⟨a5, rfl, m5⟩ := fitInt h5
  exact law6 _ _ (by decide) a0 a1 a2 a3 a4 a5 m0.1 (fun i => (n0 i).1) m1.2
set_option maxRecDepth 100000 in
theorem plantSpare_lifted (os : Os) (started : os.Started) (H : Type) (enc : TypeId × Value → H) :
    ReturnsInHanded {} Try.checked os 6 .any (Rows.plantSpareSpec.pre6 enc Try.prog Try.f6 Rows.plantSpareRow.domain false) (Rows.plantSpareSpec.post enc Try.prog Try.f6 false true false false) := by
  refine returnsInHanded_of_change_sized (C := Try.checked) own started (by kernel_rfl) Try.func6
    (ChangeSpec.witness6 (enc := enc) (C := Try.checked) false ⟨#[], #[.slice none 0 0, .slice none 0 0, .int .i64 0, .agg #[.int .i64 0, .int .i64 0], .int .i64 0, .int .i64 0], []⟩ 8 (by kernel_rfl) (by kernel_rfl) (by kernel_rfl) (by kernel_rfl)) ?_
  intro W base args ds gs before hval hW _ hwt _
  exact law_contract (tb := 4) (okE 2000000000000000 2000) (by kernel_rfl) plantSpare_fit
    ⟨rfl, fun H ds h => by match ds, h with | [_, _, _, _, _, _], _ => exact ⟨rfl, rfl, rfl⟩⟩ (by kernel_rfl) (by kernel_rfl) laid (by decide +kernel) W base args ds gs before hval hW hwt
theorem plantSpare_holds : Rows.PlantSpareSaid :=
  OpenClaim.holds_of_wide 6 Try.f6 rfl rfl rfl rfl rfl rfl rfl ⟨rfl, rfl, rfl, rfl, rfl⟩ rfl rfl rfl rfl rfl (by kernel_rfl) Try.func6 (by kernel_rfl)
    (of_decide_eq_true (by kernel_rfl)) (by unfold Func.isWrapper; first | (rw [if_pos (by decide +kernel)]; kernel_rfl) | (rw [if_neg (by decide +kernel)]; exact ⟨rfl, rfl⟩))
    (fun os started H enc _ => plantSpare_lifted os started H enc)
#print axioms plantSpare_holds
end Go.Proofs.Ytgigacidbnobjaa
