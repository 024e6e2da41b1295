/-
  PlantMore holds for every input (ratios that are known better and less flow never make the best schedule dearer nor impossible; called with any machines, hours, schedule, hour and amount): the law returns true, and its arguments read behind the call as before. No condition.
-/
import Derived.Test.YtgigacidbnobjaaAh
set_option linter.unusedVariables false
set_option linter.unusedSimpArgs false
set_option linter.unusedSectionVars false

namespace Go.Proofs.Ytgigacidbnobjaa
open Go.ChangeShapes Go.WideShapes Go.ChangeAt Go.RowKit Go.Sim Go.Sim.Pl
set_option maxRecDepth 100000 in
theorem plantMore_fit (cs : List V) (h : ArgsFit [(false, [.row shMach]), (false, [.row shHour]), (false, [.row [.row [i8]]]), (false, [i8]), (false, [i8])] cs) : (E 2000000000000000 2000).pf 13 cs = some (.ret (.bool true)) := by
  obtain ⟨s0, c0, cs0, e0, rfl, h0, g0⟩ := h
  obtain ⟨s1, c1, cs1, e1, rfl, h1, g1⟩ := g0
  obtain ⟨s2, c2, cs2, e2, rfl, h2, g2⟩ := g1
  obtain ⟨s3, c3, cs3, e3, rfl, h3, g3⟩ := g2
  obtain ⟨s4, c4, cs4, e4, rfl, h4, g4⟩ := g3
  injection e0 with e0 _; subst e0
  injection e1 with e1 _; subst e1
  injection e2 with e2 _; subst e2
  injection e3 with e3 _; subst e3
  injection e4 with e4 _; subst e4
  obtain rfl : cs4 = [] := g4
  obtain ⟨a0, rfl, m0, n0⟩ := fitRow dcMach h0
  obtain ⟨a1, rfl, m1, n1⟩ := fitRow decHour h1
  obtain ⟨a2, rfl, m2, n2⟩ := fitRow decIL h2
  obtain ⟨a3, rfl, m3⟩ := fitInt h3
  obtain ⟨a4, rfl, m4⟩ := fitInt h4
  exact law13 _ _ (by decide) a0 a1 a2 a3 a4 m0.1 (fun i => (n0 i).1) m1.1 m1.2 m2.1 (fun i => (n2 i).1)
set_option maxRecDepth 100000 in
theorem plantMore_lifted (os : Os) (started : os.Started) (H : Type) (enc : TypeId × Value → H) :
    ReturnsInHanded {} Try.checked os 13 .any (Rows.plantMoreSpec.pre6 enc Try.prog Try.f13 Rows.plantMoreRow.domain false) (Rows.plantMoreSpec.post enc Try.prog Try.f13 false true false false) := by
  refine returnsInHanded_of_change_sized (C := Try.checked) own started (by kernel_rfl) Try.func13
    (ChangeSpec.witness6 (enc := enc) (C := Try.checked) false ⟨#[], #[.slice none 0 0, .slice none 0 0, .slice none 0 0, .int .i64 0, .int .i64 0], []⟩ 8 (by kernel_rfl) (by kernel_rfl) (by kernel_rfl) (by kernel_rfl)) ?_
  intro W base args ds gs before hval hW _ hwt _
  exact law_contract (tb := 4) (okE 2000000000000000 2000) (by kernel_rfl) plantMore_fit
    ⟨rfl, fun H ds h => by match ds, h with | [_, _, _, _, _], _ => exact ⟨rfl, rfl, rfl⟩⟩ (by kernel_rfl) (by kernel_rfl) laid (by decide +kernel) W base args ds gs before hval hW hwt
theorem plantMore_holds : Rows.PlantMoreSaid :=
  OpenClaim.holds_of_wide 13 Try.f13 rfl rfl rfl rfl rfl rfl rfl ⟨rfl, rfl, rfl, rfl, rfl⟩ rfl rfl rfl rfl rfl (by kernel_rfl) Try.func13 (by kernel_rfl)
    (of_decide_eq_true (by kernel_rfl)) (by unfold Func.isWrapper; first | (rw [if_pos (by decide +kernel)]; kernel_rfl) | (rw [if_neg (by decide +kernel)]; exact ⟨rfl, rfl⟩))
    (fun os started H enc _ => plantMore_lifted os started H enc)
#print axioms plantMore_holds
end Go.Proofs.Ytgigacidbnobjaa
