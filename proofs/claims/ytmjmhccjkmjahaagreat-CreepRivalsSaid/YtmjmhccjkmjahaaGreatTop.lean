/-
  CreepRivals holds for every input: called with any site, pressures, temperature, needs and rival plan, the law returns true, and its arguments read behind the call as before. No condition.
-/
import Derived.Test.YtmjmhccjkmjahaaGreatAh
set_option linter.unusedVariables false
set_option linter.unusedSimpArgs false
set_option linter.unusedSectionVars false

namespace Go.Proofs.YtmjmhccjkmjahaaGreat
open Go.ChangeShapes Go.WideShapes Go.ChangeAt Go.RowKit Go.Sim Go.Sim.Cr
set_option maxRecDepth 100000 in
theorem creepRivals_fit (cs : List V) (h : ArgsFit [(true, shSite), (false, [.row [i8]]), (false, [.row [i8]]), (true, shSpan), (false, [.row [i8]]), (false, [.row [.row [i8]]])] cs) : (E 2000000000000000 100).pf 4 cs = some (.ret (.bool true)) := by
 obtain ⟨l0, cs0, rfl, h0, g0⟩ := h
 obtain ⟨s1, c1, cs1, e1, rfl, h1, g1⟩ := g0
 obtain ⟨s2, c2, cs2, e2, rfl, h2, g2⟩ := g1
 obtain ⟨l3, cs3, rfl, h3, g3⟩ := g2
 obtain ⟨s4, c4, cs4, e4, rfl, h4, g4⟩ := g3
 obtain ⟨s5, c5, cs5, e5, rfl, h5, g5⟩ := g4
 injection e1 with e1 _; subst e1
 injection e2 with e2 _; subst e2
 injection e4 with e4 _; subst e4
 injection e5 with e5 _; subst e5
 obtain rfl : cs5 = [] := g5
 obtain ⟨a0, rfl, m0⟩ := decSite l0 h0
 obtain ⟨a1, rfl, m1, n1⟩ := fitRow decInt h1
 obtain ⟨a2, rfl, m2, n2⟩ := fitRow decInt h2
 obtain ⟨a3, rfl⟩ := decSpan l3 h3
 obtain ⟨a4, rfl, m4, n4⟩ := fitRow decInt h4
 obtain ⟨a5, rfl, m5, n5⟩ := fitRow (fun cs h => (decIL cs h).imp fun _ q => q.1) h5
 exact law4 1999999999997000 0 (by omega) (by omega) a0 a1 a2 a3 a4 a5 m4 m1
set_option maxRecDepth 100000 in
theorem creepRivals_lifted (os : Os) (started : os.Started) (H : Type) (enc : TypeId × Value → H) :
  ReturnsInHanded {} Tryz.checked os 4 .any (Rows.creepRivalsSpec.pre6 enc Tryz.prog Tryz.f4 Rows.creepRivalsRow.domain false) (Rows.creepRivalsSpec.post enc Tryz.prog Tryz.f4 false true false false) := by
 refine returnsInHanded_of_change_sized (C := Tryz.checked) own started (by kernel_rfl) Tryz.func4
  (ChangeSpec.witness6 (enc := enc) (C := Tryz.checked) false ⟨#[], #[.agg #[.slice none 0 0, .slice none 0 0, .slice none 0 0, .int .i64 0, .slice none 0 0, .slice none 0 0], .slice none 0 0, .slice none 0 0, .agg #[.int .i64 0, .int .i64 0], .slice none 0 0, .slice none 0 0], []⟩ 8 (by kernel_rfl) (by kernel_rfl) (by kernel_rfl) (by kernel_rfl)) ?_
 intro W base args ds gs before hval hW _ hwt _
 exact law_contract (tb := 4) (okE 2000000000000000 100) (by kernel_rfl) creepRivals_fit
  ⟨rfl, fun H ds h => by match ds, h with | [_, _, _, _, _, _], _ => exact ⟨rfl, rfl, rfl⟩⟩ (by kernel_rfl) (by kernel_rfl) laid (by decide +kernel) W base args ds gs before hval hW hwt
theorem creepRivals_holds : Rows.CreepRivalsSaid :=
 OpenClaim.holds_of_wide 4 Tryz.f4 rfl rfl rfl rfl rfl rfl rfl ⟨rfl, rfl, rfl, rfl, rfl⟩ rfl rfl rfl rfl rfl (by kernel_rfl) Tryz.func4 (by kernel_rfl)
  (of_decide_eq_true (by kernel_rfl)) (by unfold Func.isWrapper; first | (rw [if_pos (by decide +kernel)]; kernel_rfl) | (rw [if_neg (by decide +kernel)]; exact ⟨rfl, rfl⟩))
  (fun os started H enc _ => creepRivals_lifted os started H enc)
#print axioms creepRivals_holds
end Go.Proofs.YtmjmhccjkmjahaaGreat
