/-
  TopHollow holds for every input: called with any cavern, stages, truth, site, days, choices, cavern of gas, state and content, the law returns true, and its arguments read behind the call as before. No condition.
-/
import Derived.Test.YtmfgmgifbkjaoaaGreatAg
set_option linter.unusedVariables false
set_option linter.unusedSimpArgs false
set_option linter.unusedSectionVars false

namespace Go.Proofs.YtmfgmgifbkjaoaaGreat
open Go.ChangeShapes Go.WideShapes Go.ChangeAt Go.RowKit Go.Sim Go.Sim.Le
set_option maxRecDepth 100000 in
theorem topHollow_fit (cs : List V) (h : ArgsFit [(true, shCav), (false, [.row shStg]), (true, shTruth), (true, Cr.shSite), (false, [.row Cr.shDay]), (false, [.row [.bool]]), (true, shGas), (true, shGst), (true, shGpt)] cs) : (E 2000000000000000 26).pf 3 cs = some (.ret (.bool true)) := by
  obtain ⟨l0, cs0, rfl, h0, g0⟩ := h
  obtain ⟨s1, c1, cs1, e1, rfl, h1, g1⟩ := g0
  obtain ⟨l2, cs2, rfl, h2, g2⟩ := g1
  obtain ⟨l3, cs3, rfl, h3, g3⟩ := g2
  obtain ⟨s4, c4, cs4, e4, rfl, h4, g4⟩ := g3
  obtain ⟨s5, c5, cs5, e5, rfl, h5, g5⟩ := g4
  obtain ⟨l6, cs6, rfl, h6, g6⟩ := g5
  obtain ⟨l7, cs7, rfl, h7, g7⟩ := g6
  obtain ⟨l8, cs8, rfl, h8, g8⟩ := g7
  injection e1 with e1 _; subst e1
  injection e4 with e4 _; subst e4
  injection e5 with e5 _; subst e5
  obtain rfl : cs8 = [] := g8
  obtain ⟨a0, rfl, m0⟩ := decCav l0 h0
  obtain ⟨a1, rfl, m1, n1⟩ := fitRow decStg h1
  obtain ⟨a2, rfl, m2⟩ := decTruth l2 h2
  obtain ⟨a3, rfl, m3⟩ := Cr.decSite l3 h3
  obtain ⟨a4, rfl, m4, n4⟩ := Cr.fitRow Cr.decDay h4
  obtain ⟨a5, rfl, m5, n5⟩ := fitRow decBool h5
  obtain ⟨a6, rfl, m6⟩ := decGas l6 h6
  obtain ⟨a7, rfl, m7⟩ := decGst l7 h7
  obtain ⟨a8, rfl, m8⟩ := decGpt l8 h8
  exact law7003 1999999999997000 0 (by omega) a0 a1 a2 a3 a4 a5 a6 a7 a8 m0.1 m1.1 m2.2.1.1 m2.1.2 m3
set_option maxRecDepth 100000 in
theorem topHollow_lifted (os : Os) (started : os.Started) (H : Type) (enc : TypeId × Value → H) :
    ReturnsInHanded {} Tryz.checked os 3 .any (Rows.topHollowSpec.pre6 enc Tryz.prog Tryz.f3 Rows.topHollowRow.domain false) (Rows.topHollowSpec.post enc Tryz.prog Tryz.f3 false true false false) := by
  refine returnsInHanded_of_change_sized (C := Tryz.checked) own started (by kernel_rfl) Tryz.func3
    (ChangeSpec.witness6 (enc := enc) (C := Tryz.checked) false ⟨#[], #[.agg #[.slice none 0 0, .int .i64 0, .int .i64 0], .slice none 0 0, .agg #[.slice none 0 0, .slice none 0 0], .agg #[.slice none 0 0, .slice none 0 0, .slice none 0 0, .int .i64 0, .slice none 0 0, .slice none 0 0], .slice none 0 0, .slice none 0 0, .agg #[.int .i64 0, .int .i64 0, .int .i64 0, .int .i64 0, .int .i64 0, .int .i64 0, .int .i64 0, .int .i64 0, .int .i64 0, .int .i64 0, .int .i64 0], .agg #[.int .i64 0, .int .i64 0, .int .i64 0, .int .i64 0, .int .i64 0, .int .i64 0, .int .i64 0, .int .i64 0], .agg #[.int .i64 0, .int .i64 0, .int .i64 0, .int .i64 0]], []⟩ 8 (by kernel_rfl) (by kernel_rfl) (by kernel_rfl) (by kernel_rfl)) ?_
  intro W base args ds gs before hval hW _ hwt _
  exact law_contract (tb := 4) (okE 2000000000000000 26) (by kernel_rfl) topHollow_fit
    ⟨rfl, fun H ds h => by match ds, h with | [_, _, _, _, _, _, _, _, _], _ => exact ⟨rfl, rfl, rfl⟩⟩ (by kernel_rfl) (by kernel_rfl) laid (by decide +kernel) W base args ds gs before hval hW hwt
theorem topHollow_holds : Rows.TopHollowSaid :=
  OpenClaim.holds_of_wide 3 Tryz.f3 rfl rfl rfl rfl rfl rfl rfl ⟨rfl, rfl, rfl, rfl, rfl⟩ rfl rfl rfl rfl rfl (by kernel_rfl) Tryz.func3 (by kernel_rfl)
    (of_decide_eq_true (by kernel_rfl)) (by unfold Func.isWrapper; first | (rw [if_pos (by decide +kernel)]; kernel_rfl) | (rw [if_neg (by decide +kernel)]; exact ⟨rfl, rfl⟩))
    (fun os started H enc _ => topHollow_lifted os started H enc)
#print axioms topHollow_holds
end Go.Proofs.YtmfgmgifbkjaoaaGreat
