/-
  If a schedule of a plant has no faults for hours in which it may have to carry all that the books allow to be put in, it carries what flows in for all contracts, hour by hour, at any true ratio, with no more energy than was told: the law TopCarried returns true for every input, and its arguments read behind the call as before. No conditions beyond those of the statement.
-/
import Derived.Test.YtnhhcobpkblchaaGreatAl
set_option linter.unusedVariables false
set_option linter.unusedSimpArgs false
set_option linter.unusedSectionVars false

namespace Go.Proofs.YtnhhcobpkblchaaGreat
open Go.ChangeShapes Go.WideShapes Go.ChangeAt Go.RowKit Go.Sim Go.Sim.Pl
open Go.Sim.Le (cfg E E_pf E_hv okE laid names okCfg)
set_option maxRecDepth 100000 in
theorem topCarried_fit (cs : List V) (h : ArgsFit [(false, [.row shMach]), (false, [.row shHour]), (false, [.row [.row [i8]]]), (false, [.row [i8]]), (true, shSto), (true, shDy)] cs) : (E 2000000000000000 26).pf 3 cs = some (.ret (.bool true)) := by
  obtain ⟨s0, c0, cs0, e0, rfl, h0, g0⟩ := h
  obtain ⟨s1, c1, cs1, e1, rfl, h1, g1⟩ := g0
  obtain ⟨s2, c2, cs2, e2, rfl, h2, g2⟩ := g1
  obtain ⟨s3, c3, cs3, e3, rfl, h3, g3⟩ := g2
  obtain ⟨l4, cs4, rfl, h4, g4⟩ := g3
  obtain ⟨l5, cs5, rfl, h5, g5⟩ := g4
  injection e0 with e0 _; subst e0
  injection e1 with e1 _; subst e1
  injection e2 with e2 _; subst e2
  injection e3 with e3 _; subst e3
  obtain rfl : cs5 = [] := g5
  obtain ⟨a0, rfl, m0, n0⟩ := fitRow dcMach h0
  obtain ⟨a1, rfl, m1, n1⟩ := fitRow decHour h1
  obtain ⟨a2, rfl, m2, n2⟩ := fitRow decIL h2
  obtain ⟨a3, rfl, m3, n3⟩ := fitRow decInt h3
  obtain ⟨a4, rfl, m4⟩ := decSto l4 h4
  obtain ⟨a5, rfl, m5⟩ := decDy l5 h5
  exact law3 1999999999997000 0 (by decide) a0 a1 a2 a3 a4 a5 (fun i => (n0 i).1) (fun i => (n2 i).1) (fun i => (m4.2 i).1) m1.2
set_option maxRecDepth 100000 in
theorem topCarried_lifted (os : Os) (started : os.Started) (H : Type) (enc : TypeId × Value → H) :
    ReturnsInHanded {} Tryz.checked os 3 .any (Rows.topCarriedSpec.pre6 enc Tryz.prog Tryz.f3 Rows.topCarriedRow.domain false) (Rows.topCarriedSpec.post enc Tryz.prog Tryz.f3 false true false false) := by
  refine returnsInHanded_of_change_sized (C := Tryz.checked) own started (by kernel_rfl) Tryz.func3
    (ChangeSpec.witness6 (enc := enc) (C := Tryz.checked) false ⟨#[], #[.slice none 0 0, .slice none 0 0, .slice none 0 0, .slice none 0 0, .agg #[.int .i64 0, .int .i64 0, .int .i64 0, .int .i64 0, .int .i64 0, .slice none 0 0], .agg #[.slice none 0 0, .slice none 0 0, .slice none 0 0]], []⟩ 8 (by kernel_rfl) (by kernel_rfl) (by kernel_rfl) (by kernel_rfl)) ?_
  intro W base args ds gs before hval hW _ hwt _
  exact law_contract (tb := 4) (okE 2000000000000000 26) (by kernel_rfl) topCarried_fit
    ⟨rfl, fun H ds h => by match ds, h with | [_, _, _, _, _, _], _ => exact ⟨rfl, rfl, rfl⟩⟩ (by kernel_rfl) (by kernel_rfl) laid (by decide +kernel) W base args ds gs before hval hW hwt
theorem topCarried_holds : Rows.TopCarriedSaid :=
  OpenClaim.holds_of_wide 3 Tryz.f3 rfl rfl rfl rfl rfl rfl rfl ⟨rfl, rfl, rfl, rfl, rfl⟩ rfl rfl rfl rfl rfl (by kernel_rfl) Tryz.func3 (by kernel_rfl)
    (of_decide_eq_true (by kernel_rfl)) (by unfold Func.isWrapper; first | (rw [if_pos (by decide +kernel)]; kernel_rfl) | (rw [if_neg (by decide +kernel)]; exact ⟨rfl, rfl⟩))
    (fun os started H enc _ => topCarried_lifted os started H enc)
#print axioms topCarried_holds
end Go.Proofs.YtnhhcobpkblchaaGreat
