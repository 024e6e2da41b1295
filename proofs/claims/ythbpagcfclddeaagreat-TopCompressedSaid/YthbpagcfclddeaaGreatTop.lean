/-
  TopCompressed holds for every input: called with any cavern of gas, state, content, volume, pressure of the net, compressors and flows, the law returns true, and its arguments read behind the call as before. No condition.
-/
import Derived.Test.YthbpagcfclddeaaGreatAm
set_option linter.unusedVariables false
set_option linter.unusedSimpArgs false
set_option linter.unusedSectionVars false

namespace Go.Proofs.YthbpagcfclddeaaGreat
open Go.ChangeShapes Go.WideShapes Go.ChangeAt Go.RowKit Go.Sim Go.Sim.Pl
open Go.Sim.Le (cfg E E_pf E_hv okE laid names okCfg)
set_option maxRecDepth 100000 in
theorem topCompressed_fit (cs : List V) (h : ArgsFit [(true, shGas), (true, shGst), (true, shGpt), (false, [i8]), (false, [i8]), (false, [.row shMach]), (false, [.row [i8]])] cs) : (E 2000000000000000000 92).pf 3 cs = some (.ret (.bool true)) := by
 obtain ⟨l0, cs0, rfl, h0, g0⟩ := h
 obtain ⟨l1, cs1, rfl, h1, g1⟩ := g0
 obtain ⟨l2, cs2, rfl, h2, g2⟩ := g1
 obtain ⟨s3, c3, cs3, e3, rfl, h3, g3⟩ := g2
 obtain ⟨s4, c4, cs4, e4, rfl, h4, g4⟩ := g3
 obtain ⟨s5, c5, cs5, e5, rfl, h5, g5⟩ := g4
 obtain ⟨s6, c6, cs6, e6, rfl, h6, g6⟩ := g5
 injection e3 with e3 _; subst e3
 injection e4 with e4 _; subst e4
 injection e5 with e5 _; subst e5
 injection e6 with e6 _; subst e6
 obtain rfl : cs6 = [] := g6
 obtain ⟨a0, rfl, m0⟩ := decGas l0 h0
 obtain ⟨a1, rfl, m1⟩ := decGst l1 h1
 obtain ⟨a2, rfl, m2⟩ := decGpt l2 h2
 obtain ⟨a3, rfl, m3⟩ := fitInt h3
 obtain ⟨a4, rfl, m4⟩ := fitInt h4
 obtain ⟨a5, rfl, m5, n5⟩ := fitRow dcMach h5
 obtain ⟨a6, rfl, m6, n6⟩ := fitRow decInt h6
 exact law3xwhole a5 a6 a0 a1 a2 a3 a4 m5.1 (fun i => (n5 i).1) m6.1
set_option maxRecDepth 100000 in
theorem topCompressed_lifted (os : Os) (started : os.Started) (H : Type) (enc : TypeId × Value → H) :
  ReturnsInHanded {} Tryz.checked os 3 .any (Rows.topCompressedSpec.pre6 enc Tryz.prog Tryz.f3 Rows.topCompressedRow.domain false) (Rows.topCompressedSpec.post enc Tryz.prog Tryz.f3 false true false false) := by
 refine returnsInHanded_of_change_sized (C := Tryz.checked) own started (by kernel_rfl) Tryz.func3
  (ChangeSpec.witness6 (enc := enc) (C := Tryz.checked) false ⟨#[], #[.agg #[.int .i64 0, .int .i64 0, .int .i64 0, .int .i64 0, .int .i64 0, .int .i64 0, .int .i64 0, .int .i64 0, .int .i64 0, .int .i64 0, .int .i64 0], .agg #[.int .i64 0, .int .i64 0, .int .i64 0, .int .i64 0, .int .i64 0, .int .i64 0, .int .i64 0, .int .i64 0], .agg #[.int .i64 0, .int .i64 0, .int .i64 0, .int .i64 0], .int .i64 0, .int .i64 0, .slice none 0 0, .slice none 0 0], []⟩ 8 (by kernel_rfl) (by kernel_rfl) (by kernel_rfl) (by kernel_rfl)) ?_
 intro W base args ds gs before hval hW _ hwt _
 exact law_contract (tb := 4) (okE 2000000000000000000 92) (by kernel_rfl) topCompressed_fit
  ⟨rfl, fun H ds h => by match ds, h with | [_, _, _, _, _, _, _], _ => exact ⟨rfl, rfl, rfl⟩⟩ (by kernel_rfl) (by kernel_rfl) laid (by decide +kernel) W base args ds gs before hval hW hwt
theorem topCompressed_holds : Rows.TopCompressedSaid :=
 OpenClaim.holds_of_wide 3 Tryz.f3 rfl rfl rfl rfl rfl rfl rfl ⟨rfl, rfl, rfl, rfl, rfl⟩ rfl rfl rfl rfl rfl (by kernel_rfl) Tryz.func3 (by kernel_rfl)
  (of_decide_eq_true (by kernel_rfl)) (by unfold Func.isWrapper; first | (rw [if_pos (by decide +kernel)]; kernel_rfl) | (rw [if_neg (by decide +kernel)]; exact ⟨rfl, rfl⟩))
  (fun os started H enc _ => topCompressed_lifted os started H enc)
#print axioms topCompressed_holds
end Go.Proofs.YthbpagcfclddeaaGreat
