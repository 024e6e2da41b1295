/-
  CreepChecks holds for every input: called with any site and any two numbers, the law returns true, and its arguments read behind the call as before. No condition.
-/
import Derived.Test.YtpgpaficdabmkaaAe
set_option linter.unusedVariables false
set_option linter.unusedSimpArgs false
set_option linter.unusedSectionVars false
/-
  CreepChecks: the law answers true.
-/
namespace Go.Sim.Cr
open Go.Proofs
variable (F d : Nat)
theorem s36 (s : Site) (hs : Small s F) : E F (d + 7) 36 [.agg (eSite s)] = some (.ret (.int .i64 (bif siteB s then 0 else 2))) := by
  rw [E_succ, t36]
  simp only [s48 F d s hs, tkOut_ret, tkBool_b]
  cases siteB s <;> rfl
theorem s39 (s : Site) (i : Int) (h1 : 1 ≤ s.cavs.len) (h5 : s.cavs.len ≤ 5) : E F (d + 2) 39 [.agg (eSite s), .int .i64 i] = some (.ret (.bool (decide (0 ≤ i ∧ i < (s.cavs.len : Int))))) := by
  rw [E_succ, t39]
  rw [wrLen h1 (by omega)]
  simp only [s54, tkOut_ret, tkBool_b, inLen h1]
set_option maxRecDepth 100000 in
theorem s8 (s : Site) (i j : Int) (hF : 2147483648 < F) : E F (d + 12) 8 [.agg (eSite s), .int .i64 i, .int .i64 j] = some (.ret (.bool true)) := by
  have k := s13 F d (by omega)
  rw [E_succ, t8]
  simp only [s11 F (d + 10), pOut, pBool]
  by_cases h0 : ShortS s
  · have hs := small_of F h0 (by omega)
    have e36 := s36 F (d + 4) s hs
    have e37 := s37 F (d + 4) s i j hs (by omega)
    have e24 := s24 F (d + 4) s hs (by omega)
    have e16 := s16 F (d + 8) s hs
    simp only [decide_eq_true h0, Bool.not_true, pF, e36, e37, e24, e16, pOut, pBool, pInt]
    cases h1 : siteB s with
    | false => simp only [Bool.false_and, pF, pT, pTup, pCons, pAgg, pRow, pInt, pNil, Bool.not_false, decide_true, z22, z0, z00, Bool.and_self, k, pOut, pBool]
    | true =>
      have hS := (siteB_iff s).1 h1
      have g1 := hS.cavs1
      have g5 := hS.cavs5
      have e38 := s38 F (d + 10) s g1 g5 (by omega)
      have e22 := s22 F (d + 10) (begin s) (begin s) (show s.cavs.len < 4611686018427387904 by omega) (show s.cavs.len < F by omega)
      rw [sameStt_refl] at e22
      have e39i := s39 F (d + 9) s i g1 g5
      have e39j := s39 F (d + 9) s j g1 g5
      by_cases h2 : 0 ≤ i ∧ i < (s.cavs.len : Int)
      · by_cases h3 : 0 ≤ j ∧ j < (s.cavs.len : Int)
        · by_cases h4 : i = j
          · subst h4
            simp only [Bool.true_and, decide_eq_true h2, decide_true, Bool.not_true, Bool.and_false, pF, pT, pTup, pCons, pAgg, pRow, pInt, pNil, pOut, pBool, z22, z00, bne, e38, e22, e39i, beq_self_eq_true, Bool.and_self, k]
          · obtain ⟨i, rfl⟩ := Int.eq_ofNat_of_zero_le h2.1
            obtain ⟨j, rfl⟩ := Int.eq_ofNat_of_zero_le h3.1
            have c1 := hS.cav i (by omega)
            have c2 := hS.cav j (by omega)
            have e40 := s40 F (d + 8) s i j (s.cavs.el i).rad (s.cavs.el j).rad (by omega) (by omega) c1.1 c2.1 (by omega) (by omega) hF
            have hb : ((i : Int) == (j : Int)) = false := by simpa using h4
            simp only [Bool.true_and, decide_eq_true h2, decide_eq_true h3, decide_eq_false h4, Bool.not_false, Bool.not_true, Bool.and_self, pF, pT, pTup, pCons, pAgg, pRow, pInt, pNil, pOut, pBool, decide_true, z22, z00, bne, e38, e22, e39i, e39j, hb, decide_eq_true h2.1, decide_eq_true h2.2, decide_eq_true h3.1, decide_eq_true h3.2, Int.toNat_natCast, e40, eqS2, k]
        · simp only [Bool.true_and, decide_eq_true h2, decide_eq_false h3, Bool.not_false, Bool.not_true, Bool.false_and, pF, pT, pTup, pCons, pAgg, pRow, pInt, pNil, pOut, pBool, decide_true, z22, z00, bne, e38, e22, e39i, e39j, Bool.and_self, k]
      · simp only [Bool.true_and, decide_eq_false h2, Bool.not_false, Bool.not_true, Bool.false_and, pF, pT, pTup, pCons, pAgg, pRow, pInt, pNil, pOut, pBool, decide_true, z22, z00, bne, e38, e22, e39i, Bool.and_self, k]
  · simp only [decide_eq_false h0, Bool.not_false, pT, k, pOut, pBool]
end Go.Sim.Cr

/-
  CreepChecks: the row.
-/
namespace Go.Proofs.Ytpgpaficdabmkaa
open Go.ChangeShapes Go.WideShapes Go.ChangeAt Go.RowKit Go.Sim Go.Sim.Cr
set_option maxRecDepth 100000 in
theorem creepChecks_fit (cs : List V) (h : ArgsFit [(true, shSite), (false, [i8]), (false, [i8])] cs) : E 2000000000000000 12 8 cs = some (.ret (.bool true)) := by
  obtain ⟨l0, cs0, rfl, h0, g0⟩ := h
  obtain ⟨s1, c1, cs1, e1, rfl, h1, g1⟩ := g0
  obtain ⟨s2, c2, cs2, e2, rfl, h2, g2⟩ := g1
  injection e1 with e1 _; subst e1
  injection e2 with e2 _; subst e2
  obtain rfl : cs2 = [] := g2
  obtain ⟨a0, rfl⟩ := decSite l0 h0
  obtain ⟨a1, rfl, m1⟩ := fitInt h1
  obtain ⟨a2, rfl, m2⟩ := fitInt h2
  exact s8 2000000000000000 0 a0 a1 a2 (by omega)
set_option maxRecDepth 100000 in
theorem creepChecks_lifted (os : Os) (started : os.Started) (H : Type) (enc : TypeId × Value → H) :
    ReturnsInHanded {} Try.checked os 8 .any (Rows.creepChecksSpec.pre6 enc Try.prog Try.f8 Rows.creepChecksRow.domain false) (Rows.creepChecksSpec.post enc Try.prog Try.f8 false true false false) := by
  refine returnsInHanded_of_change_sized (C := Try.checked) own started (by kernel_rfl) Try.func8
    (ChangeSpec.witness6 (enc := enc) (C := Try.checked) false ⟨#[], #[.agg #[.slice none 0 0, .slice none 0 0, .slice none 0 0, .int .i64 0, .slice none 0 0, .slice none 0 0], .int .i64 0, .int .i64 0], []⟩ 8 (by kernel_rfl) (by kernel_rfl) (by kernel_rfl) (by kernel_rfl)) ?_
  intro W base args ds gs before hval hW _ hwt _
  exact law_contract (tb := 4) (okE 2000000000000000 12) (by kernel_rfl) creepChecks_fit
    ⟨rfl, fun H ds h => by match ds, h with | [_, _, _], _ => exact ⟨rfl, rfl, rfl⟩⟩ (by kernel_rfl) (by kernel_rfl) laid (by decide +kernel) W base args ds gs before hval hW hwt
theorem creepChecks_holds : Rows.CreepChecksSaid :=
  OpenClaim.holds_of_wide 8 Try.f8 rfl rfl rfl rfl rfl rfl rfl ⟨rfl, rfl, rfl, rfl, rfl⟩ rfl rfl rfl rfl rfl (by kernel_rfl) Try.func8 (by kernel_rfl)
    (of_decide_eq_true (by kernel_rfl)) (by unfold Func.isWrapper; first | (rw [if_pos (by decide +kernel)]; kernel_rfl) | (rw [if_neg (by decide +kernel)]; exact ⟨rfl, rfl⟩))
    (fun os started H enc _ => creepChecks_lifted os started H enc)
#print axioms creepChecks_holds
end Go.Proofs.Ytpgpaficdabmkaa
