/- Proved: LeachSpoilt returns true for every cavern and any two numbers, and its arguments read behind the call as they read before; the library's tables and sentinels that the row lists are tied to the program's text; no other condition. -/
import Derived.Test.YtgcaabopnnhoaaaGreatDoorAg
set_option linter.unusedVariables false
set_option linter.unusedSimpArgs false
set_option linter.unusedSectionVars false

namespace Go.Proofs.YtgcaabopnnhoaaaGreatDoor
open Go.ChangeShapes Go.WideShapes Go.ChangeAt Go.RowKit Go.Sim Go.Sim.Lg
set_option maxRecDepth 100000 in
theorem leachSpoilt_fit (cs : List V) (h : ArgsFit [(true, shCav), (false, [i8]), (false, [i8])] cs) : (E 2000000000000000 5).pf 5 cs = some (.ret (.bool true)) := by
  obtain ⟨l0, cs0, rfl, h0, g0⟩ := h
  obtain ⟨s1, c1, cs1, e1, rfl, h1, g1⟩ := g0
  obtain ⟨s2, c2, cs2, e2, rfl, h2, g2⟩ := g1
  injection e1 with e1 _; subst e1
  injection e2 with e2 _; subst e2
  obtain rfl : cs2 = [] := g2
  obtain ⟨c, rfl, hl⟩ := decCav l0 h0
  obtain ⟨x, rfl⟩ := fitInt h1
  obtain ⟨y, rfl⟩ := fitInt h2
  exact s5 2000000000000000 0 c x y (Nat.le_trans hl (by decide)) (by decide)
set_option maxRecDepth 100000 in
theorem leachSpoilt_lifted (os : Os) (started : os.Started) (H : Type) (enc : TypeId × Value → H) :
    ReturnsInHanded {} Tryz.checked os 5 .any (fun w args => (Rows.leachSpoiltSpec.pre enc Tryz.prog Tryz.f5 [] false w args ∧ laidMetH Tryz.prog listed w) ∧ sizedMet enc Tryz.prog Tryz.f5 (OpenSpec.ofChange Rows.leachSpoiltSpec) false w args)
      (Rows.leachSpoiltSpec.post enc Tryz.prog Tryz.f5 false true false false) := by
  refine handed (C := Tryz.checked) (X := fun w _ => laidMetH Tryz.prog listed w) (fun _ _ _ hh h => h.of_heap hh) own started (by kernel_rfl) Tryz.func5
    (ChangeSpec.witness_shaped (enc := enc) (C := Tryz.checked) (os := os) (X := fun w _ => laidMetH Tryz.prog listed w) false (World.laidAll Tryz.prog os listed) #[.agg #[.slice none 0 0, .int .i64 0, .int .i64 0], .int .i64 0, .int .i64 0] 8 (World.laidAll_os _ _ _) (laid_shaped os _) (by kernel_rfl) (by kernel_rfl) (by kernel_rfl) (laid_os os _)) ?_
  intro W base args ds gs before hval hW hwt hL hs
  let st : Go.Sim.Start := ⟨W⟩
  have := vars_of hL hs
  exact law_contract (tb := 4) (okE 2000000000000000 5) (by kernel_rfl) leachSpoilt_fit
    ⟨rfl, fun H ds h => by match ds, h with | [_, _, _], _ => exact ⟨rfl, rfl, rfl⟩⟩ (by kernel_rfl) (by kernel_rfl) Go.Sim.Le.laid (by decide +kernel) W (fun b hb => ⟨hb, rfl⟩) base args ds gs before hval hW hwt
theorem leachSpoilt_holds : Rows.LeachSpoiltSaid :=
  OpenClaim.holds_of_wide 5 Tryz.f5 rfl rfl rfl rfl rfl rfl rfl ⟨rfl, rfl, rfl, rfl, rfl⟩ rfl rfl rfl rfl rfl (by kernel_rfl) Tryz.func5 (by kernel_rfl)
    (of_decide_eq_true (by kernel_rfl)) (by unfold Func.isWrapper; first | (rw [if_pos (by decide +kernel)]; kernel_rfl) | (rw [if_neg (by decide +kernel)]; exact ⟨rfl, rfl⟩))
    (fun os started H enc _ => leachSpoilt_lifted os started H enc)
theorem leachSpoilt_card_holds : Rows.LeachSpoiltCardSaid :=
  Claim7.holds_tied_plain_at .later [] [.data, .data, .data, .data, .sentinel, .sentinel, .pinned] true (true, "6a4afed6a5da3c1a2e889bf522f0ff2851bf303de7816d85af349ac73b73717e") true leachSpoilt_holds (fun _ h => by cases h) (by kernel_rfl) (fun _ h => by cases h) leachSpoilt_row_tie rfl ⟨rfl, rfl⟩ (by kernel_rfl) rfl
    (fun f fn hf hfn => by
      obtain rfl : f = 5 := Option.some.inj ((show Tryz.prog.funcNamed Tryz.f5.name = some 5 by kernel_rfl).symm.trans hf) |>.symm
      obtain rfl : fn = Tryz.f5 := (Option.some.inj (Tryz.func5.symm.trans hfn)).symm
      exact ⟨by kernel_rfl, fun j t ht => by
        rw [Tryz.params5] at ht
        have hm : t ∈ [24, 3, 3] := by simpa using Array.mem_of_getElem? ht
        have hall : ([24, 3, 3].all fun u => !Tryz.prog.wantsStandIn u) = true := by kernel_rfl
        exact (show Tryz.prog.wantsStandIn t = false by simpa using List.all_eq_true.1 hall t hm)⟩)
    (by kernel_rfl)
#print axioms leachSpoilt_card_holds
end Go.Proofs.YtgcaabopnnhoaaaGreatDoor
