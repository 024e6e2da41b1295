/- Proved: LeachReads returns true for every text; the library's tables and sentinels that the row lists are tied to the program's text; no other condition. -/
import Derived.Test.YtgcaabopnnhoaaaGreatDoorAg
set_option linter.unusedVariables false
set_option linter.unusedSimpArgs false
set_option linter.unusedSectionVars false

namespace Go.Proofs.YtgcaabopnnhoaaaGreatDoor
open Go.ChangeShapes Go.WideShapes Go.ChangeAt Go.RowKit Go.Sim Go.Sim.Lg
set_option maxRecDepth 100000 in
theorem leachReads_fit (cs : List V) (h : ArgsFit [(false, [.str])] cs) : (E 2000000000000000 5).pf 4 cs = some (.ret (.bool true)) := by
  obtain ⟨s0, c0, cs0, e0, rfl, h0, g0⟩ := h
  injection e0 with e0 _; subst e0
  obtain rfl : cs0 = [] := g0
  obtain ⟨s, rfl⟩ := fitStr h0
  rw [← str_of s]
  exact s4 2000000000000000 0 s.data.toList (by decide)
set_option maxRecDepth 100000 in
theorem leachReads_lifted (os : Os) (started : os.Started) (H : Type) (enc : TypeId × Value → H) :
    ReturnsInHanded {} Tryz.checked os 4 .any (fun w args => (Rows.leachReadsSpec.pre enc Tryz.prog Tryz.f4 [] false w args ∧ laidMetH Tryz.prog listed w) ∧ sizedMet enc Tryz.prog Tryz.f4 (OpenSpec.ofChange Rows.leachReadsSpec) false w args)
      (Rows.leachReadsSpec.post enc Tryz.prog Tryz.f4 false true false false) := by
  refine handed (C := Tryz.checked) (X := fun w _ => laidMetH Tryz.prog listed w) (fun _ _ _ hh h => h.of_heap hh) own started (by kernel_rfl) Tryz.func4
    (ChangeSpec.witness_shaped (enc := enc) (C := Tryz.checked) (os := os) (X := fun w _ => laidMetH Tryz.prog listed w) false (World.laidAll Tryz.prog os listed) #[.string ByteArray.empty] 8 (World.laidAll_os _ _ _) (laid_shaped os _) (by kernel_rfl) (by kernel_rfl) (by kernel_rfl) (laid_os os _)) ?_
  intro W base args ds gs before hval hW hwt hL hs
  let st : Go.Sim.Start := ⟨W⟩
  have := vars_of hL hs
  exact law_contract (tb := 4) (okE 2000000000000000 5) (by kernel_rfl) leachReads_fit
    ⟨rfl, fun H ds h => by match ds, h with | [_], _ => exact ⟨rfl, rfl, rfl⟩⟩ (by kernel_rfl) (by kernel_rfl) Go.Sim.Le.laid (by decide +kernel) W (fun b hb => ⟨hb, rfl⟩) base args ds gs before hval hW hwt
theorem leachReads_holds : Rows.LeachReadsSaid :=
  OpenClaim.holds_of_wide 4 Tryz.f4 rfl rfl rfl rfl rfl rfl rfl ⟨rfl, rfl, rfl, rfl, rfl⟩ rfl rfl rfl rfl rfl (by kernel_rfl) Tryz.func4 (by kernel_rfl)
    (of_decide_eq_true (by kernel_rfl)) (by unfold Func.isWrapper; first | (rw [if_pos (by decide +kernel)]; kernel_rfl) | (rw [if_neg (by decide +kernel)]; exact ⟨rfl, rfl⟩))
    (fun os started H enc _ => leachReads_lifted os started H enc)
theorem leachReads_card_holds : Rows.LeachReadsCardSaid :=
  Claim7.holds_tied_plain_at .later [] [.data, .data, .data, .data, .sentinel, .sentinel, .pinned] true (true, "6a4afed6a5da3c1a2e889bf522f0ff2851bf303de7816d85af349ac73b73717e") true leachReads_holds (fun _ h => by cases h) (by kernel_rfl) (fun _ h => by cases h) leachReads_row_tie rfl ⟨rfl, rfl⟩ (by kernel_rfl) rfl
    (fun f fn hf hfn => by
      obtain rfl : f = 4 := Option.some.inj ((show Tryz.prog.funcNamed Tryz.f4.name = some 4 by kernel_rfl).symm.trans hf) |>.symm
      obtain rfl : fn = Tryz.f4 := (Option.some.inj (Tryz.func4.symm.trans hfn)).symm
      exact ⟨by kernel_rfl, fun j t ht => by
        rw [Tryz.params4] at ht
        have hm : t ∈ [9] := by simpa using Array.mem_of_getElem? ht
        have hall : ([9].all fun u => !Tryz.prog.wantsStandIn u) = true := by kernel_rfl
        exact (show Tryz.prog.wantsStandIn t = false by simpa using List.all_eq_true.1 hall t hm)⟩)
    (by kernel_rfl)
#print axioms leachReads_card_holds
end Go.Proofs.YtgcaabopnnhoaaaGreatDoor
