import Derived.Test.YtgigacidbnobjaaAf
set_option linter.unusedVariables false
set_option linter.unusedSimpArgs false
set_option linter.unusedSectionVars false

namespace Go.Sim.Pl
open Go.Proofs
def cutD (m : Mach) (s : Sta) (x : Int) : Bool := (x != 2 && (decide (s.served > 0) && decide (s.served < m.service))) || (x == 2 && decide (s.served ≥ m.service))
def faultG (cut : Mach → Sta → Int → Bool) (l : Sl Mach) (st : Nat → Sta) (w : Sl Int) (h : Hour) : Int × Int :=
  match firstP (fun i => upB (l.el i) (st i) (w.el i)) l.len 0 with
  | some i => (2, (i : Int))
  | none => match firstP (fun i => downB (l.el i) (st i) (w.el i)) l.len 0 with
    | some i => (3, (i : Int))
    | none => match firstP (fun i => cut (l.el i) (st i) (w.el i)) l.len 0 with
      | some i => (4, (i : Int))
      | none => match firstP (crewB w.el) l.len 0 with
        | some i => (5, (i : Int))
        | none => match firstP (fun i => wornB (l.el i) (st i) (w.el i)) l.len 0 with
          | some i => (6, (i : Int))
          | none => if shortest l (runsS w).el h.flow h.ratio ≠ 0 then (7, shortest l (runsS w).el h.flow h.ratio) else (1, 0)
theorem faultG_B (l : Sl Mach) (st : Nat → Sta) (w : Sl Int) (h : Hour) : faultG cutB l st w h = faultS l st w h := rfl
def refR (l : Sl Mach) (hs : Nat → Hour) (sc : Nat → Sl Int) : Nat → Nat → Int × Int × Int
  | 0, _ => (0, 1, 0)
  | j + 1, t => if (faultG cutD l (stAt l sc t) (sc t) (hs t)).1 ≠ 1 then ((t : Int), faultG cutD l (stAt l sc t) (sc t) (hs t)) else refR l hs sc j (t + 1)
abbrev TB (p : Nat → Bool) (i : Nat) : Nat → List V := gl eBool false (tabL p i)
theorem TB_S (p : Nat → Bool) (i : Nat) : appGet i (TB p i) (fun _ => eBool (p i)) = TB p (i + 1) := by
  unfold TB
  rw [tabL_S]
  exact gl_snoc (tabL_len _ _) rfl
theorem TB_1 (p : Nat → Bool) : (fun _ : Nat => eBool (p 0)) = TB p 1 := gl_one (e := eBool) (z := false) (m := p 0) rfl
def fiveR (a b c e f : V) : Nat → List V := fun u => List.take 1 (List.drop (Min.min u 4 * 1) [a, b, c, e, f])
variable (F d : Nat)
section
variable {l : Sl Mach} (hl : PlantOk l) {hs : Sl Hour} (hh : HoursOk hs) {sc : Sl (Sl Int)} (hn : hs.len ≤ 24) (hsc : SchedOk l hs.len sc) (hF : 1000 < F) {t : Nat} (ht : t < hs.len)
include hl hh hn hsc hF ht
section
variable {i : Nat} (hi : i < l.len) (m0 m1 k1 k2 k3 k4 k5 : Nat) (b6 : Bool) (c1 c2 c3 c4 c5 : Nat) (g1 g2 g3 g4 g5 : Nat → List V) (R : Option Out)
include hi
theorem l34x12 (hk : k1 < 2004 ∧ k2 < 2004 ∧ k3 < 2004 ∧ k4 < 2004 ∧ k5 < 2004) (K : L34x7 (E F (d + 2)) F l hs sc m0 m1 F t k1 k2 k3 k4 (k5 + 1) b6 i ((sc.el t).el i) c1 g1 c2 g2 c3 g3 c4 g4 (k5 + 1) (appGet k5 g5 (fun _ => eBool (wornB (l.el i) (stAt l sc.el t i) ((sc.el t).el i)))) = R) :
    L34x12 (E F (d + 2)) F l hs sc m0 m1 F t k1 k2 k3 k4 k5 b6 i ((sc.el t).el i) ((sc.el t).el i == 1) c1 g1 c2 g2 c3 g3 c4 g4 c5 g5 (l.el i).kind (l.el i).rows.nl (l.el i).rows.len (fun u => eRow ((l.el i).rows.el u)) (l.el i).start (l.el i).up (l.el i).down (l.el i).left (l.el i).life (l.el i).service (l.el i).runs (l.el i).since = R := by
  obtain ⟨F, rfl⟩ : ∃ k, F = k + 1 := ⟨F - 1, by omega⟩
  have q : (E (F + 1) (d + 2)).pf 65 [.agg [.int .i64 (l.el i).kind, .row (l.el i).rows.nl (l.el i).rows.len 4 (fun u => eRow ((l.el i).rows.el u)), .int .i64 (l.el i).start, .int .i64 (l.el i).up, .int .i64 (l.el i).down, .int .i64 (l.el i).left, .int .i64 (l.el i).life, .int .i64 (l.el i).service, .bool (l.el i).runs, .int .i64 (l.el i).since], .int .i64 i, sl eIL 1 sc, .int .i64 t] = _ := s65 (F + 1) d hl hn hsc hF hi (t := t) (by omega)
  unfold wornB at K
  rw [L34x12s]
  cases hx : (sc.el t).el i == 1 with
  | true =>
    rw [hx] at K
    rw [pT]
    simp (disch := omega) only [q, tkOut_ret, tkInt_i, decide_true, pT, decide_eq_true]
    exact K
  | false =>
    rw [hx] at K
    rw [pF, decide_eq_true (by omega), pT]
    exact K
theorem l34x11 (hk : k1 < 2003 ∧ k2 < 2003 ∧ k3 < 2003 ∧ k4 < 2003 ∧ k5 < 2003) (K : L34x7 (E F (d + 2)) F l hs sc m0 m1 F t k1 k2 k3 (k4 + 1) (k5 + 1) b6 i ((sc.el t).el i) c1 g1 c2 g2 c3 g3 (k4 + 1) (appGet k4 g4 (fun _ => eBool (b6 && (sc.el t).el i == 2))) (k5 + 1) (appGet k5 g5 (fun _ => eBool (wornB (l.el i) (stAt l sc.el t i) ((sc.el t).el i)))) = R) :
    L34x11 (E F (d + 2)) F l hs sc m0 m1 F t k1 k2 k3 k4 k5 b6 i ((sc.el t).el i) ((sc.el t).el i == 1) c1 g1 c2 g2 c3 g3 c4 g4 c5 g5 (l.el i).kind (l.el i).rows.nl (l.el i).rows.len (fun u => eRow ((l.el i).rows.el u)) (l.el i).start (l.el i).up (l.el i).down (l.el i).left (l.el i).life (l.el i).service (l.el i).runs (l.el i).since = R := by
  have e := fun c g' => l34x12 F d hl hh hn hsc hF ht hi m0 m1 k1 k2 k3 (k4 + 1) k5 b6 c1 c2 c3 c c5 g1 g2 g3 g' g5 R (by omega)
  obtain ⟨F, rfl⟩ : ∃ k, F = k + 1 := ⟨F - 1, by omega⟩
  rw [L34x11s]
  cases hx : (sc.el t).el i == 2 with
  | true =>
    rw [hx, Bool.and_true] at K
    rw [pT, decide_eq_true (by omega), pT]
    exact e _ _ K
  | false =>
    rw [hx, Bool.and_false] at K
    rw [pF, decide_eq_true (by omega), pT]
    exact e _ _ K
theorem l34x10 (hk : k1 < 2002 ∧ k2 < 2002 ∧ k3 < 2002 ∧ k4 < 2002 ∧ k5 < 2002) (K : L34x7 (E F (d + 2)) F l hs sc m0 m1 F t k1 k2 (k3 + 1) (k4 + 1) (k5 + 1) b6 i ((sc.el t).el i) c1 g1 c2 g2 (k3 + 1) (appGet k3 g3 (fun _ => eBool (cutD (l.el i) (stAt l sc.el t i) ((sc.el t).el i)))) (k4 + 1) (appGet k4 g4 (fun _ => eBool (b6 && (sc.el t).el i == 2))) (k5 + 1) (appGet k5 g5 (fun _ => eBool (wornB (l.el i) (stAt l sc.el t i) ((sc.el t).el i)))) = R) :
    L34x10 (E F (d + 2)) F l hs sc m0 m1 F t k1 k2 k3 k4 k5 b6 i ((sc.el t).el i) ((sc.el t).el i == 1) .i64 (stAt l sc.el t i).served c1 g1 c2 g2 c3 g3 c4 g4 c5 g5 (l.el i).kind (l.el i).rows.nl (l.el i).rows.len (fun u => eRow ((l.el i).rows.el u)) (l.el i).start (l.el i).up (l.el i).down (l.el i).left (l.el i).life (l.el i).service (l.el i).runs (l.el i).since = R := by
  have e := fun c g' => l34x11 F d hl hh hn hsc hF ht hi m0 m1 k1 k2 (k3 + 1) k4 k5 b6 c1 c2 c c4 c5 g1 g2 g' g4 g5 R (by omega)
  obtain ⟨F, rfl⟩ : ∃ k, F = k + 1 := ⟨F - 1, by omega⟩
  unfold cutD at K
  rw [L34x10s]
  by_cases hx : (sc.el t).el i = 2
  · rw [show ((sc.el t).el i != 2) = false by simp [hx], show ((sc.el t).el i == 2) = true by simp [hx], Bool.false_and, Bool.false_or, Bool.true_and] at K
    rw [show ((sc.el t).el i != 2) = false by simp [hx], show ((sc.el t).el i == 2) = true by simp [hx]]
    simp (disch := omega) only [pF, pT, decide_true, decide_eq_true]
    rw [show ((sc.el t).el i == 2) = true by simp [hx]] at e
    exact e _ _ K
  · rw [show ((sc.el t).el i != 2) = true by simp [hx], show ((sc.el t).el i == 2) = false by simp [hx], Bool.true_and, Bool.false_and, Bool.or_false] at K
    rw [show ((sc.el t).el i != 2) = true by simp [hx], show ((sc.el t).el i == 2) = false by simp [hx]]
    rw [show ((sc.el t).el i == 2) = false by simp [hx]] at e
    simp (disch := omega) only [pF, pT, decide_true, decide_eq_true]
    cases h1 : decide ((stAt l sc.el t i).served > 0) with
    | false =>
      rw [h1, Bool.false_and] at K
      rw [pF]
      exact e _ _ K
    | true =>
      rw [h1, Bool.true_and] at K
      rw [pT]
      cases h2 : decide ((stAt l sc.el t i).served < (l.el i).service) with
      | false => rw [h2] at K; rw [pF]; exact e _ _ K
      | true => rw [h2] at K; rw [pT]; exact e _ _ K
theorem l34x9 (hk : k1 < 2001 ∧ k2 < 2001 ∧ k3 < 2001 ∧ k4 < 2001 ∧ k5 < 2001) (K : L34x7 (E F (d + 2)) F l hs sc m0 m1 F t k1 (k2 + 1) (k3 + 1) (k4 + 1) (k5 + 1) b6 i ((sc.el t).el i) c1 g1 (k2 + 1) (appGet k2 g2 (fun _ => eBool (downB (l.el i) (stAt l sc.el t i) ((sc.el t).el i)))) (k3 + 1) (appGet k3 g3 (fun _ => eBool (cutD (l.el i) (stAt l sc.el t i) ((sc.el t).el i)))) (k4 + 1) (appGet k4 g4 (fun _ => eBool (b6 && (sc.el t).el i == 2))) (k5 + 1) (appGet k5 g5 (fun _ => eBool (wornB (l.el i) (stAt l sc.el t i) ((sc.el t).el i)))) = R) :
    L34x9 (E F (d + 2)) F l hs sc m0 m1 F t k1 k2 k3 k4 k5 b6 i ((sc.el t).el i) (stAt l sc.el t i).runs ((sc.el t).el i == 1) .i64 (stAt l sc.el t i).served c1 g1 c2 g2 c3 g3 c4 g4 c5 g5 (l.el i).kind (l.el i).rows.nl (l.el i).rows.len (fun u => eRow ((l.el i).rows.el u)) (l.el i).start (l.el i).up (l.el i).down (l.el i).left (l.el i).life (l.el i).service (l.el i).runs (l.el i).since = R := by
  have e := fun c g' => l34x10 F d hl hh hn hsc hF ht hi m0 m1 k1 (k2 + 1) k3 k4 k5 b6 c1 c c3 c4 c5 g1 g' g3 g4 g5 R (by omega)
  obtain ⟨F, rfl⟩ : ∃ k, F = k + 1 := ⟨F - 1, by omega⟩
  have q : (E (F + 1) (d + 2)).pf 64 [.agg [.int .i64 (l.el i).kind, .row (l.el i).rows.nl (l.el i).rows.len 4 (fun u => eRow ((l.el i).rows.el u)), .int .i64 (l.el i).start, .int .i64 (l.el i).up, .int .i64 (l.el i).down, .int .i64 (l.el i).left, .int .i64 (l.el i).life, .int .i64 (l.el i).service, .bool (l.el i).runs, .int .i64 (l.el i).since], .int .i64 i, sl eIL 1 sc, .int .i64 t] = _ := s64 (F + 1) d hl hn hsc hF hi (t := t) (by omega)
  unfold downB at K
  rw [L34x9s]
  cases hr : (stAt l sc.el t i).runs with
  | true =>
    rw [hr, Bool.not_true, Bool.false_and] at K
    rw [Bool.not_true, pF, decide_eq_true (by omega), pT]
    exact e _ _ K
  | false =>
    rw [hr, Bool.not_false, Bool.true_and] at K
    rw [Bool.not_false, pT]
    cases hx : (sc.el t).el i == 1 with
    | true =>
      rw [hx, Bool.true_and] at K
      rw [pT]
      simp (disch := omega) only [q, tkOut_ret, tkInt_i, decide_true, pT, decide_eq_true]
      rw [hx] at e
      exact e _ _ K
    | false =>
      rw [hx, Bool.false_and] at K
      rw [pF, decide_eq_true (by omega), pT]
      rw [hx] at e
      exact e _ _ K
end
abbrev upP (l : Sl Mach) (sc : Nat → Sl Int) (t : Nat) : Nat → Bool := fun i => upB (l.el i) (stAt l sc t i) ((sc t).el i)
abbrev downP (l : Sl Mach) (sc : Nat → Sl Int) (t : Nat) : Nat → Bool := fun i => downB (l.el i) (stAt l sc t i) ((sc t).el i)
abbrev cutP (l : Sl Mach) (sc : Nat → Sl Int) (t : Nat) : Nat → Bool := fun i => cutD (l.el i) (stAt l sc t i) ((sc t).el i)
abbrev wornP (l : Sl Mach) (sc : Nat → Sl Int) (t : Nat) : Nat → Bool := fun i => wornB (l.el i) (stAt l sc t i) ((sc t).el i)
theorem l34x8 (m0 : Nat) (R : Option Out) (K : L34x3 (E F (d + 2)) F l hs sc m0 F t 0 (fiveR (.row false l.len 1 (TB (upP l sc.el t) l.len)) (.row false l.len 1 (TB (downP l sc.el t) l.len)) (.row false l.len 1 (TB (cutP l sc.el t) l.len)) (.row false l.len 1 (TB (crewB (sc.el t).el) l.len)) (.row false l.len 1 (TB (wornP l sc.el t) l.len))) = R) :
    ∀ (j i fu : Nat), i + j = l.len → j < fu → L34x8 (E F (d + 2)) F l hs sc m0 fu t i i i i i (busyB (sc.el t).el i) i i (TB (upP l sc.el t) i) i (TB (downP l sc.el t) i) i (TB (cutP l sc.el t) i) i (TB (crewB (sc.el t).el) i) i (TB (wornP l sc.el t) i) = R := by
  have hl2 := hl.2
  have hscl := hsc.2
  have hw := (hsc.1 t (by omega)).1
  intro j
  induction j with
  | zero =>
    intro i fu hij hf
    obtain ⟨fu, rfl⟩ : ∃ k, fu = k + 1 := ⟨fu - 1, by omega⟩
    have hi : i = l.len := by omega
    subst hi
    rw [L34x8s, decide_eq_false (by omega), pF]
    exact K
  | succ j ih =>
    intro i fu hij hf
    obtain ⟨fu, rfl⟩ : ∃ k, fu = k + 1 := ⟨fu - 1, by omega⟩
    have hi : i < l.len := by omega
    have hS' : IntKind.i64.wrap ((i : Int) + 1) = ((i + 1 : Nat) : Int) := wrS (by omega)
    have q62 := s62 F (d + 1) hl hn hsc hF hi (t := t) (by omega)
    have q63 := s63 F (d + 1) hl hn hsc hF hi (t := t) (by omega)
    have q64 := s64 F d hl hn hsc hF hi (t := t) (by omega)
    have e := ih (i + 1) fu (by omega) (by omega)
    rw [← TB_S, ← TB_S, ← TB_S, ← TB_S, ← TB_S] at e
    have e7 : L34x7 (E F (d + 2)) F l hs sc m0 fu F t (i + 1) (i + 1) (i + 1) (i + 1) (i + 1) (busyB (sc.el t).el i) i ((sc.el t).el i) (i + 1) (appGet i (TB (upP l sc.el t) i) (fun _ => eBool (upP l sc.el t i))) (i + 1) (appGet i (TB (downP l sc.el t) i) (fun _ => eBool (downP l sc.el t i))) (i + 1) (appGet i (TB (cutP l sc.el t) i) (fun _ => eBool (cutP l sc.el t i))) (i + 1) (appGet i (TB (crewB (sc.el t).el) i) (fun _ => eBool (crewB (sc.el t).el i))) (i + 1) (appGet i (TB (wornP l sc.el t) i) (fun _ => eBool (wornP l sc.el t i))) = R := by
      have eb : busyB (sc.el t).el (i + 1) = (busyB (sc.el t).el i || (sc.el t).el i == 2) := rfl
      rw [eb] at e
      obtain ⟨F', hF'⟩ : ∃ k, F = k + 1 := ⟨F - 1, by omega⟩
      subst hF'
      rw [L34x7s, hS']
      cases hb : busyB (sc.el t).el i with
      | true => rw [hb, Bool.true_or] at e; rw [hb] at *; rw [pT]; exact e
      | false => rw [hb, Bool.false_or] at e; rw [pF]; exact e
    have e9 := fun c1 g1 => l34x9 F d hl hh hn hsc hF ht hi m0 fu (i + 1) i i i i (busyB (sc.el t).el i) c1 i i i i g1 (TB (downP l sc.el t) i) (TB (cutP l sc.el t) i) (TB (crewB (sc.el t).el) i) (TB (wornP l sc.el t) i) R (by omega)
    rw [L34x8s]
    simp (disch := omega) only [decide_eq_true, decide_true, pT, Int.toNat_natCast, wr, q62, q63, tkOut_ret, tkBool_b, tkInt_i]
    have eu : upP l sc.el t i = ((stAt l sc.el t i).runs && ((sc.el t).el i != 1 && decide ((stAt l sc.el t i).since < (l.el i).up))) := rfl
    rw [eu] at e7
    cases hr : (stAt l sc.el t i).runs with
    | false =>
      rw [hr, Bool.false_and] at e7
      rw [hr] at e9
      rw [pF]
      exact e9 _ _ e7
    | true =>
      rw [hr, Bool.true_and] at e7
      rw [hr] at e9
      rw [pT]
      by_cases hx : (sc.el t).el i = 1
      · rw [show ((sc.el t).el i != 1) = false by simp [hx], Bool.false_and] at e7
        rw [show ((sc.el t).el i == 1) = true by simp [hx]] at e9 ⊢
        rw [Bool.not_true, pF]
        exact e9 _ _ e7
      · rw [show ((sc.el t).el i != 1) = true by simp [hx], Bool.true_and] at e7
        rw [show ((sc.el t).el i == 1) = false by simp [hx]] at e9 ⊢
        rw [Bool.not_false, pT]
        simp (disch := omega) only [q64, tkOut_ret, tkInt_i, decide_true, pT, decide_eq_true]
        exact e9 _ _ e7
end
end Go.Sim.Pl


namespace Go.Sim.Pl
open Go.Proofs
abbrev fiveH (l : Sl Mach) (sc : Nat → Sl Int) (t : Nat) : Nat → List V := fiveR (.row false l.len 1 (TB (upP l sc t) l.len)) (.row false l.len 1 (TB (downP l sc t) l.len)) (.row false l.len 1 (TB (cutP l sc t) l.len)) (.row false l.len 1 (TB (crewB (sc t).el) l.len)) (.row false l.len 1 (TB (wornP l sc t) l.len))
variable (F d : Nat)
section
variable {l : Sl Mach} (hl : PlantOk l) {hs : Sl Hour} (hh : HoursOk hs) {sc : Sl (Sl Int)} (hn : hs.len ≤ 24) (hsc : SchedOk l hs.len sc) (hF : 1000 < F) {t : Nat} (ht : t < hs.len)
include hl hh hn hsc hF ht
theorem l34x6 (m0 m1 : Nat) (g1 g2 g3 : Nat → List V) (R : Option Out) (K : L34x7 (E F (d + 2)) F l hs sc m0 m1 F t 1 1 1 1 1 false 0 ((sc.el t).el 0) 1 g1 1 g2 1 g3 1 (fun _ => eBool (crewB (sc.el t).el 0)) 1 (fun _ => eBool (wornP l sc.el t 0)) = R) :
    L34x6 (E F (d + 2)) F l hs sc m0 m1 F t ((sc.el t).el 0) ((sc.el t).el 0 == 1) g1 g2 g3 = R := by
  obtain ⟨F, rfl⟩ : ∃ k, F = k + 1 := ⟨F - 1, by omega⟩
  have hl2 := hl.2
  have q := s65 (F + 1) d hl hn hsc hF (a := 0) (by omega) (t := t) (by omega)
  have ew : wornP l sc.el t 0 = ((sc.el t).el 0 == 1 && decide ((stAt l sc.el t 0).left ≤ 0)) := rfl
  have ec : crewB (sc.el t).el 0 = false := rfl
  rw [ew, ec] at K
  rw [L34x6s]
  cases hx : (sc.el t).el 0 == 1 with
  | true =>
    rw [hx, Bool.true_and] at K
    rw [pT]
    rw [Int.natCast_zero] at q
    simp (disch := omega) only [q, tkOut_ret, tkInt_i, decide_true, pT, decide_eq_true]
    exact K
  | false =>
    rw [hx, Bool.false_and] at K
    rw [pF]
    exact K
theorem l34x5 (m0 m1 : Nat) (g1 g2 g3 : Nat → List V) (R : Option Out) (K : L34x7 (E F (d + 2)) F l hs sc m0 m1 F t 1 1 1 1 1 false 0 ((sc.el t).el 0) 1 g1 1 g2 1 g3 1 (fun _ => eBool (crewB (sc.el t).el 0)) 1 (fun _ => eBool (wornP l sc.el t 0)) = R) :
    L34x5 (E F (d + 2)) F l hs sc m0 m1 F t ((sc.el t).el 0) ((sc.el t).el 0 == 1) g1 g2 g3 = R := by
  have e := l34x6 F d hl hh hn hsc hF ht m0 m1 g1 g2 g3 R K
  obtain ⟨F, rfl⟩ : ∃ k, F = k + 1 := ⟨F - 1, by omega⟩
  rw [L34x5s]
  cases hx : (sc.el t).el 0 == 2 with
  | true => rw [pT]; exact e
  | false => rw [pF]; exact e
theorem l34x4 (m0 m1 : Nat) (g1 g2 : Nat → List V) (R : Option Out) (K : L34x7 (E F (d + 2)) F l hs sc m0 m1 F t 1 1 1 1 1 false 0 ((sc.el t).el 0) 1 g1 1 g2 1 (fun _ => eBool (cutP l sc.el t 0)) 1 (fun _ => eBool (crewB (sc.el t).el 0)) 1 (fun _ => eBool (wornP l sc.el t 0)) = R) :
    L34x4 (E F (d + 2)) F l hs sc m0 m1 F t ((sc.el t).el 0) ((sc.el t).el 0 == 1) .i64 (stAt l sc.el t 0).served g1 g2 = R := by
  have e := fun g3 => l34x5 F d hl hh hn hsc hF ht m0 m1 g1 g2 g3 R
  obtain ⟨F, rfl⟩ : ∃ k, F = k + 1 := ⟨F - 1, by omega⟩
  have ec : cutP l sc.el t 0 = (((sc.el t).el 0 != 2 && (decide ((stAt l sc.el t 0).served > 0) && decide ((stAt l sc.el t 0).served < (l.el 0).service))) || ((sc.el t).el 0 == 2 && decide ((stAt l sc.el t 0).served ≥ (l.el 0).service))) := rfl
  rw [ec] at K
  rw [L34x4s]
  by_cases hx : (sc.el t).el 0 = 2
  · rw [show ((sc.el t).el 0 != 2) = false by simp [hx], show ((sc.el t).el 0 == 2) = true by simp [hx], Bool.false_and, Bool.false_or, Bool.true_and] at K
    rw [show ((sc.el t).el 0 != 2) = false by simp [hx], show ((sc.el t).el 0 == 2) = true by simp [hx]]
    simp (disch := omega) only [pF, pT, decide_true, decide_eq_true]
    exact e _ K
  · rw [show ((sc.el t).el 0 != 2) = true by simp [hx], show ((sc.el t).el 0 == 2) = false by simp [hx], Bool.true_and, Bool.false_and, Bool.or_false] at K
    rw [show ((sc.el t).el 0 != 2) = true by simp [hx], show ((sc.el t).el 0 == 2) = false by simp [hx]]
    simp (disch := omega) only [pF, pT, decide_true, decide_eq_true]
    cases h1 : decide ((stAt l sc.el t 0).served > 0) with
    | false =>
      rw [h1, Bool.false_and] at K
      rw [pF]
      exact e _ K
    | true =>
      rw [h1, Bool.true_and] at K
      rw [pT]
      cases h2 : decide ((stAt l sc.el t 0).served < (l.el 0).service) with
      | false => rw [h2] at K; rw [pF]; exact e _ K
      | true => rw [h2] at K; rw [pT]; exact e _ K
theorem l34x2 (m0 m1 : Nat) (g1 : Nat → List V) (R : Option Out) (K : L34x7 (E F (d + 2)) F l hs sc m0 m1 F t 1 1 1 1 1 false 0 ((sc.el t).el 0) 1 g1 1 (fun _ => eBool (downP l sc.el t 0)) 1 (fun _ => eBool (cutP l sc.el t 0)) 1 (fun _ => eBool (crewB (sc.el t).el 0)) 1 (fun _ => eBool (wornP l sc.el t 0)) = R) :
    L34x2 (E F (d + 2)) F l hs sc m0 m1 F t ((sc.el t).el 0) (stAt l sc.el t 0).runs ((sc.el t).el 0 == 1) .i64 (stAt l sc.el t 0).served g1 = R := by
  have e := fun g2 => l34x4 F d hl hh hn hsc hF ht m0 m1 g1 g2 R
  obtain ⟨F, rfl⟩ : ∃ k, F = k + 1 := ⟨F - 1, by omega⟩
  have hl2 := hl.2
  have q := s64 (F + 1) d hl hn hsc hF (a := 0) (by omega) (t := t) (by omega)
  rw [Int.natCast_zero] at q
  have ed : downP l sc.el t 0 = (!(stAt l sc.el t 0).runs && ((sc.el t).el 0 == 1 && decide ((stAt l sc.el t 0).since < (l.el 0).down))) := rfl
  rw [ed] at K
  rw [L34x2s]
  cases hr : (stAt l sc.el t 0).runs with
  | true =>
    rw [hr, Bool.not_true, Bool.false_and] at K
    rw [Bool.not_true, pF]
    exact e _ K
  | false =>
    rw [hr, Bool.not_false, Bool.true_and] at K
    rw [Bool.not_false, pT]
    cases hx : (sc.el t).el 0 == 1 with
    | true =>
      rw [hx, Bool.true_and] at K
      rw [hx] at e
      rw [pT]
      simp (disch := omega) only [q, tkOut_ret, tkInt_i, decide_true, pT, decide_eq_true]
      exact e _ K
    | false =>
      rw [hx, Bool.false_and] at K
      rw [hx] at e
      rw [pF]
      exact e _ K
theorem l34x1' (m0 fu : Nat) (hfu : 100 < fu) (R : Option Out) (K : L34x3 (E F (d + 2)) F l hs sc m0 F t 0 (fiveH l sc.el t) = R) :
    L34x1 (E F (d + 2)) F l hs sc m0 fu t = R := by
  have hl2 := hl.2
  have hscl := hsc.2
  have hw := (hsc.1 t (by omega)).1
  obtain ⟨fu, rfl⟩ : ∃ k, fu = k + 1 := ⟨fu - 1, by omega⟩
  have q62 := s62 F (d + 1) hl hn hsc hF (a := 0) (by omega) (t := t) (by omega)
  have q63 := s63 F (d + 1) hl hn hsc hF (a := 0) (by omega) (t := t) (by omega)
  have q64 := s64 F d hl hn hsc hF (a := 0) (by omega) (t := t) (by omega)
  rw [Int.natCast_zero] at q62 q63 q64
  have e := l34x8 F d hl hh hn hsc hF ht m0 R K (l.len - 1) 1 fu (by omega) (by omega)
  rw [← TB_1, ← TB_1, ← TB_1, ← TB_1, ← TB_1] at e
  have e7 : L34x7 (E F (d + 2)) F l hs sc m0 fu F t 1 1 1 1 1 false 0 ((sc.el t).el 0) 1 (fun _ => eBool (upP l sc.el t 0)) 1 (fun _ => eBool (downP l sc.el t 0)) 1 (fun _ => eBool (cutP l sc.el t 0)) 1 (fun _ => eBool (crewB (sc.el t).el 0)) 1 (fun _ => eBool (wornP l sc.el t 0)) = R := by
    have eb : busyB (sc.el t).el 1 = ((sc.el t).el 0 == 2) := rfl
    rw [eb] at e
    obtain ⟨F', hF'⟩ : ∃ k, F = k + 1 := ⟨F - 1, by omega⟩
    subst hF'
    rw [L34x7s, show IntKind.i64.wrap ((0 : Int) + 1) = ((1 : Nat) : Int) by rw [wr (by omega)]; rfl, pF]
    exact e
  have e2 := fun g1 => l34x2 F d hl hh hn hsc hF ht m0 fu g1 R
  rw [L34x1s]
  simp (disch := omega) only [decide_eq_true, decide_true, pT, Int.toNat_natCast, wr, q62, q63, tkOut_ret, tkBool_b, tkInt_i]
  have eu : upP l sc.el t 0 = ((stAt l sc.el t 0).runs && ((sc.el t).el 0 != 1 && decide ((stAt l sc.el t 0).since < (l.el 0).up))) := rfl
  rw [eu] at e7
  cases hr : (stAt l sc.el t 0).runs with
  | false =>
    rw [hr, Bool.false_and] at e7
    rw [hr] at e2
    rw [pF]
    exact e2 _ e7
  | true =>
    rw [hr, Bool.true_and] at e7
    rw [hr] at e2
    rw [pT]
    by_cases hx : (sc.el t).el 0 = 1
    · rw [show ((sc.el t).el 0 != 1) = false by simp [hx], Bool.false_and] at e7
      rw [show ((sc.el t).el 0 == 1) = true by simp [hx]] at e2 ⊢
      rw [Bool.not_true, pF]
      exact e2 _ e7
    · rw [show ((sc.el t).el 0 != 1) = true by simp [hx], Bool.true_and] at e7
      rw [show ((sc.el t).el 0 == 1) = false by simp [hx]] at e2 ⊢
      rw [Bool.not_false, pT]
      simp (disch := omega) only [q64, tkOut_ret, tkInt_i, decide_true, pT, decide_eq_true]
      exact e2 _ e7
theorem l34x3 (m0 fu a : Nat) (ha : a < 5) (g : Nat → List V) (p : Nat → Bool) (hg : g a = [.row false l.len 1 (TB p l.len)]) : L34x3 (E F (d + 2)) F l hs sc m0 (fu + 1) t a g = match firstP p l.len 0 with
    | some i => some (.ret (.agg [.int .i64 t, .int .i64 (2 + a), .int .i64 i]))
    | none => L34x3 (E F (d + 2)) F l hs sc m0 fu t ((a + 1 : Nat) : Int) g := by
  have hl2 := hl.2
  have hS' : IntKind.i64.wrap ((a : Int) + 1) = ((a + 1 : Nat) : Int) := wrS (by omega)
  have q : (E F (d + 2)).pf 66 [.row false l.len 1 (TB p l.len)] = some (.ret (.int .i64 (fI (firstP p l.len 0)))) := by
    have := s66 F (d + 1) (rowB p l.len) (show l.len ≤ 1000 by omega) hF
    rw [show (rowB p l.len).len = l.len from rfl, firstP_congr (q := p) l.len 0 (fun k _ h2 => rowT_el (by omega))] at this
    exact this
  rw [L34x3s]
  simp (disch := omega) only [decide_eq_true, decide_true, pT, Int.toNat_natCast, hg, tkCons_c, tkRow_r, q, tkOut_ret, tkInt_i, hS', wr]
  cases firstP p l.len 0 with
  | some i => rw [show fI (some i) = (i : Int) from rfl, decide_eq_true (by omega), pT]
  | none => rw [show fI none = -1 from rfl, decide_eq_false (by omega), pF]
theorem l34x13 (m0 : Nat) (R : Option Out) (L : List Int) (hL : L.length ≤ 1000) (wdok : True) (o' : Int) (K : (bif decide (o' > 0) then some (.ret (.agg [.int .i64 t, .int .i64 7, .int .i64 o'])) else L34x0 (E F (d + 2)) F l hs sc m0 ((t + 1 : Nat) : Int)) = R) : ∀ (j i fu : Nat) (o : Int), i + j = L.length → j < fu → 0 ≤ o → shortF l (runsS (sc.el t)).el (hs.el t).flow o (L.drop i) = o' →
    L34x13 (E F (d + 2)) F l hs sc m0 fu t .i64 o false L.length 1 (gl eInt 0 L) i = R := by
  have hl2 := hl.2
  have hscl := hsc.2
  have hw := (hsc.1 t (by omega)).1
  intro j
  induction j with
  | zero =>
    intro i fu o h hf ho hs'
    obtain ⟨fu, rfl⟩ : ∃ k, fu = k + 1 := ⟨fu - 1, by omega⟩
    have hS' : IntKind.i64.wrap ((t : Int) + 1) = ((t + 1 : Nat) : Int) := wrS (by omega)
    rw [List.drop_eq_nil_of_le (by omega)] at hs'
    have : o = o' := hs'
    subst this
    rw [L34x13s, decide_eq_false (by omega), pF, decide_eq_true rfl, pT, hS']
    exact K
  | succ j ih =>
    intro i fu o h hf ho hs'
    obtain ⟨fu, rfl⟩ : ∃ k, fu = k + 1 := ⟨fu - 1, by omega⟩
    have hS' : IntKind.i64.wrap ((i : Int) + 1) = ((i + 1 : Nat) : Int) := wrS (by omega)
    have hi : i < L.length := by omega
    have hg : gl eInt 0 L i = [.int .i64 L[i]] := by
      unfold gl
      rw [List.getD_eq_getElem?_getD, List.getElem?_eq_getElem hi]; rfl
    have q35 := s35 F (d + 1) (sc.el t) (by omega) hF (by omega)
    have q19 := s19 F d hl hF (runsS (sc.el t)) hw (hs.el t).flow L[i]
    have hlk := lacks_in l (runsS (sc.el t)).el (hs.el t).flow L[i]
    rw [List.drop_eq_getElem_cons hi] at hs'
    have hs2 : shortF l (runsS (sc.el t)).el (hs.el t).flow (updK o (lacks l (runsS (sc.el t)).el (hs.el t).flow L[i])) (L.drop (i + 1)) = o' := hs'
    rw [L34x13s]
    simp (disch := omega) only [decide_eq_true, decide_true, pT, Int.toNat_natCast, beq_self_eq_true, q35, tkOut_ret, tkRow_r, hg, tkCons_c, tkInt_i, q19, hS']
    generalize lacks l (runsS (sc.el t)).el (hs.el t).flow L[i] = k at *
    by_cases h1 : k > 0
    · rw [decide_eq_true h1, pT]
      by_cases h2 : o = 0
      · rw [show (o == 0) = true by simp [h2], pT]
        exact ih (i + 1) fu k (by omega) (by omega) (by omega) (by rw [← hs2, show updK o k = k by unfold updK; rw [if_pos (by omega)]])
      · rw [show (o == 0) = false by simp [h2], pF]
        by_cases h3 : k < o
        · rw [decide_eq_true h3, pT]
          exact ih (i + 1) fu k (by omega) (by omega) (by omega) (by rw [← hs2, show updK o k = k by unfold updK; rw [if_pos (by omega)]])
        · rw [decide_eq_false h3, pF]
          exact ih (i + 1) fu o (by omega) (by omega) (by omega) (by rw [← hs2, show updK o k = o by unfold updK; rw [if_neg (by omega)]])
    · rw [decide_eq_false h1, pF]
      exact ih (i + 1) fu o (by omega) (by omega) (by omega) (by rw [← hs2, show updK o k = o by unfold updK; rw [if_neg (by omega)]])
theorem l34xh (m0 : Nat) (R : Option Out) (K : (if (faultG cutD l (stAt l sc.el t) (sc.el t) (hs.el t)).1 ≠ 1 then some (.ret (.agg [.int .i64 t, .int .i64 (faultG cutD l (stAt l sc.el t) (sc.el t) (hs.el t)).1, .int .i64 (faultG cutD l (stAt l sc.el t) (sc.el t) (hs.el t)).2])) else L34x0 (E F (d + 2)) F l hs sc m0 ((t + 1 : Nat) : Int)) = R) : L34x1 (E F (d + 2)) F l hs sc m0 F t = R := by
  have hl2 := hl.2
  refine l34x1' F d hl hh hn hsc hF ht m0 F (by omega) R ?_
  have hho := hh t ht
  have st := fun fu a ha g p hg => l34x3 F d hl hh hn hsc hF ht m0 fu a ha g p hg
  obtain ⟨F, rfl⟩ : ∃ k, F = k + 6 := ⟨F - 6, by omega⟩
  have st0 := st (F + 5) 0 (by omega) (fiveH l sc.el t) (upP l sc.el t) rfl
  rw [Int.natCast_zero] at st0
  refine Eq.trans st0 ?_
  unfold faultG at K
  revert K
  cases firstP (upP l sc.el t) l.len 0 with
  | some i => intro K; exact K
  | none =>
    simp only []
    refine fun K => Eq.trans (st (F + 4) 1 (by omega) (fiveH l sc.el t) (downP l sc.el t) rfl) ?_
    revert K
    cases firstP (downP l sc.el t) l.len 0 with
    | some i => intro K; exact K
    | none =>
      simp only []
      refine fun K => Eq.trans (st (F + 3) 2 (by omega) (fiveH l sc.el t) (cutP l sc.el t) rfl) ?_
      revert K
      cases firstP (cutP l sc.el t) l.len 0 with
      | some i => intro K; exact K
      | none =>
        simp only []
        refine fun K => Eq.trans (st (F + 2) 3 (by omega) (fiveH l sc.el t) (crewB (sc.el t).el) rfl) ?_
        revert K
        cases firstP (crewB (sc.el t).el) l.len 0 with
        | some i => intro K; exact K
        | none =>
          simp only []
          refine fun K => Eq.trans (st (F + 1) 4 (by omega) (fiveH l sc.el t) (wornP l sc.el t) rfl) ?_
          revert K
          cases firstP (wornP l sc.el t) l.len 0 with
          | some i => intro K; exact K
          | none =>
            simp only []
            intro K
            have q59 := s59 (F + 6) (d + 1) hl hF (s := (hs.el t).ratio) hho.2
            have hrl := ratM_len hl (hs.el t).ratio l.len 0 (by omega)
            have hsi := shortF_in l (runsS (sc.el t)).el (hs.el t).flow (ratL l (hs.el t).ratio) 0 (by omega) (by omega)
            rw [L34x3s, decide_eq_false (by omega), pF]
            simp (disch := omega) only [decide_eq_true, decide_true, pT, Int.toNat_natCast, q59, tkOut_ret, tkRow_r]
            refine l34x13 (F + 6) d hl hh hn hsc hF ht m0 R (ratL l (hs.el t).ratio) (by simp only [ratL, List.length_cons]; omega) trivial (shortest l (runsS (sc.el t)).el (hs.el t).flow (hs.el t).ratio) ?_ (ratL l (hs.el t).ratio).length 0 (F + 6) 0 (by omega) (by simp only [ratL, List.length_cons]; omega) (by omega) rfl
            rw [← K]
            have hsi' : 0 ≤ shortest l (runsS (sc.el t)).el (hs.el t).flow (hs.el t).ratio := hsi.1
            by_cases hk : shortest l (runsS (sc.el t)).el (hs.el t).flow (hs.el t).ratio = 0
            · rw [decide_eq_false (by omega), pF, if_neg (by omega : ¬ shortest l (runsS (sc.el t)).el (hs.el t).flow (hs.el t).ratio ≠ 0)]; exact (if_neg (by simp)).symm
            · rw [decide_eq_true (by omega), pT, if_pos hk]; exact (if_pos (by simp)).symm
end
section
variable {l : Sl Mach} (hl : PlantOk l) {hs : Sl Hour} (hh : HoursOk hs) {sc : Sl (Sl Int)} (hn : hs.len ≤ 24) (hsc : SchedOk l hs.len sc) (hF : 1000 < F)
include hl hh hn hsc hF
theorem l34x0 : ∀ (j t fu : Nat), t + j = hs.len → j < fu → L34x0 (E F (d + 2)) F l hs sc fu t = some (.ret (.agg [.int .i64 (refR l hs.el sc.el j t).1, .int .i64 (refR l hs.el sc.el j t).2.1, .int .i64 (refR l hs.el sc.el j t).2.2])) := by
  intro j
  induction j with
  | zero =>
    intro t fu h hf
    obtain ⟨fu, rfl⟩ : ∃ k, fu = k + 1 := ⟨fu - 1, by omega⟩
    rw [L34x0s, decide_eq_false (by omega), pF]
    rfl
  | succ j ih =>
    intro t fu h hf
    obtain ⟨fu, rfl⟩ : ∃ k, fu = k + 1 := ⟨fu - 1, by omega⟩
    rw [L34x0s, decide_eq_true (by omega), pT]
    refine l34xh F d hl hh hn hsc hF (t := t) (by omega) fu _ ?_
    rw [ih (t + 1) fu (by omega) (by omega)]
    simp only [refR]
    split <;> rfl
theorem s34 : (E F (d + 3)).pf 34 [sl eMach 10 l, sl eHour 3 hs, sl eIL 1 sc] = some (.ret (.agg [.int .i64 (refR l hs.el sc.el hs.len 0).1, .int .i64 (refR l hs.el sc.el hs.len 0).2.1, .int .i64 (refR l hs.el sc.el hs.len 0).2.2])) := by
  rw [E_pf, t34]
  exact l34x0 F d hl hh hn hsc hF hs.len 0 F (by omega) (by omega)
end
theorem firstP_none {p : Nat → Bool} : ∀ j i, firstP p j i = none → ∀ k, i ≤ k → k < i + j → p k = false
  | 0, i, _, k, h1, h2 => by omega
  | j + 1, i, h, k, h1, h2 => by
    simp only [firstP] at h
    cases hp : p i with
    | true => rw [hp, cond_true] at h; cases h
    | false =>
      rw [hp, cond_false] at h
      rcases Nat.eq_or_lt_of_le h1 with rfl | h3
      · exact hp
      · exact firstP_none j (i + 1) h k (by omega) (by omega)
def ServOk (l : Sl Mach) (st : Nat → Sta) : Prop := ∀ i, i < l.len → 0 ≤ (st i).served ∧ (st i).served ≤ (l.el i).service ∧ ((st i).complete = true ↔ (st i).served = (l.el i).service)
theorem cut_eq {m : Mach} {s : Sta} (hm : 1 ≤ m.service) (h : 0 ≤ s.served ∧ s.served ≤ m.service ∧ (s.complete = true ↔ s.served = m.service)) (x : Int) : cutB m s x = cutD m s x := by
  unfold cutB cutD
  by_cases hx : x = 2
  · rw [show (x == 2) = true by simp [hx], show (x != 2) = false by simp [hx], cond_true, Bool.false_and, Bool.false_or, Bool.true_and]
    refine b2 ?_
    rw [h.2.2, decide_eq_true_iff]
    omega
  · rw [show (x == 2) = false by simp [hx], show (x != 2) = true by simp [hx], cond_false, Bool.true_and, Bool.false_and, Bool.or_false]
    refine b2 ?_
    have h2 := h.2.2
    cases hc : s.complete with
    | true =>
      have := h2.1 hc
      simp only [Bool.not_true, Bool.and_false, Bool.false_eq_true, Bool.and_eq_true, decide_eq_true_iff, false_iff]
      omega
    | false =>
      have : ¬ s.served = m.service := fun hh => by rw [h2.2 hh] at hc; cases hc
      simp only [Bool.not_false, Bool.and_true, Bool.and_eq_true, decide_eq_true_iff]
      omega
theorem faultG_congr {c c' : Mach → Sta → Int → Bool} {l : Sl Mach} {st : Nat → Sta} {w : Sl Int} {h : Hour} (e : ∀ i, i < l.len → c (l.el i) (st i) (w.el i) = c' (l.el i) (st i) (w.el i)) : faultG c l st w h = faultG c' l st w h := by
  unfold faultG
  rw [firstP_congr (p := fun i => c (l.el i) (st i) (w.el i)) (q := fun i => c' (l.el i) (st i) (w.el i)) l.len 0 (fun k _ h2 => e k (by omega))]
theorem fault_fine {l : Sl Mach} {st : Nat → Sta} {w : Sl Int} {h : Hour} (e : (faultS l st w h).1 = 1) :
    (∀ i, i < l.len → upB (l.el i) (st i) (w.el i) = false ∧ downB (l.el i) (st i) (w.el i) = false ∧ cutB (l.el i) (st i) (w.el i) = false ∧ crewB w.el i = false ∧ wornB (l.el i) (st i) (w.el i) = false) ∧ shortest l (runsS w).el h.flow h.ratio = 0 := by
  unfold faultS at e
  split at e
  · simp at e
  · rename_i h1
    split at e
    · simp at e
    · rename_i h2
      split at e
      · simp at e
      · rename_i h3
        split at e
        · simp at e
        · rename_i h4
          split at e
          · simp at e
          · rename_i h5
            split at e
            · simp at e
            · rename_i h6
              refine ⟨fun i hi => ⟨?_, ?_, ?_, ?_, ?_⟩, by omega⟩
              · exact firstP_none _ _ h1 i (by omega) (by omega)
              · exact firstP_none _ _ h2 i (by omega) (by omega)
              · exact firstP_none _ _ h3 i (by omega) (by omega)
              · exact firstP_none _ _ h4 i (by omega) (by omega)
              · exact firstP_none _ _ h5 i (by omega) (by omega)
theorem serv_next {l : Sl Mach} (hl : PlantOk l) {sc : Nat → Sl Int} {t : Nat} (h : ServOk l (stAt l sc t)) (hc : ∀ i, i < l.len → cutB (l.el i) (stAt l sc t i) ((sc t).el i) = false) : ServOk l (stAt l sc (t + 1)) := by
  intro i hi
  have h1 := h i hi
  have h2 := hc i hi
  have hm := (hl.1 i hi).2.2.2.2.2.2.1
  simp only [stAt, afterS]
  unfold cutB at h2
  generalize stAt l sc t i = s at *
  by_cases hx : (sc t).el i = 2
  · rw [show ((sc t).el i == 2) = true by simp [hx]] at h2 ⊢
    rw [cond_true] at h2
    simp only [cond_true, Bool.true_and, beq_iff_eq]
    have : ¬ s.served = (l.el i).service := fun hh => by rw [h1.2.2.2 hh] at h2; cases h2
    exact ⟨by omega, by omega, trivial⟩
  · rw [show ((sc t).el i == 2) = false by simp [hx]]
    simp only [cond_false, Bool.false_and, Bool.false_eq_true, false_iff]
    omega
theorem serv_0 {l : Sl Mach} (hl : PlantOk l) (sc : Nat → Sl Int) : ServOk l (stAt l sc 0) := by
  intro i hi
  have hm := (hl.1 i hi).2.2.2.2.2.2.1
  simp only [stAt, beginS, Bool.false_eq_true, false_iff]
  omega
theorem ref_play {l : Sl Mach} (hl : PlantOk l) (hs : Nat → Hour) (sc : Nat → Sl Int) : ∀ (j t : Nat) (lo hi n : Int), ServOk l (stAt l sc t) → refR l hs sc j t = ((playR l hs sc j t lo hi n).hour, (playR l hs sc j t lo hi n).rule, (playR l hs sc j t lo hi n).of)
  | 0, _, _, _, _, _ => rfl
  | j + 1, t, lo, hi, n, h => by
    have hg : faultG cutD l (stAt l sc t) (sc t) (hs t) = faultS l (stAt l sc t) (sc t) (hs t) := by
      rw [← faultG_B]
      refine faultG_congr fun i hi => ?_
      exact (cut_eq (hl.1 i hi).2.2.2.2.2.2.1.1 (h i hi) _).symm
    simp only [refR, playR]
    rw [hg]
    by_cases hr : (faultS l (stAt l sc t) (sc t) (hs t)).1 = 1
    · rw [if_neg (fun hh => hh hr), if_neg (fun hh => hh hr)]
      exact ref_play hl hs sc j (t + 1) _ _ _ (serv_next hl h fun i hi => ((fault_fine hr).1 i hi).2.2.1)
    · rw [if_pos hr, if_pos hr]
theorem ref_playS {l : Sl Mach} (hl : PlantOk l) (hs : Sl Hour) (sc : Sl (Sl Int)) : refR l hs.el sc.el hs.len 0 = ((playS l hs sc).hour, (playS l hs sc).rule, (playS l hs sc).of) :=
  ref_play hl hs.el sc.el hs.len 0 0 0 0 (serv_0 hl sc.el)
end Go.Sim.Pl


namespace Go.Sim.Pl
open Go.Proofs
def digG : Nat → Int → (Nat → Int) → Nat → Int
  | 0, _, g => g
  | j + 1, x, g => digG j (x.tdiv 3) (fun k => if k = j then x.tmod 3 else g k)
def digF (a : Int) (n : Nat) : Nat → Int := digG n a fun _ => 0
abbrev wayS (n : Nat) (a : Int) : Sl Int := ⟨false, n, digF a n⟩
variable (F d : Nat)
theorem l72 (a : Int) (n : Nat) (hn : n ≤ 1000) : ∀ (j fu : Nat) (x : Int) (g : Nat → Int), j ≤ n → j < fu → 0 ≤ x → x ≤ 1000000000 →
    L72x0 (E F d) F a n fu x ((j : Int) - 1) (fun k => eInt (g k)) = some (.ret (.row false n 1 (fun k => eInt (digG j x g k)))) := by
  intro j
  induction j with
  | zero =>
    intro fu x g h hf hx hx2
    obtain ⟨fu, rfl⟩ : ∃ k, fu = k + 1 := ⟨fu - 1, by omega⟩
    rw [L72x0s, decide_eq_false (by omega), pF, Int.toNat_natCast]
    rfl
  | succ j ih =>
    intro fu x g h hf hx hx2
    obtain ⟨fu, rfl⟩ : ∃ k, fu = k + 1 := ⟨fu - 1, by omega⟩
    have hd : x.tdiv 3 = x / 3 := Int.tdiv_eq_ediv_of_nonneg hx
    have e := ih fu (x.tdiv 3) (fun k => if k = j then x.tmod 3 else g k) (by omega) (by omega) (by rw [hd]; omega) (by rw [hd]; omega)
    rw [show (((j + 1 : Nat) : Int) - 1) = (j : Int) by omega]
    rw [L72x0s]
    have hw : IntKind.i64.wrap (x.tdiv 3) = x.tdiv 3 := wr (by rw [hd]; omega)
    have hw2 : IntKind.i64.wrap ((j : Int) - 1) = (j : Int) - 1 := wr (by omega)
    simp (disch := omega) only [decide_eq_true, decide_true, pT, Int.toNat_natCast, hw, hw2, upd_int]
    exact e
theorem s72 (a : Int) (n : Nat) (ha : 0 ≤ a ∧ a ≤ 1000000000) (hn : n ≤ 1000) (hF : 1000 < F) : (E F (d + 1)).pf 72 [.int .i64 a, .int .i64 n] = some (.ret (sl eInt 1 (wayS n a))) := by
  have e := l72 F d a n hn n F a (fun _ => 0) (by omega) (by omega) ha.1 ha.2
  rw [E_pf, t72]
  simp (disch := omega) only [decide_eq_true, decide_true, pT, wr]
  exact e
theorem s77 (w : Sl Int) (hn : w.nl = false) (h0 : 0 < w.len) (hB : w.len ≤ 1000) : (E F (d + 1)).pf 77 [sl eInt 1 w] = some (.ret (sl eInt 1 w)) := by
  rw [E_pf, t77, hn]
  simp (disch := omega) only [pF, decide_eq_true, pT, Nat.zero_add]
  rw [show (w.len == 0) = false by rw [beq_eq_false_iff_ne]; omega, pF]
  show _ = some (Out.ret (.row w.nl w.len 1 _))
  rw [hn]
  rfl
def capK (m : Mach) (s : Sta) (left : Int) : List V := [.bool s.runs, .int .i64 (min s.since (max m.up m.down)), .int .i64 (min s.left left), .int .i64 s.served, .bool s.complete]
def keyR (l : Sl Mach) (st : Nat → Sta) (left : Int) : Nat → Nat → List V
  | 0, _ => []
  | j + 1, i => (if i < l.len then capK (l.el i) (st i) left else [.bool false, .int .i64 0, .int .i64 0, .int .i64 0, .bool false]) ++ keyR l st left j (i + 1)
def keyS (l : Sl Mach) (st : Nat → Sta) (t left : Int) : V := .agg (.int .i64 t :: keyR l st left 6 0)
theorem s71 {l : Sl Mach} (hl : 1 ≤ l.len ∧ l.len ≤ 6) {st : Sl Sta} (hst : st.len = l.len) (t n : Nat) (ht : t ≤ n) (hn : n ≤ 1000) : (E F (d + 1)).pf 71 [.int .i64 t, sl eMach 10 l, sl eSta 5 st, .int .i64 n] = some (.ret (keyS l st.el t ((n : Int) - t))) := by
  have hw : IntKind.i64.wrap ((n : Int) - t) = (n : Int) - t := wr (by omega)
  have h01 : IntKind.i64.wrap ((0 : Int) + 1) = 1 := by rw [wr (by omega)]; rfl
  have h12 : IntKind.i64.wrap ((1 : Int) + 1) = 2 := by rw [wr (by omega)]; rfl
  have h23 : IntKind.i64.wrap ((2 : Int) + 1) = 3 := by rw [wr (by omega)]; rfl
  have h34 : IntKind.i64.wrap ((3 : Int) + 1) = 4 := by rw [wr (by omega)]; rfl
  have h45 : IntKind.i64.wrap ((4 : Int) + 1) = 5 := by rw [wr (by omega)]; rfl
  have h56 : IntKind.i64.wrap ((5 : Int) + 1) = 6 := by rw [wr (by omega)]; rfl
  have hmn : ∀ a b : Int, (if b < a then b else a) = min a b := mnE
  have hmx : ∀ a b : Int, (if a < b then b else a) = max a b := mxE
  rw [E_pf, t71]
  rw [hst]
  unfold keyS
  have h6 : l.len = 1 ∨ l.len = 2 ∨ l.len = 3 ∨ l.len = 4 ∨ l.len = 5 ∨ l.len = 6 := by omega
  rcases h6 with h | h | h | h | h | h <;> rw [h] <;> simp only [h01, h12, h23, h34, h45, h56, hw, hmn, hmx, keyR, h, capK] <;> simp
end Go.Sim.Pl


namespace Go.Sim.Pl
open Go.Proofs
structure Bst where
  energy : Int
  starts : Int
  way : Option Int
  right : Bool
def bYes : Bst := ⟨0, 0, none, true⟩
def bNo : Bst := ⟨0, 0, none, false⟩
def nextS (l : Sl Mach) (st : Nat → Sta) (w : Sl Int) : Nat → Sta := fun i => afterS (st i) (l.el i) (w.el i)
def addB (l : Sl Mach) (h : Hour) (st : Nat → Sta) (r : Bst) (a : Int) : Bst :=
  ⟨(hourE l (wayS l.len a) h).2 + startE l (wayS l.len a) st l.len + r.energy, startN (wayS l.len a) st l.len + r.starts, some a, true⟩
def takeB (o x : Bst) : Bst := if o.right = false ∨ x.energy < o.energy ∨ x.energy = o.energy ∧ x.starts < o.starts then x else o
def stepB (l : Sl Mach) (h : Hour) (st : Nat → Sta) (rest : (Nat → Sta) → Bst) (o : Bst) (a : Int) : Bst :=
  if (faultS l st (wayS l.len a) h).1 ≠ 1 then o
  else if (rest (nextS l st (wayS l.len a))).right = false then o
  else takeB o (addB l h st (rest (nextS l st (wayS l.len a))) a)
def waysB (l : Sl Mach) (h : Hour) (st : Nat → Sta) (rest : (Nat → Sta) → Bst) : Nat → Int → Bst → Bst
  | 0, _, o => o
  | j + 1, a, o => waysB l h st rest j (a + 1) (stepB l h st rest o a)
def bst (l : Sl Mach) (hs : Nat → Hour) : Nat → Nat → (Nat → Sta) → Bst
  | 0, _, _ => bYes
  | j + 1, t, st => waysB l (hs t) st (bst l hs j (t + 1)) (3 ^ l.len) 0 bNo
def StEq (l : Sl Mach) (left : Int) (st st' : Nat → Sta) : Prop := ∀ i, i < l.len → (st i).runs = (st' i).runs ∧ min (st i).since (max (l.el i).up (l.el i).down) = min (st' i).since (max (l.el i).up (l.el i).down) ∧ min (st i).left left = min (st' i).left left ∧ (st i).served = (st' i).served ∧ (st i).complete = (st' i).complete
theorem start_runs {l : Sl Mach} {w : Sl Int} {st st' : Nat → Sta} : ∀ n, (∀ i, i < n → (st i).runs = (st' i).runs) → startE l w st n = startE l w st' n ∧ startN w st n = startN w st' n
  | 0, _ => ⟨rfl, rfl⟩
  | n + 1, e => by
    have ih := start_runs (l := l) (w := w) n fun i hi => e i (by omega)
    have hb : startB w st n = startB w st' n := by unfold startB; rw [e n (by omega)]
    simp only [startE, startN]
    rw [ih.1, ih.2, hb]
    exact ⟨rfl, rfl⟩
theorem fault_eq {l : Sl Mach} {left : Int} (hleft : 1 ≤ left) {st st' : Nat → Sta} (e : StEq l left st st') (w : Sl Int) (h : Hour) : faultS l st w h = faultS l st' w h := by
  unfold faultS
  rw [firstP_congr (p := fun i => upB (l.el i) (st i) (w.el i)) (q := fun i => upB (l.el i) (st' i) (w.el i)) l.len 0 (fun k _ h2 => ?_)]
  rw [firstP_congr (p := fun i => downB (l.el i) (st i) (w.el i)) (q := fun i => downB (l.el i) (st' i) (w.el i)) l.len 0 (fun k _ h2 => ?_)]
  rw [firstP_congr (p := fun i => cutB (l.el i) (st i) (w.el i)) (q := fun i => cutB (l.el i) (st' i) (w.el i)) l.len 0 (fun k _ h2 => ?_)]
  rw [firstP_congr (p := fun i => wornB (l.el i) (st i) (w.el i)) (q := fun i => wornB (l.el i) (st' i) (w.el i)) l.len 0 (fun k _ h2 => ?_)]
  · have := e k (by omega)
    unfold wornB
    congr 1
    refine b2 ?_
    simp only [decide_eq_true_iff]
    omega
  · have := e k (by omega)
    unfold cutB
    rw [this.2.2.2.1, this.2.2.2.2]
  · have := e k (by omega)
    unfold downB
    rw [this.1]
    congr 2
    refine b2 ?_
    simp only [decide_eq_true_iff]
    omega
  · have := e k (by omega)
    unfold upB
    rw [this.1]
    congr 2
    refine b2 ?_
    simp only [decide_eq_true_iff]
    omega
theorem next_eq {l : Sl Mach} {left : Int} {st st' : Nat → Sta} (e : StEq l (left + 1) st st') (w : Sl Int) : StEq l left (nextS l st w) (nextS l st' w) := by
  intro i hi
  obtain ⟨h1, h2, h3, h4, h5⟩ := e i hi
  simp only [nextS, afterS]
  refine ⟨trivial, ?_, ?_, ?_, ?_⟩
  · rw [h1]
    cases (w.el i == 1) == (st' i).runs
    · rfl
    · simp only [cond_true]; omega
  · rw [h4]
    cases (w.el i == 2 && (st' i).served + 1 == (l.el i).service)
    · cases (w.el i == 1) <;> simp only [cond_true, cond_false] <;> omega
    · rfl
  · rw [h4]
  · rw [h4]
theorem ways_congr {l : Sl Mach} {h : Hour} {st st' : Nat → Sta} {rest rest' : (Nat → Sta) → Bst} (hs : ∀ o a, stepB l h st rest o a = stepB l h st' rest' o a) : ∀ j a o, waysB l h st rest j a o = waysB l h st' rest' j a o
  | 0, _, _ => rfl
  | j + 1, a, o => by
    simp only [waysB]
    rw [hs, ways_congr hs j]
theorem bst_eq {l : Sl Mach} (hs : Nat → Hour) : ∀ (j t : Nat) (st st' : Nat → Sta), StEq l j st st' → bst l hs j t st = bst l hs j t st'
  | 0, _, _, _, _ => rfl
  | j + 1, t, st, st', e => by
    simp only [bst]
    refine ways_congr (fun o a => ?_) _ _ _
    have hf := fault_eq (by omega) e (wayS l.len a) (hs t)
    have hn := next_eq (left := j) (by simpa using e) (wayS l.len a)
    have hr := bst_eq hs j (t + 1) _ _ hn
    have hst := start_runs (l := l) (w := wayS l.len a) l.len fun i hi => (e i hi).1
    unfold stepB addB
    rw [hf, hr, hst.1, hst.2]
theorem keysEq_app : ∀ (a a' : List V) (b b' : List V), a.length = a'.length → keysEq (a ++ b) (a' ++ b') = (keysEq a a' && keysEq b b')
  | [], [], _, _, _ => by simp [keysEq]
  | [], _ :: _, _, _, h => by simp at h
  | _ :: _, [], _, _, h => by simp at h
  | x :: a, y :: a', b, b', h => by
    have := keysEq_app a a' b b' (by simpa using h)
    simp only [List.cons_append, keysEq, this, Bool.and_assoc]
theorem keyR_eq {l : Sl Mach} {st st' : Nat → Sta} {left : Int} : ∀ j i, keysEq (keyR l st left j i) (keyR l st' left j i) = true → ∀ k, i ≤ k → k < i + j → k < l.len → (st k).runs = (st' k).runs ∧ min (st k).since (max (l.el k).up (l.el k).down) = min (st' k).since (max (l.el k).up (l.el k).down) ∧ min (st k).left left = min (st' k).left left ∧ (st k).served = (st' k).served ∧ (st k).complete = (st' k).complete
  | 0, i, _, k, h1, h2, _ => by omega
  | j + 1, i, h, k, h1, h2, h3 => by
    simp only [keyR] at h
    rw [keysEq_app _ _ _ _ (by split <;> rfl), Bool.and_eq_true] at h
    rcases Nat.eq_or_lt_of_le h1 with rfl | h4
    · have h5 := h.1
      rw [if_pos h3, if_pos h3] at h5
      simpa [capK, keysEq, keyEq1] using h5
    · exact keyR_eq j (i + 1) h.2 k (by omega) (by omega) h3
theorem keyS_eq {l : Sl Mach} (hl : l.len ≤ 6) {st st' : Nat → Sta} {t t' n : Nat} (ht : t ≤ n) (ht' : t' ≤ n) (h : keyEq (keyS l st t ((n : Int) - t)) (keyS l st' t' ((n : Int) - t')) = true) : t = t' ∧ StEq l ((n - t : Nat) : Int) st st' := by
  unfold keyS at h
  simp only [keyEq, keysEq, keyEq1, decide_true, Bool.true_and, Bool.and_eq_true, beq_iff_eq] at h
  have e : t = t' := by omega
  subst e
  refine ⟨rfl, fun i hi => ?_⟩
  have := keyR_eq 6 0 h.2 i (by omega) (by omega) hi
  rw [show ((n - t : Nat) : Int) = (n : Int) - t by omega]
  exact this
end Go.Sim.Pl


namespace Go.Sim.Pl
open Go.Proofs
def kr (l : Sl Mach) (st : Nat → Sta) (i : Nat) : Bool := bif decide (i < l.len) then (st i).runs else false
def ks (l : Sl Mach) (st : Nat → Sta) (i : Nat) : Int := bif decide (i < l.len) then min (st i).since (max (l.el i).up (l.el i).down) else 0
def kl (l : Sl Mach) (st : Nat → Sta) (left : Int) (i : Nat) : Int := bif decide (i < l.len) then min (st i).left left else 0
def kv (l : Sl Mach) (st : Nat → Sta) (i : Nat) : Int := bif decide (i < l.len) then (st i).served else 0
def kc (l : Sl Mach) (st : Nat → Sta) (i : Nat) : Bool := bif decide (i < l.len) then (st i).complete else false
theorem cell_eq (l : Sl Mach) (st : Nat → Sta) (left : Int) (i : Nat) : (if i < l.len then capK (l.el i) (st i) left else [.bool false, .int .i64 0, .int .i64 0, .int .i64 0, .bool false]) = [.bool (kr l st i), .int .i64 (ks l st i), .int .i64 (kl l st left i), .int .i64 (kv l st i), .bool (kc l st i)] := by
  unfold kr ks kl kv kc
  by_cases h : i < l.len
  · rw [if_pos h, decide_eq_true h]; rfl
  · rw [if_neg h, decide_eq_false h]; rfl
theorem keyS_flat (l : Sl Mach) (st : Nat → Sta) (t left : Int) : keyS l st t left = .agg [.int .i64 t, .bool (kr l st 0), .int .i64 (ks l st 0), .int .i64 (kl l st left 0), .int .i64 (kv l st 0), .bool (kc l st 0), .bool (kr l st 1), .int .i64 (ks l st 1), .int .i64 (kl l st left 1), .int .i64 (kv l st 1), .bool (kc l st 1), .bool (kr l st 2), .int .i64 (ks l st 2), .int .i64 (kl l st left 2), .int .i64 (kv l st 2), .bool (kc l st 2), .bool (kr l st 3), .int .i64 (ks l st 3), .int .i64 (kl l st left 3), .int .i64 (kv l st 3), .bool (kc l st 3), .bool (kr l st 4), .int .i64 (ks l st 4), .int .i64 (kl l st left 4), .int .i64 (kv l st 4), .bool (kc l st 4), .bool (kr l st 5), .int .i64 (ks l st 5), .int .i64 (kl l st left 5), .int .i64 (kv l st 5), .bool (kc l st 5)] := by
  unfold keyS
  simp only [keyR, cell_eq, List.cons_append, List.nil_append]
def StIn (l : Sl Mach) (t : Nat) (st : Nat → Sta) : Prop := ∀ i, i < l.len → (0 ≤ (st i).since ∧ (st i).since ≤ 1000 + t) ∧ (-t ≤ (st i).left ∧ (st i).left ≤ 1000) ∧ 0 ≤ (st i).served ∧ (st i).served ≤ t
theorem stIn_next {l : Sl Mach} (hl : PlantOk l) {t : Nat} {st : Nat → Sta} (h : StIn l t st) (w : Sl Int) : StIn l (t + 1) (nextS l st w) := by
  intro i hi
  have ih := h i hi
  have := (hl.1 i hi).2.2.2.2.2.2.2
  simp only [nextS, afterS]
  generalize st i = s at ih
  refine ⟨?_, ?_, ?_⟩
  · cases ((w.el i == 1) == s.runs) <;> simp only [cond_true, cond_false] <;> omega
  · cases (w.el i == 2 && s.served + 1 == (l.el i).service) <;> cases (w.el i == 1) <;> simp only [cond_true, cond_false] <;> omega
  · cases (w.el i == 2) <;> simp only [cond_true, cond_false] <;> omega
theorem cond_in {P : Int → Prop} {b : Prop} [Decidable b] {x : Int} (h1 : b → P x) (h2 : P 0) : P (bif decide b then x else 0) := by
  by_cases h : b
  · rw [decide_eq_true h]; exact h1 h
  · rw [decide_eq_false h]; exact h2
theorem ks_in {l : Sl Mach} (hl : PlantOk l) {t : Nat} {st : Nat → Sta} (h : StIn l t st) (ht : t ≤ 24) (i : Nat) : 0 ≤ ks l st i ∧ ks l st i ≤ 2000 := cond_in (P := fun x => 0 ≤ x ∧ x ≤ 2000) (fun hi => by have := h i hi; have := (hl.1 i hi).2.2.2.2; omega) (by omega)
theorem kl_in {l : Sl Mach} {t : Nat} {st : Nat → Sta} (h : StIn l t st) (ht : t ≤ 24) {left : Int} (hle : 0 ≤ left ∧ left ≤ 1000) (i : Nat) : -2000 ≤ kl l st left i ∧ kl l st left i ≤ 2000 := cond_in (P := fun x => -2000 ≤ x ∧ x ≤ 2000) (fun hi => by have := h i hi; omega) (by omega)
theorem kv_in {l : Sl Mach} {t : Nat} {st : Nat → Sta} (h : StIn l t st) (ht : t ≤ 24) (i : Nat) : 0 ≤ kv l st i ∧ kv l st i ≤ 2000 := cond_in (P := fun x => 0 ≤ x ∧ x ≤ 2000) (fun hi => by have := h i hi; omega) (by omega)
theorem i64xin {x : Int} (h : -2000 ≤ x ∧ x ≤ 2000) : ((decide ((-((2 : Int) ^ 63)) ≤ x)) && (decide (x ≤ (((2 : Int) ^ 63) - (1 : Int))))) = true := by
  have e : (2 : Int) ^ 63 = 9223372036854775808 := rfl
  rw [e, Bool.and_eq_true, decide_eq_true_iff, decide_eq_true_iff]
  omega
def wNl : Option Int → Bool | none => true | some _ => false
def wLn (l : Sl Mach) : Option Int → Nat | none => 0 | some _ => l.len
def wWd : Option Int → Nat | none => 0 | some _ => 1
def wG (l : Sl Mach) : Option Int → Nat → List V | none => fun _ => [] | some a => fun k => eInt (digF a l.len k)
def encB (l : Sl Mach) (b : Bst) : V := .agg [.int .i64 b.energy, .int .i64 b.starts, .row (wNl b.way) (wLn l b.way) (wWd b.way) (wG l b.way), .bool b.right]
abbrev ksB : List KS := [(Go.Sim.KS.int .i64), Go.Sim.KS.bool, (Go.Sim.KS.int .i64), (Go.Sim.KS.int .i64), (Go.Sim.KS.int .i64), Go.Sim.KS.bool, Go.Sim.KS.bool, (Go.Sim.KS.int .i64), (Go.Sim.KS.int .i64), (Go.Sim.KS.int .i64), Go.Sim.KS.bool, Go.Sim.KS.bool, (Go.Sim.KS.int .i64), (Go.Sim.KS.int .i64), (Go.Sim.KS.int .i64), Go.Sim.KS.bool, Go.Sim.KS.bool, (Go.Sim.KS.int .i64), (Go.Sim.KS.int .i64), (Go.Sim.KS.int .i64), Go.Sim.KS.bool, Go.Sim.KS.bool, (Go.Sim.KS.int .i64), (Go.Sim.KS.int .i64), (Go.Sim.KS.int .i64), Go.Sim.KS.bool, Go.Sim.KS.bool, (Go.Sim.KS.int .i64), (Go.Sim.KS.int .i64), (Go.Sim.KS.int .i64), Go.Sim.KS.bool]
abbrev HB (l : Sl Mach) (hs : Sl Hour) (ways : Int) (es : List (V × V)) : List Slot := [.box 56 [sl eHour 3 hs] true, .box 22 [sl eMach 10 l] true, .box 113 [.mapr 5] true, .box 3 [.int .i64 ways] true, .box 114 [.fn (.func 70) [] [.optr 0 0 0, .optr 1 0 0, .optr 2 0 0, .optr 3 0 0, .optr 4 0 0]] true, .mp true ksB es true]
noncomputable def LB (env : Env) (F : Nat) (t : Nat) (ways : Int) (st : Sl Sta) (l : Sl Mach) (hs : Sl Hour) (es0 : List (V × V)) (fu : Nat) (a : Int) (left : Int) (o : Bst) (es : List (V × V)) : Option (Out × List Slot) :=
  L70x0 env F t ways st l hs es0 fu a hs.nl hs.len 3 (fun u => eHour (hs.el u)) l.nl l.len 10 (fun u => eMach (l.el u)) .i64 t (kr l st.el 0) .i64 (ks l st.el 0) .i64 (kl l st.el left 0) .i64 (kv l st.el 0) (kc l st.el 0) (kr l st.el 1) .i64 (ks l st.el 1) .i64 (kl l st.el left 1) .i64 (kv l st.el 1) (kc l st.el 1) (kr l st.el 2) .i64 (ks l st.el 2) .i64 (kl l st.el left 2) .i64 (kv l st.el 2) (kc l st.el 2) (kr l st.el 3) .i64 (ks l st.el 3) .i64 (kl l st.el left 3) .i64 (kv l st.el 3) (kc l st.el 3) (kr l st.el 4) .i64 (ks l st.el 4) .i64 (kl l st.el left 4) .i64 (kv l st.el 4) (kc l st.el 4) (kr l st.el 5) .i64 (ks l st.el 5) .i64 (kl l st.el left 5) .i64 (kv l st.el 5) (kc l st.el 5) .i64 o.energy .i64 o.starts (wNl o.way) (wLn l o.way) (wWd o.way) (wG l o.way) o.right .i64 ways es
def EntOk (l : Sl Mach) (hs : Sl Hour) (es : List (V × V)) : Prop := ∀ p ∈ es, ∃ (t : Nat) (st : Nat → Sta), t ≤ hs.len ∧ p = (keyS l st t ((hs.len : Int) - t), encB l (bst l hs.el (hs.len - t) t st))
theorem mget_mem : ∀ (es : List (V × V)) (x v : V), mget es x = some v → ∃ k, (k, v) ∈ es ∧ keyEq k x = true
  | [], _, _, h => by simp [mget] at h
  | (k, u) :: r, x, v, h => by
    simp only [mget] at h
    cases hk : keyEq k x with
    | true => rw [hk, cond_true] at h; cases h; exact ⟨k, by simp, hk⟩
    | false =>
      rw [hk, cond_false] at h
      obtain ⟨k', h1, h2⟩ := mget_mem r x v h
      exact ⟨k', by simp [h1], h2⟩
theorem mput_mem : ∀ (es : List (V × V)) (x v : V), ∀ p ∈ mput es x v, p ∈ es ∨ p = (x, v) ∨ ∃ k u, (k, u) ∈ es ∧ keyEq k x = true ∧ p = (k, v)
  | [], x, v, p, h => by simp only [mput, List.mem_singleton] at h; exact .inr (.inl h)
  | (k, u) :: r, x, v, p, h => by
    simp only [mput] at h
    cases hk : keyEq k x with
    | true =>
      rw [hk, cond_true, List.mem_cons] at h
      rcases h with h | h
      · exact .inr (.inr ⟨k, u, by simp, hk, h⟩)
      · exact .inl (by simp [h])
    | false =>
      rw [hk, cond_false, List.mem_cons] at h
      rcases h with h | h
      · exact .inl (by simp [h])
      · rcases mput_mem r x v p h with h | h | ⟨k', u', h1, h2⟩
        · exact .inl (by simp [h])
        · exact .inr (.inl h)
        · exact .inr (.inr ⟨k', u', by simp [h1], h2⟩)
theorem mput_len : ∀ (es : List (V × V)) (x v : V), (mput es x v).length ≤ es.length + 1
  | [], _, _ => by simp [mput]
  | (k, u) :: r, x, v => by
    have := mput_len r x v
    simp only [mput]
    cases keyEq k x
    · rw [cond_false]; simp only [List.length_cons]; omega
    · rw [cond_true]; simp only [List.length_cons]; omega
theorem ent_get {l : Sl Mach} (hl : l.len ≤ 6) {hs : Sl Hour} {es : List (V × V)} (h : EntOk l hs es) {t : Nat} (ht : t ≤ hs.len) {st : Nat → Sta} {v : V} (hv : mget es (keyS l st t ((hs.len : Int) - t)) = some v) : v = encB l (bst l hs.el (hs.len - t) t st) := by
  obtain ⟨k, h1, h2⟩ := mget_mem _ _ _ hv
  obtain ⟨t', st', h3, h4⟩ := h _ h1
  cases h4
  obtain ⟨rfl, h5⟩ := keyS_eq hl h3 ht h2
  rw [bst_eq hs.el _ _ _ _ h5]
theorem ent_put {l : Sl Mach} (hl : l.len ≤ 6) {hs : Sl Hour} {es : List (V × V)} (h : EntOk l hs es) {t : Nat} (ht : t ≤ hs.len) {st : Nat → Sta} : EntOk l hs (mput es (keyS l st t ((hs.len : Int) - t)) (encB l (bst l hs.el (hs.len - t) t st))) := by
  intro p hp
  rcases mput_mem _ _ _ p hp with h1 | h1 | ⟨k, u, h1, h2, h3⟩
  · exact h p h1
  · exact ⟨t, st, ht, h1⟩
  · obtain ⟨t', st', h4, h5⟩ := h _ h1
    cases h5
    obtain ⟨rfl, h6⟩ := keyS_eq hl h4 ht h2
    refine ⟨t', st', h4, ?_⟩
    rw [h3, bst_eq hs.el _ _ _ _ h6]
def BIn (j : Nat) (b : Bst) : Prop := (0 ≤ b.energy ∧ b.energy ≤ 100000000000 * j) ∧ 0 ≤ b.starts ∧ b.starts ≤ 1000 * j
theorem take_in {j : Nat} {o x : Bst} (ho : BIn j o) (hx : BIn j x) : BIn j (takeB o x) := by
  unfold takeB; split <;> assumption
theorem add_in {l : Sl Mach} (hl : PlantOk l) {h : Hour} (hh : HourOk h) {j : Nat} {r : Bst} (hr : BIn j r) (st : Nat → Sta) (a : Int) : BIn (j + 1) (addB l h st r a) := by
  have hE := hourE_in hl (w := wayS l.len a) hh
  have hN := startE_in 2000 hl (st := ⟨false, l.len, st⟩) (w := wayS l.len a) (by omega) rfl rfl hh st l.len (by omega)
  have hl2 := hl.2
  obtain ⟨⟨h1, h2⟩, h3, h4⟩ := hr
  refine ⟨?_, ?_⟩
  · show 0 ≤ (hourE l (wayS l.len a) h).2 + startE l (wayS l.len a) st l.len + r.energy ∧ (hourE l (wayS l.len a) h).2 + startE l (wayS l.len a) st l.len + r.energy ≤ 100000000000 * ((j + 1 : Nat) : Int)
    omega
  · show 0 ≤ startN (wayS l.len a) st l.len + r.starts ∧ startN (wayS l.len a) st l.len + r.starts ≤ 1000 * ((j + 1 : Nat) : Int)
    omega
theorem step_in {l : Sl Mach} (hl : PlantOk l) {h : Hour} (hh : HourOk h) {j : Nat} {st : Nat → Sta} {rest : (Nat → Sta) → Bst} (hr : ∀ st, BIn j (rest st)) {o : Bst} (ho : BIn (j + 1) o) (a : Int) : BIn (j + 1) (stepB l h st rest o a) := by
  unfold stepB
  split
  · exact ho
  · split
    · exact ho
    · exact take_in ho (add_in hl hh (hr _) st a)
theorem ways_in {l : Sl Mach} (hl : PlantOk l) {h : Hour} (hh : HourOk h) {j : Nat} {st : Nat → Sta} {rest : (Nat → Sta) → Bst} (hr : ∀ st, BIn j (rest st)) : ∀ (k : Nat) (a : Int) (o : Bst), BIn (j + 1) o → BIn (j + 1) (waysB l h st rest k a o)
  | 0, _, _, ho => ho
  | k + 1, a, o, ho => ways_in hl hh hr k (a + 1) _ (step_in hl hh hr ho a)
theorem bst_in {l : Sl Mach} (hl : PlantOk l) {hs : Sl Hour} (hh : HoursOk hs) : ∀ (j t : Nat) (st : Nat → Sta), t + j ≤ hs.len → BIn j (bst l hs.el j t st)
  | 0, _, _, _ => ⟨by show (0 : Int) ≤ 0 ∧ (0 : Int) ≤ _; omega, by show (0 : Int) ≤ 0 ∧ (0 : Int) ≤ _; omega⟩
  | j + 1, t, st, h => by
    simp only [bst]
    exact ways_in hl (hh t (by omega)) (fun st => bst_in hl hh j (t + 1) st (by omega)) _ _ _ ⟨by show (0 : Int) ≤ 0 ∧ (0 : Int) ≤ _; omega, by show (0 : Int) ≤ 0 ∧ (0 : Int) ≤ _; omega⟩
end Go.Sim.Pl


namespace Go.Sim.Pl
open Go.Proofs
theorem samM5 : sameV 8 (.mapr 5) (.mapr 5) = true := by simp [sameV]
theorem samF : sameV 8 (.fn (.func 70) [] [(.optr 0 0 0), (.optr 1 0 0), (.optr 2 0 0), (.optr 3 0 0), (.optr 4 0 0)]) (.fn (.func 70) [] [(.optr 0 0 0), (.optr 1 0 0), (.optr 2 0 0), (.optr 3 0 0), (.optr 4 0 0)]) = true := by simp [sameV]
theorem ksS : ksEq ksB ksB = true := by simp [ksEq, ksB]
variable (F : Nat)
section
variable {l : Sl Mach} (hl : PlantOk l) {hs : Sl Hour} (hh : HoursOk hs) (h24 : hs.len ≤ 24) (hF : 1000 < F)
include hl hh h24 hF
def SearchOk (F D j C : Nat) (l : Sl Mach) (hs : Sl Hour) : Prop :=
  ∀ (t : Nat) (st : Sl Sta) (es : List (V × V)), t + j = hs.len → st.len = l.len → StIn l t st.el → EntOk l hs es → es.length + C < 1000000000000 →
    ∃ es', EntOk l hs es' ∧ es'.length ≤ es.length + C ∧ (E F D).hv 70 [.int .i64 t, sl eSta 5 st, .optr 0 0 0, .optr 1 0 0, .optr 2 0 0, .optr 3 0 0, .optr 4 0 0] (HB l hs (3 ^ l.len : Nat) es) = some (.ret (encB l (bst l hs.el j t st.el)), HB l hs (3 ^ l.len : Nat) es')
theorem l70x0 (e j C t : Nat) (htj : t + (j + 1) = hs.len) (S : SearchOk F (e + 10) j C l hs) (st : Sl Sta) (hst : st.len = l.len) (hin : StIn l t st.el) (es0 : List (V × V)) :
    ∀ (k fu a : Nat) (o : Bst) (es : List (V × V)), a + k = 3 ^ l.len → k < fu → BIn (j + 1) o → EntOk l hs es → es.length + k * C + 1 < 1000000000000 → waysB l (hs.el t) st.el (bst l hs.el j (t + 1)) k a o = bst l hs.el (j + 1) t st.el →
    ∃ es', EntOk l hs es' ∧ es'.length ≤ es.length + k * C + 1 ∧ LB (E F (e + 10)) F t (3 ^ l.len : Nat) st l hs es0 fu a ((hs.len : Int) - t) o es = some (.ret (encB l (bst l hs.el (j + 1) t st.el)), HB l hs (3 ^ l.len : Nat) es') := by
  have hl2 := hl.2
  have hho := hh t (by omega)
  have hpow : 3 ^ l.len ≤ 729 := Nat.le_trans (Nat.pow_le_pow_right (by omega) hl2.2) (by decide)
  intro k
  induction k with
  | zero =>
    intro fu a o es hak hf hB hE hlen hw
    obtain ⟨fu, rfl⟩ : ∃ k, fu = k + 1 := ⟨fu - 1, by omega⟩
    simp only [waysB] at hw
    have hbb := ent_put (by omega) hE (t := t) (by omega) (st := st.el)
    rw [show hs.len - t = j + 1 by omega, ← hw] at hbb
    refine ⟨mput es (keyS l st.el t ((hs.len : Int) - t)) (encB l o), hbb, ?_, ?_⟩
    · have := mput_len es (keyS l st.el t ((hs.len : Int) - t)) (encB l o)
      omega
    · have hk0 := fun i => i64xin (x := ks l st.el i) (by have := ks_in hl hin (by omega) i; omega)
      have hk1 := fun i => i64xin (kl_in hin (by omega) (left := (hs.len : Int) - t) (by omega) i)
      have hk2 := fun i => i64xin (x := kv l st.el i) (by have := kv_in hin (by omega) i; omega)
      have hk3 := i64xin (x := (t : Int)) (by omega)
      unfold LB
      rw [L70x0s, decide_eq_false (by omega), pF]
      simp only [hk0, hk1, hk2, hk3, decide_true, Bool.and_self, pT]
      rw [decide_eq_true (by omega), pT, ← hw, keyS_flat]
      rfl
  | succ k ih =>
    intro fu a o es hak hf hB hE hlen hw
    obtain ⟨fu, rfl⟩ : ∃ k, fu = k + 1 := ⟨fu - 1, by omega⟩
    have hS' : IntKind.i64.wrap ((a : Int) + 1) = ((a + 1 : Nat) : Int) := wrS (by omega)
    have hT' : IntKind.i64.wrap ((t : Int) + 1) = ((t + 1 : Nat) : Int) := wrS (by omega)
    have hkC : (k + 1) * C = k * C + C := Nat.succ_mul k C
    simp only [waysB] at hw
    rw [show ((a : Int) + 1) = ((a + 1 : Nat) : Int) by omega] at hw
    have q72 : (E F (e + 10)).pf 72 [.int .i64 a, .int .i64 l.len] = some (.ret (.row false l.len 1 (fun k => eInt (digF a l.len k)))) := s72 F (e + 9) a l.len (by omega) (by omega) hF
    have q73 : (E F (e + 10)).pf 73 [.rptr 1 6 (fun _ => [.row l.nl l.len 10 (fun u => eMach (l.el u)), sl eSta 5 st, .row false l.len 1 (fun k => eInt (digF a l.len k)), .int .i64 (hs.el t).flow, .int .i64 (hs.el t).ratio.lo, .int .i64 (hs.el t).ratio.hi]) 0 0] = some (.ret (.tup [.int .i64 (faultS l st.el (wayS l.len a) (hs.el t)).1, .int .i64 (faultS l st.el (wayS l.len a) (hs.el t)).2])) := s73 F (e + 5) (w := wayS l.len a) hl hF hst rfl hho
    have q74 : (E F (e + 10)).pf 74 [.rptr 1 6 (fun _ => [.row l.nl l.len 10 (fun u => eMach (l.el u)), sl eSta 5 st, .row false l.len 1 (fun k => eInt (digF a l.len k)), .int .i64 (hs.el t).flow, .int .i64 (hs.el t).ratio.lo, .int .i64 (hs.el t).ratio.hi]) 0 0] = some (.ret (.row false l.len 5 (fun j => eSta ((rowS (nextS l st.el (wayS l.len a)) l.len).el j)))) := s74 F (e + 8) (w := wayS l.len a) (h := hs.el t) (by omega) hF hst rfl (fun i hi => by
      have := hin i hi
      exact ⟨by omega, by omega, by omega⟩) (by omega)
    have q75 : (E F (e + 10)).pf 75 [.rptr 1 6 (fun _ => [.row l.nl l.len 10 (fun u => eMach (l.el u)), sl eSta 5 st, .row false l.len 1 (fun k => eInt (digF a l.len k)), .int .i64 (hs.el t).flow, .int .i64 (hs.el t).ratio.lo, .int .i64 (hs.el t).ratio.hi]) 0 0] = some (.ret (.tup [.agg [.int .i64 ((hourE l (wayS l.len a) (hs.el t)).1 + startE l (wayS l.len a) st.el l.len), .int .i64 ((hourE l (wayS l.len a) (hs.el t)).2 + startE l (wayS l.len a) st.el l.len)], .int .i64 (startN (wayS l.len a) st.el l.len)])) := s75 F e (w := wayS l.len a) hl hF hst rfl hho
    have hel : ∀ i, i < l.len → (rowS (nextS l st.el (wayS l.len a)) l.len).el i = nextS l st.el (wayS l.len a) i := fun i hi => rowT_el hi
    have hinN := stIn_next hl hin (wayS l.len a)
    obtain ⟨es1, hE1, hl1, q70⟩ := S (t + 1) (rowS (nextS l st.el (wayS l.len a)) l.len) es (by omega) rfl (fun i hi => by rw [hel i hi]; exact hinN i hi) hE (by omega)
    have hbe : bst l hs.el j (t + 1) (rowS (nextS l st.el (wayS l.len a)) l.len).el = bst l hs.el j (t + 1) (nextS l st.el (wayS l.len a)) := bst_eq hs.el j (t + 1) _ _ fun i hi => by rw [hel i hi]; exact ⟨rfl, rfl, rfl, rfl, rfl⟩
    rw [hbe] at q70
    have hBr := bst_in hl hh j (t + 1) (nextS l st.el (wayS l.len a)) (by omega)
    have hBx := add_in hl hho hBr st.el a
    have hBn := step_in hl hho (fun st => bst_in hl hh j (t + 1) st (by omega)) (st := st.el) hB a
    have e0 := ih fu (a + 1) o es (by omega) (by omega) hB hE (by omega)
    have e1 := ih fu (a + 1) o es1 (by omega) (by omega) hB hE1 (by omega)
    have e2 := ih fu (a + 1) (stepB l (hs.el t) st.el (bst l hs.el j (t + 1)) o a) es1 (by omega) (by omega) hBn hE1 (by omega) hw
    unfold stepB at hw e2 hBn
    generalize hrr : bst l hs.el j (t + 1) (nextS l st.el (wayS l.len a)) = rr at *
    unfold encB at q70
    unfold LB
    rw [L70x0s, decide_eq_true (by omega), pT]
    simp (disch := omega) only [q72, tkOut_ret, tkRow_r, beq_self_eq_true, pT, decide_eq_true, Int.toNat_natCast, List.take, List.length, show ((0 + 1 + 1 + 1 : Nat) == 3) = true from rfl, tkCons_c, tkInt_i, tkNil_n, q73, tkTup_t, decide_true]
    by_cases hfa : (faultS l st.el (wayS l.len a) (hs.el t)).1 = 1
    · rw [show ((faultS l st.el (wayS l.len a) (hs.el t)).1 != 1) = false by simp [hfa], pF]
      rw [if_neg (fun h => h hfa)] at hw e2 hBn
      have q70' : (E F (e + 10)).hv 70 [.int .i64 ((t + 1 : Nat) : Int), .row false l.len 5 (fun j => eSta ((rowS (nextS l st.el (wayS l.len a)) l.len).el j)), .optr 0 0 0, .optr 1 0 0, .optr 2 0 0, .optr 3 0 0, .optr 4 0 0] (HB l hs (3 ^ l.len : Nat) es) = _ := q70
      simp only [q74, tkOut_ret, tkRow_r, hT']
      simp only [q70', tkHv_h, tkAgg_a, tkCons_c, tkInt_i, tkRow_r, tkBool_b, tkNil_n, tkSCons_c, tkBox_b, Nat.beq_refl, beq_self_eq_true, Bool.and_self, pT, samM5, samF, tkMp_m, ksS, tkSNil_n]
      cases hrt : rr.right with
      | false =>
        rw [if_pos hrt] at hw
        obtain ⟨es', h1, h2, h3⟩ := e1 hw
        refine ⟨es', h1, by omega, ?_⟩
        rw [Bool.not_false, pT, hS']
        exact h3
      | true =>
        rw [if_neg (by rw [hrt]; simp)] at e2
        obtain ⟨es', h1, h2, h3⟩ := e2
        refine ⟨es', h1, by omega, ?_⟩
        rw [Bool.not_true, pF]
        obtain ⟨⟨hx1, hx2⟩, hx3, hx4⟩ := hBx
        simp only [addB] at hx1 hx2 hx3 hx4
        simp (disch := omega) only [q75, tkOut_ret, tkTup_t, tkCons_c, tkAgg_a, tkInt_i, tkNil_n, decide_true, pT, wr, hS']
        unfold takeB addB at h3
        cases hor : o.right with
        | false =>
          rw [if_pos (.inl hor)] at h3
          rw [Bool.not_false, pT]
          exact h3
        | true =>
          rw [Bool.not_true, pF]
          simp only [hor, Bool.true_eq_false, false_or] at h3
          by_cases h5 : (hourE l (wayS l.len a) (hs.el t)).2 + startE l (wayS l.len a) st.el l.len + rr.energy < o.energy
          · rw [if_pos (.inl h5)] at h3
            rw [decide_eq_true h5, pT]
            exact h3
          · rw [decide_eq_false h5, pF]
            by_cases h6 : (hourE l (wayS l.len a) (hs.el t)).2 + startE l (wayS l.len a) st.el l.len + rr.energy = o.energy
            · rw [show ((hourE l (wayS l.len a) (hs.el t)).2 + startE l (wayS l.len a) st.el l.len + rr.energy == o.energy) = true by simp [h6], pT]
              by_cases h7 : startN (wayS l.len a) st.el l.len + rr.starts < o.starts
              · rw [if_pos (.inr ⟨h6, h7⟩)] at h3
                rw [decide_eq_true h7, pT]
                exact h3
              · rw [if_neg (fun h => h.elim h5 fun h => h7 h.2)] at h3
                rw [decide_eq_false h7, pF, ← hor]
                exact h3
            · rw [if_neg (fun h => h.elim h5 fun h => h6 h.1)] at h3
              rw [show ((hourE l (wayS l.len a) (hs.el t)).2 + startE l (wayS l.len a) st.el l.len + rr.energy == o.energy) = false by simp [h6], pF, ← hor]
              exact h3
    · rw [if_pos hfa] at hw
      obtain ⟨es', h1, h2, h3⟩ := e0 hw
      refine ⟨es', h1, by omega, ?_⟩
      rw [show ((faultS l st.el (wayS l.len a) (hs.el t)).1 != 1) = true by simp [hfa], pT, hS']
      exact h3
end
end Go.Sim.Pl


namespace Go.Sim.Pl
open Go.Proofs
def cntS (W : Nat) : Nat → Nat
  | 0 => 0
  | j + 1 => W * cntS W j + 1
variable (F : Nat)
section
variable {l : Sl Mach} (hl : PlantOk l) {hs : Sl Hour} (hh : HoursOk hs) (h24 : hs.len ≤ 24) (hF : 1000 < F)
include hl hh h24 hF
theorem s70 : ∀ (j D : Nat), 11 + j ≤ D → SearchOk F D j (cntS (3 ^ l.len) j) l hs := by
  have hl2 := hl.2
  have hpow : 3 ^ l.len ≤ 729 := Nat.le_trans (Nat.pow_le_pow_right (by omega) hl2.2) (by decide)
  intro j
  induction j with
  | zero =>
    intro D hD t st es ht hst hin hE hlen
    obtain ⟨D, rfl⟩ : ∃ k, D = k + 1 := ⟨D - 1, by omega⟩
    refine ⟨es, hE, by simp [cntS], ?_⟩
    rw [E_hv, t70, show ((t : Int) == (hs.len : Int)) = true by simp; omega, pT]
    rfl
  | succ j ih =>
    intro D hD t st es ht hst hin hE hlen
    obtain ⟨e, rfl⟩ : ∃ e, D = e + 11 := ⟨D - 11, by omega⟩
    have S := ih (e + 10) (by omega)
    have q71 := s71 F (e + 9) (l := l) hl2 hst t hs.len (by omega) (by omega)
    have hk0 := fun i => i64xin (x := ks l st.el i) (by have := ks_in hl hin (by omega) i; omega)
    have hk1 := fun i => i64xin (kl_in hin (by omega) (left := (hs.len : Int) - t) (by omega) i)
    have hk2 := fun i => i64xin (x := kv l st.el i) (by have := kv_in hin (by omega) i; omega)
    have hk3 := i64xin (x := (t : Int)) (by omega)
    have hkf := keyS_flat l st.el t ((hs.len : Int) - t)
    rw [hkf] at q71
    have hgo := l70x0 F hl hh h24 hF e j (cntS (3 ^ l.len) j) t (by omega) S st hst hin es (3 ^ l.len) F 0 bNo es (by omega) (by omega) ⟨by show (0 : Int) ≤ 0 ∧ (0 : Int) ≤ _; omega, by show (0 : Int) ≤ 0 ∧ (0 : Int) ≤ _; omega⟩ hE (by simp only [cntS] at hlen; omega) rfl
    rw [E_hv, t70, show ((t : Int) == (hs.len : Int)) = false by rw [beq_eq_false_iff_ne]; omega, pF]
    simp only [q71, tkOut_ret, tkAgg_a, tkCons_c, tkInt_i, tkBool_b, tkNil_n, hk0, hk1, hk2, hk3, decide_true, Bool.and_self, pT]
    rw [← hkf]
    cases hm : mget es (keyS l st.el t ((hs.len : Int) - t)) with
    | some v =>
      have hv := ent_get (by omega) hE (by omega) hm
      rw [show hs.len - t = j + 1 by omega] at hv
      subst hv
      refine ⟨es, hE, by omega, ?_⟩
      rfl
    | none =>
      obtain ⟨es', h1, h2, h3⟩ := hgo
      refine ⟨es', h1, by simp only [cntS]; omega, ?_⟩
      rw [Int.natCast_zero] at h3
      unfold LB at h3
      simp only [bNo, wNl, wLn, wWd, wG] at h3
      simp only [tkOpt]
      exact h3
end
end Go.Sim.Pl


namespace Go.Sim.Pl
open Go.Proofs
theorem cntS_le {W : Nat} (hW : 1 ≤ W) : ∀ (i j : Nat), cntS W j ≤ cntS W (j + i)
  | 0, _ => Nat.le_refl _
  | i + 1, j => by
    have h1 := cntS_le hW i j
    have h2 : cntS W (j + (i + 1)) = W * cntS W (j + i) + 1 := rfl
    have h3 : 1 * cntS W (j + i) ≤ W * cntS W (j + i) := Nat.mul_le_mul_right _ hW
    omega
def Made (l : Sl Mach) (h : Hour) (st : Nat → Sta) (rest : (Nat → Sta) → Bst) (o : Bst) : Prop := o.right = true → ∃ a : Nat, a < 3 ^ l.len ∧ (faultS l st (wayS l.len a) h).1 = 1 ∧ (rest (nextS l st (wayS l.len a))).right = true ∧ o = addB l h st (rest (nextS l st (wayS l.len a))) a
theorem step_made {l : Sl Mach} {h : Hour} {st : Nat → Sta} {rest : (Nat → Sta) → Bst} {o : Bst} (ho : Made l h st rest o) {a : Nat} (ha : a < 3 ^ l.len) : Made l h st rest (stepB l h st rest o a) := by
  unfold stepB
  split
  · exact ho
  · rename_i h1
    split
    · exact ho
    · rename_i h2
      unfold takeB
      split
      · intro _
        exact ⟨a, ha, by omega, by simpa using h2, rfl⟩
      · exact ho
theorem ways_made {l : Sl Mach} {h : Hour} {st : Nat → Sta} {rest : (Nat → Sta) → Bst} : ∀ (k a : Nat) (o : Bst), a + k ≤ 3 ^ l.len → Made l h st rest o → Made l h st rest (waysB l h st rest k a o)
  | 0, _, _, _, ho => ho
  | k + 1, a, o, hk, ho => by
    simp only [waysB]
    rw [show ((a : Int) + 1) = ((a + 1 : Nat) : Int) by omega]
    exact ways_made k (a + 1) _ (by omega) (step_made ho (by omega))
theorem bst_made {l : Sl Mach} (hs : Nat → Hour) (j t : Nat) (st : Nat → Sta) : Made l (hs t) st (bst l hs j (t + 1)) (bst l hs (j + 1) t st) := by
  simp only [bst]
  have := ways_made (l := l) (h := hs t) (st := st) (rest := bst l hs j (t + 1)) (3 ^ l.len) 0 bNo (by omega) (fun h => by cases h)
  rw [Int.natCast_zero] at this
  exact this
def planW (l : Sl Mach) (hs : Nat → Hour) : Nat → Nat → (Nat → Sta) → List Int
  | 0, _, _ => []
  | j + 1, t, st => (bst l hs (j + 1) t st).way.getD 0 :: planW l hs j (t + 1) (nextS l st (wayS l.len ((bst l hs (j + 1) t st).way.getD 0)))
abbrev eW (l : Sl Mach) (a : Int) : List V := [sl eInt 1 (wayS l.len a)]
variable (F d : Nat)
section
variable {l : Sl Mach} (hl : PlantOk l) {hs : Sl Hour} (hh : HoursOk hs) (h24 : hs.len ≤ 24) (hF : 1000 < F) (hC : 30 * cntS (3 ^ l.len) hs.len < 1000000000000)
include hl hh h24 hF hC
theorem again {t j : Nat} (htj : t + (j + 1) = hs.len) {st : Nat → Sta} (hin : StIn l t st) {es : List (V × V)} (hE : EntOk l hs es) (hlen : es.length + cntS (3 ^ l.len) hs.len < 1000000000000) (hr : (bst l hs.el (j + 1) t st).right = true) :
    ∃ (es' : List (V × V)) (a : Nat), EntOk l hs es' ∧ es'.length ≤ es.length + cntS (3 ^ l.len) hs.len ∧ a < 3 ^ l.len ∧ (bst l hs.el (j + 1) t st).way = some (a : Int) ∧ (bst l hs.el j (t + 1) (nextS l st (wayS l.len a))).right = true ∧
    (E F (d + 40)).hv 70 [.int .i64 t, .row false l.len 5 (fun j => eSta ((rowS st l.len).el j)), .optr 0 0 0, .optr 1 0 0, .optr 2 0 0, .optr 3 0 0, .optr 4 0 0] (HB l hs (3 ^ l.len : Nat) es) = some (.ret (.agg [.int .i64 (bst l hs.el (j + 1) t st).energy, .int .i64 (bst l hs.el (j + 1) t st).starts, .row false l.len 1 (fun k => eInt (digF a l.len k)), .bool true]), HB l hs (3 ^ l.len : Nat) es') ∧
    (E F (d + 40)).pf 77 [.row false l.len 1 (fun k => eInt (digF a l.len k))] = some (.ret (.row false l.len 1 (fun k => eInt (digF a l.len k)))) ∧
    (E F (d + 40)).pf 74 [.rptr 1 6 (fun _ => [.row l.nl l.len 10 (fun u => eMach (l.el u)), .row false l.len 5 (fun j => eSta ((rowS st l.len).el j)), .row false l.len 1 (fun k => eInt (digF a l.len k)), .int .i64 (hs.el t).flow, .int .i64 (hs.el t).ratio.lo, .int .i64 (hs.el t).ratio.hi]) 0 0] = some (.ret (.row false l.len 5 (fun j => eSta ((rowS (nextS l st (wayS l.len a)) l.len).el j)))) := by
  have hl2 := hl.2
  have hmono := cntS_le (W := 3 ^ l.len) (Nat.one_le_pow _ _ (by omega)) t (j + 1)
  rw [show j + 1 + t = hs.len by omega] at hmono
  have hel : ∀ i, i < l.len → (rowS st l.len).el i = st i := fun i hi => rowT_el hi
  have hbe : bst l hs.el (j + 1) t (rowS st l.len).el = bst l hs.el (j + 1) t st := bst_eq hs.el (j + 1) t _ _ fun i hi => by rw [hel i hi]; exact ⟨rfl, rfl, rfl, rfl, rfl⟩
  obtain ⟨es', h1, h2, h3⟩ := s70 F hl hh h24 hF (j + 1) (d + 40) (by omega) t (rowS st l.len) es (by omega) rfl (fun i hi => by rw [hel i hi]; exact hin i hi) hE (by omega)
  rw [hbe] at h3
  obtain ⟨a, ha, hf, hr2, ho⟩ := bst_made hs.el j t st hr
  have hway : (bst l hs.el (j + 1) t st).way = some (a : Int) := by rw [ho]; rfl
  refine ⟨es', a, h1, by omega, ha, hway, hr2, ?_, ?_, ?_⟩
  · unfold encB at h3
    rw [hway, hr] at h3
    exact h3
  · exact s77 F (d + 39) (wayS l.len a) rfl (show 0 < l.len by omega) (show l.len ≤ 1000 by omega)
  · have q := s74 F (d + 38) (l := l) (st := rowS st l.len) (w := wayS l.len a) (h := hs.el t) (by omega) hF rfl rfl (fun i hi => by
      have := hin i hi
      rw [hel i hi]
      exact ⟨by omega, by omega, by omega⟩) (by omega)
    have hcg : rowS (fun i => afterS ((rowS st l.len).el i) (l.el i) ((wayS l.len (a : Int)).el i)) l.len = rowS (nextS l st (wayS l.len a)) l.len := rowT_congr fun i hi => by
      show afterS _ _ _ = afterS _ _ _
      rw [hel i hi]
    rw [hcg] at q
    exact q
theorem l41x2 (en stn : Int) (b1 : Bool) (k1 k2 : Nat) (g1 : Nat → List V) (b2 : Bool) : ∀ (j t fu : Nat) (st : Nat → Sta) (A : List Int) (es : List (V × V)), t + j = hs.len → j < fu → A.length = t → StIn l t st → EntOk l hs es → es.length + j * cntS (3 ^ l.len) hs.len < 1000000000000 → (bst l hs.el j t st).right = true →
    L41x2 (E F (d + 40)) F l hs fu false l.len 5 (fun j => eSta ((rowS st l.len).el j)) t hs.len t l.nl l.len 10 (fun u => eMach (l.el u)) hs.nl hs.len 3 (fun u => eHour (hs.el u)) .i64 en .i64 stn b1 k1 k2 g1 b2 t (gl (eW l) 0 A) .i64 (3 ^ l.len : Nat) es = some (.ret (.tup [.row false hs.len 1 (gl (eW l) 0 (A ++ planW l hs.el j t st)), .int .i64 en, .int .i64 0])) := by
  have hl2 := hl.2
  intro j
  induction j with
  | zero =>
    intro t fu st A es ht hf hA hin hE hlen hr
    obtain ⟨fu, rfl⟩ : ∃ k, fu = k + 1 := ⟨fu - 1, by omega⟩
    have : t = hs.len := by omega
    subst this
    rw [L41x2s, decide_eq_false (by omega), pF]
    simp only [planW, List.append_nil]
  | succ j ih =>
    intro t fu st A es ht hf hA hin hE hlen hr
    obtain ⟨fu, rfl⟩ : ∃ k, fu = k + 1 := ⟨fu - 1, by omega⟩
    have hmul : (j + 1) * cntS (3 ^ l.len) hs.len = j * cntS (3 ^ l.len) hs.len + cntS (3 ^ l.len) hs.len := Nat.succ_mul _ _
    obtain ⟨es', a, h1, h2, h3, h4, h5, q70, q77, q74⟩ := again F d hl hh h24 hF hC ht hin hE (by omega) hr
    have hS' : IntKind.i64.wrap ((t : Int) + 1) = ((t + 1 : Nat) : Int) := wrS (by omega)
    have e := ih (t + 1) fu (nextS l st (wayS l.len a)) (A ++ [(a : Int)]) es' (by omega) (by omega) (by simp; omega) (stIn_next hl hin _) h1 (by omega) h5
    rw [List.append_assoc, List.singleton_append, ← gl_snoc (e := eW l) (z := 0) (k := t) hA rfl] at e
    have hp : planW l hs.el (j + 1) t st = (a : Int) :: planW l hs.el j (t + 1) (nextS l st (wayS l.len a)) := by
      simp only [planW, h4, Option.getD]
    rw [hp, L41x2s, decide_eq_true (by omega), pT]
    simp only [q70, tkHv_h, tkAgg_a, tkCons_c, tkInt_i, tkRow_r, tkBool_b, tkNil_n, tkSCons_c, tkBox_b, Nat.beq_refl, beq_self_eq_true, Bool.and_self, pT, samM5, samF, tkMp_m, ksS, tkSNil_n]
    simp (disch := omega) only [q77, tkOut_ret, tkRow_r, decide_eq_true, pT, Int.toNat_natCast, List.take, List.length, show ((0 + 1 + 1 + 1 : Nat) == 3) = true from rfl, tkCons_c, tkInt_i, tkNil_n, q74, hS']
    exact e
end
end Go.Sim.Pl


namespace Go.Sim.Pl
open Go.Proofs
def beginF (l : Sl Mach) : Nat → Sta := fun i => beginS (l.el i)
def bestS (l : Sl Mach) (hs : Sl Hour) : Bst := bst l hs.el hs.len 0 (beginF l)
def planS (l : Sl Mach) (hs : Sl Hour) : List Int := planW l hs.el hs.len 0 (beginF l)
def outR (l : Sl Mach) (hs : Sl Hour) : V := if hs.len = 0 then .row true 0 0 (fun _ => []) else .row false hs.len 1 (gl (eW l) 0 (planS l hs))
theorem begin_in {l : Sl Mach} (hl : PlantOk l) : StIn l 0 (beginF l) := by
  intro i hi
  have := (hl.1 i hi).2.2.2.2.2.2.2
  simp only [beginF, beginS]
  omega
variable (F d : Nat)
section
variable {l : Sl Mach} (hl : PlantOk l) {hs : Sl Hour} (hh : HoursOk hs) (h24 : hs.len ≤ 24) (hF : 1000 < F) (hC : 30 * cntS (3 ^ l.len) hs.len < 1000000000000)
include hl hh h24 hF hC
theorem l41x1 (es : List (V × V)) (hE : EntOk l hs es) (hlen : es.length ≤ cntS (3 ^ l.len) hs.len) (en stn : Int) (b1 : Bool) (k1 k2 : Nat) (g1 : Nat → List V) (b2 : Bool) (hr : (bestS l hs).right = true) :
    L41x1 (E F (d + 40)) F l hs F false l.len 5 (fun j => eSta ((rowS (beginF l) l.len).el j)) hs.len l.nl l.len 10 (fun u => eMach (l.el u)) hs.nl hs.len 3 (fun u => eHour (hs.el u)) .i64 en .i64 stn b1 k1 k2 g1 b2 .i64 (3 ^ l.len : Nat) es = some (.ret (.tup [outR l hs, .int .i64 en, .int .i64 0])) := by
  have hl2 := hl.2
  unfold outR
  by_cases h0 : hs.len = 0
  · rw [if_pos h0]
    obtain ⟨F, rfl⟩ : ∃ k, F = k + 1 := ⟨F - 1, by omega⟩
    rw [L41x1s, decide_eq_false (by omega), pF]
  · rw [if_neg h0]
    obtain ⟨j, hj⟩ : ∃ j, hs.len = j + 1 := ⟨hs.len - 1, by omega⟩
    unfold bestS at hr
    unfold planS
    have hmul : (j + 1) * cntS (3 ^ l.len) hs.len ≤ 24 * cntS (3 ^ l.len) hs.len := Nat.mul_le_mul_right _ (by omega)
    have hmul2 : (j + 1) * cntS (3 ^ l.len) hs.len = j * cntS (3 ^ l.len) hs.len + cntS (3 ^ l.len) hs.len := Nat.succ_mul _ _
    obtain ⟨es', a, h1, h2, h3, h4, h5, q70, q77, q74⟩ := again F d hl hh h24 hF hC (t := 0) (j := j) (by omega) (begin_in hl) hE (by omega) (by rw [← hj]; exact hr)
    have hp : planW l hs.el hs.len 0 (beginF l) = (a : Int) :: planW l hs.el j 1 (nextS l (beginF l) (wayS l.len a)) := by
      rw [hj]
      simp only [planW, h4, Option.getD]
    have e := fun fu hfu => l41x2 F d hl hh h24 hF hC en stn b1 k1 k2 g1 b2 j 1 fu (nextS l (beginF l) (wayS l.len a)) [(a : Int)] es' (by omega) hfu rfl (stIn_next hl (begin_in hl) _) h1 (by omega) h5
    rw [← gl_one (e := eW l) (z := 0) rfl, List.singleton_append, ← hp] at e
    rw [Int.natCast_zero] at q70
    obtain ⟨F, rfl⟩ : ∃ k, F = k + 1 := ⟨F - 1, by omega⟩
    rw [L41x1s, decide_eq_true (by omega), pT]
    simp only [q70, tkHv_h, tkAgg_a, tkCons_c, tkInt_i, tkRow_r, tkBool_b, tkNil_n, tkSCons_c, tkBox_b, Nat.beq_refl, beq_self_eq_true, Bool.and_self, pT, samM5, samF, tkMp_m, ksS, tkSNil_n]
    have h01 : IntKind.i64.wrap ((0 : Int) + 1) = ((1 : Nat) : Int) := by rw [wr (by omega)]; rfl
    simp (disch := omega) only [q77, tkOut_ret, tkRow_r, decide_eq_true, pT, Int.toNat_natCast, List.take, List.length, show ((0 + 1 + 1 + 1 : Nat) == 3) = true from rfl, tkCons_c, tkInt_i, tkNil_n, q74, h01]
    exact e F (by omega)
theorem l41x0 : ∀ (j i fu : Nat), i + j = l.len → j < fu → L41x0 (E F (d + 40)) F l hs fu i ((3 ^ i : Nat) : Int) = some (.ret (.tup (if (bestS l hs).right = true then [outR l hs, .int .i64 (bestS l hs).energy, .int .i64 0] else [.row true 0 0 (fun _ => []), .int .i64 0, .int .i64 5]))) := by
  have hl2 := hl.2
  have hpow : ∀ i, i ≤ l.len → 3 ^ i ≤ 729 := fun i hi => Nat.le_trans (Nat.pow_le_pow_right (by omega) (Nat.le_trans hi hl2.2)) (by decide)
  intro j
  induction j with
  | zero =>
    intro i fu h hf
    obtain ⟨fu, rfl⟩ : ∃ k, fu = k + 1 := ⟨fu - 1, by omega⟩
    have hi : i = l.len := by omega
    subst hi
    have q76 : (E F (d + 40)).pf 76 [sl eMach 10 l] = some (.ret (.row false l.len 5 (fun j => eSta ((rowS (beginF l) l.len).el j)))) := s76 F (d + 38) l (by omega) hF (by omega)
    have hel : ∀ i, i < l.len → (rowS (beginF l) l.len).el i = beginF l i := fun i hi => rowT_el hi
    have hbe : bst l hs.el hs.len 0 (rowS (beginF l) l.len).el = bestS l hs := bst_eq hs.el hs.len 0 _ _ fun i hi => by rw [hel i hi]; exact ⟨rfl, rfl, rfl, rfl, rfl⟩
    obtain ⟨es', h1, h2, h3⟩ := s70 F hl hh h24 hF hs.len (d + 40) (by omega) 0 (rowS (beginF l) l.len) [] (by omega) rfl (fun i hi => by rw [hel i hi]; exact begin_in hl i hi) (fun p hp => by simp at hp) (by simp; omega)
    rw [hbe, Int.natCast_zero] at h3
    unfold encB at h3
    have q70 : (E F (d + 40)).hv 70 [.int .i64 0, .row false l.len 5 (fun j => eSta ((rowS (beginF l) l.len).el j)), .optr 0 0 0, .optr 1 0 0, .optr 2 0 0, .optr 3 0 0, .optr 4 0 0] (HB l hs (3 ^ l.len : Nat) []) = _ := h3
    have e := fun b1 k1 k2 g1 b2 en stn hr => l41x1 F d hl hh h24 hF hC es' h1 (by simpa using h2) en stn b1 k1 k2 g1 b2 hr
    rw [L41x0s, decide_eq_false (by omega), pF]
    simp only [q76, tkOut_ret, tkRow_r]
    simp only [q70, tkHv_h, tkAgg_a, tkCons_c, tkInt_i, tkRow_r, tkBool_b, tkNil_n, tkSCons_c, tkBox_b, Nat.beq_refl, beq_self_eq_true, Bool.and_self, pT, samM5, samF, tkMp_m, ksS, tkSNil_n]
    cases hr : (bestS l hs).right with
    | false => rw [Bool.not_false, pT, if_neg (by simp)]
    | true =>
      rw [Bool.not_true, pF, if_pos rfl]
      exact e _ _ _ _ _ _ _ hr
  | succ j ih =>
    intro i fu h hf
    obtain ⟨fu, rfl⟩ : ∃ k, fu = k + 1 := ⟨fu - 1, by omega⟩
    have hS' : IntKind.i64.wrap ((i : Int) + 1) = ((i + 1 : Nat) : Int) := wrS (by omega)
    have hp := hpow i (by omega)
    have hm : IntKind.i64.wrap (((3 ^ i : Nat) : Int) * 3) = ((3 ^ (i + 1) : Nat) : Int) := by
      rw [Nat.pow_succ]
      revert hp
      generalize 3 ^ i = p
      intro hp
      rw [wr (by omega)]; omega
    rw [L41x0s, decide_eq_true (by omega), pT, hS', hm]
    exact ih (i + 1) fu (by omega) (by omega)
end
theorem s41 (l : Sl Mach) (hs : Sl Hour) (hF : 1000 < F) (hB : InB l hs F) (hC : errA l hs = 0 → 30 * cntS (3 ^ l.len) hs.len < 1000000000000) : (E F (d + 41)).pf 41 [sl eMach 10 l, sl eHour 3 hs] = some (.ret (.tup (if errA l hs = 0 then (if (bestS l hs).right = true then [outR l hs, .int .i64 (bestS l hs).energy, .int .i64 0] else [.row true 0 0 (fun _ => []), .int .i64 0, .int .i64 5]) else [.row true 0 0 (fun _ => []), .int .i64 0, .int .i64 (errA l hs)]))) := by
  have q1 := s69 F (d + 32) l hs hB
  rw [E_pf, t41]
  simp only [q1, tkOut_ret, tkInt_i, decide_true, pT]
  by_cases h : errA l hs = 0
  · have h0 : PlantOk l ∧ HoursOk hs ∧ hs.len ≤ 24 := by
      unfold errA at h
      split at h
      · omega
      · rename_i h1
        split at h
        · rename_i h2; exact ⟨h2.1, h2.2, by omega⟩
        · omega
    have hl2 := h0.1.2
    have e := l41x0 F d h0.1 h0.2.1 h0.2.2 hF (hC h) l.len 0 F (by omega) (by omega)
    rw [if_pos h, h, show ((0 : Int) != 0) = false from rfl, pF]
    rw [Nat.pow_zero, Int.natCast_zero] at e
    exact e
  · rw [if_neg h, show (errA l hs != 0) = true by simp [h], pT]
end Go.Sim.Pl


namespace Go.Sim.Pl
open Go.Proofs
def exM0 : Mach := ⟨1, ⟨false, 2, fun j => if j = 0 then ⟨2000, 100, 400, 5⟩ else ⟨3000, 150, 300, 9⟩⟩, 1000, 2, 1, 3, 10, 1, false, 5⟩
def exM1 : Mach := ⟨1, ⟨false, 1, fun _ => ⟨3000, 50, 200, 6⟩⟩, 300, 1, 1, 10, 10, 2, true, 1⟩
def exL : Sl Mach := ⟨false, 2, fun i => if i = 0 then exM0 else exM1⟩
def exH : Sl Hour := ⟨false, 3, fun i => if i = 0 then ⟨150, ⟨1500, 2500⟩⟩ else if i = 1 then ⟨350, ⟨1500, 1800⟩⟩ else ⟨150, ⟨2500, 2500⟩⟩⟩
def exW (a b : Int) : Sl Int := ⟨false, 2, fun i => if i = 0 then a else b⟩
def exS (a b c : Sl Int) : Sl (Sl Int) := ⟨false, 3, fun i => if i = 0 then a else if i = 1 then b else c⟩
def exT : Nat → Bool := fun _ => true
theorem ex_plant : PlantOk exL := by decide +kernel
theorem ex_lacks : lacks exL exT 450 2500 = 0 := by decide +kernel
theorem ex_share : (shareS exL exT 450 2500).sh 0 = 250 ∧ (shareS exL exT 450 2500).sh 1 = 200 ∧ (shareS exL exT 450 2500).pr 0 = 9 ∧ (shareS exL exT 450 2500).pr 1 = 0 ∧ (shareS exL exT 450 2500).pr 2 = 0 ∧ sumL (shareS exL exT 450 2500).es = 3450 := by decide +kernel
theorem ex_fails : failsB exL exT 250 (ratL exL ⟨1500, 2500⟩) = false := by decide +kernel
theorem ex_weak : weakS exL exT 250 ⟨1500, 2500⟩ = 0 := by decide +kernel
theorem ex_fault : (playS exL exH (exS (exW 0 1) (exW 1 1) (exW 0 1))).hour = 2 ∧ (playS exL exH (exS (exW 0 1) (exW 1 1) (exW 0 1))).rule = 2 ∧ (playS exL exH (exS (exW 0 1) (exW 1 1) (exW 0 1))).of = 0 := by decide +kernel
theorem ex_cost : (playS exL exH (exS (exW 0 1) (exW 1 1) (exW 1 1))).rule = 1 ∧ (playS exL exH (exS (exW 0 1) (exW 1 1) (exW 1 1))).lo = 5350 ∧ (playS exL exH (exS (exW 0 1) (exW 1 1) (exW 1 1))).hi = 5350 ∧ (playS exL exH (exS (exW 0 1) (exW 1 1) (exW 1 1))).many = 1 := by decide +kernel
theorem ex_best : (bestS exL exH).right = true ∧ (bestS exL exH).energy = 5000 := by decide +kernel
theorem ex_plan : planS exL exH = [1, 3, 3] := by decide +kernel
end Go.Sim.Pl


namespace Go.Sim.Pl
open Go.Proofs
abbrev SameW (a b : Sl Int) : Prop := a.len = b.len ∧ ∀ k, k < a.len → a.el k = b.el k
abbrev SameSc (a b : Sl (Sl Int)) : Prop := a.len = b.len ∧ ∀ i, i < a.len → SameW (a.el i) (b.el i)
instance decSameW (a b : Sl Int) : Decidable (SameW a b) := @instDecidableAnd _ _ inferInstance (decAll (p := fun k => a.el k = b.el k) a.len)
instance decSameSc (a b : Sl (Sl Int)) : Decidable (SameSc a b) := @instDecidableAnd _ _ inferInstance (decAll (p := fun i => SameW (a.el i) (b.el i)) (h := fun i => decSameW (a.el i) (b.el i)) a.len)
variable (F d : Nat)
theorem l43x1 (a b : Sl (Sl Int)) (m0 i : Nat) (hi : i < a.len) (hab : a.len = b.len) (hw : (a.el i).len = (b.el i).len) (hB : (a.el i).len < Big) (R : Bool) (K : L43x0 (E F d) F a b m0 (IntKind.i64.wrap ((i : Int) + 1)) = some (.ret (.bool R))) : ∀ j k fu, k + j = (a.el i).len → j < fu →
    L43x1 (E F d) F a b m0 fu i k = some (.ret (.bool (allF (fun k => decide ((a.el i).el k = (b.el i).el k)) j k && R))) := by
  intro j
  induction j with
  | zero =>
    intro k fu h hf
    obtain ⟨fu, rfl⟩ : ∃ k, fu = k + 1 := ⟨fu - 1, by omega⟩
    rw [L43x1s]
    simp (disch := omega) only [decide_eq_true, pT, Int.toNat_natCast]
    rw [decide_eq_false (by omega), pF, K]; rfl
  | succ j ih =>
    intro k fu h hf
    obtain ⟨fu, rfl⟩ : ∃ k, fu = k + 1 := ⟨fu - 1, by omega⟩
    have hB' : (a.el i).len < 4611686018427387904 := hB
    have hS : IntKind.i64.wrap ((k : Int) + 1) = ((k + 1 : Nat) : Int) := wrS (by omega)
    rw [L43x1s]
    simp (disch := omega) only [decide_eq_true, pT, Int.toNat_natCast, hS, ih (k + 1) fu (by omega) (by omega), allF]
    by_cases h1 : (a.el i).el k = (b.el i).el k
    · rw [show ((a.el i).el k != (b.el i).el k) = false by simp [h1], pF, decide_eq_true h1, Bool.true_and]
    · rw [show ((a.el i).el k != (b.el i).el k) = true by simp [h1], pT, decide_eq_false h1]; rfl
theorem sameW_dec (a b : Sl Int) : decide (SameW a b) = (decide (a.len = b.len) && allF (fun k => decide (a.el k = b.el k)) a.len 0) := by
  refine b2 ?_
  rw [allF_dec]
  simp only [Bool.and_eq_true, decide_eq_true_iff]
theorem l43x0 (a b : Sl (Sl Int)) (hab : a.len = b.len) (hB : SchB a F) : ∀ j i fu, i + j = a.len → j < fu →
    L43x0 (E F d) F a b fu i = some (.ret (.bool (allF (fun i => decide (SameW (a.el i) (b.el i))) j i))) := by
  intro j
  induction j with
  | zero =>
    intro i fu h hf
    obtain ⟨fu, rfl⟩ : ∃ k, fu = k + 1 := ⟨fu - 1, by omega⟩
    rw [L43x0s, decide_eq_false (by omega), pF]; rfl
  | succ j ih =>
    intro i fu h hf
    obtain ⟨fu, rfl⟩ : ∃ k, fu = k + 1 := ⟨fu - 1, by omega⟩
    have hB' : a.len < 4611686018427387904 := hB.1.1
    have hS2 : IntKind.i64.wrap ((i : Int) + 1) = ((i + 1 : Nat) : Int) := wrS (by omega)
    have hb := hB.2 i (by omega)
    rw [L43x0s]
    simp (disch := omega) only [decide_eq_true, pT, Int.toNat_natCast, allF, sameW_dec]
    by_cases h1 : (a.el i).len = (b.el i).len
    · rw [show (((a.el i).len : Int) != ((b.el i).len : Int)) = false by simp [h1], pF, decide_eq_true h1, Bool.true_and]
      refine l43x1 F d a b fu i (by omega) hab h1 hb.1 _ ?_ (a.el i).len 0 F (by omega) hb.2
      rw [hS2]
      have e := ih (i + 1) fu (by omega) (by omega)
      simp only [sameW_dec] at e
      exact e
    · rw [show (((a.el i).len : Int) != ((b.el i).len : Int)) = true by simp; omega, pT, decide_eq_false h1]; rfl
theorem s43 (a b : Sl (Sl Int)) (hB : SchB a F) : (E F (d + 1)).pf 43 [sl eIL 1 a, sl eIL 1 b] = some (.ret (.bool (decide (SameSc a b)))) := by
  rw [E_pf, t43]
  by_cases h : a.len = b.len
  · rw [show (((a.len : Nat) : Int) != ((b.len : Nat) : Int)) = false by simp [h], pF]
    refine Eq.trans (l43x0 F d a b h hB a.len 0 F (by omega) hB.1.2) (b3 (b2 ?_))
    rw [allF_dec]
    simp only [decide_eq_true_iff]
    exact ⟨fun hh => ⟨h, hh⟩, fun hh => hh.2⟩
  · rw [show (((a.len : Nat) : Int) != ((b.len : Nat) : Int)) = true by simp; omega, pT, decide_eq_false (fun hh => h hh.1)]
theorem row2 {a b : List V} {g : Nat → List V} {L : List V} {w : Nat} (h0 : List.take w (List.drop (0 * w) L) = a) (h1 : List.take w (List.drop (1 * w) L) = b) (hg0 : g 0 = a) (hg1 : ∀ n, g (n + 1) = b) : (fun u => List.take w (List.drop (Min.min u 1 * w) L)) = g := by
  funext u
  cases u with
  | zero => rw [hg0]; exact h0
  | succ n => rw [hg1, show Min.min (n + 1) 1 = 1 by omega]; exact h1
theorem row3 {a b c : List V} {g : Nat → List V} {L : List V} {w : Nat} (h0 : List.take w (List.drop (0 * w) L) = a) (h1 : List.take w (List.drop (1 * w) L) = b) (h2 : List.take w (List.drop (2 * w) L) = c) (hg0 : g 0 = a) (hg1 : g 1 = b) (hg2 : ∀ n, g (n + 2) = c) : (fun u => List.take w (List.drop (Min.min u 2 * w) L)) = g := by
  funext u
  match u with
  | 0 => rw [hg0]; exact h0
  | 1 => rw [hg1]; exact h1
  | n + 2 => rw [hg2, show Min.min (n + 2) 2 = 2 by omega]; exact h2
theorem q49 : (E F (d + 1)).pf 49 [] = some (.ret (sl eMach 10 exL)) := by
  rw [E_pf, t49]
  have hin : (fun u => List.take 4 (List.drop (Min.min u 1 * 4) [V.int .i64 2000, .int .i64 100, .int .i64 400, .int .i64 5, .int .i64 3000, .int .i64 150, .int .i64 300, .int .i64 9])) = fun u => eRow (exM0.rows.el u) := row2 rfl rfl rfl (fun n => rfl)
  rw [hin]
  refine congrArg (fun g => some (Out.ret (V.row false 2 10 g))) (row2 rfl rfl rfl (fun n => rfl))
theorem q50 : (E F (d + 1)).pf 50 [] = some (.ret (sl eHour 3 exH)) := by
  rw [E_pf, t50]
  refine congrArg (fun g => some (Out.ret (V.row false 3 3 g))) (row3 rfl rfl rfl rfl rfl (fun n => rfl))
theorem rT : (V.row false 2 1 (fun u7 => (List.take 1 (List.drop ((Min.min u7 1) * 1) [(.bool true), (.bool true)])))) = sl eBool 1 ⟨false, 2, exT⟩ :=
  congrArg (fun g => V.row false 2 1 g) (row2 rfl rfl rfl (fun n => rfl))
theorem rW (a b : Int) : (V.row false 2 1 (fun u => (List.take 1 (List.drop ((Min.min u 1) * 1) [(.int .i64 a), (.int .i64 b)])))) = sl eInt 1 (exW a b) :=
  congrArg (fun g => V.row false 2 1 g) (row2 rfl rfl rfl (fun n => rfl))
theorem rW3 (a b c : Int) : (V.row false 3 1 (fun u => (List.take 1 (List.drop ((Min.min u 2) * 1) [(.int .i64 a), (.int .i64 b), (.int .i64 c)])))) = sl eInt 1 ⟨false, 3, fun i => if i = 0 then a else if i = 1 then b else c⟩ :=
  congrArg (fun g => V.row false 3 1 g) (row3 rfl rfl rfl rfl rfl (fun n => rfl))
theorem rS (a b c : Sl Int) : (V.row false 3 1 (fun u => (List.take 1 (List.drop ((Min.min u 2) * 1) [sl eInt 1 a, sl eInt 1 b, sl eInt 1 c])))) = sl eIL 1 (exS a b c) :=
  congrArg (fun g => V.row false 3 1 g) (row3 rfl rfl rfl rfl rfl (fun n => rfl))
end Go.Sim.Pl


namespace Go.Sim.Pl
open Go.Proofs
def exO : Sl (Sl Int) := ⟨false, 3, fun j => wayS 2 (([1, 3, 3] : List Int).getD j (([1, 3, 3] : List Int).getLastD 0))⟩
theorem ex_out : outR exL exH = sl eIL 1 exO := by
  unfold outR
  rw [if_neg (by decide), ex_plan]
  rfl
theorem ex_rows {F : Nat} (hF : 2000 < F) : RowsB exL F := by
  intro i hi
  have h2 : i = 0 ∨ i = 1 := by
    have : i < 2 := hi
    omega
  rcases h2 with rfl | rfl
  · exact ⟨by decide, show 2 < F by omega⟩
  · exact ⟨by decide, show 1 < F by omega⟩
theorem ex_inB {F : Nat} (hF : 2000 < F) : InB exL exH F := ⟨⟨by decide, show 2 < F by omega⟩, ex_rows hF, by decide, show 3 < F by omega⟩
theorem ex_schB {F : Nat} (hF : 2000 < F) (a b c : Sl Int) (ha : a.len = 2) (hb : b.len = 2) (hc : c.len = 2) : SchB (exS a b c) F := by
  refine ⟨⟨show 3 < Big by decide, show 3 < F by omega⟩, fun i hi => ?_⟩
  have h2 : i = 0 ∨ i = 1 ∨ i = 2 := by
    have : i < 3 := hi
    omega
  rcases h2 with rfl | rfl | rfl
  · show a.len < Big ∧ a.len < F; rw [ha]; exact ⟨by decide, by omega⟩
  · show b.len < Big ∧ b.len < F; rw [hb]; exact ⟨by decide, by omega⟩
  · show c.len < Big ∧ c.len < F; rw [hc]; exact ⟨by decide, by omega⟩
theorem ex_err1 : errS exL exH (exS (exW 0 1) (exW 1 1) (exW 0 1)) = 0 := by decide +kernel
theorem ex_err2 : errS exL exH (exS (exW 0 1) (exW 1 1) (exW 1 1)) = 0 := by decide +kernel
theorem ex_errA : errA exL exH = 0 := by decide +kernel
theorem ex_cnt : 30 * cntS (3 ^ exL.len) exH.len < 1000000000000 := by decide +kernel
theorem ex_same : SameSc exO (exS (exW 0 1) (exW 1 0) (exW 1 0)) := by decide +kernel
theorem ex_run (f : Int) (hf : FlowOk f) : RunOk exL ⟨false, 2, exT⟩ f := ⟨ex_plant, rfl, hf⟩
variable (F d : Nat)
theorem s16 (hF : 2000 < F) : (E F (d + 42)).pf 16 [] = some (.ret (.bool true)) := by
  have a17 := s17xok F (d + 31) (ex_run 450 (by decide)) hF (x := 2500) (by decide) ex_lacks
  have a26 := s26xok F (d + 32) (ex_run 250 (by decide)) hF (s := ⟨1500, 2500⟩) (by decide) rfl
  have a32 := s32 F (d + 29) exL exH (exS (exW 0 1) (exW 1 1) (exW 0 1)) (by omega) (ex_inB hF) (ex_schB hF _ _ _ rfl rfl rfl)
  have a37 := s37 F (d + 29) exL exH (exS (exW 0 1) (exW 1 1) (exW 1 1)) (by omega) (ex_inB hF) (ex_schB hF _ _ _ rfl rfl rfl)
  have a41 := s41 F d exL exH (by omega) (ex_inB hF) (fun _ => ex_cnt)
  rw [if_neg (by rw [ex_fails]; simp), ex_weak] at a26
  rw [if_pos ex_err1, ex_fault.1, ex_fault.2.1, ex_fault.2.2] at a32
  rw [if_pos ex_err2, if_pos ex_cost.1, ex_cost.2.1, ex_cost.2.2.1, ex_cost.2.2.2] at a37
  rw [if_pos ex_errA, if_pos ex_best.1, ex_best.2, ex_out] at a41
  rw [ex_share.2.2.2.2.2] at a17
  have b1 : (E F (d + 41)).pf 21 [.row false exL.len 1 (fun i => eInt ((shareS exL exT 450 2500).sh i)), sl eInt 1 (exW 250 200)] = some (.ret (.bool true)) := by
    have := s21 F (d + 40) ⟨false, exL.len, (shareS exL exT 450 2500).sh⟩ (exW 250 200) (show 2 < Big by decide) (show 2 < F by omega)
    rw [decide_eq_true ⟨rfl, fun i hi => by
      have h2 : i = 0 ∨ i = 1 := by
        have : i < 2 := hi
        omega
      rcases h2 with rfl | rfl
      · exact ex_share.1
      · exact ex_share.2.1⟩] at this
    exact this
  have b2 : (E F (d + 41)).pf 21 [.row false 3 1 (fun i => eInt ((shareS exL exT 450 2500).pr i)), sl eInt 1 ⟨false, 3, fun i => if i = 0 then 9 else if i = 1 then 0 else 0⟩] = some (.ret (.bool true)) := by
    have := s21 F (d + 40) ⟨false, 3, (shareS exL exT 450 2500).pr⟩ ⟨false, 3, fun i => if i = 0 then 9 else if i = 1 then 0 else 0⟩ (show 3 < Big by decide) (show 3 < F by omega)
    rw [decide_eq_true ⟨rfl, fun i hi => by
      have h2 : i = 0 ∨ i = 1 ∨ i = 2 := by
        have : i < 3 := hi
        omega
      rcases h2 with rfl | rfl | rfl
      · exact ex_share.2.2.1
      · exact ex_share.2.2.2.1
      · exact ex_share.2.2.2.2.1⟩] at this
    exact this
  have b3 := s43 F (d + 40) exO (exS (exW 0 1) (exW 1 0) (exW 1 0)) (by
    refine ⟨⟨show 3 < Big by decide, show 3 < F by omega⟩, fun i hi => ⟨show 2 < Big by decide, show 2 < F by omega⟩⟩)
  rw [decide_eq_true ex_same] at b3
  simp only [eSpan] at a26
  rw [E_pf, t16]
  simp only [rT, rW, rW3, rS, q49 F (d + 40), q50 F (d + 40), a17, a26, a32, a37, a41, tkOut_ret, tkRow_r, tkTup_t, tkCons_c, tkInt_i, tkNil_n, tkAgg_a, decide_true, pT]
  simp only [b1, b2, b3, tkOut_ret, tkBool_b, pT, pF, show ((0 : Int) != 0) = false from rfl, beq_self_eq_true, Bool.and_self]
end Go.Sim.Pl
