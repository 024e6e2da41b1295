import Derived.Test.YtmjmhccjkmjahaaGreatAg
set_option linter.unusedVariables false
set_option linter.unusedSimpArgs false
set_option linter.unusedSectionVars false

namespace Go.Sim.Cr
open Go.Proofs
variable (F d : Nat)
def faultR (n : Int) (is : Mark → Bool) : List (Int × List Mark) → Option Fault
 | [] => none
 | (k, ms) :: r => match ms.find? is with | some m => some ⟨n, k, m.at_, m.wth⟩ | none => faultR n is r
abbrev eFaultB (f : Option Fault) : V := match f with | some f => .tup [.agg (eFault f), .bool true] | none => .tup [.agg (eFault ⟨0, 1, 0, 0⟩), .bool false]
theorem gl_at {ms : List Mark} {j : Nat} {m : Mark} (h : ms.getD j (ms.getLastD zMark) = m) : gl eMark zMark ms j = eMark m := by unfold gl; rw [h]
theorem ne_of_lt {ms : List Mark} {j : Nat} (h : j < ms.length) : ms.isEmpty = false := by cases ms with | nil => simp at h | cons => rfl
theorem neg1 : decide ((-1 : Int) ≥ 0) = false := rfl
theorem fR_some {n k : Int} {is : Mark → Bool} {ms : List Mark} {m : Mark} {r : List (Int × List Mark)} (h : ms.find? is = some m) : faultR n is ((k, ms) :: r) = some ⟨n, k, m.at_, m.wth⟩ := by rw [faultR, h]
theorem fR_none {n k : Int} {is : Mark → Bool} {ms : List Mark} {r : List (Int × List Mark)} (h : ms.find? is = none) : faultR n is ((k, ms) :: r) = faultR n is r := by rw [faultR, h]
theorem k0 : IntKind.i64.wrap (2 + 0) = 2 := by rw [wr (by omega)]; rfl
theorem k1 : IntKind.i64.wrap (2 + IntKind.i64.wrap (0 + 1)) = 3 := by rw [wr (n := 0 + 1) (by omega), wr (by omega)]; rfl
theorem k2 : IntKind.i64.wrap (2 + IntKind.i64.wrap (IntKind.i64.wrap (0 + 1) + 1)) = 4 := by rw [wr (n := 0 + 1) (by omega), wr (n := 0 + 1 + 1) (by omega), wr (by omega)]; rfl
theorem k3 : IntKind.i64.wrap (2 + IntKind.i64.wrap (IntKind.i64.wrap (IntKind.i64.wrap (0 + 1) + 1) + 1)) = 5 := by rw [wr (n := 0 + 1) (by omega), wr (n := 0 + 1 + 1) (by omega), wr (n := 0 + 1 + 1 + 1) (by omega), wr (by omega)]; rfl
theorem k4 : IntKind.i64.wrap (2 + IntKind.i64.wrap (IntKind.i64.wrap (IntKind.i64.wrap (IntKind.i64.wrap (0 + 1) + 1) + 1) + 1)) = 6 := by rw [wr (n := 0 + 1) (by omega), wr (n := 0 + 1 + 1) (by omega), wr (n := 0 + 1 + 1 + 1) (by omega), wr (n := 0 + 1 + 1 + 1 + 1) (by omega), wr (by omega)]; rfl
theorem k5 : IntKind.i64.wrap (2 + IntKind.i64.wrap (IntKind.i64.wrap (IntKind.i64.wrap (IntKind.i64.wrap (IntKind.i64.wrap (0 + 1) + 1) + 1) + 1) + 1)) = 7 := by
 rw [wr (n := 0 + 1) (by omega), wr (n := 0 + 1 + 1) (by omega), wr (n := 0 + 1 + 1 + 1) (by omega), wr (n := 0 + 1 + 1 + 1 + 1) (by omega), wr (n := 0 + 1 + 1 + 1 + 1 + 1) (by omega), wr (by omega)]; rfl
theorem s65a (s : Site) (y : Day) (B C : V) (n : Int) (f0 f1 f2 f3 f4 f5 : List Mark) (h0 : f0.length ≤ 100) (h1 : f1.length ≤ 100) (h2 : f2.length ≤ 100) (h3 : f3.length ≤ 100) (h4 : f4.length ≤ 100) (h5 : f5.length ≤ 100) (hF : 200 < F)
  (r0 : (E F (d + 2)).pf 68 [pTod s y B C] = some (.ret (rowM f0)))
  (r1 : (E F (d + 2)).pf 69 [pTod s y B C] = some (.ret (rowM f1)))
  (r2 : (E F (d + 2)).pf 70 [pTod s y B C] = some (.ret (rowM f2)))
  (r3 : (E F (d + 2)).pf 71 [pTod s y B C] = some (.ret (rowM f3)))
  (r4 : (E F (d + 2)).pf 72 [pTod s y B C] = some (.ret (rowM f4)))
  (r5 : (E F (d + 2)).pf 73 [pTod s y B C] = some (.ret (rowM f5)))
  : (E F (d + 3)).pf 35 [pTod s y B C, .int .i64 n, .fn (.func 48) [] []] = some (.ret (eFaultB (faultR n Mark.possible [(2, f0), (3, f1), (4, f2), (5, f3), (6, f4), (7, f5)]))) := by
 obtain ⟨F, rfl⟩ : ∃ k, F = k + 7 := ⟨F - 7, by omega⟩
 rw [E_pf, t651]
 simp only [r0, tkOut_ret, tkRow_r, s102a (F + 7) d f0 (show f0.length < 4611686018427387904 by omega) (by omega), tkInt_i, decide_true, cond_true]
 rcases ixM_find Mark.possible f0 with ⟨e0, x0⟩ | ⟨j, m, e0, x0, y0, z0⟩
 rotate_left
 ·simp only [x0, ne_of_lt y0, cond_false, gl_at z0, fR_some e0, k0, decide_true, cond_true, Int.natCast_nonneg, ge_iff_le, beq_self_eq_true, Int.ofNat_lt, y0, Int.toNat_natCast, tkCons_c, tkInt_i, List.drop]
 simp only [x0, neg1, cond_false]
 simp only [r1, tkOut_ret, tkRow_r, s102a (F + 7) d f1 (show f1.length < 4611686018427387904 by omega) (by omega), tkInt_i, decide_true, cond_true]
 rcases ixM_find Mark.possible f1 with ⟨e1, x1⟩ | ⟨j, m, e1, x1, y1, z1⟩
 rotate_left
 ·simp only [x1, ne_of_lt y1, cond_false, gl_at z1, fR_some e1, fR_none e0, k1, decide_true, cond_true, Int.natCast_nonneg, ge_iff_le, beq_self_eq_true, Int.ofNat_lt, y1, Int.toNat_natCast, tkCons_c, tkInt_i, List.drop]
 simp only [x1, neg1, cond_false]
 simp only [r2, tkOut_ret, tkRow_r, s102a (F + 7) d f2 (show f2.length < 4611686018427387904 by omega) (by omega), tkInt_i, decide_true, cond_true]
 rcases ixM_find Mark.possible f2 with ⟨e2, x2⟩ | ⟨j, m, e2, x2, y2, z2⟩
 rotate_left
 ·simp only [x2, ne_of_lt y2, cond_false, gl_at z2, fR_some e2, fR_none e0, fR_none e1, k2, decide_true, cond_true, Int.natCast_nonneg, ge_iff_le, beq_self_eq_true, Int.ofNat_lt, y2, Int.toNat_natCast, tkCons_c, tkInt_i, List.drop]
 simp only [x2, neg1, cond_false]
 simp only [r3, tkOut_ret, tkRow_r, s102a (F + 7) d f3 (show f3.length < 4611686018427387904 by omega) (by omega), tkInt_i, decide_true, cond_true]
 rcases ixM_find Mark.possible f3 with ⟨e3, x3⟩ | ⟨j, m, e3, x3, y3, z3⟩
 rotate_left
 ·simp only [x3, ne_of_lt y3, cond_false, gl_at z3, fR_some e3, fR_none e0, fR_none e1, fR_none e2, k3, decide_true, cond_true, Int.natCast_nonneg, ge_iff_le, beq_self_eq_true, Int.ofNat_lt, y3, Int.toNat_natCast, tkCons_c, tkInt_i, List.drop]
 simp only [x3, neg1, cond_false]
 simp only [r4, tkOut_ret, tkRow_r, s102a (F + 7) d f4 (show f4.length < 4611686018427387904 by omega) (by omega), tkInt_i, decide_true, cond_true]
 rcases ixM_find Mark.possible f4 with ⟨e4, x4⟩ | ⟨j, m, e4, x4, y4, z4⟩
 rotate_left
 ·simp only [x4, ne_of_lt y4, cond_false, gl_at z4, fR_some e4, fR_none e0, fR_none e1, fR_none e2, fR_none e3, k4, decide_true, cond_true, Int.natCast_nonneg, ge_iff_le, beq_self_eq_true, Int.ofNat_lt, y4, Int.toNat_natCast, tkCons_c, tkInt_i, List.drop]
 simp only [x4, neg1, cond_false]
 simp only [r5, tkOut_ret, tkRow_r, s102a (F + 7) d f5 (show f5.length < 4611686018427387904 by omega) (by omega), tkInt_i, decide_true, cond_true]
 rcases ixM_find Mark.possible f5 with ⟨e5, x5⟩ | ⟨j, m, e5, x5, y5, z5⟩
 rotate_left
 ·simp only [x5, ne_of_lt y5, cond_false, gl_at z5, fR_some e5, fR_none e0, fR_none e1, fR_none e2, fR_none e3, fR_none e4, k5, decide_true, cond_true, Int.natCast_nonneg, ge_iff_le, beq_self_eq_true, Int.ofNat_lt, y5, Int.toNat_natCast, tkCons_c, tkInt_i, List.drop]
 simp only [x5, neg1, cond_false]
 rw [fR_none e0, fR_none e1, fR_none e2, fR_none e3, fR_none e4, fR_none e5]
 rfl
theorem s65b (s : Site) (y : Day) (B C : V) (n : Int) (f0 f1 f2 f3 f4 f5 : List Mark) (h0 : f0.length ≤ 100) (h1 : f1.length ≤ 100) (h2 : f2.length ≤ 100) (h3 : f3.length ≤ 100) (h4 : f4.length ≤ 100) (h5 : f5.length ≤ 100) (hF : 200 < F)
  (r0 : (E F (d + 2)).pf 68 [pTod s y B C] = some (.ret (rowM f0)))
  (r1 : (E F (d + 2)).pf 69 [pTod s y B C] = some (.ret (rowM f1)))
  (r2 : (E F (d + 2)).pf 70 [pTod s y B C] = some (.ret (rowM f2)))
  (r3 : (E F (d + 2)).pf 71 [pTod s y B C] = some (.ret (rowM f3)))
  (r4 : (E F (d + 2)).pf 72 [pTod s y B C] = some (.ret (rowM f4)))
  (r5 : (E F (d + 2)).pf 73 [pTod s y B C] = some (.ret (rowM f5)))
  : (E F (d + 3)).pf 35 [pTod s y B C, .int .i64 n, .fn (.func 49) [] []] = some (.ret (eFaultB (faultR n Mark.certain [(2, f0), (3, f1), (4, f2), (5, f3), (6, f4), (7, f5)]))) := by
 obtain ⟨F, rfl⟩ : ∃ k, F = k + 7 := ⟨F - 7, by omega⟩
 rw [E_pf, t652]
 simp only [r0, tkOut_ret, tkRow_r, s102b (F + 7) d f0 (show f0.length < 4611686018427387904 by omega) (by omega), tkInt_i, decide_true, cond_true]
 rcases ixM_find Mark.certain f0 with ⟨e0, x0⟩ | ⟨j, m, e0, x0, y0, z0⟩
 rotate_left
 ·simp only [x0, ne_of_lt y0, cond_false, gl_at z0, fR_some e0, k0, decide_true, cond_true, Int.natCast_nonneg, ge_iff_le, beq_self_eq_true, Int.ofNat_lt, y0, Int.toNat_natCast, tkCons_c, tkInt_i, List.drop]
 simp only [x0, neg1, cond_false]
 simp only [r1, tkOut_ret, tkRow_r, s102b (F + 7) d f1 (show f1.length < 4611686018427387904 by omega) (by omega), tkInt_i, decide_true, cond_true]
 rcases ixM_find Mark.certain f1 with ⟨e1, x1⟩ | ⟨j, m, e1, x1, y1, z1⟩
 rotate_left
 ·simp only [x1, ne_of_lt y1, cond_false, gl_at z1, fR_some e1, fR_none e0, k1, decide_true, cond_true, Int.natCast_nonneg, ge_iff_le, beq_self_eq_true, Int.ofNat_lt, y1, Int.toNat_natCast, tkCons_c, tkInt_i, List.drop]
 simp only [x1, neg1, cond_false]
 simp only [r2, tkOut_ret, tkRow_r, s102b (F + 7) d f2 (show f2.length < 4611686018427387904 by omega) (by omega), tkInt_i, decide_true, cond_true]
 rcases ixM_find Mark.certain f2 with ⟨e2, x2⟩ | ⟨j, m, e2, x2, y2, z2⟩
 rotate_left
 ·simp only [x2, ne_of_lt y2, cond_false, gl_at z2, fR_some e2, fR_none e0, fR_none e1, k2, decide_true, cond_true, Int.natCast_nonneg, ge_iff_le, beq_self_eq_true, Int.ofNat_lt, y2, Int.toNat_natCast, tkCons_c, tkInt_i, List.drop]
 simp only [x2, neg1, cond_false]
 simp only [r3, tkOut_ret, tkRow_r, s102b (F + 7) d f3 (show f3.length < 4611686018427387904 by omega) (by omega), tkInt_i, decide_true, cond_true]
 rcases ixM_find Mark.certain f3 with ⟨e3, x3⟩ | ⟨j, m, e3, x3, y3, z3⟩
 rotate_left
 ·simp only [x3, ne_of_lt y3, cond_false, gl_at z3, fR_some e3, fR_none e0, fR_none e1, fR_none e2, k3, decide_true, cond_true, Int.natCast_nonneg, ge_iff_le, beq_self_eq_true, Int.ofNat_lt, y3, Int.toNat_natCast, tkCons_c, tkInt_i, List.drop]
 simp only [x3, neg1, cond_false]
 simp only [r4, tkOut_ret, tkRow_r, s102b (F + 7) d f4 (show f4.length < 4611686018427387904 by omega) (by omega), tkInt_i, decide_true, cond_true]
 rcases ixM_find Mark.certain f4 with ⟨e4, x4⟩ | ⟨j, m, e4, x4, y4, z4⟩
 rotate_left
 ·simp only [x4, ne_of_lt y4, cond_false, gl_at z4, fR_some e4, fR_none e0, fR_none e1, fR_none e2, fR_none e3, k4, decide_true, cond_true, Int.natCast_nonneg, ge_iff_le, beq_self_eq_true, Int.ofNat_lt, y4, Int.toNat_natCast, tkCons_c, tkInt_i, List.drop]
 simp only [x4, neg1, cond_false]
 simp only [r5, tkOut_ret, tkRow_r, s102b (F + 7) d f5 (show f5.length < 4611686018427387904 by omega) (by omega), tkInt_i, decide_true, cond_true]
 rcases ixM_find Mark.certain f5 with ⟨e5, x5⟩ | ⟨j, m, e5, x5, y5, z5⟩
 rotate_left
 ·simp only [x5, ne_of_lt y5, cond_false, gl_at z5, fR_some e5, fR_none e0, fR_none e1, fR_none e2, fR_none e3, fR_none e4, k5, decide_true, cond_true, Int.natCast_nonneg, ge_iff_le, beq_self_eq_true, Int.ofNat_lt, y5, Int.toNat_natCast, tkCons_c, tkInt_i, List.drop]
 simp only [x5, neg1, cond_false]
 rw [fR_none e0, fR_none e1, fR_none e2, fR_none e3, fR_none e4, fR_none e5]
 rfl
end Go.Sim.Cr


namespace Go.Sim.Cr
open Go.Proofs
theorem monoN {f : Nat → Int} {n : Nat} (h : ∀ j, j + 1 < n → f j ≤ f (j + 1)) : ∀ {j i : Nat}, i ≤ j → j < n → f i ≤ f j := by
 intro j
 induction j with
 | zero => intro i hi _; rw [show i = 0 by omega]; exact Int.le_refl _
 | succ j ih =>
  intro i hi hj
  rcases Nat.eq_or_lt_of_le hi with rfl | h4
  ·exact Int.le_refl _
  ·have := @ih i (by omega) (by omega)
   have := h j hj
   omega
theorem lastIx_mono {num : Nat → Int} {n : Nat} {x y : Int} (hn : 0 < n) (h0 : num 0 ≤ x) (hxy : x ≤ y) (hi : Inc num n) : lastIx num x n ≤ lastIx num y n := by
 obtain ⟨a1, a2, a3⟩ := lastIx_ok hn h0
 obtain ⟨b1, b2, b3⟩ := lastIx_ok hn (Int.le_trans h0 hxy)
 rcases Nat.lt_or_ge (lastIx num y n) (lastIx num x n) with h | h
 ·have := b3 _ h a1; omega
 ·exact h
theorem firstIx_mono {num : Nat → Int} {n : Nat} {x y : Int} (hn : 0 < n) (h0 : y ≤ num (n - 1)) (hxy : x ≤ y) (hi : Inc num n) : firstIx num x n 0 ≤ firstIx num y n 0 := by
 obtain ⟨_, a1, a2, a3⟩ := @firstIx_ok num x n 0 hn (by rw [Nat.zero_add]; omega)
 obtain ⟨_, b1, b2, b3⟩ := @firstIx_ok num y n 0 hn (by rw [Nat.zero_add]; omega)
 rcases Nat.lt_or_ge (firstIx num y n 0) (firstIx num x n 0) with h | h
 ·have := a3 _ (Nat.zero_le _) h; omega
 ·exact h
theorem last_first {num : Nat → Int} {n : Nat} {x y : Int} (hn : 0 < n) (h0 : num 0 ≤ x) (h1 : y ≤ num (n - 1)) (hxy : x ≤ y) (hi : Inc num n) : lastIx num x n ≤ firstIx num y n 0 := by
 obtain ⟨a1, a2, a3⟩ := lastIx_ok hn h0
 obtain ⟨_, b1, b2, b3⟩ := @firstIx_ok num y n 0 hn (by rw [Nat.zero_add]; omega)
 rcases Nat.lt_or_ge (firstIx num y n 0) (lastIx num x n) with h | h
 ·have := hi.lt h a1; omega
 ·exact h
variable {s : Site}
theorem SiteF.rowUp (hS : SiteF s) {i j : Nat} (hij : i ≤ j) (hj : j < s.rows.len) :
  ((s.rows.el i).rate.lo ≤ (s.rows.el j).rate.lo ∧ (s.rows.el i).rate.hi ≤ (s.rows.el j).rate.hi) ∧ (s.rows.el i).spall.lo ≤ (s.rows.el j).spall.lo ∧ (s.rows.el i).spall.hi ≤ (s.rows.el j).spall.hi := by
 have st : ∀ k, k + 1 < s.rows.len → ((s.rows.el k).rate.lo ≤ (s.rows.el (k + 1)).rate.lo ∧ (s.rows.el k).rate.hi ≤ (s.rows.el (k + 1)).rate.hi) ∧ (s.rows.el k).spall.lo ≤ (s.rows.el (k + 1)).spall.lo ∧ (s.rows.el k).spall.hi ≤ (s.rows.el (k + 1)).spall.hi := fun k hk => by
  have := hS.row (k + 1) hk
  simp only [rowB, rowStep, Bool.and_eq_true, decide_eq_true_iff] at this
  exact this.2.2.2.2
 exact ⟨⟨monoN (f := fun k => (s.rows.el k).rate.lo) (fun k hk => (st k hk).1.1) hij hj, monoN (f := fun k => (s.rows.el k).rate.hi) (fun k hk => (st k hk).1.2) hij hj⟩,
  monoN (f := fun k => (s.rows.el k).spall.lo) (fun k hk => (st k hk).2.1) hij hj, monoN (f := fun k => (s.rows.el k).spall.hi) (fun k hk => (st k hk).2.2) hij hj⟩
theorem SiteF.heatUp (hS : SiteF s) {i j : Nat} (hij : i ≤ j) (hj : j < s.heats.len) :
  (s.heats.el i).factor.lo ≤ (s.heats.el j).factor.lo ∧ (s.heats.el i).factor.hi ≤ (s.heats.el j).factor.hi := by
 have st : ∀ k, k + 1 < s.heats.len → (s.heats.el k).factor.lo ≤ (s.heats.el (k + 1)).factor.lo ∧ (s.heats.el k).factor.hi ≤ (s.heats.el (k + 1)).factor.hi := fun k hk => by
  have := hS.heat (k + 1) hk
  simp only [heatB, heatStep, Bool.and_eq_true, decide_eq_true_iff] at this
  exact this.2.2.2
 exact ⟨monoN (f := fun k => (s.heats.el k).factor.lo) (fun k hk => (st k hk).1) hij hj, monoN (f := fun k => (s.heats.el k).factor.hi) (fun k hk => (st k hk).2) hij hj⟩
abbrev Sub (p q : Span) : Prop := q.lo ≤ p.lo ∧ p.hi ≤ q.hi
theorem rate_sub (hS : SiteF s) {c : Cav} {p p' q : Span} (hf : farB s c p q = false) (hs : Sub p' p) (h' : p'.lo ≤ p'.hi) :
  Sub (rateOf s c p') (rateOf s c p) ∧ Sub (fallOf s c p') (fallOf s c p) ∧ (rateOf s c p').lo ≤ (rateOf s c p').hi ∧ (fallOf s c p').lo ≤ (fallOf s c p').hi := by
 obtain ⟨f1, _⟩ := far_split hf
 obtain ⟨o1, o2⟩ := not_off f1
 have hi := hS.incRow
 have n1 := hS.rows1
 obtain ⟨a1, _⟩ := lastIx_ok (num := rowN s) (x := c.rock - p'.hi) n1 (by omega)
 have b1 := (@firstIx_ok (rowN s) (c.rock - p.lo) s.rows.len 0 n1 (by rw [Nat.zero_add]; omega)).2.1
 have b2 := (@firstIx_ok (rowN s) (c.rock - p'.lo) s.rows.len 0 n1 (by rw [Nat.zero_add]; omega)).2.1
 have u1 := hS.rowUp (lastIx_mono (num := rowN s) (x := c.rock - p.hi) (y := c.rock - p'.hi) n1 o1 (by omega) hi) a1
 have u2 := hS.rowUp (firstIx_mono (num := rowN s) (x := c.rock - p'.lo) (y := c.rock - p.lo) n1 o2 (by omega) hi) (by omega)
 have u3 := hS.rowUp (last_first (num := rowN s) (x := c.rock - p'.hi) (y := c.rock - p'.lo) n1 (by omega) (by omega) (by omega) hi) (by omega)
 have r3 := hS.rowOk (show firstIx (rowN s) (c.rock - p'.lo) s.rows.len 0 < s.rows.len by omega)
 exact ⟨⟨u1.1.1, u2.1.2⟩, ⟨u1.2.1, u2.2.2⟩, Int.le_trans u3.1.1 r3.2.1.2.1, Int.le_trans u3.2.1 r3.2.2.2.1⟩
theorem factor_sub (hS : SiteF s) {c : Cav} {p q q' : Span} (hf : farB s c p q = false) (hs : Sub q' q) (h' : q'.lo ≤ q'.hi) :
  Sub (factorOf s q') (factorOf s q) ∧ (factorOf s q').lo ≤ (factorOf s q').hi := by
 obtain ⟨_, f1⟩ := far_split hf
 obtain ⟨o1, o2⟩ := not_off f1
 have hi := hS.incHeat
 have n1 := hS.heats1
 obtain ⟨a1, _⟩ := lastIx_ok (num := heatN s) (x := q'.lo) n1 (by omega)
 have b1 := (@firstIx_ok (heatN s) q.hi s.heats.len 0 n1 (by rw [Nat.zero_add]; omega)).2.1
 have b2 := (@firstIx_ok (heatN s) q'.hi s.heats.len 0 n1 (by rw [Nat.zero_add]; omega)).2.1
 have u1 := hS.heatUp (lastIx_mono (num := heatN s) (x := q.lo) (y := q'.lo) n1 o1 (by omega) hi) a1
 have u2 := hS.heatUp (firstIx_mono (num := heatN s) (x := q'.hi) (y := q.hi) n1 o2 (by omega) hi) (by omega)
 have u3 := hS.heatUp (last_first (num := heatN s) (x := q'.lo) (y := q'.hi) n1 (by omega) (by omega) (by omega) hi) (by omega)
 have r3 := hS.heatOk (show firstIx (heatN s) q'.hi s.heats.len 0 < s.heats.len by omega)
 exact ⟨⟨u1.1, u2.2⟩, Int.le_trans u3.1 r3.2.2.1⟩
theorem prod_mono {u v r r' f f' : Int} (hu : 0 ≤ u) (huv : u ≤ v) (hr : 0 ≤ r) (hrr : r ≤ r') (hf : 0 ≤ f) (hff : f ≤ f') : u * r * f ≤ v * r' * f' := by
 have h1 : u * r ≤ v * r' := Int.mul_le_mul huv hrr hr (by omega)
 exact Int.mul_le_mul h1 hff hf (Int.mul_nonneg (by omega) (by omega))
theorem shrink_mono {u v r r' f f' k k' : Int} (hu : 0 ≤ u) (huv : u ≤ v) (hr : 0 ≤ r) (hrr : r ≤ r') (hf : 0 ≤ f) (hff : f ≤ f') (hk : k ≤ k') : shrink u r f k ≤ shrink v r' f' k' := by
 have h := prod_mono hu huv hr hrr hf hff
 have h2 : (u * r * f + k) / 1000000000 ≤ (v * r' * f' + k') / 1000000000 := Int.ediv_le_ediv (by omega) (by omega)
 unfold shrink minI
 split <;> split <;> omega
theorem shrink_rest {u v r f k : Int} (huv : u ≤ v) (hr : 0 ≤ r ∧ r ≤ 100000) (hf : 0 ≤ f ∧ f ≤ 10000) : u - shrink u r f k ≤ v - shrink v r f k := by
 have h2 := mulB hr hf
 have h3 : (v - u) * (r * f) ≤ (v - u) * 1000000000 := Int.mul_le_mul_of_nonneg_left (by omega) (by omega)
 have h4 : v * r * f = u * r * f + (v - u) * (r * f) := by rw [Int.mul_assoc, Int.mul_assoc, ← Int.add_mul]; congr 1; omega
 have h5 : (v * r * f + k) / 1000000000 ≤ (u * r * f + k) / 1000000000 + (v - u) := by omega
 unfold shrink minI
 split <;> split <;> omega
theorem move1xok (hS : SiteF s) {c : Cav} {x : Stt} {p q : Span} (hx : SttOk x) (hp : p.lo ≤ p.hi) (hq : q.lo ≤ q.hi) (hf : farB s c p q = false) : SttOk (move1 s c x p q) := by
 obtain ⟨k1, k2, k3, k4, k5, k6⟩ := rates_ok hS hf
 obtain ⟨r1, r2, r3, r4⟩ := rate_sub hS hf (show Sub p p from ⟨Int.le_refl _, Int.le_refl _⟩) hp
 obtain ⟨g1, g2⟩ := factor_sub hS hf (show Sub q q from ⟨Int.le_refl _, Int.le_refl _⟩) hq
 have b1 := @shrink_ok x.vol.lo (rateOf s c p).hi (factorOf s q).hi 999999999 (by omega) k2 k6 (by omega)
 have b2 := @shrink_ok x.vol.hi (rateOf s c p).lo (factorOf s q).lo 0 (by omega) k1 k5 (by omega)
 have b3 := @shrink_ok x.vol.lo (rateOf s c p).lo (factorOf s q).lo 0 (by omega) k1 k5 (by omega)
 have b4 := @shrink_ok x.vol.hi (rateOf s c p).hi (factorOf s q).hi 999999999 (by omega) k2 k6 (by omega)
 have a1 := @shrink_mono x.vol.lo x.vol.lo (rateOf s c p).lo (rateOf s c p).hi (factorOf s q).lo (factorOf s q).hi 0 999999999 (by omega) (by omega) (by omega) (by omega) (by omega) (by omega) (by omega)
 have a2 := @shrink_rest x.vol.lo x.vol.hi (rateOf s c p).lo (factorOf s q).lo 0 (by omega) k1 k5
 have a3 := @shrink_mono x.vol.lo x.vol.hi (rateOf s c p).lo (rateOf s c p).hi (factorOf s q).lo (factorOf s q).hi 0 999999999 (by omega) (by omega) (by omega) (by omega) (by omega) (by omega) (by omega)
 refine ⟨⟨?_, ?_, ?_⟩, ⟨?_, ?_, ?_⟩, ?_, ?_, ?_⟩
 ·show 0 ≤ minI _ 400000; unfold minI; split <;> omega
 ·show minI _ 400000 ≤ minI _ 400000; unfold minI; split <;> split <;> omega
 ·show minI _ 400000 ≤ 400000; unfold minI; split <;> omega
 ·show 0 ≤ x.vol.lo - _; omega
 ·show x.vol.lo - _ ≤ x.vol.hi - _; omega
 ·show x.vol.hi - _ ≤ 10000000; omega
 ·show 0 ≤ minI _ 1000000000; unfold minI; split <;> omega
 ·show minI _ 1000000000 ≤ minI _ 1000000000; unfold minI; split <;> split <;> omega
 ·show minI _ 1000000000 ≤ 1000000000; unfold minI; split <;> omega
end Go.Sim.Cr


namespace Go.Sim.Cr
open Go.Proofs
variable (F d : Nat)
abbrev ShortD (l : Sl Day) : Prop := ∀ i, i < l.len → (l.el i).press.len ≤ 10 ∧ (l.el i).warm.len ≤ 10
theorem s64 (s : Site) (y : Day) (h : y.press.len ≤ 10 ∧ y.warm.len ≤ 10) (hF : 10 < F) : (E F (d + 7)).pf 46 [.agg (eDay y), pSite s] = some (.ret (.bool (!decide (DayOk s y)))) := by
  rw [E_pf, t64]
  simp only [s50 F d s y (show y.press.len < 4611686018427387904 by omega) (show y.warm.len < 4611686018427387904 by omega) (by omega) (by omega), tkOut_ret, tkBool_b]
theorem l95 (s : Site) (l : Sl Day) (hl : ShortD l) (hB : l.len < Big) (hF : 10 < F) : ∀ n i fu, l.len = i + n → n < fu →
    L95x0 (E F (d + 7)) F s l fu (i : Int) = some (.ret (.int .i64 (ixF (fun j => !decide (DayOk s (l.el j))) n i))) := by
  intro n
  induction n with
  | zero =>
    intro i fu h hf
    obtain ⟨fu, rfl⟩ : ∃ k, fu = k + 1 := ⟨fu - 1, by omega⟩
    rw [L95x0s]
    simp only [Int.ofNat_lt, show ¬ i < l.len by omega, decide_false, cond_false, ixF]
  | succ n ih =>
    intro i fu h hf
    obtain ⟨fu, rfl⟩ : ∃ k, fu = k + 1 := ⟨fu - 1, by omega⟩
    rw [L95x0s]
    simp only [Int.ofNat_lt, show i < l.len by omega, decide_true, cond_true, Int.natCast_nonneg, Int.toNat_natCast, s64 F d s (l.el i) (hl i (by omega)) hF, tkOut_ret, tkBool_b, ixF, wrS (show i < Big by omega), ih (i + 1) fu (by omega) (by omega)]
    cases (!decide (DayOk s (l.el i))) <;> rfl
abbrev DaysOk (s : Site) (l : Sl Day) : Prop := ∀ i, i < l.len → DayOk s (l.el i)
theorem s63 (s : Site) (l : Sl Day) (hl : ShortD l) (hB : l.len < Big) (hF : 10 < F) (hlF : l.len < F) : (E F (d + 9)).pf 45 [sl eDay 2 l, .fn (.func 46) [] [pSite s]] = some (.ret (.bool (!decide (DaysOk s l)))) := by
  rw [E_pf, t63, E_pf, t95, show L95x0 (E F (d + 7)) F s l F 0 = _ from l95 F d s l hl hB hF l.len 0 F (by omega) hlF]
  simp only [tkOut_ret, tkInt_i, decide_true, cond_true, ge_iff_le]
  refine b3 (Bool.not_inj ?_)
  rw [Bool.not_not]
  exact (ge0 _ _).trans (by simp only [Bool.not_eq_false', decide_eq_true_iff])
abbrev fineF : Fault := ⟨0, 1, 0, 0⟩
abbrev rowB_ (b : Option (Sl Span)) : V := match b with | some b => sl eSpan 2 b | none => noneRow
def nlB : Option (Sl Span) → Bool
  | some b => b.nl
  | none => true
def lenB : Option (Sl Span) → Nat
  | some b => b.len
  | none => 0
def wdB : Option (Sl Span) → Nat
  | some _ => 2
  | none => 0
def getB : Option (Sl Span) → Nat → List V
  | some b => fun i => eSpan (b.el i)
  | none => fun _ => []
theorem rowB_eq (b : Option (Sl Span)) : rowB_ b = .row (nlB b) (lenB b) (wdB b) (getB b) := by cases b <;> rfl
abbrev rowC_ (m : Option (Sl Stt)) : V := match m with | some m => sl eStt 6 m | none => noneRow
def fastMs (s : Site) (y : Day) : Option (Sl Span) → List Mark
  | some b => (List.range' 0 s.cavs.len).map (fastM s y b)
  | none => []
def smallMs (s : Site) : Option (Sl Stt) → List Mark
  | some m => (List.range' 0 s.cavs.len).map (smallM s m)
  | none => []
noncomputable def thinMs (s : Site) : Option (Sl Stt) → List Mark
  | some m => pairsM s m s.cavs.len 0
  | none => []
def sunkMs (s : Site) : Option (Sl Stt) → List Mark
  | some m => (List.range' 0 s.houses.len).map (sunkM s m)
  | none => []
noncomputable def marksOf (s : Site) (y : Day) (b : Option (Sl Span)) (m : Option (Sl Stt)) : List (Int × List Mark) :=
  [(2, (List.range' 0 s.cavs.len).map (outM s y)), (3, (List.range' 0 s.cavs.len).map (gateM s y)), (4, fastMs s y b),
   (5, smallMs s m), (6, thinMs s m), (7, sunkMs s m)]
theorem pairs_len (s : Site) (m : Sl Stt) : ∀ k i, k ≤ 5 → (pairsM s m k i).length ≤ 10 * k := by
  intro k
  induction k with
  | zero => intro i _; exact Nat.le_refl _
  | succ k ih =>
    intro i hk
    have := ih (i + 1) (by omega)
    rw [pairsM, List.length_append, List.length_map, List.length_range']
    omega
theorem s65 (s : Site) (y : Day) (b : Option (Sl Span)) (m : Option (Sl Stt)) (n : Int) (hS : SiteF s) (hD : DayOk s y) (hb : ∀ x, b = some x → x.len = s.cavs.len ∧ ∀ i, i < x.len → SpanIn (x.el i) 0 50000) (hm : ∀ x, m = some x → StatesOk s x ∧ x.nl = false) (hF : 67108864 < F) :
    (E F (d + 7)).pf 35 [pTod s y (rowB_ b) (rowC_ m), .int .i64 n, .fn (.func 48) [] []] = some (.ret (eFaultB (faultR n Mark.possible (marksOf s y b m)))) ∧
    (E F (d + 7)).pf 35 [pTod s y (rowB_ b) (rowC_ m), .int .i64 n, .fn (.func 49) [] []] = some (.ret (eFaultB (faultR n Mark.certain (marksOf s y b m)))) := by
  have h1 := hS.cavs1
  have h5 := hS.cavs5
  have h6 := hS.houses5
  have hp := hD.1.1
  have r0 := s96 F (d + 5) s y (rowB_ b) (rowC_ m) hS hD (by omega)
  have r1 := s97 F (d + 5) s y (rowB_ b) (rowC_ m) h1 h5 hp (by omega)
  have r2 : (E F (d + 6)).pf 70 [pTod s y (rowB_ b) (rowC_ m)] = some (.ret (rowM (fastMs s y b))) := by
    cases b with
    | none => exact s98n F (d + 5) s y (rowC_ m) (by omega)
    | some x => exact s98 F (d + 5) s y x (rowC_ m) h1 h5 hD (hb x rfl).1 (hb x rfl).2 (by omega)
  have r3 : (E F (d + 6)).pf 71 [pTod s y (rowB_ b) (rowC_ m)] = some (.ret (rowM (smallMs s m))) := by
    cases m with
    | none => exact s99n F (d + 5) s y (rowB_ b) (by omega)
    | some x => exact s99 F (d + 5) s y x (rowB_ b) h1 h5 (hm x rfl).1.1 (by omega)
  have r4 : (E F (d + 6)).pf 72 [pTod s y (rowB_ b) (rowC_ m)] = some (.ret (rowM (thinMs s m))) := by
    cases m with
    | none => exact s100n F (d + 5) s y (rowB_ b)
    | some x => exact s100 F (d + 1) s y x (rowB_ b) hS (hm x rfl).1 (hm x rfl).2 hF
  have r5 : (E F (d + 6)).pf 73 [pTod s y (rowB_ b) (rowC_ m)] = some (.ret (rowM (sunkMs s m))) := by
    cases m with
    | none => exact s101n F (d + 5) s y (rowB_ b)
    | some x => exact s101 F (d + 3) s y x (rowB_ b) hS (hm x rfl).1 (hm x rfl).2 (by omega)
  have q0 : ((List.range' 0 s.cavs.len).map (outM s y)).length ≤ 100 := by simp; omega
  have q1 : ((List.range' 0 s.cavs.len).map (gateM s y)).length ≤ 100 := by simp; omega
  have q2 : (fastMs s y b).length ≤ 100 := by cases b <;> simp [fastMs]; omega
  have q3 : (smallMs s m).length ≤ 100 := by cases m <;> simp [smallMs]; omega
  have q4 : (thinMs s m).length ≤ 100 := by
    cases m with
    | none => simp [thinMs]
    | some x => have := pairs_len s x s.cavs.len 0 h5; show (pairsM s x s.cavs.len 0).length ≤ 100; omega
  have q5 : (sunkMs s m).length ≤ 100 := by cases m <;> simp [sunkMs]; omega
  exact ⟨s65a F (d + 4) s y _ _ n _ _ _ _ _ _ q0 q1 q2 q3 q4 q5 (by omega) r0 r1 r2 r3 r4 r5, s65b F (d + 4) s y _ _ n _ _ _ _ _ _ q0 q1 q2 q3 q4 q5 (by omega) r0 r1 r2 r3 r4 r5⟩
noncomputable def faultsFrom (s : Site) (l : Sl Day) : Nat → Nat → Option (Sl Span) → Sl Stt → Bool → Fault → Fault → Fault × Fault
  | 0, _, _, _, _, may, sure => (may, sure)
  | n + 1, i, b, now, found, may, sure =>
    let y := l.el i
    let mk := marksOf s y b (bif farDay s y then none else some (moved s now y))
    let may' := bif found then may else (faultR i Mark.possible mk).getD fineF
    bif farDay s y then (may', sure) else
      match faultR i Mark.certain mk with
      | some f => (may', f)
      | none => faultsFrom s l n (i + 1) (some y.press) (moved s now y) (found || (faultR i Mark.possible mk).isSome) may' fineF
noncomputable def faults (s : Site) (l : Sl Day) : Fault × Fault := faultsFrom s l l.len 0 none (begin s) false fineF fineF
theorem moved_ok {s : Site} {l : Sl Stt} {y : Day} (hS : SiteF s) (hL : StatesOk s l) (hD : DayOk s y) (hf : farDay s y = false) : StatesOk s (moved s l y) := by
  have hl := hL.1
  refine ⟨hl, fun i hi => ?_⟩
  have hi' : i < l.len := hi
  rw [show (moved s l y).el i = mv s l y i from outL_el hi']
  have hp := hD.1.2 i (by have := hD.1.1; omega)
  have hw := hD.2.2 i (by have := hD.2.1; omega)
  refine move1xok hS (hL.2 i hi') hp.2.1 hw.2.1 ?_
  cases hx : farB s (s.cavs.el i) (y.press.el i) (y.warm.el i) with
  | false => rfl
  | true =>
    have : farDay s y = true := (anyF_eq _ _ _).2 ⟨i, Nat.zero_le _, by omega, hx⟩
    rw [this] at hf; cases hf
theorem begin_ok {s : Site} (hS : SiteF s) : StatesOk s (begin s) := by
  refine ⟨rfl, fun i hi => ?_⟩
  have hi' : i < s.cavs.len := hi
  rw [show (begin s).el i = start (s.cavs.el i) from outL_el hi']
  have := hS.cav i hi'
  refine ⟨⟨?_, ?_, ?_⟩, ⟨?_, ?_, ?_⟩, ?_, ?_, ?_⟩ <;> simp only [start] <;> omega
theorem l30 (s : Site) (l : Sl Day) (hS : SiteF s) (hD : DaysOk s l) (hB : l.len < Big) (hF : 67108864 < F) : ∀ n i fu (b : Option (Sl Span)) (now : Sl Stt) (found : Bool) (may sure : Fault), l.len = i + n → n < fu →
    (∀ x, b = some x → x.len = s.cavs.len ∧ ∀ i, i < x.len → SpanIn (x.el i) 0 50000) → StatesOk s now →
    L30x0 (E F (d + 7)) F s l fu (nlB b) (lenB b) (wdB b) (getB b)
      now.nl now.len 6 (fun i => eStt (now.el i)) found (i : Int) .i64 may.day .i64 may.rule .i64 may.of .i64 may.wth .i64 sure.day .i64 sure.rule .i64 sure.of .i64 sure.wth =
    some (.ret (.tup [.agg (eFault (faultsFrom s l n i b now found may sure).1), .agg (eFault (faultsFrom s l n i b now found may sure).2), .int .i64 0])) := by
  intro n
  induction n with
  | zero =>
    intro i fu b now found may sure h hf hb hn
    obtain ⟨fu, rfl⟩ : ∃ k, fu = k + 1 := ⟨fu - 1, by omega⟩
    rw [L30x0s]
    simp only [Int.ofNat_lt, show ¬ i < l.len by omega, decide_false, cond_false, faultsFrom]
  | succ n ih =>
    intro i fu b now found may sure h hf hb hn
    obtain ⟨fu, rfl⟩ : ∃ k, fu = k + 1 := ⟨fu - 1, by omega⟩
    rw [L30x0s]
    have hy := hD i (by omega)
    have e51 := s51 F d s now (l.el i) hS hn hy (by omega)
    simp only [Int.ofNat_lt, show i < l.len by omega, decide_true, cond_true, Int.natCast_nonneg, Int.toNat_natCast, e51, tkOut_ret, wrS (show i < Big by omega), moveR, faultsFrom]
    cases hfd : farDay s (l.el i) with
    | true =>
      obtain ⟨p1, p2⟩ := s65 F d s (l.el i) b none (i : Int) hS hy hb (by intro x hx; cases hx) hF
      rw [rowB_eq] at p1 p2
      simp only [cond_true, tkTup_t, tkCons_c, tkRow_r, tkBool_b, tkNil_n, Bool.not_false]
      cases found with
      | true => simp only [Bool.not_true, cond_false, cond_true]
      | false =>
        simp only [Bool.not_false, cond_false, cond_true, p1, tkOut_ret]
        cases faultR (i : Int) Mark.possible (marksOf s (l.el i) b none) <;> simp only [tkTup_t, tkCons_c, tkAgg_a, tkInt_i, tkBool_b, tkNil_n, Option.getD]
    | false =>
      have hmv := moved_ok hS hn hy hfd
      obtain ⟨p1, p2⟩ := s65 F d s (l.el i) b (some (moved s now (l.el i))) (i : Int) hS hy hb (by intro x hx; cases hx; exact ⟨hmv, rfl⟩) hF
      rw [rowB_eq] at p1 p2
      have nx := fun may sure fd => ih (i + 1) fu (some (l.el i).press) (moved s now (l.el i)) fd may sure (by omega) (by omega) (by intro x hx; cases hx; exact hy.1) hmv
      simp only [cond_false, tkTup_t, tkCons_c, tkRow_r, tkBool_b, tkNil_n, Bool.not_true]
      cases found with
      | true =>
        simp only [Bool.not_true, cond_false, cond_true, p2, tkOut_ret, Bool.true_or]
        cases faultR (i : Int) Mark.certain (marksOf s (l.el i) b (some (moved s now (l.el i)))) with
        | some f => simp only [tkTup_t, tkCons_c, tkAgg_a, tkInt_i, tkBool_b, tkNil_n, cond_true]
        | none =>
          simp only [tkTup_t, tkCons_c, tkAgg_a, tkInt_i, tkBool_b, tkNil_n, cond_false]
          exact nx may fineF true
      | false =>
        simp only [Bool.not_false, cond_false, cond_true, p1, tkOut_ret, Bool.false_or]
        cases faultR (i : Int) Mark.possible (marksOf s (l.el i) b (some (moved s now (l.el i)))) with
        | some g =>
          simp only [tkTup_t, tkCons_c, tkAgg_a, tkInt_i, tkBool_b, tkNil_n, Option.getD, Option.isSome, p2, tkOut_ret]
          cases faultR (i : Int) Mark.certain (marksOf s (l.el i) b (some (moved s now (l.el i)))) with
          | some f => simp only [tkTup_t, tkCons_c, tkAgg_a, tkInt_i, tkBool_b, tkNil_n, cond_true]
          | none =>
            simp only [tkTup_t, tkCons_c, tkAgg_a, tkInt_i, tkBool_b, tkNil_n, cond_false]
            exact nx g fineF true
        | none =>
          simp only [tkTup_t, tkCons_c, tkAgg_a, tkInt_i, tkBool_b, tkNil_n, Option.getD, Option.isSome, p2, tkOut_ret]
          cases faultR (i : Int) Mark.certain (marksOf s (l.el i) b (some (moved s now (l.el i)))) with
          | some f => simp only [tkTup_t, tkCons_c, tkAgg_a, tkInt_i, tkBool_b, tkNil_n, cond_true]
          | none =>
            simp only [tkTup_t, tkCons_c, tkAgg_a, tkInt_i, tkBool_b, tkNil_n, cond_false]
            exact nx fineF fineF false
end Go.Sim.Cr


namespace Go.Sim.Cr
open Go.Proofs
variable (F d : Nat)
theorem s30 (s : Site) (l : Sl Day) (hs : Small s F) (hl : ShortD l) (hB : l.len < Big) (hlF : l.len < F) (hF : 67108864 < F) :
  (E F (d + 10)).pf 14 [.agg (eSite s), sl eDay 2 l] = some (.ret (bif decide (60 < l.len) then .tup [.agg (eFault ⟨0, 0, 0, 0⟩), .agg (eFault ⟨0, 0, 0, 0⟩), .int .i64 3]
   else bif siteB s && decide (DaysOk s l) then .tup [.agg (eFault (faults s l).1), .agg (eFault (faults s l).2), .int .i64 0] else .tup [.agg (eFault ⟨0, 0, 0, 0⟩), .agg (eFault ⟨0, 0, 0, 0⟩), .int .i64 2])) := by
 rw [E_pf, t30]
 have e0 : decide ((l.len : Int) > 60) = decide (60 < l.len) := by apply b2; simp only [decide_eq_true_iff]; omega
 rw [e0]
 cases h0 : decide (60 < l.len) with
 | true => rfl
 | false =>
  simp only [cond_false, s48 F (d + 3) s hs, tkOut_ret, tkBool_b, s63 F d s l hl hB (by omega) hlF]
  cases h1 : siteB s with
  | false => rfl
  | true =>
   by_cases h2 : DaysOk s l
   ·have hS := (siteB_iff s).1 h1
    simp only [decide_eq_true h2, Bool.not_true, cond_false, Bool.and_self, cond_true, s57 F (d + 8) s hS.cavs1 hS.cavs5 (by omega), tkOut_ret, tkRow_r]
    have g := l30 F (d + 2) s l hS h2 hB hF l.len 0 F none (begin s) false fineF fineF (by omega) hlF (by intro x hx; cases hx) (begin_ok hS)
    exact g
   ·simp only [decide_eq_false h2, Bool.not_false, Bool.not_true, cond_false, cond_true, Bool.and_false]
noncomputable abbrev thickOf (s : Site) (i j : Nat) (p q : Span) : List V := [.int .i64 (distI (s.cavs.el i) (s.cavs.el j) - p.hi - q.hi), .int .i64 (distI (s.cavs.el i) (s.cavs.el j) - p.lo - q.lo)]
theorem inLen {n : Nat} (hn : 1 ≤ n) (i : Int) : decide (0 ≤ i ∧ i ≤ ((n - 1 : Nat) : Int)) = decide (0 ≤ i ∧ i < (n : Int)) := by
 apply b2; simp only [decide_eq_true_iff]; omega
theorem s37 (s : Site) (i j : Int) (hs : Small s F) (hF : 67108864 < F) : (E F (d + 7)).pf 21 [.agg (eSite s), .int .i64 i, .int .i64 j] =
  some (.ret (bif siteB s && (decide (0 ≤ i ∧ i < (s.cavs.len : Int)) && (decide (0 ≤ j ∧ j < (s.cavs.len : Int)) && !decide (i = j))) then .tup [.agg (thickOf s i.toNat j.toNat (s.cavs.el i.toNat).rad (s.cavs.el j.toNat).rad), .int .i64 0] else .tup [.agg (eSpan zSpan), .int .i64 2])) := by
 rw [E_pf, t37]
 simp only [s48 F d s hs, tkOut_ret, tkBool_b, s72]
 cases h1 : siteB s with
 | false => rfl
 | true =>
  have hS := (siteB_iff s).1 h1
  have h5 := hS.cavs5
  rw [wrLen hS.cavs1 (by omega), inLen hS.cavs1, inLen hS.cavs1]
  by_cases h2 : 0 ≤ i ∧ i < (s.cavs.len : Int)
  ·by_cases h3 : 0 ≤ j ∧ j < (s.cavs.len : Int)
   ·by_cases h4 : i = j
    ·simp only [decide_eq_true h2, decide_eq_true h3, decide_eq_true h4, beqI, Bool.not_true, cond_false, cond_true, Bool.and_false]
    ·obtain ⟨i, rfl⟩ := Int.eq_ofNat_of_zero_le h2.1
     obtain ⟨j, rfl⟩ := Int.eq_ofNat_of_zero_le h3.1
     have c1 := hS.cav i (by omega)
     have c2 := hS.cav j (by omega)
     simp only [decide_eq_true h2, decide_eq_true h3, decide_eq_false h4, beqI, Bool.not_true, Bool.not_false, cond_false, cond_true, Bool.and_self, decide_eq_true h2.1, decide_eq_true h2.2, decide_eq_true h3.1, decide_eq_true h3.2, Int.toNat_natCast,
      s73 F (d + 2) s i j (s.cavs.el i).rad.hi (s.cavs.el j).rad.hi (by omega) (by omega) c1.1 c2.1 (by omega) (by omega) hF, s73 F (d + 2) s i j (s.cavs.el i).rad.lo (s.cavs.el j).rad.lo (by omega) (by omega) c1.1 c2.1 (by omega) (by omega) hF, tkOut_ret, tkInt_i]
   ·simp only [decide_eq_true h2, decide_eq_false h3, Bool.not_true, Bool.not_false, cond_false, cond_true, Bool.and_false, Bool.false_and]
  ·simp only [decide_eq_false h2, Bool.not_true, Bool.not_false, cond_false, cond_true, Bool.and_false, Bool.false_and]
noncomputable def nearB (s : Site) (c : Nat) (x : Stt) (j : Nat) : Bool := !decide (j = c) && decide (distI (s.cavs.el c) (s.cavs.el j) - x.rad.hi - (s.cavs.el j).rad.hi < s.wall)
noncomputable def keepFrom (s : Site) (c : Nat) (p q : Span) : Nat → Nat → Stt → Nat
 | 0, k, _ => k
 | n + 1, k, x => bif farB s (s.cavs.el c) p q then k else bif decide ((move1 s (s.cavs.el c) x p q).vol.lo < (s.cavs.el c).floor) then k else
   bif anyF (nearB s c (move1 s (s.cavs.el c) x p q)) s.cavs.len 0 then k else keepFrom s c p q n (k + 1) (move1 s (s.cavs.el c) x p q)
noncomputable def keeps (s : Site) (c : Nat) (p q : Span) (n : Nat) : Nat :=
 bif decide (p.lo < (s.cavs.el c).gate.lo) || decide (p.hi > (s.cavs.el c).gate.hi) then 0 else keepFrom s c p q n 0 (start (s.cavs.el c))
theorem l75x1 (s : Site) (c : Nat) (p q : Span) (n : Int) (hS : SiteF s) (hc : c < s.cavs.len) (x : Stt) (hx : SttOk x) (hF : 67108864 < F) (m0 k : Nat) (hk : k < 100) (R : Nat)
  (hO : L75x0 (E F (d + 6)) F s (c : Int) p q n m0 ((k + 1 : Nat) : Int) .i64 x.rad.lo .i64 x.rad.hi .i64 x.vol.lo .i64 x.vol.hi .i64 x.lost.lo .i64 x.lost.hi = some (.ret (.int .i64 (R : Int)))) : ∀ r j fu, s.cavs.len = j + r → r < fu →
  L75x1 (E F (d + 6)) F s (c : Int) p q n m0 fu (k : Int) (j : Int) .i64 x.rad.lo .i64 x.rad.hi .i64 x.vol.lo .i64 x.vol.hi .i64 x.lost.lo .i64 x.lost.hi = some (.ret (.int .i64 ((bif anyF (nearB s c x) r j then k else R : Nat) : Int))) := by
 have h5 := hS.cavs5
 intro r
 induction r with
 | zero =>
  intro j fu h hf
  obtain ⟨fu, rfl⟩ : ∃ k, fu = k + 1 := ⟨fu - 1, by omega⟩
  rw [L75x1s]
  simp only [Int.ofNat_lt, show ¬ j < s.cavs.len by omega, decide_false, cond_false, anyF, wrS (show k < 4611686018427387904 by omega)]
  exact hO
 | succ r ih =>
  intro j fu h hf
  obtain ⟨fu, rfl⟩ : ∃ k, fu = k + 1 := ⟨fu - 1, by omega⟩
  rw [L75x1s]
  have a2 := (hS.cav j (by omega)).2.1
  have p1 := (hS.cav c hc).1
  have p2 := (hS.cav j (by omega)).1
  simp only [Int.ofNat_lt, show j < s.cavs.len by omega, decide_true, cond_true, Int.natCast_nonneg, Int.toNat_natCast, bneN, anyF, s73 F (d + 2) s c j x.rad.hi (s.cavs.el j).rad.hi hc (by omega) p1 p2 (by omega) (by omega) hF, tkOut_ret, tkInt_i, wrS (show j < 4611686018427387904 by omega), ih (j + 1) fu (by omega) (by omega), nearB]
  by_cases hjc : j = c
  ·simp only [decide_eq_true hjc, Bool.not_true, cond_false, Bool.false_and, Bool.false_or]
  ·simp only [decide_eq_false hjc, Bool.not_false, cond_true, Bool.true_and]
   cases decide (distI (s.cavs.el c) (s.cavs.el j) - x.rad.hi - (s.cavs.el j).rad.hi < s.wall) <;> simp only [cond_true, cond_false, Bool.true_or, Bool.false_or]
theorem l75x0 (s : Site) (c : Nat) (p q : Span) (N : Nat) (hN : N ≤ 60) (hS : SiteF s) (hc : c < s.cavs.len) (hp : SpanIn p 0 50000) (hq : SpanIn q 0 10000) (hF : 67108864 < F) : ∀ r k fu x, N = k + r → r < fu → SttOk x →
  L75x0 (E F (d + 6)) F s (c : Int) p q (N : Int) fu (k : Int) .i64 x.rad.lo .i64 x.rad.hi .i64 x.vol.lo .i64 x.vol.hi .i64 x.lost.lo .i64 x.lost.hi = some (.ret (.int .i64 ((keepFrom s c p q r k x : Nat) : Int))) := by
 have h5 := hS.cavs5
 intro r
 induction r with
 | zero =>
  intro k fu x h hf hx
  obtain ⟨fu, rfl⟩ : ∃ k, fu = k + 1 := ⟨fu - 1, by omega⟩
  rw [L75x0s]
  simp only [Int.ofNat_lt, show ¬ k < N by omega, decide_false, cond_false, keepFrom]
 | succ r ih =>
  intro k fu x h hf hx
  obtain ⟨fu, rfl⟩ : ∃ k, fu = k + 1 := ⟨fu - 1, by omega⟩
  rw [L75x0s]
  obtain ⟨g1, g2⟩ := s91 F d s c x p q hS hc hx hp (by omega)
  simp only [Int.ofNat_lt, show k < N by omega, decide_true, cond_true, keepFrom]
  cases hf1 : farB s (s.cavs.el c) p q with
  | true =>
   obtain ⟨m, e⟩ := g2 hf1
   rw [e]
   simp only [tkOut_pan, tkIfc_i, cond_true]
   rfl
  | false =>
   rw [g1 hf1]
   simp only [tkOut_ret, tkAgg_a, tkCons_c, tkInt_i, tkNil_n, decide_true, cond_true, cond_false, Int.toNat_natCast]
   have hm := move1xok hS hx hp.2.1 hq.2.1 hf1
   cases decide ((move1 s (s.cavs.el c) x p q).vol.lo < (s.cavs.el c).floor) with
   | true => simp only [cond_true]
   | false =>
    simp only [cond_false]
    exact l75x1 F d s c p q N hS hc (move1 s (s.cavs.el c) x p q) hm hF fu k (by omega) (keepFrom s c p q r (k + 1) (move1 s (s.cavs.el c) x p q)) (ih (k + 1) fu (move1 s (s.cavs.el c) x p q) (by omega) (by omega) hm) s.cavs.len 0 F (by omega) (by omega)
theorem start_ok {s : Site} (hS : SiteF s) {c : Nat} (hc : c < s.cavs.len) : SttOk (start (s.cavs.el c)) := by
 have := hS.cav c hc
 refine ⟨⟨?_, ?_, ?_⟩, ⟨?_, ?_, ?_⟩, ?_, ?_, ?_⟩ <;> simp only [start] <;> omega
theorem s75 (s : Site) (c : Nat) (p q : Span) (N : Nat) (hN : N ≤ 60) (hS : SiteF s) (hc : c < s.cavs.len) (hp : SpanIn p 0 50000) (hq : SpanIn q 0 10000) (hF : 67108864 < F) :
  (E F (d + 7)).pf 55 [pSite s, .int .i64 (c : Int), .agg (eSpan p), .agg (eSpan q), .int .i64 (N : Int)] = some (.ret (.int .i64 ((keeps s c p q N : Nat) : Int))) := by
 rw [E_pf, t75]
 unfold keeps
 simp only [Int.natCast_nonneg, Int.ofNat_lt, hc, decide_true, cond_true, Int.toNat_natCast, s57 F (d + 5) s hS.cavs1 hS.cavs5 (by omega), tkOut_ret, tkRow_r, outL_len]
 cases decide (p.lo < (s.cavs.el c).gate.lo) with
 | true => rfl
 | false =>
  simp only [cond_false, Bool.false_or]
  cases decide (p.hi > (s.cavs.el c).gate.hi) with
  | true => rfl
  | false =>
   simp only [cond_false, beq_self_eq_true, List.take, List.length, cond_true, tkCons_c, tkInt_i, tkNil_n, outL_el (T := fun i => start (s.cavs.el i)) hc]
   exact l75x0 F d s c p q N hN hS hc hp hq hF N 0 F (start (s.cavs.el c)) (by omega) (by omega) (start_ok hS hc)
theorem s41 (s : Site) (c : Int) (p q : Span) (hs : Small s F) (hF : 67108864 < F) : (E F (d + 8)).pf 23 [.agg (eSite s), .int .i64 c, .agg (eSpan p), .agg (eSpan q)] =
  some (.ret (bif siteB s && (decide (0 ≤ c ∧ c < (s.cavs.len : Int)) && (decide (SpanIn p 0 50000) && decide (SpanIn q 0 10000))) then .tup [.int .i64 ((keeps s c.toNat p q 60 : Nat) : Int), .int .i64 0] else .tup [.int .i64 0, .int .i64 2])) := by
 rw [E_pf, t41]
 simp only [s48 F (d + 1) s hs, tkOut_ret, tkBool_b, s72, s74]
 cases h1 : siteB s with
 | false => rfl
 | true =>
  have hS := (siteB_iff s).1 h1
  have h5 := hS.cavs5
  rw [wrLen hS.cavs1 (by omega), inLen hS.cavs1]
  by_cases h2 : 0 ≤ c ∧ c < (s.cavs.len : Int)
  ·by_cases h3 : SpanIn p 0 50000
   ·by_cases h4 : SpanIn q 0 10000
    ·obtain ⟨c, rfl⟩ := Int.eq_ofNat_of_zero_le h2.1
     have e : (E F (d + 7)).pf 55 [pSite s, .int .i64 (c : Int), .agg (eSpan p), .agg (eSpan q), .int .i64 60] = _ := s75 F d s c p q 60 (by omega) hS (by omega) h3 h4 hF
     simp only [decide_eq_true h2, decide_eq_true h3, decide_eq_true h4, Bool.not_true, cond_false, cond_true, Bool.and_self, e, tkOut_ret, tkInt_i, Int.toNat_natCast]
    ·simp only [decide_eq_true h2, decide_eq_true h3, decide_eq_false h4, Bool.not_true, Bool.not_false, cond_false, cond_true, Bool.and_false]
   ·simp only [decide_eq_true h2, decide_eq_false h3, Bool.not_true, Bool.not_false, cond_false, cond_true, Bool.and_false, Bool.false_and]
  ·simp only [decide_eq_false h2, Bool.not_true, Bool.not_false, cond_false, cond_true, Bool.and_false, Bool.false_and]
end Go.Sim.Cr


namespace Go.Sim.Cr
open Go.Proofs
variable (F d : Nat)
def lst {α : Type} (z : α) (l : List α) : Sl α := ⟨false, l.length, fun i => l.getD (min i (l.length - 1)) z⟩
def gate0 : Span := ⟨6000, 16000⟩
def cavA : Cav := ⟨0, 0, ⟨30000, 31000⟩, ⟨400000, 410000⟩, 20000, 399800, gate0, 3000⟩
def cavZ : Cav := ⟨100, 0, ⟨30000, 30500⟩, ⟨300000, 300000⟩, 20000, 290000, gate0, 3000⟩
def row0 : Row := ⟨0, ⟨0, 10⟩, ⟨0, 0⟩⟩
def heat0 : Heat := ⟨3000, ⟨1000, 1000⟩⟩
def ring0 : Ring := ⟨50, ⟨900, 1000⟩⟩
def site0 : Site where
 cavs := lst cavA [cavA, cavZ]
 rows := lst row0 [row0, ⟨8000, ⟨20, 50⟩, ⟨0, 5⟩⟩, ⟨14000, ⟨100, 200⟩, ⟨10, 30⟩⟩]
 heats := lst heat0 [heat0, ⟨3200, ⟨1000, 1200⟩⟩]
 wall := 38440
 rings := lst ring0 [ring0, ⟨150, ⟨100, 200⟩⟩]
 houses := ⟨false, 1, fun _ => ⟨40, 0, 1⟩⟩
def day0 : Day := ⟨lst zSpan [⟨10000, 12000⟩, ⟨15000, 15000⟩], lst zSpan [⟨3100, 3100⟩, ⟨3100, 3100⟩]⟩
theorem lst_eq {α : Type} (e : α → List V) (wd : Nat) (z : α) (l : List α) (cs : List V) (n : Nat) (hn : l.length = n + 1) (h : ∀ k, k ≤ n → (cs.drop (k * wd)).take wd = e (l.getD k z)) :
  V.row false (n + 1) wd (fun u => (cs.drop (min u n * wd)).take wd) = sl e wd (lst z l) := by
 show V.row false (n + 1) wd _ = V.row false l.length wd fun i => e (l.getD (min i (l.length - 1)) z)
 rw [hn]
 congr 1
 funext u
 rw [h _ (Nat.min_le_right _ _)]
 rfl
theorem s46 : (E F (d + 1)).pf 18 [] = some (.ret (.agg (eSite site0))) := by
 rw [E_pf, t46]
 have e1 := lst_eq eCav 11 cavA [cavA, cavZ] (eCav cavA ++ eCav cavZ) 1 rfl (by intro k hk; match k, hk with | 0, _ => rfl | 1, _ => rfl)
 have e2 := lst_eq eRow 5 row0 [row0, ⟨8000, ⟨20, 50⟩, ⟨0, 5⟩⟩, ⟨14000, ⟨100, 200⟩, ⟨10, 30⟩⟩] (eRow row0 ++ eRow ⟨8000, ⟨20, 50⟩, ⟨0, 5⟩⟩ ++ eRow ⟨14000, ⟨100, 200⟩, ⟨10, 30⟩⟩) 2 rfl (by intro k hk; match k, hk with | 0, _ => rfl | 1, _ => rfl | 2, _ => rfl)
 have e3 := lst_eq eHeat 3 heat0 [heat0, ⟨3200, ⟨1000, 1200⟩⟩] (eHeat heat0 ++ eHeat ⟨3200, ⟨1000, 1200⟩⟩) 1 rfl (by intro k hk; match k, hk with | 0, _ => rfl | 1, _ => rfl)
 have e4 := lst_eq eRing 3 ring0 [ring0, ⟨150, ⟨100, 200⟩⟩] (eRing ring0 ++ eRing ⟨150, ⟨100, 200⟩⟩) 1 rfl (by intro k hk; match k, hk with | 0, _ => rfl | 1, _ => rfl)
 show _ = some (Out.ret (.agg [sl eCav 11 (lst cavA [cavA, cavZ]), sl eRow 5 (lst row0 [row0, ⟨8000, ⟨20, 50⟩, ⟨0, 5⟩⟩, ⟨14000, ⟨100, 200⟩, ⟨10, 30⟩⟩]), sl eHeat 3 (lst heat0 [heat0, ⟨3200, ⟨1000, 1200⟩⟩]), .int .i64 38440, sl eRing 3 (lst ring0 [ring0, ⟨150, ⟨100, 200⟩⟩]), sl eHouse 3 site0.houses]))
 rw [← e1, ← e2, ← e3, ← e4]
 rfl
theorem s47 : (E F (d + 1)).pf 20 [] = some (.ret (.agg (eDay day0))) := by
 rw [E_pf, t47]
 have e1 := lst_eq eSpan 2 zSpan [⟨10000, 12000⟩, ⟨15000, 15000⟩] (eSpan ⟨10000, 12000⟩ ++ eSpan ⟨15000, 15000⟩) 1 rfl (by intro k hk; match k, hk with | 0, _ => rfl | 1, _ => rfl)
 have e2 := lst_eq eSpan 2 zSpan [⟨3100, 3100⟩, ⟨3100, 3100⟩] (eSpan ⟨3100, 3100⟩ ++ eSpan ⟨3100, 3100⟩) 1 rfl (by intro k hk; match k, hk with | 0, _ => rfl | 1, _ => rfl)
 show _ = some (Out.ret (.agg [sl eSpan 2 (lst zSpan [⟨10000, 12000⟩, ⟨15000, 15000⟩]), sl eSpan 2 (lst zSpan [⟨3100, 3100⟩, ⟨3100, 3100⟩])]))
 rw [← e1, ← e2]
 rfl
theorem site0xb : siteB site0 = true := by decide +kernel
theorem day0xok : DayOk site0 day0 := by decide +kernel
theorem far0 : farDay site0 day0 = false := by decide +kernel
def m0 : Sl Stt := moved site0 (begin site0) day0
theorem m0xat : SameStt (m0.el 0) ⟨⟨30000, 31030⟩, ⟨399904, 409992⟩, ⟨8, 99⟩⟩ := by decide +kernel
theorem dist0 : distI cavA cavZ = 100000 := by decide +kernel
theorem sunk0 : (sunk site0 m0 40 0).lo = 0 ∧ (sunk site0 m0 40 0).hi = 2 := by decide +kernel
theorem states0 : StatesOk site0 m0 := by decide +kernel
abbrev days0 : Sl Day := ⟨false, 1, fun _ => day0⟩
theorem faults0 : faults site0 days0 = (⟨0, 7, 0, 0⟩, ⟨0, 1, 0, 0⟩) := by kernel_rfl
theorem keeps0 : keeps site0 0 ⟨10000, 12000⟩ ⟨3100, 3100⟩ 60 = 2 := by decide +kernel
theorem small0 (hF : 67108864 < F) : Small site0 F := by
 constructor
 ·show 2 < 4611686018427387904; omega
 ·show 3 < 4611686018427387904; omega
 ·show 2 < 4611686018427387904; omega
 ·show 2 < 4611686018427387904; omega
 ·show 1 < 4611686018427387904; omega
 ·show 2 < F; omega
 ·show 3 < F; omega
 ·show 2 < F; omega
 ·show 2 < F; omega
 ·show 1 < F; omega
section
variable {R : Type}
theorem pOut (v : V) (f : R) (k kp : V → R) : tkOut (some (.ret v)) f k kp = k v := Eq.trans (Eq.refl _) (Eq.refl _)
theorem pInt (q : IntKind) (n : Int) (f : R) (k : IntKind → Int → R) : tkInt (.int q n) f k = k q n := Eq.trans (Eq.refl _) (Eq.refl _)
theorem pAgg (l : List V) (f : R) (k : List V → R) : tkAgg (.agg l) f k = k l := Eq.trans (Eq.refl _) (Eq.refl _)
theorem pTup (l : List V) (f : R) (k : List V → R) : tkTup (.tup l) f k = k l := Eq.trans (Eq.refl _) (Eq.refl _)
theorem pRow (a : Bool) (n wd : Nat) (g : Nat → List V) (f : R) (k : Bool → Nat → Nat → (Nat → List V) → R) : tkRow (.row a n wd g) f k = k a n wd g := Eq.trans (Eq.refl _) (Eq.refl _)
theorem pCons (v : V) (l : List V) (f : R) (k : V → List V → R) : tkCons (v :: l) f k = k v l := Eq.trans (Eq.refl _) (Eq.refl _)
theorem pNil (f k : R) : tkNil [] f k = k := Eq.trans (Eq.refl _) (Eq.refl _)
theorem pT {α : Type} (a b : α) : (bif true then a else b) = a := Eq.trans (Eq.refl _) (Eq.refl _)
theorem pF {α : Type} (a b : α) : (bif false then a else b) = b := Eq.trans (Eq.refl _) (Eq.refl _)
end
section
variable (hF : 67108864 < F)
include hF
theorem x24 : (E F (d + 7)).pf 17 [.agg (eSite site0)] = some (.ret (.tup [sl eStt 6 (begin site0), .int .i64 0])) := by
 have e24 := s24 F d site0 (small0 F hF) (by omega)
 rwa [site0xb, cond_true] at e24
theorem hB0 : (begin site0).len < Big := by show 2 < 4611686018427387904; omega
theorem pB0 : day0.press.len < Big := by show 2 < 4611686018427387904; omega
theorem wB0 : day0.warm.len < Big := by show 2 < 4611686018427387904; omega
theorem hF0 : (begin site0).len < F := by show 2 < F; omega
theorem pF0 : day0.press.len < F := by show 2 < F; omega
theorem wF0 : day0.warm.len < F := by show 2 < F; omega
theorem x14 : (E F (d + 8)).pf 19 [.agg (eSite site0), sl eStt 6 (begin site0), .agg (eDay day0)] = some (.ret (.tup [sl eStt 6 m0, .int .i64 0])) := by
 have hstart : StatesOk site0 (begin site0) := begin_ok ((siteB_iff _).1 site0xb)
 have e14 := s14 F d site0 (begin site0) day0 (small0 F hF) (hB0 F hF) (hF0 F hF) (pB0 F hF) (wB0 F hF) (pF0 F hF) (wF0 F hF) (by omega)
 rw [site0xb, decide_eq_true hstart, decide_eq_true day0xok, far0] at e14
 exact e14
theorem x37 : (E F (d + 7)).pf 21 [.agg (eSite site0), .int .i64 0, .int .i64 1] = some (.ret (.tup [.agg [.int .i64 38500, .int .i64 40000], .int .i64 0])) := by
 have h1 : (decide ((0 : Int) ≤ 0 ∧ (0 : Int) < (site0.cavs.len : Int)) && (decide ((0 : Int) ≤ 1 ∧ (1 : Int) < (site0.cavs.len : Int)) && !decide ((0 : Int) = 1))) = true := by decide
 have e37 := s37 F d site0 0 1 (small0 F hF) hF
 rw [site0xb, h1] at e37
 refine e37.trans ?_
 have h2 : thickOf site0 (0 : Int).toNat (1 : Int).toNat (site0.cavs.el (0 : Int).toNat).rad (site0.cavs.el (1 : Int).toNat).rad = [.int .i64 (distI cavA cavZ - 31000 - 30500), .int .i64 (distI cavA cavZ - 30000 - 30000)] := rfl
 rw [h2, dist0]
 rfl
theorem x15 : ∃ p : Span, (p.lo = 0 ∧ p.hi = 2) ∧ (E F (d + 7)).pf 22 [.agg (eSite site0), sl eStt 6 m0, .int .i64 40, .int .i64 0] = some (.ret (.tup [.agg (eSpan p), .int .i64 0])) := by
 have hp : decide (Place 40 0) = true := by decide
 have e15 := s15 F d site0 m0 40 0 (small0 F hF) (show (begin site0).len < Big from hB0 F hF) (show (begin site0).len < F from hF0 F hF) (by omega)
 rw [site0xb, decide_eq_true states0, hp] at e15
 exact ⟨sunk site0 m0 40 0, sunk0, e15⟩
theorem x30 : (E F (d + 10)).pf 14 [.agg (eSite site0), sl eDay 2 days0] = some (.ret (.tup [.agg (eFault ⟨0, 7, 0, 0⟩), .agg (eFault ⟨0, 1, 0, 0⟩), .int .i64 0])) := by
 have h1 : decide (60 < days0.len) = false := by decide
 have h2 : DaysOk site0 days0 := fun _ _ => day0xok
 have e30 := s30 F d site0 days0 (small0 F hF) (by intro i _; exact ⟨by show 2 ≤ 10; omega, by show 2 ≤ 10; omega⟩) (by show 1 < 4611686018427387904; omega) (by show 1 < F; omega) hF
 rw [h1, site0xb, decide_eq_true h2, faults0] at e30
 exact e30
theorem x41 : (E F (d + 8)).pf 23 [.agg (eSite site0), .int .i64 0, .agg [.int .i64 10000, .int .i64 12000], .agg [.int .i64 3100, .int .i64 3100]] = some (.ret (.tup [.int .i64 2, .int .i64 0])) := by
 have h1 : (decide ((0 : Int) ≤ 0 ∧ (0 : Int) < (site0.cavs.len : Int)) && (decide (SpanIn ⟨10000, 12000⟩ 0 50000) && decide (SpanIn ⟨3100, 3100⟩ 0 10000))) = true := by decide
 have e41 := s41 F d site0 0 ⟨10000, 12000⟩ ⟨3100, 3100⟩ (small0 F hF) hF
 rw [site0xb, h1, show (0 : Int).toNat = 0 from rfl, keeps0] at e41
 exact e41
set_option maxRecDepth 100000 in
theorem s13 : (E F (d + 11)).pf 7 [] = some (.ret (.bool true)) := by
 obtain ⟨u, ⟨u1, u2⟩, e15⟩ := x15 F (d + 3) hF
 have e24 := x24 F (d + 3) hF
 have e14 := x14 F (d + 2) hF
 have e37 := x37 F (d + 3) hF
 have e30 := x30 F d hF
 have e41 := x41 F (d + 2) hF
 obtain ⟨q1, q2, q3, q4, q5, q6⟩ := m0xat
 have hm : m0.len = 2 := rfl
 rw [E_pf, t13]
 generalize hmm : m0 = m at *
 generalize hss : site0 = s at *
 simp only [s46 F (d + 9), s47 F (d + 9), hss, pOut, pAgg, pTup, pCons, pRow, pInt, pNil, e24, e14, e37, e15, e30, e41]
 have b0 : ((0 : Int) != 0) = false := rfl
 have b1 : (((m.len : Nat) : Int) != 2) = false := by rw [hm]; rfl
 have b22 : ((2 : Int) != 2) = false := rfl
 have b6 : (6 == 6) = true := rfl
 have bl : decide ((0 : Int) < ((m.len : Nat) : Int)) = true := by rw [hm]; rfl
 have bt : ((List.take 6 (eStt (m.el 0))).length == 6) = true := rfl
 have ht : List.take 6 (eStt (m.el 0)) = eStt (m.el 0) := rfl
 simp only [decide_true, pT, pF, b0, b1, b22, b6, bl, bt]
 simp only [ht, pCons, pInt, pNil, decide_true, pT, q1, q2, q3, q4, q5, q6, u1, u2]
 rfl
end
end Go.Sim.Cr


namespace Go.Sim.Cr
open Go.Proofs
variable (F d : Nat)
theorem cNb (a b : Bool) : (bif !a then some (Out.ret (.bool false)) else some (.ret (.bool b))) = some (.ret (.bool (a && b))) := by cases a <;> rfl
def houseP (s : Site) (i : Nat) : Bool := decide (Place (s.houses.el i).x (s.houses.el i).y) && decide (0 ≤ (s.houses.el i).most ∧ (s.houses.el i).most ≤ 1000000)
def rowP (s : Site) : Nat → Bool
 | 0 => !decide ((s.rows.el 0).deficit > 50000) && (decide (SpanIn (s.rows.el 0).rate 0 100000) && decide (SpanIn (s.rows.el 0).spall 0 1000))
 | j + 1 => !decide ((s.rows.el (j + 1)).deficit > 50000) && (decide (SpanIn (s.rows.el (j + 1)).rate 0 100000) && (decide (SpanIn (s.rows.el (j + 1)).spall 0 1000) &&
   (!decide ((s.rows.el (j + 1)).deficit ≤ (s.rows.el j).deficit) && (decide ((s.rows.el j).rate.lo ≤ (s.rows.el (j + 1)).rate.lo ∧ (s.rows.el j).rate.hi ≤ (s.rows.el (j + 1)).rate.hi) &&
    decide ((s.rows.el j).spall.lo ≤ (s.rows.el (j + 1)).spall.lo ∧ (s.rows.el j).spall.hi ≤ (s.rows.el (j + 1)).spall.hi)))))
def heatP (s : Site) : Nat → Bool
 | 0 => decide (0 ≤ (s.heats.el 0).warmth ∧ (s.heats.el 0).warmth ≤ 10000) && decide (SpanIn (s.heats.el 0).factor 0 10000)
 | j + 1 => decide (0 ≤ (s.heats.el (j + 1)).warmth ∧ (s.heats.el (j + 1)).warmth ≤ 10000) && (decide (SpanIn (s.heats.el (j + 1)).factor 0 10000) &&
   (!decide ((s.heats.el (j + 1)).warmth ≤ (s.heats.el j).warmth) && decide ((s.heats.el j).factor.lo ≤ (s.heats.el (j + 1)).factor.lo ∧ (s.heats.el j).factor.hi ≤ (s.heats.el (j + 1)).factor.hi)))
def ringP (s : Site) : Nat → Bool
 | 0 => decide (0 ≤ (s.rings.el 0).away ∧ (s.rings.el 0).away ≤ 40000) && decide (SpanIn (s.rings.el 0).share 0 1000000)
 | j + 1 => decide (0 ≤ (s.rings.el (j + 1)).away ∧ (s.rings.el (j + 1)).away ≤ 40000) && (decide (SpanIn (s.rings.el (j + 1)).share 0 1000000) && !decide ((s.rings.el (j + 1)).away ≤ (s.rings.el j).away))
theorem l16x5 (s : Site) (hs : Small s F) : ∀ n i fu, s.houses.len = i + n → n < fu → L16x5 (E F (d + 2)) F s fu (i : Int) = some (.ret (.bool (allF (houseP s) true n i))) := by
 have hB := hs.houses
 intro n
 induction n with
 | zero =>
  intro i fu h hf
  obtain ⟨fu, rfl⟩ : ∃ k, fu = k + 1 := ⟨fu - 1, by omega⟩
  rw [L16x5s]
  simp only [Int.ofNat_lt, show ¬ i < s.houses.len by omega, decide_false, cond_false, allF]
 | succ n ih =>
  intro i fu h hf
  obtain ⟨fu, rfl⟩ : ∃ k, fu = k + 1 := ⟨fu - 1, by omega⟩
  rw [L16x5s]
  simp only [Int.ofNat_lt, show i < s.houses.len by omega, decide_true, cond_true, Int.natCast_nonneg, Int.toNat_natCast, s18, s54, tkOut_ret, tkBool_b, wrS (show i < Big by omega), ih (i + 1) fu (by omega) (by omega), cNb, allF, houseP, Bool.and_assoc]
theorem gt0 (j : Nat) : decide (((j + 1 : Nat) : Int) > 0) = true := decide_eq_true (by omega)
theorem l16x4 (s : Site) (hs : Small s F) : ∀ n i fu, s.rings.len = i + n → n < fu → L16x4 (E F (d + 2)) F s fu (i : Int) = some (.ret (.bool (allF (ringP s) (allF (houseP s) true s.houses.len 0) n i))) := by
 have hB := hs.rings
 intro n
 induction n with
 | zero =>
  intro i fu h hf
  obtain ⟨fu, rfl⟩ : ∃ k, fu = k + 1 := ⟨fu - 1, by omega⟩
  rw [L16x4s]
  simp only [Int.ofNat_lt, show ¬ i < s.rings.len by omega, decide_false, cond_false, allF]
  exact l16x5 F d s hs s.houses.len 0 F (by omega) hs.housesF
 | succ n ih =>
  intro i fu h hf
  obtain ⟨fu, rfl⟩ : ∃ k, fu = k + 1 := ⟨fu - 1, by omega⟩
  rw [L16x4s]
  simp only [Int.ofNat_lt, show i < s.rings.len by omega, decide_true, cond_true, Int.natCast_nonneg, Int.toNat_natCast, s54, s43, tkOut_ret, tkBool_b, wrS (show i < Big by omega), ih (i + 1) fu (by omega) (by omega), allF]
  cases i with
  | zero => simp only [Int.natCast_zero, show decide ((0 : Int) > 0) = false from rfl, cond_false, cNb, ringP, Bool.and_assoc]
  | succ j =>
   simp only [gt0, cond_true, wrP j (by omega), Int.natCast_nonneg, Int.ofNat_lt, show j < s.rings.len by omega, decide_true, Int.toNat_natCast, cNand, cNb, Bool.not_not, ringP, Bool.and_assoc]
theorem l16x3 (s : Site) (hs : Small s F) : ∀ n i fu, s.heats.len = i + n → n < fu → L16x3 (E F (d + 2)) F s fu (i : Int) = some (.ret (.bool (allF (heatP s) (allF (ringP s) (allF (houseP s) true s.houses.len 0) s.rings.len 0) n i))) := by
 have hB := hs.heats
 intro n
 induction n with
 | zero =>
  intro i fu h hf
  obtain ⟨fu, rfl⟩ : ∃ k, fu = k + 1 := ⟨fu - 1, by omega⟩
  rw [L16x3s]
  simp only [Int.ofNat_lt, show ¬ i < s.heats.len by omega, decide_false, cond_false, allF]
  exact l16x4 F d s hs s.rings.len 0 F (by omega) hs.ringsF
 | succ n ih =>
  intro i fu h hf
  obtain ⟨fu, rfl⟩ : ∃ k, fu = k + 1 := ⟨fu - 1, by omega⟩
  rw [L16x3s]
  simp only [Int.ofNat_lt, show i < s.heats.len by omega, decide_true, cond_true, Int.natCast_nonneg, Int.toNat_natCast, s54, s43, s55, tkOut_ret, tkBool_b, wrS (show i < Big by omega), ih (i + 1) fu (by omega) (by omega), allF]
  cases i with
  | zero => simp only [Int.natCast_zero, show decide ((0 : Int) > 0) = false from rfl, cond_false, cNb, heatP, Bool.and_assoc]
  | succ j =>
   simp only [gt0, cond_true, wrP j (by omega), Int.natCast_nonneg, Int.ofNat_lt, show j < s.heats.len by omega, decide_true, Int.toNat_natCast, cNand, cNb, Bool.not_not, heatP, Bool.and_assoc]
theorem l16x2 (s : Site) (hs : Small s F) : ∀ n i fu, s.rows.len = i + n → n < fu → L16x2 (E F (d + 2)) F s fu (i : Int) = some (.ret (.bool (allF (rowP s) (allF (heatP s) (allF (ringP s) (allF (houseP s) true s.houses.len 0) s.rings.len 0) s.heats.len 0) n i))) := by
 have hB := hs.rows
 intro n
 induction n with
 | zero =>
  intro i fu h hf
  obtain ⟨fu, rfl⟩ : ∃ k, fu = k + 1 := ⟨fu - 1, by omega⟩
  rw [L16x2s]
  simp only [Int.ofNat_lt, show ¬ i < s.rows.len by omega, decide_false, cond_false, allF]
  exact l16x3 F d s hs s.heats.len 0 F (by omega) hs.heatsF
 | succ n ih =>
  intro i fu h hf
  obtain ⟨fu, rfl⟩ : ∃ k, fu = k + 1 := ⟨fu - 1, by omega⟩
  rw [L16x2s]
  simp only [Int.ofNat_lt, show i < s.rows.len by omega, decide_true, cond_true, Int.natCast_nonneg, Int.toNat_natCast, s54, s43, s55, tkOut_ret, tkBool_b, wrS (show i < Big by omega), ih (i + 1) fu (by omega) (by omega), allF]
  cases i with
  | zero => simp only [Int.natCast_zero, show decide ((0 : Int) > 0) = false from rfl, cond_false, cNand, cNb, Bool.not_not, rowP, Bool.and_assoc]
  | succ j =>
   simp only [gt0, cond_true, wrP j (by omega), Int.natCast_nonneg, Int.ofNat_lt, show j < s.rows.len by omega, decide_true, Int.toNat_natCast, cNand, cNb, Bool.not_not, rowP, Bool.and_assoc]
def sameB (s : Site) (i k : Nat) : Bool := decide ((s.cavs.el k).x = (s.cavs.el i).x) && decide ((s.cavs.el k).y = (s.cavs.el i).y)
theorem l16x1 (s : Site) (hs : Small s F) (m0 i : Nat) (hi : i < s.cavs.len) (R : Bool) (a2 a3 a4 a5 a6 a7 a8 a9 a10 : Int) (hO : L16x0 (E F (d + 2)) F s m0 ((i + 1 : Nat) : Int) = some (.ret (.bool R))) : ∀ n k fu, i = k + n → n < fu →
  L16x1 (E F (d + 2)) F s m0 fu (i : Int) (k : Int) (s.cavs.el i).x (s.cavs.el i).y a2 a3 a4 a5 a6 a7 a8 a9 a10 = some (.ret (.bool (!anyF (sameB s i) n k && R))) := by
 have hB := hs.cavs
 intro n
 induction n with
 | zero =>
  intro k fu h hf
  obtain ⟨fu, rfl⟩ : ∃ k, fu = k + 1 := ⟨fu - 1, by omega⟩
  rw [L16x1s]
  simp only [Int.ofNat_lt, show ¬ k < i by omega, decide_false, cond_false, anyF, wrS (show i < Big by omega), hO, Bool.not_false, Bool.true_and]
 | succ n ih =>
  intro k fu h hf
  obtain ⟨fu, rfl⟩ : ∃ k, fu = k + 1 := ⟨fu - 1, by omega⟩
  rw [L16x1s]
  simp only [Int.ofNat_lt, show k < i by omega, show k < s.cavs.len by omega, decide_true, cond_true, Int.natCast_nonneg, Int.toNat_natCast, anyF, wrS (show k < Big by omega), ih (k + 1) fu (by omega) (by omega), beqI, sameB]
  cases decide ((s.cavs.el k).x = (s.cavs.el i).x) <;> cases decide ((s.cavs.el k).y = (s.cavs.el i).y) <;> rfl
def cavP (s : Site) (i : Nat) : Bool := decide (CavOk (s.cavs.el i)) && !anyF (sameB s i) i 0
def allP (s : Site) : Bool := allF (rowP s) (allF (heatP s) (allF (ringP s) (allF (houseP s) true s.houses.len 0) s.rings.len 0) s.heats.len 0) s.rows.len 0
theorem l16x0 (s : Site) (hs : Small s F) : ∀ n i fu, s.cavs.len = i + n → n < fu → L16x0 (E F (d + 2)) F s fu (i : Int) = some (.ret (.bool (allF (cavP s) (allP s) n i))) := by
 have hB := hs.cavs
 have hC := hs.cavsF
 intro n
 induction n with
 | zero =>
  intro i fu h hf
  obtain ⟨fu, rfl⟩ : ∃ k, fu = k + 1 := ⟨fu - 1, by omega⟩
  rw [L16x0s]
  simp only [Int.ofNat_lt, show ¬ i < s.cavs.len by omega, decide_false, cond_false, allF]
  exact l16x2 F d s hs s.rows.len 0 F (by omega) hs.rowsF
 | succ n ih =>
  intro i fu h hf
  obtain ⟨fu, rfl⟩ : ∃ k, fu = k + 1 := ⟨fu - 1, by omega⟩
  rw [L16x0s]
  have g := fun a2 a3 a4 a5 a6 a7 a8 a9 a10 => l16x1 F d s hs fu i (by omega) (allF (cavP s) (allP s) n (i + 1)) a2 a3 a4 a5 a6 a7 a8 a9 a10 (ih (i + 1) fu (by omega) (by omega)) i 0 F (by omega) (by omega)
  simp only [Int.natCast_zero] at g
  simp only [Int.ofNat_lt, show i < s.cavs.len by omega, decide_true, cond_true, Int.natCast_nonneg, Int.toNat_natCast, s18, s54, s43, tkOut_ret, tkBool_b, g, cNb, allF, cavP, CavOk, Bool.decide_and, Bool.and_assoc]
theorem sp_eq (s : Site) : (decide (1 ≤ (s.cavs.len : Int) ∧ (s.cavs.len : Int) ≤ 5) && (decide (1 ≤ (s.rows.len : Int) ∧ (s.rows.len : Int) ≤ 8) && (decide (1 ≤ (s.heats.len : Int) ∧ (s.heats.len : Int) ≤ 8) && (decide (0 ≤ s.wall ∧ s.wall ≤ 1000000) &&
  (!decide ((s.rings.len : Int) > 8) && (!decide ((s.houses.len : Int) > 5) && (decide ((s.rows.el 0).deficit = 0) && allF (cavP s) (allP s) s.cavs.len 0))))))) = siteB s := by
 apply b2
 rw [siteB_iff]
 simp only [allP, cavP, houseP, Bool.and_eq_true, allF_0, decide_eq_true_iff, Bool.not_eq_true', decide_eq_false_iff_not, and_true]
 constructor
 ·rintro ⟨h1, h2, h3, h4, h5, h6, h7, h8, h9, h10, h11, h12⟩
  have rows : ∀ i, i < s.rows.len → 0 ≤ (s.rows.el i).deficit ∧ rowB s i = true := by
   intro i
   induction i with
   | zero =>
    intro hi
    have g := h9 0 hi
    simp only [rowP, rowB, rowStep, Bool.and_eq_true, decide_eq_true_iff, Bool.not_eq_true', decide_eq_false_iff_not] at g ⊢
    exact ⟨by omega, by omega, g.2.1, g.2.2, h7⟩
   | succ j ih =>
    intro hi
    have g := h9 (j + 1) hi
    have g0 := (ih (by omega)).1
    simp only [rowP, rowB, rowStep, Bool.and_eq_true, decide_eq_true_iff, Bool.not_eq_true', decide_eq_false_iff_not] at g ⊢
    exact ⟨by omega, by omega, g.2.1, g.2.2.1, by omega, g.2.2.2.2.1, g.2.2.2.2.2⟩
  refine ⟨by omega, by omega, fun i hi => (h8 i hi).1, ?_, h4, by omega, fun i hi => h12 i hi, fun i hi => (rows i hi).2, ?_, ?_, by omega, by omega, by omega, by omega, by omega⟩
  ·intro i k hi hk he
   have := (h8 i hi).2
   have ha : anyF (sameB s i) i 0 = true := (anyF_eq _ _ _).2 ⟨k, Nat.zero_le _, by omega, by simp only [sameB, Bool.and_eq_true, decide_eq_true_iff]; exact he⟩
   rw [ha] at this; cases this
  ·intro i hi
   have g := h10 i hi
   cases i with
   | zero => simp only [heatP, heatB, heatStep, Bool.and_eq_true, decide_eq_true_iff] at g ⊢; exact ⟨g.1, g.2, trivial⟩
   | succ j =>
    simp only [heatP, heatB, heatStep, Bool.and_eq_true, decide_eq_true_iff, Bool.not_eq_true', decide_eq_false_iff_not] at g ⊢
    exact ⟨g.1, g.2.1, by omega, g.2.2.2⟩
  ·intro i hi
   have g := h11 i hi
   cases i with
   | zero => simp only [ringP, ringB, ringStep, Bool.and_eq_true, decide_eq_true_iff] at g ⊢; exact ⟨g.1, g.2, trivial⟩
   | succ j =>
    simp only [ringP, ringB, ringStep, Bool.and_eq_true, decide_eq_true_iff, Bool.not_eq_true', decide_eq_false_iff_not] at g ⊢
    exact ⟨g.1, g.2.1, by omega⟩
 ·intro h
  have g0 : (s.rows.el 0).deficit = 0 := by
   have := h.row 0 h.rows1
   simp only [rowB, rowStep, Bool.and_eq_true, decide_eq_true_iff] at this
   exact this.2.2.2
  have a1 := h.cavs1
  have a2 := h.cavs5
  have a3 := h.rows1
  have a4 := h.rows8
  have a5 := h.heats1
  have a6 := h.heats8
  have a7 := h.rings8
  have a8 := h.houses5
  refine ⟨by omega, by omega, by omega, h.wall, by omega, by omega, g0, fun i hi => ⟨h.cav i hi, ?_⟩, fun i hi => ?_, fun i hi => ?_, fun i hi => ?_, fun i hi => h.house i hi⟩
  ·cases ha : anyF (sameB s i) i 0 with
   | false => rfl
   | true =>
    obtain ⟨k, _, hk, e⟩ := (anyF_eq _ _ _).1 ha
    simp only [sameB, Bool.and_eq_true, decide_eq_true_iff] at e
    exact (h.apart i k hi (by omega) e).elim
  ·have g := h.row i hi
   cases i with
   | zero =>
    simp only [rowP, rowB, rowStep, Bool.and_eq_true, decide_eq_true_iff, Bool.not_eq_true', decide_eq_false_iff_not] at g ⊢
    exact ⟨by omega, g.2.1, g.2.2.1⟩
   | succ j =>
    simp only [rowP, rowB, rowStep, Bool.and_eq_true, decide_eq_true_iff, Bool.not_eq_true', decide_eq_false_iff_not] at g ⊢
    exact ⟨by omega, g.2.1, g.2.2.1, by omega, g.2.2.2.2.1, g.2.2.2.2.2⟩
  ·have g := h.heat i hi
   cases i with
   | zero => simp only [heatP, heatB, heatStep, Bool.and_eq_true, decide_eq_true_iff] at g ⊢; exact ⟨g.1, g.2.1⟩
   | succ j =>
    simp only [heatP, heatB, heatStep, Bool.and_eq_true, decide_eq_true_iff, Bool.not_eq_true', decide_eq_false_iff_not] at g ⊢
    exact ⟨g.1, g.2.1, by omega, g.2.2.2⟩
  ·have g := h.ring i hi
   cases i with
   | zero => simp only [ringP, ringB, ringStep, Bool.and_eq_true, decide_eq_true_iff] at g ⊢; exact ⟨g.1, g.2.1⟩
   | succ j =>
    simp only [ringP, ringB, ringStep, Bool.and_eq_true, decide_eq_true_iff, Bool.not_eq_true', decide_eq_false_iff_not] at g ⊢
    exact ⟨g.1, g.2.1, by omega⟩
theorem s16 (s : Site) (hs : Small s F) : (E F (d + 3)).pf 9 [.agg (eSite s)] = some (.ret (.bool (siteB s))) := by
 have hC := hs.cavsF
 rw [E_pf, t16, ← sp_eq]
 simp only [s54, tkOut_ret, tkBool_b]
 cases h1 : decide (1 ≤ (s.cavs.len : Int) ∧ (s.cavs.len : Int) ≤ 5) <;> simp only [Bool.not_false, Bool.not_true, cond_true, cond_false, Bool.false_and, Bool.true_and]
 cases h2 : decide (1 ≤ (s.rows.len : Int) ∧ (s.rows.len : Int) ≤ 8) <;> simp only [Bool.not_false, Bool.not_true, cond_true, cond_false, Bool.false_and, Bool.true_and]
 have hr : 0 < s.rows.len := by have := of_decide_eq_true h2; omega
 simp only [zlt hr, cond_true, show L16x0 (E F (d + 2)) F s F 0 = _ from l16x0 F d s hs s.cavs.len 0 F (by omega) hs.cavsF, bne, beqI, cNb, cNand, Bool.not_not]
end Go.Sim.Cr


namespace Go.Sim.Cr
open Go.Proofs
variable (F d : Nat)
theorem z0 : (((0 : Nat) : Int) == 0) = true := rfl
end Go.Sim.Cr


namespace Go.Sim.Cr
open Go.Proofs
variable (F d : Nat)
def isM (b : Bool) (m : Mark) : Bool := bif b then m.certain else m.possible
abbrev eFaultZ (f : Option Fault) : V := match f with | some f => .tup [.agg (eFault f), .bool true] | none => .tup [.agg (eFault ⟨0, 0, 0, 0⟩), .bool false]
theorem fR_cons {n k : Int} {is : Mark → Bool} {m : Mark} {ms : List Mark} {r : List (Int × List Mark)} : faultR n is ((k, m :: ms) :: r) = bif is m then some ⟨n, k, m.at_, m.wth⟩ else faultR n is ((k, ms) :: r) := by
 simp only [faultR, List.find?_cons]
 cases is m <;> rfl
theorem fR_nil {n k : Int} {is : Mark → Bool} {r : List (Int × List Mark)} : faultR n is ((k, []) :: r) = faultR n is r := rfl
theorem s103 (a c : Int) (b : Bool) : (E F (d + 1)).pf 128 [.agg [.int .i64 a, .int .i64 c], .bool b] = some (.ret (.int .i64 (bif b then c else a))) := by
 have h := t103 (E F d) F ⟨a, c⟩ b
 rw [E_pf]
 refine h.trans ?_
 cases b <;> rfl
theorem maxI_gt (a b c : Int) : decide (maxI a b > c) = (decide (a > c) || decide (b > c)) := by
 apply b2
 simp only [Bool.or_eq_true, decide_eq_true_iff]
 unfold maxI
 split <;> omega
def prevOf (l : Sl Day) : Nat → Option (Sl Span)
 | 0 => none
 | k + 1 => some (l.el k).press
theorem predK (k : Nat) (h : k < 4611686018427387904) : IntKind.i64.wrap (((k + 1 : Nat) : Int) - 1) = (k : Int) := by rw [wr (by omega)]; omega
theorem l68x2z (s : Site) (ds : Sl Day) (l : Sl Stt) (b : Bool) (i fu : Nat) : L68x2 (E F d) F s ((0 : Nat) : Int) ds l b (fu + 1) (i : Int) = some (.ret (eFaultZ none)) := by
 rw [L68x2s]
 cases decide ((i : Int) < (s.cavs.len : Int)) <;> rfl
theorem l68x2 (s : Site) (ds : Sl Day) (l : Sl Stt) (b : Bool) (k : Nat) (hS : SiteF s) (hD : DaysOk s ds) (hk : k + 1 < ds.len) (hB : ds.len ≤ 100) : ∀ r i fu, s.cavs.len = i + r → r < fu →
  L68x2 (E F d) F s ((k + 1 : Nat) : Int) ds l b fu (i : Int) = some (.ret (eFaultZ (faultR ((k + 1 : Nat) : Int) (isM b) [(4, (List.range' i r).map (fastM s (ds.el (k + 1)) (ds.el k).press))]))) := by
 have h5 := hS.cavs5
 intro r
 induction r with
 | zero =>
  intro i fu h hf
  obtain ⟨fu, rfl⟩ : ∃ k, fu = k + 1 := ⟨fu - 1, by omega⟩
  rw [L68x2s]
  simp only [Int.ofNat_lt, show ¬ i < s.cavs.len by omega, decide_false, cond_false, List.range'_zero, List.map_nil]
  rfl
 | succ r ih =>
  intro i fu h hf
  obtain ⟨fu, rfl⟩ : ∃ k, fu = k + 1 := ⟨fu - 1, by omega⟩
  rw [L68x2s]
  have d1 := hD (k + 1) hk
  have d2 := hD k (by omega)
  have q1 := d1.1.2 i (by have := d1.1.1; omega)
  have q2 := d2.1.2 i (by have := d2.1.1; omega)
  have l1 := d1.1.1
  have l2 := d2.1.1
  simp only [Int.ofNat_lt, show i < s.cavs.len by omega, show i < (ds.el (k + 1)).press.len by omega, show i < (ds.el k).press.len by omega, show k < ds.len by omega, gt0, decide_true, cond_true, Int.natCast_nonneg, Int.toNat_natCast, predK k (by omega), wrS (show i < 4611686018427387904 by omega),
   wr (show _ ∧ ((ds.el (k + 1)).press.el i).hi - ((ds.el k).press.el i).lo ≤ _ by omega), wr (show _ ∧ ((ds.el k).press.el i).hi - ((ds.el (k + 1)).press.el i).lo ≤ _ by omega), wr (show _ ∧ ((ds.el (k + 1)).press.el i).lo - ((ds.el k).press.el i).hi ≤ _ by omega), wr (show _ ∧ ((ds.el k).press.el i).lo - ((ds.el (k + 1)).press.el i).hi ≤ _ by omega), ih (i + 1) fu (by omega) (by omega)]
  rw [List.range'_succ, List.map_cons, fR_cons]
  cases b with
  | false =>
   rw [show isM false (fastM s (ds.el (k + 1)) (ds.el k).press i) = _ from maxI_gt _ _ _]
   cases decide (((ds.el (k + 1)).press.el i).hi - ((ds.el k).press.el i).lo > (s.cavs.el i).change) <;> cases decide (((ds.el k).press.el i).hi - ((ds.el (k + 1)).press.el i).lo > (s.cavs.el i).change) <;> rfl
  | true =>
   rw [show isM true (fastM s (ds.el (k + 1)) (ds.el k).press i) = _ from maxI_gt _ _ _]
   cases decide (((ds.el (k + 1)).press.el i).lo - ((ds.el k).press.el i).hi > (s.cavs.el i).change) <;> cases decide (((ds.el k).press.el i).lo - ((ds.el (k + 1)).press.el i).hi > (s.cavs.el i).change) <;> rfl
theorem l68x1 (s : Site) (ds : Sl Day) (l : Sl Stt) (b : Bool) (n : Nat) (hS : SiteF s) (hy : DayOk s (ds.el n)) (rest : List (Int × List Mark)) (hR : L68x2 (E F d) F s (n : Int) ds l b F 0 = some (.ret (eFaultZ (faultR (n : Int) (isM b) rest)))) : ∀ r i fu, s.cavs.len = i + r → r < fu →
  L68x1 (E F d) F s (n : Int) ds l b fu (i : Int) = some (.ret (eFaultZ (faultR (n : Int) (isM b) ((3, (List.range' i r).map (gateM s (ds.el n))) :: rest)))) := by
 have h5 := hS.cavs5
 intro r
 induction r with
 | zero =>
  intro i fu h hf
  obtain ⟨fu, rfl⟩ : ∃ k, fu = k + 1 := ⟨fu - 1, by omega⟩
  rw [L68x1s]
  simp only [Int.ofNat_lt, show ¬ i < s.cavs.len by omega, decide_false, cond_false, List.range'_zero, List.map_nil, fR_nil, hR]
 | succ r ih =>
  intro i fu h hf
  obtain ⟨fu, rfl⟩ : ∃ k, fu = k + 1 := ⟨fu - 1, by omega⟩
  rw [L68x1s]
  have l1 := hy.1.1
  simp only [Int.ofNat_lt, show i < s.cavs.len by omega, show i < (ds.el n).press.len by omega, decide_true, cond_true, Int.natCast_nonneg, Int.toNat_natCast, wrS (show i < 4611686018427387904 by omega), ih (i + 1) fu (by omega) (by omega)]
  rw [List.range'_succ, List.map_cons, fR_cons]
  cases b with
  | false =>
   rw [show isM false (gateM s (ds.el n) i) = (decide (((ds.el n).press.el i).lo < (s.cavs.el i).gate.lo) || decide (((ds.el n).press.el i).hi > (s.cavs.el i).gate.hi)) from rfl]
   cases decide (((ds.el n).press.el i).lo < (s.cavs.el i).gate.lo) <;> cases decide (((ds.el n).press.el i).hi > (s.cavs.el i).gate.hi) <;> rfl
  | true =>
   rw [show isM true (gateM s (ds.el n) i) = (decide (((ds.el n).press.el i).hi < (s.cavs.el i).gate.lo) || decide (((ds.el n).press.el i).lo > (s.cavs.el i).gate.hi)) from rfl]
   cases decide (((ds.el n).press.el i).hi < (s.cavs.el i).gate.lo) <;> cases decide (((ds.el n).press.el i).lo > (s.cavs.el i).gate.hi) <;> rfl
theorem out_none (s : Site) (y : Day) (n k : Int) (rest : List (Int × List Mark)) : ∀ r i, faultR n (isM true) ((k, (List.range' i r).map (outM s y)) :: rest) = faultR n (isM true) rest := by
 intro r
 induction r with
 | zero => intro i; rfl
 | succ r ih =>
  intro i
  rw [List.range'_succ, List.map_cons, fR_cons, ih]
  rfl
theorem l68x0 (s : Site) (ds : Sl Day) (l : Sl Stt) (b : Bool) (n : Nat) (hS : SiteF s) (hy : DayOk s (ds.el n)) (rest : List (Int × List Mark)) (hR : L68x1 (E F (d + 2)) F s (n : Int) ds l b F 0 = some (.ret (eFaultZ (faultR (n : Int) (isM b) rest)))) : ∀ r i fu, s.cavs.len = i + r → r < fu →
  L68x0 (E F (d + 2)) F s (n : Int) ds l b fu (i : Int) = some (.ret (eFaultZ (faultR (n : Int) (isM b) ((2, (List.range' i r).map (outM s (ds.el n))) :: rest)))) := by
 have h5 := hS.cavs5
 intro r
 induction r with
 | zero =>
  intro i fu h hf
  obtain ⟨fu, rfl⟩ : ∃ k, fu = k + 1 := ⟨fu - 1, by omega⟩
  rw [L68x0s]
  simp only [Int.ofNat_lt, show ¬ i < s.cavs.len by omega, decide_false, cond_false, List.range'_zero, List.map_nil, fR_nil, hR]
 | succ r ih =>
  intro i fu h hf
  obtain ⟨fu, rfl⟩ : ∃ k, fu = k + 1 := ⟨fu - 1, by omega⟩
  rw [L68x0s]
  have l1 := hy.1.1
  have l2 := hy.2.1
  cases b with
  | true =>
   simp only [Int.ofNat_lt, show i < s.cavs.len by omega, decide_true, cond_true, Bool.not_true, cond_false, hR, out_none]
  | false =>
   simp only [Int.ofNat_lt, show i < s.cavs.len by omega, show i < (ds.el n).press.len by omega, show i < (ds.el n).warm.len by omega, decide_true, cond_true, Bool.not_false, Int.natCast_nonneg, Int.toNat_natCast, wrS (show i < 4611686018427387904 by omega), ih (i + 1) fu (by omega) (by omega),
    s32 F d s i ((ds.el n).press.el i) ((ds.el n).warm.el i) hS (by omega) (hy.1.2 i (by omega)), tkOut_ret, tkBool_b]
   rw [List.range'_succ, List.map_cons, fR_cons]
   rw [show isM false (outM s (ds.el n) i) = farB s (s.cavs.el i) ((ds.el n).press.el i) ((ds.el n).warm.el i) from rfl]
   cases farB s (s.cavs.el i) ((ds.el n).press.el i) ((ds.el n).warm.el i) <;> rfl
def earlyMs (s : Site) (y : Day) (b : Option (Sl Span)) : List (Int × List Mark) :=
 [(2, (List.range' 0 s.cavs.len).map (outM s y)), (3, (List.range' 0 s.cavs.len).map (gateM s y)), (4, fastMs s y b)]
noncomputable def lateMs (s : Site) (m : Option (Sl Stt)) : List (Int × List Mark) := [(5, smallMs s m), (6, thinMs s m), (7, sunkMs s m)]
theorem marks_parts (s : Site) (y : Day) (b : Option (Sl Span)) (m : Option (Sl Stt)) : marksOf s y b m = earlyMs s y b ++ lateMs s m := rfl
theorem s68 (s : Site) (ds : Sl Day) (l : Sl Stt) (b : Bool) (n : Nat) (hS : SiteF s) (hD : DaysOk s ds) (hn : n < ds.len) (hB : ds.len ≤ 100) (hF : 8 < F) :
  (E F (d + 3)).pf 117 [.agg (eSite s), .agg [.int .i64 (n : Int), sl eDay 2 ds, sl eStt 6 l], .bool b] = some (.ret (eFaultZ (faultR (n : Int) (isM b) (earlyMs s (ds.el n) (prevOf ds n))))) := by
 have h5 := hS.cavs5
 have hy := hD n hn
 rw [E_pf, t68]
 simp only [Int.natCast_nonneg, Int.ofNat_lt, hn, decide_true, cond_true]
 have h2 : L68x2 (E F (d + 2)) F s (n : Int) ds l b F 0 = some (.ret (eFaultZ (faultR (n : Int) (isM b) [(4, fastMs s (ds.el n) (prevOf ds n))]))) := by
  cases n with
  | zero =>
   obtain ⟨fu, rfl⟩ : ∃ k, F = k + 1 := ⟨F - 1, by omega⟩
   exact l68x2z (fu + 1) (d + 2) s ds l b 0 fu
  | succ k => exact l68x2 F (d + 2) s ds l b k hS hD hn hB s.cavs.len 0 F (by omega) (by omega)
 have h1 := l68x1 F (d + 2) s ds l b n hS hy _ h2 s.cavs.len 0 F (by omega) (by omega)
 exact l68x0 F d s ds l b n hS hy _ h1 s.cavs.len 0 F (by omega) (by omega)
section
variable (s : Site) (ds : Sl Day) (m : Sl Stt) (b : Bool) (n : Int)
theorem l69x3 (hS : SiteF s) (hL : StatesOk s m) (hF : 8 < F) : ∀ r i fu, s.houses.len = i + r → r < fu →
  L69x3 (E F (d + 3)) F s n ds m b fu (i : Int) = some (.ret (eFaultZ (faultR n (isM b) [(7, (List.range' i r).map (sunkM s m))]))) := by
 have h5 := hS.houses5
 intro r
 induction r with
 | zero =>
  intro i fu h hf
  obtain ⟨fu, rfl⟩ : ∃ k, fu = k + 1 := ⟨fu - 1, by omega⟩
  rw [L69x3s]
  simp only [Int.ofNat_lt, show ¬ i < s.houses.len by omega, decide_false, cond_false, List.range'_zero, List.map_nil]
  rfl
 | succ r ih =>
  intro i fu h hf
  obtain ⟨fu, rfl⟩ : ∃ k, fu = k + 1 := ⟨fu - 1, by omega⟩
  rw [L69x3s]
  have hp : Place (s.houses.el i).x (s.houses.el i).y := (hS.house i (by omega)).1
  simp only [Int.ofNat_lt, show i < s.houses.len by omega, decide_true, cond_true, Int.natCast_nonneg, Int.toNat_natCast, wrS (show i < 4611686018427387904 by omega), s19 F (d + 1) s m _ _ hS hL hp hF, s103 F (d + 2), tkOut_ret, tkAgg_a, tkCons_c, tkInt_i, tkNil_n, ih (i + 1) fu (by omega) (by omega)]
  rw [List.range'_succ, List.map_cons, fR_cons]
  cases b with
  | false =>
   rw [show isM false (sunkM s m i) = decide ((sunk s m (s.houses.el i).x (s.houses.el i).y).hi > (s.houses.el i).most) from rfl]
   simp only [Bool.not_false, cond_true]
   cases decide ((sunk s m (s.houses.el i).x (s.houses.el i).y).hi > (s.houses.el i).most) <;> rfl
  | true =>
   rw [show isM true (sunkM s m i) = decide ((sunk s m (s.houses.el i).x (s.houses.el i).y).lo > (s.houses.el i).most) from rfl]
   simp only [Bool.not_true, cond_false]
   cases decide ((sunk s m (s.houses.el i).x (s.houses.el i).y).lo > (s.houses.el i).most) <;> rfl
theorem l69x2 (hS : SiteF s) (hL : StatesOk s m) (hF : 2147483648 < F) (m0 i : Nat) (hi : i < s.cavs.len) (P : List Mark) (rest : List (Int × List Mark)) (hO : L69x1 (E F (d + 3)) F s n ds m b m0 ((i + 1 : Nat) : Int) = some (.ret (eFaultZ (faultR n (isM b) ((6, P) :: rest))))) : ∀ r j fu, s.cavs.len = j + r → r < fu →
  L69x2 (E F (d + 3)) F s n ds m b m0 fu (i : Int) (j : Int) = some (.ret (eFaultZ (faultR n (isM b) ((6, (List.range' j r).map (thinM s m i) ++ P) :: rest)))) := by
 have h5 := hS.cavs5
 have hl := hL.1
 intro r
 induction r with
 | zero =>
  intro j fu h hf
  obtain ⟨fu, rfl⟩ : ∃ k, fu = k + 1 := ⟨fu - 1, by omega⟩
  rw [L69x2s]
  simp only [Int.ofNat_lt, show ¬ j < m.len by omega, decide_false, cond_false, List.range'_zero, List.map_nil, List.nil_append, wrS (show i < 4611686018427387904 by omega), hO]
 | succ r ih =>
  intro j fu h hf
  obtain ⟨fu, rfl⟩ : ∃ k, fu = k + 1 := ⟨fu - 1, by omega⟩
  rw [L69x2s]
  have a1 := (hL.2 i (by omega)).1
  have a2 := (hL.2 j (by omega)).1
  have p1 := (hS.cav i hi).1
  have p2 := (hS.cav j (by omega)).1
  simp only [Int.ofNat_lt, show j < m.len by omega, show i < m.len by omega, decide_true, cond_true, Int.natCast_nonneg, Int.toNat_natCast, wrS (show j < 4611686018427387904 by omega), s40 F d s i j (m.el i).rad (m.el j).rad hi (by omega) p1 p2 (by omega) (by omega) hF, s103 F (d + 2), tkOut_ret, tkAgg_a, tkCons_c, tkInt_i, tkNil_n, ih (j + 1) fu (by omega) (by omega)]
  rw [List.range'_succ, List.map_cons, List.cons_append, fR_cons]
  cases b with
  | false =>
   rw [show isM false (thinM s m i j) = decide (distI (s.cavs.el i) (s.cavs.el j) - (m.el i).rad.hi - (m.el j).rad.hi < s.wall) from rfl]
   simp only [cond_false]
   cases decide (distI (s.cavs.el i) (s.cavs.el j) - (m.el i).rad.hi - (m.el j).rad.hi < s.wall) <;> rfl
  | true =>
   rw [show isM true (thinM s m i j) = decide (distI (s.cavs.el i) (s.cavs.el j) - (m.el i).rad.lo - (m.el j).rad.lo < s.wall) from rfl]
   simp only [cond_true]
   cases decide (distI (s.cavs.el i) (s.cavs.el j) - (m.el i).rad.lo - (m.el j).rad.lo < s.wall) <;> rfl
theorem l69x1 (hS : SiteF s) (hL : StatesOk s m) (hF : 2147483648 < F) (rest : List (Int × List Mark)) (hR : L69x3 (E F (d + 3)) F s n ds m b F 0 = some (.ret (eFaultZ (faultR n (isM b) rest)))) : ∀ k i fu, s.cavs.len = i + k → k < fu →
  L69x1 (E F (d + 3)) F s n ds m b fu (i : Int) = some (.ret (eFaultZ (faultR n (isM b) ((6, pairsM s m k i) :: rest)))) := by
 have h5 := hS.cavs5
 have hl := hL.1
 intro k
 induction k with
 | zero =>
  intro i fu h hf
  obtain ⟨fu, rfl⟩ : ∃ k, fu = k + 1 := ⟨fu - 1, by omega⟩
  rw [L69x1s]
  simp only [Int.ofNat_lt, show ¬ i < m.len by omega, decide_false, cond_false, pairsM, fR_nil, hR]
 | succ k ih =>
  intro i fu h hf
  obtain ⟨fu, rfl⟩ : ∃ k, fu = k + 1 := ⟨fu - 1, by omega⟩
  rw [L69x1s]
  simp only [Int.ofNat_lt, show i < m.len by omega, decide_true, cond_true, wrS (show i < 4611686018427387904 by omega), pairsM]
  exact l69x2 F d s ds m b n hS hL hF fu i (by omega) _ rest (ih (i + 1) fu (by omega) (by omega)) k (i + 1) F (by omega) (by omega)
theorem l69x0 (hS : SiteF s) (hL : StatesOk s m) (rest : List (Int × List Mark)) (hR : L69x1 (E F (d + 3)) F s n ds m b F 0 = some (.ret (eFaultZ (faultR n (isM b) rest)))) : ∀ r i fu, s.cavs.len = i + r → r < fu →
  L69x0 (E F (d + 3)) F s n ds m b fu (i : Int) = some (.ret (eFaultZ (faultR n (isM b) ((5, (List.range' i r).map (smallM s m)) :: rest)))) := by
 have h5 := hS.cavs5
 have hl := hL.1
 intro r
 induction r with
 | zero =>
  intro i fu h hf
  obtain ⟨fu, rfl⟩ : ∃ k, fu = k + 1 := ⟨fu - 1, by omega⟩
  rw [L69x0s]
  simp only [Int.ofNat_lt, show ¬ i < m.len by omega, decide_false, cond_false, List.range'_zero, List.map_nil, fR_nil, hR]
 | succ r ih =>
  intro i fu h hf
  obtain ⟨fu, rfl⟩ : ∃ k, fu = k + 1 := ⟨fu - 1, by omega⟩
  rw [L69x0s]
  simp only [Int.ofNat_lt, show i < m.len by omega, show i < s.cavs.len by omega, decide_true, cond_true, Int.natCast_nonneg, Int.toNat_natCast, wrS (show i < 4611686018427387904 by omega), s103 F (d + 2), tkOut_ret, tkInt_i, ih (i + 1) fu (by omega) (by omega)]
  rw [List.range'_succ, List.map_cons, fR_cons]
  cases b with
  | false =>
   rw [show isM false (smallM s m i) = decide ((m.el i).vol.lo < (s.cavs.el i).floor) from rfl]
   simp only [cond_false]
   cases decide ((m.el i).vol.lo < (s.cavs.el i).floor) <;> rfl
  | true =>
   rw [show isM true (smallM s m i) = decide ((m.el i).vol.hi < (s.cavs.el i).floor) from rfl]
   simp only [cond_true]
   cases decide ((m.el i).vol.hi < (s.cavs.el i).floor) <;> rfl
theorem s69 (hS : SiteF s) (hL : StatesOk s m) (hF : 2147483648 < F) :
  (E F (d + 4)).pf 118 [.agg (eSite s), .agg [.int .i64 n, sl eDay 2 ds, sl eStt 6 m], .bool b] = some (.ret (eFaultZ (faultR n (isM b) (lateMs s (some m))))) := by
 have h5 := hS.cavs5
 have h6 := hS.houses5
 rw [E_pf, t69]
 have h3 := l69x3 F d s ds m b n hS hL (by omega) s.houses.len 0 F (by omega) (by omega)
 have h1 := l69x1 F d s ds m b n hS hL hF _ h3 s.cavs.len 0 F (by omega) (by omega)
 exact l69x0 F d s ds m b n hS hL _ h1 s.cavs.len 0 F (by omega) (by omega)
end
end Go.Sim.Cr


namespace Go.Sim.Cr
open Go.Proofs
variable (F d : Nat)
noncomputable def refFrom (s : Site) (l : Sl Day) (c : Bool) : Nat → Nat → Sl Stt → Fault
 | 0, _, _ => fineF
 | r + 1, i, now => bif farDay s (l.el i) && c then fineF else
   match faultR (i : Int) (isM c) (earlyMs s (l.el i) (prevOf l i)) with
   | some f => f
   | none => match faultR (i : Int) (isM c) (lateMs s (some (moved s now (l.el i)))) with
    | some f => f
    | none => refFrom s l c r (i + 1) (moved s now (l.el i))
theorem find_some {is : Mark → Bool} {ms : List Mark} (h : ∃ m ∈ ms, is m = true) : ∃ m, ms.find? is = some m := by
 cases e : ms.find? is with
 | some m => exact ⟨m, rfl⟩
 | none =>
  obtain ⟨m, h1, h2⟩ := h
  have := List.find?_eq_none.1 e m h1
  rw [h2] at this
  exact (this rfl).elim
theorem far_early {s : Site} {y : Day} (h : farDay s y = true) (n : Int) (b : Option (Sl Span)) : ∃ f, faultR n (isM false) (earlyMs s y b) = some f := by
 obtain ⟨k, _, hk, e⟩ := (anyF_eq _ _ _).1 h
 obtain ⟨m, hm⟩ := find_some (is := isM false) (ms := (List.range' 0 s.cavs.len).map (outM s y)) ⟨outM s y k, List.mem_map_of_mem (by rw [List.mem_range']; exact ⟨k, by omega, by omega⟩), e⟩
 refine ⟨⟨n, 2, m.at_, m.wth⟩, ?_⟩
 unfold earlyMs
 rw [faultR, hm]
theorem l31 (s : Site) (l : Sl Day) (c : Bool) (hS : SiteF s) (hD : DaysOk s l) (hB : l.len ≤ 100) (hF : 2147483648 < F) : ∀ r i fu (now : Sl Stt), l.len = i + r → r < fu → StatesOk s now →
  L31x0 (E F (d + 4)) F s l c fu now.nl now.len 6 (fun i => eStt (now.el i)) (i : Int) = some (.ret (.agg (eFault (refFrom s l c r i now)))) := by
 intro r
 induction r with
 | zero =>
  intro i fu now h hf hn
  obtain ⟨fu, rfl⟩ : ∃ k, fu = k + 1 := ⟨fu - 1, by omega⟩
  rw [L31x0s]
  simp only [Int.ofNat_lt, show ¬ i < l.len by omega, decide_false, cond_false, refFrom]
 | succ r ih =>
  intro i fu now h hf hn
  obtain ⟨fu, rfl⟩ : ∃ k, fu = k + 1 := ⟨fu - 1, by omega⟩
  rw [L31x0s]
  have hy := hD i (by omega)
  have e21 := s21 F d s now (l.el i) hS hn hy (by omega)
  have e68 := s68 F (d + 1) s l now c i hS hD (by omega) hB (by omega)
  simp only [Int.ofNat_lt, show i < l.len by omega, decide_true, cond_true, Int.natCast_nonneg, Int.toNat_natCast, e21, e68, tkOut_ret, wrS (show i < 4611686018427387904 by omega), moveR, refFrom]
  cases hfd : farDay s (l.el i) with
  | true =>
   simp only [cond_true, tkTup_t, tkCons_c, tkRow_r, tkBool_b, tkNil_n, Bool.not_false]
   cases c with
   | true => simp only [cond_true, Bool.and_self]
   | false =>
    obtain ⟨f, hf'⟩ := far_early hfd (i : Int) (prevOf l i)
    simp only [cond_false, cond_true, Bool.and_false, hf', tkTup_t, tkCons_c, tkAgg_a, tkInt_i, tkBool_b, tkNil_n]
  | false =>
   have hmv := moved_ok hS hn hy hfd
   have e69 := s69 F d s l (moved s now (l.el i)) c (i : Int) hS hmv hF
   have nx := ih (i + 1) fu (moved s now (l.el i)) (by omega) (by omega) hmv
   simp only [cond_false, tkTup_t, tkCons_c, tkRow_r, tkBool_b, tkNil_n, Bool.not_true, Bool.false_and]
   cases faultR (i : Int) (isM c) (earlyMs s (l.el i) (prevOf l i)) with
   | some f => simp only [tkTup_t, tkCons_c, tkAgg_a, tkInt_i, tkBool_b, tkNil_n, cond_true]
   | none =>
    simp only [tkTup_t, tkCons_c, tkAgg_a, tkInt_i, tkBool_b, tkNil_n, cond_false, e69, tkOut_ret]
    cases faultR (i : Int) (isM c) (lateMs s (some (moved s now (l.el i)))) with
    | some f => simp only [tkTup_t, tkCons_c, tkAgg_a, tkInt_i, tkBool_b, tkNil_n, cond_true]
    | none =>
     simp only [tkTup_t, tkCons_c, tkAgg_a, tkInt_i, tkBool_b, tkNil_n, cond_false]
     exact nx
theorem s31 (s : Site) (l : Sl Day) (c : Bool) (hS : SiteF s) (hD : DaysOk s l) (hB : l.len ≤ 100) (hF : 2147483648 < F) :
  (E F (d + 5)).pf 96 [.agg (eSite s), sl eDay 2 l, .bool c] = some (.ret (.agg (eFault (refFrom s l c l.len 0 (begin s))))) := by
 rw [E_pf, t31]
 simp only [s38 F (d + 3) s hS.cavs1 hS.cavs5 (by omega), tkOut_ret, tkRow_r]
 exact l31 F d s l c hS hD hB hF l.len 0 F (begin s) (by omega) (by omega) (begin_ok hS)
theorem faultR_append (n : Int) (is : Mark → Bool) : ∀ A B : List (Int × List Mark), faultR n is (A ++ B) = match faultR n is A with | some f => some f | none => faultR n is B := by
 intro A B
 induction A with
 | nil => rfl
 | cons a A ih =>
  obtain ⟨k, ms⟩ := a
  rw [List.cons_append]
  cases e : ms.find? is with
  | some m => rw [fR_some e, fR_some e]
  | none => rw [fR_none e, fR_none e]; exact ih
def Sure (mss : List (Int × List Mark)) : Prop := ∀ p ∈ mss, ∀ m ∈ p.2, m.certain = true → m.possible = true
theorem isM_f : isM false = Mark.possible := rfl
end Go.Sim.Cr


namespace Go.Sim.Cr
open Go.Proofs
variable (F d : Nat)
def rv (r : Rw) (i : Nat) : Int := match r.get i with | [.int _ n] => n | _ => 0
abbrev RwOk (r : Rw) : Prop := ∀ i, i < r.len → r.wd = 1 ∧ r.get i = [.int .i64 (rv r i)]
def hasR (r : Rw) (a : Int) : Bool := anyF (fun i => rv r i == a) r.len 0
theorem l9050 (r : Rw) (a : Int) (hr : RwOk r) (hB : r.len < 4611686018427387904) : ∀ n i fu, r.len = i + n → n < fu →
  L9050x0 (E F d) F r a fu (i : Int) = some (.ret (.bool (anyF (fun k => rv r k == a) n i))) := by
 intro n
 induction n with
 | zero =>
  intro i fu h hf
  obtain ⟨fu, rfl⟩ : ∃ k, fu = k + 1 := ⟨fu - 1, by omega⟩
  rw [L9050x0s]
  simp only [Int.ofNat_lt, show ¬ i < r.len by omega, decide_false, pF, anyF]
 | succ n ih =>
  intro i fu h hf
  obtain ⟨fu, rfl⟩ : ∃ k, fu = k + 1 := ⟨fu - 1, by omega⟩
  obtain ⟨w1, g1⟩ := hr i (by omega)
  rw [L9050x0s]
  simp only [Int.ofNat_lt, show i < r.len by omega, decide_true, pT, Int.natCast_nonneg, Int.toNat_natCast, w1, g1, beq_self_eq_true, pCons, pInt, wrS (show i < 4611686018427387904 by omega), ih (i + 1) fu (by omega) (by omega), anyF]
  cases rv r i == a
  ·simp only [pF, Bool.false_or]
  ·simp only [pT, Bool.true_or]
theorem s9050 (r : Rw) (a : Int) (hr : RwOk r) (hB : r.len < 4611686018427387904) (hF : r.len < F) : (E F (d + 1)).pf 50 [.row r.nl r.len r.wd r.get, .int .i64 a] = some (.ret (.bool (hasR r a))) := by
 rw [E_pf, t9050]
 exact l9050 F d r a hr hB r.len 0 F (by omega) hF
theorem s9026 (a : Int) : (E F (d + 2)).pf 26 [.int .i64 a] = some (.ret (.bool (!decide (0 ≤ a ∧ a ≤ 50000)))) := by
 rw [E_pf, t9026]
 simp only [s72 F d, pOut, tkBool_b]
theorem s9030 (a : Int) (s : Site) : (E F (d + 2)).pf 30 [.int .i64 a, pSite s] = some (.ret (.bool (!decide (0 ≤ a ∧ a ≤ (s.cavs.len : Int))))) := by
 rw [E_pf, t9030]
 simp only [s72 F d, pOut, tkBool_b]
theorem l9056 (l : Sl Int) (s : Site) (hB : l.len < 4611686018427387904) : ∀ n i fu, l.len = i + n → n < fu →
  L9056x0 (E F (d + 2)) F l s fu (i : Int) = some (.ret (.int .i64 (ixF (fun k => !decide (0 ≤ l.el k ∧ l.el k ≤ (s.cavs.len : Int))) n i))) := by
 intro n
 induction n with
 | zero =>
  intro i fu h hf
  obtain ⟨fu, rfl⟩ : ∃ k, fu = k + 1 := ⟨fu - 1, by omega⟩
  rw [L9056x0s]
  simp only [Int.ofNat_lt, show ¬ i < l.len by omega, decide_false, pF, ixF]
 | succ n ih =>
  intro i fu h hf
  obtain ⟨fu, rfl⟩ : ∃ k, fu = k + 1 := ⟨fu - 1, by omega⟩
  rw [L9056x0s]
  simp only [Int.ofNat_lt, show i < l.len by omega, decide_true, pT, Int.natCast_nonneg, Int.toNat_natCast, s9030 F d, pOut, tkBool_b, wrS (show i < 4611686018427387904 by omega), ih (i + 1) fu (by omega) (by omega), ixF]
  cases !decide (0 ≤ l.el i ∧ l.el i ≤ (s.cavs.len : Int)) <;> simp only [pT, pF]
theorem l9156 (l : Sl Int) (hB : l.len < 4611686018427387904) : ∀ n i fu, l.len = i + n → n < fu →
  L9156x0 (E F (d + 2)) F l fu (i : Int) = some (.ret (.int .i64 (ixF (fun k => !decide (0 ≤ l.el k ∧ l.el k ≤ 50000)) n i))) := by
 intro n
 induction n with
 | zero =>
  intro i fu h hf
  obtain ⟨fu, rfl⟩ : ∃ k, fu = k + 1 := ⟨fu - 1, by omega⟩
  rw [L9156x0s]
  simp only [Int.ofNat_lt, show ¬ i < l.len by omega, decide_false, pF, ixF]
 | succ n ih =>
  intro i fu h hf
  obtain ⟨fu, rfl⟩ : ∃ k, fu = k + 1 := ⟨fu - 1, by omega⟩
  rw [L9156x0s]
  simp only [Int.ofNat_lt, show i < l.len by omega, decide_true, pT, Int.natCast_nonneg, Int.toNat_natCast, s9026 F d, pOut, tkBool_b, wrS (show i < 4611686018427387904 by omega), ih (i + 1) fu (by omega) (by omega), ixF]
  cases !decide (0 ≤ l.el i ∧ l.el i ≤ 50000) <;> simp only [pT, pF]
theorem not_all (p : Nat → Prop) [DecidablePred p] (n : Nat) : decide (∀ i, i < n → (!decide (p i)) = false) = decide (∀ i, i < n → p i) := by
 apply b2
 simp only [decide_eq_true_iff, Bool.not_eq_false', decide_eq_true_eq]
abbrev PresOk (s : Site) (l : Sl Int) : Prop := l.len = s.cavs.len ∧ ∀ i, i < l.len → 0 ≤ l.el i ∧ l.el i ≤ 50000
abbrev NeedOk (s : Site) (l : Sl Int) : Prop := ∀ i, i < l.len → 0 ≤ l.el i ∧ l.el i ≤ (s.cavs.len : Int)
theorem s9024 (l : Sl Int) (s : Site) (hB : l.len < 4611686018427387904) (hF : l.len < F) : (E F (d + 5)).pf 24 [sl eInt 1 l, pSite s] = some (.ret (.bool (decide (PresOk s l)))) := by
 have e56 : (E F (d + 3)).pf 56 [sl eInt 1 l, .fn (.func 26) [] []] = some (.ret (.int .i64 (ixF (fun k => !decide (0 ≤ l.el k ∧ l.el k ≤ 50000)) l.len 0))) := by rw [E_pf, t9156]; exact l9156 F d l hB l.len 0 F (by omega) hF
 have e25 : (E F (d + 4)).pf 25 [sl eInt 1 l, .fn (.func 26) [] []] = some (.ret (.bool (decide (0 ≤ ixF (fun k => !decide (0 ≤ l.el k ∧ l.el k ≤ 50000)) l.len 0)))) := by
  rw [E_pf, t9125, e56]
  simp only [pOut, pInt, decide_true, pT, ge_iff_le]
 rw [E_pf, t9024, e25]
 simp only [beqN, pOut, tkBool_b]
 by_cases h : l.len = s.cavs.len
 ·simp only [decide_eq_true h, pT]
  refine b3 ?_
  rw [ge0, not_all (fun i => 0 ≤ l.el i ∧ l.el i ≤ 50000)]
  apply b2
  simp only [decide_eq_true_iff]
  exact ⟨fun g => ⟨h, g⟩, fun g => g.2⟩
 ·simp only [decide_eq_false h, pF]
  rw [decide_eq_false (fun g => h g.1)]
theorem s9025 (l : Sl Int) (s : Site) (hB : l.len < 4611686018427387904) (hF : l.len < F) : (E F (d + 4)).pf 25 [sl eInt 1 l, .fn (.func 30) [] [pSite s]] = some (.ret (.bool (!decide (NeedOk s l)))) := by
 have e56 : (E F (d + 3)).pf 56 [sl eInt 1 l, .fn (.func 30) [] [pSite s]] = some (.ret (.int .i64 (ixF (fun k => !decide (0 ≤ l.el k ∧ l.el k ≤ (s.cavs.len : Int))) l.len 0))) := by rw [E_pf, t9056]; exact l9056 F d l s hB l.len 0 F (by omega) hF
 rw [E_pf, t9025, e56]
 simp only [pOut, pInt, decide_true, pT, ge_iff_le]
 refine b3 ?_
 rw [← not_all (fun i => 0 ≤ l.el i ∧ l.el i ≤ (s.cavs.len : Int)), ← ge0, Bool.not_not]
abbrev PlOk (s : Site) (low rest : Sl Int) (wm : Span) (nd : Sl Int) : Prop := PresOk s low ∧ PresOk s rest ∧ SpanIn wm 0 10000 ∧ NeedOk s nd
theorem l9010x1 (s : Site) (low rest : Sl Int) (wm : Span) (nd : Sl Int) (hB : nd.len < 4611686018427387904) : ∀ n i fu, nd.len = i + n → n < fu →
  L9010x1 (E F (d + 1)) F s low rest wm nd fu (i : Int) = some (.ret (.bool (allF (fun k => decide (0 ≤ nd.el k ∧ nd.el k ≤ (s.cavs.len : Int))) true n i))) := by
 intro n
 induction n with
 | zero =>
  intro i fu h hf
  obtain ⟨fu, rfl⟩ : ∃ k, fu = k + 1 := ⟨fu - 1, by omega⟩
  rw [L9010x1s]
  simp only [Int.ofNat_lt, show ¬ i < nd.len by omega, decide_false, pF, allF]
 | succ n ih =>
  intro i fu h hf
  obtain ⟨fu, rfl⟩ : ∃ k, fu = k + 1 := ⟨fu - 1, by omega⟩
  rw [L9010x1s]
  simp only [Int.ofNat_lt, show i < nd.len by omega, decide_true, pT, Int.natCast_nonneg, Int.toNat_natCast, s54 F d, pOut, tkBool_b, wrS (show i < 4611686018427387904 by omega), ih (i + 1) fu (by omega) (by omega), allF]
  cases decide (0 ≤ nd.el i ∧ nd.el i ≤ (s.cavs.len : Int)) <;> rfl
theorem l9010x0 (s : Site) (low rest : Sl Int) (wm : Span) (nd : Sl Int) (hB : nd.len < 4611686018427387904) (hF : nd.len < F) (hl : low.len = rest.len) (hB2 : low.len < 4611686018427387904) : ∀ n i fu, low.len = i + n → n < fu →
  L9010x0 (E F (d + 1)) F s low rest wm nd fu (i : Int) = some (.ret (.bool (allF (fun k => decide (0 ≤ low.el k ∧ low.el k ≤ 50000) && decide (0 ≤ rest.el k ∧ rest.el k ≤ 50000)) (decide (NeedOk s nd)) n i))) := by
 intro n
 induction n with
 | zero =>
  intro i fu h hf
  obtain ⟨fu, rfl⟩ : ∃ k, fu = k + 1 := ⟨fu - 1, by omega⟩
  rw [L9010x0s]
  simp only [Int.ofNat_lt, show ¬ i < low.len by omega, decide_false, pF, allF]
  refine (l9010x1 F d s low rest wm nd hB nd.len 0 F (by omega) hF).trans (b3 (b2 ?_))
  rw [allF_0]
  simp only [decide_eq_true_iff, and_true]
 | succ n ih =>
  intro i fu h hf
  obtain ⟨fu, rfl⟩ : ∃ k, fu = k + 1 := ⟨fu - 1, by omega⟩
  rw [L9010x0s]
  simp only [Int.ofNat_lt, show i < low.len by omega, show i < rest.len by omega, decide_true, pT, Int.natCast_nonneg, Int.toNat_natCast, s54 F d, pOut, tkBool_b, wrS (show i < 4611686018427387904 by omega), ih (i + 1) fu (by omega) (by omega), allF]
  cases decide (0 ≤ low.el i ∧ low.el i ≤ 50000) <;> cases decide (0 ≤ rest.el i ∧ rest.el i ≤ 50000) <;> rfl
theorem s9010 (s : Site) (low rest : Sl Int) (wm : Span) (nd : Sl Int) (hB : nd.len < 4611686018427387904) (hF : nd.len < F) (hB2 : low.len < 4611686018427387904) (hF2 : low.len < F) : (E F (d + 2)).pf 10 [.agg (eSite s), sl eInt 1 low, sl eInt 1 rest, .agg (eSpan wm), sl eInt 1 nd] = some (.ret (.bool (decide (PlOk s low rest wm nd)))) := by
 rw [E_pf, t9010]
 simp only [bne, beqN, s43 F d, pOut, tkBool_b]
 by_cases h1 : low.len = s.cavs.len
 rotate_left
 ·simp only [decide_eq_false h1, Bool.not_false, pT]
  rw [decide_eq_false (fun g => h1 g.1.1)]
 by_cases h2 : rest.len = s.cavs.len
 rotate_left
 ·simp only [decide_eq_true h1, Bool.not_true, pF, decide_eq_false h2, Bool.not_false, pT]
  rw [decide_eq_false (fun g => h2 g.2.1.1)]
 by_cases h3 : SpanIn wm 0 10000
 rotate_left
 ·simp only [decide_eq_true h1, decide_eq_true h2, Bool.not_true, pF, decide_eq_false h3, Bool.not_false, pT]
  rw [decide_eq_false (fun g => h3 g.2.2.1)]
 simp only [decide_eq_true h1, decide_eq_true h2, decide_eq_true h3, Bool.not_true, pF]
 refine (l9010x0 F d s low rest wm nd hB hF (by omega) hB2 low.len 0 F (by omega) hF2).trans (b3 (b2 ?_))
 rw [allF_0]
 simp only [Bool.and_eq_true, decide_eq_true_iff]
 exact ⟨fun g => ⟨⟨h1, fun i hi => (g.1 i hi).1⟩, ⟨h2, fun i hi => (g.1 i (by omega)).2⟩, h3, g.2⟩, fun g => ⟨fun k hk => ⟨g.1.2 k hk, g.2.1.2 k (by omega)⟩, g.2.2.2⟩⟩
end Go.Sim.Cr


namespace Go.Sim.Cr
open Go.Proofs
variable (F d : Nat)
def bitB (b : Int) (i : Nat) : Bool := IntKind.wrap .i64 (((BitVec.toNat (HAnd.hAnd (BitVec.ofInt 64 (Int.fdiv b ((2 : Int) ^ (Min.min i 64)))) (BitVec.ofInt 64 (1 : Int)))) : Nat) : Int) == (1 : Int)
def pickQ (low rest : Sl Int) (q : Nat → Bool) (i : Nat) : Span := bif q i then ⟨low.el i, low.el i⟩ else ⟨rest.el i, rest.el i⟩
def dayQ (s : Site) (low rest : Sl Int) (wm : Span) (q : Nat → Bool) : Day := ⟨outL s.cavs.len (pickQ low rest q), outL s.cavs.len (fun _ => wm)⟩
theorem app_same {e : List V} (k : Nat) : appGet k (fun _ => e) (fun _ => e) = fun _ => e := by
 funext i
 unfold appGet
 split <;> rfl
theorem pick_t {low rest : Sl Int} {q : Nat → Bool} {i : Nat} (h : q i = true) : eSpan (pickQ low rest q i) = [.int .i64 (low.el i), .int .i64 (low.el i)] := by unfold pickQ; rw [h]; rfl
theorem pick_f {low rest : Sl Int} {q : Nat → Bool} {i : Nat} (h : q i = false) : eSpan (pickQ low rest q i) = [.int .i64 (rest.el i), .int .i64 (rest.el i)] := by unfold pickQ; rw [h]; rfl
section
variable (s : Site) (low rest : Sl Int) (wm : Span) (b : Int)
abbrev H31 : List Slot := [(.box 28 (eSite s) true), (.box 29 [sl eInt 1 rest] true), (.box 29 [sl eInt 1 low] true), (.box 31 (eSpan wm) true)]
theorem l9031 (env : Env) (hl : low.len = s.cavs.len) (hr : rest.len = s.cavs.len) (h5 : s.cavs.len ≤ 5) : ∀ n i fu, s.cavs.len = i + n → n < fu → 1 ≤ i →
  L9031x1 env F b s low rest wm fu (i : Int) i i i (fun j => eSpan (pickQ low rest (bitB b) (min j (i - 1)))) i (fun _ => eSpan wm) =
   some ((.ret (.agg [.osl 4 0 s.cavs.len, .osl 5 0 s.cavs.len])), H31 s low rest wm ++ [.arr 31 2 s.cavs.len (fun j => eSpan ((outL s.cavs.len (pickQ low rest (bitB b))).el j)) true, .arr 31 2 s.cavs.len (fun _ => eSpan wm) true]) := by
 intro n
 induction n with
 | zero =>
  intro i fu h hf h1
  obtain ⟨fu, rfl⟩ : ∃ k, fu = k + 1 := ⟨fu - 1, by omega⟩
  obtain rfl : i = s.cavs.len := by omega
  rw [L9031x1s]
  simp only [Int.ofNat_lt, Nat.lt_irrefl, decide_false, pF]
  rfl
 | succ n ih =>
  intro i fu h hf h1
  obtain ⟨fu, rfl⟩ : ∃ k, fu = k + 1 := ⟨fu - 1, by omega⟩
  have hi : i < s.cavs.len := by omega
  rw [L9031x1s]
  simp only [Int.ofNat_lt, hi, show i < rest.len by omega, show i < low.len by omega, decide_true, pT, Int.natCast_nonneg, Int.toNat_natCast, decide_eq_false (show ¬ (i : Int) < 0 by omega), pF, show (i + 1) * 16 ≤ 140737488355328 by omega, wrS (show i < 4611686018427387904 by omega), app_same]
  have g := ih (i + 1) fu (by omega) (by omega) (by omega)
  rw [show i + 1 - 1 = i from rfl, ← app_enc eSpan (pickQ low rest (bitB b)) h1] at g
  have hb : (IntKind.wrap .i64 (((BitVec.toNat (HAnd.hAnd (BitVec.ofInt 64 (Int.fdiv b ((2 : Int) ^ (Min.min i 64)))) (BitVec.ofInt 64 (1 : Int)))) : Nat) : Int) == (1 : Int)) = bitB b i := rfl
  rw [hb]
  cases hq : bitB b i with
  | true => rw [cond_true, ← pick_t (low := low) (rest := rest) hq]; exact g
  | false => rw [cond_false, ← pick_f (low := low) (rest := rest) hq]; exact g
theorem s9031 (hl : low.len = s.cavs.len) (hr : rest.len = s.cavs.len) (h5 : s.cavs.len ≤ 5) (h1 : 1 ≤ s.cavs.len) (hF : 8 < F) :
  (E F (d + 1)).hv 31 [.int .i64 b, .optr 0 0 0, .optr 1 0 0, .optr 2 0 0, .optr 3 0 0] (H31 s low rest wm) =
   some ((.ret (.agg [.osl 4 0 s.cavs.len, .osl 5 0 s.cavs.len])), H31 s low rest wm ++ [.arr 31 2 s.cavs.len (fun j => eSpan ((outL s.cavs.len (pickQ low rest (bitB b))).el j)) true, .arr 31 2 s.cavs.len (fun _ => eSpan wm) true]) := by
 obtain ⟨fu, hfu⟩ : ∃ k, F = k + 1 := ⟨F - 1, by omega⟩
 have g0 := L9031x0s (E F d) F b s low rest wm fu
 rw [← hfu] at g0
 rw [E_hv, t9031, g0]
 have g := l9031 F s low rest wm b (E F d) hl hr h5 (s.cavs.len - 1) 1 fu (by omega) (by omega) (Nat.le_refl _)
 have e0 : (fun j => eSpan (pickQ low rest (bitB b) (min j (1 - 1)))) = fun _ => eSpan (pickQ low rest (bitB b) 0) := by funext j; rw [show min j (1 - 1) = 0 from Nat.min_zero j]
 rw [e0] at g
 simp only [zlt (show 0 < s.cavs.len by omega), zlt (show 0 < rest.len by omega), zlt (show 0 < low.len by omega), pT, wr1]
 have hb : (IntKind.wrap .i64 (((BitVec.toNat (HAnd.hAnd (BitVec.ofInt 64 (Int.fdiv b ((2 : Int) ^ 0))) (BitVec.ofInt 64 (1 : Int)))) : Nat) : Int) == (1 : Int)) = bitB b 0 := by unfold bitB; rw [show min 0 64 = 0 from rfl]
 rw [hb]
 cases hq : bitB b 0 with
 | true => rw [cond_true, ← pick_t (low := low) (rest := rest) hq]; exact g
 | false => rw [cond_false, ← pick_f (low := low) (rest := rest) hq]; exact g
end
noncomputable def okDay (s : Site) (y : Day) (b : Option (Sl Span)) (now : Sl Stt) : Bool := !farDay s y && (faultR 0 Mark.possible (marksOf s y b (some (moved s now y)))).isNone
theorem faultR_n (n n' : Int) (is : Mark → Bool) : ∀ l, (faultR n is l).isNone = (faultR n' is l).isNone
 | [] => rfl
 | (k, ms) :: r => by
  unfold faultR
  cases ms.find? is with
  | some m => rfl
  | none => exact faultR_n n n' is r
section
variable (s : Site) (low rest : Sl Int) (wm : Span) (S : Nat → List Int)
noncomputable abbrev dayB (b : Int) : Day := dayQ s low rest wm (bitB b)
noncomputable def go : Nat → Nat → Option (Sl Span) → Sl Stt → Option (List Int)
 | 0, _, _, _ => some []
 | r + 1, t, b, now => (S t).findSome? fun m => bif okDay s (dayB s low rest wm m) b now then (go r (t + 1) (some (dayB s low rest wm m).press) (moved s now (dayB s low rest wm m))).map (m :: ·) else none
end
theorem dayQ_ok {s : Site} {low rest : Sl Int} {wm : Span} (hl : PresOk s low) (hr : PresOk s rest) (hw : SpanIn wm 0 10000) (q : Nat → Bool) : DayOk s (dayQ s low rest wm q) := by
 refine ⟨⟨rfl, fun i hi => ?_⟩, rfl, fun i hi => hw⟩
 have hi : i < s.cavs.len := hi
 rw [show (dayQ s low rest wm q).press.el i = pickQ low rest q i from outL_el hi]
 have h1 := hl.2 i (by have := hl.1; omega)
 have h2 := hr.2 i (by have := hr.1; omega)
 unfold pickQ
 cases q i
 ·exact ⟨h2.1, Int.le_refl _, h2.2⟩
 ·exact ⟨h1.1, Int.le_refl _, h1.2⟩
theorem moved_same {s : Site} {l l' : Sl Stt} (h1 : 1 ≤ s.cavs.len) (h : l.len = s.cavs.len) (h' : l'.len = s.cavs.len) (he : ∀ i, i < s.cavs.len → l.el i = l'.el i) (y : Day) : moved s l y = moved s l' y := by
 show outL l.len (mv s l y) = outL l'.len (mv s l' y)
 rw [h, h']
 unfold outL
 congr 1
 funext i
 show mv s l y (min i (s.cavs.len - 1)) = mv s l' y (min i (s.cavs.len - 1))
 unfold mv
 rw [he _ (by omega)]
theorem go_same {s : Site} {low rest : Sl Int} {wm : Span} {S : Nat → List Int} {l l' : Sl Stt} (h1 : 1 ≤ s.cavs.len) (h : l.len = s.cavs.len) (h' : l'.len = s.cavs.len) (he : ∀ i, i < s.cavs.len → l.el i = l'.el i) (b : Option (Sl Span)) : ∀ r t, go s low rest wm S r t b l = go s low rest wm S r t b l'
 | 0, _ => rfl
 | r + 1, t => by
  unfold go okDay
  simp only [moved_same h1 h h' he]
end Go.Sim.Cr


namespace Go.Sim.Cr
open Go.Proofs
variable (F d : Nat)
theorem mget_mem : ∀ (es : List (V × V)) (x v : V), mget es x = some v → ∃ k, (k, v) ∈ es ∧ keyEq k x = true
 | [], _, _, h => by simp [mget] at h
 | (k, u) :: r, x, v, h => by
  simp only [mget] at h
  cases hk : keyEq k x with
  | true => rw [hk, cond_true] at h; cases h; exact ⟨k, by simp, hk⟩
  | false =>
   rw [hk, cond_false] at h
   obtain ⟨k', h1, h2⟩ := mget_mem r x v h
   exact ⟨k', by simp [h1], h2⟩
theorem mput_mem : ∀ (es : List (V × V)) (x v : V), ∀ p ∈ mput es x v, p ∈ es ∨ p = (x, v) ∨ ∃ k u, (k, u) ∈ es ∧ keyEq k x = true ∧ p = (k, v)
 | [], x, v, p, h => by simp only [mput, List.mem_singleton] at h; exact .inr (.inl h)
 | (k, u) :: r, x, v, p, h => by
  simp only [mput] at h
  cases hk : keyEq k x with
  | true =>
   rw [hk, cond_true, List.mem_cons] at h
   rcases h with h | h
   ·exact .inr (.inr ⟨k, u, by simp, hk, h⟩)
   ·exact .inl (by simp [h])
  | false =>
   rw [hk, cond_false, List.mem_cons] at h
   rcases h with h | h
   ·exact .inl (by simp [h])
   ·rcases mput_mem r x v p h with h | h | ⟨k', u', h1, h2⟩
    ·exact .inl (by simp [h])
    ·exact .inr (.inl h)
    ·exact .inr (.inr ⟨k', u', by simp [h1], h2⟩)
theorem mput_len : ∀ (es : List (V × V)) (x v : V), (mput es x v).length ≤ es.length + 1
 | [], _, _ => by simp [mput]
 | (k, u) :: r, x, v => by
  have := mput_len r x v
  simp only [mput]
  cases keyEq k x
  ·rw [cond_false]; simp only [List.length_cons]; omega
  ·rw [cond_true]; simp only [List.length_cons]; omega
abbrev keyL (n last : Int) (l : Sl Stt) : List V := [.int .i64 n, .int .i64 last, .int .i64 (mixI (decide (0 < l.len)) (l.el 0).rad.lo 0), .int .i64 (mixI (decide (0 < l.len)) (l.el 0).rad.hi 0), .int .i64 (mixI (decide (0 < l.len)) (l.el 0).vol.lo 0), .int .i64 (mixI (decide (0 < l.len)) (l.el 0).vol.hi 0), .int .i64 (mixI (decide (0 < l.len)) (l.el 0).lost.lo 0), .int .i64 (mixI (decide (0 < l.len)) (l.el 0).lost.hi 0), .int .i64 (mixI (decide (1 < l.len)) (l.el 1).rad.lo 0), .int .i64 (mixI (decide (1 < l.len)) (l.el 1).rad.hi 0), .int .i64 (mixI (decide (1 < l.len)) (l.el 1).vol.lo 0), .int .i64 (mixI (decide (1 < l.len)) (l.el 1).vol.hi 0), .int .i64 (mixI (decide (1 < l.len)) (l.el 1).lost.lo 0), .int .i64 (mixI (decide (1 < l.len)) (l.el 1).lost.hi 0), .int .i64 (mixI (decide (2 < l.len)) (l.el 2).rad.lo 0), .int .i64 (mixI (decide (2 < l.len)) (l.el 2).rad.hi 0), .int .i64 (mixI (decide (2 < l.len)) (l.el 2).vol.lo 0), .int .i64 (mixI (decide (2 < l.len)) (l.el 2).vol.hi 0), .int .i64 (mixI (decide (2 < l.len)) (l.el 2).lost.lo 0), .int .i64 (mixI (decide (2 < l.len)) (l.el 2).lost.hi 0), .int .i64 (mixI (decide (3 < l.len)) (l.el 3).rad.lo 0), .int .i64 (mixI (decide (3 < l.len)) (l.el 3).rad.hi 0), .int .i64 (mixI (decide (3 < l.len)) (l.el 3).vol.lo 0), .int .i64 (mixI (decide (3 < l.len)) (l.el 3).vol.hi 0), .int .i64 (mixI (decide (3 < l.len)) (l.el 3).lost.lo 0), .int .i64 (mixI (decide (3 < l.len)) (l.el 3).lost.hi 0), .int .i64 (mixI (decide (4 < l.len)) (l.el 4).rad.lo 0), .int .i64 (mixI (decide (4 < l.len)) (l.el 4).rad.hi 0), .int .i64 (mixI (decide (4 < l.len)) (l.el 4).vol.lo 0), .int .i64 (mixI (decide (4 < l.len)) (l.el 4).vol.hi 0), .int .i64 (mixI (decide (4 < l.len)) (l.el 4).lost.lo 0), .int .i64 (mixI (decide (4 < l.len)) (l.el 4).lost.hi 0)]
abbrev rgB (n last : Int) (l : Sl Stt) : Bool := ((rg n) && ((rg last) && ((rg (mixI (decide (0 < (Sl.len l))) ((l.el 0).rad.lo) (0 : Int))) && ((rg (mixI (decide (0 < (Sl.len l))) ((l.el 0).rad.hi) (0 : Int))) && ((rg (mixI (decide (0 < (Sl.len l))) ((l.el 0).vol.lo) (0 : Int))) && ((rg (mixI (decide (0 < (Sl.len l))) ((l.el 0).vol.hi) (0 : Int))) && ((rg (mixI (decide (0 < (Sl.len l))) ((l.el 0).lost.lo) (0 : Int))) && ((rg (mixI (decide (0 < (Sl.len l))) ((l.el 0).lost.hi) (0 : Int))) && ((rg (mixI (decide (1 < (Sl.len l))) ((l.el 1).rad.lo) (0 : Int))) && ((rg (mixI (decide (1 < (Sl.len l))) ((l.el 1).rad.hi) (0 : Int))) && ((rg (mixI (decide (1 < (Sl.len l))) ((l.el 1).vol.lo) (0 : Int))) && ((rg (mixI (decide (1 < (Sl.len l))) ((l.el 1).vol.hi) (0 : Int))) && ((rg (mixI (decide (1 < (Sl.len l))) ((l.el 1).lost.lo) (0 : Int))) && ((rg (mixI (decide (1 < (Sl.len l))) ((l.el 1).lost.hi) (0 : Int))) && ((rg (mixI (decide (2 < (Sl.len l))) ((l.el 2).rad.lo) (0 : Int))) && ((rg (mixI (decide (2 < (Sl.len l))) ((l.el 2).rad.hi) (0 : Int))) && ((rg (mixI (decide (2 < (Sl.len l))) ((l.el 2).vol.lo) (0 : Int))) && ((rg (mixI (decide (2 < (Sl.len l))) ((l.el 2).vol.hi) (0 : Int))) && ((rg (mixI (decide (2 < (Sl.len l))) ((l.el 2).lost.lo) (0 : Int))) && ((rg (mixI (decide (2 < (Sl.len l))) ((l.el 2).lost.hi) (0 : Int))) && ((rg (mixI (decide (3 < (Sl.len l))) ((l.el 3).rad.lo) (0 : Int))) && ((rg (mixI (decide (3 < (Sl.len l))) ((l.el 3).rad.hi) (0 : Int))) && ((rg (mixI (decide (3 < (Sl.len l))) ((l.el 3).vol.lo) (0 : Int))) && ((rg (mixI (decide (3 < (Sl.len l))) ((l.el 3).vol.hi) (0 : Int))) && ((rg (mixI (decide (3 < (Sl.len l))) ((l.el 3).lost.lo) (0 : Int))) && ((rg (mixI (decide (3 < (Sl.len l))) ((l.el 3).lost.hi) (0 : Int))) && ((rg (mixI (decide (4 < (Sl.len l))) ((l.el 4).rad.lo) (0 : Int))) && ((rg (mixI (decide (4 < (Sl.len l))) ((l.el 4).rad.hi) (0 : Int))) && ((rg (mixI (decide (4 < (Sl.len l))) ((l.el 4).vol.lo) (0 : Int))) && ((rg (mixI (decide (4 < (Sl.len l))) ((l.el 4).vol.hi) (0 : Int))) && ((rg (mixI (decide (4 < (Sl.len l))) ((l.el 4).lost.lo) (0 : Int))) && ((rg (mixI (decide (4 < (Sl.len l))) ((l.el 4).lost.hi) (0 : Int))) && true))))))))))))))))))))))))))))))))
theorem rg_ok {x : Int} (h : -9223372036854775808 ≤ x ∧ x ≤ 9223372036854775807) : (rg x) = true := by
 unfold rg; rw [Bool.and_eq_true, decide_eq_true_iff, decide_eq_true_iff]
 have : (2 : Int) ^ 63 = 9223372036854775808 := by decide
 omega
theorem mix_in {q n : Nat} {a : Int} (h : q < n → -9223372036854775808 ≤ a ∧ a ≤ 9223372036854775807) : -9223372036854775808 ≤ mixI (decide (q < n)) a 0 ∧ mixI (decide (q < n)) a 0 ≤ 9223372036854775807 := by
 unfold mixI
 by_cases hq : q < n
 ·rw [decide_eq_true hq]; exact h hq
 ·rw [decide_eq_false hq]; exact ⟨by show (-9223372036854775808 : Int) ≤ 0; omega, by show (0 : Int) ≤ 9223372036854775807; omega⟩
set_option maxRecDepth 100000 in
theorem rgB_ok {n last : Int} {l : Sl Stt} (hn : -9223372036854775808 ≤ n ∧ n ≤ 9223372036854775807) (hl : -9223372036854775808 ≤ last ∧ last ≤ 9223372036854775807) (h : ∀ i, i < l.len → SttOk (l.el i)) : rgB n last l = true := by
 have r0x0 := rg_ok (mix_in (q := 0) (n := l.len) (a := (l.el 0).rad.lo) fun hq => by have := h 0 hq; omega)
 have r0x1 := rg_ok (mix_in (q := 0) (n := l.len) (a := (l.el 0).rad.hi) fun hq => by have := h 0 hq; omega)
 have r0x2 := rg_ok (mix_in (q := 0) (n := l.len) (a := (l.el 0).vol.lo) fun hq => by have := h 0 hq; omega)
 have r0x3 := rg_ok (mix_in (q := 0) (n := l.len) (a := (l.el 0).vol.hi) fun hq => by have := h 0 hq; omega)
 have r0x4 := rg_ok (mix_in (q := 0) (n := l.len) (a := (l.el 0).lost.lo) fun hq => by have := h 0 hq; omega)
 have r0x5 := rg_ok (mix_in (q := 0) (n := l.len) (a := (l.el 0).lost.hi) fun hq => by have := h 0 hq; omega)
 have r1x0 := rg_ok (mix_in (q := 1) (n := l.len) (a := (l.el 1).rad.lo) fun hq => by have := h 1 hq; omega)
 have r1x1 := rg_ok (mix_in (q := 1) (n := l.len) (a := (l.el 1).rad.hi) fun hq => by have := h 1 hq; omega)
 have r1x2 := rg_ok (mix_in (q := 1) (n := l.len) (a := (l.el 1).vol.lo) fun hq => by have := h 1 hq; omega)
 have r1x3 := rg_ok (mix_in (q := 1) (n := l.len) (a := (l.el 1).vol.hi) fun hq => by have := h 1 hq; omega)
 have r1x4 := rg_ok (mix_in (q := 1) (n := l.len) (a := (l.el 1).lost.lo) fun hq => by have := h 1 hq; omega)
 have r1x5 := rg_ok (mix_in (q := 1) (n := l.len) (a := (l.el 1).lost.hi) fun hq => by have := h 1 hq; omega)
 have r2x0 := rg_ok (mix_in (q := 2) (n := l.len) (a := (l.el 2).rad.lo) fun hq => by have := h 2 hq; omega)
 have r2x1 := rg_ok (mix_in (q := 2) (n := l.len) (a := (l.el 2).rad.hi) fun hq => by have := h 2 hq; omega)
 have r2x2 := rg_ok (mix_in (q := 2) (n := l.len) (a := (l.el 2).vol.lo) fun hq => by have := h 2 hq; omega)
 have r2x3 := rg_ok (mix_in (q := 2) (n := l.len) (a := (l.el 2).vol.hi) fun hq => by have := h 2 hq; omega)
 have r2x4 := rg_ok (mix_in (q := 2) (n := l.len) (a := (l.el 2).lost.lo) fun hq => by have := h 2 hq; omega)
 have r2x5 := rg_ok (mix_in (q := 2) (n := l.len) (a := (l.el 2).lost.hi) fun hq => by have := h 2 hq; omega)
 have r3x0 := rg_ok (mix_in (q := 3) (n := l.len) (a := (l.el 3).rad.lo) fun hq => by have := h 3 hq; omega)
 have r3x1 := rg_ok (mix_in (q := 3) (n := l.len) (a := (l.el 3).rad.hi) fun hq => by have := h 3 hq; omega)
 have r3x2 := rg_ok (mix_in (q := 3) (n := l.len) (a := (l.el 3).vol.lo) fun hq => by have := h 3 hq; omega)
 have r3x3 := rg_ok (mix_in (q := 3) (n := l.len) (a := (l.el 3).vol.hi) fun hq => by have := h 3 hq; omega)
 have r3x4 := rg_ok (mix_in (q := 3) (n := l.len) (a := (l.el 3).lost.lo) fun hq => by have := h 3 hq; omega)
 have r3x5 := rg_ok (mix_in (q := 3) (n := l.len) (a := (l.el 3).lost.hi) fun hq => by have := h 3 hq; omega)
 have r4x0 := rg_ok (mix_in (q := 4) (n := l.len) (a := (l.el 4).rad.lo) fun hq => by have := h 4 hq; omega)
 have r4x1 := rg_ok (mix_in (q := 4) (n := l.len) (a := (l.el 4).rad.hi) fun hq => by have := h 4 hq; omega)
 have r4x2 := rg_ok (mix_in (q := 4) (n := l.len) (a := (l.el 4).vol.lo) fun hq => by have := h 4 hq; omega)
 have r4x3 := rg_ok (mix_in (q := 4) (n := l.len) (a := (l.el 4).vol.hi) fun hq => by have := h 4 hq; omega)
 have r4x4 := rg_ok (mix_in (q := 4) (n := l.len) (a := (l.el 4).lost.lo) fun hq => by have := h 4 hq; omega)
 have r4x5 := rg_ok (mix_in (q := 4) (n := l.len) (a := (l.el 4).lost.hi) fun hq => by have := h 4 hq; omega)
 simp only [rgB, rg_ok hn, rg_ok hl, r0x0, r0x1, r0x2, r0x3, r0x4, r0x5, r1x0, r1x1, r1x2, r1x3, r1x4, r1x5, r2x0, r2x1, r2x2, r2x3, r2x4, r2x5, r3x0, r3x1, r3x2, r3x3, r3x4, r3x5, r4x0, r4x1, r4x2, r4x3, r4x4, r4x5, Bool.and_self]
theorem keyI {a b : Int} {u v : List V} (h : keysEq (.int .i64 a :: u) (.int .i64 b :: v) = true) : a = b ∧ keysEq u v = true := by
 simp only [keysEq, keyEq1, decide_true, Bool.true_and, Bool.and_eq_true, beq_iff_eq] at h
 exact h
theorem mix_eq {q c n n' : Nat} {a a' : Int} (hn : n = c) (hn' : n' = c) (hq : q < c) (h : mixI (decide (q < n)) a 0 = mixI (decide (q < n')) a' 0) : a = a' := by
 subst hn
 subst hn'
 rw [decide_eq_true hq] at h
 exact h
set_option maxRecDepth 100000 in
theorem key_eq {c : Nat} (hc : c ≤ 5) {n n' last last' : Int} {l l' : Sl Stt} (hl : l.len = c) (hl' : l'.len = c) (h : keyEq (.agg (keyL n last l)) (.agg (keyL n' last' l')) = true) : n = n' ∧ last = last' ∧ ∀ i, i < c → l.el i = l'.el i := by
 have h : keysEq (keyL n last l) (keyL n' last' l') = true := h
 obtain ⟨e0, h⟩ := keyI h
 obtain ⟨e1, h⟩ := keyI h
 obtain ⟨f0x0, h⟩ := keyI h
 obtain ⟨f0x1, h⟩ := keyI h
 obtain ⟨f0x2, h⟩ := keyI h
 obtain ⟨f0x3, h⟩ := keyI h
 obtain ⟨f0x4, h⟩ := keyI h
 obtain ⟨f0x5, h⟩ := keyI h
 obtain ⟨f1x0, h⟩ := keyI h
 obtain ⟨f1x1, h⟩ := keyI h
 obtain ⟨f1x2, h⟩ := keyI h
 obtain ⟨f1x3, h⟩ := keyI h
 obtain ⟨f1x4, h⟩ := keyI h
 obtain ⟨f1x5, h⟩ := keyI h
 obtain ⟨f2x0, h⟩ := keyI h
 obtain ⟨f2x1, h⟩ := keyI h
 obtain ⟨f2x2, h⟩ := keyI h
 obtain ⟨f2x3, h⟩ := keyI h
 obtain ⟨f2x4, h⟩ := keyI h
 obtain ⟨f2x5, h⟩ := keyI h
 obtain ⟨f3x0, h⟩ := keyI h
 obtain ⟨f3x1, h⟩ := keyI h
 obtain ⟨f3x2, h⟩ := keyI h
 obtain ⟨f3x3, h⟩ := keyI h
 obtain ⟨f3x4, h⟩ := keyI h
 obtain ⟨f3x5, h⟩ := keyI h
 obtain ⟨f4x0, h⟩ := keyI h
 obtain ⟨f4x1, h⟩ := keyI h
 obtain ⟨f4x2, h⟩ := keyI h
 obtain ⟨f4x3, h⟩ := keyI h
 obtain ⟨f4x4, h⟩ := keyI h
 obtain ⟨f4x5, h⟩ := keyI h
 refine ⟨e0, e1, fun i hi => ?_⟩
 have ext : ∀ x y : Stt, x.rad.lo = y.rad.lo → x.rad.hi = y.rad.hi → x.vol.lo = y.vol.lo → x.vol.hi = y.vol.hi → x.lost.lo = y.lost.lo → x.lost.hi = y.lost.hi → x = y := by
  rintro ⟨⟨_, _⟩, ⟨_, _⟩, ⟨_, _⟩⟩ ⟨⟨_, _⟩, ⟨_, _⟩, ⟨_, _⟩⟩ g0 g1 g2 g3 g4 g5
  simp only at g0 g1 g2 g3 g4 g5
  rw [g0, g1, g2, g3, g4, g5]
 by_cases q0 : i = 0
 ·subst q0
  exact ext _ _ (mix_eq hl hl' hi f0x0) (mix_eq hl hl' hi f0x1) (mix_eq hl hl' hi f0x2) (mix_eq hl hl' hi f0x3) (mix_eq hl hl' hi f0x4) (mix_eq hl hl' hi f0x5)
 by_cases q1 : i = 1
 ·subst q1
  exact ext _ _ (mix_eq hl hl' hi f1x0) (mix_eq hl hl' hi f1x1) (mix_eq hl hl' hi f1x2) (mix_eq hl hl' hi f1x3) (mix_eq hl hl' hi f1x4) (mix_eq hl hl' hi f1x5)
 by_cases q2 : i = 2
 ·subst q2
  exact ext _ _ (mix_eq hl hl' hi f2x0) (mix_eq hl hl' hi f2x1) (mix_eq hl hl' hi f2x2) (mix_eq hl hl' hi f2x3) (mix_eq hl hl' hi f2x4) (mix_eq hl hl' hi f2x5)
 by_cases q3 : i = 3
 ·subst q3
  exact ext _ _ (mix_eq hl hl' hi f3x0) (mix_eq hl hl' hi f3x1) (mix_eq hl hl' hi f3x2) (mix_eq hl hl' hi f3x3) (mix_eq hl hl' hi f3x4) (mix_eq hl hl' hi f3x5)
 by_cases q4 : i = 4
 ·subst q4
  exact ext _ _ (mix_eq hl hl' hi f4x0) (mix_eq hl hl' hi f4x1) (mix_eq hl hl' hi f4x2) (mix_eq hl hl' hi f4x3) (mix_eq hl hl' hi f4x4) (mix_eq hl hl' hi f4x5)
 omega
section
variable (s : Site) (low rest : Sl Int) (wm : Span) (S : Nat → List Int) (N : Nat)
noncomputable def befOf (t : Nat) (last : Int) : Option (Sl Span) := if t = 0 then none else some (dayB s low rest wm last).press
def DeadOk (es : List (V × V)) : Prop := ∀ p ∈ es, ∃ (t : Nat) (last : Int) (l : Sl Stt), t ≤ N ∧ l.len = s.cavs.len ∧ p = (.agg (keyL (t : Int) last l), .bool true) ∧ go s low rest wm S (N - t) t (befOf s low rest wm t last) l = none
variable {s low rest wm S N}
theorem dead_get (h1 : 1 ≤ s.cavs.len) (h5 : s.cavs.len ≤ 5) {es : List (V × V)} (h : DeadOk s low rest wm S N es) {t : Nat} {last : Int} {l : Sl Stt} (hl : l.len = s.cavs.len) {v : V} (hv : mget es (.agg (keyL (t : Int) last l)) = some v) : v = .bool true ∧ go s low rest wm S (N - t) t (befOf s low rest wm t last) l = none := by
 obtain ⟨k, h2, h3⟩ := mget_mem _ _ _ hv
 obtain ⟨t', last', l', h4, h5', h6, h7⟩ := h _ h2
 cases h6
 obtain ⟨g1, g2, g3⟩ := key_eq h5 h5' hl h3
 have g1 : t' = t := by omega
 subst g1 g2
 exact ⟨rfl, by rw [← h7]; exact (go_same h1 h5' hl g3 _ _ _).symm⟩
theorem dead_put {es : List (V × V)} (h : DeadOk s low rest wm S N es) {t : Nat} {last : Int} {l : Sl Stt} (ht : t ≤ N) (hl : l.len = s.cavs.len) (hg : go s low rest wm S (N - t) t (befOf s low rest wm t last) l = none) : DeadOk s low rest wm S N (mput es (.agg (keyL (t : Int) last l)) (.bool true)) := by
 intro p hp
 rcases mput_mem _ _ _ p hp with h1 | h1 | ⟨k, u, h1, h2, h3⟩
 ·exact h p h1
 ·exact ⟨t, last, l, ht, hl, h1, hg⟩
 ·obtain ⟨t', last', l', h4, h5', h6, h7⟩ := h _ h1
  cases h6
  exact ⟨t', last', l', h4, h5', h3, h7⟩
end
end Go.Sim.Cr


namespace Go.Sim.Cr
open Go.Proofs
variable (F d : Nat)
theorem s9036 (m : Mark) : (E F (d + 1)).pf 36 [.agg (eMark m)] = some (.ret (.bool m.possible)) := by rw [E_pf, t9036]
theorem l9102 (l : Sl Mark) (hB : l.len < Big) : ∀ n i fu, l.len = i + n → n < fu → L9102x0 (E F (d + 1)) F l fu (i : Int) = some (.ret (.int .i64 (ixF (fun j => (l.el j).possible) n i))) := by
 intro n
 induction n with
 | zero =>
  intro i fu h hf
  obtain ⟨fu, rfl⟩ : ∃ k, fu = k + 1 := ⟨fu - 1, by omega⟩
  rw [L9102x0s]
  simp only [Int.ofNat_lt, show ¬ i < l.len by omega, decide_false, cond_false, ixF]
 | succ n ih =>
  intro i fu h hf
  obtain ⟨fu, rfl⟩ : ∃ k, fu = k + 1 := ⟨fu - 1, by omega⟩
  rw [L9102x0s]
  simp only [Int.ofNat_lt, show i < l.len by omega, decide_true, cond_true, Int.natCast_nonneg, Int.toNat_natCast, s9036, tkOut_ret, tkBool_b, ixF, wrS (show i < Big by omega), ih (i + 1) fu (by omega) (by omega)]
  cases (l.el i).possible <;> rfl
theorem s9102 (ms : List Mark) (hB : ms.length < Big) (hF : ms.length < F) : (E F (d + 2)).pf 74 [rowM ms, .fn (.func 36) [] []] = some (.ret (.int .i64 (ixM Mark.possible ms))) := by
 rw [E_pf]
 cases ms with
 | nil =>
  refine (t9103 (E F (d + 1)) F).trans ?_
  obtain ⟨fu, rfl⟩ : ∃ k, F = k + 1 := ⟨F - 1, by simp at hF; omega⟩
  rw [L9103x0s]; rfl
 | cons m ms =>
  refine (t9102 (E F (d + 1)) F ⟨false, (m :: ms).length, fun j => (m :: ms).getD j ((m :: ms).getLastD zMark)⟩).trans ?_
  exact l9102 F d ⟨false, (m :: ms).length, fun j => (m :: ms).getD j ((m :: ms).getLastD zMark)⟩ hB (m :: ms).length 0 F (by simp) hF
theorem s9653 (s : Site) (y : Day) (B C : V) (n : Int) (f0 f1 f2 f3 f4 f5 : List Mark) (h0 : f0.length ≤ 100) (h1 : f1.length ≤ 100) (h2 : f2.length ≤ 100) (h3 : f3.length ≤ 100) (h4 : f4.length ≤ 100) (h5 : f5.length ≤ 100) (hF : 200 < F)
  (r0 : (E F (d + 2)).pf 68 [pTod s y B C] = some (.ret (rowM f0)))
  (r1 : (E F (d + 2)).pf 69 [pTod s y B C] = some (.ret (rowM f1)))
  (r2 : (E F (d + 2)).pf 70 [pTod s y B C] = some (.ret (rowM f2)))
  (r3 : (E F (d + 2)).pf 71 [pTod s y B C] = some (.ret (rowM f3)))
  (r4 : (E F (d + 2)).pf 72 [pTod s y B C] = some (.ret (rowM f4)))
  (r5 : (E F (d + 2)).pf 73 [pTod s y B C] = some (.ret (rowM f5)))
  : (E F (d + 3)).pf 35 [pTod s y B C, .int .i64 n, .fn (.func 36) [] []] = some (.ret (eFaultB (faultR n Mark.possible [(2, f0), (3, f1), (4, f2), (5, f3), (6, f4), (7, f5)]))) := by
 obtain ⟨F, rfl⟩ : ∃ k, F = k + 7 := ⟨F - 7, by omega⟩
 rw [E_pf, t9653]
 simp only [r0, tkOut_ret, tkRow_r, s9102 (F + 7) d f0 (show f0.length < 4611686018427387904 by omega) (by omega), tkInt_i, decide_true, cond_true]
 rcases ixM_find Mark.possible f0 with ⟨e0, x0⟩ | ⟨j, m, e0, x0, y0, z0⟩
 rotate_left
 ·simp only [x0, ne_of_lt y0, cond_false, gl_at z0, fR_some e0, k0, decide_true, cond_true, Int.natCast_nonneg, ge_iff_le, beq_self_eq_true, Int.ofNat_lt, y0, Int.toNat_natCast, tkCons_c, tkInt_i, List.drop]
 simp only [x0, neg1, cond_false]
 simp only [r1, tkOut_ret, tkRow_r, s9102 (F + 7) d f1 (show f1.length < 4611686018427387904 by omega) (by omega), tkInt_i, decide_true, cond_true]
 rcases ixM_find Mark.possible f1 with ⟨e1, x1⟩ | ⟨j, m, e1, x1, y1, z1⟩
 rotate_left
 ·simp only [x1, ne_of_lt y1, cond_false, gl_at z1, fR_some e1, fR_none e0, k1, decide_true, cond_true, Int.natCast_nonneg, ge_iff_le, beq_self_eq_true, Int.ofNat_lt, y1, Int.toNat_natCast, tkCons_c, tkInt_i, List.drop]
 simp only [x1, neg1, cond_false]
 simp only [r2, tkOut_ret, tkRow_r, s9102 (F + 7) d f2 (show f2.length < 4611686018427387904 by omega) (by omega), tkInt_i, decide_true, cond_true]
 rcases ixM_find Mark.possible f2 with ⟨e2, x2⟩ | ⟨j, m, e2, x2, y2, z2⟩
 rotate_left
 ·simp only [x2, ne_of_lt y2, cond_false, gl_at z2, fR_some e2, fR_none e0, fR_none e1, k2, decide_true, cond_true, Int.natCast_nonneg, ge_iff_le, beq_self_eq_true, Int.ofNat_lt, y2, Int.toNat_natCast, tkCons_c, tkInt_i, List.drop]
 simp only [x2, neg1, cond_false]
 simp only [r3, tkOut_ret, tkRow_r, s9102 (F + 7) d f3 (show f3.length < 4611686018427387904 by omega) (by omega), tkInt_i, decide_true, cond_true]
 rcases ixM_find Mark.possible f3 with ⟨e3, x3⟩ | ⟨j, m, e3, x3, y3, z3⟩
 rotate_left
 ·simp only [x3, ne_of_lt y3, cond_false, gl_at z3, fR_some e3, fR_none e0, fR_none e1, fR_none e2, k3, decide_true, cond_true, Int.natCast_nonneg, ge_iff_le, beq_self_eq_true, Int.ofNat_lt, y3, Int.toNat_natCast, tkCons_c, tkInt_i, List.drop]
 simp only [x3, neg1, cond_false]
 simp only [r4, tkOut_ret, tkRow_r, s9102 (F + 7) d f4 (show f4.length < 4611686018427387904 by omega) (by omega), tkInt_i, decide_true, cond_true]
 rcases ixM_find Mark.possible f4 with ⟨e4, x4⟩ | ⟨j, m, e4, x4, y4, z4⟩
 rotate_left
 ·simp only [x4, ne_of_lt y4, cond_false, gl_at z4, fR_some e4, fR_none e0, fR_none e1, fR_none e2, fR_none e3, k4, decide_true, cond_true, Int.natCast_nonneg, ge_iff_le, beq_self_eq_true, Int.ofNat_lt, y4, Int.toNat_natCast, tkCons_c, tkInt_i, List.drop]
 simp only [x4, neg1, cond_false]
 simp only [r5, tkOut_ret, tkRow_r, s9102 (F + 7) d f5 (show f5.length < 4611686018427387904 by omega) (by omega), tkInt_i, decide_true, cond_true]
 rcases ixM_find Mark.possible f5 with ⟨e5, x5⟩ | ⟨j, m, e5, x5, y5, z5⟩
 rotate_left
 ·simp only [x5, ne_of_lt y5, cond_false, gl_at z5, fR_some e5, fR_none e0, fR_none e1, fR_none e2, fR_none e3, fR_none e4, k5, decide_true, cond_true, Int.natCast_nonneg, ge_iff_le, beq_self_eq_true, Int.ofNat_lt, y5, Int.toNat_natCast, tkCons_c, tkInt_i, List.drop]
 simp only [x5, neg1, cond_false]
 rw [fR_none e0, fR_none e1, fR_none e2, fR_none e3, fR_none e4, fR_none e5]
 rfl
theorem s9035 (s : Site) (y : Day) (b : Option (Sl Span)) (m : Option (Sl Stt)) (n : Int) (hS : SiteF s) (hD : DayOk s y) (hb : ∀ x, b = some x → x.len = s.cavs.len ∧ ∀ i, i < x.len → SpanIn (x.el i) 0 50000) (hm : ∀ x, m = some x → StatesOk s x ∧ x.nl = false) (hF : 67108864 < F) :
  (E F (d + 7)).pf 35 [pTod s y (rowB_ b) (rowC_ m), .int .i64 n, .fn (.func 36) [] []] = some (.ret (eFaultB (faultR n Mark.possible (marksOf s y b m)))) := by
 have h1 := hS.cavs1
 have h5 := hS.cavs5
 have h6 := hS.houses5
 have hp := hD.1.1
 have r0 := s96 F (d + 5) s y (rowB_ b) (rowC_ m) hS hD (by omega)
 have r1 := s97 F (d + 5) s y (rowB_ b) (rowC_ m) h1 h5 hp (by omega)
 have r2 : (E F (d + 6)).pf 70 [pTod s y (rowB_ b) (rowC_ m)] = some (.ret (rowM (fastMs s y b))) := by
  cases b with
  | none => exact s98n F (d + 5) s y (rowC_ m) (by omega)
  | some x => exact s98 F (d + 5) s y x (rowC_ m) h1 h5 hD (hb x rfl).1 (hb x rfl).2 (by omega)
 have r3 : (E F (d + 6)).pf 71 [pTod s y (rowB_ b) (rowC_ m)] = some (.ret (rowM (smallMs s m))) := by
  cases m with
  | none => exact s99n F (d + 5) s y (rowB_ b) (by omega)
  | some x => exact s99 F (d + 5) s y x (rowB_ b) h1 h5 (hm x rfl).1.1 (by omega)
 have r4 : (E F (d + 6)).pf 72 [pTod s y (rowB_ b) (rowC_ m)] = some (.ret (rowM (thinMs s m))) := by
  cases m with
  | none => exact s100n F (d + 5) s y (rowB_ b)
  | some x => exact s100 F (d + 1) s y x (rowB_ b) hS (hm x rfl).1 (hm x rfl).2 hF
 have r5 : (E F (d + 6)).pf 73 [pTod s y (rowB_ b) (rowC_ m)] = some (.ret (rowM (sunkMs s m))) := by
  cases m with
  | none => exact s101n F (d + 5) s y (rowB_ b)
  | some x => exact s101 F (d + 3) s y x (rowB_ b) hS (hm x rfl).1 (hm x rfl).2 (by omega)
 have q0 : ((List.range' 0 s.cavs.len).map (outM s y)).length ≤ 100 := by simp; omega
 have q1 : ((List.range' 0 s.cavs.len).map (gateM s y)).length ≤ 100 := by simp; omega
 have q2 : (fastMs s y b).length ≤ 100 := by cases b <;> simp [fastMs]; omega
 have q3 : (smallMs s m).length ≤ 100 := by cases m <;> simp [smallMs]; omega
 have q4 : (thinMs s m).length ≤ 100 := by
  cases m with
  | none => simp [thinMs]
  | some x => have := pairs_len s x s.cavs.len 0 h5; show (pairsM s x s.cavs.len 0).length ≤ 100; omega
 have q5 : (sunkMs s m).length ≤ 100 := by cases m <;> simp [sunkMs]; omega
 exact s9653 F (d + 4) s y _ _ n _ _ _ _ _ _ q0 q1 q2 q3 q4 q5 (by omega) r0 r1 r2 r3 r4 r5
end Go.Sim.Cr


namespace Go.Sim.Cr
open Go.Proofs
section
variable {R : Type}
theorem qHv (v : V) (h : List Slot) (f : R) (k : V → List Slot → R) : tkHv (some (.ret v, h)) f k = k v h := Eq.trans (Eq.refl _) (Eq.refl _)
theorem qSC (s : Slot) (l : List Slot) (f : R) (k : Slot → List Slot → R) : tkSCons (s :: l) f k = k s l := Eq.trans (Eq.refl _) (Eq.refl _)
theorem qSN (f k : R) : tkSNil [] f k = k := Eq.trans (Eq.refl _) (Eq.refl _)
theorem qBox (e : Nat) (c : List V) (w : Bool) (f : R) (k : Nat → List V → Bool → R) : tkBox (.box e c w) f k = k e c w := Eq.trans (Eq.refl _) (Eq.refl _)
theorem qArr (e wd n : Nat) (g : Nat → List V) (w : Bool) (f : R) (k : Nat → Nat → Nat → (Nat → List V) → Bool → R) : tkArr (.arr e wd n g w) f k = k e wd n g w := Eq.trans (Eq.refl _) (Eq.refl _)
theorem qMp (a : Bool) (ks : List KS) (es : List (V × V)) (w : Bool) (f : R) (k : Bool → List KS → List (V × V) → Bool → R) : tkMp (.mp a ks es w) f k = k a ks es w := Eq.trans (Eq.refl _) (Eq.refl _)
theorem qSlr (a : Bool) (n wd : Nat) (g : Nat → List V) (f : R) (k : Bool → Nat → Nat → (Nat → List V) → R) (k' : Nat → Nat → Nat → R) : tkSl (.row a n wd g) f k k' = k a n wd g := Eq.trans (Eq.refl _) (Eq.refl _)
theorem qSlo (b lo n : Nat) (f : R) (k : Bool → Nat → Nat → (Nat → List V) → R) (k' : Nat → Nat → Nat → R) : tkSl (.osl b lo n) f k k' = k' b lo n := Eq.trans (Eq.refl _) (Eq.refl _)
theorem qDead (f k : R) : tkDead .dead f k = k := Eq.trans (Eq.refl _) (Eq.refl _)
theorem qSame (a : Slot) (f k : R) : tkSame a a f k = k := by unfold tkSame; rw [if_pos rfl]
theorem qBool (b : Bool) (f : R) (k : Bool → R) : tkBool (.bool b) f k = k b := Eq.trans (Eq.refl _) (Eq.refl _)
theorem qOn (kn : R) (k : V → R) : tkOpt none kn k = kn := Eq.trans (Eq.refl _) (Eq.refl _)
theorem qOs (v : V) (kn : R) (k : V → R) : tkOpt (some v) kn k = k v := Eq.trans (Eq.refl _) (Eq.refl _)
theorem qRow (a : Bool) (n wd : Nat) (g : Nat → List V) (f : R) (k : Bool → Nat → Nat → (Nat → List V) → R) : tkRow (.row a n wd g) f k = k a n wd g := Eq.trans (Eq.refl _) (Eq.refl _)
end
abbrev K32 : List KS := [KS.int .i64, KS.int .i64, KS.int .i64, KS.int .i64, KS.int .i64, KS.int .i64, KS.int .i64, KS.int .i64, KS.int .i64, KS.int .i64, KS.int .i64, KS.int .i64, KS.int .i64, KS.int .i64, KS.int .i64, KS.int .i64, KS.int .i64, KS.int .i64, KS.int .i64, KS.int .i64, KS.int .i64, KS.int .i64, KS.int .i64, KS.int .i64, KS.int .i64, KS.int .i64, KS.int .i64, KS.int .i64, KS.int .i64, KS.int .i64, KS.int .i64, KS.int .i64]
theorem n1413 : Nat.beq 14 13 = false := by decide
theorem n1213 : Nat.beq 12 999 = false := by decide
theorem kK32 : ksEq K32 K32 = true := by decide
abbrev RIs (r : Rw) (l : List Int) : Prop := r.len = l.length ∧ (l ≠ [] → r.wd = 1) ∧ ∀ i, i < l.length → r.get i = [.int .i64 (l.getD i 0)]
def cnt : Nat → Nat
 | 0 => 0
 | r + 1 => 1 + 6 * cnt r
section
variable (s : Site) (low rest : Sl Int) (wm : Span) (nd : Sl Int)
abbrev HA (out : V) (es : List (V × V)) (x : List Slot) : List Slot := (.box 29 [(sl eInt 1 nd)] true) :: (.box 77 [(.mapr 7)] true) :: (.box 28 (eSite s) true) :: (.box 76 [(.fn (.func 31) [] [(.optr 2 0 0), (.optr 8 0 0), (.optr 9 0 0), (.optr 10 0 0)])] true) :: (.box 73 [(.optr 11 0 0)] true) :: (.box 35 [out] true) :: (.box 78 [(.fn (.func 32) [] [(.optr 0 0 0), (.optr 1 0 0), (.optr 2 0 0), (.optr 3 0 0), (.optr 4 0 0), (.optr 5 0 0), (.optr 6 0 0)])] true) :: (.mp true K32 es true) :: (.box 29 [(sl eInt 1 rest)] true) :: (.box 29 [(sl eInt 1 low)] true) :: (.box 31 (eSpan wm) true) :: (.box 75 (eSite s) false) :: x
abbrev HB (pr : Sl Span) (out : V) (es : List (V × V)) (x : List Slot) : List Slot := (.arr 31 2 pr.len (fun u => eSpan (pr.el u)) false) :: (.box 29 [(sl eInt 1 nd)] true) :: (.box 77 [(.mapr 8)] true) :: (.box 28 (eSite s) true) :: (.box 76 [(.fn (.func 31) [] [(.optr 3 0 0), (.optr 9 0 0), (.optr 10 0 0), (.optr 11 0 0)])] true) :: (.box 73 [(.optr 12 0 0)] true) :: (.box 35 [out] true) :: (.box 78 [(.fn (.func 32) [] [(.optr 1 0 0), (.optr 2 0 0), (.optr 3 0 0), (.optr 4 0 0), (.optr 5 0 0), (.optr 6 0 0), (.optr 7 0 0)])] true) :: (.mp true K32 es true) :: (.box 29 [(sl eInt 1 rest)] true) :: (.box 29 [(sl eInt 1 low)] true) :: (.box 31 (eSpan wm) true) :: (.box 75 (eSite s) false) :: x
end
def Res (lst : Int → List Int) (res : Option (List Int)) (t : Nat) (T : Nat → Rw) (m' : Nat) (T' : Nat → Rw) : Prop := t ≤ m' ∧ (∀ i, i < t → T' i = T i) ∧ ∀ ms, res = some ms → m' = t + ms.length ∧ ∀ j, j < ms.length → RIs (T' (t + j)) (lst (ms.getD j 0))
theorem app_rw {k : Nat} {T : Nat → Rw} {r : Rw} : appGet k (fun i => eRw (T i)) (fun _ => [.row r.nl r.len r.wd r.get]) = fun i => eRw (if i < k then T i else r) := by
 funext i
 unfold appGet
 by_cases h : i < k
 ·rw [if_pos h, if_pos h]
 ·rw [if_neg h, if_neg h]
structure Ask (F d : Nat) (s : Site) (low rest : Sl Int) (wm : Span) (nd : Sl Int) (S : Nat → List Int) (lst : Int → List Int) : Prop where
 site : SiteF s
 low_ : PresOk s low
 rest_ : PresOk s rest
 wm_ : SpanIn wm 0 10000
 fuel : 67108864 < F
 days : nd.len ≤ 60
 six : ∀ t, (S t).length ≤ 6
 m64 : ∀ t m, m ∈ S t → -9223372036854775808 ≤ m ∧ m ≤ 9223372036854775807
 h33 : ∀ e t, t < nd.len → ∃ r : Rw, (E F (d + 50 + e)).pf 33 [.int .i64 (s.cavs.len : Int), .int .i64 (nd.el t)] = some (.ret (.row r.nl r.len r.wd r.get)) ∧ RIs r (S t)
 h37 : ∀ e t m, t < nd.len → m ∈ S t → ∃ r : Rw, (E F (d + 50 + e)).pf 37 [.int .i64 m] = some (.ret (.row r.nl r.len r.wd r.get)) ∧ RIs r (lst m)
section
variable (F d : Nat) (s : Site) (low rest : Sl Int) (wm : Span) (nd : Sl Int) (S : Nat → List Int) (lst : Int → List Int)
def SB (r : Nat) : Prop := ∀ (t : Nat) (last : Int) (l : Sl Stt) (es : List (V × V)) (mm : Nat) (T : Nat → Rw), t + r = nd.len → 1 ≤ t → StatesOk s l → l.nl = false → (-9223372036854775808 ≤ last ∧ last ≤ 9223372036854775807) →
  DeadOk s low rest wm S nd.len es → es.length + cnt r ≤ 100000000000 →
  ∃ es' m' mm' T', ((mm' = mm ∧ T' = T ∧ (E F (d + 51 + r)).hv 32 [.int .i64 (t : Int), .osl 0 0 (dayB s low rest wm last).press.len, sl eStt 6 l, .int .i64 last, .optr 1 0 0, .optr 2 0 0, .optr 3 0 0, .optr 4 0 0, .optr 5 0 0, .optr 6 0 0, .optr 7 0 0] (HB s low rest wm nd (dayB s low rest wm last).press (.osl 13 0 t) es [.arr 29 1 mm (fun i => eRw (T i)) true]) =
    some (.ret (.bool (go s low rest wm S r t (some (dayB s low rest wm last).press) l).isSome), HB s low rest wm nd (dayB s low rest wm last).press (.osl 13 0 m') es' [.arr 29 1 mm (fun i => eRw (T i)) true])) ∨
   (E F (d + 51 + r)).hv 32 [.int .i64 (t : Int), .osl 0 0 (dayB s low rest wm last).press.len, sl eStt 6 l, .int .i64 last, .optr 1 0 0, .optr 2 0 0, .optr 3 0 0, .optr 4 0 0, .optr 5 0 0, .optr 6 0 0, .optr 7 0 0] (HB s low rest wm nd (dayB s low rest wm last).press (.osl 13 0 t) es [.arr 29 1 mm (fun i => eRw (T i)) true]) =
    some (.ret (.bool (go s low rest wm S r t (some (dayB s low rest wm last).press) l).isSome), HB s low rest wm nd (dayB s low rest wm last).press (.osl 14 0 m') es' [.dead, .arr 29 1 mm' (fun i => eRw (T' i)) true])) ∧
   DeadOk s low rest wm S nd.len es' ∧ es'.length ≤ es.length + cnt r ∧ Res lst (go s low rest wm S r t (some (dayB s low rest wm last).press) l) t T m' T'
variable {F d s low rest wm nd S lst}
noncomputable abbrev fB (s : Site) (low rest : Sl Int) (wm : Span) (S : Nat → List Int) (r t : Nat) (b : Option (Sl Span)) (l : Sl Stt) (m : Int) : Option (List Int) := bif okDay s (dayB s low rest wm m) b l then (go s low rest wm S r (t + 1) (some (dayB s low rest wm m).press) (moved s l (dayB s low rest wm m))).map (m :: ·) else none
theorem find_drop {f : Int → Option (List Int)} {L : List Int} {k : Nat} (h : (L.take k).findSome? f = none) : L.findSome? f = (L.drop k).findSome? f := by
 conv => lhs; rw [← List.take_append_drop k L]
 rw [List.findSome?_append, h]; rfl
theorem take_none {f : Int → Option (List Int)} {L : List Int} {k : Nat} (h : (L.take k).findSome? f = none) (hk : k < L.length) (hf : f (L.getD k 0) = none) : (L.take (k + 1)).findSome? f = none := by
 rw [List.take_succ_eq_append_getElem hk, List.findSome?_append, h]
 rw [List.getD_eq_getElem?_getD, List.getElem?_eq_getElem hk] at hf
 simp only [List.findSome?_cons, List.findSome?_nil, Option.getD_some] at hf ⊢
 rw [hf]; rfl
theorem drop_find {f : Int → Option (List Int)} {L : List Int} {k : Nat} (hk : k < L.length) : (L.drop k).findSome? f = (match f (L.getD k 0) with | some x => some x | none => (L.drop (k + 1)).findSome? f) := by
 rw [List.drop_eq_getElem_cons hk, List.findSome?_cons, List.getD_eq_getElem?_getD, List.getElem?_eq_getElem hk, Option.getD_some]
 cases f L[k] <;> rfl
end
end Go.Sim.Cr


set_option maxRecDepth 100000
namespace Go.Sim.Cr
open Go.Proofs
section
variable {F d : Nat} {s : Site} {low rest : Sl Int} {wm : Span} {nd : Sl Int} {S : Nat → List Int} {lst : Int → List Int}
set_option maxHeartbeats 4000000
theorem l9132x1 (A : Ask F d s low rest wm nd S lst) {r t : Nat} (ht : t + (r + 1) = nd.len) (h1t : 1 ≤ t) (ih : SB F d s low rest wm nd S lst r) {last : Int} {l : Sl Stt} (hL : StatesOk s l) (hnl : l.nl = false) (hlast : -9223372036854775808 ≤ last ∧ last ≤ 9223372036854775807) (R0 : Rw) (hR : RIs R0 (S t)) (T : Nat → Rw) (es0 : List (V × V)) (mq mmq : Nat) (gq : Nat → List V) : ∀ (n k fu : Nat) (es : List (V × V)) (mm1 : Nat) (T1 : Nat → Rw), (S t).length = k + n → n < fu → DeadOk s low rest wm S nd.len es → es.length + n * cnt r + 1 ≤ 100000000000 → (∀ i, i < t → T1 i = T i) → ((S t).take k).findSome? (fB s low rest wm S r t (some (dayB s low rest wm last).press) l) = none →
  ∃ es' m' mm' T', L9132x1 (E F (d + 51 + r)) F s low rest wm nd es0 (t : Int) last l (dayB s low rest wm last).press mq mmq gq fu R0.nl R0.len R0.wd R0.get ((R0.len : Nat) : Int) (k : Int) es mm1 (fun i => eRw (T1 i)) = some (.ret (.bool (((S t).drop k).findSome? (fB s low rest wm S r t (some (dayB s low rest wm last).press) l)).isSome), HB s low rest wm nd (dayB s low rest wm last).press (.osl 14 0 m') es' [.dead, .arr 29 1 mm' (fun i => eRw (T' i)) true]) ∧
   DeadOk s low rest wm S nd.len es' ∧ es'.length ≤ es.length + n * cnt r + 1 ∧ Res lst (((S t).drop k).findSome? (fB s low rest wm S r t (some (dayB s low rest wm last).press) l)) t T m' T' := by
 have hS := A.site
 have h1 := hS.cavs1
 have h5 := hS.cavs5
 have hF := A.fuel
 have hdays := A.days
 have hrg := rgB_ok (n := (t : Int)) (last := last) (l := l) (by omega) hlast (by have := hL.2; exact this)
 unfold rgB at hrg
 have hbef : befOf s low rest wm t last = (some (dayB s low rest wm last).press) := by unfold befOf; rw [if_neg (by omega)]
 have hsubr : nd.len - t = r + 1 := by omega
 intro n
 induction n with
 | zero =>
  intro k fu es mm1 T1 h hf hD hle hT hno
  obtain ⟨fu, rfl⟩ : ∃ q, fu = q + 1 := ⟨fu - 1, by omega⟩
  have hdk : (S t).drop k = [] := List.drop_eq_nil_of_le (by omega)
  have hgo : go s low rest wm S (nd.len - t) t (befOf s low rest wm t last) l = none := by
   rw [hsubr, hbef]
   show (S t).findSome? (fB s low rest wm S r t (some (dayB s low rest wm last).press) l) = none
   rw [find_drop hno, hdk]; rfl
  rw [L9132x1s, decide_eq_false (show ¬ (k : Int) < ((R0.len : Nat) : Int) by have := hR.1; omega), cond_false, hrg, cond_true, decide_eq_true (show es.length < 1000000000000 by omega), cond_true, hdk]
  refine ⟨mput es (.agg (keyL (t : Int) last l)) (.bool true), t, mm1, T1, ?_, dead_put hD (by omega) hL.1 hgo, ?_, Nat.le_refl _, hT, fun ms hms => by cases hms⟩
  ·rw [Int.toNat_natCast]; rfl
  ·have := mput_len es (.agg (keyL (t : Int) last l)) (.bool true); omega
 | succ n hin =>
  intro k fu es mm1 T1 h hf hD hle hT hno
  obtain ⟨fu, rfl⟩ : ∃ q, fu = q + 1 := ⟨fu - 1, by omega⟩
  have hk : k < (S t).length := by omega
  have hmem : (S t).getD k 0 ∈ S t := by rw [List.getD_eq_getElem?_getD, List.getElem?_eq_getElem hk]; exact List.getElem_mem hk
  have hmul : (n + 1) * cnt r = n * cnt r + cnt r := by rw [Nat.add_mul, Nat.one_mul]
  have hwd : (R0.wd == 1) = true := by rw [hR.2.1 (fun he => by rw [he] at hk; cases hk)]; rfl
  have hget := hR.2.2 k hk
  have hDay := dayQ_ok A.low_ A.rest_ A.wm_ (bitB ((S t).getD k 0))
  have hDay0 := dayQ_ok A.low_ A.rest_ A.wm_ (bitB last)
  have e31 : (E F (d + 51 + r)).hv 31 [.int .i64 ((S t).getD k 0), .optr 0 0 0, .optr 1 0 0, .optr 2 0 0, .optr 3 0 0] [(.box 28 (eSite s) true), (.box 29 [sl eInt 1 rest] true), (.box 29 [sl eInt 1 low] true), (.box 31 (eSpan wm) true)] =
    some (.ret (.agg [.osl 4 0 s.cavs.len, .osl 5 0 s.cavs.len]), [(.box 28 (eSite s) true), (.box 29 [sl eInt 1 rest] true), (.box 29 [sl eInt 1 low] true), (.box 31 (eSpan wm) true), .arr 31 2 s.cavs.len (fun j => eSpan ((dayB s low rest wm ((S t).getD k 0)).press.el j)) true, .arr 31 2 s.cavs.len (fun _ => eSpan wm) true]) := by
   have := s9031 F (d + 50 + r) s low rest wm ((S t).getD k 0) A.low_.1 A.rest_.1 h5 h1 (by omega)
   rw [show d + 50 + r + 1 = d + 51 + r by omega] at this
   exact this
  have e34 : (E F (d + 51 + r)).pf 34 [pSite s, sl eStt 6 l, .agg [.row false s.cavs.len 2 (fun j => eSpan ((dayB s low rest wm ((S t).getD k 0)).press.el j)), .row false s.cavs.len 2 (fun _ => eSpan wm)]] = some (.ret (moveR s l (dayB s low rest wm ((S t).getD k 0)))) := by
   have := s51 F (d + 44 + r) s l (dayB s low rest wm ((S t).getD k 0)) hS hL hDay (by omega)
   rw [show d + 44 + r + 7 = d + 51 + r by omega] at this
   exact this
  rw [L9132x1s]
  simp only [decide_eq_true (show (k : Int) < ((R0.len : Nat) : Int) by have := hR.1; omega), hwd, Int.natCast_nonneg, decide_true, Int.toNat_natCast, hget, e31, e34, moveR, wrS (show k < 4611686018427387904 by have := A.six t; omega), qHv, qSC, qSN, qBox, qArr, qMp, qSlr, qSlo, qDead, qSame, qBool, qRow, pOut, pTup, pCons, pAgg, pInt, pNil, pT, pF, Nat.beq_refl, Bool.and_self, beq_self_eq_true, Bool.true_and, Bool.and_true]
  cases hfar : farDay s (dayB s low rest wm ((S t).getD k 0)) with
  | true =>
   have hfk : (fB s low rest wm S r t (some (dayB s low rest wm last).press) l) ((S t).getD k 0) = none := by simp only [fB, okDay, hfar, Bool.not_true, Bool.false_and, cond_false]
   obtain ⟨es', m', mm', T', g1, g2, g3, g4⟩ := hin (k + 1) fu es mm1 T1 (by omega) (by omega) hD (by omega) hT (take_none hno hk hfk)
   rw [drop_find hk, hfk]
   simp only [pT, pTup, pCons, pRow, qRow, qBool, pNil, Bool.not_false]
   exact ⟨es', m', mm', T', g1, g2, by omega, g4⟩
  | false =>
   have hML := moved_ok hS hL hDay hfar
   have e35 : (E F (d + 51 + r)).pf 35 [.rptr 1 5 (fun _ => [pSite s, .row false s.cavs.len 2 (fun j => eSpan ((dayB s low rest wm ((S t).getD k 0)).press.el j)), .row false s.cavs.len 2 (fun _ => eSpan wm), .row false (dayB s low rest wm last).press.len 2 (fun u => eSpan ((dayB s low rest wm last).press.el u)), .row (moved s l (dayB s low rest wm ((S t).getD k 0))).nl (moved s l (dayB s low rest wm ((S t).getD k 0))).len 6 (fun i => eStt ((moved s l (dayB s low rest wm ((S t).getD k 0))).el i))]) 0 0, .int .i64 (t : Int), .fn (.func 36) [] []] = some (.ret (eFaultB (faultR (t : Int) Mark.possible (marksOf s (dayB s low rest wm ((S t).getD k 0)) (some (dayB s low rest wm last).press) (some (moved s l (dayB s low rest wm ((S t).getD k 0)))))))) := by
    have := s9035 F (d + 44 + r) s (dayB s low rest wm ((S t).getD k 0)) (some (dayB s low rest wm last).press) (some (moved s l (dayB s low rest wm ((S t).getD k 0)))) (t : Int) hS hDay (by intro x hx; cases hx; exact ⟨rfl, hDay0.1.2⟩) (by intro x hx; cases hx; exact ⟨hML, rfl⟩) (by omega)
    rw [show d + 44 + r + 7 = d + 51 + r by omega] at this
    exact this
   simp only [pF, pTup, pCons, pRow, qRow, qBool, pNil, Bool.not_true, e35, pOut]
   cases hfr : faultR (t : Int) Mark.possible (marksOf s (dayB s low rest wm ((S t).getD k 0)) (some (dayB s low rest wm last).press) (some (moved s l (dayB s low rest wm ((S t).getD k 0))))) with
   | some ff =>
    have hfk : (fB s low rest wm S r t (some (dayB s low rest wm last).press) l) ((S t).getD k 0) = none := by
     have := faultR_n 0 (t : Int) Mark.possible (marksOf s (dayB s low rest wm ((S t).getD k 0)) (some (dayB s low rest wm last).press) (some (moved s l (dayB s low rest wm ((S t).getD k 0)))))
     rw [hfr] at this
     simp only [fB, okDay, this, Option.isNone_some, Bool.and_false, cond_false]
    obtain ⟨es', m', mm', T', g1, g2, g3, g4⟩ := hin (k + 1) fu es mm1 T1 (by omega) (by omega) hD (by omega) hT (take_none hno hk hfk)
    rw [drop_find hk, hfk]
    simp only [eFaultB, pTup, pCons, pAgg, pInt, pNil, qBool, pT]
    exact ⟨es', m', mm', T', g1, g2, by omega, g4⟩
   | none =>
    have hfk : (fB s low rest wm S r t (some (dayB s low rest wm last).press) l) ((S t).getD k 0) = (go s low rest wm S r (t + 1) (some (dayB s low rest wm ((S t).getD k 0)).press) (moved s l (dayB s low rest wm ((S t).getD k 0)))).map ((S t).getD k 0 :: ·) := by
     have := faultR_n 0 (t : Int) Mark.possible (marksOf s (dayB s low rest wm ((S t).getD k 0)) (some (dayB s low rest wm last).press) (some (moved s l (dayB s low rest wm ((S t).getD k 0)))))
     rw [hfr] at this
     simp only [fB, okDay, this, hfar, Option.isNone_none, Bool.not_false, Bool.and_self, cond_true]
    obtain ⟨rb, e37', hrb⟩ := A.h37 (1 + r) t ((S t).getD k 0) (by omega) hmem
    have e37 : (E F (d + 51 + r)).pf 37 [.int .i64 ((S t).getD k 0)] = some (.ret (.row rb.nl rb.len rb.wd rb.get)) := by
     rw [show d + 50 + (1 + r) = d + 51 + r by omega] at e37'
     exact e37'
    obtain ⟨es', m', mm', T', hcall, hD', hlen, hle', hT', hfound⟩ := ih (t + 1) ((S t).getD k 0) (moved s l (dayB s low rest wm ((S t).getD k 0))) es (t + 1) (fun i => if i < t then T1 i else rb) (by omega) (by omega) hML rfl (A.m64 t _ hmem) hD (by omega)
    have hTT : ∀ i, i < t → T' i = T i := fun i hi => by
     rw [hT' i (by omega)]
     show (if i < t then T1 i else rb) = T i
     rw [if_pos hi, hT i hi]
    simp only [eFaultB, pTup, pCons, pAgg, pInt, pNil, qBool, pF, e37, pOut, pRow, qRow, decide_eq_true (show (t + 1) * 24 ≤ 140737488355328 by omega), pT, wrS (show t < 4611686018427387904 by omega), app_rw]
    have fin : ∀ (mmx : Nat) (Tx : Nat → Rw), (∀ i, i < t → Tx i = T i) → (go s low rest wm S r (t + 1) (some (dayB s low rest wm ((S t).getD k 0)).press) (moved s l (dayB s low rest wm ((S t).getD k 0))) = none → ∃ es2 m2 mm2 T2, L9132x1 (E F (d + 51 + r)) F s low rest wm nd es0 (t : Int) last l (dayB s low rest wm last).press mq mmq gq fu R0.nl R0.len R0.wd R0.get ((R0.len : Nat) : Int) ((k + 1 : Nat) : Int) es' mmx (fun i => eRw (Tx i)) = some (.ret (.bool (((S t).drop k).findSome? (fB s low rest wm S r t (some (dayB s low rest wm last).press) l)).isSome), HB s low rest wm nd (dayB s low rest wm last).press (.osl 14 0 m2) es2 [.dead, .arr 29 1 mm2 (fun i => eRw (T2 i)) true]) ∧ DeadOk s low rest wm S nd.len es2 ∧ es2.length ≤ es.length + (n + 1) * cnt r + 1 ∧ Res lst (((S t).drop k).findSome? (fB s low rest wm S r t (some (dayB s low rest wm last).press) l)) t T m2 T2) := by
     intro mmx Tx hTx hgn
     rw [hgn] at hfk
     have hfk' : (fB s low rest wm S r t (some (dayB s low rest wm last).press) l) ((S t).getD k 0) = none := hfk
     obtain ⟨es2, m2, mm2, T2, g1, g2, g3, g4⟩ := hin (k + 1) fu es' mmx Tx (by omega) (by omega) hD' (by omega) hTx (take_none hno hk hfk')
     rw [drop_find hk, hfk']
     exact ⟨es2, m2, mm2, T2, g1, g2, by omega, g4⟩
    have found : ∀ ms, go s low rest wm S r (t + 1) (some (dayB s low rest wm ((S t).getD k 0)).press) (moved s l (dayB s low rest wm ((S t).getD k 0))) = some ms → (((S t).drop k).findSome? (fB s low rest wm S r t (some (dayB s low rest wm last).press) l) = some ((S t).getD k 0 :: ms)) ∧ Res lst (some ((S t).getD k 0 :: ms)) t T m' T' := by
     intro ms hgs
     obtain ⟨q1, q2⟩ := hfound ms hgs
     rw [drop_find hk, hfk, hgs]
     refine ⟨rfl, by omega, hTT, fun ms' hms => ?_⟩
     cases hms
     refine ⟨by simp only [List.length_cons]; omega, fun j hj => ?_⟩
     cases j with
     | zero =>
      have : T' (t + 0) = rb := by
       rw [hT' (t + 0) (by omega)]
       show (if t + 0 < t then T1 (t + 0) else rb) = rb
       rw [if_neg (by omega)]
      rw [this]
      exact hrb
     | succ j =>
      have := q2 j (by simpa using hj)
      rw [show t + 1 + j = t + (j + 1) by omega] at this
      exact this
    rcases hcall with ⟨rfl, rfl, hcall⟩ | hcall
    ·have e32 : (E F (d + 51 + r)).hv 32 [.int .i64 ((t + 1 : Nat) : Int), .osl 0 0 s.cavs.len, .row (moved s l (dayB s low rest wm ((S t).getD k 0))).nl (moved s l (dayB s low rest wm ((S t).getD k 0))).len 6 (fun i => eStt ((moved s l (dayB s low rest wm ((S t).getD k 0))).el i)), .int .i64 ((S t).getD k 0), .optr 1 0 0, .optr 2 0 0, .optr 3 0 0, .optr 4 0 0, .optr 5 0 0, .optr 6 0 0, .optr 7 0 0] [(.arr 31 2 s.cavs.len (fun j => eSpan ((dayB s low rest wm ((S t).getD k 0)).press.el j)) false), (.box 29 [(sl eInt 1 nd)] true), (.box 77 [(.mapr 8)] true), (.box 28 (eSite s) true), (.box 76 [(.fn (.func 31) [] [(.optr 3 0 0), (.optr 9 0 0), (.optr 10 0 0), (.optr 11 0 0)])] true), (.box 73 [(.optr 12 0 0)] true), (.box 35 [(.osl 13 0 (t + 1))] true), (.box 78 [(.fn (.func 32) [] [(.optr 1 0 0), (.optr 2 0 0), (.optr 3 0 0), (.optr 4 0 0), (.optr 5 0 0), (.optr 6 0 0), (.optr 7 0 0)])] true), (.mp true K32 es true), (.box 29 [(sl eInt 1 rest)] true), (.box 29 [(sl eInt 1 low)] true), (.box 31 (eSpan wm) true), (.box 75 (eSite s) false), (.arr 29 1 (t + 1) (fun i => eRw (if i < t then T1 i else rb)) true)] = some (.ret (.bool (go s low rest wm S r (t + 1) (some (dayB s low rest wm ((S t).getD k 0)).press) (moved s l (dayB s low rest wm ((S t).getD k 0)))).isSome), [(.arr 31 2 s.cavs.len (fun j => eSpan ((dayB s low rest wm ((S t).getD k 0)).press.el j)) false), (.box 29 [(sl eInt 1 nd)] true), (.box 77 [(.mapr 8)] true), (.box 28 (eSite s) true), (.box 76 [(.fn (.func 31) [] [(.optr 3 0 0), (.optr 9 0 0), (.optr 10 0 0), (.optr 11 0 0)])] true), (.box 73 [(.optr 12 0 0)] true), (.box 35 [(.osl 13 0 m')] true), (.box 78 [(.fn (.func 32) [] [(.optr 1 0 0), (.optr 2 0 0), (.optr 3 0 0), (.optr 4 0 0), (.optr 5 0 0), (.optr 6 0 0), (.optr 7 0 0)])] true), (.mp true K32 es' true), (.box 29 [(sl eInt 1 rest)] true), (.box 29 [(sl eInt 1 low)] true), (.box 31 (eSpan wm) true), (.box 75 (eSite s) false), (.arr 29 1 (t + 1) (fun i => eRw (if i < t then T1 i else rb)) true)]) := hcall
     simp only [e32, qHv, qSC, qSN, qBox, qArr, qMp, qSlr, qSlo, qDead, qSame, qBool, qRow, pOut, pTup, pCons, pAgg, pInt, pNil, pT, pF, Nat.beq_refl, Bool.and_self, beq_self_eq_true, Bool.true_and, Bool.and_true, kK32]
     cases hg : go s low rest wm S r (t + 1) (some (dayB s low rest wm ((S t).getD k 0)).press) (moved s l (dayB s low rest wm ((S t).getD k 0))) with
     | some ms =>
      obtain ⟨q1, q2⟩ := found ms hg
      rw [q1]
      simp only [Option.isSome_some, pT]
      exact ⟨es', m', (t + 1), _, rfl, hD', by omega, q2⟩
     | none =>
      simp only [Option.isSome_none, pF, Int.natCast_nonneg, decide_true, pT, decide_eq_true (show t ≤ m' by omega)]
      exact fin _ _ hTT hg
    ·have e32 : (E F (d + 51 + r)).hv 32 [.int .i64 ((t + 1 : Nat) : Int), .osl 0 0 s.cavs.len, .row (moved s l (dayB s low rest wm ((S t).getD k 0))).nl (moved s l (dayB s low rest wm ((S t).getD k 0))).len 6 (fun i => eStt ((moved s l (dayB s low rest wm ((S t).getD k 0))).el i)), .int .i64 ((S t).getD k 0), .optr 1 0 0, .optr 2 0 0, .optr 3 0 0, .optr 4 0 0, .optr 5 0 0, .optr 6 0 0, .optr 7 0 0] [(.arr 31 2 s.cavs.len (fun j => eSpan ((dayB s low rest wm ((S t).getD k 0)).press.el j)) false), (.box 29 [(sl eInt 1 nd)] true), (.box 77 [(.mapr 8)] true), (.box 28 (eSite s) true), (.box 76 [(.fn (.func 31) [] [(.optr 3 0 0), (.optr 9 0 0), (.optr 10 0 0), (.optr 11 0 0)])] true), (.box 73 [(.optr 12 0 0)] true), (.box 35 [(.osl 13 0 (t + 1))] true), (.box 78 [(.fn (.func 32) [] [(.optr 1 0 0), (.optr 2 0 0), (.optr 3 0 0), (.optr 4 0 0), (.optr 5 0 0), (.optr 6 0 0), (.optr 7 0 0)])] true), (.mp true K32 es true), (.box 29 [(sl eInt 1 rest)] true), (.box 29 [(sl eInt 1 low)] true), (.box 31 (eSpan wm) true), (.box 75 (eSite s) false), (.arr 29 1 (t + 1) (fun i => eRw (if i < t then T1 i else rb)) true)] = some (.ret (.bool (go s low rest wm S r (t + 1) (some (dayB s low rest wm ((S t).getD k 0)).press) (moved s l (dayB s low rest wm ((S t).getD k 0)))).isSome), [(.arr 31 2 s.cavs.len (fun j => eSpan ((dayB s low rest wm ((S t).getD k 0)).press.el j)) false), (.box 29 [(sl eInt 1 nd)] true), (.box 77 [(.mapr 8)] true), (.box 28 (eSite s) true), (.box 76 [(.fn (.func 31) [] [(.optr 3 0 0), (.optr 9 0 0), (.optr 10 0 0), (.optr 11 0 0)])] true), (.box 73 [(.optr 12 0 0)] true), (.box 35 [(.osl 14 0 m')] true), (.box 78 [(.fn (.func 32) [] [(.optr 1 0 0), (.optr 2 0 0), (.optr 3 0 0), (.optr 4 0 0), (.optr 5 0 0), (.optr 6 0 0), (.optr 7 0 0)])] true), (.mp true K32 es' true), (.box 29 [(sl eInt 1 rest)] true), (.box 29 [(sl eInt 1 low)] true), (.box 31 (eSpan wm) true), (.box 75 (eSite s) false), .dead, (.arr 29 1 mm' (fun i => eRw (T' i)) true)]) := hcall
     simp only [e32, qHv, qSC, qSN, qBox, qArr, qMp, qSlr, qSlo, qDead, qSame, qBool, qRow, pOut, pTup, pCons, pAgg, pInt, pNil, pT, pF, Nat.beq_refl, Bool.and_self, beq_self_eq_true, Bool.true_and, Bool.and_true, kK32, n1413]
     cases hg : go s low rest wm S r (t + 1) (some (dayB s low rest wm ((S t).getD k 0)).press) (moved s l (dayB s low rest wm ((S t).getD k 0))) with
     | some ms =>
      obtain ⟨q1, q2⟩ := found ms hg
      rw [q1]
      simp only [Option.isSome_some, pT]
      exact ⟨es', m', mm', T', rfl, hD', by omega, q2⟩
     | none =>
      simp only [Option.isSome_none, pF, Int.natCast_nonneg, decide_true, pT, decide_eq_true (show t ≤ m' by omega)]
      exact fin _ _ hTT hg
theorem l9032x1 (A : Ask F d s low rest wm nd S lst) {r t : Nat} (ht : t + (r + 1) = nd.len) (h0t : t = 0) (ih : SB F d s low rest wm nd S lst r) {last : Int} {l : Sl Stt} (hL : StatesOk s l) (hnl : l.nl = false) (hlast : -9223372036854775808 ≤ last ∧ last ≤ 9223372036854775807) (R0 : Rw) (hR : RIs R0 (S t)) (T : Nat → Rw) (es0 : List (V × V))  : ∀ (n k fu : Nat) (es : List (V × V)) (mm1 : Nat) (T1 : Nat → Rw), (S t).length = k + n → n < fu → DeadOk s low rest wm S nd.len es → es.length + n * cnt r + 1 ≤ 100000000000 → (∀ i, i < t → T1 i = T i) → ((S t).take k).findSome? (fB s low rest wm S r t none l) = none →
  ∃ es' m' mm' T', L9032x1 (E F (d + 51 + r)) F s low rest wm nd es0 (t : Int) last l fu R0.nl R0.len R0.wd R0.get ((R0.len : Nat) : Int) (k : Int) es mm1 (fun i => eRw (T1 i)) = some (.ret (.bool (((S t).drop k).findSome? (fB s low rest wm S r t none l)).isSome), HA s low rest wm nd (.osl 12 0 m') es' [.arr 29 1 mm' (fun i => eRw (T' i)) true]) ∧
   DeadOk s low rest wm S nd.len es' ∧ es'.length ≤ es.length + n * cnt r + 1 ∧ Res lst (((S t).drop k).findSome? (fB s low rest wm S r t none l)) t T m' T' := by
 have hS := A.site
 have h1 := hS.cavs1
 have h5 := hS.cavs5
 have hF := A.fuel
 have hdays := A.days
 have hrg := rgB_ok (n := (t : Int)) (last := last) (l := l) (by omega) hlast (by have := hL.2; exact this)
 unfold rgB at hrg
 have hbef : befOf s low rest wm t last = none := by unfold befOf; rw [if_pos h0t]
 have hsubr : nd.len - t = r + 1 := by omega
 intro n
 induction n with
 | zero =>
  intro k fu es mm1 T1 h hf hD hle hT hno
  obtain ⟨fu, rfl⟩ : ∃ q, fu = q + 1 := ⟨fu - 1, by omega⟩
  have hdk : (S t).drop k = [] := List.drop_eq_nil_of_le (by omega)
  have hgo : go s low rest wm S (nd.len - t) t (befOf s low rest wm t last) l = none := by
   rw [hsubr, hbef]
   show (S t).findSome? (fB s low rest wm S r t none l) = none
   rw [find_drop hno, hdk]; rfl
  rw [L9032x1s, decide_eq_false (show ¬ (k : Int) < ((R0.len : Nat) : Int) by have := hR.1; omega), cond_false, hrg, cond_true, decide_eq_true (show es.length < 1000000000000 by omega), cond_true, hdk]
  refine ⟨mput es (.agg (keyL (t : Int) last l)) (.bool true), t, mm1, T1, ?_, dead_put hD (by omega) hL.1 hgo, ?_, Nat.le_refl _, hT, fun ms hms => by cases hms⟩
  ·rw [Int.toNat_natCast]; rfl
  ·have := mput_len es (.agg (keyL (t : Int) last l)) (.bool true); omega
 | succ n hin =>
  intro k fu es mm1 T1 h hf hD hle hT hno
  obtain ⟨fu, rfl⟩ : ∃ q, fu = q + 1 := ⟨fu - 1, by omega⟩
  have hk : k < (S t).length := by omega
  have hmem : (S t).getD k 0 ∈ S t := by rw [List.getD_eq_getElem?_getD, List.getElem?_eq_getElem hk]; exact List.getElem_mem hk
  have hmul : (n + 1) * cnt r = n * cnt r + cnt r := by rw [Nat.add_mul, Nat.one_mul]
  have hwd : (R0.wd == 1) = true := by rw [hR.2.1 (fun he => by rw [he] at hk; cases hk)]; rfl
  have hget := hR.2.2 k hk
  have hDay := dayQ_ok A.low_ A.rest_ A.wm_ (bitB ((S t).getD k 0))
  have hDay0 := dayQ_ok A.low_ A.rest_ A.wm_ (bitB last)
  have e31 : (E F (d + 51 + r)).hv 31 [.int .i64 ((S t).getD k 0), .optr 0 0 0, .optr 1 0 0, .optr 2 0 0, .optr 3 0 0] [(.box 28 (eSite s) true), (.box 29 [sl eInt 1 rest] true), (.box 29 [sl eInt 1 low] true), (.box 31 (eSpan wm) true)] =
    some (.ret (.agg [.osl 4 0 s.cavs.len, .osl 5 0 s.cavs.len]), [(.box 28 (eSite s) true), (.box 29 [sl eInt 1 rest] true), (.box 29 [sl eInt 1 low] true), (.box 31 (eSpan wm) true), .arr 31 2 s.cavs.len (fun j => eSpan ((dayB s low rest wm ((S t).getD k 0)).press.el j)) true, .arr 31 2 s.cavs.len (fun _ => eSpan wm) true]) := by
   have := s9031 F (d + 50 + r) s low rest wm ((S t).getD k 0) A.low_.1 A.rest_.1 h5 h1 (by omega)
   rw [show d + 50 + r + 1 = d + 51 + r by omega] at this
   exact this
  have e34 : (E F (d + 51 + r)).pf 34 [pSite s, sl eStt 6 l, .agg [.row false s.cavs.len 2 (fun j => eSpan ((dayB s low rest wm ((S t).getD k 0)).press.el j)), .row false s.cavs.len 2 (fun _ => eSpan wm)]] = some (.ret (moveR s l (dayB s low rest wm ((S t).getD k 0)))) := by
   have := s51 F (d + 44 + r) s l (dayB s low rest wm ((S t).getD k 0)) hS hL hDay (by omega)
   rw [show d + 44 + r + 7 = d + 51 + r by omega] at this
   exact this
  rw [L9032x1s]
  simp only [decide_eq_true (show (k : Int) < ((R0.len : Nat) : Int) by have := hR.1; omega), hwd, Int.natCast_nonneg, decide_true, Int.toNat_natCast, hget, e31, e34, moveR, wrS (show k < 4611686018427387904 by have := A.six t; omega), qHv, qSC, qSN, qBox, qArr, qMp, qSlr, qSlo, qDead, qSame, qBool, qRow, pOut, pTup, pCons, pAgg, pInt, pNil, pT, pF, Nat.beq_refl, Bool.and_self, beq_self_eq_true, Bool.true_and, Bool.and_true]
  cases hfar : farDay s (dayB s low rest wm ((S t).getD k 0)) with
  | true =>
   have hfk : (fB s low rest wm S r t none l) ((S t).getD k 0) = none := by simp only [fB, okDay, hfar, Bool.not_true, Bool.false_and, cond_false]
   obtain ⟨es', m', mm', T', g1, g2, g3, g4⟩ := hin (k + 1) fu es mm1 T1 (by omega) (by omega) hD (by omega) hT (take_none hno hk hfk)
   rw [drop_find hk, hfk]
   simp only [pT, pTup, pCons, pRow, qRow, qBool, pNil, Bool.not_false]
   exact ⟨es', m', mm', T', g1, g2, by omega, g4⟩
  | false =>
   have hML := moved_ok hS hL hDay hfar
   have e35 : (E F (d + 51 + r)).pf 35 [.rptr 1 5 (fun _ => [pSite s, .row false s.cavs.len 2 (fun j => eSpan ((dayB s low rest wm ((S t).getD k 0)).press.el j)), .row false s.cavs.len 2 (fun _ => eSpan wm), .row true 0 0 (fun _ => []), .row (moved s l (dayB s low rest wm ((S t).getD k 0))).nl (moved s l (dayB s low rest wm ((S t).getD k 0))).len 6 (fun i => eStt ((moved s l (dayB s low rest wm ((S t).getD k 0))).el i))]) 0 0, .int .i64 (t : Int), .fn (.func 36) [] []] = some (.ret (eFaultB (faultR (t : Int) Mark.possible (marksOf s (dayB s low rest wm ((S t).getD k 0)) none (some (moved s l (dayB s low rest wm ((S t).getD k 0)))))))) := by
    have := s9035 F (d + 44 + r) s (dayB s low rest wm ((S t).getD k 0)) none (some (moved s l (dayB s low rest wm ((S t).getD k 0)))) (t : Int) hS hDay (by intro x hx; cases hx) (by intro x hx; cases hx; exact ⟨hML, rfl⟩) (by omega)
    rw [show d + 44 + r + 7 = d + 51 + r by omega] at this
    exact this
   simp only [pF, pTup, pCons, pRow, qRow, qBool, pNil, Bool.not_true, e35, pOut]
   cases hfr : faultR (t : Int) Mark.possible (marksOf s (dayB s low rest wm ((S t).getD k 0)) none (some (moved s l (dayB s low rest wm ((S t).getD k 0))))) with
   | some ff =>
    have hfk : (fB s low rest wm S r t none l) ((S t).getD k 0) = none := by
     have := faultR_n 0 (t : Int) Mark.possible (marksOf s (dayB s low rest wm ((S t).getD k 0)) none (some (moved s l (dayB s low rest wm ((S t).getD k 0)))))
     rw [hfr] at this
     simp only [fB, okDay, this, Option.isNone_some, Bool.and_false, cond_false]
    obtain ⟨es', m', mm', T', g1, g2, g3, g4⟩ := hin (k + 1) fu es mm1 T1 (by omega) (by omega) hD (by omega) hT (take_none hno hk hfk)
    rw [drop_find hk, hfk]
    simp only [eFaultB, pTup, pCons, pAgg, pInt, pNil, qBool, pT]
    exact ⟨es', m', mm', T', g1, g2, by omega, g4⟩
   | none =>
    have hfk : (fB s low rest wm S r t none l) ((S t).getD k 0) = (go s low rest wm S r (t + 1) (some (dayB s low rest wm ((S t).getD k 0)).press) (moved s l (dayB s low rest wm ((S t).getD k 0)))).map ((S t).getD k 0 :: ·) := by
     have := faultR_n 0 (t : Int) Mark.possible (marksOf s (dayB s low rest wm ((S t).getD k 0)) none (some (moved s l (dayB s low rest wm ((S t).getD k 0)))))
     rw [hfr] at this
     simp only [fB, okDay, this, hfar, Option.isNone_none, Bool.not_false, Bool.and_self, cond_true]
    obtain ⟨rb, e37', hrb⟩ := A.h37 (1 + r) t ((S t).getD k 0) (by omega) hmem
    have e37 : (E F (d + 51 + r)).pf 37 [.int .i64 ((S t).getD k 0)] = some (.ret (.row rb.nl rb.len rb.wd rb.get)) := by
     rw [show d + 50 + (1 + r) = d + 51 + r by omega] at e37'
     exact e37'
    obtain ⟨es', m', mm', T', hcall, hD', hlen, hle', hT', hfound⟩ := ih (t + 1) ((S t).getD k 0) (moved s l (dayB s low rest wm ((S t).getD k 0))) es (t + 1) (fun i => if i < t then T1 i else rb) (by omega) (by omega) hML rfl (A.m64 t _ hmem) hD (by omega)
    have hTT : ∀ i, i < t → T' i = T i := fun i hi => by
     rw [hT' i (by omega)]
     show (if i < t then T1 i else rb) = T i
     rw [if_pos hi, hT i hi]
    simp only [eFaultB, pTup, pCons, pAgg, pInt, pNil, qBool, pF, e37, pOut, pRow, qRow, decide_eq_true (show (t + 1) * 24 ≤ 140737488355328 by omega), pT, wrS (show t < 4611686018427387904 by omega), app_rw]
    have fin : ∀ (mmx : Nat) (Tx : Nat → Rw), (∀ i, i < t → Tx i = T i) → (go s low rest wm S r (t + 1) (some (dayB s low rest wm ((S t).getD k 0)).press) (moved s l (dayB s low rest wm ((S t).getD k 0))) = none → ∃ es2 m2 mm2 T2, L9032x1 (E F (d + 51 + r)) F s low rest wm nd es0 (t : Int) last l fu R0.nl R0.len R0.wd R0.get ((R0.len : Nat) : Int) ((k + 1 : Nat) : Int) es' mmx (fun i => eRw (Tx i)) = some (.ret (.bool (((S t).drop k).findSome? (fB s low rest wm S r t none l)).isSome), HA s low rest wm nd (.osl 12 0 m2) es2 [.arr 29 1 mm2 (fun i => eRw (T2 i)) true]) ∧ DeadOk s low rest wm S nd.len es2 ∧ es2.length ≤ es.length + (n + 1) * cnt r + 1 ∧ Res lst (((S t).drop k).findSome? (fB s low rest wm S r t none l)) t T m2 T2) := by
     intro mmx Tx hTx hgn
     rw [hgn] at hfk
     have hfk' : (fB s low rest wm S r t none l) ((S t).getD k 0) = none := hfk
     obtain ⟨es2, m2, mm2, T2, g1, g2, g3, g4⟩ := hin (k + 1) fu es' mmx Tx (by omega) (by omega) hD' (by omega) hTx (take_none hno hk hfk')
     rw [drop_find hk, hfk']
     exact ⟨es2, m2, mm2, T2, g1, g2, by omega, g4⟩
    have found : ∀ ms, go s low rest wm S r (t + 1) (some (dayB s low rest wm ((S t).getD k 0)).press) (moved s l (dayB s low rest wm ((S t).getD k 0))) = some ms → (((S t).drop k).findSome? (fB s low rest wm S r t none l) = some ((S t).getD k 0 :: ms)) ∧ Res lst (some ((S t).getD k 0 :: ms)) t T m' T' := by
     intro ms hgs
     obtain ⟨q1, q2⟩ := hfound ms hgs
     rw [drop_find hk, hfk, hgs]
     refine ⟨rfl, by omega, hTT, fun ms' hms => ?_⟩
     cases hms
     refine ⟨by simp only [List.length_cons]; omega, fun j hj => ?_⟩
     cases j with
     | zero =>
      have : T' (t + 0) = rb := by
       rw [hT' (t + 0) (by omega)]
       show (if t + 0 < t then T1 (t + 0) else rb) = rb
       rw [if_neg (by omega)]
      rw [this]
      exact hrb
     | succ j =>
      have := q2 j (by simpa using hj)
      rw [show t + 1 + j = t + (j + 1) by omega] at this
      exact this
    rcases hcall with ⟨rfl, rfl, hcall⟩ | hcall
    ·have e32 : (E F (d + 51 + r)).hv 32 [.int .i64 ((t + 1 : Nat) : Int), .osl 0 0 s.cavs.len, .row (moved s l (dayB s low rest wm ((S t).getD k 0))).nl (moved s l (dayB s low rest wm ((S t).getD k 0))).len 6 (fun i => eStt ((moved s l (dayB s low rest wm ((S t).getD k 0))).el i)), .int .i64 ((S t).getD k 0), .optr 1 0 0, .optr 2 0 0, .optr 3 0 0, .optr 4 0 0, .optr 5 0 0, .optr 6 0 0, .optr 7 0 0] [(.arr 31 2 s.cavs.len (fun j => eSpan ((dayB s low rest wm ((S t).getD k 0)).press.el j)) false), (.box 29 [(sl eInt 1 nd)] true), (.box 77 [(.mapr 8)] true), (.box 28 (eSite s) true), (.box 76 [(.fn (.func 31) [] [(.optr 3 0 0), (.optr 9 0 0), (.optr 10 0 0), (.optr 11 0 0)])] true), (.box 73 [(.optr 12 0 0)] true), (.box 35 [(.osl 13 0 (t + 1))] true), (.box 78 [(.fn (.func 32) [] [(.optr 1 0 0), (.optr 2 0 0), (.optr 3 0 0), (.optr 4 0 0), (.optr 5 0 0), (.optr 6 0 0), (.optr 7 0 0)])] true), (.mp true K32 es true), (.box 29 [(sl eInt 1 rest)] true), (.box 29 [(sl eInt 1 low)] true), (.box 31 (eSpan wm) true), (.box 75 (eSite s) false), (.arr 29 1 (t + 1) (fun i => eRw (if i < t then T1 i else rb)) true)] = some (.ret (.bool (go s low rest wm S r (t + 1) (some (dayB s low rest wm ((S t).getD k 0)).press) (moved s l (dayB s low rest wm ((S t).getD k 0)))).isSome), [(.arr 31 2 s.cavs.len (fun j => eSpan ((dayB s low rest wm ((S t).getD k 0)).press.el j)) false), (.box 29 [(sl eInt 1 nd)] true), (.box 77 [(.mapr 8)] true), (.box 28 (eSite s) true), (.box 76 [(.fn (.func 31) [] [(.optr 3 0 0), (.optr 9 0 0), (.optr 10 0 0), (.optr 11 0 0)])] true), (.box 73 [(.optr 12 0 0)] true), (.box 35 [(.osl 13 0 m')] true), (.box 78 [(.fn (.func 32) [] [(.optr 1 0 0), (.optr 2 0 0), (.optr 3 0 0), (.optr 4 0 0), (.optr 5 0 0), (.optr 6 0 0), (.optr 7 0 0)])] true), (.mp true K32 es' true), (.box 29 [(sl eInt 1 rest)] true), (.box 29 [(sl eInt 1 low)] true), (.box 31 (eSpan wm) true), (.box 75 (eSite s) false), (.arr 29 1 (t + 1) (fun i => eRw (if i < t then T1 i else rb)) true)]) := hcall
     simp only [e32, qHv, qSC, qSN, qBox, qArr, qMp, qSlr, qSlo, qDead, qSame, qBool, qRow, pOut, pTup, pCons, pAgg, pInt, pNil, pT, pF, Nat.beq_refl, Bool.and_self, beq_self_eq_true, Bool.true_and, Bool.and_true, kK32]
     cases hg : go s low rest wm S r (t + 1) (some (dayB s low rest wm ((S t).getD k 0)).press) (moved s l (dayB s low rest wm ((S t).getD k 0))) with
     | some ms =>
      obtain ⟨q1, q2⟩ := found ms hg
      rw [q1]
      simp only [Option.isSome_some, pT]
      exact ⟨es', m', (t + 1), _, rfl, hD', by omega, q2⟩
     | none =>
      simp only [Option.isSome_none, pF, Int.natCast_nonneg, decide_true, pT, decide_eq_true (show t ≤ m' by omega)]
      exact fin _ _ hTT hg
    ·have e32 : (E F (d + 51 + r)).hv 32 [.int .i64 ((t + 1 : Nat) : Int), .osl 0 0 s.cavs.len, .row (moved s l (dayB s low rest wm ((S t).getD k 0))).nl (moved s l (dayB s low rest wm ((S t).getD k 0))).len 6 (fun i => eStt ((moved s l (dayB s low rest wm ((S t).getD k 0))).el i)), .int .i64 ((S t).getD k 0), .optr 1 0 0, .optr 2 0 0, .optr 3 0 0, .optr 4 0 0, .optr 5 0 0, .optr 6 0 0, .optr 7 0 0] [(.arr 31 2 s.cavs.len (fun j => eSpan ((dayB s low rest wm ((S t).getD k 0)).press.el j)) false), (.box 29 [(sl eInt 1 nd)] true), (.box 77 [(.mapr 8)] true), (.box 28 (eSite s) true), (.box 76 [(.fn (.func 31) [] [(.optr 3 0 0), (.optr 9 0 0), (.optr 10 0 0), (.optr 11 0 0)])] true), (.box 73 [(.optr 12 0 0)] true), (.box 35 [(.osl 13 0 (t + 1))] true), (.box 78 [(.fn (.func 32) [] [(.optr 1 0 0), (.optr 2 0 0), (.optr 3 0 0), (.optr 4 0 0), (.optr 5 0 0), (.optr 6 0 0), (.optr 7 0 0)])] true), (.mp true K32 es true), (.box 29 [(sl eInt 1 rest)] true), (.box 29 [(sl eInt 1 low)] true), (.box 31 (eSpan wm) true), (.box 75 (eSite s) false), (.arr 29 1 (t + 1) (fun i => eRw (if i < t then T1 i else rb)) true)] = some (.ret (.bool (go s low rest wm S r (t + 1) (some (dayB s low rest wm ((S t).getD k 0)).press) (moved s l (dayB s low rest wm ((S t).getD k 0)))).isSome), [(.arr 31 2 s.cavs.len (fun j => eSpan ((dayB s low rest wm ((S t).getD k 0)).press.el j)) false), (.box 29 [(sl eInt 1 nd)] true), (.box 77 [(.mapr 8)] true), (.box 28 (eSite s) true), (.box 76 [(.fn (.func 31) [] [(.optr 3 0 0), (.optr 9 0 0), (.optr 10 0 0), (.optr 11 0 0)])] true), (.box 73 [(.optr 12 0 0)] true), (.box 35 [(.osl 14 0 m')] true), (.box 78 [(.fn (.func 32) [] [(.optr 1 0 0), (.optr 2 0 0), (.optr 3 0 0), (.optr 4 0 0), (.optr 5 0 0), (.optr 6 0 0), (.optr 7 0 0)])] true), (.mp true K32 es' true), (.box 29 [(sl eInt 1 rest)] true), (.box 29 [(sl eInt 1 low)] true), (.box 31 (eSpan wm) true), (.box 75 (eSite s) false), .dead, (.arr 29 1 mm' (fun i => eRw (T' i)) true)]) := hcall
     simp only [e32, qHv, qSC, qSN, qBox, qArr, qMp, qSlr, qSlo, qDead, qSame, qBool, qRow, pOut, pTup, pCons, pAgg, pInt, pNil, pT, pF, Nat.beq_refl, Bool.and_self, beq_self_eq_true, Bool.true_and, Bool.and_true, kK32, n1413]
     cases hg : go s low rest wm S r (t + 1) (some (dayB s low rest wm ((S t).getD k 0)).press) (moved s l (dayB s low rest wm ((S t).getD k 0))) with
     | some ms =>
      obtain ⟨q1, q2⟩ := found ms hg
      rw [q1]
      simp only [Option.isSome_some, pT]
      exact ⟨es', m', mm', T', rfl, hD', by omega, q2⟩
     | none =>
      simp only [Option.isSome_none, pF, Int.natCast_nonneg, decide_true, pT, decide_eq_true (show t ≤ m' by omega)]
      exact fin _ _ hTT hg
end
end Go.Sim.Cr


set_option maxRecDepth 100000
namespace Go.Sim.Cr
open Go.Proofs
section
variable {F d : Nat} {s : Site} {low rest : Sl Int} {wm : Span} {nd : Sl Int} {S : Nat → List Int} {lst : Int → List Int}
set_option maxHeartbeats 4000000
theorem l9132x0 (A : Ask F d s low rest wm nd S lst) {r t : Nat} (ht : t + (r + 1) = nd.len) (h1t : 1 ≤ t) (ih : SB F d s low rest wm nd S lst r) {last : Int} {l : Sl Stt} (hL : StatesOk s l) (hnl : l.nl = false) (hlast : -9223372036854775808 ≤ last ∧ last ≤ 9223372036854775807) (R0 : Rw) (hR : RIs R0 (S t)) (T : Nat → Rw) (es : List (V × V)) (mm : Nat) (hD : DeadOk s low rest wm S nd.len es) : ∀ (n k fu : Nat), (S t).length = k + n → n < fu → es.length + n * cnt r + 1 ≤ 100000000000 → ((S t).take k).findSome? (fB s low rest wm S r t (some (dayB s low rest wm last).press) l) = none →
  ∃ es' m' mm' T', ((mm' = mm ∧ T' = T ∧ L9132x0 (E F (d + 51 + r)) F s low rest wm nd es (t : Int) last l (dayB s low rest wm last).press t mm (fun i => eRw (T i)) fu R0.nl R0.len R0.wd R0.get ((R0.len : Nat) : Int) (k : Int) = some (.ret (.bool (((S t).drop k).findSome? (fB s low rest wm S r t (some (dayB s low rest wm last).press) l)).isSome), HB s low rest wm nd (dayB s low rest wm last).press (.osl 13 0 m') es' [.arr 29 1 mm (fun i => eRw (T i)) true])) ∨ L9132x0 (E F (d + 51 + r)) F s low rest wm nd es (t : Int) last l (dayB s low rest wm last).press t mm (fun i => eRw (T i)) fu R0.nl R0.len R0.wd R0.get ((R0.len : Nat) : Int) (k : Int) = some (.ret (.bool (((S t).drop k).findSome? (fB s low rest wm S r t (some (dayB s low rest wm last).press) l)).isSome), HB s low rest wm nd (dayB s low rest wm last).press (.osl 14 0 m') es' [.dead, .arr 29 1 mm' (fun i => eRw (T' i)) true])) ∧
   DeadOk s low rest wm S nd.len es' ∧ es'.length ≤ es.length + n * cnt r + 1 ∧ Res lst (((S t).drop k).findSome? (fB s low rest wm S r t (some (dayB s low rest wm last).press) l)) t T m' T' := by
 have hS := A.site
 have h1 := hS.cavs1
 have h5 := hS.cavs5
 have hF := A.fuel
 have hdays := A.days
 have hrg := rgB_ok (n := (t : Int)) (last := last) (l := l) (by omega) hlast (by have := hL.2; exact this)
 unfold rgB at hrg
 have hbef : befOf s low rest wm t last = (some (dayB s low rest wm last).press) := by unfold befOf; rw [if_neg (by omega)]
 have hsubr : nd.len - t = r + 1 := by omega
 intro n
 induction n with
 | zero =>
  intro k fu h hf hle hno
  obtain ⟨fu, rfl⟩ : ∃ q, fu = q + 1 := ⟨fu - 1, by omega⟩
  have hdk : (S t).drop k = [] := List.drop_eq_nil_of_le (by omega)
  have hgo : go s low rest wm S (nd.len - t) t (befOf s low rest wm t last) l = none := by
   rw [hsubr, hbef]
   show (S t).findSome? (fB s low rest wm S r t (some (dayB s low rest wm last).press) l) = none
   rw [find_drop hno, hdk]; rfl
  rw [L9132x0s, decide_eq_false (show ¬ (k : Int) < ((R0.len : Nat) : Int) by have := hR.1; omega), cond_false, hrg, cond_true, decide_eq_true (show es.length < 1000000000000 by omega), cond_true, hdk]
  refine ⟨mput es (.agg (keyL (t : Int) last l)) (.bool true), t, mm, T, .inl ⟨rfl, rfl, rfl⟩, dead_put hD (by omega) hL.1 hgo, ?_, Nat.le_refl _, fun _ _ => rfl, fun ms hms => by cases hms⟩
  have := mput_len es (.agg (keyL (t : Int) last l)) (.bool true)
  omega
 | succ n hin =>
  intro k fu h hf hle hno
  obtain ⟨fu, rfl⟩ : ∃ q, fu = q + 1 := ⟨fu - 1, by omega⟩
  have hk : k < (S t).length := by omega
  have hmem : (S t).getD k 0 ∈ S t := by rw [List.getD_eq_getElem?_getD, List.getElem?_eq_getElem hk]; exact List.getElem_mem hk
  have hmul : (n + 1) * cnt r = n * cnt r + cnt r := by rw [Nat.add_mul, Nat.one_mul]
  have hwd : (R0.wd == 1) = true := by rw [hR.2.1 (fun he => by rw [he] at hk; cases hk)]; rfl
  have hget := hR.2.2 k hk
  have hDay := dayQ_ok A.low_ A.rest_ A.wm_ (bitB ((S t).getD k 0))
  have hDay0 := dayQ_ok A.low_ A.rest_ A.wm_ (bitB last)
  have e31 : (E F (d + 51 + r)).hv 31 [.int .i64 ((S t).getD k 0), .optr 0 0 0, .optr 1 0 0, .optr 2 0 0, .optr 3 0 0] [(.box 28 (eSite s) true), (.box 29 [sl eInt 1 rest] true), (.box 29 [sl eInt 1 low] true), (.box 31 (eSpan wm) true)] =
    some (.ret (.agg [.osl 4 0 s.cavs.len, .osl 5 0 s.cavs.len]), [(.box 28 (eSite s) true), (.box 29 [sl eInt 1 rest] true), (.box 29 [sl eInt 1 low] true), (.box 31 (eSpan wm) true), .arr 31 2 s.cavs.len (fun j => eSpan ((dayB s low rest wm ((S t).getD k 0)).press.el j)) true, .arr 31 2 s.cavs.len (fun _ => eSpan wm) true]) := by
   have := s9031 F (d + 50 + r) s low rest wm ((S t).getD k 0) A.low_.1 A.rest_.1 h5 h1 (by omega)
   rw [show d + 50 + r + 1 = d + 51 + r by omega] at this
   exact this
  have e34 : (E F (d + 51 + r)).pf 34 [pSite s, sl eStt 6 l, .agg [.row false s.cavs.len 2 (fun j => eSpan ((dayB s low rest wm ((S t).getD k 0)).press.el j)), .row false s.cavs.len 2 (fun _ => eSpan wm)]] = some (.ret (moveR s l (dayB s low rest wm ((S t).getD k 0)))) := by
   have := s51 F (d + 44 + r) s l (dayB s low rest wm ((S t).getD k 0)) hS hL hDay (by omega)
   rw [show d + 44 + r + 7 = d + 51 + r by omega] at this
   exact this
  rw [L9132x0s]
  simp only [decide_eq_true (show (k : Int) < ((R0.len : Nat) : Int) by have := hR.1; omega), hwd, Int.natCast_nonneg, decide_true, Int.toNat_natCast, hget, e31, e34, moveR, wrS (show k < 4611686018427387904 by have := A.six t; omega), qHv, qSC, qSN, qBox, qArr, qMp, qSlr, qSlo, qDead, qSame, qBool, qRow, pOut, pTup, pCons, pAgg, pInt, pNil, pT, pF, Nat.beq_refl, Bool.and_self, beq_self_eq_true, Bool.true_and, Bool.and_true]
  cases hfar : farDay s (dayB s low rest wm ((S t).getD k 0)) with
  | true =>
   have hfk : (fB s low rest wm S r t (some (dayB s low rest wm last).press) l) ((S t).getD k 0) = none := by simp only [fB, okDay, hfar, Bool.not_true, Bool.false_and, cond_false]
   obtain ⟨es', m', mm', T', g1, g2, g3, g4⟩ := hin (k + 1) fu (by omega) (by omega) (by omega) (take_none hno hk hfk)
   rw [drop_find hk, hfk]
   simp only [pT, pTup, pCons, pRow, qRow, qBool, pNil, Bool.not_false]
   exact ⟨es', m', mm', T', g1, g2, by omega, g4⟩
  | false =>
   have hML := moved_ok hS hL hDay hfar
   have e35 : (E F (d + 51 + r)).pf 35 [.rptr 1 5 (fun _ => [pSite s, .row false s.cavs.len 2 (fun j => eSpan ((dayB s low rest wm ((S t).getD k 0)).press.el j)), .row false s.cavs.len 2 (fun _ => eSpan wm), .row false (dayB s low rest wm last).press.len 2 (fun u => eSpan ((dayB s low rest wm last).press.el u)), .row (moved s l (dayB s low rest wm ((S t).getD k 0))).nl (moved s l (dayB s low rest wm ((S t).getD k 0))).len 6 (fun i => eStt ((moved s l (dayB s low rest wm ((S t).getD k 0))).el i))]) 0 0, .int .i64 (t : Int), .fn (.func 36) [] []] = some (.ret (eFaultB (faultR (t : Int) Mark.possible (marksOf s (dayB s low rest wm ((S t).getD k 0)) (some (dayB s low rest wm last).press) (some (moved s l (dayB s low rest wm ((S t).getD k 0)))))))) := by
    have := s9035 F (d + 44 + r) s (dayB s low rest wm ((S t).getD k 0)) (some (dayB s low rest wm last).press) (some (moved s l (dayB s low rest wm ((S t).getD k 0)))) (t : Int) hS hDay (by intro x hx; cases hx; exact ⟨rfl, hDay0.1.2⟩) (by intro x hx; cases hx; exact ⟨hML, rfl⟩) (by omega)
    rw [show d + 44 + r + 7 = d + 51 + r by omega] at this
    exact this
   simp only [pF, pTup, pCons, pRow, qRow, qBool, pNil, Bool.not_true, e35, pOut]
   cases hfr : faultR (t : Int) Mark.possible (marksOf s (dayB s low rest wm ((S t).getD k 0)) (some (dayB s low rest wm last).press) (some (moved s l (dayB s low rest wm ((S t).getD k 0))))) with
   | some ff =>
    have hfk : (fB s low rest wm S r t (some (dayB s low rest wm last).press) l) ((S t).getD k 0) = none := by
     have := faultR_n 0 (t : Int) Mark.possible (marksOf s (dayB s low rest wm ((S t).getD k 0)) (some (dayB s low rest wm last).press) (some (moved s l (dayB s low rest wm ((S t).getD k 0)))))
     rw [hfr] at this
     simp only [fB, okDay, this, Option.isNone_some, Bool.and_false, cond_false]
    obtain ⟨es', m', mm', T', g1, g2, g3, g4⟩ := hin (k + 1) fu (by omega) (by omega) (by omega) (take_none hno hk hfk)
    rw [drop_find hk, hfk]
    simp only [eFaultB, pTup, pCons, pAgg, pInt, pNil, qBool, pT]
    exact ⟨es', m', mm', T', g1, g2, by omega, g4⟩
   | none =>
    have hfk : (fB s low rest wm S r t (some (dayB s low rest wm last).press) l) ((S t).getD k 0) = (go s low rest wm S r (t + 1) (some (dayB s low rest wm ((S t).getD k 0)).press) (moved s l (dayB s low rest wm ((S t).getD k 0)))).map ((S t).getD k 0 :: ·) := by
     have := faultR_n 0 (t : Int) Mark.possible (marksOf s (dayB s low rest wm ((S t).getD k 0)) (some (dayB s low rest wm last).press) (some (moved s l (dayB s low rest wm ((S t).getD k 0)))))
     rw [hfr] at this
     simp only [fB, okDay, this, hfar, Option.isNone_none, Bool.not_false, Bool.and_self, cond_true]
    obtain ⟨rb, e37', hrb⟩ := A.h37 (1 + r) t ((S t).getD k 0) (by omega) hmem
    have e37 : (E F (d + 51 + r)).pf 37 [.int .i64 ((S t).getD k 0)] = some (.ret (.row rb.nl rb.len rb.wd rb.get)) := by
     rw [show d + 50 + (1 + r) = d + 51 + r by omega] at e37'
     exact e37'
    obtain ⟨es', m', mm', T', hcall, hD', hlen, hle', hT', hfound⟩ := ih (t + 1) ((S t).getD k 0) (moved s l (dayB s low rest wm ((S t).getD k 0))) es (t + 1) (fun i => if i < t then T i else rb) (by omega) (by omega) hML rfl (A.m64 t _ hmem) hD (by omega)
    have hTT : ∀ i, i < t → T' i = T i := fun i hi => by
     rw [hT' i (by omega)]
     show (if i < t then T i else rb) = T i
     rw [if_pos hi]
    simp only [eFaultB, pTup, pCons, pAgg, pInt, pNil, qBool, pF, e37, pOut, pRow, qRow, decide_eq_true (show (t + 1) * 24 ≤ 140737488355328 by omega), pT, wrS (show t < 4611686018427387904 by omega), app_rw]
    have fin : ∀ (mmx : Nat) (Tx : Nat → Rw), (∀ i, i < t → Tx i = T i) → (go s low rest wm S r (t + 1) (some (dayB s low rest wm ((S t).getD k 0)).press) (moved s l (dayB s low rest wm ((S t).getD k 0))) = none → ∃ es2 m2 mm2 T2, L9132x1 (E F (d + 51 + r)) F s low rest wm nd es (t : Int) last l (dayB s low rest wm last).press t mm (fun i => eRw (T i)) fu R0.nl R0.len R0.wd R0.get ((R0.len : Nat) : Int) ((k + 1 : Nat) : Int) es' mmx (fun i => eRw (Tx i)) = some (.ret (.bool (((S t).drop k).findSome? (fB s low rest wm S r t (some (dayB s low rest wm last).press) l)).isSome), HB s low rest wm nd (dayB s low rest wm last).press (.osl 14 0 m2) es2 [.dead, .arr 29 1 mm2 (fun i => eRw (T2 i)) true]) ∧ DeadOk s low rest wm S nd.len es2 ∧ es2.length ≤ es.length + (n + 1) * cnt r + 1 ∧ Res lst (((S t).drop k).findSome? (fB s low rest wm S r t (some (dayB s low rest wm last).press) l)) t T m2 T2) := by
     intro mmx Tx hTx hgn
     rw [hgn] at hfk
     have hfk' : (fB s low rest wm S r t (some (dayB s low rest wm last).press) l) ((S t).getD k 0) = none := hfk
     obtain ⟨es2, m2, mm2, T2, g1, g2, g3, g4⟩ := l9132x1 A ht h1t ih hL hnl hlast R0 hR T es t mm (fun i => eRw (T i)) n (k + 1) fu es' mmx Tx (by omega) (by omega) hD' (by omega) hTx (take_none hno hk hfk')
     rw [drop_find hk, hfk']
     exact ⟨es2, m2, mm2, T2, g1, g2, by omega, g4⟩
    have found : ∀ ms, go s low rest wm S r (t + 1) (some (dayB s low rest wm ((S t).getD k 0)).press) (moved s l (dayB s low rest wm ((S t).getD k 0))) = some ms → (((S t).drop k).findSome? (fB s low rest wm S r t (some (dayB s low rest wm last).press) l) = some ((S t).getD k 0 :: ms)) ∧ Res lst (some ((S t).getD k 0 :: ms)) t T m' T' := by
     intro ms hgs
     obtain ⟨q1, q2⟩ := hfound ms hgs
     rw [drop_find hk, hfk, hgs]
     refine ⟨rfl, by omega, hTT, fun ms' hms => ?_⟩
     cases hms
     refine ⟨by simp only [List.length_cons]; omega, fun j hj => ?_⟩
     cases j with
     | zero =>
      have : T' (t + 0) = rb := by
       rw [hT' (t + 0) (by omega)]
       show (if t + 0 < t then T (t + 0) else rb) = rb
       rw [if_neg (by omega)]
      rw [this]
      exact hrb
     | succ j =>
      have := q2 j (by simpa using hj)
      rw [show t + 1 + j = t + (j + 1) by omega] at this
      exact this
    rcases hcall with ⟨rfl, rfl, hcall⟩ | hcall
    ·have e32 : (E F (d + 51 + r)).hv 32 [.int .i64 ((t + 1 : Nat) : Int), .osl 0 0 s.cavs.len, .row (moved s l (dayB s low rest wm ((S t).getD k 0))).nl (moved s l (dayB s low rest wm ((S t).getD k 0))).len 6 (fun i => eStt ((moved s l (dayB s low rest wm ((S t).getD k 0))).el i)), .int .i64 ((S t).getD k 0), .optr 1 0 0, .optr 2 0 0, .optr 3 0 0, .optr 4 0 0, .optr 5 0 0, .optr 6 0 0, .optr 7 0 0] [(.arr 31 2 s.cavs.len (fun j => eSpan ((dayB s low rest wm ((S t).getD k 0)).press.el j)) false), (.box 29 [(sl eInt 1 nd)] true), (.box 77 [(.mapr 8)] true), (.box 28 (eSite s) true), (.box 76 [(.fn (.func 31) [] [(.optr 3 0 0), (.optr 9 0 0), (.optr 10 0 0), (.optr 11 0 0)])] true), (.box 73 [(.optr 12 0 0)] true), (.box 35 [(.osl 13 0 (t + 1))] true), (.box 78 [(.fn (.func 32) [] [(.optr 1 0 0), (.optr 2 0 0), (.optr 3 0 0), (.optr 4 0 0), (.optr 5 0 0), (.optr 6 0 0), (.optr 7 0 0)])] true), (.mp true K32 es true), (.box 29 [(sl eInt 1 rest)] true), (.box 29 [(sl eInt 1 low)] true), (.box 31 (eSpan wm) true), (.box 75 (eSite s) false), (.arr 29 1 (t + 1) (fun i => eRw (if i < t then T i else rb)) true)] = some (.ret (.bool (go s low rest wm S r (t + 1) (some (dayB s low rest wm ((S t).getD k 0)).press) (moved s l (dayB s low rest wm ((S t).getD k 0)))).isSome), [(.arr 31 2 s.cavs.len (fun j => eSpan ((dayB s low rest wm ((S t).getD k 0)).press.el j)) false), (.box 29 [(sl eInt 1 nd)] true), (.box 77 [(.mapr 8)] true), (.box 28 (eSite s) true), (.box 76 [(.fn (.func 31) [] [(.optr 3 0 0), (.optr 9 0 0), (.optr 10 0 0), (.optr 11 0 0)])] true), (.box 73 [(.optr 12 0 0)] true), (.box 35 [(.osl 13 0 m')] true), (.box 78 [(.fn (.func 32) [] [(.optr 1 0 0), (.optr 2 0 0), (.optr 3 0 0), (.optr 4 0 0), (.optr 5 0 0), (.optr 6 0 0), (.optr 7 0 0)])] true), (.mp true K32 es' true), (.box 29 [(sl eInt 1 rest)] true), (.box 29 [(sl eInt 1 low)] true), (.box 31 (eSpan wm) true), (.box 75 (eSite s) false), (.arr 29 1 (t + 1) (fun i => eRw (if i < t then T i else rb)) true)]) := hcall
     simp only [e32, qHv, qSC, qSN, qBox, qArr, qMp, qSlr, qSlo, qDead, qSame, qBool, qRow, pOut, pTup, pCons, pAgg, pInt, pNil, pT, pF, Nat.beq_refl, Bool.and_self, beq_self_eq_true, Bool.true_and, Bool.and_true, kK32]
     cases hg : go s low rest wm S r (t + 1) (some (dayB s low rest wm ((S t).getD k 0)).press) (moved s l (dayB s low rest wm ((S t).getD k 0))) with
     | some ms =>
      obtain ⟨q1, q2⟩ := found ms hg
      rw [q1]
      simp only [Option.isSome_some, pT]
      exact ⟨es', m', (t + 1), _, .inr rfl, hD', by omega, q2⟩
     | none =>
      simp only [Option.isSome_none, pF, Int.natCast_nonneg, decide_true, pT, decide_eq_true (show t ≤ m' by omega)]
      obtain ⟨es2, m2, mm2, T2, g1, g2, g3, g4⟩ := fin _ _ hTT hg
      exact ⟨es2, m2, mm2, T2, .inr g1, g2, g3, g4⟩
    ·have e32 : (E F (d + 51 + r)).hv 32 [.int .i64 ((t + 1 : Nat) : Int), .osl 0 0 s.cavs.len, .row (moved s l (dayB s low rest wm ((S t).getD k 0))).nl (moved s l (dayB s low rest wm ((S t).getD k 0))).len 6 (fun i => eStt ((moved s l (dayB s low rest wm ((S t).getD k 0))).el i)), .int .i64 ((S t).getD k 0), .optr 1 0 0, .optr 2 0 0, .optr 3 0 0, .optr 4 0 0, .optr 5 0 0, .optr 6 0 0, .optr 7 0 0] [(.arr 31 2 s.cavs.len (fun j => eSpan ((dayB s low rest wm ((S t).getD k 0)).press.el j)) false), (.box 29 [(sl eInt 1 nd)] true), (.box 77 [(.mapr 8)] true), (.box 28 (eSite s) true), (.box 76 [(.fn (.func 31) [] [(.optr 3 0 0), (.optr 9 0 0), (.optr 10 0 0), (.optr 11 0 0)])] true), (.box 73 [(.optr 12 0 0)] true), (.box 35 [(.osl 13 0 (t + 1))] true), (.box 78 [(.fn (.func 32) [] [(.optr 1 0 0), (.optr 2 0 0), (.optr 3 0 0), (.optr 4 0 0), (.optr 5 0 0), (.optr 6 0 0), (.optr 7 0 0)])] true), (.mp true K32 es true), (.box 29 [(sl eInt 1 rest)] true), (.box 29 [(sl eInt 1 low)] true), (.box 31 (eSpan wm) true), (.box 75 (eSite s) false), (.arr 29 1 (t + 1) (fun i => eRw (if i < t then T i else rb)) true)] = some (.ret (.bool (go s low rest wm S r (t + 1) (some (dayB s low rest wm ((S t).getD k 0)).press) (moved s l (dayB s low rest wm ((S t).getD k 0)))).isSome), [(.arr 31 2 s.cavs.len (fun j => eSpan ((dayB s low rest wm ((S t).getD k 0)).press.el j)) false), (.box 29 [(sl eInt 1 nd)] true), (.box 77 [(.mapr 8)] true), (.box 28 (eSite s) true), (.box 76 [(.fn (.func 31) [] [(.optr 3 0 0), (.optr 9 0 0), (.optr 10 0 0), (.optr 11 0 0)])] true), (.box 73 [(.optr 12 0 0)] true), (.box 35 [(.osl 14 0 m')] true), (.box 78 [(.fn (.func 32) [] [(.optr 1 0 0), (.optr 2 0 0), (.optr 3 0 0), (.optr 4 0 0), (.optr 5 0 0), (.optr 6 0 0), (.optr 7 0 0)])] true), (.mp true K32 es' true), (.box 29 [(sl eInt 1 rest)] true), (.box 29 [(sl eInt 1 low)] true), (.box 31 (eSpan wm) true), (.box 75 (eSite s) false), .dead, (.arr 29 1 mm' (fun i => eRw (T' i)) true)]) := hcall
     simp only [e32, qHv, qSC, qSN, qBox, qArr, qMp, qSlr, qSlo, qDead, qSame, qBool, qRow, pOut, pTup, pCons, pAgg, pInt, pNil, pT, pF, Nat.beq_refl, Bool.and_self, beq_self_eq_true, Bool.true_and, Bool.and_true, kK32, n1413]
     cases hg : go s low rest wm S r (t + 1) (some (dayB s low rest wm ((S t).getD k 0)).press) (moved s l (dayB s low rest wm ((S t).getD k 0))) with
     | some ms =>
      obtain ⟨q1, q2⟩ := found ms hg
      rw [q1]
      simp only [Option.isSome_some, pT]
      exact ⟨es', m', mm', T', .inr rfl, hD', by omega, q2⟩
     | none =>
      simp only [Option.isSome_none, pF, Int.natCast_nonneg, decide_true, pT, decide_eq_true (show t ≤ m' by omega)]
      obtain ⟨es2, m2, mm2, T2, g1, g2, g3, g4⟩ := fin _ _ hTT hg
      exact ⟨es2, m2, mm2, T2, .inr g1, g2, g3, g4⟩
theorem l9032x0 (A : Ask F d s low rest wm nd S lst) {r t : Nat} (ht : t + (r + 1) = nd.len) (h0t : t = 0) (ih : SB F d s low rest wm nd S lst r) {last : Int} {l : Sl Stt} (hL : StatesOk s l) (hnl : l.nl = false) (hlast : -9223372036854775808 ≤ last ∧ last ≤ 9223372036854775807) (R0 : Rw) (hR : RIs R0 (S t)) (T : Nat → Rw) (es : List (V × V)) (hD : DeadOk s low rest wm S nd.len es) : ∀ (n k fu : Nat), (S t).length = k + n → n < fu → es.length + n * cnt r + 1 ≤ 100000000000 → ((S t).take k).findSome? (fB s low rest wm S r t none l) = none →
  ∃ es' m' mm' T', ((((S t).drop k).findSome? (fB s low rest wm S r t none l) = none ∧ L9032x0 (E F (d + 51 + r)) F s low rest wm nd es (t : Int) last l fu R0.nl R0.len R0.wd R0.get ((R0.len : Nat) : Int) (k : Int) = some (.ret (.bool (((S t).drop k).findSome? (fB s low rest wm S r t none l)).isSome), HA s low rest wm nd (.row true 0 0 (fun _ => [])) es' [])) ∨ L9032x0 (E F (d + 51 + r)) F s low rest wm nd es (t : Int) last l fu R0.nl R0.len R0.wd R0.get ((R0.len : Nat) : Int) (k : Int) = some (.ret (.bool (((S t).drop k).findSome? (fB s low rest wm S r t none l)).isSome), HA s low rest wm nd (.osl 12 0 m') es' [.arr 29 1 mm' (fun i => eRw (T' i)) true])) ∧
   DeadOk s low rest wm S nd.len es' ∧ es'.length ≤ es.length + n * cnt r + 1 ∧ Res lst (((S t).drop k).findSome? (fB s low rest wm S r t none l)) t T m' T' := by
 have hS := A.site
 have h1 := hS.cavs1
 have h5 := hS.cavs5
 have hF := A.fuel
 have hdays := A.days
 have hrg := rgB_ok (n := (t : Int)) (last := last) (l := l) (by omega) hlast (by have := hL.2; exact this)
 unfold rgB at hrg
 have hbef : befOf s low rest wm t last = none := by unfold befOf; rw [if_pos h0t]
 have hsubr : nd.len - t = r + 1 := by omega
 intro n
 induction n with
 | zero =>
  intro k fu h hf hle hno
  obtain ⟨fu, rfl⟩ : ∃ q, fu = q + 1 := ⟨fu - 1, by omega⟩
  have hdk : (S t).drop k = [] := List.drop_eq_nil_of_le (by omega)
  have hgo : go s low rest wm S (nd.len - t) t (befOf s low rest wm t last) l = none := by
   rw [hsubr, hbef]
   show (S t).findSome? (fB s low rest wm S r t none l) = none
   rw [find_drop hno, hdk]; rfl
  rw [L9032x0s, decide_eq_false (show ¬ (k : Int) < ((R0.len : Nat) : Int) by have := hR.1; omega), cond_false, hrg, cond_true, decide_eq_true (show es.length < 1000000000000 by omega), cond_true, hdk]
  refine ⟨mput es (.agg (keyL (t : Int) last l)) (.bool true), t, 0, T, .inl ⟨rfl, rfl⟩, dead_put hD (by omega) hL.1 hgo, ?_, Nat.le_refl _, fun _ _ => rfl, fun ms hms => by cases hms⟩
  have := mput_len es (.agg (keyL (t : Int) last l)) (.bool true)
  omega
 | succ n hin =>
  intro k fu h hf hle hno
  obtain ⟨fu, rfl⟩ : ∃ q, fu = q + 1 := ⟨fu - 1, by omega⟩
  have hk : k < (S t).length := by omega
  have hmem : (S t).getD k 0 ∈ S t := by rw [List.getD_eq_getElem?_getD, List.getElem?_eq_getElem hk]; exact List.getElem_mem hk
  have hmul : (n + 1) * cnt r = n * cnt r + cnt r := by rw [Nat.add_mul, Nat.one_mul]
  have hwd : (R0.wd == 1) = true := by rw [hR.2.1 (fun he => by rw [he] at hk; cases hk)]; rfl
  have hget := hR.2.2 k hk
  have hDay := dayQ_ok A.low_ A.rest_ A.wm_ (bitB ((S t).getD k 0))
  have hDay0 := dayQ_ok A.low_ A.rest_ A.wm_ (bitB last)
  have e31 : (E F (d + 51 + r)).hv 31 [.int .i64 ((S t).getD k 0), .optr 0 0 0, .optr 1 0 0, .optr 2 0 0, .optr 3 0 0] [(.box 28 (eSite s) true), (.box 29 [sl eInt 1 rest] true), (.box 29 [sl eInt 1 low] true), (.box 31 (eSpan wm) true)] =
    some (.ret (.agg [.osl 4 0 s.cavs.len, .osl 5 0 s.cavs.len]), [(.box 28 (eSite s) true), (.box 29 [sl eInt 1 rest] true), (.box 29 [sl eInt 1 low] true), (.box 31 (eSpan wm) true), .arr 31 2 s.cavs.len (fun j => eSpan ((dayB s low rest wm ((S t).getD k 0)).press.el j)) true, .arr 31 2 s.cavs.len (fun _ => eSpan wm) true]) := by
   have := s9031 F (d + 50 + r) s low rest wm ((S t).getD k 0) A.low_.1 A.rest_.1 h5 h1 (by omega)
   rw [show d + 50 + r + 1 = d + 51 + r by omega] at this
   exact this
  have e34 : (E F (d + 51 + r)).pf 34 [pSite s, sl eStt 6 l, .agg [.row false s.cavs.len 2 (fun j => eSpan ((dayB s low rest wm ((S t).getD k 0)).press.el j)), .row false s.cavs.len 2 (fun _ => eSpan wm)]] = some (.ret (moveR s l (dayB s low rest wm ((S t).getD k 0)))) := by
   have := s51 F (d + 44 + r) s l (dayB s low rest wm ((S t).getD k 0)) hS hL hDay (by omega)
   rw [show d + 44 + r + 7 = d + 51 + r by omega] at this
   exact this
  rw [L9032x0s]
  simp only [decide_eq_true (show (k : Int) < ((R0.len : Nat) : Int) by have := hR.1; omega), hwd, Int.natCast_nonneg, decide_true, Int.toNat_natCast, hget, e31, e34, moveR, wrS (show k < 4611686018427387904 by have := A.six t; omega), qHv, qSC, qSN, qBox, qArr, qMp, qSlr, qSlo, qDead, qSame, qBool, qRow, pOut, pTup, pCons, pAgg, pInt, pNil, pT, pF, Nat.beq_refl, Bool.and_self, beq_self_eq_true, Bool.true_and, Bool.and_true]
  cases hfar : farDay s (dayB s low rest wm ((S t).getD k 0)) with
  | true =>
   have hfk : (fB s low rest wm S r t none l) ((S t).getD k 0) = none := by simp only [fB, okDay, hfar, Bool.not_true, Bool.false_and, cond_false]
   obtain ⟨es', m', mm', T', g1, g2, g3, g4⟩ := hin (k + 1) fu (by omega) (by omega) (by omega) (take_none hno hk hfk)
   rw [drop_find hk, hfk]
   simp only [pT, pTup, pCons, pRow, qRow, qBool, pNil, Bool.not_false]
   exact ⟨es', m', mm', T', g1, g2, by omega, g4⟩
  | false =>
   have hML := moved_ok hS hL hDay hfar
   have e35 : (E F (d + 51 + r)).pf 35 [.rptr 1 5 (fun _ => [pSite s, .row false s.cavs.len 2 (fun j => eSpan ((dayB s low rest wm ((S t).getD k 0)).press.el j)), .row false s.cavs.len 2 (fun _ => eSpan wm), .row true 0 0 (fun _ => []), .row (moved s l (dayB s low rest wm ((S t).getD k 0))).nl (moved s l (dayB s low rest wm ((S t).getD k 0))).len 6 (fun i => eStt ((moved s l (dayB s low rest wm ((S t).getD k 0))).el i))]) 0 0, .int .i64 (t : Int), .fn (.func 36) [] []] = some (.ret (eFaultB (faultR (t : Int) Mark.possible (marksOf s (dayB s low rest wm ((S t).getD k 0)) none (some (moved s l (dayB s low rest wm ((S t).getD k 0)))))))) := by
    have := s9035 F (d + 44 + r) s (dayB s low rest wm ((S t).getD k 0)) none (some (moved s l (dayB s low rest wm ((S t).getD k 0)))) (t : Int) hS hDay (by intro x hx; cases hx) (by intro x hx; cases hx; exact ⟨hML, rfl⟩) (by omega)
    rw [show d + 44 + r + 7 = d + 51 + r by omega] at this
    exact this
   simp only [pF, pTup, pCons, pRow, qRow, qBool, pNil, Bool.not_true, e35, pOut]
   cases hfr : faultR (t : Int) Mark.possible (marksOf s (dayB s low rest wm ((S t).getD k 0)) none (some (moved s l (dayB s low rest wm ((S t).getD k 0))))) with
   | some ff =>
    have hfk : (fB s low rest wm S r t none l) ((S t).getD k 0) = none := by
     have := faultR_n 0 (t : Int) Mark.possible (marksOf s (dayB s low rest wm ((S t).getD k 0)) none (some (moved s l (dayB s low rest wm ((S t).getD k 0)))))
     rw [hfr] at this
     simp only [fB, okDay, this, Option.isNone_some, Bool.and_false, cond_false]
    obtain ⟨es', m', mm', T', g1, g2, g3, g4⟩ := hin (k + 1) fu (by omega) (by omega) (by omega) (take_none hno hk hfk)
    rw [drop_find hk, hfk]
    simp only [eFaultB, pTup, pCons, pAgg, pInt, pNil, qBool, pT]
    exact ⟨es', m', mm', T', g1, g2, by omega, g4⟩
   | none =>
    have hfk : (fB s low rest wm S r t none l) ((S t).getD k 0) = (go s low rest wm S r (t + 1) (some (dayB s low rest wm ((S t).getD k 0)).press) (moved s l (dayB s low rest wm ((S t).getD k 0)))).map ((S t).getD k 0 :: ·) := by
     have := faultR_n 0 (t : Int) Mark.possible (marksOf s (dayB s low rest wm ((S t).getD k 0)) none (some (moved s l (dayB s low rest wm ((S t).getD k 0)))))
     rw [hfr] at this
     simp only [fB, okDay, this, hfar, Option.isNone_none, Bool.not_false, Bool.and_self, cond_true]
    obtain ⟨rb, e37', hrb⟩ := A.h37 (1 + r) t ((S t).getD k 0) (by omega) hmem
    have e37 : (E F (d + 51 + r)).pf 37 [.int .i64 ((S t).getD k 0)] = some (.ret (.row rb.nl rb.len rb.wd rb.get)) := by
     rw [show d + 50 + (1 + r) = d + 51 + r by omega] at e37'
     exact e37'
    obtain ⟨es', m', mm', T', hcall, hD', hlen, hle', hT', hfound⟩ := ih (t + 1) ((S t).getD k 0) (moved s l (dayB s low rest wm ((S t).getD k 0))) es (t + 1) (fun _ => rb) (by omega) (by omega) hML rfl (A.m64 t _ hmem) hD (by omega)
    have hTT : ∀ i, i < t → T' i = T i := fun i hi => by omega
    simp only [eFaultB, pTup, pCons, pAgg, pInt, pNil, qBool, pF, e37, pOut, pRow, qRow, pT, wrS (show t < 4611686018427387904 by omega)]
    have fin : ∀ (mmx : Nat) (Tx : Nat → Rw), (∀ i, i < t → Tx i = T i) → (go s low rest wm S r (t + 1) (some (dayB s low rest wm ((S t).getD k 0)).press) (moved s l (dayB s low rest wm ((S t).getD k 0))) = none → ∃ es2 m2 mm2 T2, L9032x1 (E F (d + 51 + r)) F s low rest wm nd es (t : Int) last l fu R0.nl R0.len R0.wd R0.get ((R0.len : Nat) : Int) ((k + 1 : Nat) : Int) es' mmx (fun i => eRw (Tx i)) = some (.ret (.bool (((S t).drop k).findSome? (fB s low rest wm S r t none l)).isSome), HA s low rest wm nd (.osl 12 0 m2) es2 [.arr 29 1 mm2 (fun i => eRw (T2 i)) true]) ∧ DeadOk s low rest wm S nd.len es2 ∧ es2.length ≤ es.length + (n + 1) * cnt r + 1 ∧ Res lst (((S t).drop k).findSome? (fB s low rest wm S r t none l)) t T m2 T2) := by
     intro mmx Tx hTx hgn
     rw [hgn] at hfk
     have hfk' : (fB s low rest wm S r t none l) ((S t).getD k 0) = none := hfk
     obtain ⟨es2, m2, mm2, T2, g1, g2, g3, g4⟩ := l9032x1 A ht h0t ih hL hnl hlast R0 hR T es n (k + 1) fu es' mmx Tx (by omega) (by omega) hD' (by omega) hTx (take_none hno hk hfk')
     rw [drop_find hk, hfk']
     exact ⟨es2, m2, mm2, T2, g1, g2, by omega, g4⟩
    have found : ∀ ms, go s low rest wm S r (t + 1) (some (dayB s low rest wm ((S t).getD k 0)).press) (moved s l (dayB s low rest wm ((S t).getD k 0))) = some ms → (((S t).drop k).findSome? (fB s low rest wm S r t none l) = some ((S t).getD k 0 :: ms)) ∧ Res lst (some ((S t).getD k 0 :: ms)) t T m' T' := by
     intro ms hgs
     obtain ⟨q1, q2⟩ := hfound ms hgs
     rw [drop_find hk, hfk, hgs]
     refine ⟨rfl, by omega, hTT, fun ms' hms => ?_⟩
     cases hms
     refine ⟨by simp only [List.length_cons]; omega, fun j hj => ?_⟩
     cases j with
     | zero =>
      have : T' (t + 0) = rb := by
       rw [hT' (t + 0) (by omega)]
      rw [this]
      exact hrb
     | succ j =>
      have := q2 j (by simpa using hj)
      rw [show t + 1 + j = t + (j + 1) by omega] at this
      exact this
    rcases hcall with ⟨rfl, rfl, hcall⟩ | hcall
    ·have e32 : (E F (d + 51 + r)).hv 32 [.int .i64 ((t + 1 : Nat) : Int), .osl 0 0 s.cavs.len, .row (moved s l (dayB s low rest wm ((S t).getD k 0))).nl (moved s l (dayB s low rest wm ((S t).getD k 0))).len 6 (fun i => eStt ((moved s l (dayB s low rest wm ((S t).getD k 0))).el i)), .int .i64 ((S t).getD k 0), .optr 1 0 0, .optr 2 0 0, .optr 3 0 0, .optr 4 0 0, .optr 5 0 0, .optr 6 0 0, .optr 7 0 0] [(.arr 31 2 s.cavs.len (fun j => eSpan ((dayB s low rest wm ((S t).getD k 0)).press.el j)) false), (.box 29 [(sl eInt 1 nd)] true), (.box 77 [(.mapr 8)] true), (.box 28 (eSite s) true), (.box 76 [(.fn (.func 31) [] [(.optr 3 0 0), (.optr 9 0 0), (.optr 10 0 0), (.optr 11 0 0)])] true), (.box 73 [(.optr 12 0 0)] true), (.box 35 [(.osl 13 0 1)] true), (.box 78 [(.fn (.func 32) [] [(.optr 1 0 0), (.optr 2 0 0), (.optr 3 0 0), (.optr 4 0 0), (.optr 5 0 0), (.optr 6 0 0), (.optr 7 0 0)])] true), (.mp true K32 es true), (.box 29 [(sl eInt 1 rest)] true), (.box 29 [(sl eInt 1 low)] true), (.box 31 (eSpan wm) true), (.box 75 (eSite s) false), (.arr 29 1 1 (fun _ => eRw rb) true)] = some (.ret (.bool (go s low rest wm S r (t + 1) (some (dayB s low rest wm ((S t).getD k 0)).press) (moved s l (dayB s low rest wm ((S t).getD k 0)))).isSome), [(.arr 31 2 s.cavs.len (fun j => eSpan ((dayB s low rest wm ((S t).getD k 0)).press.el j)) false), (.box 29 [(sl eInt 1 nd)] true), (.box 77 [(.mapr 8)] true), (.box 28 (eSite s) true), (.box 76 [(.fn (.func 31) [] [(.optr 3 0 0), (.optr 9 0 0), (.optr 10 0 0), (.optr 11 0 0)])] true), (.box 73 [(.optr 12 0 0)] true), (.box 35 [(.osl 13 0 m')] true), (.box 78 [(.fn (.func 32) [] [(.optr 1 0 0), (.optr 2 0 0), (.optr 3 0 0), (.optr 4 0 0), (.optr 5 0 0), (.optr 6 0 0), (.optr 7 0 0)])] true), (.mp true K32 es' true), (.box 29 [(sl eInt 1 rest)] true), (.box 29 [(sl eInt 1 low)] true), (.box 31 (eSpan wm) true), (.box 75 (eSite s) false), (.arr 29 1 1 (fun _ => eRw rb) true)]) := by subst h0t; exact hcall
     simp only [e32, qHv, qSC, qSN, qBox, qArr, qMp, qSlr, qSlo, qDead, qSame, qBool, qRow, pOut, pTup, pCons, pAgg, pInt, pNil, pT, pF, Nat.beq_refl, Bool.and_self, beq_self_eq_true, Bool.true_and, Bool.and_true, kK32]
     cases hg : go s low rest wm S r (t + 1) (some (dayB s low rest wm ((S t).getD k 0)).press) (moved s l (dayB s low rest wm ((S t).getD k 0))) with
     | some ms =>
      obtain ⟨q1, q2⟩ := found ms hg
      rw [q1]
      simp only [Option.isSome_some, pT]
      exact ⟨es', m', 1, _, .inr rfl, hD', by omega, q2⟩
     | none =>
      simp only [Option.isSome_none, pF, Int.natCast_nonneg, decide_true, pT, decide_eq_true (show t ≤ m' by omega)]
      obtain ⟨es2, m2, mm2, T2, g1, g2, g3, g4⟩ := fin _ _ hTT hg
      exact ⟨es2, m2, mm2, T2, .inr g1, g2, g3, g4⟩
    ·have e32 : (E F (d + 51 + r)).hv 32 [.int .i64 ((t + 1 : Nat) : Int), .osl 0 0 s.cavs.len, .row (moved s l (dayB s low rest wm ((S t).getD k 0))).nl (moved s l (dayB s low rest wm ((S t).getD k 0))).len 6 (fun i => eStt ((moved s l (dayB s low rest wm ((S t).getD k 0))).el i)), .int .i64 ((S t).getD k 0), .optr 1 0 0, .optr 2 0 0, .optr 3 0 0, .optr 4 0 0, .optr 5 0 0, .optr 6 0 0, .optr 7 0 0] [(.arr 31 2 s.cavs.len (fun j => eSpan ((dayB s low rest wm ((S t).getD k 0)).press.el j)) false), (.box 29 [(sl eInt 1 nd)] true), (.box 77 [(.mapr 8)] true), (.box 28 (eSite s) true), (.box 76 [(.fn (.func 31) [] [(.optr 3 0 0), (.optr 9 0 0), (.optr 10 0 0), (.optr 11 0 0)])] true), (.box 73 [(.optr 12 0 0)] true), (.box 35 [(.osl 13 0 1)] true), (.box 78 [(.fn (.func 32) [] [(.optr 1 0 0), (.optr 2 0 0), (.optr 3 0 0), (.optr 4 0 0), (.optr 5 0 0), (.optr 6 0 0), (.optr 7 0 0)])] true), (.mp true K32 es true), (.box 29 [(sl eInt 1 rest)] true), (.box 29 [(sl eInt 1 low)] true), (.box 31 (eSpan wm) true), (.box 75 (eSite s) false), (.arr 29 1 1 (fun _ => eRw rb) true)] = some (.ret (.bool (go s low rest wm S r (t + 1) (some (dayB s low rest wm ((S t).getD k 0)).press) (moved s l (dayB s low rest wm ((S t).getD k 0)))).isSome), [(.arr 31 2 s.cavs.len (fun j => eSpan ((dayB s low rest wm ((S t).getD k 0)).press.el j)) false), (.box 29 [(sl eInt 1 nd)] true), (.box 77 [(.mapr 8)] true), (.box 28 (eSite s) true), (.box 76 [(.fn (.func 31) [] [(.optr 3 0 0), (.optr 9 0 0), (.optr 10 0 0), (.optr 11 0 0)])] true), (.box 73 [(.optr 12 0 0)] true), (.box 35 [(.osl 14 0 m')] true), (.box 78 [(.fn (.func 32) [] [(.optr 1 0 0), (.optr 2 0 0), (.optr 3 0 0), (.optr 4 0 0), (.optr 5 0 0), (.optr 6 0 0), (.optr 7 0 0)])] true), (.mp true K32 es' true), (.box 29 [(sl eInt 1 rest)] true), (.box 29 [(sl eInt 1 low)] true), (.box 31 (eSpan wm) true), (.box 75 (eSite s) false), .dead, (.arr 29 1 mm' (fun i => eRw (T' i)) true)]) := by subst h0t; exact hcall
     simp only [e32, qHv, qSC, qSN, qBox, qArr, qMp, qSlr, qSlo, qDead, qSame, qBool, qRow, pOut, pTup, pCons, pAgg, pInt, pNil, pT, pF, Nat.beq_refl, Bool.and_self, beq_self_eq_true, Bool.true_and, Bool.and_true, kK32, n1413]
     cases hg : go s low rest wm S r (t + 1) (some (dayB s low rest wm ((S t).getD k 0)).press) (moved s l (dayB s low rest wm ((S t).getD k 0))) with
     | some ms =>
      obtain ⟨q1, q2⟩ := found ms hg
      rw [q1]
      simp only [Option.isSome_some, pT]
      exact ⟨es', m', mm', T', .inr rfl, hD', by omega, q2⟩
     | none =>
      simp only [Option.isSome_none, pF, Int.natCast_nonneg, decide_true, pT, decide_eq_true (show t ≤ m' by omega)]
      obtain ⟨es2, m2, mm2, T2, g1, g2, g3, g4⟩ := fin _ _ hTT hg
      exact ⟨es2, m2, mm2, T2, .inr g1, g2, g3, g4⟩
end
end Go.Sim.Cr


set_option maxRecDepth 100000
namespace Go.Sim.Cr
open Go.Proofs
section
variable {F d : Nat} {s : Site} {low rest : Sl Int} {wm : Span} {nd : Sl Int} {S : Nat → List Int} {lst : Int → List Int}
theorem six_mul {a c : Nat} (h : a ≤ 6) : a * c ≤ 6 * c := Nat.mul_le_mul_right _ h
set_option maxHeartbeats 4000000
theorem sB (A : Ask F d s low rest wm nd S lst) : ∀ r, SB F d s low rest wm nd S lst r := by
 have hS := A.site
 have h1 := hS.cavs1
 have h5 := hS.cavs5
 have hF := A.fuel
 have hdays := A.days
 intro r
 induction r with
 | zero =>
  intro t last l es mm T ht h1t hL hnl hlast hD hle
  have hcall : (E F (d + 51 + 0)).hv 32 [.int .i64 (t : Int), .osl 0 0 (dayB s low rest wm last).press.len, sl eStt 6 l, .int .i64 last, .optr 1 0 0, .optr 2 0 0, .optr 3 0 0, .optr 4 0 0, .optr 5 0 0, .optr 6 0 0, .optr 7 0 0] (HB s low rest wm nd (dayB s low rest wm last).press (.osl 13 0 t) es [.arr 29 1 mm (fun i => eRw (T i)) true]) =
    some (.ret (.bool true), HB s low rest wm nd (dayB s low rest wm last).press (.osl 13 0 t) es [.arr 29 1 mm (fun i => eRw (T i)) true]) := by
   rw [show d + 51 + 0 = (d + 50) + 1 by omega, E_hv]
   refine (t9132 (E F (d + 50)) F s low rest wm nd es (t : Int) last l (dayB s low rest wm last).press t mm (fun i => eRw (T i))).trans ?_
   rw [show ((t : Int) == (nd.len : Int)) = true by simp; omega, cond_true]
  exact ⟨es, t, mm, T, .inl ⟨rfl, rfl, hcall⟩, hD, by omega, Nat.le_refl _, fun _ _ => rfl, fun ms hms => by cases hms; exact ⟨rfl, fun j hj => by simp at hj⟩⟩
 | succ r ih =>
  intro t last l es mm T ht h1t hL hnl hlast hD hle
  have hrg := rgB_ok (n := (t : Int)) (last := last) (l := l) (by omega) hlast (by have := hL.2; exact this)
  unfold rgB at hrg
  have hbef : befOf s low rest wm t last = (some (dayB s low rest wm last).press) := by unfold befOf; rw [if_neg (by omega)]
  have h6 := six_mul (c := cnt r) (A.six t)
  have hcnt : cnt (r + 1) = 1 + 6 * cnt r := rfl
  obtain ⟨R0, e33', hR⟩ := A.h33 (1 + r) t (by omega)
  have e33 : (E F (d + 51 + r)).pf 33 [.int .i64 (s.cavs.len : Int), .int .i64 (nd.el t)] = some (.ret (.row R0.nl R0.len R0.wd R0.get)) := by
   rw [show d + 50 + (1 + r) = d + 51 + r by omega] at e33'
   exact e33'
  have hgo : go s low rest wm S (r + 1) t (some (dayB s low rest wm last).press) l = ((S t).drop 0).findSome? (fB s low rest wm S r t (some (dayB s low rest wm last).press) l) := rfl
  obtain ⟨es', m', mm', T', g1, g2, g3, g4⟩ := l9132x0 A ht h1t ih hL hnl hlast R0 hR T es mm hD (S t).length 0 F (by omega) (by have := A.six t; omega) (by omega) rfl
  rw [← hgo] at g1 g4
  have hen : (E F (d + 51 + (r + 1))).hv 32 [.int .i64 (t : Int), .osl 0 0 (dayB s low rest wm last).press.len, sl eStt 6 l, .int .i64 last, .optr 1 0 0, .optr 2 0 0, .optr 3 0 0, .optr 4 0 0, .optr 5 0 0, .optr 6 0 0, .optr 7 0 0] (HB s low rest wm nd (dayB s low rest wm last).press (.osl 13 0 t) es [.arr 29 1 mm (fun i => eRw (T i)) true]) = _ :=
   t9132 (E F (d + 51 + r)) F s low rest wm nd es (t : Int) last l (dayB s low rest wm last).press t mm (fun i => eRw (T i))
  rw [show ((t : Int) == (nd.len : Int)) = false by simp; omega, cond_false, hnl, cond_false, hrg, cond_true] at hen
  cases hm : mget es (.agg (keyL (t : Int) last l)) with
  | some v =>
   obtain ⟨rfl, hno⟩ := dead_get h1 h5 hD hL.1 hm
   rw [show nd.len - t = r + 1 by omega, hbef] at hno
   rw [hm, qOs, qBool, cond_true] at hen
   exact ⟨es, t, mm, T, .inl ⟨rfl, rfl, by rw [hno]; exact hen⟩, hD, by omega, Nat.le_refl _, fun _ _ => rfl, fun ms hms => by rw [hno] at hms; cases hms⟩
  | none =>
   rw [hm, qOn, decide_eq_true (Int.natCast_nonneg t), cond_true, decide_eq_true (show (t : Int) < (nd.len : Int) by omega), cond_true, Int.toNat_natCast, e33, pOut, qRow] at hen
   rcases g1 with ⟨q1, q2, g1⟩ | g1
   ·exact ⟨es', m', mm', T', .inl ⟨q1, q2, hen.trans g1⟩, g2, by omega, g4⟩
   ·exact ⟨es', m', mm', T', .inr (hen.trans g1), g2, by omega, g4⟩
theorem cnt_le : ∀ r, r ≤ 12 → cnt r + 1 ≤ 6 ^ (r + 1)
 | 0, _ => by decide
 | r + 1, h => by
  have := cnt_le r (by omega)
  rw [cnt, Nat.pow_succ]
  omega
theorem sA (A : Ask F d s low rest wm nd S lst) (h12 : nd.len ≤ 12) {l : Sl Stt} (hL : StatesOk s l) (hnl : l.nl = false) : ∃ (es' : List (V × V)) (m' mm' : Nat) (T' : Nat → Rw),
  (((go s low rest wm S nd.len 0 none l = none ∨ nd.len = 0) ∧ (E F (d + 51 + nd.len)).hv 32 [.int .i64 0, (.row true 0 0 (fun _ => [])), sl eStt 6 l, .int .i64 0, .optr 0 0 0, .optr 1 0 0, .optr 2 0 0, .optr 3 0 0, .optr 4 0 0, .optr 5 0 0, .optr 6 0 0] (HA s low rest wm nd (.row true 0 0 (fun _ => [])) [] []) =
    some (.ret (.bool (go s low rest wm S nd.len 0 none l).isSome), HA s low rest wm nd (.row true 0 0 (fun _ => [])) es' [])) ∨
   nd.len ≠ 0 ∧ (E F (d + 51 + nd.len)).hv 32 [.int .i64 0, (.row true 0 0 (fun _ => [])), sl eStt 6 l, .int .i64 0, .optr 0 0 0, .optr 1 0 0, .optr 2 0 0, .optr 3 0 0, .optr 4 0 0, .optr 5 0 0, .optr 6 0 0] (HA s low rest wm nd (.row true 0 0 (fun _ => [])) [] []) =
    some (.ret (.bool (go s low rest wm S nd.len 0 none l).isSome), HA s low rest wm nd (.osl 12 0 m') es' [.arr 29 1 mm' (fun i => eRw (T' i)) true])) ∧
   ∀ ms, go s low rest wm S nd.len 0 none l = some ms → m' = ms.length ∧ ∀ j, j < ms.length → RIs (T' j) (lst (ms.getD j 0)) := by
 have hS := A.site
 have h1 := hS.cavs1
 have h5 := hS.cavs5
 have hF := A.fuel
 have hD : DeadOk s low rest wm S nd.len [] := fun p hp => by cases hp
 cases hN : nd.len with
 | zero =>
  have hcall : (E F (d + 51 + 0)).hv 32 [.int .i64 0, (.row true 0 0 (fun _ => [])), sl eStt 6 l, .int .i64 0, .optr 0 0 0, .optr 1 0 0, .optr 2 0 0, .optr 3 0 0, .optr 4 0 0, .optr 5 0 0, .optr 6 0 0] (HA s low rest wm nd (.row true 0 0 (fun _ => [])) [] []) = some (.ret (.bool true), HA s low rest wm nd (.row true 0 0 (fun _ => [])) [] []) := by
   rw [show d + 51 + 0 = (d + 50) + 1 by omega, E_hv]
   refine (t9032 (E F (d + 50)) F s low rest wm nd [] 0 0 l).trans ?_
   rw [hN]
   rfl
  exact ⟨[], 0, 0, fun _ => ⟨true, 0, 0, fun _ => []⟩, .inl ⟨.inr rfl, hcall⟩, fun ms hms => by cases hms; exact ⟨rfl, fun j hj => by simp at hj⟩⟩
 | succ r =>
  have ht : 0 + (r + 1) = nd.len := by omega
  have hrg := rgB_ok (n := ((0 : Nat) : Int)) (last := 0) (l := l) (by omega) (by omega) (by have := hL.2; exact this)
  unfold rgB at hrg
  have h6 := six_mul (c := cnt r) (A.six 0)
  have hc12 := cnt_le r (by omega)
  have hp12 : 6 ^ (r + 1) ≤ 6 ^ 12 := Nat.pow_le_pow_right (by omega) (by omega)
  have h612 : 6 ^ 12 = 2176782336 := by decide
  obtain ⟨R0, e33', hR⟩ := A.h33 (1 + r) 0 (by omega)
  have e33 : (E F (d + 51 + r)).pf 33 [.int .i64 (s.cavs.len : Int), .int .i64 (nd.el 0)] = some (.ret (.row R0.nl R0.len R0.wd R0.get)) := by
   rw [show d + 50 + (1 + r) = d + 51 + r by omega] at e33'
   exact e33'
  have hgo : go s low rest wm S (r + 1) 0 none l = ((S 0).drop 0).findSome? (fB s low rest wm S r 0 none l) := rfl
  obtain ⟨es', m', mm', T', g1, g2, g3, g4⟩ := l9032x0 (last := 0) A ht rfl (sB A r) hL hnl (by omega) R0 hR (fun _ => ⟨true, 0, 0, fun _ => []⟩) [] hD (S 0).length 0 F (by omega) (by have := A.six 0; omega) (by simp only [List.length_nil]; omega) rfl
  rw [← hgo] at g1 g4
  have hen : (E F (d + 51 + (r + 1))).hv 32 [.int .i64 0, (.row true 0 0 (fun _ => [])), sl eStt 6 l, .int .i64 0, .optr 0 0 0, .optr 1 0 0, .optr 2 0 0, .optr 3 0 0, .optr 4 0 0, .optr 5 0 0, .optr 6 0 0] (HA s low rest wm nd (.row true 0 0 (fun _ => [])) [] []) = _ :=
   t9032 (E F (d + 51 + r)) F s low rest wm nd [] ((0 : Nat) : Int) 0 l
  rw [show (((0 : Nat) : Int) == (nd.len : Int)) = false by simp; omega, cond_false, hnl, cond_false, hrg, cond_true, show mget [] (.agg (keyL ((0 : Nat) : Int) 0 l)) = none from rfl, qOn, decide_eq_true (Int.natCast_nonneg 0), cond_true, decide_eq_true (show ((0 : Nat) : Int) < (nd.len : Int) by omega), cond_true, Int.toNat_natCast, e33, pOut, qRow] at hen
  have hres : ∀ ms, go s low rest wm S (r + 1) 0 none l = some ms → m' = ms.length ∧ ∀ j, j < ms.length → RIs (T' j) (lst (ms.getD j 0)) := fun ms hms => by
   obtain ⟨q1, q2⟩ := g4.2.2 ms hms
   refine ⟨by omega, fun j hj => ?_⟩
   have := q2 j hj
   rw [Nat.zero_add] at this
   exact this
  rcases g1 with ⟨q1, g1⟩ | g1
  ·exact ⟨es', m', mm', T', .inl ⟨.inl q1, hen.trans g1⟩, hres⟩
  ·exact ⟨es', m', mm', T', .inr ⟨by omega, hen.trans g1⟩, hres⟩
theorem go_len : ∀ (r t : Nat) (b : Option (Sl Span)) (l : Sl Stt) (ms : List Int), go s low rest wm S r t b l = some ms → ms.length = r
 | 0, _, _, _, ms, h => by cases h; rfl
 | r + 1, t, b, l, ms, h => by
  unfold go at h
  obtain ⟨m, hm, hf⟩ := List.exists_of_findSome?_eq_some h
  cases ho : okDay s (dayB s low rest wm m) b l with
  | false => rw [ho, cond_false] at hf; cases hf
  | true =>
   rw [ho, cond_true] at hf
   cases hg : go s low rest wm S r (t + 1) (some (dayB s low rest wm m).press) (moved s l (dayB s low rest wm m)) with
   | none => rw [hg] at hf; cases hf
   | some q =>
    rw [hg] at hf
    cases hf
    rw [List.length_cons, go_len r _ _ _ q hg]
end
end Go.Sim.Cr


set_option maxRecDepth 100000
namespace Go.Sim.Cr
open Go.Proofs
section
variable {F : Nat} {s : Site} {low rest : Sl Int} {wm : Span} {nd : Sl Int}
theorem plan_long (e : Nat) (h : 60 < nd.len) : (E F (e + 1)).pf 8 [.agg (eSite s), sl eInt 1 low, sl eInt 1 rest, .agg (eSpan wm), sl eInt 1 nd] = some (.ret (.tup [noneRow, .int .i64 3])) := by
 rw [E_pf, t9008, decide_eq_true (show (nd.len : Int) > 60 by omega), cond_true]
theorem plan_bad (e : Nat) (hs : Small s F) (h60 : nd.len ≤ 60) (hlb : low.len < 4611686018427387904) (hlf : low.len < F) (hrb : rest.len < 4611686018427387904) (hrf : rest.len < F) (hF : 60 < F) (hb : ¬ (siteB s = true ∧ PlOk s low rest wm nd)) :
  (E F (e + 7)).pf 8 [.agg (eSite s), sl eInt 1 low, sl eInt 1 rest, .agg (eSpan wm), sl eInt 1 nd] = some (.ret (.tup [noneRow, .int .i64 2])) := by
 have e28 : (E F (e + 6)).pf 28 [.agg (eSite s)] = _ := s48 F e s hs
 have e24 : (E F (e + 6)).pf 24 [sl eInt 1 low, pSite s] = _ := s9024 F (e + 1) low s hlb hlf
 have e24' : (E F (e + 6)).pf 24 [sl eInt 1 rest, pSite s] = _ := s9024 F (e + 1) rest s hrb hrf
 have e29 : (E F (e + 6)).pf 29 [.agg (eSpan wm), .int .i64 10000] = _ := s74 F (e + 5) wm 10000
 have e25 : (E F (e + 6)).pf 25 [sl eInt 1 nd, .fn (.func 30) [] [pSite s]] = _ := s9025 F (e + 2) nd s (by omega) (by omega)
 rw [E_pf, t9008, decide_eq_false (show ¬ (nd.len : Int) > 60 by omega), cond_false]
 simp only [e28, e24, e24', e29, e25, pOut, qBool]
 by_cases h1 : siteB s = true
 rotate_left
 ·rw [show siteB s = false by simpa using h1]
  simp only [Bool.not_false, pT]
 by_cases h2 : PresOk s low
 rotate_left
 ·simp only [h1, Bool.not_true, pF, decide_eq_false h2, Bool.not_false, pT]
 by_cases h3 : PresOk s rest
 rotate_left
 ·simp only [h1, Bool.not_true, pF, decide_eq_true h2, decide_eq_false h3, Bool.not_false, pT]
 by_cases h4 : SpanIn wm 0 10000
 rotate_left
 ·simp only [h1, Bool.not_true, pF, decide_eq_true h2, decide_eq_true h3, decide_eq_false h4, Bool.not_false, pT]
 by_cases h5 : NeedOk s nd
 ·exact absurd ⟨h1, h2, h3, h4, h5⟩ hb
 ·simp only [h1, Bool.not_true, pF, decide_eq_true h2, decide_eq_true h3, decide_eq_true h4, decide_eq_false h5, Bool.not_false, pT]
variable {d : Nat} {S : Nat → List Int} {lst : Int → List Int}
theorem plan_ok (A : Ask F d s low rest wm nd S lst) (hs : Small s F) (h12 : nd.len ≤ 12) (hn : NeedOk s nd) :
  ((go s low rest wm S nd.len 0 none (begin s)) = none ∧ (E F (d + 52 + nd.len)).pf 8 [.agg (eSite s), sl eInt 1 low, sl eInt 1 rest, .agg (eSpan wm), sl eInt 1 nd] = some (.ret (.tup [noneRow, .int .i64 5]))) ∨
  ((go s low rest wm S nd.len 0 none (begin s)) = some [] ∧ nd.len = 0 ∧ ∃ wd g, (E F (d + 52 + nd.len)).pf 8 [.agg (eSite s), sl eInt 1 low, sl eInt 1 rest, .agg (eSpan wm), sl eInt 1 nd] = some (.ret (.tup [.row true 0 wd g, .int .i64 0]))) ∨
  (∃ ms T, (go s low rest wm S nd.len 0 none (begin s)) = some ms ∧ ms.length = nd.len ∧ nd.len ≠ 0 ∧ (E F (d + 52 + nd.len)).pf 8 [.agg (eSite s), sl eInt 1 low, sl eInt 1 rest, .agg (eSpan wm), sl eInt 1 nd] = some (.ret (.tup [sl eRw 1 ⟨false, nd.len, T⟩, .int .i64 0])) ∧ ∀ j, j < ms.length → RIs (T j) (lst (ms.getD j 0))) := by
 have hS := A.site
 have h1 := hS.cavs1
 have h5 := hS.cavs5
 have hF := A.fuel
 have hl := A.low_
 have hr := A.rest_
 have e28 : (E F (d + 51 + nd.len)).pf 28 [.agg (eSite s)] = some (.ret (.bool (siteB s))) := by
  have := s48 F (d + 45 + nd.len) s hs
  rw [show d + 45 + nd.len + 6 = d + 51 + nd.len by omega] at this
  exact this
 have e24 : (E F (d + 51 + nd.len)).pf 24 [sl eInt 1 low, pSite s] = some (.ret (.bool (decide (PresOk s low)))) := by
  have := s9024 F (d + 46 + nd.len) low s (by have := hl.1; omega) (by have := hl.1; omega)
  rw [show d + 46 + nd.len + 5 = d + 51 + nd.len by omega] at this
  exact this
 have e24' : (E F (d + 51 + nd.len)).pf 24 [sl eInt 1 rest, pSite s] = some (.ret (.bool (decide (PresOk s rest)))) := by
  have := s9024 F (d + 46 + nd.len) rest s (by have := hr.1; omega) (by have := hr.1; omega)
  rw [show d + 46 + nd.len + 5 = d + 51 + nd.len by omega] at this
  exact this
 have e29 : (E F (d + 51 + nd.len)).pf 29 [.agg (eSpan wm), .int .i64 10000] = some (.ret (.bool (decide (SpanIn wm 0 10000)))) := by
  have := s74 F (d + 50 + nd.len) wm 10000
  rw [show d + 50 + nd.len + 1 = d + 51 + nd.len by omega] at this
  exact this
 have e25 : (E F (d + 51 + nd.len)).pf 25 [sl eInt 1 nd, .fn (.func 30) [] [pSite s]] = some (.ret (.bool (!decide (NeedOk s nd)))) := by
  have := s9025 F (d + 47 + nd.len) nd s (by omega) (by omega)
  rw [show d + 47 + nd.len + 4 = d + 51 + nd.len by omega] at this
  exact this
 have e38 : (E F (d + 51 + nd.len)).pf 38 [pSite s] = some (.ret (sl eStt 6 (begin s))) := by
  have := s57 F (d + 50 + nd.len) s h1 h5 (by omega)
  rw [show d + 50 + nd.len + 1 = d + 51 + nd.len by omega] at this
  exact this
 obtain ⟨es', m', mm', T', hcall, hres⟩ := sA A h12 (begin_ok hS) rfl
 have hen : (E F (d + 52 + nd.len)).pf 8 [.agg (eSite s), sl eInt 1 low, sl eInt 1 rest, .agg (eSpan wm), sl eInt 1 nd] = evFun Tryz.prog (cfg F) (E F (d + 51 + nd.len)) 8 [.agg (eSite s), sl eInt 1 low, sl eInt 1 rest, .agg (eSpan wm), sl eInt 1 nd] := by
  rw [show d + 52 + nd.len = (d + 51 + nd.len) + 1 by omega, E_pf]
 rw [hen, t9008, decide_eq_false (show ¬ (nd.len : Int) > 60 by omega), cond_false]
 simp only [e28, e24, e24', e29, e25, e38, (siteB_iff s).2 hS, decide_eq_true hl, decide_eq_true hr, decide_eq_true A.wm_, decide_eq_true hn, Bool.not_true, pOut, qBool, qRow, pF]
 rcases hcall with ⟨hc, hcall⟩ | ⟨hne, hcall⟩
 ·have e32 : (E F (d + 51 + nd.len)).hv 32 [.int .i64 0, (.row true 0 0 (fun _ => [])), .row (begin s).nl (begin s).len 6 (fun i => eStt ((begin s).el i)), .int .i64 0, .optr 0 0 0, .optr 1 0 0, .optr 2 0 0, .optr 3 0 0, .optr 4 0 0, .optr 5 0 0, .optr 6 0 0] [(.box 29 [(sl eInt 1 nd)] true), (.box 77 [(.mapr 7)] true), (.box 28 (eSite s) true), (.box 76 [(.fn (.func 31) [] [(.optr 2 0 0), (.optr 8 0 0), (.optr 9 0 0), (.optr 10 0 0)])] true), (.box 73 [(.optr 11 0 0)] true), (.box 35 [(.row true 0 0 (fun _ => []))] true), (.box 78 [(.fn (.func 32) [] [(.optr 0 0 0), (.optr 1 0 0), (.optr 2 0 0), (.optr 3 0 0), (.optr 4 0 0), (.optr 5 0 0), (.optr 6 0 0)])] true), (.mp true K32 [] true), (.box 29 [(sl eInt 1 rest)] true), (.box 29 [(sl eInt 1 low)] true), (.box 31 (eSpan wm) true), (.box 75 (eSite s) false)] = some (.ret (.bool (go s low rest wm S nd.len 0 none (begin s)).isSome), [(.box 29 [(sl eInt 1 nd)] true), (.box 77 [(.mapr 7)] true), (.box 28 (eSite s) true), (.box 76 [(.fn (.func 31) [] [(.optr 2 0 0), (.optr 8 0 0), (.optr 9 0 0), (.optr 10 0 0)])] true), (.box 73 [(.optr 11 0 0)] true), (.box 35 [(.row true 0 0 (fun _ => []))] true), (.box 78 [(.fn (.func 32) [] [(.optr 0 0 0), (.optr 1 0 0), (.optr 2 0 0), (.optr 3 0 0), (.optr 4 0 0), (.optr 5 0 0), (.optr 6 0 0)])] true), (.mp true K32 es' true), (.box 29 [(sl eInt 1 rest)] true), (.box 29 [(sl eInt 1 low)] true), (.box 31 (eSpan wm) true), (.box 75 (eSite s) false)]) := hcall
  simp only [e32, qHv, qSC, qSN, qBox, qArr, qMp, qSlr, qSlo, qDead, qSame, qBool, qRow, pOut, pTup, pCons, pAgg, pInt, pNil, pT, pF, Nat.beq_refl, Bool.and_self, beq_self_eq_true, Bool.true_and, Bool.and_true, kK32, n1213]
  cases hg : (go s low rest wm S nd.len 0 none (begin s)) with
  | none =>
   left
   simp only [Option.isSome_none, Bool.not_false, pT]
   exact ⟨trivial, trivial⟩
  | some ms =>
   rcases hc with hc | hc
   ·rw [hg] at hc; cases hc
   ·right; left
    have := go_len _ _ _ _ _ hg
    have hms : ms = [] := List.eq_nil_of_length_eq_zero (by omega)
    simp only [Option.isSome_some, Bool.not_true, pF]
    exact ⟨by rw [hms], hc, _, _, rfl⟩
 ·have e32 : (E F (d + 51 + nd.len)).hv 32 [.int .i64 0, (.row true 0 0 (fun _ => [])), .row (begin s).nl (begin s).len 6 (fun i => eStt ((begin s).el i)), .int .i64 0, .optr 0 0 0, .optr 1 0 0, .optr 2 0 0, .optr 3 0 0, .optr 4 0 0, .optr 5 0 0, .optr 6 0 0] [(.box 29 [(sl eInt 1 nd)] true), (.box 77 [(.mapr 7)] true), (.box 28 (eSite s) true), (.box 76 [(.fn (.func 31) [] [(.optr 2 0 0), (.optr 8 0 0), (.optr 9 0 0), (.optr 10 0 0)])] true), (.box 73 [(.optr 11 0 0)] true), (.box 35 [(.row true 0 0 (fun _ => []))] true), (.box 78 [(.fn (.func 32) [] [(.optr 0 0 0), (.optr 1 0 0), (.optr 2 0 0), (.optr 3 0 0), (.optr 4 0 0), (.optr 5 0 0), (.optr 6 0 0)])] true), (.mp true K32 [] true), (.box 29 [(sl eInt 1 rest)] true), (.box 29 [(sl eInt 1 low)] true), (.box 31 (eSpan wm) true), (.box 75 (eSite s) false)] = some (.ret (.bool (go s low rest wm S nd.len 0 none (begin s)).isSome), [(.box 29 [(sl eInt 1 nd)] true), (.box 77 [(.mapr 7)] true), (.box 28 (eSite s) true), (.box 76 [(.fn (.func 31) [] [(.optr 2 0 0), (.optr 8 0 0), (.optr 9 0 0), (.optr 10 0 0)])] true), (.box 73 [(.optr 11 0 0)] true), (.box 35 [(.osl 12 0 m')] true), (.box 78 [(.fn (.func 32) [] [(.optr 0 0 0), (.optr 1 0 0), (.optr 2 0 0), (.optr 3 0 0), (.optr 4 0 0), (.optr 5 0 0), (.optr 6 0 0)])] true), (.mp true K32 es' true), (.box 29 [(sl eInt 1 rest)] true), (.box 29 [(sl eInt 1 low)] true), (.box 31 (eSpan wm) true), (.box 75 (eSite s) false), (.arr 29 1 mm' (fun i => eRw (T' i)) true)]) := hcall
  simp only [e32, qHv, qSC, qSN, qBox, qArr, qMp, qSlr, qSlo, qDead, qSame, qBool, qRow, pOut, pTup, pCons, pAgg, pInt, pNil, pT, pF, Nat.beq_refl, Bool.and_self, beq_self_eq_true, Bool.true_and, Bool.and_true, kK32, n1213]
  cases hg : (go s low rest wm S nd.len 0 none (begin s)) with
  | none =>
   left
   simp only [Option.isSome_none, Bool.not_false, pT]
   exact ⟨trivial, trivial⟩
  | some ms =>
   right; right
   obtain ⟨q1, q2⟩ := hres ms hg
   have := go_len _ _ _ _ _ hg
   simp only [Option.isSome_some, Bool.not_true, pF]
   refine ⟨ms, T', rfl, this, hne, ?_, q2⟩
   rw [show m' = nd.len by omega]
end
end Go.Sim.Cr
