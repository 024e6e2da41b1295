import Derived.Test.YtbhhggkblkfmnaaAe
import Derived.Test.YtbhhggkblkfmnaaRows
set_option linter.unusedVariables false
set_option linter.unusedSimpArgs false
set_option linter.unusedSectionVars false

namespace Go.Sim.Le
open Go.Proofs
abbrev wK (t : Truth) (j : Nat) : Nat → Int := (t.rates.el j).el
abbrev opnF (c : Cav) (i : Nat) : Int := (c.slices.el i).opn
abbrev fallF (c : Cav) (i : Nat) : Int := (c.slices.el i).fall
def volS (c : Cav) (l : Nat → Stg) (t : Truth) : Nat → Nat → Int
  | 0 => t.vols.el
  | j + 1 => fun i => volS c l t j i + opnF c i * (takeRow c (l j) (wK t j) (pathN (l j)) i * (l j).water)
def tkE (c : Cav) (l : Nat → Stg) (t : Truth) (j : Nat) : Int × Int := tkT c (l j) (wK t j) (pathN (l j))
def saltP (c : Cav) (l : Nat → Stg) (t : Truth) : Nat → Int
  | 0 => 0
  | j + 1 => saltP c l t j + (l j).water * (tkE c l t j).1
def sumpS (c : Cav) (l : Nat → Stg) (t : Truth) : Nat → Int
  | 0 => 0
  | j + 1 => sumpS c l t j + (l j).water * pathSum c (l j) (wK t j) (fallF c) (pathN (l j))
def brineS (c : Cav) (l : Nat → Stg) (t : Truth) : Nat → Int
  | 0 => 0
  | j + 1 => brineS c l t j + (1000000 * (l j).water - (l j).water * (tkE c l t j).2)
def outS (c : Cav) (l : Nat → Stg) (t : Truth) : Nat → Int
  | 0 => 0
  | j + 1 => outS c l t j + (1000000 * ((l j).water * (tkE c l t j).1) - c.hold * ((l j).water * (tkE c l t j).2))
def endV (c : Cav) (l : Nat → Stg) (t : Truth) (n : Nat) : List V := [sl eInt 1 ⟨false, c.slices.len, volS c l t n⟩, .int .i64 (sumpS c l t n), .int .i64 (saltP c l t n), .int .i64 (brineS c l t n), .int .i64 (outS c l t n)]
section
variable {c : Cav} (hc : CavOk c) {s : Stg} (hs : StgOk c.slices.len s) (w : Nat → Int) (hw : RatesOk c w)
include hc hs hw
theorem pathSum_in (g : Nat → Int) (hg : ∀ i, i < c.slices.len → 0 ≤ g i ∧ g i ≤ 3000) : ∀ k, k ≤ pathN s → 0 ≤ pathSum c s w g k ∧ pathSum c s w g k ≤ 3000 * (tkT c s w k).1 := by
  intro k
  induction k with
  | zero => intro _; simp [pathSum, tkT]
  | succ k ih =>
    intro h
    have i := ih (by omega)
    have hin := pathAt_in hs (k := k) (by omega)
    have hn := takeN_in hc hs w hw (k := k) (by omega)
    have hgi := hg (pathAt s k).toNat (by omega)
    have m1 : 0 ≤ g (pathAt s k).toNat * takeN c s w k := Int.mul_nonneg hgi.1 hn.1
    have m2 : g (pathAt s k).toNat * takeN c s w k ≤ 3000 * takeN c s w k := Int.mul_le_mul_of_nonneg_right hgi.2 hn.1
    simp only [pathSum, tkT]
    unfold takeN at *
    omega
omit hc hs hw in
theorem pathSum_sub : ∀ k, pathSum c s w (opnF c) k - pathSum c s w (fallF c) k = (tkT c s w k).2 := by
  intro k
  induction k with
  | zero => rfl
  | succ k ih =>
    simp only [pathSum, tkT]
    rw [← ih]
    have : (opnF c (pathAt s k).toNat) * takeN c s w k - (fallF c (pathAt s k).toNat) * takeN c s w k = min (w (pathAt s k).toNat) (c.hold - (tkT c s w k).1) * oAt c s k := by
      rw [← Int.sub_mul, Int.mul_comm]; rfl
    omega
end
theorem opn_in {c : Cav} (hc : CavOk c) : ∀ i, i < c.slices.len → 0 ≤ opnF c i ∧ opnF c i ≤ 3000 := fun i hi => by
  have : 1000 ≤ (c.slices.el i).opn ∧ (c.slices.el i).opn ≤ 3000 := (hc.2.2.2 i hi).2.1
  exact ⟨by show 0 ≤ (c.slices.el i).opn; omega, this.2⟩
theorem fall_in {c : Cav} (hc : CavOk c) : ∀ i, i < c.slices.len → 0 ≤ fallF c i ∧ fallF c i ≤ 3000 := fun i hi => by
  have h1 : 1000 ≤ (c.slices.el i).opn ∧ (c.slices.el i).opn ≤ 3000 := (hc.2.2.2 i hi).2.1
  have h2 : 0 ≤ (c.slices.el i).fall ∧ (c.slices.el i).fall ≤ (c.slices.el i).opn - 1 := (hc.2.2.2 i hi).2.2.1
  exact ⟨h2.1, by show (c.slices.el i).fall ≤ 3000; omega⟩
theorem truth_rates {c : Cav} {n : Nat} {t : Truth} (ht : TruthOk c n t) {j : Nat} (hj : j < n) : RatesOk c (wK t j) := fun i hi => (ht.2.2.2 j (by rw [ht.2.1]; exact hj)).2 i hi
theorem mulnn {a b x y : Int} (h1 : 0 ≤ a) (h2 : a ≤ x) (h3 : 0 ≤ b) (h4 : b ≤ y) : 0 ≤ a * b ∧ a * b ≤ x * y := ⟨Int.mul_nonneg h1 h3, Int.mul_le_mul h2 h4 h3 (by omega)⟩
section
variable {c : Cav} (hc : CavOk c) {n : Nat} {l : Nat → Stg} (hl : ∀ i, i < n → StgOk c.slices.len (l i)) {t : Truth} (ht : TruthOk c n t)
include hc hl ht
theorem vol_bd {i : Nat} (hi : i < c.slices.len) : ∀ j, j ≤ n → 0 ≤ volS c l t j i ∧ volS c l t j i ≤ 10000000000000 + 900000000000 * j := by
  intro j
  induction j with
  | zero =>
    intro _
    have h1 := ht.2.2.1 i (by rw [ht.1]; exact hi)
    have h2 : SpanIn (c.slices.el i).vol 0 10000000000000 := (hc.2.2.2 i hi).1
    unfold SpanIn at h2
    simp only [volS]
    omega
  | succ j ih =>
    intro h
    have i1 := ih (by omega)
    have hs := hl j (by omega)
    have h1 := takeRow_in hc hs (wK t j) (truth_rates ht (by omega)) (pathN (l j)) (Nat.le_refl _) i
    have hwa := hs.1
    have ho := opn_in hc i hi
    have m1 := mulnn (a := takeRow c (l j) (wK t j) (pathN (l j)) i) (b := (l j).water) (x := 300) (y := 1000000) h1.1 h1.2 (by omega) (by omega)
    have m2 := mulnn (a := opnF c i) (b := takeRow c (l j) (wK t j) (pathN (l j)) i * (l j).water) (x := 3000) (y := 300000000) ho.1 ho.2 m1.1 (by omega)
    simp only [volS]
    omega
theorem tkE_in {j : Nat} (hj : j < n) : (0 ≤ (tkE c l t j).1 ∧ (tkE c l t j).1 ≤ 300) ∧ (0 ≤ (tkE c l t j).2 ∧ (tkE c l t j).2 ≤ 900000) ∧ (0 ≤ (l j).water * (tkE c l t j).1 ∧ (l j).water * (tkE c l t j).1 ≤ 300000000) ∧ 0 ≤ (l j).water * (tkE c l t j).2 ∧ (l j).water * (tkE c l t j).2 ≤ 900000000000 := by
  have hs := hl j hj
  have hr := reach_in hc hs (take_reach hc hs (wK t j) (truth_rates ht hj) (pathN (l j)) (Nat.le_refl _)) (Nat.le_refl _)
  have hH := hc.2.1
  have hwa := hs.1
  unfold tkE
  have m1 := mulnn (a := (l j).water) (b := (tkT c (l j) (wK t j) (pathN (l j))).1) (x := 1000000) (y := 300) (by omega) (by omega) (by omega) (by omega)
  have m2 := mulnn (a := (l j).water) (b := (tkT c (l j) (wK t j) (pathN (l j))).2) (x := 1000000) (y := 900000) (by omega) (by omega) (by omega) (by omega)
  exact ⟨by omega, by omega, by omega, by omega⟩
theorem sums_in : ∀ j, j ≤ n → (0 ≤ saltP c l t j ∧ saltP c l t j ≤ 300000000 * j) ∧ (0 ≤ sumpS c l t j ∧ sumpS c l t j ≤ 900000000000 * j) ∧ (0 ≤ brineS c l t j ∧ brineS c l t j ≤ 1000000000000 * j) ∧ (-(270000000000000 * j) ≤ outS c l t j ∧ outS c l t j ≤ 300000000000000 * j) := by
  intro j
  induction j with
  | zero => intro _; simp [saltP, sumpS, brineS, outS]
  | succ j ih =>
    intro h
    have i := ih (by omega)
    have hs := hl j (by omega)
    have hwa := hs.1
    have hH := hc.2.1
    have ht1 := tkE_in hc hl ht (j := j) (by omega)
    have hps := pathSum_in hc hs (wK t j) (truth_rates ht (by omega)) (fallF c) (fall_in hc) (pathN (l j)) (Nat.le_refl _)
    have he : (tkT c (l j) (wK t j) (pathN (l j))).1 = (tkE c l t j).1 := rfl
    rw [he] at hps
    have m1 := mulnn (a := (l j).water) (b := pathSum c (l j) (wK t j) (fallF c) (pathN (l j))) (x := 1000000) (y := 900000) (by omega) (by omega) (by omega) (by omega)
    have m2 := mulnn (a := c.hold) (b := (l j).water * (tkE c l t j).2) (x := 300) (y := 900000000000) (by omega) (by omega) (by omega) (by omega)
    have m3 : (l j).water * (tkE c l t j).2 ≤ (l j).water * 900000 := Int.mul_le_mul_of_nonneg_left (by omega) (by omega)
    simp only [saltP, sumpS, brineS, outS]
    omega
end
variable (F d : Nat)
theorem s88g (a b : Int) (hF : 20 < F) (h1 : I64 a) (h3 : I64 (a + b)) :
    (E F (d + 3)).pf 58 [.row false 2 1 (fun u => List.take 1 (List.drop (Min.min u 1 * 1) [V.int .i64 a, V.int .i64 b]))] = some (.ret (.int .i64 (a + b))) := s88 F (d + 2) a b hF h1 h3
section
variable {c : Cav} (hc : CavOk c) {l : Sl Stg} (hL : l.len ≤ 300) (hl : ∀ i, i < l.len → StgOk c.slices.len (l.el i)) {t : Truth} (ht : TruthOk c l.len t) (hF : 400 < F)
include hc hL hl ht hF
theorem l44x3 (m0 jj : Nat) (hj : jj < l.len) (b0 : Bool) (y1 : Int) (y2 : Nat) (y3 y4 y5 y6 y7 y8 y9 y10 : Int) : ∀ j k fu, k + 1 + j = pathN (l.el jj) → j < fu →
    L44x3 (E F (d + 3)) F c l t m0 fu (fun _ => eStg (l.el jj)) (stepOf (l.el jj)) .i64 (pathAt (l.el jj) k) c.slices.len (sumpS c l.el t jj) (saltP c l.el t jj) (brineS c l.el t jj) (outS c l.el t jj) jj (l.el jj).water (l.el jj).into (l.el jj).out (l.el jj).blanket
      (c.hold - (tkT c (l.el jj) (wK t jj) k).1) .i64 ((l.el jj).water * pathSum c (l.el jj) (wK t jj) (opnF c) k) .i64 ((l.el jj).water * pathSum c (l.el jj) (wK t jj) (fallF c) k) .i64 ((l.el jj).water * (tkT c (l.el jj) (wK t jj) k).1) c.slices.len
      (fun i => eInt (volS c l.el t jj i + opnF c i * (takeRow c (l.el jj) (wK t jj) k i * (l.el jj).water))) jj b0 y1 y2 y3 y4 y5 y6 y7 y8 y9 y10 (fun _ => eStg (l.el jj))
    = L44x1 (E F (d + 3)) F c l t m0 ((jj + 1 : Nat) : Int) c.slices.len (sumpS c l.el t (jj + 1)) (saltP c l.el t (jj + 1)) (brineS c l.el t (jj + 1)) (outS c l.el t (jj + 1)) c.slices.len (fun i => eInt (volS c l.el t (jj + 1) i)) := by
  have hs := hl jj hj
  have hw := truth_rates ht hj
  have hp := pathN_le hs
  have hcl := hc.1
  have hH := hc.2.1
  have hwa := hs.1
  have htr := ht.2.2.2 jj (by rw [ht.2.1]; exact hj)
  have htl := ht.2.1
  have hsum := sums_in hc hl ht jj (by omega)
  have hsum' := sums_in hc hl ht (jj + 1) (by omega)
  have htr1 := htr.1
  intro j
  induction j with
  | zero =>
    intro k fu h hf
    obtain ⟨fu, rfl⟩ : ∃ k, fu = k + 1 := ⟨fu - 1, by omega⟩
    have hin := pathAt_in hs (k := k) (by omega)
    have hr := reach_in hc hs (take_reach hc hs (wK t jj) hw k (by omega)) (by omega)
    have hr' := reach_in hc hs (take_reach hc hs (wK t jj) hw (k + 1) (by omega)) (by omega)
    have hn := takeN_in hc hs (wK t jj) hw (k := k) (by omega)
    have hno : min ((t.rates.el jj).el (pathAt (l.el jj) k).toNat) (c.hold - (tkT c (l.el jj) (wK t jj) k).1) = takeN c (l.el jj) (wK t jj) k := rfl
    have hv := vol_bd hc hl ht (i := (pathAt (l.el jj) k).toNat) (by omega) jj (by omega)
    have ho : 0 ≤ (c.slices.el (pathAt (l.el jj) k).toNat).opn ∧ (c.slices.el (pathAt (l.el jj) k).toNat).opn ≤ 3000 := opn_in hc (pathAt (l.el jj) k).toNat (by omega)
    have hfa : 0 ≤ (c.slices.el (pathAt (l.el jj) k).toNat).fall ∧ (c.slices.el (pathAt (l.el jj) k).toNat).fall ≤ 3000 := fall_in hc (pathAt (l.el jj) k).toNat (by omega)
    have p1 := pathSum_in hc hs (wK t jj) hw (opnF c) (opn_in hc) k (by omega)
    have p2 := pathSum_in hc hs (wK t jj) hw (fallF c) (fall_in hc) k (by omega)
    have p1' := pathSum_in hc hs (wK t jj) hw (opnF c) (opn_in hc) (k + 1) (by omega)
    have p2' := pathSum_in hc hs (wK t jj) hw (fallF c) (fall_in hc) (k + 1) (by omega)
    have ht0 : takeRow c (l.el jj) (wK t jj) k (pathAt (l.el jj) k).toNat = 0 := takeRow_0 hs (wK t jj) k k (Nat.le_refl _) (by omega)
    have q1 := mulnn (a := takeN c (l.el jj) (wK t jj) k) (b := (l.el jj).water) (x := 300) (y := 1000000) hn.1 hn.2.1 (by omega) (by omega)
    have q2 := mulnn (a := takeN c (l.el jj) (wK t jj) k * (l.el jj).water) (b := (c.slices.el (pathAt (l.el jj) k).toNat).opn) (x := 300000000) (y := 3000) q1.1 (by omega) ho.1 ho.2
    have q3 := mulnn (a := takeN c (l.el jj) (wK t jj) k * (l.el jj).water) (b := (c.slices.el (pathAt (l.el jj) k).toNat).fall) (x := 300000000) (y := 3000) q1.1 (by omega) hfa.1 hfa.2
    have r1 := mulnn (a := (l.el jj).water) (b := (tkT c (l.el jj) (wK t jj) k).1) (x := 1000000) (y := 300) (by omega) (by omega) (by omega) (by omega)
    have r2 := mulnn (a := (l.el jj).water) (b := pathSum c (l.el jj) (wK t jj) (opnF c) k) (x := 1000000) (y := 900000) (by omega) (by omega) (by omega) (by omega)
    have r3 := mulnn (a := (l.el jj).water) (b := pathSum c (l.el jj) (wK t jj) (fallF c) k) (x := 1000000) (y := 900000) (by omega) (by omega) (by omega) (by omega)
    have es1 : (l.el jj).water * (tkT c (l.el jj) (wK t jj) k).1 + takeN c (l.el jj) (wK t jj) k * (l.el jj).water = (l.el jj).water * (tkT c (l.el jj) (wK t jj) (k + 1)).1 := by
      show _ = (l.el jj).water * ((tkT c (l.el jj) (wK t jj) k).1 + takeN c (l.el jj) (wK t jj) k)
      rw [Int.mul_add, Int.mul_comm (takeN c (l.el jj) (wK t jj) k)]
    have es2 : (l.el jj).water * pathSum c (l.el jj) (wK t jj) (opnF c) k + takeN c (l.el jj) (wK t jj) k * (l.el jj).water * (c.slices.el (pathAt (l.el jj) k).toNat).opn = (l.el jj).water * pathSum c (l.el jj) (wK t jj) (opnF c) (k + 1) := by
      show _ = (l.el jj).water * (pathSum c (l.el jj) (wK t jj) (opnF c) k + (c.slices.el (pathAt (l.el jj) k).toNat).opn * takeN c (l.el jj) (wK t jj) k)
      rw [Int.mul_add, Int.mul_comm (takeN c (l.el jj) (wK t jj) k), Int.mul_assoc, Int.mul_comm (takeN c (l.el jj) (wK t jj) k)]
    have es3 : (l.el jj).water * pathSum c (l.el jj) (wK t jj) (fallF c) k + takeN c (l.el jj) (wK t jj) k * (l.el jj).water * (c.slices.el (pathAt (l.el jj) k).toNat).fall = (l.el jj).water * pathSum c (l.el jj) (wK t jj) (fallF c) (k + 1) := by
      show _ = (l.el jj).water * (pathSum c (l.el jj) (wK t jj) (fallF c) k + (c.slices.el (pathAt (l.el jj) k).toNat).fall * takeN c (l.el jj) (wK t jj) k)
      rw [Int.mul_add, Int.mul_comm (takeN c (l.el jj) (wK t jj) k), Int.mul_assoc, Int.mul_comm (takeN c (l.el jj) (wK t jj) k)]
    have eu : updGet (fun i => eInt (volS c l.el t jj i + opnF c i * (takeRow c (l.el jj) (wK t jj) k i * (l.el jj).water))) (pathAt (l.el jj) k).toNat 0 [V.int .i64 (volS c l.el t jj (pathAt (l.el jj) k).toNat + takeN c (l.el jj) (wK t jj) k * (l.el jj).water * (c.slices.el (pathAt (l.el jj) k).toNat).opn)] =
        fun i => eInt (volS c l.el t jj i + opnF c i * (takeRow c (l.el jj) (wK t jj) (k + 1) i * (l.el jj).water)) := by
      refine (upd_int _ _ _).trans ?_
      funext i
      refine congrArg eInt ?_
      by_cases hi : i = (pathAt (l.el jj) k).toNat
      · rw [if_pos hi, hi]
        simp only [takeRow, if_pos]
        rw [Int.mul_comm (takeN c (l.el jj) (wK t jj) k * (l.el jj).water)]
      · rw [if_neg hi]
        simp only [takeRow, if_neg hi]
    have hk' : k = pathN (l.el jj) - 1 := by omega
    have e1 : pathAt (l.el jj) k = (l.el jj).out := by rw [hk', pathAt_last]
    have e2 : k + 1 = pathN (l.el jj) := by omega
    have ebif : (pathAt (l.el jj) k != (l.el jj).out) = false := by simp [e1]
    rw [L44x3s]
    have hA : decide ((0 : Int) ≤ (jj : Int)) = true := decide_eq_true (Int.natCast_nonneg _)
    have hB : decide ((jj : Int) < (t.rates.len : Int)) = true := decide_eq_true (by rw [htl]; exact Int.ofNat_lt.2 hj)
    have hC : decide ((0 : Int) ≤ pathAt (l.el jj) k) = true := decide_eq_true hin.1
    have hD : decide (pathAt (l.el jj) k < ((t.rates.el jj).len : Int)) = true := decide_eq_true (by rw [htr1]; exact hin.2)
    have hE : decide (pathAt (l.el jj) k < (c.slices.len : Int)) = true := decide_eq_true hin.2
    have w1 : IntKind.i64.wrap (takeN c (l.el jj) (wK t jj) k * (l.el jj).water) = takeN c (l.el jj) (wK t jj) k * (l.el jj).water := wr (by omega)
    have w2 : IntKind.i64.wrap (takeN c (l.el jj) (wK t jj) k * (l.el jj).water * (c.slices.el (pathAt (l.el jj) k).toNat).opn) = takeN c (l.el jj) (wK t jj) k * (l.el jj).water * (c.slices.el (pathAt (l.el jj) k).toNat).opn := wr (by omega)
    have w3 : IntKind.i64.wrap (takeN c (l.el jj) (wK t jj) k * (l.el jj).water * (c.slices.el (pathAt (l.el jj) k).toNat).fall) = takeN c (l.el jj) (wK t jj) k * (l.el jj).water * (c.slices.el (pathAt (l.el jj) k).toNat).fall := wr (by omega)
    have w4 : IntKind.i64.wrap (volS c l.el t jj (pathAt (l.el jj) k).toNat + takeN c (l.el jj) (wK t jj) k * (l.el jj).water * (c.slices.el (pathAt (l.el jj) k).toNat).opn) = volS c l.el t jj (pathAt (l.el jj) k).toNat + takeN c (l.el jj) (wK t jj) k * (l.el jj).water * (c.slices.el (pathAt (l.el jj) k).toNat).opn := wr (by omega)
    have e88a := s88g F d ((l.el jj).water * (tkT c (l.el jj) (wK t jj) k).1) (takeN c (l.el jj) (wK t jj) k * (l.el jj).water) (by omega) (by omega) (by omega)
    have e88b := s88g F d ((l.el jj).water * pathSum c (l.el jj) (wK t jj) (opnF c) k) (takeN c (l.el jj) (wK t jj) k * (l.el jj).water * (c.slices.el (pathAt (l.el jj) k).toNat).opn) (by omega) (by omega) (by omega)
    have e88c := s88g F d ((l.el jj).water * pathSum c (l.el jj) (wK t jj) (fallF c) k) (takeN c (l.el jj) (wK t jj) k * (l.el jj).water * (c.slices.el (pathAt (l.el jj) k).toNat).fall) (by omega) (by omega) (by omega)
    simp only [hA, hB, hC, hD, hE, decide_true, pT, Int.toNat_natCast, mnE, hno, w1, w2, w3, e88a, e88b, e88c, tkOut_ret, tkInt_i, tkCons_c, List.drop, ht0, Int.zero_mul, Int.mul_zero, Int.add_zero, w4]
    rw [es1, es2, es3, eu]
    rw [ebif, pF, e2]
    rw [e2] at p1' p2' hr'
    have hT := tkE_in hc hl ht hj
    have eT1 : (tkT c (l.el jj) (wK t jj) (pathN (l.el jj))).1 = (tkE c l.el t jj).1 := rfl
    have eT2 : (tkT c (l.el jj) (wK t jj) (pathN (l.el jj))).2 = (tkE c l.el t jj).2 := rfl
    have eq3 : (l.el jj).water * pathSum c (l.el jj) (wK t jj) (opnF c) (pathN (l.el jj)) - (l.el jj).water * pathSum c (l.el jj) (wK t jj) (fallF c) (pathN (l.el jj)) = (l.el jj).water * (tkE c l.el t jj).2 := by
      rw [← Int.mul_sub, pathSum_sub]; rfl
    rw [eT1] at p1' p2' hr' ⊢
    have f2 := mulnn (a := (l.el jj).water) (b := pathSum c (l.el jj) (wK t jj) (opnF c) (pathN (l.el jj))) (x := 1000000) (y := 900000) (by omega) (by omega) (by omega) (by omega)
    have f3 := mulnn (a := (l.el jj).water) (b := pathSum c (l.el jj) (wK t jj) (fallF c) (pathN (l.el jj))) (x := 1000000) (y := 900000) (by omega) (by omega) (by omega) (by omega)
    have f4 := mulnn (a := c.hold) (b := (l.el jj).water * (tkE c l.el t jj).2) (x := 300) (y := 900000000000) (by omega) (by omega) (by omega) (by omega)
    clear q1 q2 q3 r1 r2 r3 es1 es2 es3 eu w1 w2 w3 w4 e88a e88b e88c hA hB hC hD hE hno ht0 p1 p2 hv ho hfa hn hr
    simp only [sumpS, saltP, brineS, outS] at hsum'
    generalize (l.el jj).water * pathSum c (l.el jj) (wK t jj) (opnF c) (pathN (l.el jj)) = Rm at *
    generalize hFl : (l.el jj).water * pathSum c (l.el jj) (wK t jj) (fallF c) (pathN (l.el jj)) = Fl at *
    rw [wr (n := Rm - Fl) (by omega), eq3]
    have eb : 1000000 * (l.el jj).water - Rm + Fl = 1000000 * (l.el jj).water - (l.el jj).water * (tkE c l.el t jj).2 := by omega
    rw [wr (n := 1000000 * (l.el jj).water) (by omega), wr (n := 1000000 * (l.el jj).water - Rm) (by omega), eb, wr (n := 1000000 * (l.el jj).water - (l.el jj).water * (tkE c l.el t jj).2) (by omega)]
    rw [wr (n := 1000000 * ((l.el jj).water * (tkE c l.el t jj).1)) (by omega), wr (n := c.hold * ((l.el jj).water * (tkE c l.el t jj).2)) (by omega), wr (n := 1000000 * ((l.el jj).water * (tkE c l.el t jj).1) - c.hold * ((l.el jj).water * (tkE c l.el t jj).2)) (by omega)]
    rw [wr (n := sumpS c l.el t jj + Fl) (by omega), wr (n := saltP c l.el t jj + (l.el jj).water * (tkE c l.el t jj).1) (by omega), wr (n := brineS c l.el t jj + (1000000 * (l.el jj).water - (l.el jj).water * (tkE c l.el t jj).2)) (by omega), wr (n := outS c l.el t jj + (1000000 * ((l.el jj).water * (tkE c l.el t jj).1) - c.hold * ((l.el jj).water * (tkE c l.el t jj).2))) (by omega), wrS (by omega)]
    rw [← hFl]
    rfl
  | succ j ih =>
    intro k fu h hf
    obtain ⟨fu, rfl⟩ : ∃ k, fu = k + 1 := ⟨fu - 1, by omega⟩
    have hin := pathAt_in hs (k := k) (by omega)
    have hr := reach_in hc hs (take_reach hc hs (wK t jj) hw k (by omega)) (by omega)
    have hr' := reach_in hc hs (take_reach hc hs (wK t jj) hw (k + 1) (by omega)) (by omega)
    have hn := takeN_in hc hs (wK t jj) hw (k := k) (by omega)
    have hno : min ((t.rates.el jj).el (pathAt (l.el jj) k).toNat) (c.hold - (tkT c (l.el jj) (wK t jj) k).1) = takeN c (l.el jj) (wK t jj) k := rfl
    have hv := vol_bd hc hl ht (i := (pathAt (l.el jj) k).toNat) (by omega) jj (by omega)
    have ho : 0 ≤ (c.slices.el (pathAt (l.el jj) k).toNat).opn ∧ (c.slices.el (pathAt (l.el jj) k).toNat).opn ≤ 3000 := opn_in hc (pathAt (l.el jj) k).toNat (by omega)
    have hfa : 0 ≤ (c.slices.el (pathAt (l.el jj) k).toNat).fall ∧ (c.slices.el (pathAt (l.el jj) k).toNat).fall ≤ 3000 := fall_in hc (pathAt (l.el jj) k).toNat (by omega)
    have p1 := pathSum_in hc hs (wK t jj) hw (opnF c) (opn_in hc) k (by omega)
    have p2 := pathSum_in hc hs (wK t jj) hw (fallF c) (fall_in hc) k (by omega)
    have p1' := pathSum_in hc hs (wK t jj) hw (opnF c) (opn_in hc) (k + 1) (by omega)
    have p2' := pathSum_in hc hs (wK t jj) hw (fallF c) (fall_in hc) (k + 1) (by omega)
    have ht0 : takeRow c (l.el jj) (wK t jj) k (pathAt (l.el jj) k).toNat = 0 := takeRow_0 hs (wK t jj) k k (Nat.le_refl _) (by omega)
    have q1 := mulnn (a := takeN c (l.el jj) (wK t jj) k) (b := (l.el jj).water) (x := 300) (y := 1000000) hn.1 hn.2.1 (by omega) (by omega)
    have q2 := mulnn (a := takeN c (l.el jj) (wK t jj) k * (l.el jj).water) (b := (c.slices.el (pathAt (l.el jj) k).toNat).opn) (x := 300000000) (y := 3000) q1.1 (by omega) ho.1 ho.2
    have q3 := mulnn (a := takeN c (l.el jj) (wK t jj) k * (l.el jj).water) (b := (c.slices.el (pathAt (l.el jj) k).toNat).fall) (x := 300000000) (y := 3000) q1.1 (by omega) hfa.1 hfa.2
    have r1 := mulnn (a := (l.el jj).water) (b := (tkT c (l.el jj) (wK t jj) k).1) (x := 1000000) (y := 300) (by omega) (by omega) (by omega) (by omega)
    have r2 := mulnn (a := (l.el jj).water) (b := pathSum c (l.el jj) (wK t jj) (opnF c) k) (x := 1000000) (y := 900000) (by omega) (by omega) (by omega) (by omega)
    have r3 := mulnn (a := (l.el jj).water) (b := pathSum c (l.el jj) (wK t jj) (fallF c) k) (x := 1000000) (y := 900000) (by omega) (by omega) (by omega) (by omega)
    have es1 : (l.el jj).water * (tkT c (l.el jj) (wK t jj) k).1 + takeN c (l.el jj) (wK t jj) k * (l.el jj).water = (l.el jj).water * (tkT c (l.el jj) (wK t jj) (k + 1)).1 := by
      show _ = (l.el jj).water * ((tkT c (l.el jj) (wK t jj) k).1 + takeN c (l.el jj) (wK t jj) k)
      rw [Int.mul_add, Int.mul_comm (takeN c (l.el jj) (wK t jj) k)]
    have es2 : (l.el jj).water * pathSum c (l.el jj) (wK t jj) (opnF c) k + takeN c (l.el jj) (wK t jj) k * (l.el jj).water * (c.slices.el (pathAt (l.el jj) k).toNat).opn = (l.el jj).water * pathSum c (l.el jj) (wK t jj) (opnF c) (k + 1) := by
      show _ = (l.el jj).water * (pathSum c (l.el jj) (wK t jj) (opnF c) k + (c.slices.el (pathAt (l.el jj) k).toNat).opn * takeN c (l.el jj) (wK t jj) k)
      rw [Int.mul_add, Int.mul_comm (takeN c (l.el jj) (wK t jj) k), Int.mul_assoc, Int.mul_comm (takeN c (l.el jj) (wK t jj) k)]
    have es3 : (l.el jj).water * pathSum c (l.el jj) (wK t jj) (fallF c) k + takeN c (l.el jj) (wK t jj) k * (l.el jj).water * (c.slices.el (pathAt (l.el jj) k).toNat).fall = (l.el jj).water * pathSum c (l.el jj) (wK t jj) (fallF c) (k + 1) := by
      show _ = (l.el jj).water * (pathSum c (l.el jj) (wK t jj) (fallF c) k + (c.slices.el (pathAt (l.el jj) k).toNat).fall * takeN c (l.el jj) (wK t jj) k)
      rw [Int.mul_add, Int.mul_comm (takeN c (l.el jj) (wK t jj) k), Int.mul_assoc, Int.mul_comm (takeN c (l.el jj) (wK t jj) k)]
    have eu : updGet (fun i => eInt (volS c l.el t jj i + opnF c i * (takeRow c (l.el jj) (wK t jj) k i * (l.el jj).water))) (pathAt (l.el jj) k).toNat 0 [V.int .i64 (volS c l.el t jj (pathAt (l.el jj) k).toNat + takeN c (l.el jj) (wK t jj) k * (l.el jj).water * (c.slices.el (pathAt (l.el jj) k).toNat).opn)] =
        fun i => eInt (volS c l.el t jj i + opnF c i * (takeRow c (l.el jj) (wK t jj) (k + 1) i * (l.el jj).water)) := by
      refine (upd_int _ _ _).trans ?_
      funext i
      refine congrArg eInt ?_
      by_cases hi : i = (pathAt (l.el jj) k).toNat
      · rw [if_pos hi, hi]
        simp only [takeRow, if_pos]
        rw [Int.mul_comm (takeN c (l.el jj) (wK t jj) k * (l.el jj).water)]
      · rw [if_neg hi]
        simp only [takeRow, if_neg hi]
    have hne : (pathAt (l.el jj) k != (l.el jj).out) = true := by
      have := pathAt_ne (l.el jj) (k := k) (by omega)
      simpa using this
    have hS : pathAt (l.el jj) k + stepOf (l.el jj) = pathAt (l.el jj) (k + 1) := by rw [← pathAt_S]
    have hin2 := pathAt_in hs (k := k + 1) (by omega)
    rw [L44x3s]
    have hA : decide ((0 : Int) ≤ (jj : Int)) = true := decide_eq_true (Int.natCast_nonneg _)
    have hB : decide ((jj : Int) < (t.rates.len : Int)) = true := decide_eq_true (by rw [htl]; exact Int.ofNat_lt.2 hj)
    have hC : decide ((0 : Int) ≤ pathAt (l.el jj) k) = true := decide_eq_true hin.1
    have hD : decide (pathAt (l.el jj) k < ((t.rates.el jj).len : Int)) = true := decide_eq_true (by rw [htr1]; exact hin.2)
    have hE : decide (pathAt (l.el jj) k < (c.slices.len : Int)) = true := decide_eq_true hin.2
    have w1 : IntKind.i64.wrap (takeN c (l.el jj) (wK t jj) k * (l.el jj).water) = takeN c (l.el jj) (wK t jj) k * (l.el jj).water := wr (by omega)
    have w2 : IntKind.i64.wrap (takeN c (l.el jj) (wK t jj) k * (l.el jj).water * (c.slices.el (pathAt (l.el jj) k).toNat).opn) = takeN c (l.el jj) (wK t jj) k * (l.el jj).water * (c.slices.el (pathAt (l.el jj) k).toNat).opn := wr (by omega)
    have w3 : IntKind.i64.wrap (takeN c (l.el jj) (wK t jj) k * (l.el jj).water * (c.slices.el (pathAt (l.el jj) k).toNat).fall) = takeN c (l.el jj) (wK t jj) k * (l.el jj).water * (c.slices.el (pathAt (l.el jj) k).toNat).fall := wr (by omega)
    have w4 : IntKind.i64.wrap (volS c l.el t jj (pathAt (l.el jj) k).toNat + takeN c (l.el jj) (wK t jj) k * (l.el jj).water * (c.slices.el (pathAt (l.el jj) k).toNat).opn) = volS c l.el t jj (pathAt (l.el jj) k).toNat + takeN c (l.el jj) (wK t jj) k * (l.el jj).water * (c.slices.el (pathAt (l.el jj) k).toNat).opn := wr (by omega)
    have e88a := s88g F d ((l.el jj).water * (tkT c (l.el jj) (wK t jj) k).1) (takeN c (l.el jj) (wK t jj) k * (l.el jj).water) (by omega) (by omega) (by omega)
    have e88b := s88g F d ((l.el jj).water * pathSum c (l.el jj) (wK t jj) (opnF c) k) (takeN c (l.el jj) (wK t jj) k * (l.el jj).water * (c.slices.el (pathAt (l.el jj) k).toNat).opn) (by omega) (by omega) (by omega)
    have e88c := s88g F d ((l.el jj).water * pathSum c (l.el jj) (wK t jj) (fallF c) k) (takeN c (l.el jj) (wK t jj) k * (l.el jj).water * (c.slices.el (pathAt (l.el jj) k).toNat).fall) (by omega) (by omega) (by omega)
    simp only [hA, hB, hC, hD, hE, decide_true, pT, Int.toNat_natCast, mnE, hno, w1, w2, w3, e88a, e88b, e88c, tkOut_ret, tkInt_i, tkCons_c, List.drop, ht0, Int.zero_mul, Int.mul_zero, Int.add_zero, w4]
    rw [es1, es2, es3, eu]
    rw [hne, pT, hS, wr (n := pathAt (l.el jj) (k + 1)) (by omega), wr (n := c.hold - (tkT c (l.el jj) (wK t jj) k).1 - takeN c (l.el jj) (wK t jj) k) (by omega)]
    rw [show c.hold - (tkT c (l.el jj) (wK t jj) k).1 - takeN c (l.el jj) (wK t jj) k = c.hold - (tkT c (l.el jj) (wK t jj) (k + 1)).1 by
      show _ = c.hold - ((tkT c (l.el jj) (wK t jj) k).1 + takeN c (l.el jj) (wK t jj) k); omega]
    exact ih (k + 1) fu (by omega) (by omega)
theorem l44x1 : ∀ j k fu, k + j = l.len → j < fu →
    L44x1 (E F (d + 3)) F c l t fu k c.slices.len (sumpS c l.el t k) (saltP c l.el t k) (brineS c l.el t k) (outS c l.el t k) c.slices.len (fun i => eInt (volS c l.el t k i)) = some (.ret (.tup [.agg (endV c l.el t l.len), .int .i64 0])) := by
  intro j
  induction j with
  | zero =>
    intro k fu h hf
    obtain ⟨fu, rfl⟩ : ∃ k, fu = k + 1 := ⟨fu - 1, by omega⟩
    have hk : k = l.len := by omega
    subst hk
    rw [L44x1s, decide_eq_false (by omega), pF]
    rfl
  | succ j ih =>
    intro k fu h hf
    obtain ⟨fu, rfl⟩ : ∃ k, fu = k + 1 := ⟨fu - 1, by omega⟩
    have hs := hl k (by omega)
    have hp := pathN_le hs
    have hp1 := pathN_pos (l.el k)
    have hcl := hc.1
    have hH := hc.2.1
    have e := fun b0 y1 y2 y3 y4 y5 y6 y7 y8 y9 y10 => l44x3 F d hc hL hl ht hF fu k (by omega) b0 y1 y2 y3 y4 y5 y6 y7 y8 y9 y10 (pathN (l.el k) - 1) 0 F (by omega) (by omega)
    have e2 := ih (k + 1) fu (by omega) (by omega)
    have ev : (fun i => eInt (volS c l.el t k i + opnF c i * (takeRow c (l.el k) (wK t k) 0 i * (l.el k).water))) = fun i => eInt (volS c l.el t k i) := by
      funext i
      simp only [takeRow, Int.zero_mul, Int.mul_zero, Int.add_zero]
    simp only [ev, tkT, pathSum, Int.mul_zero, Int.sub_zero, pathAt_0] at e
    have q68 : (E F (d + 3)).pf 57 [.agg (eStg (l.el k))] = _ := s68 F (d + 2) (l.el k)
    rw [L44x1s]
    simp (disch := omega) only [decide_eq_true (show (k : Int) < (l.len : Int) by omega), decide_eq_true (show (0 : Int) ≤ (k : Int) by omega), pT, Int.toNat_natCast, q68, tkOut_ret, tkFn_f, tkNil_n, tkCons_c, tkPtr_p, tkInt_i, Nat.beq_refl, Bool.and_self, decide_true]
    unfold stepOf at e
    by_cases hd : (l.el k).out < (l.el k).into
    · simp only [if_pos hd] at e
      rw [decide_eq_true hd, pT]
      exact (e _ _ _ _ _ _ _ _ _ _ _).trans e2
    · simp only [if_neg hd] at e
      rw [decide_eq_false hd, pF]
      exact (e _ _ _ _ _ _ _ _ _ _ _).trans e2
end
theorem s79w (w : Sl Int) (hnl : w.nl = false) (h0 : 0 < w.len) (h1 : w.len ≤ 300) : (E F (d + 1)).hv 56 [sl eInt 1 w] [] = some (.ret (.osl 0 0 w.len), [.arr 3 1 w.len (fun i => eInt (w.el i)) true]) := by
  rw [E_hv, t79, hnl]
  simp only [pF, Nat.zero_add]
  rw [show (w.len == 0) = false by rw [beq_eq_false_iff_ne]; omega, pF, decide_eq_true (by omega), pT]
  rfl
theorem s44 (c : Cav) (l : Sl Stg) (t : Truth) (hC : c.slices.len < Big) (hCF : c.slices.len < F) (hB : l.len < Big) (hLF : l.len < F) (hT : t.rates.len < Big) (hTF : t.rates.len < F) (hnl : t.vols.nl = true → t.vols.len = 0) (hF : 400 < F) :
    (E F (d + 8)).pf 28 [.agg (eCav c), sl eStg 4 l, .agg (eTruth t)] = some (.ret (.tup (if errP c l true = 0 ∧ TruthOk c l.len t then [.agg (endV c l.el t l.len), .int .i64 0] else [.agg [.row true 0 0 (fun _ => []), .int .i64 0, .int .i64 0, .int .i64 0, .int .i64 0], .int .i64 (if errP c l true = 0 then 2 else errP c l true)]))) := by
  have q87 : (E F (d + 7)).pf 55 [.agg (eCav c), sl eStg 4 l, .agg (eTruth t)] = _ := s87 F (d + 5) c l t hC hT hCF hTF
  rw [E_pf, t44]
  simp only [s57e F d c l hC hCF hB hLF, tkOut_ret, tkInt_i, decide_true, pT]
  by_cases h0 : errP c l true = 0
  · obtain ⟨h8, hc, hl, _⟩ := errP_0.1 h0
    rw [h0, show ((0 : Int) != 0) = false from rfl, pF, q87]
    simp only [tkOut_ret, tkBool_b]
    by_cases ht : TruthOk c l.len t
    · rw [decide_eq_true ht, Bool.not_true, pF, if_pos ⟨trivial, ht⟩]
      have hcl := hc.1
      have hvl := ht.1
      have hn : t.vols.nl = false := by
        cases h : t.vols.nl with
        | false => rfl
        | true => have := hnl h; omega
      have q79 : (E F (d + 7)).hv 56 [sl eInt 1 t.vols] [] = _ := s79w F (d + 6) t.vols hn (by omega) (by omega)
      simp only [q79, tkHv_h, tkSl_o, Nat.beq_refl, Bool.and_self, beq_self_eq_true, pT, tkSCons_c, tkSNil_n, tkArr_a]
      rw [hvl]
      exact l44x1 F (d + 4) hc (by omega) hl ht hF l.len 0 F (by omega) (by omega)
    · rw [decide_eq_false ht, Bool.not_false, pT, if_neg (fun h => ht h.2), if_pos trivial]
  · rw [show (errP c l true != 0) = true by simpa using h0, pT, if_neg (fun h => h0 h.1), if_neg h0]
end Go.Sim.Le


namespace Go.Sim.Le
open Go.Proofs
theorem sumF_add (f g : Nat → Int) : ∀ n, sumF (fun i => f i + g i) n = sumF f n + sumF g n
  | 0 => rfl
  | n + 1 => by simp only [sumF]; rw [sumF_add f g n]; omega
section
variable {c : Cav} (hc : CavOk c) {n : Nat} {l : Nat → Stg} (hl : ∀ i, i < n → StgOk c.slices.len (l i)) {t : Truth} (ht : TruthOk c n t)
include hl in
include hc hl ht
end
variable (F d : Nat)
section
variable {c : Cav} (hc : CavOk c) {l : Sl Stg} (hL : l.len ≤ 8) (hl : ∀ i, i < l.len → StgOk c.slices.len (l.el i)) {t : Truth} (ht : TruthOk c l.len t) (hF : 1000000000 < F)
include hc hL hl ht hF
end
end Go.Sim.Le


namespace Go.Sim.Le
open Go.Proofs
theorem le_bestHi {f : Int → Int} {a : Int} {n : Int} (h1 : a ≤ n) : ∀ j : Nat, n ≤ a + j → f n ≤ bestHi f a j
  | 0, h => by rw [show n = a by omega]; exact Int.le_refl _
  | j + 1, h => by
    simp only [bestHi]
    by_cases h2 : n ≤ a + j
    · have := le_bestHi h1 (f := f) j h2; omega
    · rw [show n = a + ((j + 1 : Nat) : Int) by omega]; omega
theorem bestLo_le {f : Int → Int} {a : Int} {n : Int} (h1 : a ≤ n) : ∀ j : Nat, n ≤ a + j → bestLo f a j ≤ f n
  | 0, h => by rw [show n = a by omega]; exact Int.le_refl _
  | j + 1, h => by
    simp only [bestLo]
    by_cases h2 : n ≤ a + j
    · have := bestLo_le h1 (f := f) j h2; omega
    · rw [show n = a + ((j + 1 : Nat) : Int) by omega]; omega
section
variable {c : Cav} (hc : CavOk c) {s : Stg} (hs : StgOk c.slices.len s)
include hc hs
end
end Go.Sim.Le


namespace Go.Sim.Le
open Go.Proofs
def trueM (c : Cav) (l : Nat → Stg) (t : Truth) (m : Mea) (j : Nat) : Int := sumF (fun i => m.weights.el i * volS c l t j i) c.slices.len + m.sump * sumpS c l t j
theorem timesS_mem {p : Span} {n x : Int} (h1 : p.lo ≤ x) (h2 : x ≤ p.hi) : (timesS p n).lo ≤ n * x ∧ n * x ≤ (timesS p n).hi := by
  unfold timesS
  by_cases h : n < 0
  · rw [if_pos h]
    exact ⟨Int.mul_le_mul_of_nonpos_left (by omega) h2, Int.mul_le_mul_of_nonpos_left (by omega) h1⟩
  · rw [if_neg h]
    exact ⟨Int.mul_le_mul_of_nonneg_left h1 (by omega), Int.mul_le_mul_of_nonneg_left h2 (by omega)⟩
section
variable {c : Cav} (hc : CavOk c) {s : Stg} (hs : StgOk c.slices.len s) (w : Nat → Int) (hw : RatesOk c w)
include hc hs hw
theorem play_rest (m : Mea) : ∀ r, r ≤ pathN s → (restS c m s r (c.hold - (tkT c s w (pathN s - r)).1)).lo ≤ pathSum c s w (gainI c m) (pathN s) - pathSum c s w (gainI c m) (pathN s - r) ∧ pathSum c s w (gainI c m) (pathN s) - pathSum c s w (gainI c m) (pathN s - r) ≤ (restS c m s r (c.hold - (tkT c s w (pathN s - r)).1)).hi := by
  intro r
  induction r with
  | zero => intro _; simp [restS]
  | succ r ih =>
    intro h
    have i := ih (by omega)
    have ho : SpanIn (slAt c s (pathN s - (r + 1))).rate 0 300 := (slcOk_at hc hs (k := pathN s - (r + 1)) (by omega)).2.2.2.1
    unfold SpanIn at ho
    have hin := pathAt_in hs (k := pathN s - (r + 1)) (by omega)
    have hwr : (slAt c s (pathN s - (r + 1))).rate.lo ≤ w (pathAt s (pathN s - (r + 1))).toNat ∧ w (pathAt s (pathN s - (r + 1))).toNat ≤ (slAt c s (pathN s - (r + 1))).rate.hi := hw _ (by omega)
    have hS : pathN s - r = pathN s - (r + 1) + 1 := by omega
    rw [hS] at i
    simp only [pathSum, tkT] at i
    simp only [restS]
    generalize hk : pathN s - (r + 1) = k at *
    have hn : min (w (pathAt s k).toNat) (c.hold - (tkT c s w k).1) = takeN c s w k := rfl
    rw [hn] at i
    have hn1 : min (slAt c s k).rate.lo (c.hold - (tkT c s w k).1) ≤ takeN c s w k := by unfold takeN; omega
    have hn2 : takeN c s w k ≤ min (slAt c s k).rate.hi (c.hold - (tkT c s w k).1) := by unfold takeN; omega
    generalize hg : gainI c m (pathAt s k).toNat = g at *
    rw [show c.hold - ((tkT c s w k).1 + takeN c s w k) = c.hold - (tkT c s w k).1 - takeN c s w k by omega] at i
    generalize hb : c.hold - (tkT c s w k).1 = b at *
    have e1 := le_bestHi (f := fun n => (restS c m s r (b - n)).hi + n * g) hn1 (min (slAt c s k).rate.hi b - min (slAt c s k).rate.lo b).toNat (by omega)
    have e2 := bestLo_le (f := fun n => (restS c m s r (b - n)).lo + n * g) hn1 (min (slAt c s k).rate.hi b - min (slAt c s k).rate.lo b).toNat (by omega)
    rw [Int.mul_comm g] at i
    omega
theorem play_grown (m : Mea) : (grownS c m s).lo ≤ s.water * pathSum c s w (gainI c m) (pathN s) ∧ s.water * pathSum c s w (gainI c m) (pathN s) ≤ (grownS c m s).hi := by
  have h := play_rest hc hs w hw m (pathN s) (Nat.le_refl _)
  rw [Nat.sub_self] at h
  simp only [tkT, pathSum, Int.sub_zero] at h
  unfold grownS
  exact timesS_mem h.1 h.2
end
theorem pathSum_lin {c : Cav} {s : Stg} {w : Nat → Int} (f g : Nat → Int) (x : Int) : ∀ k, pathSum c s w (fun i => f i + g i * x) k = pathSum c s w f k + x * pathSum c s w g k
  | 0 => by simp [pathSum]
  | k + 1 => by
    simp only [pathSum]
    rw [pathSum_lin f g x k, Int.add_mul, Int.mul_add]
    have : g (pathAt s k).toNat * x * takeN c s w k = x * (g (pathAt s k).toNat * takeN c s w k) := by rw [Int.mul_comm (g (pathAt s k).toNat), Int.mul_assoc]
    omega
section
variable {c : Cav} (hc : CavOk c) {n : Nat} {l : Nat → Stg} (hl : ∀ i, i < n → StgOk c.slices.len (l i)) {t : Truth} (ht : TruthOk c n t)
include hl in
theorem true_step (m : Mea) {j : Nat} (hj : j < n) : trueM c l t m (j + 1) = trueM c l t m j + (l j).water * pathSum c (l j) (wK t j) (gainI c m) (pathN (l j)) := by
  have hs := hl j hj
  have e1 : sumF (fun i => m.weights.el i * volS c l t (j + 1) i) c.slices.len = sumF (fun i => m.weights.el i * volS c l t j i) c.slices.len + (l j).water * pathSum c (l j) (wK t j) (fun i => (c.slices.el i).opn * m.weights.el i) (pathN (l j)) := by
    rw [← take_sum hs (wK t j) (fun i => (c.slices.el i).opn * m.weights.el i) (pathN (l j)) (Nat.le_refl _), ← sumF_mul, ← sumF_add]
    refine sumF_cong _ fun i _ => ?_
    simp only [volS, opnF]
    rw [Int.mul_add]
    congr 1
    rw [← Int.mul_assoc, Int.mul_comm (m.weights.el i), Int.mul_assoc]
    simp only [Int.mul_assoc]
  have e2 : pathSum c (l j) (wK t j) (gainI c m) (pathN (l j)) = pathSum c (l j) (wK t j) (fun i => (c.slices.el i).opn * m.weights.el i) (pathN (l j)) + m.sump * pathSum c (l j) (wK t j) (fallF c) (pathN (l j)) := pathSum_lin (fun i => (c.slices.el i).opn * m.weights.el i) (fallF c) m.sump _
  unfold trueM
  rw [e1, e2]
  simp only [sumpS]
  rw [Int.mul_add, Int.mul_add, Int.mul_left_comm m.sump]
  omega
include hc ht in
theorem true_first (m : Mea) : ∀ k, k ≤ c.slices.len → (firstS c m k).lo ≤ sumF (fun i => m.weights.el i * volS c l t 0 i) k ∧ sumF (fun i => m.weights.el i * volS c l t 0 i) k ≤ (firstS c m k).hi
  | 0, _ => by simp [firstS, sumF]
  | k + 1, h => by
    have i := true_first m k (by omega)
    have h1 := ht.2.2.1 k (by rw [ht.1]; omega)
    have h2 := timesS_mem (p := (c.slices.el k).vol) (n := m.weights.el k) h1.1 h1.2
    simp only [firstS, sumF, addS, volS]
    simp only [volS] at i
    omega
include hc hl ht
theorem true_in (m : Mea) : ∀ j, j ≤ n → (boundS c l m j).lo ≤ trueM c l t m j ∧ trueM c l t m j ≤ (boundS c l m j).hi
  | 0, _ => by
    have i := true_first hc ht (l := l) m c.slices.len (Nat.le_refl _)
    simp only [boundS, trueM, sumpS, Int.mul_zero, Int.add_zero]
    exact i
  | j + 1, h => by
    have i := true_in m j (by omega)
    have hg := play_grown hc (hl j (by omega)) (wK t j) (truth_rates ht (by omega)) m
    rw [true_step hl m (by omega)]
    simp only [boundS, addS]
    omega
end
section
variable {c : Cav} (hc : CavOk c) {n : Nat} {l : Nat → Stg} (hl : ∀ i, i < n → StgOk c.slices.len (l i)) {t : Truth} (ht : TruthOk c n t)
include hc hl ht
omit hc hl ht in
end
end Go.Sim.Le


namespace Go.Sim.Le
open Go.Proofs Go.Sim.Gs
variable (F d : Nat)
theorem and3 {a b c : Prop} [Decidable a] [Decidable b] [Decidable c] : (bif decide a then (bif decide b then some (Out.ret (.bool (decide c))) else some (.ret (.bool false))) else some (.ret (.bool false))) = some (.ret (.bool (decide (a ∧ b ∧ c)))) := by
  by_cases h1 : a
  · by_cases h2 : b <;> simp [h1, h2]
  · simp [h1]
theorem and2 {a b : Prop} [Decidable a] [Decidable b] : (bif decide a then some (Out.ret (.bool (decide b))) else some (.ret (.bool false))) = some (.ret (.bool (decide (a ∧ b)))) := by
  by_cases h1 : a <;> simp [h1]
theorem s7023 (x y z : Int) : (E F (d + 1)).pf 23 [.int .i64 x, .int .i64 y, .int .i64 z] = some (.ret (.bool (decide (x ≥ y ∧ x ≤ z)))) := by
  rw [E_pf, t7023, and2]
theorem s7043 (x y z : Int) : (E F (d + 1)).pf 43 [.int .i64 x, .int .i64 y, .int .i64 z] = some (.ret (.bool (decide (x ≥ y ∧ x ≤ z)))) := by
  rw [E_pf, t7043, and2]
theorem s7024 (a b x y : Int) : (E F (d + 1)).pf 24 [.agg [.int .i64 a, .int .i64 b], .int .i64 x, .int .i64 y] = some (.ret (.bool (decide (a ≥ x ∧ a ≤ b ∧ b ≤ y)))) := by
  rw [E_pf, t7024, and3]
theorem s7044 (a b x y : Int) : (E F (d + 1)).pf 44 [.agg [.int .i64 a, .int .i64 b], .int .i64 x, .int .i64 y] = some (.ret (.bool (decide (a ≥ x ∧ a ≤ b ∧ b ≤ y)))) := by
  rw [E_pf, t7044, and3]
theorem s7008 (s : Gst) : (E F (d + 2)).pf 8 [.agg (eGst s)] = some (.ret (.bool (decide (StOk s)))) := by
  rw [E_pf, t7008]
  simp only [s7024, tkOut_ret, tkBool_b]
  unfold StOk SpIn
  by_cases h1 : s.gas.lo ≥ 0 ∧ s.gas.lo ≤ s.gas.hi ∧ s.gas.hi ≤ 1000000
  · rw [decide_eq_true h1, cond_true]
    by_cases h2 : s.hyd.lo ≥ 0 ∧ s.hyd.lo ≤ s.hyd.hi ∧ s.hyd.hi ≤ 1000000
    · rw [decide_eq_true h2, cond_true]
      by_cases h3 : s.heat.lo ≥ 2000 ∧ s.heat.lo ≤ s.heat.hi ∧ s.heat.hi ≤ 5000
      · rw [decide_eq_true h3, cond_true]
        congr 3
        exact decide_eq_decide.2 ⟨fun h => ⟨h1, h2, h3, h⟩, fun h => h.2.2.2⟩
      · rw [decide_eq_false h3, cond_false, decide_eq_false (fun h => h3 h.2.2.1)]
    · rw [decide_eq_false h2, cond_false, decide_eq_false (fun h => h2 h.2.1)]
  · rw [decide_eq_false h1, cond_false, decide_eq_false (fun h => h1 h.1)]
theorem s7026 (s : Gst) : (E F (d + 2)).pf 26 [.agg (eGst s)] = some (.ret (.bool (decide (StOk s)))) := by
  rw [E_pf, t7026]
  simp only [s7044, tkOut_ret, tkBool_b]
  unfold StOk SpIn
  by_cases h1 : s.gas.lo ≥ 0 ∧ s.gas.lo ≤ s.gas.hi ∧ s.gas.hi ≤ 1000000
  · rw [decide_eq_true h1, cond_true]
    by_cases h2 : s.hyd.lo ≥ 0 ∧ s.hyd.lo ≤ s.hyd.hi ∧ s.hyd.hi ≤ 1000000
    · rw [decide_eq_true h2, cond_true]
      by_cases h3 : s.heat.lo ≥ 2000 ∧ s.heat.lo ≤ s.heat.hi ∧ s.heat.hi ≤ 5000
      · rw [decide_eq_true h3, cond_true]
        congr 3
        exact decide_eq_decide.2 ⟨fun h => ⟨h1, h2, h3, h⟩, fun h => h.2.2.2⟩
      · rw [decide_eq_false h3, cond_false, decide_eq_false (fun h => h3 h.2.2.1)]
    · rw [decide_eq_false h2, cond_false, decide_eq_false (fun h => h2 h.2.1)]
  · rw [decide_eq_false h1, cond_false, decide_eq_false (fun h => h1 h.1)]
theorem s7009 (s : Gst) (p : Gpt) : (E F (d + 2)).pf 9 [.agg (eGst s), .agg (eGpt p)] = some (.ret (.bool (decide (HasP s p)))) := by
  rw [E_pf, t7009]
  simp only [s7023, tkOut_ret, tkBool_b]
  unfold HasP
  by_cases h1 : p.gas ≥ s.gas.lo ∧ p.gas ≤ s.gas.hi
  · rw [decide_eq_true h1, cond_true]
    by_cases h2 : p.hyd ≥ s.hyd.lo ∧ p.hyd ≤ s.hyd.hi
    · rw [decide_eq_true h2, cond_true]
      by_cases h3 : p.heat ≥ s.heat.lo ∧ p.heat ≤ s.heat.hi
      · rw [decide_eq_true h3, cond_true]
        congr 3
        exact decide_eq_decide.2 ⟨fun h => ⟨h1, h2, h3, h⟩, fun h => h.2.2.2⟩
      · rw [decide_eq_false h3, cond_false, decide_eq_false (fun h => h3 h.2.2.1)]
    · rw [decide_eq_false h2, cond_false, decide_eq_false (fun h => h2 h.2.1)]
  · rw [decide_eq_false h1, cond_false, decide_eq_false (fun h => h1 h.1)]
end Go.Sim.Le


namespace Go.Sim.Le
open Go.Proofs Go.Sim.Gs
variable (F d : Nat)
theorem nn {a b : Prop} [Decidable a] [Decidable b] {x : Option Out} (h : x = some (.ret (.bool (decide b)))) : (bif (!decide a) then some (.ret (.bool false)) else x) = some (.ret (.bool (decide (a ∧ b)))) := by
  subst h; by_cases h1 : a <;> simp [h1]
theorem yy {a b : Prop} [Decidable a] [Decidable b] {x : Option Out} (h : x = some (.ret (.bool (decide b)))) : (bif decide a then x else some (.ret (.bool false))) = some (.ret (.bool (decide (a ∧ b)))) := by
  subst h; by_cases h1 : a <;> simp [h1]
theorem s7007 (g : Gas) : (E (F + 3) (d + 2)).pf 7 [.agg (eGas g)] = some (.ret (.bool (decide (GasOk g)))) := by
  rw [E_pf, t7007]
  simp only [s7023, s7024, tkOut_ret, tkBool_b]
  refine (nn (nn (nn (nn (yy (yy (yy rfl))))))).trans ?_
  congr 3
  exact decide_eq_decide.2 ⟨fun ⟨h1, h2, h3, h4, h5, h6, h7, h8⟩ => ⟨⟨h1, h2⟩, ⟨h3, h4⟩, h5, h6, h7, h8⟩, fun ⟨⟨h1, h2⟩, ⟨h3, h4⟩, h5, h6, h7, h8⟩ => ⟨h1, h2, h3, h4, h5, h6, h7, h8⟩⟩
theorem s7025 (g : Gas) : (E (F + 3) (d + 2)).pf 25 [.agg (eGas g)] = some (.ret (.bool (decide (GasOk g)))) := by
  rw [E_pf, t7025]
  simp only [s7043, s7044, tkOut_ret, tkBool_b]
  refine (nn (nn (nn (nn (yy (yy (yy rfl))))))).trans ?_
  congr 3
  exact decide_eq_decide.2 ⟨fun ⟨h1, h2, h3, h4, h5, h6, h7, h8⟩ => ⟨⟨h1, h2⟩, ⟨h3, h4⟩, h5, h6, h7, h8⟩, fun ⟨⟨h1, h2⟩, ⟨h3, h4⟩, h5, h6, h7, h8⟩ => ⟨h1, h2, h3, h4, h5, h6, h7, h8⟩⟩
section
variable {g : Gas} (hg : GasOk g)
include hg
theorem wr_force {a h t : Int} (h1 : 0 ≤ a ∧ a ≤ 1000000) (h3 : 0 ≤ h ∧ h ≤ 1000000) (h5 : 0 ≤ t ∧ t ≤ 5000) :
    IntKind.wrap .i64 ((IntKind.wrap .i64 ((IntKind.wrap .i64 ((IntKind.wrap .i64 (a * g.f0)) + (IntKind.wrap .i64 (h * g.f1)))) * t)) * (8314 : Int)) = force g a h t := by
  obtain ⟨b1, b2, b3, b4⟩ := force_big hg h1 h3 h5
  rw [wr (n := a * g.f0) (by omega), wr (n := h * g.f1) (by omega), wr (n := a * g.f0 + h * g.f1) (by omega), wr (n := (a * g.f0 + h * g.f1) * t) (by omega)]
  exact wr (by unfold force at b4; omega)
theorem s7029 (p : Gpt) (h1 : 0 ≤ p.gas ∧ p.gas ≤ 1000000) (h3 : 0 ≤ p.hyd ∧ p.hyd ≤ 1000000) (h5 : 0 ≤ p.heat ∧ p.heat ≤ 5000) : (E F (d + 1)).pf 29 [.agg (eGas g), .agg (eGpt p)] = some (.ret (.int .i64 (force g p.gas p.hyd p.heat))) := by
  rw [E_pf, t7029, wr_force hg h1 h3 h5]
theorem s7046 (p : Gpt) (n : Int) (h1 : 0 ≤ p.gas ∧ p.gas ≤ 1000000) (h3 : 0 ≤ p.hyd ∧ p.hyd ≤ 1000000) (h5 : 0 ≤ p.heat ∧ p.heat ≤ 5000) (hn : 0 ≤ n ∧ n ≤ 1000000) : (E F (d + 1)).pf 46 [.agg (eGas g), .agg (eGpt p), .int .i64 n] = some (.ret (.tup [.int .i64 (force g p.gas p.hyd p.heat), .int .i64 (n * 10000000)])) := by
  rw [E_pf, t7046, wr_force hg h1 h3 h5, wr (n := n * 10000000) (by omega)]
theorem s7012 (p : Gpt) (n : Int) (h1 : 0 ≤ p.gas ∧ p.gas ≤ 1000000) (h3 : 0 ≤ p.hyd ∧ p.hyd ≤ 1000000) (h5 : 0 ≤ p.heat ∧ p.heat ≤ 5000) (hn : 0 ≤ n ∧ n ≤ 1000000) : (E F (d + 2)).pf 12 [.agg (eGas g), .agg (eGpt p), .int .i64 n] = some (.ret (.int .i64 (keepsS g p n))) := by
  rw [E_pf, t7012]
  have q := s7029 F d hg p h1 h3 h5
  simp only [q, tkOut_ret, tkInt_i, decide_true, pT]
  have m1 := mul_mono (show 0 ≤ g.least by omega) (show g.least ≤ 100000 by omega) hn.1 hn.2
  have m2 := mul_mono (show 0 ≤ g.most by omega) (show g.most ≤ 100000 by omega) hn.1 hn.2
  have m3 := mul_mono (show 0 ≤ g.pur.lo by omega) (show g.pur.lo ≤ 1000 by omega) (show 0 ≤ p.gas + p.hyd by omega) (show p.gas + p.hyd ≤ 2000000 by omega)
  have m4 := mul_mono (show 0 ≤ g.pur.hi by omega) (show g.pur.hi ≤ 1000 by omega) (show 0 ≤ p.gas + p.hyd by omega) (show p.gas + p.hyd ≤ 2000000 by omega)
  rw [wr (n := g.least * n) (by omega), wr (n := g.least * n * 10000000) (by omega), wr (n := g.most * n) (by omega), wr (n := g.most * n * 10000000) (by omega), wr (n := 1000 * p.hyd) (by omega), wr (n := p.gas + p.hyd) (by omega), wr (n := g.pur.lo * (p.gas + p.hyd)) (by omega), wr (n := g.pur.hi * (p.gas + p.hyd)) (by omega)]
  unfold keepsS
  by_cases c1 : force g p.gas p.hyd p.heat < g.least * n * 10000000
  · rw [decide_eq_true c1, cond_true, if_pos c1]
  rw [decide_eq_false c1, cond_false, if_neg c1]
  by_cases c2 : force g p.gas p.hyd p.heat > g.most * n * 10000000
  · rw [decide_eq_true c2, cond_true, if_pos c2]
  rw [decide_eq_false c2, cond_false, if_neg c2]
  by_cases c3 : 1000 * p.hyd < g.pur.lo * (p.gas + p.hyd)
  · rw [decide_eq_true c3, cond_true, if_pos c3]
  rw [decide_eq_false c3, cond_false, if_neg c3]
  by_cases c4 : 1000 * p.hyd > g.pur.hi * (p.gas + p.hyd)
  · rw [decide_eq_true c4, cond_true, if_pos c4]
  rw [decide_eq_false c4, cond_false, if_neg c4]
end
end Go.Sim.Le


namespace Go.Sim.Le
open Go.Proofs Go.Sim.Gs
variable (F d : Nat)
theorem tkTup_t {R : Type} (l : List V) (f : R) (k : List V → R) : tkTup (.tup l) f k = k l := Eq.trans (Eq.refl _) (Eq.refl _)
theorem s7048 (x y z : Int) (h : I64 (z * y)) : (E F (d + 1)).pf 48 [.int .i64 x, .int .i64 y, .int .i64 z] = some (.ret (.bool (decide (x < z * y)))) := by
  rw [E_pf, t7048, wr h]
def loP (s : Gst) : Gpt := ⟨s.gas.lo, s.hyd.lo, s.heat.lo, s.water.lo⟩
def hiP (s : Gst) : Gpt := ⟨s.gas.hi, s.hyd.hi, s.heat.hi, s.water.hi⟩
theorem s7047 (s : Gst) : (E F (d + 1)).pf 47 [.agg (eGst s)] = some (.ret (.agg (eGpt (loP s)))) := by
  rw [E_pf, t7047]; rfl
theorem s7050 (s : Gst) : (E F (d + 1)).pf 50 [.agg (eGst s)] = some (.ret (.agg (eGpt (hiP s)))) := by
  rw [E_pf, t7050]; rfl
section
variable {g : Gas} (hg : GasOk g) {s : Gst} (hs : StOk s)
include hg hs
theorem s7045 : (E F (d + 2)).pf 45 [.rptr 1 11 (fun _ => eGas g) 0 0, .rptr 1 8 (fun _ => eGst s) 0 0] = some (.ret (.bool (decide (force g s.gas.lo s.hyd.lo s.heat.lo < g.least * (g.vol.hi * 10000000))))) := by
  have q1 := s7047 F d s
  have q2 := s7046 F d hg (loP s) g.vol.hi (by show 0 ≤ s.gas.lo ∧ _; unfold loP; simp only; omega) (by unfold loP; simp only; omega) (by unfold loP; simp only; omega) (by omega)
  have m1 := mul_mono (show 0 ≤ g.least by omega) (show g.least ≤ 100000 by omega) (show 0 ≤ g.vol.hi by omega) (show g.vol.hi ≤ 1000000 by omega)
  have q3 := s7048 F d (force g s.gas.lo s.hyd.lo s.heat.lo) (g.vol.hi * 10000000) g.least (by rw [← Int.mul_assoc]; omega)
  rw [E_pf, t7045]
  simp only [q1, tkOut_ret, tkAgg_a, tkCons_c, tkInt_i, tkNil_n]
  rw [show ([V.int .i64 (loP s).gas, V.int .i64 (loP s).hyd, V.int .i64 (loP s).heat, V.int .i64 (loP s).water] : List V) = eGpt (loP s) from rfl, q2]
  simp only [tkOut_ret, tkTup_t, tkCons_c, tkInt_i, tkNil_n]
  rw [show (loP s).gas = s.gas.lo from rfl, show (loP s).hyd = s.hyd.lo from rfl, show (loP s).heat = s.heat.lo from rfl, q3]
  simp only [tkOut_ret, tkBool_b]
theorem s7049 : (E F (d + 2)).pf 49 [.rptr 1 11 (fun _ => eGas g) 0 0, .rptr 1 8 (fun _ => eGst s) 0 0] = some (.ret (.bool (decide (-(force g s.gas.hi s.hyd.hi s.heat.hi) < -g.most * (g.vol.lo * 10000000))))) := by
  have q1 := s7050 F d s
  have q2 := s7046 F d hg (hiP s) g.vol.lo (by unfold hiP; simp only; omega) (by unfold hiP; simp only; omega) (by unfold hiP; simp only; omega) (by omega)
  have m1 := mul_mono (show 0 ≤ g.most by omega) (show g.most ≤ 100000 by omega) (show 0 ≤ g.vol.lo by omega) (show g.vol.lo ≤ 1000000 by omega)
  obtain ⟨_, _, _, b4⟩ := force_big hg (a := s.gas.hi) (h := s.hyd.hi) (t := s.heat.hi) (by omega) (by omega) (by omega)
  have q3 := s7048 F d (-force g s.gas.hi s.hyd.hi s.heat.hi) (g.vol.lo * 10000000) (-g.most) (by rw [← Int.mul_assoc, Int.neg_mul]; omega)
  rw [E_pf, t7049]
  simp only [q1, tkOut_ret, tkAgg_a, tkCons_c, tkInt_i, tkNil_n]
  rw [show ([V.int .i64 (hiP s).gas, V.int .i64 (hiP s).hyd, V.int .i64 (hiP s).heat, V.int .i64 (hiP s).water] : List V) = eGpt (hiP s) from rfl, q2]
  simp only [tkOut_ret, tkTup_t, tkCons_c, tkInt_i, tkNil_n]
  rw [show (hiP s).gas = s.gas.hi from rfl, show (hiP s).hyd = s.hyd.hi from rfl, show (hiP s).heat = s.heat.hi from rfl]
  rw [Int.zero_sub, Int.zero_sub, wr (n := -force g s.gas.hi s.hyd.hi s.heat.hi) (by omega), wr (n := -g.most) (by omega), q3]
  simp only [tkOut_ret, tkBool_b]
theorem s7052 : (E F (d + 2)).pf 52 [.agg (eGas g), .agg (eGst s)] = some (.ret (.bool (decide (1000 * s.hyd.lo < g.pur.lo * (s.gas.hi + s.hyd.lo))))) := by
  have m3 := mul_mono (show 0 ≤ g.pur.lo by omega) (show g.pur.lo ≤ 1000 by omega) (show 0 ≤ s.gas.hi + s.hyd.lo by omega) (show s.gas.hi + s.hyd.lo ≤ 2000000 by omega)
  rw [E_pf, t7052, wr (n := 1000 * s.hyd.lo) (by omega), wr (n := s.gas.hi + s.hyd.lo) (by omega), s7048 F d _ _ _ (by omega)]
  simp only [tkOut_ret, tkBool_b]
theorem s7054 : (E F (d + 2)).pf 54 [.agg (eGas g), .agg (eGst s)] = some (.ret (.bool (decide (-1000 * s.hyd.hi < -g.pur.hi * (s.gas.lo + s.hyd.hi))))) := by
  have m3 := mul_mono (show 0 ≤ g.pur.hi by omega) (show g.pur.hi ≤ 1000 by omega) (show 0 ≤ s.gas.lo + s.hyd.hi by omega) (show s.gas.lo + s.hyd.hi ≤ 2000000 by omega)
  rw [E_pf, t7054, wr (n := -1000 * s.hyd.hi) (by omega), wr (n := s.gas.lo + s.hyd.hi) (by omega), Int.zero_sub, wr (n := -g.pur.hi) (by omega), s7048 F d _ _ _ (by rw [Int.neg_mul]; omega)]
  simp only [tkOut_ret, tkBool_b]
theorem s7051 : (E F (d + 3)).pf 51 [.rptr 1 11 (fun _ => eGas g) 0 0, .rptr 1 8 (fun _ => eGst s) 0 0] = some (.ret (.bool (decide (1000 * s.hyd.lo < g.pur.lo * (s.gas.hi + s.hyd.lo))))) := by
  rw [E_pf, t7051]
  simp only [s7052 F d hg hs, tkOut_ret, tkBool_b]
theorem s7053 : (E F (d + 3)).pf 53 [.rptr 1 11 (fun _ => eGas g) 0 0, .rptr 1 8 (fun _ => eGst s) 0 0] = some (.ret (.bool (decide (-1000 * s.hyd.hi < -g.pur.hi * (s.gas.lo + s.hyd.hi))))) := by
  rw [E_pf, t7053]
  simp only [s7054 F d hg hs, tkOut_ret, tkBool_b]
theorem s7027 : (E (F + 5) (d + 4)).pf 27 [.agg (eGas g), .agg (eGst s)] = some (.ret (.int .i64 (ruleS g s))) := by
  rw [E_pf, t7027]
  simp only [s7045 (F + 5) (d + 1) hg hs, s7049 (F + 5) (d + 1) hg hs, s7051 (F + 5) d hg hs, s7053 (F + 5) d hg hs, tkOut_ret, tkBool_b]
  unfold ruleS
  by_cases c1 : force g s.gas.lo s.hyd.lo s.heat.lo < g.least * (g.vol.hi * 10000000)
  · rw [decide_eq_true c1, cond_true, if_pos c1]; rfl
  rw [decide_eq_false c1, cond_false, if_neg c1]
  by_cases c2 : -(force g s.gas.hi s.hyd.hi s.heat.hi) < -g.most * (g.vol.lo * 10000000)
  · rw [decide_eq_true c2, cond_true, if_pos c2]; rfl
  rw [decide_eq_false c2, cond_false, if_neg c2]
  by_cases c3 : 1000 * s.hyd.lo < g.pur.lo * (s.gas.hi + s.hyd.lo)
  · rw [decide_eq_true c3, cond_true, if_pos c3]; rfl
  rw [decide_eq_false c3, cond_false, if_neg c3]
  by_cases c4 : -1000 * s.hyd.hi < -g.pur.hi * (s.gas.lo + s.hyd.hi)
  · rw [decide_eq_true c4, cond_true, if_pos c4]; rfl
  rw [decide_eq_false c4, cond_false, if_neg c4]
theorem s7010 : (E (F + 5) (d + 5)).pf 10 [.agg (eGas g), .agg (eGst s)] = some (.ret (.tup [.int .i64 (ruleS g s), .int .i64 0])) := by
  have q25 := s7025 (F + 2) (d + 2) g
  have q26 := s7026 (F + 5) (d + 2) s
  have q27 := s7027 F d hg hs
  rw [E_pf, t7010]
  simp only [q25, q26, q27, tkOut_ret, tkBool_b, tkInt_i, decide_eq_true hg, decide_eq_true hs, Bool.not_true, pF]
end
end Go.Sim.Le


namespace Go.Sim.Le
open Go.Proofs
variable (F d : Nat)
def onesW (n : Nat) : Sl Int := ⟨false, n, fun _ => 1⟩
def hM (c : Cav) : Mea := ⟨onesW c.slices.len, -1⟩
def hB (c : Cav) (l : Sl Stg) : Span := boundS c l.el (hM c) l.len
abbrev HolOk (c : Cav) (l : Sl Stg) : Prop := c.slices.len ≤ 5 ∧ c.hold ≤ 60 ∧ l.len ≤ 4 ∧ CavOk c ∧ (∀ i, i < l.len → StgOk c.slices.len (l.el i)) ∧ 1000000 ≤ (hB c l).lo ∧ (hB c l).lo ≤ (hB c l).hi ∧ (hB c l).hi ≤ 999999000000
def holS (c : Cav) (l : Sl Stg) : Gs.Sp := ⟨(hB c l).lo / 1000000, ((hB c l).hi + 999999) / 1000000⟩
theorem app_one (k : Nat) : appGet k (fun _ => [V.int .i64 (1 : Int)]) (fun _ => [V.int .i64 (1 : Int)]) = fun _ => [V.int .i64 (1 : Int)] := by
  funext i
  unfold appGet
  split <;> rfl
theorem l7004 (env : Env) (c : Cav) (l : Sl Stg) (hn : c.slices.len ≤ 5) : ∀ (j k fu : Nat), k + j = c.slices.len → j < fu → L7004x1 env F c l fu k (k : Int) k (fun _ => [V.int .i64 (1 : Int)]) = L7004x1 env F c l (fu - j) c.slices.len (c.slices.len : Int) c.slices.len (fun _ => [V.int .i64 (1 : Int)])
  | 0, k, fu, h, _ => by
    obtain rfl : k = c.slices.len := by omega
    rfl
  | j + 1, k, fu, h, hf => by
    obtain ⟨fu, rfl⟩ : ∃ q, fu = q + 1 := ⟨fu - 1, by omega⟩
    rw [L7004x1s, decide_eq_true (show (k : Int) < (c.slices.len : Int) by omega), cond_true, decide_eq_true (show (k + 1) * 8 ≤ 140737488355328 by omega), cond_true, app_one, wr (n := (k : Int) + 1) (by omega)]
    have := l7004 env c l hn j (k + 1) fu (by omega) (by omega)
    rw [show ((k + 1 : Nat) : Int) = (k : Int) + 1 from rfl] at this
    rw [this, show fu + 1 - (j + 1) = fu - j by omega]
theorem s7004 (c : Cav) (l : Sl Stg) (hC : c.slices.len < Big) (hCF : c.slices.len < F) (hL : l.len < Big) (hLF : l.len < F) (hF : 400 < F) :
    (E F (d + 16)).pf 4 [.agg (eCav c), sl eStg 4 l] = some (.ret (.tup (if HolOk c l then [.agg [.int .i64 (holS c l).lo, .int .i64 (holS c l).hi], .bool true] else [.agg [.int .i64 0, .int .i64 0], .bool false]))) := by
  have q27 := s27 F (d + 13) c hC hCF
  have q63 := s63 F (d + 12) c l hC hL hLF
  rw [E_pf, t7004]
  simp only [q27, q63, tkOut_ret, tkBool_b]
  by_cases h1 : c.slices.len ≤ 5
  rotate_left
  · rw [decide_eq_true (show (c.slices.len : Int) > 5 by omega), cond_true, if_neg (fun h => h1 h.1)]
  rw [decide_eq_false (show ¬ (c.slices.len : Int) > 5 by omega), cond_false]
  by_cases h2 : c.hold ≤ 60
  rotate_left
  · rw [decide_eq_true (show c.hold > 60 by omega), cond_true, if_neg (fun h => h2 h.2.1)]
  rw [decide_eq_false (show ¬ c.hold > 60 by omega), cond_false]
  by_cases h3 : l.len ≤ 4
  rotate_left
  · rw [decide_eq_true (show (l.len : Int) > 4 by omega), cond_true, if_neg (fun h => h3 h.2.2.1)]
  rw [decide_eq_false (show ¬ (l.len : Int) > 4 by omega), cond_false]
  by_cases h4 : CavOk c
  rotate_left
  · rw [decide_eq_false h4, Bool.not_false, cond_true, if_neg (fun h => h4 h.2.2.2.1)]
  rw [decide_eq_true h4, Bool.not_true, cond_false]
  by_cases h5 : ∀ i, i < l.len → StgOk c.slices.len (l.el i)
  rotate_left
  · rw [decide_eq_false h5, Bool.not_false, cond_true, if_neg (fun h => h5 h.2.2.2.2.1)]
  rw [decide_eq_true h5, Bool.not_true, cond_false]
  obtain ⟨fu, hfu⟩ : ∃ q, F = q + 8 := ⟨F - 8, by omega⟩
  have q22 := s22 F d c l (onesW c.slices.len) (-1) hC hCF hL hLF hC hCF hF
  have herr : errP c l (decide (WtOk c (onesW c.slices.len) (-1))) = 0 := errP_0.2 ⟨by omega, h4, h5, decide_eq_true ⟨fun i _ => by show -1000 ≤ (1 : Int) ∧ (1 : Int) ≤ 1000; omega, rfl, by omega⟩⟩
  rw [herr, if_pos rfl] at q22
  have hb := bound_in h4 (m := hM c) ⟨rfl, fun i _ => by show -1000 ≤ (1 : Int) ∧ (1 : Int) ≤ 1000; omega, by show -1000 ≤ (-1 : Int); omega, by show (-1 : Int) ≤ 1000; omega⟩ h5 l.len (Nat.le_refl _)
  have hstep : L7004x0 (E F (d + 15)) F c l F = L7004x1 (E F (d + 15)) F c l (fu + 7 - (c.slices.len - 1)) c.slices.len (c.slices.len : Int) c.slices.len (fun _ => [V.int .i64 (1 : Int)]) := by
    have := L7004x0s (E F (d + 15)) F c l (fu + 7)
    rw [show fu + 7 + 1 = F by omega] at this
    rw [this, decide_eq_true (show (0 : Int) < (c.slices.len : Int) by omega), cond_true, Int.zero_add, wr (n := 1) (by omega)]
    exact l7004 F (E F (d + 15)) c l h1 (c.slices.len - 1) 1 (fu + 7) (by omega) (by omega)
  obtain ⟨q, hq⟩ : ∃ q, fu + 7 - (c.slices.len - 1) = q + 1 := ⟨fu + 6 - (c.slices.len - 1), by omega⟩
  rw [hstep, hq, L7004x1s, decide_eq_false (show ¬ (c.slices.len : Int) < (c.slices.len : Int) by omega), cond_false]
  rw [show (V.row false c.slices.len 1 fun _ => [V.int .i64 (1 : Int)]) = sl eInt 1 (onesW c.slices.len) from rfl, q22]
  simp only [tkOut_ret, tkTup_t, tkCons_c, tkAgg_a, tkInt_i, tkNil_n, decide_true, cond_true, bne_self_eq_false, pF]
  rw [show boundS c l.el ⟨onesW c.slices.len, -1⟩ l.len = hB c l from rfl]
  change (_ ≤ (hB c l).lo ∧ (hB c l).lo ≤ _) ∧ (_ ≤ (hB c l).hi ∧ (hB c l).hi ≤ _) at hb
  by_cases h6 : 1000000 ≤ (hB c l).lo
  rotate_left
  · rw [decide_eq_true (show (hB c l).lo < 1000000 by omega), cond_true, if_neg (fun h => h6 h.2.2.2.2.2.1)]
  rw [decide_eq_false (show ¬ (hB c l).lo < 1000000 by omega), cond_false]
  by_cases h7 : (hB c l).lo ≤ (hB c l).hi
  rotate_left
  · rw [decide_eq_true (show (hB c l).lo > (hB c l).hi by omega), cond_true, if_neg (fun h => h7 h.2.2.2.2.2.2.1)]
  rw [decide_eq_false (show ¬ (hB c l).lo > (hB c l).hi by omega), cond_false]
  by_cases h8 : (hB c l).hi ≤ 999999000000
  rotate_left
  · rw [decide_eq_true (show (hB c l).hi > 999999000000 by omega), cond_true, if_neg (fun h => h8 h.2.2.2.2.2.2.2)]
  rw [decide_eq_false (show ¬ (hB c l).hi > 999999000000 by omega), cond_false, if_pos ⟨h1, h2, h3, h4, h5, h6, h7, h8⟩]
  unfold holS
  rw [wr (n := (hB c l).hi + 999999) (by omega), Int.tdiv_eq_ediv_of_nonneg (by omega), Int.tdiv_eq_ediv_of_nonneg (by omega), wr (n := (hB c l).lo / 1000000) (by omega), wr (n := ((hB c l).hi + 999999) / 1000000) (by omega)]
end Go.Sim.Le


namespace Go.Sim.Le
open Go.Proofs
variable (F d : Nat)
def accT (c : Cav) (l : Sl Stg) (t : Truth) (k : Nat) : Int := 0 - sumpS c l.el t l.len + sumF (fun i => volS c l.el t l.len i) k
theorem acc_true (c : Cav) (l : Sl Stg) (t : Truth) : accT c l t c.slices.len = trueM c l.el t (hM c) l.len := by
  unfold accT trueM hM onesW
  simp only [Int.one_mul]
  omega
section
variable {c : Cav} (hc : CavOk c) {l : Sl Stg} (hL : l.len ≤ 4) (hl : ∀ i, i < l.len → StgOk c.slices.len (l.el i)) {t : Truth} (ht : TruthOk c l.len t)
include hc hL hl ht
theorem volT_in {i : Nat} (hi : i < c.slices.len) : 0 ≤ volS c l.el t l.len i ∧ volS c l.el t l.len i ≤ 13600000000000 := by
  have := vol_bd hc hl ht hi l.len (Nat.le_refl _)
  omega
theorem sumpT_in : 0 ≤ sumpS c l.el t l.len ∧ sumpS c l.el t l.len ≤ 3600000000000 := by
  have := (sums_in hc hl ht l.len (Nat.le_refl _)).2.1
  omega
theorem sumVT_in : ∀ k, k ≤ c.slices.len → 0 ≤ sumF (fun i => volS c l.el t l.len i) k ∧ sumF (fun i => volS c l.el t l.len i) k ≤ 13600000000000 * k
  | 0, _ => by simp [sumF]
  | k + 1, h => by
    have i1 := sumVT_in k (by omega)
    have i2 := volT_in hc hL hl ht (i := k) (by omega)
    simp only [sumF]
    omega
theorem l7011 (env : Env) (q7 : IntKind) (i8 : Int) (q9 : IntKind) (i10 : Int) (q11 : IntKind) (i12 : Int) (q13 : IntKind) (i14 : Int) : ∀ (j k fu : Nat), k + j = c.slices.len → j < fu →
    L7011x0 env F c l t fu .i64 (accT c l t k) (k : Int) false c.slices.len 1 (fun i => eInt (volS c l.el t l.len i)) q7 i8 q9 i10 q11 i12 q13 i14 = some (.ret (.int .i64 (accT c l t c.slices.len)))
  | 0, k, fu, h, hf => by
    obtain ⟨fu, rfl⟩ : ∃ q, fu = q + 1 := ⟨fu - 1, by omega⟩
    obtain rfl : k = c.slices.len := by omega
    rw [L7011x0s, decide_eq_false (by omega), cond_false]
  | j + 1, k, fu, h, hf => by
    obtain ⟨fu, rfl⟩ : ∃ q, fu = q + 1 := ⟨fu - 1, by omega⟩
    have hk : k < c.slices.len := by omega
    have h10 := hc.1.2
    have hv := volT_in hc hL hl ht hk
    have hs := sumpT_in hc hL hl ht
    have ha := sumVT_in hc hL hl ht k (by omega)
    rw [L7011x0s]
    simp only [decide_eq_true (show (k : Int) < (c.slices.len : Int) by omega), decide_eq_true (show (0 : Int) ≤ (k : Int) by omega), decide_eq_false (show ¬ (k : Int) > 20 by omega), decide_true, cond_true, cond_false, beq_self_eq_true, tkCons_c, tkInt_i, Int.toNat_natCast,
      decide_eq_false (show ¬ volS c l.el t l.len k < 0 by omega), decide_eq_false (show ¬ volS c l.el t l.len k > 100000000000000 by omega)]
    have e : accT c l t k + volS c l.el t l.len k = accT c l t (k + 1) := by
      unfold accT
      simp only [sumF]
      omega
    have hb : I64 (accT c l t k + volS c l.el t l.len k) := by
      unfold accT
      omega
    rw [wr hb, e, wr (n := (k : Int) + 1) (by omega)]
    exact l7011 env q7 i8 q9 i10 q11 i12 q13 i14 j (k + 1) fu (by omega) (by omega)
theorem s7011 (hC : c.slices.len < Big) (hCF : c.slices.len < F) (hLF : l.len < F) (hT : t.rates.len < Big) (hTF : t.rates.len < F) (hnl : t.vols.nl = true → t.vols.len = 0) (hF : 400 < F) :
    (E F (d + 9)).pf 11 [.agg (eCav c), sl eStg 4 l, .agg (eTruth t)] = some (.ret (.int .i64 (trueM c l.el t (hM c) l.len))) := by
  have q44 := s44 F d c l t hC hCF (by show l.len < Big; omega) hLF hT hTF hnl hF
  rw [if_pos ⟨errP_0.2 ⟨by omega, hc, hl, rfl⟩, ht⟩] at q44
  have hs := sumpT_in hc hL hl ht
  rw [E_pf, t7011, q44]
  unfold endV
  simp only [tkOut_ret, tkTup_t, tkCons_c, tkAgg_a, tkRow_r, tkInt_i, tkNil_n, decide_true, cond_true, bne_self_eq_false, pF,
    decide_eq_false (show ¬ sumpS c l.el t l.len < 0 by omega), decide_eq_false (show ¬ sumpS c l.el t l.len > 100000000000000 by omega)]
  rw [wr (n := 0 - sumpS c l.el t l.len) (by omega)]
  have h10 := hc.1.2
  have := l7011 F hc hL hl ht (E F (d + 8)) .i64 (sumpS c l.el t l.len) .i64 (saltP c l.el t l.len) .i64 (brineS c l.el t l.len) .i64 (outS c l.el t l.len) c.slices.len 0 F (by omega) (by omega)
  rw [show accT c l t 0 = 0 - sumpS c l.el t l.len by unfold accT; simp [sumF]] at this
  rw [← acc_true]
  exact this
end
end Go.Sim.Le


set_option maxRecDepth 100000
namespace Go.Sim.Le
open Go.RowKit Go.Proofs
theorem t7087 (env : Env) (F : Nat) (n0 : Nat) (n1 : Nat) (n2 : Nat) (n3 : Nat) (g0 : Nat → List V) (g1 : Nat → List V) (g2 : Nat → List V) (g3 : Nat → List V) (a : Int) (b : Int) (c : Int) (d : Int) : (evFunH Try.prog (cfg F) env 87 [(.optr 0 0 0), (.agg [(.int .i64 a), (.int .i64 b), (.int .i64 c), (.int .i64 d)])] [(.box 139 [(.osl 1 0 n0), (.osl 2 0 n1), (.osl 3 0 n2), (.osl 4 0 n3)] true), (.arr 3 1 n0 g0 true), (.arr 3 1 n1 g1 true), (.arr 3 1 n2 g2 true), (.arr 3 1 n3 g3 true)]) =
  (bif (decide (((n0 + 1) * 8) ≤ 140737488355328)) then (bif (decide (((n1 + 1) * 8) ≤ 140737488355328)) then (bif (decide (((n2 + 1) * 8) ≤ 140737488355328)) then (bif (decide (((n3 + 1) * 8) ≤ 140737488355328)) then some ((.ret (.tup [])), [(.box 139 [(.osl 5 0 (n0 + 1)), (.osl 6 0 (n1 + 1)), (.osl 7 0 (n2 + 1)), (.osl 8 0 (n3 + 1))] true), .dead, .dead, .dead, .dead, (.arr 3 1 (n0 + 1) (appGet n0 g0 (fun u14 => [(.int .i64 a)])) true), (.arr 3 1 (n1 + 1) (appGet n1 g1 (fun u14 => [(.int .i64 b)])) true), (.arr 3 1 (n2 + 1) (appGet n2 g2 (fun u14 => [(.int .i64 c)])) true), (.arr 3 1 (n3 + 1) (appGet n3 g3 (fun u14 => [(.int .i64 d)])) true)])
        else none)
      else none)
    else none)
  else none) := by kernel_rfl
noncomputable def quickHv (e : Env) (f : Nat) (ar : List V) (hp : List Slot) : Option (Out × List Slot) := match ar, hp with
  | [.optr 0 0 0, .agg [.int .i64 a, .int .i64 b, .int .i64 c, .int .i64 d]], [.box 139 [.osl 1 0 n0, .osl 2 0 n1, .osl 3 0 n2, .osl 4 0 n3] true, .arr 3 1 m0 g0 true, .arr 3 1 m1 g1 true, .arr 3 1 m2 g2 true, .arr 3 1 m3 g3 true] =>
      bif Nat.beq f 87 && (Nat.beq n0 m0 && (Nat.beq n1 m1 && (Nat.beq n2 m2 && (Nat.beq n3 m3 && (Nat.blt n0 1000 && (Nat.blt n1 1000 && (Nat.blt n2 1000 && Nat.blt n3 1000))))))) then
        some ((.ret (.tup [])), [(.box 139 [(.osl 5 0 (n0 + 1)), (.osl 6 0 (n1 + 1)), (.osl 7 0 (n2 + 1)), (.osl 8 0 (n3 + 1))] true), .dead, .dead, .dead, .dead, (.arr 3 1 (n0 + 1) (appGet n0 g0 (fun _ => [(.int .i64 a)])) true), (.arr 3 1 (n1 + 1) (appGet n1 g1 (fun _ => [(.int .i64 b)])) true), (.arr 3 1 (n2 + 1) (appGet n2 g2 (fun _ => [(.int .i64 c)])) true), (.arr 3 1 (n3 + 1) (appGet n3 g3 (fun _ => [(.int .i64 d)])) true)])
      else e.hv f ar hp
  | ar, hp => e.hv f ar hp
noncomputable def quick (e : Env) : Env := { e with hv := quickHv e }
theorem cond_or {α : Type} {b : Bool} {x y : α} (h : b = true → x = y) : cond b x y = y := by
  cases b
  · rfl
  · exact h rfl
theorem quick_eq (F d : Nat) : quick (E F (d + 1)) = E F (d + 1) := by
  have h : quickHv (E F (d + 1)) = (E F (d + 1)).hv := by
    funext f ar hp
    unfold quickHv
    split
    · refine cond_or fun hb => ?_
      simp only [Bool.and_eq_true, Nat.blt_eq] at hb
      obtain ⟨e0, e1, e2, e3, e4, h0, h1, h2, h3⟩ := hb
      obtain rfl := Nat.eq_of_beq_eq_true e0
      obtain rfl := Nat.eq_of_beq_eq_true e1
      obtain rfl := Nat.eq_of_beq_eq_true e2
      obtain rfl := Nat.eq_of_beq_eq_true e3
      obtain rfl := Nat.eq_of_beq_eq_true e4
      rw [E_hv, t7087]
      rw [decide_eq_true (by omega), decide_eq_true (by omega), decide_eq_true (by omega), decide_eq_true (by omega)]
      rfl
    · rfl
  unfold quick
  rw [h]
abbrev zI (n : Int) : V := .int .i64 n
abbrev S1 : V := .agg [zI 2000, zI 2100, zI 100, zI 110, zI 3000, zI 3100, zI 50000, zI 60000]
abbrev C1 : V := .agg [zI 1000, zI 1100, zI 2000, zI 9000, zI 900, zI 1000, zI 36, zI 29, zI 3200, zI 0, zI 100]
abbrev O1 : V := .agg [zI 2, zI 0, zI 0, zI 0, zI 0, zI 210, zI 0, zI 0, zI 0, zI 0]
end Go.Sim.Le


set_option maxRecDepth 100000
namespace Go.Sim.Le
open Go.RowKit Go.Proofs
theorem c82 (F d : Nat) : (E (F + 3000) (d + 12)).pf 82 [C1, S1, O1] = some (.ret (.tup [.agg [zI 1800, zI 1900, zI 90, zI 100, zI 3000, zI 3100, zI 45000, zI 54299], .agg [zI 200, zI 201, zI 9, zI 10, zI 4751, zI 6000]])) := by
  rw [E_pf, ← quick_eq]
  kernel_rfl
end Go.Sim.Le


set_option maxRecDepth 100000
namespace Go.Sim.Le
open Go.RowKit Go.Proofs
noncomputable def stepE (F : Nat) (e : Env) : Env := { pf := fun f a => evFun Try.prog (cfg F) e f a, hv := fun f a hp => evFunH Try.prog (cfg F) e f a hp }
theorem E_step (F d : Nat) : E F (d + 1) = stepE F (E F d) := by kernel_rfl
def i64s : List V → Option (List Int)
  | [] => some []
  | .int .i64 x :: r => (match i64s r with | some l => some (x :: l) | none => none)
  | _ => none
theorem i64s_eq : ∀ (l : List V) (k : List Int), i64s l = some k → l = k.map (V.int .i64)
  | [], k, h => by
    injection h with h; subst h; rfl
  | .int .i64 x :: r, k, h => by
    unfold i64s at h
    split at h
    · rename_i l e
      injection h with h; subst h
      rw [i64s_eq r l e]; rfl
    · cases h
def isInts (l : List V) (k : List Int) : Bool := match i64s l with
  | some m => m == k
  | none => false
theorem isInts_eq {l : List V} {k : List Int} (h : isInts l k = true) : l = k.map (V.int .i64) := by
  unfold isInts at h
  split at h
  · rename_i m e
    rw [i64s_eq _ _ e, eq_of_beq h]
  · cases h
abbrev L1 : V := .agg [zI 1800, zI 1900, zI 90, zI 100, zI 3000, zI 3100, zI 45000, zI 54299]
abbrev G1 : V := .agg [zI 200, zI 201, zI 9, zI 10, zI 4751, zI 6000]
noncomputable def knows82 (e : Env) (f : Nat) (a : List V) : Option Out := match a with
  | [.agg x, .agg y, .agg z] => bif f == 82 && (isInts x [1000, 1100, 2000, 9000, 900, 1000, 36, 29, 3200, 0, 100] && (isInts y [2000, 2100, 100, 110, 3000, 3100, 50000, 60000] && isInts z [2, 0, 0, 0, 0, 210, 0, 0, 0, 0])) then some (.ret (.tup [L1, G1])) else e.pf f a
  | a => e.pf f a
noncomputable def with82 (e : Env) : Env := { e with pf := knows82 e }
theorem with82xeq (F d : Nat) : with82 (E (F + 3000) (d + 12)) = E (F + 3000) (d + 12) := by
  have h : knows82 (E (F + 3000) (d + 12)) = (E (F + 3000) (d + 12)).pf := by
    funext f a
    unfold knows82
    split
    · refine cond_or fun hb => ?_
      simp only [Bool.and_eq_true] at hb
      obtain ⟨e0, e1, e2, e3⟩ := hb
      obtain rfl := eq_of_beq e0
      rw [isInts_eq e1, isInts_eq e2, isInts_eq e3]
      exact (c82 F d).symm
    · rfl
  unfold with82
  rw [h]
theorem c39 (F d : Nat) : (E (F + 3000) (d + 15)).pf 39 [C1, S1, O1] = some (.ret (.tup [L1, G1, .bool true])) := by
  rw [E_pf, E_step, E_step, ← with82xeq]
  kernel_rfl
noncomputable def knows39 (e : Env) (f : Nat) (a : List V) : Option Out := match a with
  | [.agg x, .agg y, .agg z] => bif f == 39 && (isInts x [1000, 1100, 2000, 9000, 900, 1000, 36, 29, 3200, 0, 100] && (isInts y [2000, 2100, 100, 110, 3000, 3100, 50000, 60000] && isInts z [2, 0, 0, 0, 0, 210, 0, 0, 0, 0])) then some (.ret (.tup [L1, G1, .bool true])) else e.pf f a
  | a => e.pf f a
noncomputable def with39 (e : Env) : Env := { e with pf := knows39 e }
theorem with39xeq (F d : Nat) : with39 (E (F + 3000) (d + 15)) = E (F + 3000) (d + 15) := by
  have h : knows39 (E (F + 3000) (d + 15)) = (E (F + 3000) (d + 15)).pf := by
    funext f a
    unfold knows39
    split
    · refine cond_or fun hb => ?_
      simp only [Bool.and_eq_true] at hb
      obtain ⟨e0, e1, e2, e3⟩ := hb
      obtain rfl := eq_of_beq e0
      rw [isInts_eq e1, isInts_eq e2, isInts_eq e3]
      exact (c39 F d).symm
    · rfl
  unfold with39
  rw [h]
theorem c19 (F d : Nat) : (E (F + 3000) (d + 16)).pf 19 [C1, S1, O1] = some (.ret (.tup [L1, G1, zI 0])) := by
  rw [E_pf, ← with39xeq]
  kernel_rfl
end Go.Sim.Le


namespace Go.Sim.Le
open Go.Proofs
variable (F d : Nat)
def D1 : V := .row false 2 3 (fun u201 => (List.take 3 (List.drop ((Min.min u201 1) * 3) [(.int .i64 (0 : Int)), (.bool true), (.int .i64 (2 : Int)), (.int .i64 (0 : Int)), (.bool true), (.int .i64 (2 : Int))])))
set_option maxRecDepth 100000 in
theorem c20 : (E (F + 3000) (d + 5)).pf 20 [] = some (.ret C1) := by kernel_rfl
set_option maxRecDepth 100000 in
theorem c21 : (E (F + 3000) (d + 5)).pf 21 [] = some (.ret S1) := by kernel_rfl
set_option maxRecDepth 100000 in
theorem c22 : (E (F + 3000) (d + 20)).pf 22 [D1, .int .i64 9, .int .i64 1] = some (.ret (.tup [.int .i64 1, .int .i64 0])) := by kernel_rfl
theorem zero3 : (V.row false 3 1 (fun u36 => (List.take 1 (List.drop ((Min.min u36 2) * 1) [(V.int .i64 (0 : Int)), (.int .i64 (0 : Int)), (.int .i64 (0 : Int))])))) = sl eInt 1 (ex3 0 0 0) := by
  refine congrArg (fun g => V.row false 3 1 g) ?_
  funext i
  match i with
  | 0 => rfl
  | 1 => rfl
  | i + 2 => rw [show Min.min (i + 2) 2 = 2 by omega]; rfl
set_option maxRecDepth 100000 in
theorem s7006 : (E (F + 3000) (d + 25)).pf 6 [] = some (.ret (.bool true)) := by
  have hB3 : exC.slices.len < Big := by decide +kernel
  have hF3 : exC.slices.len < F + 3000 := by show 3 < F + 3000; omega
  have q17 := s54 (F + 3000) (d + 23)
  have q18 := s55 (F + 3000) (d + 23)
  have q15 : (E (F + 3000) (d + 24)).pf 15 [.agg (eCav exC), sl eStg 4 ⟨false, 1, fun _ => exB⟩, sl eInt 1 (ex3 0 0 0), .int .i64 1] = _ := s22 (F + 3000) (d + 9) exC ⟨false, 1, fun _ => exB⟩ (ex3 0 0 0) 1 hB3 hF3 (by decide +kernel) (by show 1 < F + 3000; omega) (by decide +kernel) (by show 3 < F + 3000; omega) (by omega)
  have herr : errP exC ⟨false, 1, fun _ => exB⟩ (decide (WtOk exC (ex3 0 0 0) 1)) = 0 := by decide +kernel
  rw [herr, if_pos rfl, show boundS exC (Sl.el ⟨false, 1, fun _ => exB⟩) ⟨ex3 0 0 0, 1⟩ (Sl.len ⟨false, 1, fun _ => exB⟩) = ⟨20000, 45000⟩ from kBound] at q15
  have q20 := c20 F (d + 19)
  have q21 := c21 F (d + 19)
  have q19 : (E (F + 3000) (d + 24)).pf 19 [C1, S1, O1] = _ := c19 F (d + 8)
  have q22 := c22 F (d + 4)
  unfold D1 at q22
  rw [E_pf, t7006]
  simp only [q17, q18, tkOut_ret, tkAgg_a, tkCons_c, tkRow_r, tkInt_i, tkNil_n]
  rw [zero3]
  rw [show ([V.agg [V.row exC.slices.nl exC.slices.len 7 fun i => eSlc (exC.slices.el i), .int .i64 exC.hold, .int .i64 exC.oil], V.row false 1 4 fun _ => [V.int .i64 exB.water, .int .i64 exB.into, .int .i64 exB.out, .int .i64 exB.blanket], sl eInt 1 (ex3 0 0 0), V.int .i64 1] : List V) = [.agg (eCav exC), sl eStg 4 ⟨false, 1, fun _ => exB⟩, sl eInt 1 (ex3 0 0 0), .int .i64 1] from rfl, q15]
  simp only [q20, q21, tkOut_ret, tkTup_t, tkAgg_a, tkCons_c, tkInt_i, tkNil_n]
  rw [q19]
  simp only [tkOut_ret, tkTup_t, tkAgg_a, tkCons_c, tkInt_i, tkNil_n]
  rw [q22]
  simp only [tkOut_ret, tkTup_t, tkAgg_a, tkCons_c, tkInt_i, tkNil_n]
  rfl
end Go.Sim.Le


namespace Go.Sim.Le
open Go.Proofs Go.Sim.Gs
variable (F d : Nat)
theorem law7003 (hF : 140737488355330 < F) (c : Cav) (l : Sl Stg) (t : Truth) (g : Gas) (s : Gst) (p : Gpt) (hC : c.slices.len ≤ 140737488355328) (hL : l.len ≤ 140737488355328) (hT : t.rates.len ≤ 140737488355328) (hnl : t.vols.nl = true → t.vols.len = 0) :
    (E (F + 3000) (d + 26)).pf 3 [.agg (eCav c), sl eStg 4 l, .agg (eTruth t), .agg (eGas g), .agg (eGst s), .agg (eGpt p)] = some (.ret (.bool true)) := by
  have q6 := s7006 F d
  have q4 : (E (F + 3000) (d + 25)).pf 4 [.agg (eCav c), sl eStg 4 l] = _ := s7004 (F + 3000) (d + 9) c l (by show _ < 4611686018427387904; omega) (by omega) (by show _ < 4611686018427387904; omega) (by omega) (by omega)
  have q5 : (E (F + 3000) (d + 25)).pf 5 [.agg (eCav c), sl eStg 4 l, .agg (eTruth t)] = _ := s47 (F + 3000) (d + 23) c l t (by show _ < 4611686018427387904; omega) (by show _ < 4611686018427387904; omega) (by omega) (by omega)
  rw [E_pf, t7003, q4]
  by_cases h1 : HolOk c l
  rotate_left
  · rw [if_neg h1]
    simp only [tkOut_ret, tkTup_t, tkCons_c, tkAgg_a, tkInt_i, tkNil_n, tkBool_b, Bool.not_false, cond_true, q6]
  rw [if_pos h1]
  simp only [tkOut_ret, tkTup_t, tkCons_c, tkAgg_a, tkInt_i, tkNil_n, tkBool_b, Bool.not_true, cond_false, q6, q5]
  by_cases h2 : (t.vols.len : Int) > 20
  · rw [decide_eq_true h2, cond_true]
  rw [decide_eq_false h2, cond_false]
  by_cases h3 : (t.rates.len : Int) > 20
  · rw [decide_eq_true h3, cond_true]
  rw [decide_eq_false h3, cond_false]
  by_cases h4 : TruthOk c l.len t
  rotate_left
  · rw [decide_eq_false h4, Bool.not_false, cond_true]
  rw [decide_eq_true h4, Bool.not_true, cond_false]
  have q7 : (E (F + 3000) (d + 25)).pf 7 [.agg (eGas { g with vol := holS c l })] = _ := s7007 (F + 2997) (d + 23) { g with vol := holS c l }
  have q8 : (E (F + 3000) (d + 25)).pf 8 [.agg (eGst s)] = _ := s7008 (F + 3000) (d + 23) s
  have q9 : (E (F + 3000) (d + 25)).pf 9 [.agg (eGst s), .agg (eGpt p)] = _ := s7009 (F + 3000) (d + 23) s p
  simp only [q7, q8, q9, tkOut_ret, tkBool_b]
  by_cases h5 : GasOk { g with vol := holS c l }
  rotate_left
  · rw [decide_eq_false h5, Bool.not_false, cond_true]
  rw [decide_eq_true h5, Bool.not_true, cond_false]
  by_cases h6 : StOk s
  rotate_left
  · rw [decide_eq_false h6, Bool.not_false, cond_true]
  rw [decide_eq_true h6, Bool.not_true, cond_false]
  by_cases h7 : HasP s p
  rotate_left
  · rw [decide_eq_false h7, Bool.not_false, cond_true]
  rw [decide_eq_true h7, Bool.not_true, cond_false]
  obtain ⟨a1, a2, a3, a4, a5, a6, a7, a8⟩ := h1
  have q10 : (E (F + 3000) (d + 25)).pf 10 [.agg (eGas { g with vol := holS c l }), .agg (eGst s)] = _ := s7010 (F + 2995) (d + 20) h5 h6
  have q11 : (E (F + 3000) (d + 25)).pf 11 [.agg (eCav c), sl eStg 4 l, .agg (eTruth t)] = _ := s7011 (F + 3000) (d + 16) a4 a3 a5 h4 (by show _ < 4611686018427387904; omega) (by omega) (by omega) (by show _ < 4611686018427387904; omega) (by omega) hnl (by omega)
  have hti := true_in a4 a5 h4 (hM c) l.len (Nat.le_refl _)
  generalize hn : trueM c l.el t (hM c) l.len = n at q11 hti
  change (hB c l).lo ≤ n ∧ n ≤ (hB c l).hi at hti
  have hlo : (holS c l).lo = (hB c l).lo / 1000000 := rfl
  have hhi : (holS c l).hi = ((hB c l).hi + 999999) / 1000000 := rfl
  simp only [q10, q11, tkOut_ret, tkTup_t, tkCons_c, tkAgg_a, tkInt_i, tkNil_n, tkBool_b, decide_true, cond_true, bne_self_eq_false, pF]
  rw [wr (n := 1000000 * (holS c l).lo) (by omega), wr (n := 1000000 * (holS c l).hi) (by omega), decide_eq_false (by omega), cond_false, decide_eq_false (by omega), cond_false]
  by_cases h8 : ruleS { g with vol := holS c l } s = 1
  rotate_left
  · rw [show (ruleS { g with vol := holS c l } s != 1) = true by simp [h8], cond_true]
  rw [h8, bne_self_eq_false, cond_false]
  have keep : ∀ v : Int, (holS c l).lo ≤ v ∧ v ≤ (holS c l).hi → (E (F + 3000) (d + 25)).pf 12 [.agg (eGas { g with vol := holS c l }), .agg (eGpt p), .int .i64 v] = some (.ret (.int .i64 1)) := by
    intro v hv
    have := s7012 (F + 3000) (d + 23) h5 p v (by omega) (by omega) (by omega) (by omega)
    rw [fine_keeps h5 h6 h8 h7 hv] at this
    exact this
  have k1 := keep (n / 1000000) (by omega)
  have k2 := keep ((n + 999999) / 1000000) (by omega)
  rw [Int.tdiv_eq_ediv_of_nonneg (show 0 ≤ n by omega), wr (n := n / 1000000) (by omega), wr (n := n + 999999) (by omega), Int.tdiv_eq_ediv_of_nonneg (show 0 ≤ n + 999999 by omega), wr (n := (n + 999999) / 1000000) (by omega)]
  simp only [k1, k2, tkOut_ret, tkInt_i, decide_true, cond_true, beq_self_eq_true, tkBool_b]
end Go.Sim.Le


namespace Go.Sim.Le
open Go.Proofs
theorem fitInt {k : IntKind} {c : V} (h : Fit (.int k) c) : ∃ n, c = .int k n ∧ k.min ≤ n ∧ n ≤ k.max := by
  cases h with
  | int h => exact ⟨_, rfl, h⟩
theorem fitL_nil {cs : List V} (h : FitL [] cs) : cs = [] := by
  have := h.1
  exact List.eq_nil_of_length_eq_zero this
theorem fitL_cons {s : Sh} {l : List Sh} {cs : List V} (h : FitL (s :: l) cs) : ∃ c cs', cs = c :: cs' ∧ Fit s c ∧ FitL l cs' := by
  obtain ⟨h1, h2⟩ := h
  cases cs with
  | nil => simp at h1
  | cons c cs' => exact ⟨c, cs', rfl, h2 0 s c rfl rfl, by simpa using h1, fun j s' c' g1 g2 => h2 (j + 1) s' c' (by simpa using g1) (by simpa using g2)⟩
theorem fitL_int {k : IntKind} {l : List Sh} {cs : List V} (h : FitL (.int k :: l) cs) : ∃ n cs', cs = .int k n :: cs' ∧ FitL l cs' := by
  obtain ⟨c, cs', rfl, h1, h2⟩ := fitL_cons h
  obtain ⟨n, rfl, _⟩ := fitInt h1
  exact ⟨n, cs', rfl, h2⟩
abbrev SlOk {α : Type} (s : Sl α) : Prop := s.len ≤ 140737488355328 ∧ (s.nl = true → s.len = 0)
theorem fitRow {α : Type} {e : α → List V} {P : α → Prop} {l : List Sh} (dec : ∀ cs, FitL l cs → ∃ a : α, cs = e a ∧ P a) {c : V} (h : Fit (.row l) c) : ∃ s : Sl α, c = sl e l.length s ∧ SlOk s ∧ ∀ i, P (s.el i) := by
  cases h with
  | row h hn hl hf =>
    rename_i nl len get
    have hx : ∀ i, ∃ a : α, get i = e a ∧ P a := fun i => dec _ ⟨hl i, hf i⟩
    refine ⟨⟨nl, len, fun i => (hx i).choose⟩, ?_, ⟨h, hn⟩, fun i => (hx i).choose_spec.2⟩
    show V.row nl len l.length get = V.row nl len l.length fun i => e (hx i).choose
    congr 1
    funext i
    exact (hx i).choose_spec.1
theorem fitL_row {α : Type} {e : α → List V} {P : α → Prop} {l r : List Sh} (dec : ∀ cs, FitL l cs → ∃ a : α, cs = e a ∧ P a) {cs : List V} (h : FitL (.row l :: r) cs) : ∃ (s : Sl α) (cs' : List V), cs = sl e l.length s :: cs' ∧ SlOk s ∧ (∀ i, P (s.el i)) ∧ FitL r cs' := by
  obtain ⟨c, cs', rfl, h1, h2⟩ := fitL_cons h
  obtain ⟨s, rfl, h3, h4⟩ := fitRow dec h1
  exact ⟨s, cs', rfl, h3, h4, h2⟩
abbrev i8 : Sh := .int .i64
abbrev shSlc : List Sh := [i8, i8, i8, i8, i8, i8, i8]
abbrev shCav : List Sh := [.row shSlc, i8, i8]
abbrev shStg : List Sh := [i8, i8, i8, i8]
abbrev shTruth : List Sh := [.row [i8], .row [.row [i8]]]
theorem decInt (cs : List V) (h : FitL [i8] cs) : ∃ n : Int, cs = eInt n ∧ I64 n := by
  obtain ⟨c, cs', rfl, h1, h2⟩ := fitL_cons h
  obtain ⟨n, rfl, m1, m2⟩ := fitInt h1
  obtain rfl := fitL_nil h2
  refine ⟨n, rfl, ?_⟩
  exact ⟨m1, m2⟩
theorem decIL (cs : List V) (h : FitL [.row [i8]] cs) : ∃ s : Sl Int, cs = eIL s ∧ SlOk s := by
  obtain ⟨s, _, rfl, h1, _, h2⟩ := fitL_row decInt h
  obtain rfl := fitL_nil h2
  exact ⟨s, rfl, h1⟩
theorem decSlc (cs : List V) (h : FitL shSlc cs) : ∃ c : Slc, cs = eSlc c ∧ True := by
  obtain ⟨a0, _, rfl, h1⟩ := fitL_int h
  obtain ⟨a1, _, rfl, h2⟩ := fitL_int h1
  obtain ⟨a2, _, rfl, h3⟩ := fitL_int h2
  obtain ⟨a3, _, rfl, h4⟩ := fitL_int h3
  obtain ⟨a4, _, rfl, h5⟩ := fitL_int h4
  obtain ⟨a5, _, rfl, h6⟩ := fitL_int h5
  obtain ⟨a6, _, rfl, h7⟩ := fitL_int h6
  obtain rfl := fitL_nil h7
  exact ⟨⟨⟨a0, a1⟩, a2, a3, ⟨a4, a5⟩, a6⟩, rfl, trivial⟩
theorem decStg (cs : List V) (h : FitL shStg cs) : ∃ c : Stg, cs = eStg c ∧ True := by
  obtain ⟨a0, _, rfl, h1⟩ := fitL_int h
  obtain ⟨a1, _, rfl, h2⟩ := fitL_int h1
  obtain ⟨a2, _, rfl, h3⟩ := fitL_int h2
  obtain ⟨a3, _, rfl, h4⟩ := fitL_int h3
  obtain rfl := fitL_nil h4
  exact ⟨⟨a0, a1, a2, a3⟩, rfl, trivial⟩
theorem decCav (cs : List V) (h : FitL shCav cs) : ∃ c : Cav, cs = eCav c ∧ SlOk c.slices := by
  obtain ⟨a, _, rfl, h0, _, h1⟩ := fitL_row decSlc h
  obtain ⟨b, _, rfl, h2⟩ := fitL_int h1
  obtain ⟨d, _, rfl, h3⟩ := fitL_int h2
  obtain rfl := fitL_nil h3
  exact ⟨⟨a, b, d⟩, rfl, h0⟩
theorem decTruth (cs : List V) (h : FitL shTruth cs) : ∃ t : Truth, cs = eTruth t ∧ SlOk t.vols ∧ SlOk t.rates ∧ ∀ i, SlOk (t.rates.el i) := by
  obtain ⟨a, _, rfl, h0, _, h1⟩ := fitL_row decInt h
  obtain ⟨b, _, rfl, h2, h3, h4⟩ := fitL_row decIL h1
  obtain rfl := fitL_nil h4
  exact ⟨⟨a, b⟩, rfl, h0, h2, h3⟩
abbrev shGas : List Sh := [i8, i8, i8, i8, i8, i8, i8, i8, i8, i8, i8]
abbrev shGst : List Sh := [i8, i8, i8, i8, i8, i8, i8, i8]
abbrev shGpt : List Sh := [i8, i8, i8, i8]
theorem decGas (cs : List V) (h : FitL shGas cs) : ∃ c, cs = eGas c ∧ True := by
  obtain ⟨a0, _, rfl, h1⟩ := fitL_int h
  obtain ⟨a1, _, rfl, h2⟩ := fitL_int h1
  obtain ⟨a2, _, rfl, h3⟩ := fitL_int h2
  obtain ⟨a3, _, rfl, h4⟩ := fitL_int h3
  obtain ⟨a4, _, rfl, h5⟩ := fitL_int h4
  obtain ⟨a5, _, rfl, h6⟩ := fitL_int h5
  obtain ⟨a6, _, rfl, h7⟩ := fitL_int h6
  obtain ⟨a7, _, rfl, h8⟩ := fitL_int h7
  obtain ⟨a8, _, rfl, h9⟩ := fitL_int h8
  obtain ⟨a9, _, rfl, h10⟩ := fitL_int h9
  obtain ⟨a10, _, rfl, h11⟩ := fitL_int h10
  obtain rfl := fitL_nil h11
  exact ⟨⟨⟨a0, a1⟩, a2, a3, a4, a5, a6, a7, a8, ⟨a9, a10⟩⟩, rfl, trivial⟩
theorem decGst (cs : List V) (h : FitL shGst cs) : ∃ c, cs = eGst c ∧ True := by
  obtain ⟨a0, _, rfl, h1⟩ := fitL_int h
  obtain ⟨a1, _, rfl, h2⟩ := fitL_int h1
  obtain ⟨a2, _, rfl, h3⟩ := fitL_int h2
  obtain ⟨a3, _, rfl, h4⟩ := fitL_int h3
  obtain ⟨a4, _, rfl, h5⟩ := fitL_int h4
  obtain ⟨a5, _, rfl, h6⟩ := fitL_int h5
  obtain ⟨a6, _, rfl, h7⟩ := fitL_int h6
  obtain ⟨a7, _, rfl, h8⟩ := fitL_int h7
  obtain rfl := fitL_nil h8
  exact ⟨⟨⟨a0, a1⟩, ⟨a2, a3⟩, ⟨a4, a5⟩, ⟨a6, a7⟩⟩, rfl, trivial⟩
theorem decGpt (cs : List V) (h : FitL shGpt cs) : ∃ c, cs = eGpt c ∧ True := by
  obtain ⟨a0, _, rfl, h1⟩ := fitL_int h
  obtain ⟨a1, _, rfl, h2⟩ := fitL_int h1
  obtain ⟨a2, _, rfl, h3⟩ := fitL_int h2
  obtain ⟨a3, _, rfl, h4⟩ := fitL_int h3
  obtain rfl := fitL_nil h4
  exact ⟨⟨a0, a1, a2, a3⟩, rfl, trivial⟩
theorem own : ownKnob Try.prog.godebug = none := by kernel_rfl
end Go.Sim.Le
