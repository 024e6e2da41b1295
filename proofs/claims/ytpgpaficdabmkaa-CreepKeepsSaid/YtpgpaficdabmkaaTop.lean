/-
  CreepKeeps holds for every input: called with any site, cavern, pressures, temperatures and number of days, the law returns true, and its arguments read behind the call as before. No condition.
-/
import Derived.Test.YtpgpaficdabmkaaAe
import Derived.KernelRfl
set_option linter.unusedVariables false
set_option linter.unusedSimpArgs false
set_option linter.unusedSectionVars false
/-
  CreepChecks: the law answers true.
-/
namespace Go.Sim.Cr
open Go.Proofs
variable (F d : Nat)
theorem s36 (s : Site) (hs : Small s F) : E F (d + 7) 36 [.agg (eSite s)] = some (.ret (.int .i64 (bif siteB s then 0 else 2))) := by
  rw [E_succ, t36]
  simp only [s48 F d s hs, tkOut_ret, tkBool_b]
  cases siteB s <;> rfl
theorem s39 (s : Site) (i : Int) (h1 : 1 ≤ s.cavs.len) (h5 : s.cavs.len ≤ 5) : E F (d + 2) 39 [.agg (eSite s), .int .i64 i] = some (.ret (.bool (decide (0 ≤ i ∧ i < (s.cavs.len : Int))))) := by
  rw [E_succ, t39]
  rw [wrLen h1 (by omega)]
  simp only [s54, tkOut_ret, tkBool_b, inLen h1]
set_option maxRecDepth 100000 in
theorem s8 (s : Site) (i j : Int) (hF : 2147483648 < F) : E F (d + 12) 8 [.agg (eSite s), .int .i64 i, .int .i64 j] = some (.ret (.bool true)) := by
  have k := s13 F d (by omega)
  rw [E_succ, t8]
  simp only [s11 F (d + 10), pOut, pBool]
  by_cases h0 : ShortS s
  · have hs := small_of F h0 (by omega)
    have e36 := s36 F (d + 4) s hs
    have e37 := s37 F (d + 4) s i j hs (by omega)
    have e24 := s24 F (d + 4) s hs (by omega)
    have e16 := s16 F (d + 8) s hs
    simp only [decide_eq_true h0, Bool.not_true, pF, e36, e37, e24, e16, pOut, pBool, pInt]
    cases h1 : siteB s with
    | false => simp only [Bool.false_and, pF, pT, pTup, pCons, pAgg, pRow, pInt, pNil, Bool.not_false, decide_true, z22, z0, z00, Bool.and_self, k, pOut, pBool]
    | true =>
      have hS := (siteB_iff s).1 h1
      have g1 := hS.cavs1
      have g5 := hS.cavs5
      have e38 := s38 F (d + 10) s g1 g5 (by omega)
      have e22 := s22 F (d + 10) (begin s) (begin s) (show s.cavs.len < 4611686018427387904 by omega) (show s.cavs.len < F by omega)
      rw [sameStt_refl] at e22
      have e39i := s39 F (d + 9) s i g1 g5
      have e39j := s39 F (d + 9) s j g1 g5
      by_cases h2 : 0 ≤ i ∧ i < (s.cavs.len : Int)
      · by_cases h3 : 0 ≤ j ∧ j < (s.cavs.len : Int)
        · by_cases h4 : i = j
          · subst h4
            simp only [Bool.true_and, decide_eq_true h2, decide_true, Bool.not_true, Bool.and_false, pF, pT, pTup, pCons, pAgg, pRow, pInt, pNil, pOut, pBool, z22, z00, bne, e38, e22, e39i, beq_self_eq_true, Bool.and_self, k]
          · obtain ⟨i, rfl⟩ := Int.eq_ofNat_of_zero_le h2.1
            obtain ⟨j, rfl⟩ := Int.eq_ofNat_of_zero_le h3.1
            have c1 := hS.cav i (by omega)
            have c2 := hS.cav j (by omega)
            have e40 := s40 F (d + 8) s i j (s.cavs.el i).rad (s.cavs.el j).rad (by omega) (by omega) c1.1 c2.1 (by omega) (by omega) hF
            have hb : ((i : Int) == (j : Int)) = false := by simpa using h4
            simp only [Bool.true_and, decide_eq_true h2, decide_eq_true h3, decide_eq_false h4, Bool.not_false, Bool.not_true, Bool.and_self, pF, pT, pTup, pCons, pAgg, pRow, pInt, pNil, pOut, pBool, decide_true, z22, z00, bne, e38, e22, e39i, e39j, hb, decide_eq_true h2.1, decide_eq_true h2.2, decide_eq_true h3.1, decide_eq_true h3.2, Int.toNat_natCast, e40, eqS2, k]
        · simp only [Bool.true_and, decide_eq_true h2, decide_eq_false h3, Bool.not_false, Bool.not_true, Bool.false_and, pF, pT, pTup, pCons, pAgg, pRow, pInt, pNil, pOut, pBool, decide_true, z22, z00, bne, e38, e22, e39i, e39j, Bool.and_self, k]
      · simp only [Bool.true_and, decide_eq_false h2, Bool.not_false, Bool.not_true, Bool.false_and, pF, pT, pTup, pCons, pAgg, pRow, pInt, pNil, pOut, pBool, decide_true, z22, z00, bne, e38, e22, e39i, Bool.and_self, k]
  · simp only [decide_eq_false h0, Bool.not_false, pT, k, pOut, pBool]
end Go.Sim.Cr

/-
  For how long a cavern can be kept; the least pressure.
-/
namespace Go.Sim.Cr
open Go.Proofs
variable (F d : Nat)
theorem l45x1 (s : Site) (c : Nat) (p q : Span) (hS : SiteF s) (hc : c < s.cavs.len) (x : Stt) (hx : SttOk x) (hF : 2147483648 < F) (m0 k : Nat) (hk : k < 100) (R : Nat)
    (hO : L45x0 (E F (d + 3)) F s (c : Int) p q m0 ((k + 1 : Nat) : Int) .i64 x.rad.lo .i64 x.rad.hi .i64 x.vol.lo .i64 x.vol.hi .i64 x.lost.lo .i64 x.lost.hi = some (.ret (.int .i64 (R : Int)))) : ∀ r j fu, s.cavs.len = j + r → r < fu →
    L45x1 (E F (d + 3)) F s (c : Int) p q m0 fu (k : Int) (j : Int) .i64 x.rad.lo .i64 x.rad.hi .i64 x.vol.lo .i64 x.vol.hi .i64 x.lost.lo .i64 x.lost.hi = some (.ret (.int .i64 ((bif anyF (nearB s c x) r j then k else R : Nat) : Int))) := by
  have h5 := hS.cavs5
  intro r
  induction r with
  | zero =>
    intro j fu h hf
    obtain ⟨fu, rfl⟩ : ∃ k, fu = k + 1 := ⟨fu - 1, by omega⟩
    rw [L45x1s]
    simp only [Int.ofNat_lt, show ¬ j < s.cavs.len by omega, decide_false, cond_false, anyF, wrS (show k < 4611686018427387904 by omega)]
    exact hO
  | succ r ih =>
    intro j fu h hf
    obtain ⟨fu, rfl⟩ : ∃ k, fu = k + 1 := ⟨fu - 1, by omega⟩
    rw [L45x1s]
    have a1 := hx.1
    have a2 := (hS.cav j (by omega)).2.1
    have p1 := (hS.cav c hc).1
    have p2 := (hS.cav j (by omega)).1
    have e40 : E F (d + 3) 40 [.agg (eSite s), .int .i64 (c : Int), .int .i64 (j : Int), .agg [.int .i64 x.rad.lo, .int .i64 x.rad.hi], .agg (eSpan (s.cavs.el j).rad)] = _ := s40 F d s c j x.rad (s.cavs.el j).rad hc (by omega) p1 p2 (by omega) (by omega) hF
    simp only [Int.ofNat_lt, show j < s.cavs.len by omega, decide_true, cond_true, Int.natCast_nonneg, Int.toNat_natCast, bneN, anyF, e40, tkOut_ret, tkAgg_a, tkCons_c, tkInt_i, tkNil_n, wrS (show j < 4611686018427387904 by omega), ih (j + 1) fu (by omega) (by omega), nearB]
    by_cases hjc : j = c
    · simp only [decide_eq_true hjc, Bool.not_true, cond_false, Bool.false_and, Bool.false_or]
    · simp only [decide_eq_false hjc, Bool.not_false, cond_true, Bool.true_and]
      cases decide (distI (s.cavs.el c) (s.cavs.el j) - x.rad.hi - (s.cavs.el j).rad.hi < s.wall) <;> simp only [cond_true, cond_false, Bool.true_or, Bool.false_or]
theorem l45x0 (s : Site) (c : Nat) (p q : Span) (hS : SiteF s) (hc : c < s.cavs.len) (hp : SpanIn p 0 50000) (hq : SpanIn q 0 10000) (hfar : farB s (s.cavs.el c) p q = false) (hF : 2147483648 < F) : ∀ (r k fu : Nat) (x : Stt), 60 = k + r → r < fu → SttOk x →
    L45x0 (E F (d + 3)) F s (c : Int) p q fu (k : Int) .i64 x.rad.lo .i64 x.rad.hi .i64 x.vol.lo .i64 x.vol.hi .i64 x.lost.lo .i64 x.lost.hi = some (.ret (.int .i64 ((keepFrom s c p q r k x : Nat) : Int))) := by
  have h5 := hS.cavs5
  intro r
  induction r with
  | zero =>
    intro k fu x h hf hx
    obtain ⟨fu, rfl⟩ : ∃ k, fu = k + 1 := ⟨fu - 1, by omega⟩
    obtain rfl : k = 60 := by omega
    rw [L45x0s]
    rfl
  | succ r ih =>
    intro k fu x h hf hx
    obtain ⟨fu, rfl⟩ : ∃ k, fu = k + 1 := ⟨fu - 1, by omega⟩
    rw [L45x0s]
    have e56 := s56 F d s c x p q hS hc hx hp hfar (by omega)
    have hm := move1xok hS hx hp.2.1 hq.2.1 hfar
    rw [decide_eq_true (show (k : Int) < 60 by omega), cond_true, show E F (d + 3) 56 _ = _ from e56]
    simp only [keepFrom, hfar, tkOut_ret, tkAgg_a, tkCons_c, tkInt_i, tkNil_n, decide_true, cond_true, cond_false, Int.toNat_natCast]
    cases decide ((move1 s (s.cavs.el c) x p q).vol.lo < (s.cavs.el c).floor) with
    | true => simp only [cond_true]
    | false =>
      simp only [cond_false]
      exact l45x1 F d s c p q hS hc (move1 s (s.cavs.el c) x p q) hm hF fu k (by omega) (keepFrom s c p q r (k + 1) (move1 s (s.cavs.el c) x p q)) (ih (k + 1) fu (move1 s (s.cavs.el c) x p q) (by omega) (by omega) hm) s.cavs.len 0 F (by omega) (by omega)
/-- The specification's 'Longest' is the program's. -/
theorem s45 (s : Site) (c : Nat) (p q : Span) (hS : SiteF s) (hc : c < s.cavs.len) (hp : SpanIn p 0 50000) (hq : SpanIn q 0 10000) (hF : 2147483648 < F) :
    E F (d + 4) 45 [.agg (eSite s), .int .i64 (c : Int), .agg (eSpan p), .agg (eSpan q)] = some (.ret (.int .i64 ((keeps s c p q 60 : Nat) : Int))) := by
  rw [E_succ, t45]
  unfold keeps
  simp only [Int.natCast_nonneg, Int.ofNat_lt, hc, decide_true, cond_true, Int.toNat_natCast, s32 F (d + 1) s c p q hS hc hp, tkOut_ret, tkBool_b]
  cases hf : farB s (s.cavs.el c) p q with
  | true =>
    simp only [cond_true]
    cases decide (p.lo < (s.cavs.el c).gate.lo) || decide (p.hi > (s.cavs.el c).gate.hi) with
    | true => rfl
    | false => simp only [cond_false, keepFrom, hf, cond_true]; rfl
  | false =>
    simp only [cond_false]
    cases decide (p.lo < (s.cavs.el c).gate.lo) with
    | true => rfl
    | false =>
      simp only [cond_false, Bool.false_or]
      cases decide (p.hi > (s.cavs.el c).gate.hi) with
      | true => rfl
      | false =>
        simp only [cond_false, s38 F (d + 2) s hS.cavs1 hS.cavs5 (by omega), tkOut_ret, tkRow_r, outL_len, Int.ofNat_lt, hc, decide_true, cond_true, beq_self_eq_true, List.take, List.length, tkCons_c, tkInt_i, tkNil_n, outL_el (T := fun i => start (s.cavs.el i)) hc]
        exact l45x0 F d s c p q hS hc hp hq hf hF 60 0 F (start (s.cavs.el c)) (by omega) (by omega) (start_ok hS hc)
theorem keepFrom_ge {s : Site} {c : Nat} {p q : Span} : ∀ n k x, k ≤ keepFrom s c p q n k x := by
  intro n
  induction n with
  | zero => intro k x; exact Nat.le_refl _
  | succ n ih =>
    intro k x
    unfold keepFrom
    cases farB s (s.cavs.el c) p q
    · rw [cond_false]
      cases decide ((move1 s (s.cavs.el c) x p q).vol.lo < (s.cavs.el c).floor)
      · rw [cond_false]
        cases anyF (nearB s c (move1 s (s.cavs.el c) x p q)) s.cavs.len 0
        · rw [cond_false]; have := ih (k + 1) (move1 s (s.cavs.el c) x p q); omega
        · exact Nat.le_refl _
      · exact Nat.le_refl _
    · exact Nat.le_refl _
theorem keepFrom_le {s : Site} {c : Nat} {p q : Span} : ∀ n k x, keepFrom s c p q n k x ≤ k + n := by
  intro n
  induction n with
  | zero => intro k x; exact Nat.le_refl _
  | succ n ih =>
    intro k x
    unfold keepFrom
    cases farB s (s.cavs.el c) p q
    · rw [cond_false]
      cases decide ((move1 s (s.cavs.el c) x p q).vol.lo < (s.cavs.el c).floor)
      · rw [cond_false]
        cases anyF (nearB s c (move1 s (s.cavs.el c) x p q)) s.cavs.len 0
        · rw [cond_false]; have := ih (k + 1) (move1 s (s.cavs.el c) x p q); omega
        · rw [cond_true]; omega
      · rw [cond_true]; omega
    · rw [cond_true]; omega
/-- To be kept for so many days, looked at for longer, is the same. -/
theorem keepFrom_cap {s : Site} {c : Nat} {p q : Span} : ∀ n m k x, n ≤ m → (k + n ≤ keepFrom s c p q n k x ↔ k + n ≤ keepFrom s c p q m k x) := by
  intro n
  induction n with
  | zero => intro m k x _; have := @keepFrom_ge s c p q 0 k x; have := @keepFrom_ge s c p q m k x; omega
  | succ n ih =>
    intro m k x hm
    obtain ⟨m, rfl⟩ : ∃ j, m = j + 1 := ⟨m - 1, by omega⟩
    unfold keepFrom
    cases farB s (s.cavs.el c) p q
    · rw [cond_false, cond_false]
      cases decide ((move1 s (s.cavs.el c) x p q).vol.lo < (s.cavs.el c).floor)
      · rw [cond_false, cond_false]
        cases anyF (nearB s c (move1 s (s.cavs.el c) x p q)) s.cavs.len 0
        · rw [cond_false, cond_false]
          have := ih m (k + 1) (move1 s (s.cavs.el c) x p q) (by omega)
          rw [show k + (n + 1) = k + 1 + n by omega]
          exact this
        · exact Iff.rfl
      · exact Iff.rfl
    · exact Iff.rfl
theorem keeps_cap {s : Site} {c : Nat} {p q : Span} {n m : Nat} (h : n ≤ m) (hn : 0 < n) : n ≤ keeps s c p q n ↔ n ≤ keeps s c p q m := by
  unfold keeps
  cases decide (p.lo < (s.cavs.el c).gate.lo) || decide (p.hi > (s.cavs.el c).gate.hi)
  · rw [cond_false, cond_false]
    have := @keepFrom_cap s c p q n m 0 (start (s.cavs.el c)) h
    rw [Nat.zero_add] at this
    exact this
  · exact Iff.rfl
/-- A greater pressure, up to the rock, keeps a cavern for longer. -/
theorem keepFrom_mono {s : Site} (hS : SiteF s) {c : Nat} (hc : c < s.cavs.len) {a b : Int} {q : Span} (hab : a ≤ b) (hb : b ≤ (s.cavs.el c).rock) (hq : q.lo ≤ q.hi) : ∀ n k x y, SttOk x → SttOk y → y.rad.hi ≤ x.rad.hi → x.vol.lo ≤ y.vol.lo →
    keepFrom s c ⟨a, a⟩ q n k x ≤ keepFrom s c ⟨b, b⟩ q n k y := by
  intro n
  induction n with
  | zero => intro k x y _ _ _ _; exact Nat.le_refl _
  | succ n ih =>
    intro k x y hx hy h1 h2
    have hg := @keepFrom_ge s c ⟨b, b⟩ q (n + 1) k y
    cases hf : farB s (s.cavs.el c) ⟨a, a⟩ q with
    | true => rw [keepFrom, hf, cond_true]; exact hg
    | false =>
      have hfb : farB s (s.cavs.el c) ⟨b, b⟩ q = false := by
        have h0 : rowN s 0 = 0 := by
          have := hS.row 0 (by have := hS.rows1; omega)
          simp only [rowB, rowStep, Bool.and_eq_true, decide_eq_true_iff] at this
          exact this.2.2.2
        unfold farB offB at hf ⊢
        simp only [Bool.or_eq_false_iff, decide_eq_false_iff_not] at hf ⊢
        omega
      obtain ⟨ra1, ra2, ra3, ra4, ra5, ra6⟩ := rates_ok hS hf
      obtain ⟨rb1, rb2, rb3, rb4, rb5, rb6⟩ := rates_ok hS hfb
      obtain ⟨f1, _⟩ := far_split hf
      obtain ⟨o1, o2⟩ := not_off f1
      have n1 := hS.rows1
      have b1 := (@firstIx_ok (rowN s) ((s.cavs.el c).rock - a) s.rows.len 0 n1 (by rw [Nat.zero_add]; omega)).2.1
      have u := hS.rowUp (firstIx_mono (num := rowN s) (x := (s.cavs.el c).rock - b) (y := (s.cavs.el c).rock - a) n1 o2 (by omega) hS.incRow) (by omega)
      have ur : (rateOf s (s.cavs.el c) ⟨b, b⟩).hi ≤ (rateOf s (s.cavs.el c) ⟨a, a⟩).hi := u.1.2
      have uf : (fallOf s (s.cavs.el c) ⟨b, b⟩).hi ≤ (fallOf s (s.cavs.el c) ⟨a, a⟩).hi := u.2.2
      have hxm := move1xok hS hx (Int.le_refl a) hq hf
      have hym := move1xok hS hy (Int.le_refl b) hq hfb
      have m1 : (move1 s (s.cavs.el c) y ⟨b, b⟩ q).rad.hi ≤ (move1 s (s.cavs.el c) x ⟨a, a⟩ q).rad.hi := by
        show minI _ 400000 ≤ minI _ 400000
        unfold minI; split <;> split <;> omega
      have m2 : (move1 s (s.cavs.el c) x ⟨a, a⟩ q).vol.lo ≤ (move1 s (s.cavs.el c) y ⟨b, b⟩ q).vol.lo := by
        have s1 := @shrink_rest x.vol.lo y.vol.lo (rateOf s (s.cavs.el c) ⟨a, a⟩).hi (factorOf s q).hi 999999999 h2 ra2 ra6
        have s2 := @shrink_mono y.vol.lo y.vol.lo (rateOf s (s.cavs.el c) ⟨b, b⟩).hi (rateOf s (s.cavs.el c) ⟨a, a⟩).hi (factorOf s q).hi (factorOf s q).hi 999999999 999999999 (by omega) (by omega) (by omega) ur (by omega) (by omega) (by omega)
        show x.vol.lo - _ ≤ y.vol.lo - _
        omega
      have hg1 := @keepFrom_ge s c ⟨b, b⟩ q n (k + 1) (move1 s (s.cavs.el c) y ⟨b, b⟩ q)
      have hr := ih (k + 1) _ _ hxm hym m1 m2
      unfold keepFrom
      rw [hf, hfb, cond_false, cond_false]
      by_cases c1 : (move1 s (s.cavs.el c) x ⟨a, a⟩ q).vol.lo < (s.cavs.el c).floor
      · rw [decide_eq_true c1, cond_true]
        rw [keepFrom, hfb, cond_false] at hg
        exact hg
      · rw [decide_eq_false c1, decide_eq_false (by omega : ¬ (move1 s (s.cavs.el c) y ⟨b, b⟩ q).vol.lo < (s.cavs.el c).floor), cond_false, cond_false]
        cases c2 : anyF (nearB s c (move1 s (s.cavs.el c) x ⟨a, a⟩ q)) s.cavs.len 0 with
        | true =>
          rw [cond_true]
          cases anyF (nearB s c (move1 s (s.cavs.el c) y ⟨b, b⟩ q)) s.cavs.len 0
          · rw [cond_false]; omega
          · exact Nat.le_refl _
        | false =>
          have c3 : anyF (nearB s c (move1 s (s.cavs.el c) y ⟨b, b⟩ q)) s.cavs.len 0 = false := by
            cases e : anyF (nearB s c (move1 s (s.cavs.el c) y ⟨b, b⟩ q)) s.cavs.len 0 with
            | false => rfl
            | true =>
              obtain ⟨j, j1, j2, j3⟩ := (anyF_eq _ _ _).1 e
              have : anyF (nearB s c (move1 s (s.cavs.el c) x ⟨a, a⟩ q)) s.cavs.len 0 = true := by
                refine (anyF_eq _ _ _).2 ⟨j, j1, j2, ?_⟩
                simp only [nearB, Bool.and_eq_true, decide_eq_true_iff] at j3 ⊢
                exact ⟨j3.1, by omega⟩
              rw [c2] at this
              cases this
          rw [c3, cond_false, cond_false]
          exact hr
end Go.Sim.Cr

/-
  The least pressure: both searches find it.
-/
namespace Go.Sim.Cr
open Go.Proofs
variable (F d : Nat)
theorem keeps_mono {s : Site} (hS : SiteF s) {c : Nat} (hc : c < s.cavs.len) {a b : Int} {q : Span} (hab : a ≤ b) (hb : b ≤ (s.cavs.el c).rock) (hg : b ≤ (s.cavs.el c).gate.hi) (hl : (s.cavs.el c).gate.lo ≤ a) (hq : q.lo ≤ q.hi) (n : Nat) : keeps s c ⟨a, a⟩ q n ≤ keeps s c ⟨b, b⟩ q n := by
  unfold keeps
  rw [show (decide (a < (s.cavs.el c).gate.lo) || decide (a > (s.cavs.el c).gate.hi)) = false by simp; omega, show (decide (b < (s.cavs.el c).gate.lo) || decide (b > (s.cavs.el c).gate.hi)) = false by simp; omega, cond_false, cond_false]
  exact keepFrom_mono hS hc hab hb hq n 0 _ _ (start_ok hS hc) (start_ok hS hc) (Int.le_refl _) (Int.le_refl _)
/-- The greatest pressure that is of use. -/
abbrev mostP (c : Cav) : Int := if c.rock < c.gate.hi then c.rock else c.gate.hi
/-- The least pressure at which a cavern can be kept for so many days. -/
def IsLeast (s : Site) (c : Nat) (q : Span) (n : Nat) (r : Int) : Prop :=
  (s.cavs.el c).gate.lo ≤ r ∧ r ≤ mostP (s.cavs.el c) ∧ n ≤ keeps s c ⟨r, r⟩ q 60 ∧ ∀ x, (s.cavs.el c).gate.lo ≤ x → x < r → keeps s c ⟨x, x⟩ q 60 < n
def NoLeast (s : Site) (c : Nat) (q : Span) (n : Nat) : Prop := ∀ x, (s.cavs.el c).gate.lo ≤ x → x ≤ mostP (s.cavs.el c) → keeps s c ⟨x, x⟩ q 60 < n
theorem least_uniq {s : Site} {c : Nat} {q : Span} {n : Nat} {r r' : Int} (h : IsLeast s c q n r) (h' : IsLeast s c q n r') : r = r' := by
  rcases Int.lt_trichotomy r r' with h1 | h1 | h1
  · have := h'.2.2.2 r h.1 h1; have := h.2.2.1; omega
  · exact h1
  · have := h.2.2.2 r' h'.1 h1; have := h'.2.2.1; omega
theorem least_no {s : Site} {c : Nat} {q : Span} {n : Nat} {r : Int} (h : IsLeast s c q n r) (h' : NoLeast s c q n) : False := by
  have := h' r h.1 h.2.1; have := h.2.2.1; omega
/-- A number on whose left nothing holds. -/
theorem least_of {s : Site} (hS : SiteF s) {c : Nat} (hc : c < s.cavs.len) {q : Span} (hq : q.lo ≤ q.hi) {n : Nat} {r : Int} (h1 : (s.cavs.el c).gate.lo ≤ r) (h2 : r ≤ mostP (s.cavs.el c) + 1)
    (h3 : r ≤ mostP (s.cavs.el c) → n ≤ keeps s c ⟨r, r⟩ q 60) (h4 : (s.cavs.el c).gate.lo < r → keeps s c ⟨r - 1, r - 1⟩ q 60 < n) :
    (r ≤ mostP (s.cavs.el c) → IsLeast s c q n r) ∧ (r > mostP (s.cavs.el c) → NoLeast s c q n) := by
  have key : ∀ x, (s.cavs.el c).gate.lo ≤ x → x < r → keeps s c ⟨x, x⟩ q 60 < n := by
    intro x hx1 hx2
    have g1 : mostP (s.cavs.el c) ≤ (s.cavs.el c).rock := by unfold mostP; split <;> omega
    have g2 : mostP (s.cavs.el c) ≤ (s.cavs.el c).gate.hi := by unfold mostP; split <;> omega
    have m := keeps_mono hS hc (a := x) (b := r - 1) (q := q) (by omega) (by omega) (by omega) hx1 hq 60
    have := h4 (by omega)
    omega
  refine ⟨fun h => ⟨h1, h, h3 h, key⟩, fun h x hx1 hx2 => key x hx1 (by omega)⟩
theorem s77 (s : Site) (c : Nat) (p : Int) (q : Span) (N : Nat) (hN : N ≤ 60) (hS : SiteF s) (hc : c < s.cavs.len) (hp : 0 ≤ p ∧ p ≤ 50000) (hq : SpanIn q 0 10000) (hF : 67108864 < F) :
    E F (d + 8) 77 [.int .i64 p, .rptr 1 1 (fun _ => [pSite s]) 0 0, .rptr 1 1 (fun _ => [.int .i64 (c : Int)]) 0 0, .rptr 1 2 (fun _ => eSpan q) 0 0, .rptr 1 1 (fun _ => [.int .i64 (N : Int)]) 0 0] = some (.ret (.bool (decide (N ≤ keeps s c ⟨p, p⟩ q N)))) := by
  have e75 : E F (d + 7) 75 [pSite s, .int .i64 (c : Int), .agg [.int .i64 p, .int .i64 p], .agg (eSpan q), .int .i64 (N : Int)] = _ := s75 F d s c ⟨p, p⟩ q N hN hS hc ⟨hp.1, Int.le_refl _, hp.2⟩ hq hF
  rw [E_succ, t77]
  simp only [e75, tkOut_ret, tkInt_i, decide_true, cond_true]
  refine b3 ?_
  apply b2
  simp only [decide_eq_true_iff]
  omega
theorem mostP_ok {s : Site} (hS : SiteF s) {c : Nat} (hc : c < s.cavs.len) : 0 ≤ mostP (s.cavs.el c) ∧ mostP (s.cavs.el c) ≤ 50000 ∧ 0 ≤ (s.cavs.el c).gate.lo ∧ (s.cavs.el c).gate.lo ≤ 50000 := by
  have := hS.cav c hc
  unfold mostP
  split <;> omega
/-- What 'Least' answers behind its checks. -/
theorem s76l (s : Site) (c : Nat) (q : Span) (N : Nat) (h0 : 0 < N) (hN : N ≤ 60) (hS : SiteF s) (hc : c < s.cavs.len) (hq : SpanIn q 0 10000) (hF : 67108864 < F) :
    ∃ r, E F (d + 9) 76 [.int .i64 (s.cavs.el c).gate.lo, .int .i64 (mostP (s.cavs.el c) + 1), .fn (.func 77) [] [.rptr 1 1 (fun _ => [pSite s]) 0 0, .rptr 1 1 (fun _ => [.int .i64 (c : Int)]) 0 0, .rptr 1 2 (fun _ => eSpan q) 0 0, .rptr 1 1 (fun _ => [.int .i64 (N : Int)]) 0 0]] = some (.ret (.int .i64 r)) ∧
      ((r ≤ mostP (s.cavs.el c) ∧ IsLeast s c q N r) ∨ (r > mostP (s.cavs.el c) ∧ NoLeast s c q N)) := by
  obtain ⟨a1, a2, a3, a4⟩ := mostP_ok hS hc
  rw [E_succ, t7604]
  by_cases hlt : (s.cavs.el c).gate.lo ≤ mostP (s.cavs.el c) + 1
  · obtain ⟨r, e, r1, r2, r3, r4⟩ := firstLaw (fun fu i j => L7604x0 (E F (d + 8)) F (s.cavs.el c).gate.lo (mostP (s.cavs.el c) + 1) s (c : Int) (N : Int) q fu i j) (fun x => decide (N ≤ keeps s c ⟨x, x⟩ q N)) (s.cavs.el c).gate.lo (mostP (s.cavs.el c) + 1)
      (fun fu i j h1 h2 h3 => by
        show L7604x0 _ _ _ _ _ _ _ _ (fu + 1) i j = _
        rw [L7604x0s, mid_wr (by omega) h2 (by omega)]
        by_cases hij : i < j
        · rw [wr (n := i + (j - i) / 2 + 1) (by omega)]
          simp only [decide_eq_true hij, cond_true, s77 F d s c (i + (j - i) / 2) q N hN hS hc (by omega) hq hF, tkOut_ret, tkBool_b]
        · rw [decide_eq_false hij, cond_false, cond_false])
      60000 F (s.cavs.el c).gate.lo (mostP (s.cavs.el c) + 1) (by omega) (by omega) (Int.le_refl _) hlt (Int.le_refl _)
    have cap : ∀ x, N ≤ keeps s c ⟨x, x⟩ q N ↔ N ≤ keeps s c ⟨x, x⟩ q 60 := fun x => keeps_cap hN h0
    obtain ⟨l1, l2⟩ := least_of hS hc (q := q) hq.2.1 (n := N) (r := r) r1 r2 (fun h => (cap r).1 (of_decide_eq_true (r3 (by omega)))) (fun h => by
      have := of_decide_eq_false (r4 h)
      have c1 := cap (r - 1)
      omega)
    refine ⟨r, e, ?_⟩
    by_cases hr : r ≤ mostP (s.cavs.el c)
    · exact .inl ⟨hr, l1 hr⟩
    · exact .inr ⟨by omega, l2 (by omega)⟩
  · obtain ⟨fu, hfu⟩ : ∃ k, F = k + 1 := ⟨F - 1, by omega⟩
    refine ⟨(s.cavs.el c).gate.lo, ?_, .inr ⟨by omega, fun x h1 h2 => by omega⟩⟩
    have g := L7604x0s (E F (d + 8)) F (s.cavs.el c).gate.lo (mostP (s.cavs.el c) + 1) s (c : Int) (N : Int) q fu (s.cavs.el c).gate.lo (mostP (s.cavs.el c) + 1)
    rw [decide_eq_false (show ¬ (s.cavs.el c).gate.lo < mostP (s.cavs.el c) + 1 by omega), cond_false, ← hfu] at g
    exact g
/-- What 'Least' answers. -/
theorem s42 (s : Site) (c : Int) (q : Span) (n : Int) (hs : Small s F) (hF : 67108864 < F) :
    (n > 60 → E F (d + 10) 42 [.agg (eSite s), .int .i64 c, .agg (eSpan q), .int .i64 n] = some (.ret (.tup [.int .i64 0, .int .i64 3]))) ∧
    (¬ n > 60 → ¬ (siteB s = true ∧ (0 ≤ c ∧ c < (s.cavs.len : Int)) ∧ SpanIn q 0 10000 ∧ 0 ≤ n) → E F (d + 10) 42 [.agg (eSite s), .int .i64 c, .agg (eSpan q), .int .i64 n] = some (.ret (.tup [.int .i64 0, .int .i64 2]))) ∧
    (SiteF s → (0 ≤ c ∧ c < (s.cavs.len : Int)) → SpanIn q 0 10000 → n = 0 → E F (d + 10) 42 [.agg (eSite s), .int .i64 c, .agg (eSpan q), .int .i64 n] = some (.ret (.tup [.int .i64 0, .int .i64 0]))) ∧
    (SiteF s → (0 ≤ c ∧ c < (s.cavs.len : Int)) → SpanIn q 0 10000 → 0 < n → n ≤ 60 →
      (∃ r, E F (d + 10) 42 [.agg (eSite s), .int .i64 c, .agg (eSpan q), .int .i64 n] = some (.ret (.tup [.int .i64 r, .int .i64 0])) ∧ IsLeast s c.toNat q n.toNat r) ∨
      (E F (d + 10) 42 [.agg (eSite s), .int .i64 c, .agg (eSpan q), .int .i64 n] = some (.ret (.tup [.int .i64 0, .int .i64 5])) ∧ NoLeast s c.toNat q n.toNat)) := by
  rw [E_succ, t42]
  refine ⟨fun h => by rw [decide_eq_true h, cond_true], ?_, ?_, ?_⟩
  · intro h hx
    simp only [decide_eq_false h, cond_false, s48 F (d + 3) s hs, s72, s74, tkOut_ret, tkBool_b]
    cases h1 : siteB s with
    | false => rfl
    | true =>
      have hS := (siteB_iff s).1 h1
      have h5 := hS.cavs5
      rw [wrLen hS.cavs1 (by omega), inLen hS.cavs1]
      by_cases h2 : 0 ≤ c ∧ c < (s.cavs.len : Int)
      · by_cases h3 : SpanIn q 0 10000
        · have h4 : n < 0 := by
            rcases Int.lt_or_le n 0 with h4 | h4
            · exact h4
            · exact (hx ⟨h1, h2, h3, h4⟩).elim
          simp only [decide_eq_true h2, decide_eq_true h3, decide_eq_true h4, Bool.not_true, cond_false, cond_true]
        · simp only [decide_eq_true h2, decide_eq_false h3, Bool.not_true, Bool.not_false, cond_false, cond_true]
      · simp only [decide_eq_false h2, Bool.not_true, Bool.not_false, cond_false, cond_true]
  · intro hS h2 h3 hn
    subst hn
    have h5 := hS.cavs5
    have h1 := (siteB_iff s).2 hS
    simp only [show decide ((0 : Int) > 60) = false from rfl, cond_false, s48 F (d + 3) s hs, h1, s72, s74, tkOut_ret, tkBool_b]
    rw [wrLen hS.cavs1 (by omega), inLen hS.cavs1]
    simp only [decide_eq_true h2, decide_eq_true h3, Bool.not_true, cond_false]
    rfl
  · intro hS h2 h3 hn0 hn
    obtain ⟨c, rfl⟩ := Int.eq_ofNat_of_zero_le h2.1
    obtain ⟨n, rfl⟩ := Int.eq_ofNat_of_zero_le (show 0 ≤ n by omega)
    have h5 := hS.cavs5
    have h1 := (siteB_iff s).2 hS
    have hm := mostP_ok hS (show c < s.cavs.len by omega)
    obtain ⟨r, e, hr⟩ := s76l F d s c q n (by omega) (by omega) hS (by omega) h3 hF
    have hz : ((n : Int) == 0) = false := by simp; omega
    have ew : IntKind.i64.wrap (mostP (s.cavs.el c) + 1) = mostP (s.cavs.el c) + 1 := wr (by omega)
    rw [Int.toNat_natCast, Int.toNat_natCast]
    simp only [decide_eq_false (show ¬ (n : Int) > 60 by omega), cond_false, s48 F (d + 3) s hs, h1, s72, s74, tkOut_ret, tkBool_b, hz, decide_eq_false (show ¬ (n : Int) < 0 by omega)]
    rw [wrLen hS.cavs1 (by omega), inLen hS.cavs1]
    simp only [decide_eq_true h2, decide_eq_true h3, decide_eq_true h2.1, decide_eq_true h2.2, Bool.not_true, cond_false, cond_true, Int.toNat_natCast]
    rw [ew, e]
    simp only [tkOut_ret, tkInt_i, decide_true, cond_true]
    rcases hr with ⟨hr, hl⟩ | ⟨hr, hl⟩
    · left
      refine ⟨r, ?_, hl⟩
      rw [decide_eq_false (show ¬ r > mostP (s.cavs.el c) by omega), cond_false]
    · right
      refine ⟨?_, hl⟩
      rw [decide_eq_true hr, cond_true]
/-- The specification's search. -/
theorem l44 (s : Site) (c : Nat) (q : Span) (N : Nat) (hS : SiteF s) (hc : c < s.cavs.len) (hq : SpanIn q 0 10000) (hF : 2147483648 < F) : ∀ k fu (i j : Int), (j - i).toNat ≤ k → k < fu → (s.cavs.el c).gate.lo ≤ i → i ≤ j → j ≤ mostP (s.cavs.el c) →
    N ≤ keeps s c ⟨j, j⟩ q 60 → ((s.cavs.el c).gate.lo < i → keeps s c ⟨i - 1, i - 1⟩ q 60 < N) → ∃ r, L44x0 (E F (d + 4)) F s (c : Int) q (N : Int) fu i j = some (.ret (.int .i64 r)) ∧ IsLeast s c q N r := by
  obtain ⟨a1, a2, a3, a4⟩ := mostP_ok hS hc
  intro k
  induction k with
  | zero =>
    intro fu i j h hf h1 h2 h3 h4 h5
    obtain ⟨fu, rfl⟩ : ∃ k, fu = k + 1 := ⟨fu - 1, by omega⟩
    obtain rfl : i = j := by omega
    refine ⟨i, ?_, (least_of hS hc hq.2.1 h1 (by omega) (fun _ => h4) h5).1 h3⟩
    rw [L44x0s, decide_eq_false (by omega), cond_false]
  | succ k ih =>
    intro fu i j h hf h1 h2 h3 h4 h5
    obtain ⟨fu, rfl⟩ : ∃ k, fu = k + 1 := ⟨fu - 1, by omega⟩
    by_cases hij : i < j
    · have w1 : IntKind.i64.wrap (i + j) = i + j := wr (by omega)
      have w2 : IntKind.i64.wrap ((i + j).tdiv 2) = (i + j) / 2 := by rw [Int.tdiv_eq_ediv_of_nonneg (by omega)]; exact wr (by omega)
      have w3 : IntKind.i64.wrap ((i + j) / 2 + 1) = (i + j) / 2 + 1 := wr (by omega)
      have e45 : E F (d + 4) 45 [.agg (eSite s), .int .i64 (c : Int), .agg [.int .i64 ((i + j) / 2), .int .i64 ((i + j) / 2)], .agg (eSpan q)] = _ := s45 F d s c ⟨(i + j) / 2, (i + j) / 2⟩ q hS hc ⟨by show 0 ≤ (i + j) / 2; omega, Int.le_refl _, by show (i + j) / 2 ≤ 50000; omega⟩ hq hF
      rw [L44x0s, decide_eq_true hij, cond_true, w1, w2, w3, e45]
      simp only [tkOut_ret, tkInt_i, decide_true, cond_true]
      by_cases hk : N ≤ keeps s c ⟨(i + j) / 2, (i + j) / 2⟩ q 60
      · rw [decide_eq_true (show ((keeps s c ⟨(i + j) / 2, (i + j) / 2⟩ q 60 : Nat) : Int) ≥ (N : Int) by omega), cond_true]
        exact ih fu i ((i + j) / 2) (by omega) (by omega) h1 (by omega) (by omega) hk h5
      · rw [decide_eq_false (show ¬ ((keeps s c ⟨(i + j) / 2, (i + j) / 2⟩ q 60 : Nat) : Int) ≥ (N : Int) by omega), cond_false]
        exact ih fu ((i + j) / 2 + 1) j (by omega) (by omega) (by omega) (by omega) h3 h4 (fun _ => by rw [show (i + j) / 2 + 1 - 1 = (i + j) / 2 by omega]; omega)
    · obtain rfl : i = j := by omega
      refine ⟨i, ?_, (least_of hS hc hq.2.1 h1 (by omega) (fun _ => h4) h5).1 h3⟩
      rw [L44x0s, decide_eq_false (by omega), cond_false]
theorem s44 (s : Site) (c : Nat) (q : Span) (N : Nat) (hS : SiteF s) (hc : c < s.cavs.len) (hq : SpanIn q 0 10000) (hF : 2147483648 < F) :
    (N = 0 → E F (d + 5) 44 [.agg (eSite s), .int .i64 (c : Int), .agg (eSpan q), .int .i64 (N : Int)] = some (.ret (.int .i64 0))) ∧
    (0 < N → (∃ r, E F (d + 5) 44 [.agg (eSite s), .int .i64 (c : Int), .agg (eSpan q), .int .i64 (N : Int)] = some (.ret (.int .i64 r)) ∧ IsLeast s c q N r) ∨
      (E F (d + 5) 44 [.agg (eSite s), .int .i64 (c : Int), .agg (eSpan q), .int .i64 (N : Int)] = some (.ret (.int .i64 (-1))) ∧ NoLeast s c q N)) := by
  obtain ⟨a1, a2, a3, a4⟩ := mostP_ok hS hc
  rw [E_succ, t44]
  refine ⟨fun h => by subst h; rfl, fun h0 => ?_⟩
  have hz : ((N : Int) == 0) = false := by simp; omega
  have e45 : E F (d + 4) 45 [.agg (eSite s), .int .i64 (c : Int), .agg [.int .i64 (mostP (s.cavs.el c)), .int .i64 (mostP (s.cavs.el c))], .agg (eSpan q)] = _ := s45 F d s c ⟨mostP (s.cavs.el c), mostP (s.cavs.el c)⟩ q hS hc ⟨a1, Int.le_refl _, a2⟩ hq hF
  simp only [hz, cond_false, Int.natCast_nonneg, Int.ofNat_lt, hc, decide_true, cond_true, Int.toNat_natCast]
  by_cases hg : (s.cavs.el c).gate.lo > mostP (s.cavs.el c)
  · right
    refine ⟨?_, fun x h1 h2 => by omega⟩
    rw [show decide ((s.cavs.el c).gate.lo > if (s.cavs.el c).rock < (s.cavs.el c).gate.hi then (s.cavs.el c).rock else (s.cavs.el c).gate.hi) = true from decide_eq_true hg, cond_true]
  · rw [show decide ((s.cavs.el c).gate.lo > if (s.cavs.el c).rock < (s.cavs.el c).gate.hi then (s.cavs.el c).rock else (s.cavs.el c).gate.hi) = false from decide_eq_false hg, cond_false, e45]
    simp only [tkOut_ret, tkInt_i, decide_true, cond_true]
    by_cases hk : N ≤ keeps s c ⟨mostP (s.cavs.el c), mostP (s.cavs.el c)⟩ q 60
    · left
      rw [decide_eq_false (show ¬ ((keeps s c ⟨mostP (s.cavs.el c), mostP (s.cavs.el c)⟩ q 60 : Nat) : Int) < (N : Int) by omega), cond_false]
      exact l44 F d s c q N hS hc hq hF 60000 F (s.cavs.el c).gate.lo (mostP (s.cavs.el c)) (by omega) (by omega) (Int.le_refl _) (by omega) (Int.le_refl _) hk (fun h => by omega)
    · right
      refine ⟨?_, fun x h1 h2 => ?_⟩
      · rw [decide_eq_true (show ((keeps s c ⟨mostP (s.cavs.el c), mostP (s.cavs.el c)⟩ q 60 : Nat) : Int) < (N : Int) by omega), cond_true]
      · have g1 : mostP (s.cavs.el c) ≤ (s.cavs.el c).rock := by unfold mostP; split <;> omega
        have g2 : mostP (s.cavs.el c) ≤ (s.cavs.el c).gate.hi := by unfold mostP; split <;> omega
        have := keeps_mono hS hc (a := x) (b := mostP (s.cavs.el c)) (q := q) h2 g1 g2 h1 hq.2.1 60
        omega
end Go.Sim.Cr

/-
  What the evaluator says of these functions (printed by a private program; each row is checked by the kernel).
-/
set_option maxRecDepth 100000
namespace Go.Sim.Cr
open Go.Proofs

theorem t9 (env : Env) (F : Nat) (s : Site) (c : Int) (p : Span) (q : Span) (n : Int) : (evFun Try.prog (cfg F) env 9 [(.agg (eSite s)), (.int .i64 c), (.agg (eSpan p)), (.agg (eSpan q)), (.int .i64 n)]) =
  (tkOut (env 11 [(.agg (eSite s))]) none (fun v7 => (tkBool v7 none fun b8 => (bif (!b8) then (tkOut (env 13 []) none (fun v9 => (tkBool v9 none fun b10 => some (.ret (.bool b10))))
        (fun p9 => (tkIfc p9 none fun t10 x11 => (bif (flatP (.iface t10 x11)) then some (.pan (.iface t10 x11))
            else none))))
      else (tkOut (env 41 [(.agg (eSite s)), (.int .i64 c), (.agg (eSpan p)), (.agg (eSpan q))]) none (fun v9 => (tkTup v9 none fun l10 => (tkCons l10 none fun v11 r12 => (tkInt v11 none fun q13 n14 => (tkCons r12 none fun v15 r16 => (tkInt v15 none fun q17 n18 => (tkNil r16 none ((tkOut (env 42 [(.agg (eSite s)), (.int .i64 c), (.agg (eSpan q)), (.int .i64 n)]) none (fun v19 => (tkTup v19 none fun l20 => (tkCons l20 none fun v21 r22 => (tkInt v21 none fun q23 n24 => (tkCons r22 none fun v25 r26 => (tkInt v25 none fun q27 n28 => (tkNil r26 none ((tkOut (env 16 [(.agg (eSite s))]) none (fun v29 => (tkBool v29 none fun b30 => (bif b30 then (tkOut (env 39 [(.agg (eSite s)), (.int .i64 c)]) none (fun v31 => (tkBool v31 none fun b32 => (bif b32 then (tkOut (env 43 [(.agg (eSpan q)), (.int .i64 (0 : Int)), (.int .i64 (10000 : Int))]) none (fun v33 => (tkBool v33 none fun b34 => (bif (decide (n > (60 : Int))) then (bif (decide (q27 = .i64)) then (bif (n28 != (3 : Int)) then some (.ret (.bool false))
                                                        else (bif (decide (q23 = .i64)) then (bif (n24 != (0 : Int)) then some (.ret (.bool false))
                                                            else (bif (!b34) then (bif (decide (q17 = .i64)) then (bif (n18 == (2 : Int)) then (bif (decide (q13 = .i64)) then (bif (n14 == (0 : Int)) then (tkOut (env 13 []) none (fun v35 => (tkBool v35 none fun b36 => some (.ret (.bool b36))))
                                                                        (fun p35 => (tkIfc p35 none fun t36 x37 => (bif (flatP (.iface t36 x37)) then some (.pan (.iface t36 x37))
                                                                            else none))))
                                                                      else some (.ret (.bool false)))
                                                                    else none)
                                                                  else some (.ret (.bool false)))
                                                                else none)
                                                              else (tkOut (env 43 [(.agg (eSpan p)), (.int .i64 (0 : Int)), (.int .i64 (50000 : Int))]) none (fun v35 => (tkBool v35 none fun b36 => (bif (!b36) then (bif (decide (q17 = .i64)) then (bif (n18 == (2 : Int)) then (bif (decide (q13 = .i64)) then (bif (n14 == (0 : Int)) then (tkOut (env 13 []) none (fun v37 => (tkBool v37 none fun b38 => some (.ret (.bool b38))))
                                                                              (fun p37 => (tkIfc p37 none fun t38 x39 => (bif (flatP (.iface t38 x39)) then some (.pan (.iface t38 x39))
                                                                                  else none))))
                                                                            else some (.ret (.bool false)))
                                                                          else none)
                                                                        else some (.ret (.bool false)))
                                                                      else none)
                                                                    else (bif (decide (q17 = .i64)) then (bif (n18 == (0 : Int)) then (tkOut (env 45 [(.agg (eSite s)), (.int .i64 c), (.agg (eSpan p)), (.agg (eSpan q))]) none (fun v37 => (tkInt v37 none fun q38 n39 => (bif (decide (q13 = q38)) then (bif (n14 == n39) then (tkOut (env 13 []) none (fun v40 => (tkBool v40 none fun b41 => some (.ret (.bool b41))))
                                                                                  (fun p40 => (tkIfc p40 none fun t41 x42 => (bif (flatP (.iface t41 x42)) then some (.pan (.iface t41 x42))
                                                                                      else none))))
                                                                                else some (.ret (.bool false)))
                                                                              else none)))
                                                                          (fun p37 => (tkIfc p37 none fun t38 x39 => (bif (flatP (.iface t38 x39)) then some (.pan (.iface t38 x39))
                                                                              else none))))
                                                                        else some (.ret (.bool false)))
                                                                      else none))))
                                                                (fun p35 => (tkIfc p35 none fun t36 x37 => (bif (flatP (.iface t36 x37)) then some (.pan (.iface t36 x37))
                                                                    else none))))))
                                                          else none))
                                                      else none)
                                                    else (bif (!b34) then (bif (decide (q27 = .i64)) then (bif (n28 != (2 : Int)) then some (.ret (.bool false))
                                                          else (bif (decide (q23 = .i64)) then (bif (n24 != (0 : Int)) then some (.ret (.bool false))
                                                              else (bif (!b34) then (bif (decide (q17 = .i64)) then (bif (n18 == (2 : Int)) then (bif (decide (q13 = .i64)) then (bif (n14 == (0 : Int)) then (tkOut (env 13 []) none (fun v35 => (tkBool v35 none fun b36 => some (.ret (.bool b36))))
                                                                          (fun p35 => (tkIfc p35 none fun t36 x37 => (bif (flatP (.iface t36 x37)) then some (.pan (.iface t36 x37))
                                                                              else none))))
                                                                        else some (.ret (.bool false)))
                                                                      else none)
                                                                    else some (.ret (.bool false)))
                                                                  else none)
                                                                else (tkOut (env 43 [(.agg (eSpan p)), (.int .i64 (0 : Int)), (.int .i64 (50000 : Int))]) none (fun v35 => (tkBool v35 none fun b36 => (bif (!b36) then (bif (decide (q17 = .i64)) then (bif (n18 == (2 : Int)) then (bif (decide (q13 = .i64)) then (bif (n14 == (0 : Int)) then (tkOut (env 13 []) none (fun v37 => (tkBool v37 none fun b38 => some (.ret (.bool b38))))
                                                                                (fun p37 => (tkIfc p37 none fun t38 x39 => (bif (flatP (.iface t38 x39)) then some (.pan (.iface t38 x39))
                                                                                    else none))))
                                                                              else some (.ret (.bool false)))
                                                                            else none)
                                                                          else some (.ret (.bool false)))
                                                                        else none)
                                                                      else (bif (decide (q17 = .i64)) then (bif (n18 == (0 : Int)) then (tkOut (env 45 [(.agg (eSite s)), (.int .i64 c), (.agg (eSpan p)), (.agg (eSpan q))]) none (fun v37 => (tkInt v37 none fun q38 n39 => (bif (decide (q13 = q38)) then (bif (n14 == n39) then (tkOut (env 13 []) none (fun v40 => (tkBool v40 none fun b41 => some (.ret (.bool b41))))
                                                                                    (fun p40 => (tkIfc p40 none fun t41 x42 => (bif (flatP (.iface t41 x42)) then some (.pan (.iface t41 x42))
                                                                                        else none))))
                                                                                  else some (.ret (.bool false)))
                                                                                else none)))
                                                                            (fun p37 => (tkIfc p37 none fun t38 x39 => (bif (flatP (.iface t38 x39)) then some (.pan (.iface t38 x39))
                                                                                else none))))
                                                                          else some (.ret (.bool false)))
                                                                        else none))))
                                                                  (fun p35 => (tkIfc p35 none fun t36 x37 => (bif (flatP (.iface t36 x37)) then some (.pan (.iface t36 x37))
                                                                      else none))))))
                                                            else none))
                                                        else none)
                                                      else (bif (decide (n < (0 : Int))) then (bif (decide (q27 = .i64)) then (bif (n28 != (2 : Int)) then some (.ret (.bool false))
                                                            else (bif (decide (q23 = .i64)) then (bif (n24 != (0 : Int)) then some (.ret (.bool false))
                                                                else (bif (!b34) then (bif (decide (q17 = .i64)) then (bif (n18 == (2 : Int)) then (bif (decide (q13 = .i64)) then (bif (n14 == (0 : Int)) then (tkOut (env 13 []) none (fun v35 => (tkBool v35 none fun b36 => some (.ret (.bool b36))))
                                                                            (fun p35 => (tkIfc p35 none fun t36 x37 => (bif (flatP (.iface t36 x37)) then some (.pan (.iface t36 x37))
                                                                                else none))))
                                                                          else some (.ret (.bool false)))
                                                                        else none)
                                                                      else some (.ret (.bool false)))
                                                                    else none)
                                                                  else (tkOut (env 43 [(.agg (eSpan p)), (.int .i64 (0 : Int)), (.int .i64 (50000 : Int))]) none (fun v35 => (tkBool v35 none fun b36 => (bif (!b36) then (bif (decide (q17 = .i64)) then (bif (n18 == (2 : Int)) then (bif (decide (q13 = .i64)) then (bif (n14 == (0 : Int)) then (tkOut (env 13 []) none (fun v37 => (tkBool v37 none fun b38 => some (.ret (.bool b38))))
                                                                                  (fun p37 => (tkIfc p37 none fun t38 x39 => (bif (flatP (.iface t38 x39)) then some (.pan (.iface t38 x39))
                                                                                      else none))))
                                                                                else some (.ret (.bool false)))
                                                                              else none)
                                                                            else some (.ret (.bool false)))
                                                                          else none)
                                                                        else (bif (decide (q17 = .i64)) then (bif (n18 == (0 : Int)) then (tkOut (env 45 [(.agg (eSite s)), (.int .i64 c), (.agg (eSpan p)), (.agg (eSpan q))]) none (fun v37 => (tkInt v37 none fun q38 n39 => (bif (decide (q13 = q38)) then (bif (n14 == n39) then (tkOut (env 13 []) none (fun v40 => (tkBool v40 none fun b41 => some (.ret (.bool b41))))
                                                                                      (fun p40 => (tkIfc p40 none fun t41 x42 => (bif (flatP (.iface t41 x42)) then some (.pan (.iface t41 x42))
                                                                                          else none))))
                                                                                    else some (.ret (.bool false)))
                                                                                  else none)))
                                                                              (fun p37 => (tkIfc p37 none fun t38 x39 => (bif (flatP (.iface t38 x39)) then some (.pan (.iface t38 x39))
                                                                                  else none))))
                                                                            else some (.ret (.bool false)))
                                                                          else none))))
                                                                    (fun p35 => (tkIfc p35 none fun t36 x37 => (bif (flatP (.iface t36 x37)) then some (.pan (.iface t36 x37))
                                                                        else none))))))
                                                              else none))
                                                          else none)
                                                        else (tkOut (env 44 [(.agg (eSite s)), (.int .i64 c), (.agg (eSpan q)), (.int .i64 n)]) none (fun v35 => (tkInt v35 none fun q36 n37 => (bif (decide (q36 = .i64)) then (bif (decide (n37 < (0 : Int))) then (bif (decide (q27 = .i64)) then (bif (n28 != (5 : Int)) then some (.ret (.bool false))
                                                                    else (bif (decide (q23 = .i64)) then (bif (n24 != (0 : Int)) then some (.ret (.bool false))
                                                                        else (bif (decide (q36 = .i64)) then (bif (decide (n37 ≥ (0 : Int))) then (bif (decide (q27 = .i64)) then (bif (n28 != (0 : Int)) then some (.ret (.bool false))
                                                                                else (bif (decide (q23 = q36)) then (bif (n24 != n37) then some (.ret (.bool false))
                                                                                    else (bif (!b34) then (bif (decide (q17 = .i64)) then (bif (n18 == (2 : Int)) then (bif (decide (q13 = .i64)) then (bif (n14 == (0 : Int)) then (tkOut (env 13 []) none (fun v38 => (tkBool v38 none fun b39 => some (.ret (.bool b39))))
                                                                                                (fun p38 => (tkIfc p38 none fun t39 x40 => (bif (flatP (.iface t39 x40)) then some (.pan (.iface t39 x40))
                                                                                                    else none))))
                                                                                              else some (.ret (.bool false)))
                                                                                            else none)
                                                                                          else some (.ret (.bool false)))
                                                                                        else none)
                                                                                      else (tkOut (env 43 [(.agg (eSpan p)), (.int .i64 (0 : Int)), (.int .i64 (50000 : Int))]) none (fun v38 => (tkBool v38 none fun b39 => (bif (!b39) then (bif (decide (q17 = .i64)) then (bif (n18 == (2 : Int)) then (bif (decide (q13 = .i64)) then (bif (n14 == (0 : Int)) then (tkOut (env 13 []) none (fun v40 => (tkBool v40 none fun b41 => some (.ret (.bool b41))))
                                                                                                      (fun p40 => (tkIfc p40 none fun t41 x42 => (bif (flatP (.iface t41 x42)) then some (.pan (.iface t41 x42))
                                                                                                          else none))))
                                                                                                    else some (.ret (.bool false)))
                                                                                                  else none)
                                                                                                else some (.ret (.bool false)))
                                                                                              else none)
                                                                                            else (bif (decide (q17 = .i64)) then (bif (n18 == (0 : Int)) then (tkOut (env 45 [(.agg (eSite s)), (.int .i64 c), (.agg (eSpan p)), (.agg (eSpan q))]) none (fun v40 => (tkInt v40 none fun q41 n42 => (bif (decide (q13 = q41)) then (bif (n14 == n42) then (tkOut (env 13 []) none (fun v43 => (tkBool v43 none fun b44 => some (.ret (.bool b44))))
                                                                                                          (fun p43 => (tkIfc p43 none fun t44 x45 => (bif (flatP (.iface t44 x45)) then some (.pan (.iface t44 x45))
                                                                                                              else none))))
                                                                                                        else some (.ret (.bool false)))
                                                                                                      else none)))
                                                                                                  (fun p40 => (tkIfc p40 none fun t41 x42 => (bif (flatP (.iface t41 x42)) then some (.pan (.iface t41 x42))
                                                                                                      else none))))
                                                                                                else some (.ret (.bool false)))
                                                                                              else none))))
                                                                                        (fun p38 => (tkIfc p38 none fun t39 x40 => (bif (flatP (.iface t39 x40)) then some (.pan (.iface t39 x40))
                                                                                            else none))))))
                                                                                  else none))
                                                                              else none)
                                                                            else (bif (!b34) then (bif (decide (q17 = .i64)) then (bif (n18 == (2 : Int)) then (bif (decide (q13 = .i64)) then (bif (n14 == (0 : Int)) then (tkOut (env 13 []) none (fun v38 => (tkBool v38 none fun b39 => some (.ret (.bool b39))))
                                                                                        (fun p38 => (tkIfc p38 none fun t39 x40 => (bif (flatP (.iface t39 x40)) then some (.pan (.iface t39 x40))
                                                                                            else none))))
                                                                                      else some (.ret (.bool false)))
                                                                                    else none)
                                                                                  else some (.ret (.bool false)))
                                                                                else none)
                                                                              else (tkOut (env 43 [(.agg (eSpan p)), (.int .i64 (0 : Int)), (.int .i64 (50000 : Int))]) none (fun v38 => (tkBool v38 none fun b39 => (bif (!b39) then (bif (decide (q17 = .i64)) then (bif (n18 == (2 : Int)) then (bif (decide (q13 = .i64)) then (bif (n14 == (0 : Int)) then (tkOut (env 13 []) none (fun v40 => (tkBool v40 none fun b41 => some (.ret (.bool b41))))
                                                                                              (fun p40 => (tkIfc p40 none fun t41 x42 => (bif (flatP (.iface t41 x42)) then some (.pan (.iface t41 x42))
                                                                                                  else none))))
                                                                                            else some (.ret (.bool false)))
                                                                                          else none)
                                                                                        else some (.ret (.bool false)))
                                                                                      else none)
                                                                                    else (bif (decide (q17 = .i64)) then (bif (n18 == (0 : Int)) then (tkOut (env 45 [(.agg (eSite s)), (.int .i64 c), (.agg (eSpan p)), (.agg (eSpan q))]) none (fun v40 => (tkInt v40 none fun q41 n42 => (bif (decide (q13 = q41)) then (bif (n14 == n42) then (tkOut (env 13 []) none (fun v43 => (tkBool v43 none fun b44 => some (.ret (.bool b44))))
                                                                                                  (fun p43 => (tkIfc p43 none fun t44 x45 => (bif (flatP (.iface t44 x45)) then some (.pan (.iface t44 x45))
                                                                                                      else none))))
                                                                                                else some (.ret (.bool false)))
                                                                                              else none)))
                                                                                          (fun p40 => (tkIfc p40 none fun t41 x42 => (bif (flatP (.iface t41 x42)) then some (.pan (.iface t41 x42))
                                                                                              else none))))
                                                                                        else some (.ret (.bool false)))
                                                                                      else none))))
                                                                                (fun p38 => (tkIfc p38 none fun t39 x40 => (bif (flatP (.iface t39 x40)) then some (.pan (.iface t39 x40))
                                                                                    else none))))))
                                                                          else none))
                                                                      else none))
                                                                  else none)
                                                                else (bif (decide (q36 = .i64)) then (bif (decide (n37 ≥ (0 : Int))) then (bif (decide (q27 = .i64)) then (bif (n28 != (0 : Int)) then some (.ret (.bool false))
                                                                        else (bif (decide (q23 = q36)) then (bif (n24 != n37) then some (.ret (.bool false))
                                                                            else (bif (!b34) then (bif (decide (q17 = .i64)) then (bif (n18 == (2 : Int)) then (bif (decide (q13 = .i64)) then (bif (n14 == (0 : Int)) then (tkOut (env 13 []) none (fun v38 => (tkBool v38 none fun b39 => some (.ret (.bool b39))))
                                                                                        (fun p38 => (tkIfc p38 none fun t39 x40 => (bif (flatP (.iface t39 x40)) then some (.pan (.iface t39 x40))
                                                                                            else none))))
                                                                                      else some (.ret (.bool false)))
                                                                                    else none)
                                                                                  else some (.ret (.bool false)))
                                                                                else none)
                                                                              else (tkOut (env 43 [(.agg (eSpan p)), (.int .i64 (0 : Int)), (.int .i64 (50000 : Int))]) none (fun v38 => (tkBool v38 none fun b39 => (bif (!b39) then (bif (decide (q17 = .i64)) then (bif (n18 == (2 : Int)) then (bif (decide (q13 = .i64)) then (bif (n14 == (0 : Int)) then (tkOut (env 13 []) none (fun v40 => (tkBool v40 none fun b41 => some (.ret (.bool b41))))
                                                                                              (fun p40 => (tkIfc p40 none fun t41 x42 => (bif (flatP (.iface t41 x42)) then some (.pan (.iface t41 x42))
                                                                                                  else none))))
                                                                                            else some (.ret (.bool false)))
                                                                                          else none)
                                                                                        else some (.ret (.bool false)))
                                                                                      else none)
                                                                                    else (bif (decide (q17 = .i64)) then (bif (n18 == (0 : Int)) then (tkOut (env 45 [(.agg (eSite s)), (.int .i64 c), (.agg (eSpan p)), (.agg (eSpan q))]) none (fun v40 => (tkInt v40 none fun q41 n42 => (bif (decide (q13 = q41)) then (bif (n14 == n42) then (tkOut (env 13 []) none (fun v43 => (tkBool v43 none fun b44 => some (.ret (.bool b44))))
                                                                                                  (fun p43 => (tkIfc p43 none fun t44 x45 => (bif (flatP (.iface t44 x45)) then some (.pan (.iface t44 x45))
                                                                                                      else none))))
                                                                                                else some (.ret (.bool false)))
                                                                                              else none)))
                                                                                          (fun p40 => (tkIfc p40 none fun t41 x42 => (bif (flatP (.iface t41 x42)) then some (.pan (.iface t41 x42))
                                                                                              else none))))
                                                                                        else some (.ret (.bool false)))
                                                                                      else none))))
                                                                                (fun p38 => (tkIfc p38 none fun t39 x40 => (bif (flatP (.iface t39 x40)) then some (.pan (.iface t39 x40))
                                                                                    else none))))))
                                                                          else none))
                                                                      else none)
                                                                    else (bif (!b34) then (bif (decide (q17 = .i64)) then (bif (n18 == (2 : Int)) then (bif (decide (q13 = .i64)) then (bif (n14 == (0 : Int)) then (tkOut (env 13 []) none (fun v38 => (tkBool v38 none fun b39 => some (.ret (.bool b39))))
                                                                                (fun p38 => (tkIfc p38 none fun t39 x40 => (bif (flatP (.iface t39 x40)) then some (.pan (.iface t39 x40))
                                                                                    else none))))
                                                                              else some (.ret (.bool false)))
                                                                            else none)
                                                                          else some (.ret (.bool false)))
                                                                        else none)
                                                                      else (tkOut (env 43 [(.agg (eSpan p)), (.int .i64 (0 : Int)), (.int .i64 (50000 : Int))]) none (fun v38 => (tkBool v38 none fun b39 => (bif (!b39) then (bif (decide (q17 = .i64)) then (bif (n18 == (2 : Int)) then (bif (decide (q13 = .i64)) then (bif (n14 == (0 : Int)) then (tkOut (env 13 []) none (fun v40 => (tkBool v40 none fun b41 => some (.ret (.bool b41))))
                                                                                      (fun p40 => (tkIfc p40 none fun t41 x42 => (bif (flatP (.iface t41 x42)) then some (.pan (.iface t41 x42))
                                                                                          else none))))
                                                                                    else some (.ret (.bool false)))
                                                                                  else none)
                                                                                else some (.ret (.bool false)))
                                                                              else none)
                                                                            else (bif (decide (q17 = .i64)) then (bif (n18 == (0 : Int)) then (tkOut (env 45 [(.agg (eSite s)), (.int .i64 c), (.agg (eSpan p)), (.agg (eSpan q))]) none (fun v40 => (tkInt v40 none fun q41 n42 => (bif (decide (q13 = q41)) then (bif (n14 == n42) then (tkOut (env 13 []) none (fun v43 => (tkBool v43 none fun b44 => some (.ret (.bool b44))))
                                                                                          (fun p43 => (tkIfc p43 none fun t44 x45 => (bif (flatP (.iface t44 x45)) then some (.pan (.iface t44 x45))
                                                                                              else none))))
                                                                                        else some (.ret (.bool false)))
                                                                                      else none)))
                                                                                  (fun p40 => (tkIfc p40 none fun t41 x42 => (bif (flatP (.iface t41 x42)) then some (.pan (.iface t41 x42))
                                                                                      else none))))
                                                                                else some (.ret (.bool false)))
                                                                              else none))))
                                                                        (fun p38 => (tkIfc p38 none fun t39 x40 => (bif (flatP (.iface t39 x40)) then some (.pan (.iface t39 x40))
                                                                            else none))))))
                                                                  else none))
                                                              else none)))
                                                          (fun p35 => (tkIfc p35 none fun t36 x37 => (bif (flatP (.iface t36 x37)) then some (.pan (.iface t36 x37))
                                                              else none)))))))))
                                                (fun p33 => (tkIfc p33 none fun t34 x35 => (bif (flatP (.iface t34 x35)) then some (.pan (.iface t34 x35))
                                                    else none))))
                                              else (bif (decide (n > (60 : Int))) then (bif (decide (q27 = .i64)) then (bif (n28 != (3 : Int)) then some (.ret (.bool false))
                                                    else (bif (decide (q23 = .i64)) then (bif (n24 != (0 : Int)) then some (.ret (.bool false))
                                                        else (bif (decide (q17 = .i64)) then (bif (n18 == (2 : Int)) then (bif (decide (q13 = .i64)) then (bif (n14 == (0 : Int)) then (tkOut (env 13 []) none (fun v33 => (tkBool v33 none fun b34 => some (.ret (.bool b34))))
                                                                  (fun p33 => (tkIfc p33 none fun t34 x35 => (bif (flatP (.iface t34 x35)) then some (.pan (.iface t34 x35))
                                                                      else none))))
                                                                else some (.ret (.bool false)))
                                                              else none)
                                                            else some (.ret (.bool false)))
                                                          else none))
                                                      else none))
                                                  else none)
                                                else (bif (decide (q27 = .i64)) then (bif (n28 != (2 : Int)) then some (.ret (.bool false))
                                                    else (bif (decide (q23 = .i64)) then (bif (n24 != (0 : Int)) then some (.ret (.bool false))
                                                        else (bif (decide (q17 = .i64)) then (bif (n18 == (2 : Int)) then (bif (decide (q13 = .i64)) then (bif (n14 == (0 : Int)) then (tkOut (env 13 []) none (fun v33 => (tkBool v33 none fun b34 => some (.ret (.bool b34))))
                                                                  (fun p33 => (tkIfc p33 none fun t34 x35 => (bif (flatP (.iface t34 x35)) then some (.pan (.iface t34 x35))
                                                                      else none))))
                                                                else some (.ret (.bool false)))
                                                              else none)
                                                            else some (.ret (.bool false)))
                                                          else none))
                                                      else none))
                                                  else none)))))
                                          (fun p31 => (tkIfc p31 none fun t32 x33 => (bif (flatP (.iface t32 x33)) then some (.pan (.iface t32 x33))
                                              else none))))
                                        else (bif (decide (n > (60 : Int))) then (bif (decide (q27 = .i64)) then (bif (n28 != (3 : Int)) then some (.ret (.bool false))
                                              else (bif (decide (q23 = .i64)) then (bif (n24 != (0 : Int)) then some (.ret (.bool false))
                                                  else (bif (decide (q17 = .i64)) then (bif (n18 == (2 : Int)) then (bif (decide (q13 = .i64)) then (bif (n14 == (0 : Int)) then (tkOut (env 13 []) none (fun v31 => (tkBool v31 none fun b32 => some (.ret (.bool b32))))
                                                            (fun p31 => (tkIfc p31 none fun t32 x33 => (bif (flatP (.iface t32 x33)) then some (.pan (.iface t32 x33))
                                                                else none))))
                                                          else some (.ret (.bool false)))
                                                        else none)
                                                      else some (.ret (.bool false)))
                                                    else none))
                                                else none))
                                            else none)
                                          else (bif (decide (q27 = .i64)) then (bif (n28 != (2 : Int)) then some (.ret (.bool false))
                                              else (bif (decide (q23 = .i64)) then (bif (n24 != (0 : Int)) then some (.ret (.bool false))
                                                  else (bif (decide (q17 = .i64)) then (bif (n18 == (2 : Int)) then (bif (decide (q13 = .i64)) then (bif (n14 == (0 : Int)) then (tkOut (env 13 []) none (fun v31 => (tkBool v31 none fun b32 => some (.ret (.bool b32))))
                                                            (fun p31 => (tkIfc p31 none fun t32 x33 => (bif (flatP (.iface t32 x33)) then some (.pan (.iface t32 x33))
                                                                else none))))
                                                          else some (.ret (.bool false)))
                                                        else none)
                                                      else some (.ret (.bool false)))
                                                    else none))
                                                else none))
                                            else none)))))
                                    (fun p29 => (tkIfc p29 none fun t30 x31 => (bif (flatP (.iface t30 x31)) then some (.pan (.iface t30 x31))
                                        else none))))))))))))
                      (fun p19 => (tkIfc p19 none fun t20 x21 => (bif (flatP (.iface t20 x21)) then some (.pan (.iface t20 x21))
                          else none))))))))))))
        (fun p9 => (tkIfc p9 none fun t10 x11 => (bif (flatP (.iface t10 x11)) then some (.pan (.iface t10 x11))
            else none)))))))
  (fun p7 => (tkIfc p7 none fun t8 x9 => (bif (flatP (.iface t8 x9)) then some (.pan (.iface t8 x9))
      else none)))) := by kernel_rfl

end Go.Sim.Cr

/-
  CreepKeeps: the law answers true.
-/
namespace Go.Sim.Cr
open Go.Proofs
variable (F d : Nat)
theorem eqI1 (a : Int) : (a == a) = true := by simp
theorem z3c : ((3 : Int) == 3) = true := rfl
theorem z55 : ((5 : Int) == 5) = true := rfl
theorem zm1 : decide ((-1 : Int) < 0) = true := rfl
set_option maxRecDepth 100000 in
set_option maxHeartbeats 1000000 in
theorem s9 (s : Site) (c : Int) (p q : Span) (n : Int) (hF : 2147483648 < F) : E F (d + 12) 9 [.agg (eSite s), .int .i64 c, .agg (eSpan p), .agg (eSpan q), .int .i64 n] = some (.ret (.bool true)) := by
  have k := s13 F d (by omega)
  rw [E_succ, t9]
  simp only [s11 F (d + 10), pOut, pBool]
  by_cases h0 : ShortS s
  · have hs := small_of F h0 (by omega)
    have e41 := s41 F (d + 3) s c p q hs (by omega)
    have e16 := s16 F (d + 8) s hs
    obtain ⟨l1, l2, l3, l4⟩ := s42 F (d + 1) s c q n hs (by omega)
    have e43q := s43 F (d + 10) q 0 10000
    have e43p := s43 F (d + 10) p 0 50000
    simp only [decide_eq_true h0, Bool.not_true, pF, e41, e16, pOut, pBool]
    by_cases hn : n > 60
    · have e42 := l1 hn
      simp only [e42, decide_eq_true hn, pOut, pTup, pCons, pInt, pNil]
      cases h1 : siteB s with
      | false => simp only [Bool.false_and, pF, pT, pTup, pCons, pInt, pNil, pOut, pBool, Bool.not_false, decide_true, z3c, z22, z00, bne, Bool.not_true, k]
      | true =>
        have hS := (siteB_iff s).1 h1
        have h5 := hS.cavs5
        have e39 := s39 F (d + 9) s c hS.cavs1 h5
        by_cases h2 : 0 ≤ c ∧ c < (s.cavs.len : Int)
        · by_cases h3 : SpanIn q 0 10000
          · by_cases h4 : SpanIn p 0 50000
            · obtain ⟨c, rfl⟩ := Int.eq_ofNat_of_zero_le h2.1
              have e45 := s45 F (d + 7) s c p q hS (by omega) h4 h3 hF
              simp only [decide_eq_true h2, decide_eq_true h3, decide_eq_true h4, Bool.and_self, pF, pT, pTup, pCons, pInt, pNil, pOut, pBool, Bool.not_false, Bool.not_true, decide_true, z3c, z22, z00, bne, e39, e43q, e43p, e45, Int.toNat_natCast, eqI1, k]
            · simp only [decide_eq_true h2, decide_eq_true h3, decide_eq_false h4, Bool.and_self, Bool.and_false, Bool.false_and, pF, pT, pTup, pCons, pInt, pNil, pOut, pBool, Bool.not_false, Bool.not_true, decide_true, z3c, z22, z00, bne, e39, e43q, e43p, eqI1, k]
          · simp only [decide_eq_true h2, decide_eq_false h3, Bool.and_self, Bool.and_false, Bool.false_and, pF, pT, pTup, pCons, pInt, pNil, pOut, pBool, Bool.not_false, Bool.not_true, decide_true, z3c, z22, z00, bne, e39, e43q, e43p, eqI1, k]
        · simp only [decide_eq_false h2, Bool.and_self, Bool.and_false, Bool.false_and, pF, pT, pTup, pCons, pInt, pNil, pOut, pBool, Bool.not_false, Bool.not_true, decide_true, z3c, z22, z00, bne, e39, eqI1, k]
    · cases h1 : siteB s with
      | false =>
        have e42 := l2 hn (fun h => by rw [h1] at h; cases h.1)
        simp only [e42, decide_eq_false hn, Bool.false_and, pF, pT, pTup, pCons, pInt, pNil, pOut, pBool, Bool.not_false, decide_true, z3c, z22, z00, bne, Bool.not_true, k]
      | true =>
        have hS := (siteB_iff s).1 h1
        have h5 := hS.cavs5
        have e39 := s39 F (d + 9) s c hS.cavs1 h5
        by_cases h2 : 0 ≤ c ∧ c < (s.cavs.len : Int)
        · by_cases h3 : SpanIn q 0 10000
          · by_cases hn0 : n < 0
            · have e42 := l2 hn (fun h => by omega)
              by_cases h4 : SpanIn p 0 50000
              · obtain ⟨c, rfl⟩ := Int.eq_ofNat_of_zero_le h2.1
                have e45 := s45 F (d + 7) s c p q hS (by omega) h4 h3 hF
                simp only [e42, decide_eq_false hn, decide_eq_true hn0, decide_eq_true h2, decide_eq_true h3, decide_eq_true h4, Bool.and_self, pF, pT, pTup, pCons, pInt, pNil, pOut, pBool, Bool.not_false, Bool.not_true, decide_true, z3c, z22, z00, bne, e39, e43q, e43p, e45, Int.toNat_natCast, eqI1, k]
              · simp only [e42, decide_eq_false hn, decide_eq_true hn0, decide_eq_true h2, decide_eq_true h3, decide_eq_false h4, Bool.and_self, Bool.and_false, Bool.false_and, pF, pT, pTup, pCons, pInt, pNil, pOut, pBool, Bool.not_false, Bool.not_true, decide_true, z3c, z22, z00, bne, e39, e43q, e43p, eqI1, k]
            · obtain ⟨c, rfl⟩ := Int.eq_ofNat_of_zero_le h2.1
              obtain ⟨n, rfl⟩ := Int.eq_ofNat_of_zero_le (show 0 ≤ n by omega)
              obtain ⟨r0, r1⟩ := s44 F (d + 6) s c q n hS (by omega) h3 hF
              rcases Nat.eq_zero_or_pos n with hz | hz
              · have e44 := r0 hz
                have e42 := l3 hS h2 h3 (by omega)
                have zz : decide ((0 : Int) < 0) = false := rfl
                have zg : decide ((0 : Int) ≥ 0) = true := rfl
                by_cases h4 : SpanIn p 0 50000
                · have e45 := s45 F (d + 7) s c p q hS (by omega) h4 h3 hF
                  simp only [e42, e44, decide_eq_false hn, decide_eq_false hn0, decide_eq_true h2, decide_eq_true h3, decide_eq_true h4, Bool.and_self, pF, pT, pTup, pCons, pInt, pNil, pOut, pBool, Bool.not_false, Bool.not_true, decide_true, z3c, z22, z00, zz, zg, bne, e39, e43q, e43p, e45, Int.toNat_natCast, eqI1, k]
                · simp only [e42, e44, decide_eq_false hn, decide_eq_false hn0, decide_eq_true h2, decide_eq_true h3, decide_eq_false h4, Bool.and_self, Bool.and_false, Bool.false_and, pF, pT, pTup, pCons, pInt, pNil, pOut, pBool, Bool.not_false, Bool.not_true, decide_true, z3c, z22, z00, zz, zg, bne, e39, e43q, e43p, eqI1, k]
              · have hm := mostP_ok hS (show c < s.cavs.len by omega)
                rcases l4 hS h2 h3 (by omega) (by omega) with ⟨r, e42, il⟩ | ⟨e42, il⟩
                · rw [Int.toNat_natCast, Int.toNat_natCast] at il
                  rcases r1 hz with ⟨r', e44, il'⟩ | ⟨e44, il'⟩
                  · obtain rfl := least_uniq il il'
                    have hr0 : decide (r < 0) = false := decide_eq_false (by have := il.1; omega)
                    have hr1 : decide (r ≥ 0) = true := decide_eq_true (by have := il.1; omega)
                    by_cases h4 : SpanIn p 0 50000
                    · have e45 := s45 F (d + 7) s c p q hS (by omega) h4 h3 hF
                      simp only [e42, e44, hr0, hr1, decide_eq_false hn, decide_eq_false hn0, decide_eq_true h2, decide_eq_true h3, decide_eq_true h4, Bool.and_self, pF, pT, pTup, pCons, pInt, pNil, pOut, pBool, Bool.not_false, Bool.not_true, decide_true, z3c, z22, z00, bne, e39, e43q, e43p, e45, Int.toNat_natCast, eqI1, k]
                    · simp only [e42, e44, hr0, hr1, decide_eq_false hn, decide_eq_false hn0, decide_eq_true h2, decide_eq_true h3, decide_eq_false h4, Bool.and_self, Bool.and_false, Bool.false_and, pF, pT, pTup, pCons, pInt, pNil, pOut, pBool, Bool.not_false, Bool.not_true, decide_true, z3c, z22, z00, bne, e39, e43q, e43p, eqI1, k]
                  · exact (least_no il il').elim
                · rw [Int.toNat_natCast, Int.toNat_natCast] at il
                  rcases r1 hz with ⟨r', e44, il'⟩ | ⟨e44, il'⟩
                  · exact (least_no il' il).elim
                  · have zg : decide ((-1 : Int) ≥ 0) = false := rfl
                    by_cases h4 : SpanIn p 0 50000
                    · have e45 := s45 F (d + 7) s c p q hS (by omega) h4 h3 hF
                      simp only [e42, e44, zm1, zg, decide_eq_false hn, decide_eq_false hn0, decide_eq_true h2, decide_eq_true h3, decide_eq_true h4, Bool.and_self, pF, pT, pTup, pCons, pInt, pNil, pOut, pBool, Bool.not_false, Bool.not_true, decide_true, z3c, z22, z00, z55, bne, e39, e43q, e43p, e45, Int.toNat_natCast, eqI1, k]
                    · simp only [e42, e44, zm1, zg, decide_eq_false hn, decide_eq_false hn0, decide_eq_true h2, decide_eq_true h3, decide_eq_false h4, Bool.and_self, Bool.and_false, Bool.false_and, pF, pT, pTup, pCons, pInt, pNil, pOut, pBool, Bool.not_false, Bool.not_true, decide_true, z3c, z22, z00, z55, bne, e39, e43q, e43p, eqI1, k]
          · have e42 := l2 hn (fun h => h3 h.2.2.1)
            simp only [e42, decide_eq_false hn, decide_eq_true h2, decide_eq_false h3, Bool.and_self, Bool.and_false, Bool.false_and, pF, pT, pTup, pCons, pInt, pNil, pOut, pBool, Bool.not_false, Bool.not_true, decide_true, z3c, z22, z00, bne, e39, e43q, e43p, eqI1, k]
        · have e42 := l2 hn (fun h => h2 h.2.1)
          simp only [e42, decide_eq_false hn, decide_eq_false h2, Bool.and_self, Bool.and_false, Bool.false_and, pF, pT, pTup, pCons, pInt, pNil, pOut, pBool, Bool.not_false, Bool.not_true, decide_true, z3c, z22, z00, bne, e39, eqI1, k]
  · simp only [decide_eq_false h0, Bool.not_false, pT, k, pOut, pBool]
end Go.Sim.Cr

/-
  CreepKeeps: the row.
-/
namespace Go.Proofs.Ytpgpaficdabmkaa
open Go.ChangeShapes Go.WideShapes Go.ChangeAt Go.RowKit Go.Sim Go.Sim.Cr
set_option maxRecDepth 100000 in
theorem creepKeeps_fit (cs : List V) (h : ArgsFit [(true, shSite), (false, [i8]), (true, shSpan), (true, shSpan), (false, [i8])] cs) : E 2000000000000000 12 9 cs = some (.ret (.bool true)) := by
  obtain ⟨l0, cs0, rfl, h0, g0⟩ := h
  obtain ⟨s1, c1, cs1, e1, rfl, h1, g1⟩ := g0
  obtain ⟨l2, cs2, rfl, h2, g2⟩ := g1
  obtain ⟨l3, cs3, rfl, h3, g3⟩ := g2
  obtain ⟨s4, c4, cs4, e4, rfl, h4, g4⟩ := g3
  injection e1 with e1 _; subst e1
  injection e4 with e4 _; subst e4
  obtain rfl : cs4 = [] := g4
  obtain ⟨a0, rfl⟩ := decSite l0 h0
  obtain ⟨a1, rfl, m1⟩ := fitInt h1
  obtain ⟨a2, rfl⟩ := decSpan l2 h2
  obtain ⟨a3, rfl⟩ := decSpan l3 h3
  obtain ⟨a4, rfl, m4⟩ := fitInt h4
  exact s9 2000000000000000 0 a0 a1 a2 a3 a4 (by omega)
set_option maxRecDepth 100000 in
theorem creepKeeps_lifted (os : Os) (started : os.Started) (H : Type) (enc : TypeId × Value → H) :
    ReturnsInHanded {} Try.checked os 9 .any (Rows.creepKeepsSpec.pre6 enc Try.prog Try.f9 Rows.creepKeepsRow.domain false) (Rows.creepKeepsSpec.post enc Try.prog Try.f9 false true false false) := by
  refine returnsInHanded_of_change_sized (C := Try.checked) own started (by kernel_rfl) Try.func9
    (ChangeSpec.witness6 (enc := enc) (C := Try.checked) false ⟨#[], #[.agg #[.slice none 0 0, .slice none 0 0, .slice none 0 0, .int .i64 0, .slice none 0 0, .slice none 0 0], .int .i64 0, .agg #[.int .i64 0, .int .i64 0], .agg #[.int .i64 0, .int .i64 0], .int .i64 0], []⟩ 8 (by kernel_rfl) (by kernel_rfl) (by kernel_rfl) (by kernel_rfl)) ?_
  intro W base args ds gs before hval hW _ hwt _
  exact law_contract (tb := 4) (okE 2000000000000000 12) (by kernel_rfl) creepKeeps_fit
    ⟨rfl, fun H ds h => by match ds, h with | [_, _, _, _, _], _ => exact ⟨rfl, rfl, rfl⟩⟩ (by kernel_rfl) (by kernel_rfl) laid (by decide +kernel) W base args ds gs before hval hW hwt
theorem creepKeeps_holds : Rows.CreepKeepsSaid :=
  OpenClaim.holds_of_wide 9 Try.f9 rfl rfl rfl rfl rfl rfl rfl ⟨rfl, rfl, rfl, rfl, rfl⟩ rfl rfl rfl rfl rfl (by kernel_rfl) Try.func9 (by kernel_rfl)
    (of_decide_eq_true (by kernel_rfl)) (by unfold Func.isWrapper; first | (rw [if_pos (by decide +kernel)]; kernel_rfl) | (rw [if_neg (by decide +kernel)]; exact ⟨rfl, rfl⟩))
    (fun os started H enc _ => creepKeeps_lifted os started H enc)
#print axioms creepKeeps_holds
end Go.Proofs.Ytpgpaficdabmkaa
