/-
  CreepLeast holds for every input: called with any site, cavern, temperatures, number of days and pressure, the law returns true, and its arguments read behind the call as before. No condition.
-/
import Derived.Test.YtpgpaficdabmkaaAe
import Derived.KernelRfl
set_option linter.unusedVariables false
set_option linter.unusedSimpArgs false
set_option linter.unusedSectionVars false
/-
  Calls whose arguments are put otherwise, where what they stand for is the same.
-/
namespace Go.Sim
theorem okFix {P : Program} {env : Env} (h : OkEnv P env) (fix : V → V) (hf : ∀ (w : World) (pv : Nat → Prop) (v : Value) (c : V), Rel w pv none_ v c → Rel w pv none_ v (fix c)) : OkEnv P (fun g args => env g (args.map fix)) := by
  intro g args out ho
  obtain ⟨h1, h2⟩ := h g (args.map fix) out ho
  refine ⟨h1, fun w pv hlt vs hvs => h2 w pv hlt vs ⟨by simpa using hvs.1, fun i v c g1 g2 => ?_⟩⟩
  rw [List.getElem?_map] at g2
  obtain ⟨c', g3, rfl⟩ := Option.map_eq_some_iff.1 g2
  exact hf _ _ _ _ (hvs.2 i v c' g1 g3)
theorem okEv {P : Program} {C : Nat → Cfg} (hC : OkCfg P C) (hnm : OkNames P) {env : Env} (h : OkEnv P env) : OkEnv P (fun f args => evFun P C env f args) := by
  intro g args out ho
  have h' : evFun P C env g args = some out := ho
  refine ⟨?_, fun w pv hlt vs hvs => evFun_ok hC hnm h h' w pv hlt vs hvs⟩
  unfold evFun at h'
  split at h'
  · rename_i fn hfn
    split at h'
    · rename_i c hbody
      exact ⟨fn, c, hfn, hnm g fn c hfn hbody, hbody⟩
    · cases h'
  · cases h'
/-- A nil slice reads the same, whatever its elements are said to be. -/
theorem rel_nil {w : World} {pv : Nat → Prop} {ρ : Nat → Option Info} {v : Value} {wd wd' : Nat} {g g' : Nat → List V} (h : Rel w pv ρ v (.row true 0 wd g)) : Rel w pv ρ v (.row true 0 wd' g') := by
  cases h
  exact .nilrow
end Go.Sim

/-
  CreepChecks: the law answers true.
-/
namespace Go.Sim.Cr
open Go.Proofs
variable (F d : Nat)
theorem s36 (s : Site) (hs : Small s F) : E F (d + 7) 36 [.agg (eSite s)] = some (.ret (.int .i64 (bif siteB s then 0 else 2))) := by
  rw [E_succ, t36]
  simp only [s48 F d s hs, tkOut_ret, tkBool_b]
  cases siteB s <;> rfl
theorem s39 (s : Site) (i : Int) (h1 : 1 ≤ s.cavs.len) (h5 : s.cavs.len ≤ 5) : E F (d + 2) 39 [.agg (eSite s), .int .i64 i] = some (.ret (.bool (decide (0 ≤ i ∧ i < (s.cavs.len : Int))))) := by
  rw [E_succ, t39]
  rw [wrLen h1 (by omega)]
  simp only [s54, tkOut_ret, tkBool_b, inLen h1]
set_option maxRecDepth 100000 in
theorem s8 (s : Site) (i j : Int) (hF : 2147483648 < F) : E F (d + 12) 8 [.agg (eSite s), .int .i64 i, .int .i64 j] = some (.ret (.bool true)) := by
  have k := s13 F d (by omega)
  rw [E_succ, t8]
  simp only [s11 F (d + 10), pOut, pBool]
  by_cases h0 : ShortS s
  · have hs := small_of F h0 (by omega)
    have e36 := s36 F (d + 4) s hs
    have e37 := s37 F (d + 4) s i j hs (by omega)
    have e24 := s24 F (d + 4) s hs (by omega)
    have e16 := s16 F (d + 8) s hs
    simp only [decide_eq_true h0, Bool.not_true, pF, e36, e37, e24, e16, pOut, pBool, pInt]
    cases h1 : siteB s with
    | false => simp only [Bool.false_and, pF, pT, pTup, pCons, pAgg, pRow, pInt, pNil, Bool.not_false, decide_true, z22, z0, z00, Bool.and_self, k, pOut, pBool]
    | true =>
      have hS := (siteB_iff s).1 h1
      have g1 := hS.cavs1
      have g5 := hS.cavs5
      have e38 := s38 F (d + 10) s g1 g5 (by omega)
      have e22 := s22 F (d + 10) (begin s) (begin s) (show s.cavs.len < 4611686018427387904 by omega) (show s.cavs.len < F by omega)
      rw [sameStt_refl] at e22
      have e39i := s39 F (d + 9) s i g1 g5
      have e39j := s39 F (d + 9) s j g1 g5
      by_cases h2 : 0 ≤ i ∧ i < (s.cavs.len : Int)
      · by_cases h3 : 0 ≤ j ∧ j < (s.cavs.len : Int)
        · by_cases h4 : i = j
          · subst h4
            simp only [Bool.true_and, decide_eq_true h2, decide_true, Bool.not_true, Bool.and_false, pF, pT, pTup, pCons, pAgg, pRow, pInt, pNil, pOut, pBool, z22, z00, bne, e38, e22, e39i, beq_self_eq_true, Bool.and_self, k]
          · obtain ⟨i, rfl⟩ := Int.eq_ofNat_of_zero_le h2.1
            obtain ⟨j, rfl⟩ := Int.eq_ofNat_of_zero_le h3.1
            have c1 := hS.cav i (by omega)
            have c2 := hS.cav j (by omega)
            have e40 := s40 F (d + 8) s i j (s.cavs.el i).rad (s.cavs.el j).rad (by omega) (by omega) c1.1 c2.1 (by omega) (by omega) hF
            have hb : ((i : Int) == (j : Int)) = false := by simpa using h4
            simp only [Bool.true_and, decide_eq_true h2, decide_eq_true h3, decide_eq_false h4, Bool.not_false, Bool.not_true, Bool.and_self, pF, pT, pTup, pCons, pAgg, pRow, pInt, pNil, pOut, pBool, decide_true, z22, z00, bne, e38, e22, e39i, e39j, hb, decide_eq_true h2.1, decide_eq_true h2.2, decide_eq_true h3.1, decide_eq_true h3.2, Int.toNat_natCast, e40, eqS2, k]
        · simp only [Bool.true_and, decide_eq_true h2, decide_eq_false h3, Bool.not_false, Bool.not_true, Bool.false_and, pF, pT, pTup, pCons, pAgg, pRow, pInt, pNil, pOut, pBool, decide_true, z22, z00, bne, e38, e22, e39i, e39j, Bool.and_self, k]
      · simp only [Bool.true_and, decide_eq_false h2, Bool.not_false, Bool.not_true, Bool.false_and, pF, pT, pTup, pCons, pAgg, pRow, pInt, pNil, pOut, pBool, decide_true, z22, z00, bne, e38, e22, e39i, Bool.and_self, k]
  · simp only [decide_eq_false h0, Bool.not_false, pT, k, pOut, pBool]
end Go.Sim.Cr

/-
  For how long a cavern can be kept; the least pressure.
-/
namespace Go.Sim.Cr
open Go.Proofs
variable (F d : Nat)
theorem l45x1 (s : Site) (c : Nat) (p q : Span) (hS : SiteF s) (hc : c < s.cavs.len) (x : Stt) (hx : SttOk x) (hF : 2147483648 < F) (m0 k : Nat) (hk : k < 100) (R : Nat)
    (hO : L45x0 (E F (d + 3)) F s (c : Int) p q m0 ((k + 1 : Nat) : Int) .i64 x.rad.lo .i64 x.rad.hi .i64 x.vol.lo .i64 x.vol.hi .i64 x.lost.lo .i64 x.lost.hi = some (.ret (.int .i64 (R : Int)))) : ∀ r j fu, s.cavs.len = j + r → r < fu →
    L45x1 (E F (d + 3)) F s (c : Int) p q m0 fu (k : Int) (j : Int) .i64 x.rad.lo .i64 x.rad.hi .i64 x.vol.lo .i64 x.vol.hi .i64 x.lost.lo .i64 x.lost.hi = some (.ret (.int .i64 ((bif anyF (nearB s c x) r j then k else R : Nat) : Int))) := by
  have h5 := hS.cavs5
  intro r
  induction r with
  | zero =>
    intro j fu h hf
    obtain ⟨fu, rfl⟩ : ∃ k, fu = k + 1 := ⟨fu - 1, by omega⟩
    rw [L45x1s]
    simp only [Int.ofNat_lt, show ¬ j < s.cavs.len by omega, decide_false, cond_false, anyF, wrS (show k < 4611686018427387904 by omega)]
    exact hO
  | succ r ih =>
    intro j fu h hf
    obtain ⟨fu, rfl⟩ : ∃ k, fu = k + 1 := ⟨fu - 1, by omega⟩
    rw [L45x1s]
    have a1 := hx.1
    have a2 := (hS.cav j (by omega)).2.1
    have p1 := (hS.cav c hc).1
    have p2 := (hS.cav j (by omega)).1
    have e40 : E F (d + 3) 40 [.agg (eSite s), .int .i64 (c : Int), .int .i64 (j : Int), .agg [.int .i64 x.rad.lo, .int .i64 x.rad.hi], .agg (eSpan (s.cavs.el j).rad)] = _ := s40 F d s c j x.rad (s.cavs.el j).rad hc (by omega) p1 p2 (by omega) (by omega) hF
    simp only [Int.ofNat_lt, show j < s.cavs.len by omega, decide_true, cond_true, Int.natCast_nonneg, Int.toNat_natCast, bneN, anyF, e40, tkOut_ret, tkAgg_a, tkCons_c, tkInt_i, tkNil_n, wrS (show j < 4611686018427387904 by omega), ih (j + 1) fu (by omega) (by omega), nearB]
    by_cases hjc : j = c
    · simp only [decide_eq_true hjc, Bool.not_true, cond_false, Bool.false_and, Bool.false_or]
    · simp only [decide_eq_false hjc, Bool.not_false, cond_true, Bool.true_and]
      cases decide (distI (s.cavs.el c) (s.cavs.el j) - x.rad.hi - (s.cavs.el j).rad.hi < s.wall) <;> simp only [cond_true, cond_false, Bool.true_or, Bool.false_or]
theorem l45x0 (s : Site) (c : Nat) (p q : Span) (hS : SiteF s) (hc : c < s.cavs.len) (hp : SpanIn p 0 50000) (hq : SpanIn q 0 10000) (hfar : farB s (s.cavs.el c) p q = false) (hF : 2147483648 < F) : ∀ (r k fu : Nat) (x : Stt), 60 = k + r → r < fu → SttOk x →
    L45x0 (E F (d + 3)) F s (c : Int) p q fu (k : Int) .i64 x.rad.lo .i64 x.rad.hi .i64 x.vol.lo .i64 x.vol.hi .i64 x.lost.lo .i64 x.lost.hi = some (.ret (.int .i64 ((keepFrom s c p q r k x : Nat) : Int))) := by
  have h5 := hS.cavs5
  intro r
  induction r with
  | zero =>
    intro k fu x h hf hx
    obtain ⟨fu, rfl⟩ : ∃ k, fu = k + 1 := ⟨fu - 1, by omega⟩
    obtain rfl : k = 60 := by omega
    rw [L45x0s]
    rfl
  | succ r ih =>
    intro k fu x h hf hx
    obtain ⟨fu, rfl⟩ : ∃ k, fu = k + 1 := ⟨fu - 1, by omega⟩
    rw [L45x0s]
    have e56 := s56 F d s c x p q hS hc hx hp hfar (by omega)
    have hm := move1xok hS hx hp.2.1 hq.2.1 hfar
    rw [decide_eq_true (show (k : Int) < 60 by omega), cond_true, show E F (d + 3) 56 _ = _ from e56]
    simp only [keepFrom, hfar, tkOut_ret, tkAgg_a, tkCons_c, tkInt_i, tkNil_n, decide_true, cond_true, cond_false, Int.toNat_natCast]
    cases decide ((move1 s (s.cavs.el c) x p q).vol.lo < (s.cavs.el c).floor) with
    | true => simp only [cond_true]
    | false =>
      simp only [cond_false]
      exact l45x1 F d s c p q hS hc (move1 s (s.cavs.el c) x p q) hm hF fu k (by omega) (keepFrom s c p q r (k + 1) (move1 s (s.cavs.el c) x p q)) (ih (k + 1) fu (move1 s (s.cavs.el c) x p q) (by omega) (by omega) hm) s.cavs.len 0 F (by omega) (by omega)
/-- The specification's 'Longest' is the program's. -/
theorem s45 (s : Site) (c : Nat) (p q : Span) (hS : SiteF s) (hc : c < s.cavs.len) (hp : SpanIn p 0 50000) (hq : SpanIn q 0 10000) (hF : 2147483648 < F) :
    E F (d + 4) 45 [.agg (eSite s), .int .i64 (c : Int), .agg (eSpan p), .agg (eSpan q)] = some (.ret (.int .i64 ((keeps s c p q 60 : Nat) : Int))) := by
  rw [E_succ, t45]
  unfold keeps
  simp only [Int.natCast_nonneg, Int.ofNat_lt, hc, decide_true, cond_true, Int.toNat_natCast, s32 F (d + 1) s c p q hS hc hp, tkOut_ret, tkBool_b]
  cases hf : farB s (s.cavs.el c) p q with
  | true =>
    simp only [cond_true]
    cases decide (p.lo < (s.cavs.el c).gate.lo) || decide (p.hi > (s.cavs.el c).gate.hi) with
    | true => rfl
    | false => simp only [cond_false, keepFrom, hf, cond_true]; rfl
  | false =>
    simp only [cond_false]
    cases decide (p.lo < (s.cavs.el c).gate.lo) with
    | true => rfl
    | false =>
      simp only [cond_false, Bool.false_or]
      cases decide (p.hi > (s.cavs.el c).gate.hi) with
      | true => rfl
      | false =>
        simp only [cond_false, s38 F (d + 2) s hS.cavs1 hS.cavs5 (by omega), tkOut_ret, tkRow_r, outL_len, Int.ofNat_lt, hc, decide_true, cond_true, beq_self_eq_true, List.take, List.length, tkCons_c, tkInt_i, tkNil_n, outL_el (T := fun i => start (s.cavs.el i)) hc]
        exact l45x0 F d s c p q hS hc hp hq hf hF 60 0 F (start (s.cavs.el c)) (by omega) (by omega) (start_ok hS hc)
theorem keepFrom_ge {s : Site} {c : Nat} {p q : Span} : ∀ n k x, k ≤ keepFrom s c p q n k x := by
  intro n
  induction n with
  | zero => intro k x; exact Nat.le_refl _
  | succ n ih =>
    intro k x
    unfold keepFrom
    cases farB s (s.cavs.el c) p q
    · rw [cond_false]
      cases decide ((move1 s (s.cavs.el c) x p q).vol.lo < (s.cavs.el c).floor)
      · rw [cond_false]
        cases anyF (nearB s c (move1 s (s.cavs.el c) x p q)) s.cavs.len 0
        · rw [cond_false]; have := ih (k + 1) (move1 s (s.cavs.el c) x p q); omega
        · exact Nat.le_refl _
      · exact Nat.le_refl _
    · exact Nat.le_refl _
theorem keepFrom_le {s : Site} {c : Nat} {p q : Span} : ∀ n k x, keepFrom s c p q n k x ≤ k + n := by
  intro n
  induction n with
  | zero => intro k x; exact Nat.le_refl _
  | succ n ih =>
    intro k x
    unfold keepFrom
    cases farB s (s.cavs.el c) p q
    · rw [cond_false]
      cases decide ((move1 s (s.cavs.el c) x p q).vol.lo < (s.cavs.el c).floor)
      · rw [cond_false]
        cases anyF (nearB s c (move1 s (s.cavs.el c) x p q)) s.cavs.len 0
        · rw [cond_false]; have := ih (k + 1) (move1 s (s.cavs.el c) x p q); omega
        · rw [cond_true]; omega
      · rw [cond_true]; omega
    · rw [cond_true]; omega
/-- To be kept for so many days, looked at for longer, is the same. -/
theorem keepFrom_cap {s : Site} {c : Nat} {p q : Span} : ∀ n m k x, n ≤ m → (k + n ≤ keepFrom s c p q n k x ↔ k + n ≤ keepFrom s c p q m k x) := by
  intro n
  induction n with
  | zero => intro m k x _; have := @keepFrom_ge s c p q 0 k x; have := @keepFrom_ge s c p q m k x; omega
  | succ n ih =>
    intro m k x hm
    obtain ⟨m, rfl⟩ : ∃ j, m = j + 1 := ⟨m - 1, by omega⟩
    unfold keepFrom
    cases farB s (s.cavs.el c) p q
    · rw [cond_false, cond_false]
      cases decide ((move1 s (s.cavs.el c) x p q).vol.lo < (s.cavs.el c).floor)
      · rw [cond_false, cond_false]
        cases anyF (nearB s c (move1 s (s.cavs.el c) x p q)) s.cavs.len 0
        · rw [cond_false, cond_false]
          have := ih m (k + 1) (move1 s (s.cavs.el c) x p q) (by omega)
          rw [show k + (n + 1) = k + 1 + n by omega]
          exact this
        · exact Iff.rfl
      · exact Iff.rfl
    · exact Iff.rfl
theorem keeps_cap {s : Site} {c : Nat} {p q : Span} {n m : Nat} (h : n ≤ m) (hn : 0 < n) : n ≤ keeps s c p q n ↔ n ≤ keeps s c p q m := by
  unfold keeps
  cases decide (p.lo < (s.cavs.el c).gate.lo) || decide (p.hi > (s.cavs.el c).gate.hi)
  · rw [cond_false, cond_false]
    have := @keepFrom_cap s c p q n m 0 (start (s.cavs.el c)) h
    rw [Nat.zero_add] at this
    exact this
  · exact Iff.rfl
/-- A greater pressure, up to the rock, keeps a cavern for longer. -/
theorem keepFrom_mono {s : Site} (hS : SiteF s) {c : Nat} (hc : c < s.cavs.len) {a b : Int} {q : Span} (hab : a ≤ b) (hb : b ≤ (s.cavs.el c).rock) (hq : q.lo ≤ q.hi) : ∀ n k x y, SttOk x → SttOk y → y.rad.hi ≤ x.rad.hi → x.vol.lo ≤ y.vol.lo →
    keepFrom s c ⟨a, a⟩ q n k x ≤ keepFrom s c ⟨b, b⟩ q n k y := by
  intro n
  induction n with
  | zero => intro k x y _ _ _ _; exact Nat.le_refl _
  | succ n ih =>
    intro k x y hx hy h1 h2
    have hg := @keepFrom_ge s c ⟨b, b⟩ q (n + 1) k y
    cases hf : farB s (s.cavs.el c) ⟨a, a⟩ q with
    | true => rw [keepFrom, hf, cond_true]; exact hg
    | false =>
      have hfb : farB s (s.cavs.el c) ⟨b, b⟩ q = false := by
        have h0 : rowN s 0 = 0 := by
          have := hS.row 0 (by have := hS.rows1; omega)
          simp only [rowB, rowStep, Bool.and_eq_true, decide_eq_true_iff] at this
          exact this.2.2.2
        unfold farB offB at hf ⊢
        simp only [Bool.or_eq_false_iff, decide_eq_false_iff_not] at hf ⊢
        omega
      obtain ⟨ra1, ra2, ra3, ra4, ra5, ra6⟩ := rates_ok hS hf
      obtain ⟨rb1, rb2, rb3, rb4, rb5, rb6⟩ := rates_ok hS hfb
      obtain ⟨f1, _⟩ := far_split hf
      obtain ⟨o1, o2⟩ := not_off f1
      have n1 := hS.rows1
      have b1 := (@firstIx_ok (rowN s) ((s.cavs.el c).rock - a) s.rows.len 0 n1 (by rw [Nat.zero_add]; omega)).2.1
      have u := hS.rowUp (firstIx_mono (num := rowN s) (x := (s.cavs.el c).rock - b) (y := (s.cavs.el c).rock - a) n1 o2 (by omega) hS.incRow) (by omega)
      have ur : (rateOf s (s.cavs.el c) ⟨b, b⟩).hi ≤ (rateOf s (s.cavs.el c) ⟨a, a⟩).hi := u.1.2
      have uf : (fallOf s (s.cavs.el c) ⟨b, b⟩).hi ≤ (fallOf s (s.cavs.el c) ⟨a, a⟩).hi := u.2.2
      have hxm := move1xok hS hx (Int.le_refl a) hq hf
      have hym := move1xok hS hy (Int.le_refl b) hq hfb
      have m1 : (move1 s (s.cavs.el c) y ⟨b, b⟩ q).rad.hi ≤ (move1 s (s.cavs.el c) x ⟨a, a⟩ q).rad.hi := by
        show minI _ 400000 ≤ minI _ 400000
        unfold minI; split <;> split <;> omega
      have m2 : (move1 s (s.cavs.el c) x ⟨a, a⟩ q).vol.lo ≤ (move1 s (s.cavs.el c) y ⟨b, b⟩ q).vol.lo := by
        have s1 := @shrink_rest x.vol.lo y.vol.lo (rateOf s (s.cavs.el c) ⟨a, a⟩).hi (factorOf s q).hi 999999999 h2 ra2 ra6
        have s2 := @shrink_mono y.vol.lo y.vol.lo (rateOf s (s.cavs.el c) ⟨b, b⟩).hi (rateOf s (s.cavs.el c) ⟨a, a⟩).hi (factorOf s q).hi (factorOf s q).hi 999999999 999999999 (by omega) (by omega) (by omega) ur (by omega) (by omega) (by omega)
        show x.vol.lo - _ ≤ y.vol.lo - _
        omega
      have hg1 := @keepFrom_ge s c ⟨b, b⟩ q n (k + 1) (move1 s (s.cavs.el c) y ⟨b, b⟩ q)
      have hr := ih (k + 1) _ _ hxm hym m1 m2
      unfold keepFrom
      rw [hf, hfb, cond_false, cond_false]
      by_cases c1 : (move1 s (s.cavs.el c) x ⟨a, a⟩ q).vol.lo < (s.cavs.el c).floor
      · rw [decide_eq_true c1, cond_true]
        rw [keepFrom, hfb, cond_false] at hg
        exact hg
      · rw [decide_eq_false c1, decide_eq_false (by omega : ¬ (move1 s (s.cavs.el c) y ⟨b, b⟩ q).vol.lo < (s.cavs.el c).floor), cond_false, cond_false]
        cases c2 : anyF (nearB s c (move1 s (s.cavs.el c) x ⟨a, a⟩ q)) s.cavs.len 0 with
        | true =>
          rw [cond_true]
          cases anyF (nearB s c (move1 s (s.cavs.el c) y ⟨b, b⟩ q)) s.cavs.len 0
          · rw [cond_false]; omega
          · exact Nat.le_refl _
        | false =>
          have c3 : anyF (nearB s c (move1 s (s.cavs.el c) y ⟨b, b⟩ q)) s.cavs.len 0 = false := by
            cases e : anyF (nearB s c (move1 s (s.cavs.el c) y ⟨b, b⟩ q)) s.cavs.len 0 with
            | false => rfl
            | true =>
              obtain ⟨j, j1, j2, j3⟩ := (anyF_eq _ _ _).1 e
              have : anyF (nearB s c (move1 s (s.cavs.el c) x ⟨a, a⟩ q)) s.cavs.len 0 = true := by
                refine (anyF_eq _ _ _).2 ⟨j, j1, j2, ?_⟩
                simp only [nearB, Bool.and_eq_true, decide_eq_true_iff] at j3 ⊢
                exact ⟨j3.1, by omega⟩
              rw [c2] at this
              cases this
          rw [c3, cond_false, cond_false]
          exact hr
end Go.Sim.Cr

/-
  The least pressure: both searches find it.
-/
namespace Go.Sim.Cr
open Go.Proofs
variable (F d : Nat)
theorem keeps_mono {s : Site} (hS : SiteF s) {c : Nat} (hc : c < s.cavs.len) {a b : Int} {q : Span} (hab : a ≤ b) (hb : b ≤ (s.cavs.el c).rock) (hg : b ≤ (s.cavs.el c).gate.hi) (hl : (s.cavs.el c).gate.lo ≤ a) (hq : q.lo ≤ q.hi) (n : Nat) : keeps s c ⟨a, a⟩ q n ≤ keeps s c ⟨b, b⟩ q n := by
  unfold keeps
  rw [show (decide (a < (s.cavs.el c).gate.lo) || decide (a > (s.cavs.el c).gate.hi)) = false by simp; omega, show (decide (b < (s.cavs.el c).gate.lo) || decide (b > (s.cavs.el c).gate.hi)) = false by simp; omega, cond_false, cond_false]
  exact keepFrom_mono hS hc hab hb hq n 0 _ _ (start_ok hS hc) (start_ok hS hc) (Int.le_refl _) (Int.le_refl _)
/-- The greatest pressure that is of use. -/
abbrev mostP (c : Cav) : Int := if c.rock < c.gate.hi then c.rock else c.gate.hi
/-- The least pressure at which a cavern can be kept for so many days. -/
def IsLeast (s : Site) (c : Nat) (q : Span) (n : Nat) (r : Int) : Prop :=
  (s.cavs.el c).gate.lo ≤ r ∧ r ≤ mostP (s.cavs.el c) ∧ n ≤ keeps s c ⟨r, r⟩ q 60 ∧ ∀ x, (s.cavs.el c).gate.lo ≤ x → x < r → keeps s c ⟨x, x⟩ q 60 < n
def NoLeast (s : Site) (c : Nat) (q : Span) (n : Nat) : Prop := ∀ x, (s.cavs.el c).gate.lo ≤ x → x ≤ mostP (s.cavs.el c) → keeps s c ⟨x, x⟩ q 60 < n
theorem least_uniq {s : Site} {c : Nat} {q : Span} {n : Nat} {r r' : Int} (h : IsLeast s c q n r) (h' : IsLeast s c q n r') : r = r' := by
  rcases Int.lt_trichotomy r r' with h1 | h1 | h1
  · have := h'.2.2.2 r h.1 h1; have := h.2.2.1; omega
  · exact h1
  · have := h.2.2.2 r' h'.1 h1; have := h'.2.2.1; omega
theorem least_no {s : Site} {c : Nat} {q : Span} {n : Nat} {r : Int} (h : IsLeast s c q n r) (h' : NoLeast s c q n) : False := by
  have := h' r h.1 h.2.1; have := h.2.2.1; omega
/-- A number on whose left nothing holds. -/
theorem least_of {s : Site} (hS : SiteF s) {c : Nat} (hc : c < s.cavs.len) {q : Span} (hq : q.lo ≤ q.hi) {n : Nat} {r : Int} (h1 : (s.cavs.el c).gate.lo ≤ r) (h2 : r ≤ mostP (s.cavs.el c) + 1)
    (h3 : r ≤ mostP (s.cavs.el c) → n ≤ keeps s c ⟨r, r⟩ q 60) (h4 : (s.cavs.el c).gate.lo < r → keeps s c ⟨r - 1, r - 1⟩ q 60 < n) :
    (r ≤ mostP (s.cavs.el c) → IsLeast s c q n r) ∧ (r > mostP (s.cavs.el c) → NoLeast s c q n) := by
  have key : ∀ x, (s.cavs.el c).gate.lo ≤ x → x < r → keeps s c ⟨x, x⟩ q 60 < n := by
    intro x hx1 hx2
    have g1 : mostP (s.cavs.el c) ≤ (s.cavs.el c).rock := by unfold mostP; split <;> omega
    have g2 : mostP (s.cavs.el c) ≤ (s.cavs.el c).gate.hi := by unfold mostP; split <;> omega
    have m := keeps_mono hS hc (a := x) (b := r - 1) (q := q) (by omega) (by omega) (by omega) hx1 hq 60
    have := h4 (by omega)
    omega
  refine ⟨fun h => ⟨h1, h, h3 h, key⟩, fun h x hx1 hx2 => key x hx1 (by omega)⟩
theorem s77 (s : Site) (c : Nat) (p : Int) (q : Span) (N : Nat) (hN : N ≤ 60) (hS : SiteF s) (hc : c < s.cavs.len) (hp : 0 ≤ p ∧ p ≤ 50000) (hq : SpanIn q 0 10000) (hF : 67108864 < F) :
    E F (d + 8) 77 [.int .i64 p, .rptr 1 1 (fun _ => [pSite s]) 0 0, .rptr 1 1 (fun _ => [.int .i64 (c : Int)]) 0 0, .rptr 1 2 (fun _ => eSpan q) 0 0, .rptr 1 1 (fun _ => [.int .i64 (N : Int)]) 0 0] = some (.ret (.bool (decide (N ≤ keeps s c ⟨p, p⟩ q N)))) := by
  have e75 : E F (d + 7) 75 [pSite s, .int .i64 (c : Int), .agg [.int .i64 p, .int .i64 p], .agg (eSpan q), .int .i64 (N : Int)] = _ := s75 F d s c ⟨p, p⟩ q N hN hS hc ⟨hp.1, Int.le_refl _, hp.2⟩ hq hF
  rw [E_succ, t77]
  simp only [e75, tkOut_ret, tkInt_i, decide_true, cond_true]
  refine b3 ?_
  apply b2
  simp only [decide_eq_true_iff]
  omega
theorem mostP_ok {s : Site} (hS : SiteF s) {c : Nat} (hc : c < s.cavs.len) : 0 ≤ mostP (s.cavs.el c) ∧ mostP (s.cavs.el c) ≤ 50000 ∧ 0 ≤ (s.cavs.el c).gate.lo ∧ (s.cavs.el c).gate.lo ≤ 50000 := by
  have := hS.cav c hc
  unfold mostP
  split <;> omega
/-- What 'Least' answers behind its checks. -/
theorem s76l (s : Site) (c : Nat) (q : Span) (N : Nat) (h0 : 0 < N) (hN : N ≤ 60) (hS : SiteF s) (hc : c < s.cavs.len) (hq : SpanIn q 0 10000) (hF : 67108864 < F) :
    ∃ r, E F (d + 9) 76 [.int .i64 (s.cavs.el c).gate.lo, .int .i64 (mostP (s.cavs.el c) + 1), .fn (.func 77) [] [.rptr 1 1 (fun _ => [pSite s]) 0 0, .rptr 1 1 (fun _ => [.int .i64 (c : Int)]) 0 0, .rptr 1 2 (fun _ => eSpan q) 0 0, .rptr 1 1 (fun _ => [.int .i64 (N : Int)]) 0 0]] = some (.ret (.int .i64 r)) ∧
      ((r ≤ mostP (s.cavs.el c) ∧ IsLeast s c q N r) ∨ (r > mostP (s.cavs.el c) ∧ NoLeast s c q N)) := by
  obtain ⟨a1, a2, a3, a4⟩ := mostP_ok hS hc
  rw [E_succ, t7604]
  by_cases hlt : (s.cavs.el c).gate.lo ≤ mostP (s.cavs.el c) + 1
  · obtain ⟨r, e, r1, r2, r3, r4⟩ := firstLaw (fun fu i j => L7604x0 (E F (d + 8)) F (s.cavs.el c).gate.lo (mostP (s.cavs.el c) + 1) s (c : Int) (N : Int) q fu i j) (fun x => decide (N ≤ keeps s c ⟨x, x⟩ q N)) (s.cavs.el c).gate.lo (mostP (s.cavs.el c) + 1)
      (fun fu i j h1 h2 h3 => by
        show L7604x0 _ _ _ _ _ _ _ _ (fu + 1) i j = _
        rw [L7604x0s, mid_wr (by omega) h2 (by omega)]
        by_cases hij : i < j
        · rw [wr (n := i + (j - i) / 2 + 1) (by omega)]
          simp only [decide_eq_true hij, cond_true, s77 F d s c (i + (j - i) / 2) q N hN hS hc (by omega) hq hF, tkOut_ret, tkBool_b]
        · rw [decide_eq_false hij, cond_false, cond_false])
      60000 F (s.cavs.el c).gate.lo (mostP (s.cavs.el c) + 1) (by omega) (by omega) (Int.le_refl _) hlt (Int.le_refl _)
    have cap : ∀ x, N ≤ keeps s c ⟨x, x⟩ q N ↔ N ≤ keeps s c ⟨x, x⟩ q 60 := fun x => keeps_cap hN h0
    obtain ⟨l1, l2⟩ := least_of hS hc (q := q) hq.2.1 (n := N) (r := r) r1 r2 (fun h => (cap r).1 (of_decide_eq_true (r3 (by omega)))) (fun h => by
      have := of_decide_eq_false (r4 h)
      have c1 := cap (r - 1)
      omega)
    refine ⟨r, e, ?_⟩
    by_cases hr : r ≤ mostP (s.cavs.el c)
    · exact .inl ⟨hr, l1 hr⟩
    · exact .inr ⟨by omega, l2 (by omega)⟩
  · obtain ⟨fu, hfu⟩ : ∃ k, F = k + 1 := ⟨F - 1, by omega⟩
    refine ⟨(s.cavs.el c).gate.lo, ?_, .inr ⟨by omega, fun x h1 h2 => by omega⟩⟩
    have g := L7604x0s (E F (d + 8)) F (s.cavs.el c).gate.lo (mostP (s.cavs.el c) + 1) s (c : Int) (N : Int) q fu (s.cavs.el c).gate.lo (mostP (s.cavs.el c) + 1)
    rw [decide_eq_false (show ¬ (s.cavs.el c).gate.lo < mostP (s.cavs.el c) + 1 by omega), cond_false, ← hfu] at g
    exact g
/-- What 'Least' answers. -/
theorem s42 (s : Site) (c : Int) (q : Span) (n : Int) (hs : Small s F) (hF : 67108864 < F) :
    (n > 60 → E F (d + 10) 42 [.agg (eSite s), .int .i64 c, .agg (eSpan q), .int .i64 n] = some (.ret (.tup [.int .i64 0, .int .i64 3]))) ∧
    (¬ n > 60 → ¬ (siteB s = true ∧ (0 ≤ c ∧ c < (s.cavs.len : Int)) ∧ SpanIn q 0 10000 ∧ 0 ≤ n) → E F (d + 10) 42 [.agg (eSite s), .int .i64 c, .agg (eSpan q), .int .i64 n] = some (.ret (.tup [.int .i64 0, .int .i64 2]))) ∧
    (SiteF s → (0 ≤ c ∧ c < (s.cavs.len : Int)) → SpanIn q 0 10000 → n = 0 → E F (d + 10) 42 [.agg (eSite s), .int .i64 c, .agg (eSpan q), .int .i64 n] = some (.ret (.tup [.int .i64 0, .int .i64 0]))) ∧
    (SiteF s → (0 ≤ c ∧ c < (s.cavs.len : Int)) → SpanIn q 0 10000 → 0 < n → n ≤ 60 →
      (∃ r, E F (d + 10) 42 [.agg (eSite s), .int .i64 c, .agg (eSpan q), .int .i64 n] = some (.ret (.tup [.int .i64 r, .int .i64 0])) ∧ IsLeast s c.toNat q n.toNat r) ∨
      (E F (d + 10) 42 [.agg (eSite s), .int .i64 c, .agg (eSpan q), .int .i64 n] = some (.ret (.tup [.int .i64 0, .int .i64 5])) ∧ NoLeast s c.toNat q n.toNat)) := by
  rw [E_succ, t42]
  refine ⟨fun h => by rw [decide_eq_true h, cond_true], ?_, ?_, ?_⟩
  · intro h hx
    simp only [decide_eq_false h, cond_false, s48 F (d + 3) s hs, s72, s74, tkOut_ret, tkBool_b]
    cases h1 : siteB s with
    | false => rfl
    | true =>
      have hS := (siteB_iff s).1 h1
      have h5 := hS.cavs5
      rw [wrLen hS.cavs1 (by omega), inLen hS.cavs1]
      by_cases h2 : 0 ≤ c ∧ c < (s.cavs.len : Int)
      · by_cases h3 : SpanIn q 0 10000
        · have h4 : n < 0 := by
            rcases Int.lt_or_le n 0 with h4 | h4
            · exact h4
            · exact (hx ⟨h1, h2, h3, h4⟩).elim
          simp only [decide_eq_true h2, decide_eq_true h3, decide_eq_true h4, Bool.not_true, cond_false, cond_true]
        · simp only [decide_eq_true h2, decide_eq_false h3, Bool.not_true, Bool.not_false, cond_false, cond_true]
      · simp only [decide_eq_false h2, Bool.not_true, Bool.not_false, cond_false, cond_true]
  · intro hS h2 h3 hn
    subst hn
    have h5 := hS.cavs5
    have h1 := (siteB_iff s).2 hS
    simp only [show decide ((0 : Int) > 60) = false from rfl, cond_false, s48 F (d + 3) s hs, h1, s72, s74, tkOut_ret, tkBool_b]
    rw [wrLen hS.cavs1 (by omega), inLen hS.cavs1]
    simp only [decide_eq_true h2, decide_eq_true h3, Bool.not_true, cond_false]
    rfl
  · intro hS h2 h3 hn0 hn
    obtain ⟨c, rfl⟩ := Int.eq_ofNat_of_zero_le h2.1
    obtain ⟨n, rfl⟩ := Int.eq_ofNat_of_zero_le (show 0 ≤ n by omega)
    have h5 := hS.cavs5
    have h1 := (siteB_iff s).2 hS
    have hm := mostP_ok hS (show c < s.cavs.len by omega)
    obtain ⟨r, e, hr⟩ := s76l F d s c q n (by omega) (by omega) hS (by omega) h3 hF
    have hz : ((n : Int) == 0) = false := by simp; omega
    have ew : IntKind.i64.wrap (mostP (s.cavs.el c) + 1) = mostP (s.cavs.el c) + 1 := wr (by omega)
    rw [Int.toNat_natCast, Int.toNat_natCast]
    simp only [decide_eq_false (show ¬ (n : Int) > 60 by omega), cond_false, s48 F (d + 3) s hs, h1, s72, s74, tkOut_ret, tkBool_b, hz, decide_eq_false (show ¬ (n : Int) < 0 by omega)]
    rw [wrLen hS.cavs1 (by omega), inLen hS.cavs1]
    simp only [decide_eq_true h2, decide_eq_true h3, decide_eq_true h2.1, decide_eq_true h2.2, Bool.not_true, cond_false, cond_true, Int.toNat_natCast]
    rw [ew, e]
    simp only [tkOut_ret, tkInt_i, decide_true, cond_true]
    rcases hr with ⟨hr, hl⟩ | ⟨hr, hl⟩
    · left
      refine ⟨r, ?_, hl⟩
      rw [decide_eq_false (show ¬ r > mostP (s.cavs.el c) by omega), cond_false]
    · right
      refine ⟨?_, hl⟩
      rw [decide_eq_true hr, cond_true]
/-- The specification's search. -/
theorem l44 (s : Site) (c : Nat) (q : Span) (N : Nat) (hS : SiteF s) (hc : c < s.cavs.len) (hq : SpanIn q 0 10000) (hF : 2147483648 < F) : ∀ k fu (i j : Int), (j - i).toNat ≤ k → k < fu → (s.cavs.el c).gate.lo ≤ i → i ≤ j → j ≤ mostP (s.cavs.el c) →
    N ≤ keeps s c ⟨j, j⟩ q 60 → ((s.cavs.el c).gate.lo < i → keeps s c ⟨i - 1, i - 1⟩ q 60 < N) → ∃ r, L44x0 (E F (d + 4)) F s (c : Int) q (N : Int) fu i j = some (.ret (.int .i64 r)) ∧ IsLeast s c q N r := by
  obtain ⟨a1, a2, a3, a4⟩ := mostP_ok hS hc
  intro k
  induction k with
  | zero =>
    intro fu i j h hf h1 h2 h3 h4 h5
    obtain ⟨fu, rfl⟩ : ∃ k, fu = k + 1 := ⟨fu - 1, by omega⟩
    obtain rfl : i = j := by omega
    refine ⟨i, ?_, (least_of hS hc hq.2.1 h1 (by omega) (fun _ => h4) h5).1 h3⟩
    rw [L44x0s, decide_eq_false (by omega), cond_false]
  | succ k ih =>
    intro fu i j h hf h1 h2 h3 h4 h5
    obtain ⟨fu, rfl⟩ : ∃ k, fu = k + 1 := ⟨fu - 1, by omega⟩
    by_cases hij : i < j
    · have w1 : IntKind.i64.wrap (i + j) = i + j := wr (by omega)
      have w2 : IntKind.i64.wrap ((i + j).tdiv 2) = (i + j) / 2 := by rw [Int.tdiv_eq_ediv_of_nonneg (by omega)]; exact wr (by omega)
      have w3 : IntKind.i64.wrap ((i + j) / 2 + 1) = (i + j) / 2 + 1 := wr (by omega)
      have e45 : E F (d + 4) 45 [.agg (eSite s), .int .i64 (c : Int), .agg [.int .i64 ((i + j) / 2), .int .i64 ((i + j) / 2)], .agg (eSpan q)] = _ := s45 F d s c ⟨(i + j) / 2, (i + j) / 2⟩ q hS hc ⟨by show 0 ≤ (i + j) / 2; omega, Int.le_refl _, by show (i + j) / 2 ≤ 50000; omega⟩ hq hF
      rw [L44x0s, decide_eq_true hij, cond_true, w1, w2, w3, e45]
      simp only [tkOut_ret, tkInt_i, decide_true, cond_true]
      by_cases hk : N ≤ keeps s c ⟨(i + j) / 2, (i + j) / 2⟩ q 60
      · rw [decide_eq_true (show ((keeps s c ⟨(i + j) / 2, (i + j) / 2⟩ q 60 : Nat) : Int) ≥ (N : Int) by omega), cond_true]
        exact ih fu i ((i + j) / 2) (by omega) (by omega) h1 (by omega) (by omega) hk h5
      · rw [decide_eq_false (show ¬ ((keeps s c ⟨(i + j) / 2, (i + j) / 2⟩ q 60 : Nat) : Int) ≥ (N : Int) by omega), cond_false]
        exact ih fu ((i + j) / 2 + 1) j (by omega) (by omega) (by omega) (by omega) h3 h4 (fun _ => by rw [show (i + j) / 2 + 1 - 1 = (i + j) / 2 by omega]; omega)
    · obtain rfl : i = j := by omega
      refine ⟨i, ?_, (least_of hS hc hq.2.1 h1 (by omega) (fun _ => h4) h5).1 h3⟩
      rw [L44x0s, decide_eq_false (by omega), cond_false]
theorem s44 (s : Site) (c : Nat) (q : Span) (N : Nat) (hS : SiteF s) (hc : c < s.cavs.len) (hq : SpanIn q 0 10000) (hF : 2147483648 < F) :
    (N = 0 → E F (d + 5) 44 [.agg (eSite s), .int .i64 (c : Int), .agg (eSpan q), .int .i64 (N : Int)] = some (.ret (.int .i64 0))) ∧
    (0 < N → (∃ r, E F (d + 5) 44 [.agg (eSite s), .int .i64 (c : Int), .agg (eSpan q), .int .i64 (N : Int)] = some (.ret (.int .i64 r)) ∧ IsLeast s c q N r) ∨
      (E F (d + 5) 44 [.agg (eSite s), .int .i64 (c : Int), .agg (eSpan q), .int .i64 (N : Int)] = some (.ret (.int .i64 (-1))) ∧ NoLeast s c q N)) := by
  obtain ⟨a1, a2, a3, a4⟩ := mostP_ok hS hc
  rw [E_succ, t44]
  refine ⟨fun h => by subst h; rfl, fun h0 => ?_⟩
  have hz : ((N : Int) == 0) = false := by simp; omega
  have e45 : E F (d + 4) 45 [.agg (eSite s), .int .i64 (c : Int), .agg [.int .i64 (mostP (s.cavs.el c)), .int .i64 (mostP (s.cavs.el c))], .agg (eSpan q)] = _ := s45 F d s c ⟨mostP (s.cavs.el c), mostP (s.cavs.el c)⟩ q hS hc ⟨a1, Int.le_refl _, a2⟩ hq hF
  simp only [hz, cond_false, Int.natCast_nonneg, Int.ofNat_lt, hc, decide_true, cond_true, Int.toNat_natCast]
  by_cases hg : (s.cavs.el c).gate.lo > mostP (s.cavs.el c)
  · right
    refine ⟨?_, fun x h1 h2 => by omega⟩
    rw [show decide ((s.cavs.el c).gate.lo > if (s.cavs.el c).rock < (s.cavs.el c).gate.hi then (s.cavs.el c).rock else (s.cavs.el c).gate.hi) = true from decide_eq_true hg, cond_true]
  · rw [show decide ((s.cavs.el c).gate.lo > if (s.cavs.el c).rock < (s.cavs.el c).gate.hi then (s.cavs.el c).rock else (s.cavs.el c).gate.hi) = false from decide_eq_false hg, cond_false, e45]
    simp only [tkOut_ret, tkInt_i, decide_true, cond_true]
    by_cases hk : N ≤ keeps s c ⟨mostP (s.cavs.el c), mostP (s.cavs.el c)⟩ q 60
    · left
      rw [decide_eq_false (show ¬ ((keeps s c ⟨mostP (s.cavs.el c), mostP (s.cavs.el c)⟩ q 60 : Nat) : Int) < (N : Int) by omega), cond_false]
      exact l44 F d s c q N hS hc hq hF 60000 F (s.cavs.el c).gate.lo (mostP (s.cavs.el c)) (by omega) (by omega) (Int.le_refl _) (by omega) (Int.le_refl _) hk (fun h => by omega)
    · right
      refine ⟨?_, fun x h1 h2 => ?_⟩
      · rw [decide_eq_true (show ((keeps s c ⟨mostP (s.cavs.el c), mostP (s.cavs.el c)⟩ q 60 : Nat) : Int) < (N : Int) by omega), cond_true]
      · have g1 : mostP (s.cavs.el c) ≤ (s.cavs.el c).rock := by unfold mostP; split <;> omega
        have g2 : mostP (s.cavs.el c) ≤ (s.cavs.el c).gate.hi := by unfold mostP; split <;> omega
        have := keeps_mono hS hc (a := x) (b := mostP (s.cavs.el c)) (q := q) h2 g1 g2 h1 hq.2.1 60
        omega
end Go.Sim.Cr

/-
  What the evaluator says of these functions (printed by a private program; each row is checked by the kernel).
-/
set_option maxRecDepth 100000
namespace Go.Sim.Cr
open Go.Proofs

theorem t9 (env : Env) (F : Nat) (s : Site) (c : Int) (p : Span) (q : Span) (n : Int) : (evFun Try.prog (cfg F) env 9 [(.agg (eSite s)), (.int .i64 c), (.agg (eSpan p)), (.agg (eSpan q)), (.int .i64 n)]) =
  (tkOut (env 11 [(.agg (eSite s))]) none (fun v7 => (tkBool v7 none fun b8 => (bif (!b8) then (tkOut (env 13 []) none (fun v9 => (tkBool v9 none fun b10 => some (.ret (.bool b10))))
        (fun p9 => (tkIfc p9 none fun t10 x11 => (bif (flatP (.iface t10 x11)) then some (.pan (.iface t10 x11))
            else none))))
      else (tkOut (env 41 [(.agg (eSite s)), (.int .i64 c), (.agg (eSpan p)), (.agg (eSpan q))]) none (fun v9 => (tkTup v9 none fun l10 => (tkCons l10 none fun v11 r12 => (tkInt v11 none fun q13 n14 => (tkCons r12 none fun v15 r16 => (tkInt v15 none fun q17 n18 => (tkNil r16 none ((tkOut (env 42 [(.agg (eSite s)), (.int .i64 c), (.agg (eSpan q)), (.int .i64 n)]) none (fun v19 => (tkTup v19 none fun l20 => (tkCons l20 none fun v21 r22 => (tkInt v21 none fun q23 n24 => (tkCons r22 none fun v25 r26 => (tkInt v25 none fun q27 n28 => (tkNil r26 none ((tkOut (env 16 [(.agg (eSite s))]) none (fun v29 => (tkBool v29 none fun b30 => (bif b30 then (tkOut (env 39 [(.agg (eSite s)), (.int .i64 c)]) none (fun v31 => (tkBool v31 none fun b32 => (bif b32 then (tkOut (env 43 [(.agg (eSpan q)), (.int .i64 (0 : Int)), (.int .i64 (10000 : Int))]) none (fun v33 => (tkBool v33 none fun b34 => (bif (decide (n > (60 : Int))) then (bif (decide (q27 = .i64)) then (bif (n28 != (3 : Int)) then some (.ret (.bool false))
                                                        else (bif (decide (q23 = .i64)) then (bif (n24 != (0 : Int)) then some (.ret (.bool false))
                                                            else (bif (!b34) then (bif (decide (q17 = .i64)) then (bif (n18 == (2 : Int)) then (bif (decide (q13 = .i64)) then (bif (n14 == (0 : Int)) then (tkOut (env 13 []) none (fun v35 => (tkBool v35 none fun b36 => some (.ret (.bool b36))))
                                                                        (fun p35 => (tkIfc p35 none fun t36 x37 => (bif (flatP (.iface t36 x37)) then some (.pan (.iface t36 x37))
                                                                            else none))))
                                                                      else some (.ret (.bool false)))
                                                                    else none)
                                                                  else some (.ret (.bool false)))
                                                                else none)
                                                              else (tkOut (env 43 [(.agg (eSpan p)), (.int .i64 (0 : Int)), (.int .i64 (50000 : Int))]) none (fun v35 => (tkBool v35 none fun b36 => (bif (!b36) then (bif (decide (q17 = .i64)) then (bif (n18 == (2 : Int)) then (bif (decide (q13 = .i64)) then (bif (n14 == (0 : Int)) then (tkOut (env 13 []) none (fun v37 => (tkBool v37 none fun b38 => some (.ret (.bool b38))))
                                                                              (fun p37 => (tkIfc p37 none fun t38 x39 => (bif (flatP (.iface t38 x39)) then some (.pan (.iface t38 x39))
                                                                                  else none))))
                                                                            else some (.ret (.bool false)))
                                                                          else none)
                                                                        else some (.ret (.bool false)))
                                                                      else none)
                                                                    else (bif (decide (q17 = .i64)) then (bif (n18 == (0 : Int)) then (tkOut (env 45 [(.agg (eSite s)), (.int .i64 c), (.agg (eSpan p)), (.agg (eSpan q))]) none (fun v37 => (tkInt v37 none fun q38 n39 => (bif (decide (q13 = q38)) then (bif (n14 == n39) then (tkOut (env 13 []) none (fun v40 => (tkBool v40 none fun b41 => some (.ret (.bool b41))))
                                                                                  (fun p40 => (tkIfc p40 none fun t41 x42 => (bif (flatP (.iface t41 x42)) then some (.pan (.iface t41 x42))
                                                                                      else none))))
                                                                                else some (.ret (.bool false)))
                                                                              else none)))
                                                                          (fun p37 => (tkIfc p37 none fun t38 x39 => (bif (flatP (.iface t38 x39)) then some (.pan (.iface t38 x39))
                                                                              else none))))
                                                                        else some (.ret (.bool false)))
                                                                      else none))))
                                                                (fun p35 => (tkIfc p35 none fun t36 x37 => (bif (flatP (.iface t36 x37)) then some (.pan (.iface t36 x37))
                                                                    else none))))))
                                                          else none))
                                                      else none)
                                                    else (bif (!b34) then (bif (decide (q27 = .i64)) then (bif (n28 != (2 : Int)) then some (.ret (.bool false))
                                                          else (bif (decide (q23 = .i64)) then (bif (n24 != (0 : Int)) then some (.ret (.bool false))
                                                              else (bif (!b34) then (bif (decide (q17 = .i64)) then (bif (n18 == (2 : Int)) then (bif (decide (q13 = .i64)) then (bif (n14 == (0 : Int)) then (tkOut (env 13 []) none (fun v35 => (tkBool v35 none fun b36 => some (.ret (.bool b36))))
                                                                          (fun p35 => (tkIfc p35 none fun t36 x37 => (bif (flatP (.iface t36 x37)) then some (.pan (.iface t36 x37))
                                                                              else none))))
                                                                        else some (.ret (.bool false)))
                                                                      else none)
                                                                    else some (.ret (.bool false)))
                                                                  else none)
                                                                else (tkOut (env 43 [(.agg (eSpan p)), (.int .i64 (0 : Int)), (.int .i64 (50000 : Int))]) none (fun v35 => (tkBool v35 none fun b36 => (bif (!b36) then (bif (decide (q17 = .i64)) then (bif (n18 == (2 : Int)) then (bif (decide (q13 = .i64)) then (bif (n14 == (0 : Int)) then (tkOut (env 13 []) none (fun v37 => (tkBool v37 none fun b38 => some (.ret (.bool b38))))
                                                                                (fun p37 => (tkIfc p37 none fun t38 x39 => (bif (flatP (.iface t38 x39)) then some (.pan (.iface t38 x39))
                                                                                    else none))))
                                                                              else some (.ret (.bool false)))
                                                                            else none)
                                                                          else some (.ret (.bool false)))
                                                                        else none)
                                                                      else (bif (decide (q17 = .i64)) then (bif (n18 == (0 : Int)) then (tkOut (env 45 [(.agg (eSite s)), (.int .i64 c), (.agg (eSpan p)), (.agg (eSpan q))]) none (fun v37 => (tkInt v37 none fun q38 n39 => (bif (decide (q13 = q38)) then (bif (n14 == n39) then (tkOut (env 13 []) none (fun v40 => (tkBool v40 none fun b41 => some (.ret (.bool b41))))
                                                                                    (fun p40 => (tkIfc p40 none fun t41 x42 => (bif (flatP (.iface t41 x42)) then some (.pan (.iface t41 x42))
                                                                                        else none))))
                                                                                  else some (.ret (.bool false)))
                                                                                else none)))
                                                                            (fun p37 => (tkIfc p37 none fun t38 x39 => (bif (flatP (.iface t38 x39)) then some (.pan (.iface t38 x39))
                                                                                else none))))
                                                                          else some (.ret (.bool false)))
                                                                        else none))))
                                                                  (fun p35 => (tkIfc p35 none fun t36 x37 => (bif (flatP (.iface t36 x37)) then some (.pan (.iface t36 x37))
                                                                      else none))))))
                                                            else none))
                                                        else none)
                                                      else (bif (decide (n < (0 : Int))) then (bif (decide (q27 = .i64)) then (bif (n28 != (2 : Int)) then some (.ret (.bool false))
                                                            else (bif (decide (q23 = .i64)) then (bif (n24 != (0 : Int)) then some (.ret (.bool false))
                                                                else (bif (!b34) then (bif (decide (q17 = .i64)) then (bif (n18 == (2 : Int)) then (bif (decide (q13 = .i64)) then (bif (n14 == (0 : Int)) then (tkOut (env 13 []) none (fun v35 => (tkBool v35 none fun b36 => some (.ret (.bool b36))))
                                                                            (fun p35 => (tkIfc p35 none fun t36 x37 => (bif (flatP (.iface t36 x37)) then some (.pan (.iface t36 x37))
                                                                                else none))))
                                                                          else some (.ret (.bool false)))
                                                                        else none)
                                                                      else some (.ret (.bool false)))
                                                                    else none)
                                                                  else (tkOut (env 43 [(.agg (eSpan p)), (.int .i64 (0 : Int)), (.int .i64 (50000 : Int))]) none (fun v35 => (tkBool v35 none fun b36 => (bif (!b36) then (bif (decide (q17 = .i64)) then (bif (n18 == (2 : Int)) then (bif (decide (q13 = .i64)) then (bif (n14 == (0 : Int)) then (tkOut (env 13 []) none (fun v37 => (tkBool v37 none fun b38 => some (.ret (.bool b38))))
                                                                                  (fun p37 => (tkIfc p37 none fun t38 x39 => (bif (flatP (.iface t38 x39)) then some (.pan (.iface t38 x39))
                                                                                      else none))))
                                                                                else some (.ret (.bool false)))
                                                                              else none)
                                                                            else some (.ret (.bool false)))
                                                                          else none)
                                                                        else (bif (decide (q17 = .i64)) then (bif (n18 == (0 : Int)) then (tkOut (env 45 [(.agg (eSite s)), (.int .i64 c), (.agg (eSpan p)), (.agg (eSpan q))]) none (fun v37 => (tkInt v37 none fun q38 n39 => (bif (decide (q13 = q38)) then (bif (n14 == n39) then (tkOut (env 13 []) none (fun v40 => (tkBool v40 none fun b41 => some (.ret (.bool b41))))
                                                                                      (fun p40 => (tkIfc p40 none fun t41 x42 => (bif (flatP (.iface t41 x42)) then some (.pan (.iface t41 x42))
                                                                                          else none))))
                                                                                    else some (.ret (.bool false)))
                                                                                  else none)))
                                                                              (fun p37 => (tkIfc p37 none fun t38 x39 => (bif (flatP (.iface t38 x39)) then some (.pan (.iface t38 x39))
                                                                                  else none))))
                                                                            else some (.ret (.bool false)))
                                                                          else none))))
                                                                    (fun p35 => (tkIfc p35 none fun t36 x37 => (bif (flatP (.iface t36 x37)) then some (.pan (.iface t36 x37))
                                                                        else none))))))
                                                              else none))
                                                          else none)
                                                        else (tkOut (env 44 [(.agg (eSite s)), (.int .i64 c), (.agg (eSpan q)), (.int .i64 n)]) none (fun v35 => (tkInt v35 none fun q36 n37 => (bif (decide (q36 = .i64)) then (bif (decide (n37 < (0 : Int))) then (bif (decide (q27 = .i64)) then (bif (n28 != (5 : Int)) then some (.ret (.bool false))
                                                                    else (bif (decide (q23 = .i64)) then (bif (n24 != (0 : Int)) then some (.ret (.bool false))
                                                                        else (bif (decide (q36 = .i64)) then (bif (decide (n37 ≥ (0 : Int))) then (bif (decide (q27 = .i64)) then (bif (n28 != (0 : Int)) then some (.ret (.bool false))
                                                                                else (bif (decide (q23 = q36)) then (bif (n24 != n37) then some (.ret (.bool false))
                                                                                    else (bif (!b34) then (bif (decide (q17 = .i64)) then (bif (n18 == (2 : Int)) then (bif (decide (q13 = .i64)) then (bif (n14 == (0 : Int)) then (tkOut (env 13 []) none (fun v38 => (tkBool v38 none fun b39 => some (.ret (.bool b39))))
                                                                                                (fun p38 => (tkIfc p38 none fun t39 x40 => (bif (flatP (.iface t39 x40)) then some (.pan (.iface t39 x40))
                                                                                                    else none))))
                                                                                              else some (.ret (.bool false)))
                                                                                            else none)
                                                                                          else some (.ret (.bool false)))
                                                                                        else none)
                                                                                      else (tkOut (env 43 [(.agg (eSpan p)), (.int .i64 (0 : Int)), (.int .i64 (50000 : Int))]) none (fun v38 => (tkBool v38 none fun b39 => (bif (!b39) then (bif (decide (q17 = .i64)) then (bif (n18 == (2 : Int)) then (bif (decide (q13 = .i64)) then (bif (n14 == (0 : Int)) then (tkOut (env 13 []) none (fun v40 => (tkBool v40 none fun b41 => some (.ret (.bool b41))))
                                                                                                      (fun p40 => (tkIfc p40 none fun t41 x42 => (bif (flatP (.iface t41 x42)) then some (.pan (.iface t41 x42))
                                                                                                          else none))))
                                                                                                    else some (.ret (.bool false)))
                                                                                                  else none)
                                                                                                else some (.ret (.bool false)))
                                                                                              else none)
                                                                                            else (bif (decide (q17 = .i64)) then (bif (n18 == (0 : Int)) then (tkOut (env 45 [(.agg (eSite s)), (.int .i64 c), (.agg (eSpan p)), (.agg (eSpan q))]) none (fun v40 => (tkInt v40 none fun q41 n42 => (bif (decide (q13 = q41)) then (bif (n14 == n42) then (tkOut (env 13 []) none (fun v43 => (tkBool v43 none fun b44 => some (.ret (.bool b44))))
                                                                                                          (fun p43 => (tkIfc p43 none fun t44 x45 => (bif (flatP (.iface t44 x45)) then some (.pan (.iface t44 x45))
                                                                                                              else none))))
                                                                                                        else some (.ret (.bool false)))
                                                                                                      else none)))
                                                                                                  (fun p40 => (tkIfc p40 none fun t41 x42 => (bif (flatP (.iface t41 x42)) then some (.pan (.iface t41 x42))
                                                                                                      else none))))
                                                                                                else some (.ret (.bool false)))
                                                                                              else none))))
                                                                                        (fun p38 => (tkIfc p38 none fun t39 x40 => (bif (flatP (.iface t39 x40)) then some (.pan (.iface t39 x40))
                                                                                            else none))))))
                                                                                  else none))
                                                                              else none)
                                                                            else (bif (!b34) then (bif (decide (q17 = .i64)) then (bif (n18 == (2 : Int)) then (bif (decide (q13 = .i64)) then (bif (n14 == (0 : Int)) then (tkOut (env 13 []) none (fun v38 => (tkBool v38 none fun b39 => some (.ret (.bool b39))))
                                                                                        (fun p38 => (tkIfc p38 none fun t39 x40 => (bif (flatP (.iface t39 x40)) then some (.pan (.iface t39 x40))
                                                                                            else none))))
                                                                                      else some (.ret (.bool false)))
                                                                                    else none)
                                                                                  else some (.ret (.bool false)))
                                                                                else none)
                                                                              else (tkOut (env 43 [(.agg (eSpan p)), (.int .i64 (0 : Int)), (.int .i64 (50000 : Int))]) none (fun v38 => (tkBool v38 none fun b39 => (bif (!b39) then (bif (decide (q17 = .i64)) then (bif (n18 == (2 : Int)) then (bif (decide (q13 = .i64)) then (bif (n14 == (0 : Int)) then (tkOut (env 13 []) none (fun v40 => (tkBool v40 none fun b41 => some (.ret (.bool b41))))
                                                                                              (fun p40 => (tkIfc p40 none fun t41 x42 => (bif (flatP (.iface t41 x42)) then some (.pan (.iface t41 x42))
                                                                                                  else none))))
                                                                                            else some (.ret (.bool false)))
                                                                                          else none)
                                                                                        else some (.ret (.bool false)))
                                                                                      else none)
                                                                                    else (bif (decide (q17 = .i64)) then (bif (n18 == (0 : Int)) then (tkOut (env 45 [(.agg (eSite s)), (.int .i64 c), (.agg (eSpan p)), (.agg (eSpan q))]) none (fun v40 => (tkInt v40 none fun q41 n42 => (bif (decide (q13 = q41)) then (bif (n14 == n42) then (tkOut (env 13 []) none (fun v43 => (tkBool v43 none fun b44 => some (.ret (.bool b44))))
                                                                                                  (fun p43 => (tkIfc p43 none fun t44 x45 => (bif (flatP (.iface t44 x45)) then some (.pan (.iface t44 x45))
                                                                                                      else none))))
                                                                                                else some (.ret (.bool false)))
                                                                                              else none)))
                                                                                          (fun p40 => (tkIfc p40 none fun t41 x42 => (bif (flatP (.iface t41 x42)) then some (.pan (.iface t41 x42))
                                                                                              else none))))
                                                                                        else some (.ret (.bool false)))
                                                                                      else none))))
                                                                                (fun p38 => (tkIfc p38 none fun t39 x40 => (bif (flatP (.iface t39 x40)) then some (.pan (.iface t39 x40))
                                                                                    else none))))))
                                                                          else none))
                                                                      else none))
                                                                  else none)
                                                                else (bif (decide (q36 = .i64)) then (bif (decide (n37 ≥ (0 : Int))) then (bif (decide (q27 = .i64)) then (bif (n28 != (0 : Int)) then some (.ret (.bool false))
                                                                        else (bif (decide (q23 = q36)) then (bif (n24 != n37) then some (.ret (.bool false))
                                                                            else (bif (!b34) then (bif (decide (q17 = .i64)) then (bif (n18 == (2 : Int)) then (bif (decide (q13 = .i64)) then (bif (n14 == (0 : Int)) then (tkOut (env 13 []) none (fun v38 => (tkBool v38 none fun b39 => some (.ret (.bool b39))))
                                                                                        (fun p38 => (tkIfc p38 none fun t39 x40 => (bif (flatP (.iface t39 x40)) then some (.pan (.iface t39 x40))
                                                                                            else none))))
                                                                                      else some (.ret (.bool false)))
                                                                                    else none)
                                                                                  else some (.ret (.bool false)))
                                                                                else none)
                                                                              else (tkOut (env 43 [(.agg (eSpan p)), (.int .i64 (0 : Int)), (.int .i64 (50000 : Int))]) none (fun v38 => (tkBool v38 none fun b39 => (bif (!b39) then (bif (decide (q17 = .i64)) then (bif (n18 == (2 : Int)) then (bif (decide (q13 = .i64)) then (bif (n14 == (0 : Int)) then (tkOut (env 13 []) none (fun v40 => (tkBool v40 none fun b41 => some (.ret (.bool b41))))
                                                                                              (fun p40 => (tkIfc p40 none fun t41 x42 => (bif (flatP (.iface t41 x42)) then some (.pan (.iface t41 x42))
                                                                                                  else none))))
                                                                                            else some (.ret (.bool false)))
                                                                                          else none)
                                                                                        else some (.ret (.bool false)))
                                                                                      else none)
                                                                                    else (bif (decide (q17 = .i64)) then (bif (n18 == (0 : Int)) then (tkOut (env 45 [(.agg (eSite s)), (.int .i64 c), (.agg (eSpan p)), (.agg (eSpan q))]) none (fun v40 => (tkInt v40 none fun q41 n42 => (bif (decide (q13 = q41)) then (bif (n14 == n42) then (tkOut (env 13 []) none (fun v43 => (tkBool v43 none fun b44 => some (.ret (.bool b44))))
                                                                                                  (fun p43 => (tkIfc p43 none fun t44 x45 => (bif (flatP (.iface t44 x45)) then some (.pan (.iface t44 x45))
                                                                                                      else none))))
                                                                                                else some (.ret (.bool false)))
                                                                                              else none)))
                                                                                          (fun p40 => (tkIfc p40 none fun t41 x42 => (bif (flatP (.iface t41 x42)) then some (.pan (.iface t41 x42))
                                                                                              else none))))
                                                                                        else some (.ret (.bool false)))
                                                                                      else none))))
                                                                                (fun p38 => (tkIfc p38 none fun t39 x40 => (bif (flatP (.iface t39 x40)) then some (.pan (.iface t39 x40))
                                                                                    else none))))))
                                                                          else none))
                                                                      else none)
                                                                    else (bif (!b34) then (bif (decide (q17 = .i64)) then (bif (n18 == (2 : Int)) then (bif (decide (q13 = .i64)) then (bif (n14 == (0 : Int)) then (tkOut (env 13 []) none (fun v38 => (tkBool v38 none fun b39 => some (.ret (.bool b39))))
                                                                                (fun p38 => (tkIfc p38 none fun t39 x40 => (bif (flatP (.iface t39 x40)) then some (.pan (.iface t39 x40))
                                                                                    else none))))
                                                                              else some (.ret (.bool false)))
                                                                            else none)
                                                                          else some (.ret (.bool false)))
                                                                        else none)
                                                                      else (tkOut (env 43 [(.agg (eSpan p)), (.int .i64 (0 : Int)), (.int .i64 (50000 : Int))]) none (fun v38 => (tkBool v38 none fun b39 => (bif (!b39) then (bif (decide (q17 = .i64)) then (bif (n18 == (2 : Int)) then (bif (decide (q13 = .i64)) then (bif (n14 == (0 : Int)) then (tkOut (env 13 []) none (fun v40 => (tkBool v40 none fun b41 => some (.ret (.bool b41))))
                                                                                      (fun p40 => (tkIfc p40 none fun t41 x42 => (bif (flatP (.iface t41 x42)) then some (.pan (.iface t41 x42))
                                                                                          else none))))
                                                                                    else some (.ret (.bool false)))
                                                                                  else none)
                                                                                else some (.ret (.bool false)))
                                                                              else none)
                                                                            else (bif (decide (q17 = .i64)) then (bif (n18 == (0 : Int)) then (tkOut (env 45 [(.agg (eSite s)), (.int .i64 c), (.agg (eSpan p)), (.agg (eSpan q))]) none (fun v40 => (tkInt v40 none fun q41 n42 => (bif (decide (q13 = q41)) then (bif (n14 == n42) then (tkOut (env 13 []) none (fun v43 => (tkBool v43 none fun b44 => some (.ret (.bool b44))))
                                                                                          (fun p43 => (tkIfc p43 none fun t44 x45 => (bif (flatP (.iface t44 x45)) then some (.pan (.iface t44 x45))
                                                                                              else none))))
                                                                                        else some (.ret (.bool false)))
                                                                                      else none)))
                                                                                  (fun p40 => (tkIfc p40 none fun t41 x42 => (bif (flatP (.iface t41 x42)) then some (.pan (.iface t41 x42))
                                                                                      else none))))
                                                                                else some (.ret (.bool false)))
                                                                              else none))))
                                                                        (fun p38 => (tkIfc p38 none fun t39 x40 => (bif (flatP (.iface t39 x40)) then some (.pan (.iface t39 x40))
                                                                            else none))))))
                                                                  else none))
                                                              else none)))
                                                          (fun p35 => (tkIfc p35 none fun t36 x37 => (bif (flatP (.iface t36 x37)) then some (.pan (.iface t36 x37))
                                                              else none)))))))))
                                                (fun p33 => (tkIfc p33 none fun t34 x35 => (bif (flatP (.iface t34 x35)) then some (.pan (.iface t34 x35))
                                                    else none))))
                                              else (bif (decide (n > (60 : Int))) then (bif (decide (q27 = .i64)) then (bif (n28 != (3 : Int)) then some (.ret (.bool false))
                                                    else (bif (decide (q23 = .i64)) then (bif (n24 != (0 : Int)) then some (.ret (.bool false))
                                                        else (bif (decide (q17 = .i64)) then (bif (n18 == (2 : Int)) then (bif (decide (q13 = .i64)) then (bif (n14 == (0 : Int)) then (tkOut (env 13 []) none (fun v33 => (tkBool v33 none fun b34 => some (.ret (.bool b34))))
                                                                  (fun p33 => (tkIfc p33 none fun t34 x35 => (bif (flatP (.iface t34 x35)) then some (.pan (.iface t34 x35))
                                                                      else none))))
                                                                else some (.ret (.bool false)))
                                                              else none)
                                                            else some (.ret (.bool false)))
                                                          else none))
                                                      else none))
                                                  else none)
                                                else (bif (decide (q27 = .i64)) then (bif (n28 != (2 : Int)) then some (.ret (.bool false))
                                                    else (bif (decide (q23 = .i64)) then (bif (n24 != (0 : Int)) then some (.ret (.bool false))
                                                        else (bif (decide (q17 = .i64)) then (bif (n18 == (2 : Int)) then (bif (decide (q13 = .i64)) then (bif (n14 == (0 : Int)) then (tkOut (env 13 []) none (fun v33 => (tkBool v33 none fun b34 => some (.ret (.bool b34))))
                                                                  (fun p33 => (tkIfc p33 none fun t34 x35 => (bif (flatP (.iface t34 x35)) then some (.pan (.iface t34 x35))
                                                                      else none))))
                                                                else some (.ret (.bool false)))
                                                              else none)
                                                            else some (.ret (.bool false)))
                                                          else none))
                                                      else none))
                                                  else none)))))
                                          (fun p31 => (tkIfc p31 none fun t32 x33 => (bif (flatP (.iface t32 x33)) then some (.pan (.iface t32 x33))
                                              else none))))
                                        else (bif (decide (n > (60 : Int))) then (bif (decide (q27 = .i64)) then (bif (n28 != (3 : Int)) then some (.ret (.bool false))
                                              else (bif (decide (q23 = .i64)) then (bif (n24 != (0 : Int)) then some (.ret (.bool false))
                                                  else (bif (decide (q17 = .i64)) then (bif (n18 == (2 : Int)) then (bif (decide (q13 = .i64)) then (bif (n14 == (0 : Int)) then (tkOut (env 13 []) none (fun v31 => (tkBool v31 none fun b32 => some (.ret (.bool b32))))
                                                            (fun p31 => (tkIfc p31 none fun t32 x33 => (bif (flatP (.iface t32 x33)) then some (.pan (.iface t32 x33))
                                                                else none))))
                                                          else some (.ret (.bool false)))
                                                        else none)
                                                      else some (.ret (.bool false)))
                                                    else none))
                                                else none))
                                            else none)
                                          else (bif (decide (q27 = .i64)) then (bif (n28 != (2 : Int)) then some (.ret (.bool false))
                                              else (bif (decide (q23 = .i64)) then (bif (n24 != (0 : Int)) then some (.ret (.bool false))
                                                  else (bif (decide (q17 = .i64)) then (bif (n18 == (2 : Int)) then (bif (decide (q13 = .i64)) then (bif (n14 == (0 : Int)) then (tkOut (env 13 []) none (fun v31 => (tkBool v31 none fun b32 => some (.ret (.bool b32))))
                                                            (fun p31 => (tkIfc p31 none fun t32 x33 => (bif (flatP (.iface t32 x33)) then some (.pan (.iface t32 x33))
                                                                else none))))
                                                          else some (.ret (.bool false)))
                                                        else none)
                                                      else some (.ret (.bool false)))
                                                    else none))
                                                else none))
                                            else none)))))
                                    (fun p29 => (tkIfc p29 none fun t30 x31 => (bif (flatP (.iface t30 x31)) then some (.pan (.iface t30 x31))
                                        else none))))))))))))
                      (fun p19 => (tkIfc p19 none fun t20 x21 => (bif (flatP (.iface t20 x21)) then some (.pan (.iface t20 x21))
                          else none))))))))))))
        (fun p9 => (tkIfc p9 none fun t10 x11 => (bif (flatP (.iface t10 x11)) then some (.pan (.iface t10 x11))
            else none)))))))
  (fun p7 => (tkIfc p7 none fun t8 x9 => (bif (flatP (.iface t8 x9)) then some (.pan (.iface t8 x9))
      else none)))) := by kernel_rfl

end Go.Sim.Cr

/-
  CreepKeeps: the law answers true.
-/
namespace Go.Sim.Cr
open Go.Proofs
variable (F d : Nat)
theorem eqI1 (a : Int) : (a == a) = true := by simp
theorem z3c : ((3 : Int) == 3) = true := rfl
theorem z55 : ((5 : Int) == 5) = true := rfl
theorem zm1 : decide ((-1 : Int) < 0) = true := rfl
set_option maxRecDepth 100000 in
set_option maxHeartbeats 1000000 in
theorem s9 (s : Site) (c : Int) (p q : Span) (n : Int) (hF : 2147483648 < F) : E F (d + 12) 9 [.agg (eSite s), .int .i64 c, .agg (eSpan p), .agg (eSpan q), .int .i64 n] = some (.ret (.bool true)) := by
  have k := s13 F d (by omega)
  rw [E_succ, t9]
  simp only [s11 F (d + 10), pOut, pBool]
  by_cases h0 : ShortS s
  · have hs := small_of F h0 (by omega)
    have e41 := s41 F (d + 3) s c p q hs (by omega)
    have e16 := s16 F (d + 8) s hs
    obtain ⟨l1, l2, l3, l4⟩ := s42 F (d + 1) s c q n hs (by omega)
    have e43q := s43 F (d + 10) q 0 10000
    have e43p := s43 F (d + 10) p 0 50000
    simp only [decide_eq_true h0, Bool.not_true, pF, e41, e16, pOut, pBool]
    by_cases hn : n > 60
    · have e42 := l1 hn
      simp only [e42, decide_eq_true hn, pOut, pTup, pCons, pInt, pNil]
      cases h1 : siteB s with
      | false => simp only [Bool.false_and, pF, pT, pTup, pCons, pInt, pNil, pOut, pBool, Bool.not_false, decide_true, z3c, z22, z00, bne, Bool.not_true, k]
      | true =>
        have hS := (siteB_iff s).1 h1
        have h5 := hS.cavs5
        have e39 := s39 F (d + 9) s c hS.cavs1 h5
        by_cases h2 : 0 ≤ c ∧ c < (s.cavs.len : Int)
        · by_cases h3 : SpanIn q 0 10000
          · by_cases h4 : SpanIn p 0 50000
            · obtain ⟨c, rfl⟩ := Int.eq_ofNat_of_zero_le h2.1
              have e45 := s45 F (d + 7) s c p q hS (by omega) h4 h3 hF
              simp only [decide_eq_true h2, decide_eq_true h3, decide_eq_true h4, Bool.and_self, pF, pT, pTup, pCons, pInt, pNil, pOut, pBool, Bool.not_false, Bool.not_true, decide_true, z3c, z22, z00, bne, e39, e43q, e43p, e45, Int.toNat_natCast, eqI1, k]
            · simp only [decide_eq_true h2, decide_eq_true h3, decide_eq_false h4, Bool.and_self, Bool.and_false, Bool.false_and, pF, pT, pTup, pCons, pInt, pNil, pOut, pBool, Bool.not_false, Bool.not_true, decide_true, z3c, z22, z00, bne, e39, e43q, e43p, eqI1, k]
          · simp only [decide_eq_true h2, decide_eq_false h3, Bool.and_self, Bool.and_false, Bool.false_and, pF, pT, pTup, pCons, pInt, pNil, pOut, pBool, Bool.not_false, Bool.not_true, decide_true, z3c, z22, z00, bne, e39, e43q, e43p, eqI1, k]
        · simp only [decide_eq_false h2, Bool.and_self, Bool.and_false, Bool.false_and, pF, pT, pTup, pCons, pInt, pNil, pOut, pBool, Bool.not_false, Bool.not_true, decide_true, z3c, z22, z00, bne, e39, eqI1, k]
    · cases h1 : siteB s with
      | false =>
        have e42 := l2 hn (fun h => by rw [h1] at h; cases h.1)
        simp only [e42, decide_eq_false hn, Bool.false_and, pF, pT, pTup, pCons, pInt, pNil, pOut, pBool, Bool.not_false, decide_true, z3c, z22, z00, bne, Bool.not_true, k]
      | true =>
        have hS := (siteB_iff s).1 h1
        have h5 := hS.cavs5
        have e39 := s39 F (d + 9) s c hS.cavs1 h5
        by_cases h2 : 0 ≤ c ∧ c < (s.cavs.len : Int)
        · by_cases h3 : SpanIn q 0 10000
          · by_cases hn0 : n < 0
            · have e42 := l2 hn (fun h => by omega)
              by_cases h4 : SpanIn p 0 50000
              · obtain ⟨c, rfl⟩ := Int.eq_ofNat_of_zero_le h2.1
                have e45 := s45 F (d + 7) s c p q hS (by omega) h4 h3 hF
                simp only [e42, decide_eq_false hn, decide_eq_true hn0, decide_eq_true h2, decide_eq_true h3, decide_eq_true h4, Bool.and_self, pF, pT, pTup, pCons, pInt, pNil, pOut, pBool, Bool.not_false, Bool.not_true, decide_true, z3c, z22, z00, bne, e39, e43q, e43p, e45, Int.toNat_natCast, eqI1, k]
              · simp only [e42, decide_eq_false hn, decide_eq_true hn0, decide_eq_true h2, decide_eq_true h3, decide_eq_false h4, Bool.and_self, Bool.and_false, Bool.false_and, pF, pT, pTup, pCons, pInt, pNil, pOut, pBool, Bool.not_false, Bool.not_true, decide_true, z3c, z22, z00, bne, e39, e43q, e43p, eqI1, k]
            · obtain ⟨c, rfl⟩ := Int.eq_ofNat_of_zero_le h2.1
              obtain ⟨n, rfl⟩ := Int.eq_ofNat_of_zero_le (show 0 ≤ n by omega)
              obtain ⟨r0, r1⟩ := s44 F (d + 6) s c q n hS (by omega) h3 hF
              rcases Nat.eq_zero_or_pos n with hz | hz
              · have e44 := r0 hz
                have e42 := l3 hS h2 h3 (by omega)
                have zz : decide ((0 : Int) < 0) = false := rfl
                have zg : decide ((0 : Int) ≥ 0) = true := rfl
                by_cases h4 : SpanIn p 0 50000
                · have e45 := s45 F (d + 7) s c p q hS (by omega) h4 h3 hF
                  simp only [e42, e44, decide_eq_false hn, decide_eq_false hn0, decide_eq_true h2, decide_eq_true h3, decide_eq_true h4, Bool.and_self, pF, pT, pTup, pCons, pInt, pNil, pOut, pBool, Bool.not_false, Bool.not_true, decide_true, z3c, z22, z00, zz, zg, bne, e39, e43q, e43p, e45, Int.toNat_natCast, eqI1, k]
                · simp only [e42, e44, decide_eq_false hn, decide_eq_false hn0, decide_eq_true h2, decide_eq_true h3, decide_eq_false h4, Bool.and_self, Bool.and_false, Bool.false_and, pF, pT, pTup, pCons, pInt, pNil, pOut, pBool, Bool.not_false, Bool.not_true, decide_true, z3c, z22, z00, zz, zg, bne, e39, e43q, e43p, eqI1, k]
              · have hm := mostP_ok hS (show c < s.cavs.len by omega)
                rcases l4 hS h2 h3 (by omega) (by omega) with ⟨r, e42, il⟩ | ⟨e42, il⟩
                · rw [Int.toNat_natCast, Int.toNat_natCast] at il
                  rcases r1 hz with ⟨r', e44, il'⟩ | ⟨e44, il'⟩
                  · obtain rfl := least_uniq il il'
                    have hr0 : decide (r < 0) = false := decide_eq_false (by have := il.1; omega)
                    have hr1 : decide (r ≥ 0) = true := decide_eq_true (by have := il.1; omega)
                    by_cases h4 : SpanIn p 0 50000
                    · have e45 := s45 F (d + 7) s c p q hS (by omega) h4 h3 hF
                      simp only [e42, e44, hr0, hr1, decide_eq_false hn, decide_eq_false hn0, decide_eq_true h2, decide_eq_true h3, decide_eq_true h4, Bool.and_self, pF, pT, pTup, pCons, pInt, pNil, pOut, pBool, Bool.not_false, Bool.not_true, decide_true, z3c, z22, z00, bne, e39, e43q, e43p, e45, Int.toNat_natCast, eqI1, k]
                    · simp only [e42, e44, hr0, hr1, decide_eq_false hn, decide_eq_false hn0, decide_eq_true h2, decide_eq_true h3, decide_eq_false h4, Bool.and_self, Bool.and_false, Bool.false_and, pF, pT, pTup, pCons, pInt, pNil, pOut, pBool, Bool.not_false, Bool.not_true, decide_true, z3c, z22, z00, bne, e39, e43q, e43p, eqI1, k]
                  · exact (least_no il il').elim
                · rw [Int.toNat_natCast, Int.toNat_natCast] at il
                  rcases r1 hz with ⟨r', e44, il'⟩ | ⟨e44, il'⟩
                  · exact (least_no il' il).elim
                  · have zg : decide ((-1 : Int) ≥ 0) = false := rfl
                    by_cases h4 : SpanIn p 0 50000
                    · have e45 := s45 F (d + 7) s c p q hS (by omega) h4 h3 hF
                      simp only [e42, e44, zm1, zg, decide_eq_false hn, decide_eq_false hn0, decide_eq_true h2, decide_eq_true h3, decide_eq_true h4, Bool.and_self, pF, pT, pTup, pCons, pInt, pNil, pOut, pBool, Bool.not_false, Bool.not_true, decide_true, z3c, z22, z00, z55, bne, e39, e43q, e43p, e45, Int.toNat_natCast, eqI1, k]
                    · simp only [e42, e44, zm1, zg, decide_eq_false hn, decide_eq_false hn0, decide_eq_true h2, decide_eq_true h3, decide_eq_false h4, Bool.and_self, Bool.and_false, Bool.false_and, pF, pT, pTup, pCons, pInt, pNil, pOut, pBool, Bool.not_false, Bool.not_true, decide_true, z3c, z22, z00, z55, bne, e39, e43q, e43p, eqI1, k]
          · have e42 := l2 hn (fun h => h3 h.2.2.1)
            simp only [e42, decide_eq_false hn, decide_eq_true h2, decide_eq_false h3, Bool.and_self, Bool.and_false, Bool.false_and, pF, pT, pTup, pCons, pInt, pNil, pOut, pBool, Bool.not_false, Bool.not_true, decide_true, z3c, z22, z00, bne, e39, e43q, e43p, eqI1, k]
        · have e42 := l2 hn (fun h => h2 h.2.1)
          simp only [e42, decide_eq_false hn, decide_eq_false h2, Bool.and_self, Bool.and_false, Bool.false_and, pF, pT, pTup, pCons, pInt, pNil, pOut, pBool, Bool.not_false, Bool.not_true, decide_true, z3c, z22, z00, bne, e39, eqI1, k]
  · simp only [decide_eq_false h0, Bool.not_false, pT, k, pOut, pBool]
end Go.Sim.Cr

/-
  What the evaluator says of these functions (printed by a private program; each row is checked by the kernel).
-/
set_option maxRecDepth 100000
namespace Go.Sim.Cr
open Go.Proofs

noncomputable def L68x0 (env : Env) (F : Nat) (s : Site) (n : Int) (ds : Sl Day) (l : Sl Stt) (b : Bool) (fu : Nat) (i0 : Int) : Option Out := atLoop Try.prog (cfg F) env 68 [.r, .r, .l, .r, .d] [] fu { tm := tmL 186 0 [(2, (.bool b)), (3, (.optr 0 0 0)), (4, (.optr 1 0 0)), (6, (.optr 2 0 0)), (8, (.optr 3 0 0)), (9, (.int .i64 i0))], hp := [(.box 28 (eSite s) true), (.box 127 [(.int .i64 n), (sl eDay 2 ds), (sl eStt 6 l)] true), (.box 71 [(.int .i64 (0 : Int)), (.int .i64 (0 : Int)), (.int .i64 (0 : Int)), (.int .i64 (0 : Int))] true), (.box 32 [(sl eSpan 2 (Day.press (Sl.el ds (Int.toNat n)))), (sl eSpan 2 (Day.warm (Sl.el ds (Int.toNat n))))] true)] }
noncomputable def L68x1 (env : Env) (F : Nat) (s : Site) (n : Int) (ds : Sl Day) (l : Sl Stt) (b : Bool) (fu : Nat) (i0 : Int) : Option Out := atLoop Try.prog (cfg F) env 68 [.r, .r, .r, .l, .r, .d] [] fu { tm := tmL 186 0 [(2, (.bool b)), (3, (.optr 0 0 0)), (4, (.optr 1 0 0)), (6, (.optr 2 0 0)), (8, (.optr 3 0 0)), (10, (.int .i64 i0))], hp := [(.box 28 (eSite s) true), (.box 127 [(.int .i64 n), (sl eDay 2 ds), (sl eStt 6 l)] true), (.box 71 [(.int .i64 (0 : Int)), (.int .i64 (0 : Int)), (.int .i64 (0 : Int)), (.int .i64 (0 : Int))] true), (.box 32 [(sl eSpan 2 (Day.press (Sl.el ds (Int.toNat n)))), (sl eSpan 2 (Day.warm (Sl.el ds (Int.toNat n))))] true)] }
noncomputable def L68x2 (env : Env) (F : Nat) (s : Site) (n : Int) (ds : Sl Day) (l : Sl Stt) (b : Bool) (fu : Nat) (i0 : Int) : Option Out := atLoop Try.prog (cfg F) env 68 [.r, .r, .r, .r, .l, .r, .d] [] fu { tm := tmL 186 0 [(2, (.bool b)), (3, (.optr 0 0 0)), (4, (.optr 1 0 0)), (6, (.optr 2 0 0)), (8, (.optr 3 0 0)), (13, (.int .i64 i0))], hp := [(.box 28 (eSite s) true), (.box 127 [(.int .i64 n), (sl eDay 2 ds), (sl eStt 6 l)] true), (.box 71 [(.int .i64 (0 : Int)), (.int .i64 (0 : Int)), (.int .i64 (0 : Int)), (.int .i64 (0 : Int))] true), (.box 32 [(sl eSpan 2 (Day.press (Sl.el ds (Int.toNat n)))), (sl eSpan 2 (Day.warm (Sl.el ds (Int.toNat n))))] true)] }
theorem t68 (env : Env) (F : Nat) (s : Site) (n : Int) (ds : Sl Day) (l : Sl Stt) (b : Bool) : (evFun Try.prog (cfg F) env 68 [(.agg (eSite s)), (.agg [(.int .i64 n), (sl eDay 2 ds), (sl eStt 6 l)]), (.bool b)]) =
  (bif (decide ((0 : Int) ≤ n)) then (bif (decide (n < (((Sl.len ds) : Nat) : Int))) then (L68x0 env F s n ds l b F (0 : Int))
    else none)
  else none) := by kernel_rfl
theorem L68x0s (env : Env) (F : Nat) (s : Site) (n : Int) (ds : Sl Day) (l : Sl Stt) (b : Bool) (fu : Nat) (i0 : Int) : L68x0 env F s n ds l b (fu + 1) i0 =
  (bif (decide (i0 < (((Sl.len (Site.cavs s)) : Nat) : Int))) then (bif (!b) then (bif (decide ((0 : Int) ≤ i0)) then (bif (decide (i0 < (((Sl.len (Day.press (Sl.el ds (Int.toNat n)))) : Nat) : Int))) then (bif (decide ((0 : Int) ≤ i0)) then (bif (decide (i0 < (((Sl.len (Day.warm (Sl.el ds (Int.toNat n)))) : Nat) : Int))) then (tkOut (env 32 [(.agg (eSite s)), (.int .i64 i0), (.agg (eSpan (Sl.el (Day.press (Sl.el ds (Int.toNat n))) (Int.toNat i0)))), (.agg (eSpan (Sl.el (Day.warm (Sl.el ds (Int.toNat n))) (Int.toNat i0))))]) none (fun v9 => (tkBool v9 none fun b10 => (bif b10 then some (.ret (.tup [(.agg [(.int .i64 n), (.int .i64 (2 : Int)), (.int .i64 i0), (.int .i64 (0 : Int))]), (.bool true)]))
                  else (L68x0 env F s n ds l b fu (IntKind.wrap .i64 (i0 + (1 : Int)))))))
              (fun p9 => (tkIfc p9 none fun t10 x11 => (bif (flatP (.iface t10 x11)) then some (.pan (.iface t10 x11))
                  else none))))
            else none)
          else none)
        else none)
      else none)
    else (L68x1 env F s n ds l b F (0 : Int)))
  else (L68x1 env F s n ds l b F (0 : Int))) := by kernel_rfl
theorem L68x1s (env : Env) (F : Nat) (s : Site) (n : Int) (ds : Sl Day) (l : Sl Stt) (b : Bool) (fu : Nat) (i0 : Int) : L68x1 env F s n ds l b (fu + 1) i0 =
  (bif (decide (i0 < (((Sl.len (Site.cavs s)) : Nat) : Int))) then (bif (decide ((0 : Int) ≤ i0)) then (bif (decide (i0 < (((Sl.len (Day.press (Sl.el ds (Int.toNat n)))) : Nat) : Int))) then (bif (decide ((0 : Int) ≤ i0)) then (bif (decide (i0 < (((Sl.len (Site.cavs s)) : Nat) : Int))) then (bif (!b) then (bif (decide ((Span.lo (Sl.el (Day.press (Sl.el ds (Int.toNat n))) (Int.toNat i0))) < (Span.lo (Cav.gate (Sl.el (Site.cavs s) (Int.toNat i0)))))) then some (.ret (.tup [(.agg [(.int .i64 n), (.int .i64 (3 : Int)), (.int .i64 i0), (.int .i64 (0 : Int))]), (.bool true)]))
              else (bif (decide ((Span.hi (Sl.el (Day.press (Sl.el ds (Int.toNat n))) (Int.toNat i0))) > (Span.hi (Cav.gate (Sl.el (Site.cavs s) (Int.toNat i0)))))) then some (.ret (.tup [(.agg [(.int .i64 n), (.int .i64 (3 : Int)), (.int .i64 i0), (.int .i64 (0 : Int))]), (.bool true)]))
                else (bif b then (bif (decide ((Span.hi (Sl.el (Day.press (Sl.el ds (Int.toNat n))) (Int.toNat i0))) < (Span.lo (Cav.gate (Sl.el (Site.cavs s) (Int.toNat i0)))))) then some (.ret (.tup [(.agg [(.int .i64 n), (.int .i64 (3 : Int)), (.int .i64 i0), (.int .i64 (0 : Int))]), (.bool true)]))
                    else (bif (decide ((Span.lo (Sl.el (Day.press (Sl.el ds (Int.toNat n))) (Int.toNat i0))) > (Span.hi (Cav.gate (Sl.el (Site.cavs s) (Int.toNat i0)))))) then some (.ret (.tup [(.agg [(.int .i64 n), (.int .i64 (3 : Int)), (.int .i64 i0), (.int .i64 (0 : Int))]), (.bool true)]))
                      else (L68x1 env F s n ds l b fu (IntKind.wrap .i64 (i0 + (1 : Int))))))
                  else (L68x1 env F s n ds l b fu (IntKind.wrap .i64 (i0 + (1 : Int)))))))
            else (bif b then (bif (decide ((Span.hi (Sl.el (Day.press (Sl.el ds (Int.toNat n))) (Int.toNat i0))) < (Span.lo (Cav.gate (Sl.el (Site.cavs s) (Int.toNat i0)))))) then some (.ret (.tup [(.agg [(.int .i64 n), (.int .i64 (3 : Int)), (.int .i64 i0), (.int .i64 (0 : Int))]), (.bool true)]))
                else (bif (decide ((Span.lo (Sl.el (Day.press (Sl.el ds (Int.toNat n))) (Int.toNat i0))) > (Span.hi (Cav.gate (Sl.el (Site.cavs s) (Int.toNat i0)))))) then some (.ret (.tup [(.agg [(.int .i64 n), (.int .i64 (3 : Int)), (.int .i64 i0), (.int .i64 (0 : Int))]), (.bool true)]))
                  else (L68x1 env F s n ds l b fu (IntKind.wrap .i64 (i0 + (1 : Int))))))
              else (L68x1 env F s n ds l b fu (IntKind.wrap .i64 (i0 + (1 : Int))))))
          else none)
        else none)
      else none)
    else none)
  else (L68x2 env F s n ds l b F (0 : Int))) := by kernel_rfl
theorem L68x2s (env : Env) (F : Nat) (s : Site) (n : Int) (ds : Sl Day) (l : Sl Stt) (b : Bool) (fu : Nat) (i0 : Int) : L68x2 env F s n ds l b (fu + 1) i0 =
  (bif (decide (i0 < (((Sl.len (Site.cavs s)) : Nat) : Int))) then (bif (decide (n > (0 : Int))) then (bif (decide ((0 : Int) ≤ i0)) then (bif (decide (i0 < (((Sl.len (Day.press (Sl.el ds (Int.toNat n)))) : Nat) : Int))) then (bif (decide ((0 : Int) ≤ (IntKind.wrap .i64 (n - (1 : Int))))) then (bif (decide ((IntKind.wrap .i64 (n - (1 : Int))) < (((Sl.len ds) : Nat) : Int))) then (bif (decide ((0 : Int) ≤ i0)) then (bif (decide (i0 < (((Sl.len (Day.press (Sl.el ds (Int.toNat (IntKind.wrap .i64 (n - (1 : Int))))))) : Nat) : Int))) then (bif (decide ((0 : Int) ≤ i0)) then (bif (decide (i0 < (((Sl.len (Site.cavs s)) : Nat) : Int))) then (bif (!b) then (bif (decide ((IntKind.wrap .i64 ((Span.hi (Sl.el (Day.press (Sl.el ds (Int.toNat n))) (Int.toNat i0))) - (Span.lo (Sl.el (Day.press (Sl.el ds (Int.toNat (IntKind.wrap .i64 (n - (1 : Int)))))) (Int.toNat i0))))) > (Cav.change (Sl.el (Site.cavs s) (Int.toNat i0))))) then some (.ret (.tup [(.agg [(.int .i64 n), (.int .i64 (4 : Int)), (.int .i64 i0), (.int .i64 (0 : Int))]), (.bool true)]))
                        else (bif (decide ((IntKind.wrap .i64 ((Span.hi (Sl.el (Day.press (Sl.el ds (Int.toNat (IntKind.wrap .i64 (n - (1 : Int)))))) (Int.toNat i0))) - (Span.lo (Sl.el (Day.press (Sl.el ds (Int.toNat n))) (Int.toNat i0))))) > (Cav.change (Sl.el (Site.cavs s) (Int.toNat i0))))) then some (.ret (.tup [(.agg [(.int .i64 n), (.int .i64 (4 : Int)), (.int .i64 i0), (.int .i64 (0 : Int))]), (.bool true)]))
                          else (bif b then (bif (decide ((IntKind.wrap .i64 ((Span.lo (Sl.el (Day.press (Sl.el ds (Int.toNat n))) (Int.toNat i0))) - (Span.hi (Sl.el (Day.press (Sl.el ds (Int.toNat (IntKind.wrap .i64 (n - (1 : Int)))))) (Int.toNat i0))))) > (Cav.change (Sl.el (Site.cavs s) (Int.toNat i0))))) then some (.ret (.tup [(.agg [(.int .i64 n), (.int .i64 (4 : Int)), (.int .i64 i0), (.int .i64 (0 : Int))]), (.bool true)]))
                              else (bif (decide ((IntKind.wrap .i64 ((Span.lo (Sl.el (Day.press (Sl.el ds (Int.toNat (IntKind.wrap .i64 (n - (1 : Int)))))) (Int.toNat i0))) - (Span.hi (Sl.el (Day.press (Sl.el ds (Int.toNat n))) (Int.toNat i0))))) > (Cav.change (Sl.el (Site.cavs s) (Int.toNat i0))))) then some (.ret (.tup [(.agg [(.int .i64 n), (.int .i64 (4 : Int)), (.int .i64 i0), (.int .i64 (0 : Int))]), (.bool true)]))
                                else (L68x2 env F s n ds l b fu (IntKind.wrap .i64 (i0 + (1 : Int))))))
                            else (L68x2 env F s n ds l b fu (IntKind.wrap .i64 (i0 + (1 : Int)))))))
                      else (bif b then (bif (decide ((IntKind.wrap .i64 ((Span.lo (Sl.el (Day.press (Sl.el ds (Int.toNat n))) (Int.toNat i0))) - (Span.hi (Sl.el (Day.press (Sl.el ds (Int.toNat (IntKind.wrap .i64 (n - (1 : Int)))))) (Int.toNat i0))))) > (Cav.change (Sl.el (Site.cavs s) (Int.toNat i0))))) then some (.ret (.tup [(.agg [(.int .i64 n), (.int .i64 (4 : Int)), (.int .i64 i0), (.int .i64 (0 : Int))]), (.bool true)]))
                          else (bif (decide ((IntKind.wrap .i64 ((Span.lo (Sl.el (Day.press (Sl.el ds (Int.toNat (IntKind.wrap .i64 (n - (1 : Int)))))) (Int.toNat i0))) - (Span.hi (Sl.el (Day.press (Sl.el ds (Int.toNat n))) (Int.toNat i0))))) > (Cav.change (Sl.el (Site.cavs s) (Int.toNat i0))))) then some (.ret (.tup [(.agg [(.int .i64 n), (.int .i64 (4 : Int)), (.int .i64 i0), (.int .i64 (0 : Int))]), (.bool true)]))
                            else (L68x2 env F s n ds l b fu (IntKind.wrap .i64 (i0 + (1 : Int))))))
                        else (L68x2 env F s n ds l b fu (IntKind.wrap .i64 (i0 + (1 : Int))))))
                    else none)
                  else none)
                else none)
              else none)
            else none)
          else none)
        else none)
      else none)
    else some (.ret (.tup [(.agg [(.int .i64 (0 : Int)), (.int .i64 (0 : Int)), (.int .i64 (0 : Int)), (.int .i64 (0 : Int))]), (.bool false)])))
  else some (.ret (.tup [(.agg [(.int .i64 (0 : Int)), (.int .i64 (0 : Int)), (.int .i64 (0 : Int)), (.int .i64 (0 : Int))]), (.bool false)]))) := by kernel_rfl

noncomputable def L69x0 (env : Env) (F : Nat) (s : Site) (n : Int) (ds : Sl Day) (l : Sl Stt) (b : Bool) (fu : Nat) (i0 : Int) : Option Out := atLoop Try.prog (cfg F) env 69 [.r, .l, .r, .d] [] fu { tm := tmL 112 0 [(2, (.bool b)), (3, (.optr 0 0 0)), (4, (.optr 1 0 0)), (6, (.optr 2 0 0)), (8, (.int .i64 i0))], hp := [(.box 28 (eSite s) true), (.box 127 [(.int .i64 n), (sl eDay 2 ds), (sl eStt 6 l)] true), (.box 71 [(.int .i64 (0 : Int)), (.int .i64 (0 : Int)), (.int .i64 (0 : Int)), (.int .i64 (0 : Int))] true)] }
noncomputable def L69x1 (env : Env) (F : Nat) (s : Site) (n : Int) (ds : Sl Day) (l : Sl Stt) (b : Bool) (fu : Nat) (i0 : Int) : Option Out := atLoop Try.prog (cfg F) env 69 [.r, .r, .l, .r, .d] [] fu { tm := tmL 112 0 [(2, (.bool b)), (3, (.optr 0 0 0)), (4, (.optr 1 0 0)), (6, (.optr 2 0 0)), (9, (.int .i64 i0))], hp := [(.box 28 (eSite s) true), (.box 127 [(.int .i64 n), (sl eDay 2 ds), (sl eStt 6 l)] true), (.box 71 [(.int .i64 (0 : Int)), (.int .i64 (0 : Int)), (.int .i64 (0 : Int)), (.int .i64 (0 : Int))] true)] }
noncomputable def L69x2 (env : Env) (F : Nat) (s : Site) (n : Int) (ds : Sl Day) (l : Sl Stt) (b : Bool) (m0 : Nat) (fu : Nat) (i0 : Int) (i1 : Int) : Option Out := atLoop Try.prog (cfg F) env 69 [.r, .r, .l, .r, .d, .d, .r, .l, .d, .r, .d] [m0] fu { tm := tmL 112 0 [(2, (.bool b)), (3, (.optr 0 0 0)), (4, (.optr 1 0 0)), (6, (.optr 2 0 0)), (9, (.int .i64 i0)), (10, (.int .i64 i1))], hp := [(.box 28 (eSite s) true), (.box 127 [(.int .i64 n), (sl eDay 2 ds), (sl eStt 6 l)] true), (.box 71 [(.int .i64 (0 : Int)), (.int .i64 (0 : Int)), (.int .i64 (0 : Int)), (.int .i64 (0 : Int))] true)] }
noncomputable def L69x3 (env : Env) (F : Nat) (s : Site) (n : Int) (ds : Sl Day) (l : Sl Stt) (b : Bool) (fu : Nat) (i0 : Int) : Option Out := atLoop Try.prog (cfg F) env 69 [.r, .r, .r, .l, .r, .d] [] fu { tm := tmL 112 0 [(2, (.bool b)), (3, (.optr 0 0 0)), (4, (.optr 1 0 0)), (6, (.optr 2 0 0)), (11, (.int .i64 i0))], hp := [(.box 28 (eSite s) true), (.box 127 [(.int .i64 n), (sl eDay 2 ds), (sl eStt 6 l)] true), (.box 71 [(.int .i64 (0 : Int)), (.int .i64 (0 : Int)), (.int .i64 (0 : Int)), (.int .i64 (0 : Int))] true)] }
theorem t69 (env : Env) (F : Nat) (s : Site) (n : Int) (ds : Sl Day) (l : Sl Stt) (b : Bool) : (evFun Try.prog (cfg F) env 69 [(.agg (eSite s)), (.agg [(.int .i64 n), (sl eDay 2 ds), (sl eStt 6 l)]), (.bool b)]) =
  (L69x0 env F s n ds l b F (0 : Int)) := by kernel_rfl
theorem L69x0s (env : Env) (F : Nat) (s : Site) (n : Int) (ds : Sl Day) (l : Sl Stt) (b : Bool) (fu : Nat) (i0 : Int) : L69x0 env F s n ds l b (fu + 1) i0 =
  (bif (decide (i0 < (((Sl.len l) : Nat) : Int))) then (bif (decide ((0 : Int) ≤ i0)) then (bif (decide (i0 < (((Sl.len l) : Nat) : Int))) then (tkOut (env 103 [(.agg (eSpan (Stt.vol (Sl.el l (Int.toNat i0))))), (.bool b)]) none (fun v9 => (tkInt v9 none fun q10 n11 => (bif (decide ((0 : Int) ≤ i0)) then (bif (decide (i0 < (((Sl.len (Site.cavs s)) : Nat) : Int))) then (bif (decide (q10 = .i64)) then (bif (decide (n11 < (Cav.floor (Sl.el (Site.cavs s) (Int.toNat i0))))) then some (.ret (.tup [(.agg [(.int .i64 n), (.int .i64 (5 : Int)), (.int .i64 i0), (.int .i64 (0 : Int))]), (.bool true)]))
                  else (L69x0 env F s n ds l b fu (IntKind.wrap .i64 (i0 + (1 : Int)))))
                else none)
              else none)
            else none)))
        (fun p9 => (tkIfc p9 none fun t10 x11 => (bif (flatP (.iface t10 x11)) then none
            else none))))
      else none)
    else none)
  else (L69x1 env F s n ds l b F (0 : Int))) := by kernel_rfl
theorem L69x1s (env : Env) (F : Nat) (s : Site) (n : Int) (ds : Sl Day) (l : Sl Stt) (b : Bool) (fu : Nat) (i0 : Int) : L69x1 env F s n ds l b (fu + 1) i0 =
  (bif (decide (i0 < (((Sl.len l) : Nat) : Int))) then (L69x2 env F s n ds l b fu F i0 (IntKind.wrap .i64 (i0 + (1 : Int))))
  else (L69x3 env F s n ds l b F (0 : Int))) := by kernel_rfl
theorem L69x2s (env : Env) (F : Nat) (s : Site) (n : Int) (ds : Sl Day) (l : Sl Stt) (b : Bool) (m0 : Nat) (fu : Nat) (i0 : Int) (i1 : Int) : L69x2 env F s n ds l b m0 (fu + 1) i0 i1 =
  (bif (decide (i1 < (((Sl.len l) : Nat) : Int))) then (bif (decide ((0 : Int) ≤ i0)) then (bif (decide (i0 < (((Sl.len l) : Nat) : Int))) then (bif (decide ((0 : Int) ≤ i1)) then (bif (decide (i1 < (((Sl.len l) : Nat) : Int))) then (tkOut (env 40 [(.agg (eSite s)), (.int .i64 i0), (.int .i64 i1), (.agg (eSpan (Stt.rad (Sl.el l (Int.toNat i0))))), (.agg (eSpan (Stt.rad (Sl.el l (Int.toNat i1)))))]) none (fun v11 => (tkAgg v11 none fun l12 => (tkCons l12 none fun v13 r14 => (tkInt v13 none fun q15 n16 => (tkCons r14 none fun v17 r18 => (tkInt v17 none fun q19 n20 => (tkNil r18 none ((tkOut (env 103 [(.agg [(.int q15 n16), (.int q19 n20)]), (.bool b)]) none (fun v21 => (tkInt v21 none fun q22 n23 => (bif (decide (q22 = .i64)) then (bif (decide (n23 < (Site.wall s))) then some (.ret (.tup [(.agg [(.int .i64 n), (.int .i64 (6 : Int)), (.int .i64 i0), (.int .i64 i1)]), (.bool true)]))
                                else (L69x2 env F s n ds l b m0 fu i0 (IntKind.wrap .i64 (i1 + (1 : Int)))))
                              else none)))
                          (fun p21 => (tkIfc p21 none fun t22 x23 => (bif (flatP (.iface t22 x23)) then none
                              else none))))))))))))
            (fun p11 => (tkIfc p11 none fun t12 x13 => (bif (flatP (.iface t12 x13)) then none
                else none))))
          else none)
        else none)
      else none)
    else none)
  else (L69x1 env F s n ds l b m0 (IntKind.wrap .i64 (i0 + (1 : Int))))) := by kernel_rfl
theorem L69x3s (env : Env) (F : Nat) (s : Site) (n : Int) (ds : Sl Day) (l : Sl Stt) (b : Bool) (fu : Nat) (i0 : Int) : L69x3 env F s n ds l b (fu + 1) i0 =
  (bif (decide (i0 < (((Sl.len (Site.houses s)) : Nat) : Int))) then (bif (decide ((0 : Int) ≤ i0)) then (bif (decide (i0 < (((Sl.len (Site.houses s)) : Nat) : Int))) then (tkOut (env 19 [(.agg (eSite s)), (sl eStt 6 l), (.int .i64 (House.x (Sl.el (Site.houses s) (Int.toNat i0)))), (.int .i64 (House.y (Sl.el (Site.houses s) (Int.toNat i0))))]) none (fun v9 => (tkAgg v9 none fun l10 => (tkCons l10 none fun v11 r12 => (tkInt v11 none fun q13 n14 => (tkCons r12 none fun v15 r16 => (tkInt v15 none fun q17 n18 => (tkNil r16 none ((tkOut (env 103 [(.agg [(.int q13 n14), (.int q17 n18)]), (.bool (!b))]) none (fun v19 => (tkInt v19 none fun q20 n21 => (bif (decide (q20 = .i64)) then (bif (decide (n21 > (House.most (Sl.el (Site.houses s) (Int.toNat i0))))) then some (.ret (.tup [(.agg [(.int .i64 n), (.int .i64 (7 : Int)), (.int .i64 i0), (.int .i64 (0 : Int))]), (.bool true)]))
                            else (L69x3 env F s n ds l b fu (IntKind.wrap .i64 (i0 + (1 : Int)))))
                          else none)))
                      (fun p19 => (tkIfc p19 none fun t20 x21 => (bif (flatP (.iface t20 x21)) then none
                          else none))))))))))))
        (fun p9 => (tkIfc p9 none fun t10 x11 => (bif (flatP (.iface t10 x11)) then none
            else none))))
      else none)
    else none)
  else some (.ret (.tup [(.agg [(.int .i64 (0 : Int)), (.int .i64 (0 : Int)), (.int .i64 (0 : Int)), (.int .i64 (0 : Int))]), (.bool false)]))) := by kernel_rfl

end Go.Sim.Cr

/-
  The specification's faults, in plain terms.
-/
namespace Go.Sim.Cr
open Go.Proofs
variable (F d : Nat)
def isM (b : Bool) (m : Mark) : Bool := bif b then m.certain else m.possible
abbrev eFaultZ (f : Option Fault) : V := match f with | some f => .tup [.agg (eFault f), .bool true] | none => .tup [.agg (eFault ⟨0, 0, 0, 0⟩), .bool false]
theorem fR_cons {n k : Int} {is : Mark → Bool} {m : Mark} {ms : List Mark} {r : List (Int × List Mark)} : faultR n is ((k, m :: ms) :: r) = bif is m then some ⟨n, k, m.at_, m.wth⟩ else faultR n is ((k, ms) :: r) := by
  simp only [faultR, List.find?_cons]
  cases is m <;> rfl
theorem fR_nil {n k : Int} {is : Mark → Bool} {r : List (Int × List Mark)} : faultR n is ((k, []) :: r) = faultR n is r := rfl
theorem s103 (a c : Int) (b : Bool) : E F (d + 1) 103 [.agg [.int .i64 a, .int .i64 c], .bool b] = some (.ret (.int .i64 (bif b then c else a))) := by
  have h := t103 (E F d) F ⟨a, c⟩ b
  rw [E_succ]
  refine h.trans ?_
  cases b <;> rfl
theorem maxI_gt (a b c : Int) : decide (maxI a b > c) = (decide (a > c) || decide (b > c)) := by
  apply b2
  simp only [Bool.or_eq_true, decide_eq_true_iff]
  unfold maxI
  split <;> omega
def prevOf (l : Sl Day) : Nat → Option (Sl Span)
  | 0 => none
  | k + 1 => some (l.el k).press
theorem predK (k : Nat) (h : k < 4611686018427387904) : IntKind.i64.wrap (((k + 1 : Nat) : Int) - 1) = (k : Int) := by rw [wr (by omega)]; omega
theorem l68x2z (s : Site) (ds : Sl Day) (l : Sl Stt) (b : Bool) (i fu : Nat) : L68x2 (E F d) F s ((0 : Nat) : Int) ds l b (fu + 1) (i : Int) = some (.ret (eFaultZ none)) := by
  rw [L68x2s]
  cases decide ((i : Int) < (s.cavs.len : Int)) <;> rfl
theorem l68x2 (s : Site) (ds : Sl Day) (l : Sl Stt) (b : Bool) (k : Nat) (hS : SiteF s) (hD : DaysOk s ds) (hk : k + 1 < ds.len) (hB : ds.len ≤ 100) : ∀ r i fu, s.cavs.len = i + r → r < fu →
    L68x2 (E F d) F s ((k + 1 : Nat) : Int) ds l b fu (i : Int) = some (.ret (eFaultZ (faultR ((k + 1 : Nat) : Int) (isM b) [(4, (List.range' i r).map (fastM s (ds.el (k + 1)) (ds.el k).press))]))) := by
  have h5 := hS.cavs5
  intro r
  induction r with
  | zero =>
    intro i fu h hf
    obtain ⟨fu, rfl⟩ : ∃ k, fu = k + 1 := ⟨fu - 1, by omega⟩
    rw [L68x2s]
    simp only [Int.ofNat_lt, show ¬ i < s.cavs.len by omega, decide_false, cond_false, List.range'_zero, List.map_nil]
    rfl
  | succ r ih =>
    intro i fu h hf
    obtain ⟨fu, rfl⟩ : ∃ k, fu = k + 1 := ⟨fu - 1, by omega⟩
    rw [L68x2s]
    have d1 := hD (k + 1) hk
    have d2 := hD k (by omega)
    have q1 := d1.1.2 i (by have := d1.1.1; omega)
    have q2 := d2.1.2 i (by have := d2.1.1; omega)
    have l1 := d1.1.1
    have l2 := d2.1.1
    simp only [Int.ofNat_lt, show i < s.cavs.len by omega, show i < (ds.el (k + 1)).press.len by omega, show i < (ds.el k).press.len by omega, show k < ds.len by omega, gt0, decide_true, cond_true, Int.natCast_nonneg, Int.toNat_natCast, predK k (by omega), wrS (show i < 4611686018427387904 by omega),
      wr (show _ ∧ ((ds.el (k + 1)).press.el i).hi - ((ds.el k).press.el i).lo ≤ _ by omega), wr (show _ ∧ ((ds.el k).press.el i).hi - ((ds.el (k + 1)).press.el i).lo ≤ _ by omega), wr (show _ ∧ ((ds.el (k + 1)).press.el i).lo - ((ds.el k).press.el i).hi ≤ _ by omega), wr (show _ ∧ ((ds.el k).press.el i).lo - ((ds.el (k + 1)).press.el i).hi ≤ _ by omega), ih (i + 1) fu (by omega) (by omega)]
    rw [List.range'_succ, List.map_cons, fR_cons]
    cases b with
    | false =>
      rw [show isM false (fastM s (ds.el (k + 1)) (ds.el k).press i) = _ from maxI_gt _ _ _]
      cases decide (((ds.el (k + 1)).press.el i).hi - ((ds.el k).press.el i).lo > (s.cavs.el i).change) <;> cases decide (((ds.el k).press.el i).hi - ((ds.el (k + 1)).press.el i).lo > (s.cavs.el i).change) <;> rfl
    | true =>
      rw [show isM true (fastM s (ds.el (k + 1)) (ds.el k).press i) = _ from maxI_gt _ _ _]
      cases decide (((ds.el (k + 1)).press.el i).lo - ((ds.el k).press.el i).hi > (s.cavs.el i).change) <;> cases decide (((ds.el k).press.el i).lo - ((ds.el (k + 1)).press.el i).hi > (s.cavs.el i).change) <;> rfl
theorem l68x1 (s : Site) (ds : Sl Day) (l : Sl Stt) (b : Bool) (n : Nat) (hS : SiteF s) (hy : DayOk s (ds.el n)) (rest : List (Int × List Mark)) (hR : L68x2 (E F d) F s (n : Int) ds l b F 0 = some (.ret (eFaultZ (faultR (n : Int) (isM b) rest)))) : ∀ r i fu, s.cavs.len = i + r → r < fu →
    L68x1 (E F d) F s (n : Int) ds l b fu (i : Int) = some (.ret (eFaultZ (faultR (n : Int) (isM b) ((3, (List.range' i r).map (gateM s (ds.el n))) :: rest)))) := by
  have h5 := hS.cavs5
  intro r
  induction r with
  | zero =>
    intro i fu h hf
    obtain ⟨fu, rfl⟩ : ∃ k, fu = k + 1 := ⟨fu - 1, by omega⟩
    rw [L68x1s]
    simp only [Int.ofNat_lt, show ¬ i < s.cavs.len by omega, decide_false, cond_false, List.range'_zero, List.map_nil, fR_nil, hR]
  | succ r ih =>
    intro i fu h hf
    obtain ⟨fu, rfl⟩ : ∃ k, fu = k + 1 := ⟨fu - 1, by omega⟩
    rw [L68x1s]
    have l1 := hy.1.1
    simp only [Int.ofNat_lt, show i < s.cavs.len by omega, show i < (ds.el n).press.len by omega, decide_true, cond_true, Int.natCast_nonneg, Int.toNat_natCast, wrS (show i < 4611686018427387904 by omega), ih (i + 1) fu (by omega) (by omega)]
    rw [List.range'_succ, List.map_cons, fR_cons]
    cases b with
    | false =>
      rw [show isM false (gateM s (ds.el n) i) = (decide (((ds.el n).press.el i).lo < (s.cavs.el i).gate.lo) || decide (((ds.el n).press.el i).hi > (s.cavs.el i).gate.hi)) from rfl]
      cases decide (((ds.el n).press.el i).lo < (s.cavs.el i).gate.lo) <;> cases decide (((ds.el n).press.el i).hi > (s.cavs.el i).gate.hi) <;> rfl
    | true =>
      rw [show isM true (gateM s (ds.el n) i) = (decide (((ds.el n).press.el i).hi < (s.cavs.el i).gate.lo) || decide (((ds.el n).press.el i).lo > (s.cavs.el i).gate.hi)) from rfl]
      cases decide (((ds.el n).press.el i).hi < (s.cavs.el i).gate.lo) <;> cases decide (((ds.el n).press.el i).lo > (s.cavs.el i).gate.hi) <;> rfl
theorem out_none (s : Site) (y : Day) (n k : Int) (rest : List (Int × List Mark)) : ∀ r i, faultR n (isM true) ((k, (List.range' i r).map (outM s y)) :: rest) = faultR n (isM true) rest := by
  intro r
  induction r with
  | zero => intro i; rfl
  | succ r ih =>
    intro i
    rw [List.range'_succ, List.map_cons, fR_cons, ih]
    rfl
theorem l68x0 (s : Site) (ds : Sl Day) (l : Sl Stt) (b : Bool) (n : Nat) (hS : SiteF s) (hy : DayOk s (ds.el n)) (rest : List (Int × List Mark)) (hR : L68x1 (E F (d + 2)) F s (n : Int) ds l b F 0 = some (.ret (eFaultZ (faultR (n : Int) (isM b) rest)))) : ∀ r i fu, s.cavs.len = i + r → r < fu →
    L68x0 (E F (d + 2)) F s (n : Int) ds l b fu (i : Int) = some (.ret (eFaultZ (faultR (n : Int) (isM b) ((2, (List.range' i r).map (outM s (ds.el n))) :: rest)))) := by
  have h5 := hS.cavs5
  intro r
  induction r with
  | zero =>
    intro i fu h hf
    obtain ⟨fu, rfl⟩ : ∃ k, fu = k + 1 := ⟨fu - 1, by omega⟩
    rw [L68x0s]
    simp only [Int.ofNat_lt, show ¬ i < s.cavs.len by omega, decide_false, cond_false, List.range'_zero, List.map_nil, fR_nil, hR]
  | succ r ih =>
    intro i fu h hf
    obtain ⟨fu, rfl⟩ : ∃ k, fu = k + 1 := ⟨fu - 1, by omega⟩
    rw [L68x0s]
    have l1 := hy.1.1
    have l2 := hy.2.1
    cases b with
    | true =>
      simp only [Int.ofNat_lt, show i < s.cavs.len by omega, decide_true, cond_true, Bool.not_true, cond_false, hR, out_none]
    | false =>
      simp only [Int.ofNat_lt, show i < s.cavs.len by omega, show i < (ds.el n).press.len by omega, show i < (ds.el n).warm.len by omega, decide_true, cond_true, Bool.not_false, Int.natCast_nonneg, Int.toNat_natCast, wrS (show i < 4611686018427387904 by omega), ih (i + 1) fu (by omega) (by omega),
        s32 F d s i ((ds.el n).press.el i) ((ds.el n).warm.el i) hS (by omega) (hy.1.2 i (by omega)), tkOut_ret, tkBool_b]
      rw [List.range'_succ, List.map_cons, fR_cons]
      rw [show isM false (outM s (ds.el n) i) = farB s (s.cavs.el i) ((ds.el n).press.el i) ((ds.el n).warm.el i) from rfl]
      cases farB s (s.cavs.el i) ((ds.el n).press.el i) ((ds.el n).warm.el i) <;> rfl
/-- The marks that are looked for ahead of a day's states, and behind them. -/
def earlyMs (s : Site) (y : Day) (b : Option (Sl Span)) : List (Int × List Mark) :=
  [(2, (List.range' 0 s.cavs.len).map (outM s y)), (3, (List.range' 0 s.cavs.len).map (gateM s y)), (4, fastMs s y b)]
noncomputable def lateMs (s : Site) (m : Option (Sl Stt)) : List (Int × List Mark) := [(5, smallMs s m), (6, thinMs s m), (7, sunkMs s m)]
theorem marks_parts (s : Site) (y : Day) (b : Option (Sl Span)) (m : Option (Sl Stt)) : marksOf s y b m = earlyMs s y b ++ lateMs s m := rfl
theorem s68 (s : Site) (ds : Sl Day) (l : Sl Stt) (b : Bool) (n : Nat) (hS : SiteF s) (hD : DaysOk s ds) (hn : n < ds.len) (hB : ds.len ≤ 100) (hF : 8 < F) :
    E F (d + 3) 68 [.agg (eSite s), .agg [.int .i64 (n : Int), sl eDay 2 ds, sl eStt 6 l], .bool b] = some (.ret (eFaultZ (faultR (n : Int) (isM b) (earlyMs s (ds.el n) (prevOf ds n))))) := by
  have h5 := hS.cavs5
  have hy := hD n hn
  rw [E_succ, t68]
  simp only [Int.natCast_nonneg, Int.ofNat_lt, hn, decide_true, cond_true]
  have h2 : L68x2 (E F (d + 2)) F s (n : Int) ds l b F 0 = some (.ret (eFaultZ (faultR (n : Int) (isM b) [(4, fastMs s (ds.el n) (prevOf ds n))]))) := by
    cases n with
    | zero =>
      obtain ⟨fu, rfl⟩ : ∃ k, F = k + 1 := ⟨F - 1, by omega⟩
      exact l68x2z (fu + 1) (d + 2) s ds l b 0 fu
    | succ k => exact l68x2 F (d + 2) s ds l b k hS hD hn hB s.cavs.len 0 F (by omega) (by omega)
  have h1 := l68x1 F (d + 2) s ds l b n hS hy _ h2 s.cavs.len 0 F (by omega) (by omega)
  exact l68x0 F d s ds l b n hS hy _ h1 s.cavs.len 0 F (by omega) (by omega)

section
variable (s : Site) (ds : Sl Day) (m : Sl Stt) (b : Bool) (n : Int)
theorem l69x3 (hS : SiteF s) (hL : StatesOk s m) (hF : 8 < F) : ∀ r i fu, s.houses.len = i + r → r < fu →
    L69x3 (E F (d + 3)) F s n ds m b fu (i : Int) = some (.ret (eFaultZ (faultR n (isM b) [(7, (List.range' i r).map (sunkM s m))]))) := by
  have h5 := hS.houses5
  intro r
  induction r with
  | zero =>
    intro i fu h hf
    obtain ⟨fu, rfl⟩ : ∃ k, fu = k + 1 := ⟨fu - 1, by omega⟩
    rw [L69x3s]
    simp only [Int.ofNat_lt, show ¬ i < s.houses.len by omega, decide_false, cond_false, List.range'_zero, List.map_nil]
    rfl
  | succ r ih =>
    intro i fu h hf
    obtain ⟨fu, rfl⟩ : ∃ k, fu = k + 1 := ⟨fu - 1, by omega⟩
    rw [L69x3s]
    have hp : Place (s.houses.el i).x (s.houses.el i).y := (hS.house i (by omega)).1
    simp only [Int.ofNat_lt, show i < s.houses.len by omega, decide_true, cond_true, Int.natCast_nonneg, Int.toNat_natCast, wrS (show i < 4611686018427387904 by omega), s19 F (d + 1) s m _ _ hS hL hp hF, s103 F (d + 2), tkOut_ret, tkAgg_a, tkCons_c, tkInt_i, tkNil_n, ih (i + 1) fu (by omega) (by omega)]
    rw [List.range'_succ, List.map_cons, fR_cons]
    cases b with
    | false =>
      rw [show isM false (sunkM s m i) = decide ((sunk s m (s.houses.el i).x (s.houses.el i).y).hi > (s.houses.el i).most) from rfl]
      simp only [Bool.not_false, cond_true]
      cases decide ((sunk s m (s.houses.el i).x (s.houses.el i).y).hi > (s.houses.el i).most) <;> rfl
    | true =>
      rw [show isM true (sunkM s m i) = decide ((sunk s m (s.houses.el i).x (s.houses.el i).y).lo > (s.houses.el i).most) from rfl]
      simp only [Bool.not_true, cond_false]
      cases decide ((sunk s m (s.houses.el i).x (s.houses.el i).y).lo > (s.houses.el i).most) <;> rfl
theorem l69x2 (hS : SiteF s) (hL : StatesOk s m) (hF : 2147483648 < F) (m0 i : Nat) (hi : i < s.cavs.len) (P : List Mark) (rest : List (Int × List Mark)) (hO : L69x1 (E F (d + 3)) F s n ds m b m0 ((i + 1 : Nat) : Int) = some (.ret (eFaultZ (faultR n (isM b) ((6, P) :: rest))))) : ∀ r j fu, s.cavs.len = j + r → r < fu →
    L69x2 (E F (d + 3)) F s n ds m b m0 fu (i : Int) (j : Int) = some (.ret (eFaultZ (faultR n (isM b) ((6, (List.range' j r).map (thinM s m i) ++ P) :: rest)))) := by
  have h5 := hS.cavs5
  have hl := hL.1
  intro r
  induction r with
  | zero =>
    intro j fu h hf
    obtain ⟨fu, rfl⟩ : ∃ k, fu = k + 1 := ⟨fu - 1, by omega⟩
    rw [L69x2s]
    simp only [Int.ofNat_lt, show ¬ j < m.len by omega, decide_false, cond_false, List.range'_zero, List.map_nil, List.nil_append, wrS (show i < 4611686018427387904 by omega), hO]
  | succ r ih =>
    intro j fu h hf
    obtain ⟨fu, rfl⟩ : ∃ k, fu = k + 1 := ⟨fu - 1, by omega⟩
    rw [L69x2s]
    have a1 := (hL.2 i (by omega)).1
    have a2 := (hL.2 j (by omega)).1
    have p1 := (hS.cav i hi).1
    have p2 := (hS.cav j (by omega)).1
    simp only [Int.ofNat_lt, show j < m.len by omega, show i < m.len by omega, decide_true, cond_true, Int.natCast_nonneg, Int.toNat_natCast, wrS (show j < 4611686018427387904 by omega), s40 F d s i j (m.el i).rad (m.el j).rad hi (by omega) p1 p2 (by omega) (by omega) hF, s103 F (d + 2), tkOut_ret, tkAgg_a, tkCons_c, tkInt_i, tkNil_n, ih (j + 1) fu (by omega) (by omega)]
    rw [List.range'_succ, List.map_cons, List.cons_append, fR_cons]
    cases b with
    | false =>
      rw [show isM false (thinM s m i j) = decide (distI (s.cavs.el i) (s.cavs.el j) - (m.el i).rad.hi - (m.el j).rad.hi < s.wall) from rfl]
      simp only [cond_false]
      cases decide (distI (s.cavs.el i) (s.cavs.el j) - (m.el i).rad.hi - (m.el j).rad.hi < s.wall) <;> rfl
    | true =>
      rw [show isM true (thinM s m i j) = decide (distI (s.cavs.el i) (s.cavs.el j) - (m.el i).rad.lo - (m.el j).rad.lo < s.wall) from rfl]
      simp only [cond_true]
      cases decide (distI (s.cavs.el i) (s.cavs.el j) - (m.el i).rad.lo - (m.el j).rad.lo < s.wall) <;> rfl
theorem l69x1 (hS : SiteF s) (hL : StatesOk s m) (hF : 2147483648 < F) (rest : List (Int × List Mark)) (hR : L69x3 (E F (d + 3)) F s n ds m b F 0 = some (.ret (eFaultZ (faultR n (isM b) rest)))) : ∀ k i fu, s.cavs.len = i + k → k < fu →
    L69x1 (E F (d + 3)) F s n ds m b fu (i : Int) = some (.ret (eFaultZ (faultR n (isM b) ((6, pairsM s m k i) :: rest)))) := by
  have h5 := hS.cavs5
  have hl := hL.1
  intro k
  induction k with
  | zero =>
    intro i fu h hf
    obtain ⟨fu, rfl⟩ : ∃ k, fu = k + 1 := ⟨fu - 1, by omega⟩
    rw [L69x1s]
    simp only [Int.ofNat_lt, show ¬ i < m.len by omega, decide_false, cond_false, pairsM, fR_nil, hR]
  | succ k ih =>
    intro i fu h hf
    obtain ⟨fu, rfl⟩ : ∃ k, fu = k + 1 := ⟨fu - 1, by omega⟩
    rw [L69x1s]
    simp only [Int.ofNat_lt, show i < m.len by omega, decide_true, cond_true, wrS (show i < 4611686018427387904 by omega), pairsM]
    exact l69x2 F d s ds m b n hS hL hF fu i (by omega) _ rest (ih (i + 1) fu (by omega) (by omega)) k (i + 1) F (by omega) (by omega)
theorem l69x0 (hS : SiteF s) (hL : StatesOk s m) (rest : List (Int × List Mark)) (hR : L69x1 (E F (d + 3)) F s n ds m b F 0 = some (.ret (eFaultZ (faultR n (isM b) rest)))) : ∀ r i fu, s.cavs.len = i + r → r < fu →
    L69x0 (E F (d + 3)) F s n ds m b fu (i : Int) = some (.ret (eFaultZ (faultR n (isM b) ((5, (List.range' i r).map (smallM s m)) :: rest)))) := by
  have h5 := hS.cavs5
  have hl := hL.1
  intro r
  induction r with
  | zero =>
    intro i fu h hf
    obtain ⟨fu, rfl⟩ : ∃ k, fu = k + 1 := ⟨fu - 1, by omega⟩
    rw [L69x0s]
    simp only [Int.ofNat_lt, show ¬ i < m.len by omega, decide_false, cond_false, List.range'_zero, List.map_nil, fR_nil, hR]
  | succ r ih =>
    intro i fu h hf
    obtain ⟨fu, rfl⟩ : ∃ k, fu = k + 1 := ⟨fu - 1, by omega⟩
    rw [L69x0s]
    simp only [Int.ofNat_lt, show i < m.len by omega, show i < s.cavs.len by omega, decide_true, cond_true, Int.natCast_nonneg, Int.toNat_natCast, wrS (show i < 4611686018427387904 by omega), s103 F (d + 2), tkOut_ret, tkInt_i, ih (i + 1) fu (by omega) (by omega)]
    rw [List.range'_succ, List.map_cons, fR_cons]
    cases b with
    | false =>
      rw [show isM false (smallM s m i) = decide ((m.el i).vol.lo < (s.cavs.el i).floor) from rfl]
      simp only [cond_false]
      cases decide ((m.el i).vol.lo < (s.cavs.el i).floor) <;> rfl
    | true =>
      rw [show isM true (smallM s m i) = decide ((m.el i).vol.hi < (s.cavs.el i).floor) from rfl]
      simp only [cond_true]
      cases decide ((m.el i).vol.hi < (s.cavs.el i).floor) <;> rfl
theorem s69 (hS : SiteF s) (hL : StatesOk s m) (hF : 2147483648 < F) :
    E F (d + 4) 69 [.agg (eSite s), .agg [.int .i64 n, sl eDay 2 ds, sl eStt 6 m], .bool b] = some (.ret (eFaultZ (faultR n (isM b) (lateMs s (some m))))) := by
  have h5 := hS.cavs5
  have h6 := hS.houses5
  rw [E_succ, t69]
  have h3 := l69x3 F d s ds m b n hS hL (by omega) s.houses.len 0 F (by omega) (by omega)
  have h1 := l69x1 F d s ds m b n hS hL hF _ h3 s.cavs.len 0 F (by omega) (by omega)
  exact l69x0 F d s ds m b n hS hL _ h1 s.cavs.len 0 F (by omega) (by omega)
end
end Go.Sim.Cr

/-
  The specification's faults are the program's.
-/
namespace Go.Sim.Cr
open Go.Proofs
variable (F d : Nat)
/-- The first possible, or the first certain fault of the days from one on, as the specification looks for it. -/
noncomputable def refFrom (s : Site) (l : Sl Day) (c : Bool) : Nat → Nat → Sl Stt → Fault
  | 0, _, _ => fineF
  | r + 1, i, now => bif farDay s (l.el i) && c then fineF else
      match faultR (i : Int) (isM c) (earlyMs s (l.el i) (prevOf l i)) with
      | some f => f
      | none => match faultR (i : Int) (isM c) (lateMs s (some (moved s now (l.el i)))) with
        | some f => f
        | none => refFrom s l c r (i + 1) (moved s now (l.el i))
theorem find_some {is : Mark → Bool} {ms : List Mark} (h : ∃ m ∈ ms, is m = true) : ∃ m, ms.find? is = some m := by
  cases e : ms.find? is with
  | some m => exact ⟨m, rfl⟩
  | none =>
    obtain ⟨m, h1, h2⟩ := h
    have := List.find?_eq_none.1 e m h1
    rw [h2] at this
    exact (this rfl).elim
theorem far_early {s : Site} {y : Day} (h : farDay s y = true) (n : Int) (b : Option (Sl Span)) : ∃ f, faultR n (isM false) (earlyMs s y b) = some f := by
  obtain ⟨k, _, hk, e⟩ := (anyF_eq _ _ _).1 h
  obtain ⟨m, hm⟩ := find_some (is := isM false) (ms := (List.range' 0 s.cavs.len).map (outM s y)) ⟨outM s y k, List.mem_map_of_mem (by rw [List.mem_range']; exact ⟨k, by omega, by omega⟩), e⟩
  refine ⟨⟨n, 2, m.at_, m.wth⟩, ?_⟩
  unfold earlyMs
  rw [faultR, hm]
theorem l31 (s : Site) (l : Sl Day) (c : Bool) (hS : SiteF s) (hD : DaysOk s l) (hB : l.len ≤ 100) (hF : 2147483648 < F) : ∀ r i fu (now : Sl Stt), l.len = i + r → r < fu → StatesOk s now →
    L31x0 (E F (d + 4)) F s l c fu now.nl now.len 6 (fun i => eStt (now.el i)) (i : Int) = some (.ret (.agg (eFault (refFrom s l c r i now)))) := by
  intro r
  induction r with
  | zero =>
    intro i fu now h hf hn
    obtain ⟨fu, rfl⟩ : ∃ k, fu = k + 1 := ⟨fu - 1, by omega⟩
    rw [L31x0s]
    simp only [Int.ofNat_lt, show ¬ i < l.len by omega, decide_false, cond_false, refFrom]
  | succ r ih =>
    intro i fu now h hf hn
    obtain ⟨fu, rfl⟩ : ∃ k, fu = k + 1 := ⟨fu - 1, by omega⟩
    rw [L31x0s]
    have hy := hD i (by omega)
    have e21 := s21 F d s now (l.el i) hS hn hy (by omega)
    have e68 := s68 F (d + 1) s l now c i hS hD (by omega) hB (by omega)
    simp only [Int.ofNat_lt, show i < l.len by omega, decide_true, cond_true, Int.natCast_nonneg, Int.toNat_natCast, e21, e68, tkOut_ret, wrS (show i < 4611686018427387904 by omega), moveR, refFrom]
    cases hfd : farDay s (l.el i) with
    | true =>
      simp only [cond_true, tkTup_t, tkCons_c, tkRow_r, tkBool_b, tkNil_n, Bool.not_false]
      cases c with
      | true => simp only [cond_true, Bool.and_self]
      | false =>
        obtain ⟨f, hf'⟩ := far_early hfd (i : Int) (prevOf l i)
        simp only [cond_false, cond_true, Bool.and_false, hf', tkTup_t, tkCons_c, tkAgg_a, tkInt_i, tkBool_b, tkNil_n]
    | false =>
      have hmv := moved_ok hS hn hy hfd
      have e69 := s69 F d s l (moved s now (l.el i)) c (i : Int) hS hmv hF
      have nx := ih (i + 1) fu (moved s now (l.el i)) (by omega) (by omega) hmv
      simp only [cond_false, tkTup_t, tkCons_c, tkRow_r, tkBool_b, tkNil_n, Bool.not_true, Bool.false_and]
      cases faultR (i : Int) (isM c) (earlyMs s (l.el i) (prevOf l i)) with
      | some f => simp only [tkTup_t, tkCons_c, tkAgg_a, tkInt_i, tkBool_b, tkNil_n, cond_true]
      | none =>
        simp only [tkTup_t, tkCons_c, tkAgg_a, tkInt_i, tkBool_b, tkNil_n, cond_false, e69, tkOut_ret]
        cases faultR (i : Int) (isM c) (lateMs s (some (moved s now (l.el i)))) with
        | some f => simp only [tkTup_t, tkCons_c, tkAgg_a, tkInt_i, tkBool_b, tkNil_n, cond_true]
        | none =>
          simp only [tkTup_t, tkCons_c, tkAgg_a, tkInt_i, tkBool_b, tkNil_n, cond_false]
          exact nx
theorem s31 (s : Site) (l : Sl Day) (c : Bool) (hS : SiteF s) (hD : DaysOk s l) (hB : l.len ≤ 100) (hF : 2147483648 < F) :
    E F (d + 5) 31 [.agg (eSite s), sl eDay 2 l, .bool c] = some (.ret (.agg (eFault (refFrom s l c l.len 0 (begin s))))) := by
  rw [E_succ, t31]
  simp only [s38 F (d + 3) s hS.cavs1 hS.cavs5 (by omega), tkOut_ret, tkRow_r]
  exact l31 F d s l c hS hD hB hF l.len 0 F (begin s) (by omega) (by omega) (begin_ok hS)

theorem faultR_append (n : Int) (is : Mark → Bool) : ∀ A B : List (Int × List Mark), faultR n is (A ++ B) = match faultR n is A with | some f => some f | none => faultR n is B := by
  intro A B
  induction A with
  | nil => rfl
  | cons a A ih =>
    obtain ⟨k, ms⟩ := a
    rw [List.cons_append]
    cases e : ms.find? is with
    | some m => rw [fR_some e, fR_some e]
    | none => rw [fR_none e, fR_none e]; exact ih
theorem late_none (s : Site) (n : Int) (is : Mark → Bool) : faultR n is (lateMs s none) = none := rfl
/-- What is certain is possible. -/
def Sure (mss : List (Int × List Mark)) : Prop := ∀ p ∈ mss, ∀ m ∈ p.2, m.certain = true → m.possible = true
theorem sure_some {n : Int} : ∀ {mss : List (Int × List Mark)}, Sure mss → (∃ f, faultR n (isM true) mss = some f) → ∃ f, faultR n (isM false) mss = some f := by
  intro mss
  induction mss with
  | nil => rintro _ ⟨f, h⟩; cases h
  | cons a mss ih =>
    obtain ⟨k, ms⟩ := a
    rintro hs ⟨f, h⟩
    unfold faultR at h ⊢
    cases e : ms.find? (isM false) with
    | some m => exact ⟨_, rfl⟩
    | none =>
      have e2 : ms.find? (isM true) = none := by
        rw [List.find?_eq_none] at e ⊢
        intro m hm hc
        exact e m hm (hs (k, ms) (by simp) m hm hc)
      rw [e2] at h
      exact ih (fun p hp => hs p (by simp [hp])) ⟨f, h⟩
theorem sunkFrom_le {s : Site} {m : Sl Stt} (hS : SiteF s) (hL : StatesOk s m) (x y : Int) : ∀ r i a b, m.len = i + r → a ≤ b → (sunkFrom s m x y r i a b).lo ≤ (sunkFrom s m x y r i a b).hi := by
  intro r
  induction r with
  | zero => intro i a b _ h; exact h
  | succ r ih =>
    intro i a b h hab
    refine ih (i + 1) _ _ (by omega) ?_
    have hq := shareOf_ok hS (s.cavs.el i) x y
    have hv := (hL.2 i (by omega)).2.2
    have h1 : (m.el i).lost.lo * (shareOf s (s.cavs.el i) x y).lo ≤ (m.el i).lost.hi * (shareOf s (s.cavs.el i) x y).hi := Int.mul_le_mul hv.2.1 hq.2.1 hq.1 (by omega)
    have h2 : (m.el i).lost.lo * (shareOf s (s.cavs.el i) x y).lo / 1000000 ≤ ((m.el i).lost.hi * (shareOf s (s.cavs.el i) x y).hi + 999999) / 1000000 := Int.ediv_le_ediv (by omega) (by omega)
    omega
theorem sunk_le {s : Site} {m : Sl Stt} (hS : SiteF s) (hL : StatesOk s m) (x y : Int) : (sunk s m x y).lo ≤ (sunk s m x y).hi := sunkFrom_le hS hL x y m.len 0 0 0 (by omega) (Int.le_refl _)
theorem pairs_sure {s : Site} {m : Sl Stt} (hL : StatesOk s m) : ∀ k i, s.cavs.len = i + k → ∀ x ∈ pairsM s m k i, x.certain = true → x.possible = true := by
  intro k
  induction k with
  | zero => intro i _ x hx; cases hx
  | succ k ih =>
    intro i h x hx
    rw [pairsM, List.mem_append] at hx
    rcases hx with hx | hx
    · obtain ⟨j, hj, rfl⟩ := List.mem_map.1 hx
      rw [List.mem_range'] at hj
      obtain ⟨q, hq, rfl⟩ := hj
      have hl := hL.1
      have a1 := (hL.2 i (by omega)).1
      have a2 := (hL.2 (i + 1 + 1 * q) (by omega)).1
      simp only [thinM, decide_eq_true_iff]
      omega
    · exact ih (i + 1) (by omega) x hx
theorem early_sure {s : Site} {y : Day} {b : Option (Sl Span)} (hD : DayOk s y) (hb : ∀ x, b = some x → x.len = s.cavs.len ∧ ∀ i, i < x.len → SpanIn (x.el i) 0 50000) : Sure (earlyMs s y b) := by
  have hp := hD.1.1
  intro p hp' m hm
  simp only [earlyMs, List.mem_cons, List.not_mem_nil, or_false] at hp'
  rcases hp' with rfl | rfl | rfl
  · obtain ⟨j, _, rfl⟩ := List.mem_map.1 hm
    intro h; cases h
  · obtain ⟨j, hj, rfl⟩ := List.mem_map.1 hm
    rw [List.mem_range'] at hj
    obtain ⟨q, hq, rfl⟩ := hj
    have := hD.1.2 (0 + 1 * q) (by omega)
    simp only [gateM, Bool.or_eq_true, decide_eq_true_iff]
    omega
  · cases b with
    | none => cases hm
    | some x =>
      obtain ⟨j, hj, rfl⟩ := List.mem_map.1 hm
      rw [List.mem_range'] at hj
      obtain ⟨q, hq, rfl⟩ := hj
      obtain ⟨g1, g2⟩ := hb x rfl
      have a1 := hD.1.2 (0 + 1 * q) (by omega)
      have a2 := g2 (0 + 1 * q) (by omega)
      simp only [fastM, maxI_gt, Bool.or_eq_true, decide_eq_true_iff]
      omega
theorem late_sure {s : Site} {m : Sl Stt} (hS : SiteF s) (hL : StatesOk s m) : Sure (lateMs s (some m)) := by
  have hl := hL.1
  intro p hp' x hx
  simp only [lateMs, List.mem_cons, List.not_mem_nil, or_false] at hp'
  rcases hp' with rfl | rfl | rfl
  · obtain ⟨j, hj, rfl⟩ := List.mem_map.1 hx
    rw [List.mem_range'] at hj
    obtain ⟨q, hq, rfl⟩ := hj
    have := (hL.2 (0 + 1 * q) (by omega)).2.1
    simp only [smallM, decide_eq_true_iff]
    omega
  · exact pairs_sure hL s.cavs.len 0 (by omega) x hx
  · obtain ⟨j, hj, rfl⟩ := List.mem_map.1 hx
    have := sunk_le hS hL (s.houses.el j).x (s.houses.el j).y
    simp only [sunkM, decide_eq_true_iff]
    omega
theorem isM_f : isM false = Mark.possible := rfl
theorem isM_t : isM true = Mark.certain := rfl
theorem prev_ok {s : Site} {l : Sl Day} (hD : DaysOk s l) {i : Nat} (hi : i ≤ l.len) : ∀ x, prevOf l i = some x → x.len = s.cavs.len ∧ ∀ j, j < x.len → SpanIn (x.el j) 0 50000 := by
  intro x hx
  cases i with
  | zero => cases hx
  | succ k =>
    injection hx with hx
    subst hx
    exact (hD k (by omega)).1
theorem faults_from {s : Site} {l : Sl Day} (hS : SiteF s) (hD : DaysOk s l) : ∀ r i now (found : Bool) (may : Fault), l.len = i + r → StatesOk s now → (found = false → may = fineF) →
    faultsFrom s l r i (prevOf l i) now found may fineF = (bif found then may else refFrom s l false r i now, refFrom s l true r i now) := by
  intro r
  induction r with
  | zero =>
    intro i now found may h hn hf
    cases found with
    | true => rfl
    | false => rw [hf rfl]; rfl
  | succ r ih =>
    intro i now found may h hn hf
    have hy := hD i (by omega)
    have he := early_sure (b := prevOf l i) hy (prev_ok hD (by omega))
    unfold faultsFrom refFrom
    dsimp only
    cases hfd : farDay s (l.el i) with
    | true =>
      simp only [cond_true, Bool.and_true, Bool.and_false, cond_false, marks_parts, faultR_append, ← isM_f, late_none]
      obtain ⟨f, e⟩ := far_early hfd (i : Int) (prevOf l i)
      rw [e]
      rfl
    | false =>
      have hmv := moved_ok hS hn hy hfd
      have hl := late_sure hS hmv
      have nx := fun fd my => ih (i + 1) (moved s now (l.el i)) fd my (by omega) hmv
      have pv : prevOf l (i + 1) = some (l.el i).press := rfl
      rw [pv] at nx
      simp only [cond_false, Bool.false_and, marks_parts, faultR_append, ← isM_f, ← isM_t]
      have se := sure_some (n := (i : Int)) he
      have sl' := sure_some (n := (i : Int)) hl
      cases e1 : faultR (i : Int) (isM true) (earlyMs s (l.el i) (prevOf l i)) with
      | some f =>
        obtain ⟨g, e2⟩ := se ⟨f, e1⟩
        rw [e2]
        cases found <;> rfl
      | none =>
        cases e3 : faultR (i : Int) (isM true) (lateMs s (some (moved s now (l.el i)))) with
        | some f =>
          obtain ⟨g, e4⟩ := sl' ⟨f, e3⟩
          rw [e4]
          cases faultR (i : Int) (isM false) (earlyMs s (l.el i) (prevOf l i)) <;> cases found <;> rfl
        | none =>
          cases faultR (i : Int) (isM false) (earlyMs s (l.el i) (prevOf l i)) with
          | some g =>
            refine (nx _ _ ?_).trans ?_
            · cases found <;> intro h <;> cases h
            · cases found <;> rfl
          | none =>
            cases faultR (i : Int) (isM false) (lateMs s (some (moved s now (l.el i)))) with
            | some g =>
              refine (nx _ _ ?_).trans ?_
              · cases found <;> intro h <;> cases h
              · cases found <;> rfl
            | none =>
              refine (nx _ _ ?_).trans ?_
              · cases found with
                | true => intro h; cases h
                | false => intro _; rfl
              · cases found <;> rfl
theorem faults_eq {s : Site} {l : Sl Day} (hS : SiteF s) (hD : DaysOk s l) : faults s l = (refFrom s l false l.len 0 (begin s), refFrom s l true l.len 0 (begin s)) :=
  faults_from hS hD l.len 0 (begin s) false fineF (by omega) (begin_ok hS) (fun _ => rfl)
end Go.Sim.Cr

/-
  CreepFaults: the law answers true.
-/
namespace Go.Sim.Cr
open Go.Proofs
variable (F d : Nat)
theorem eqF4 (a b c e : Int) : ((a == a) && ((b == b) && ((c == c) && ((e == e) && true)))) = true := by simp
theorem z33 : ((3 : Int) == 3) = true := rfl
theorem l5xend (s : Site) (l : Sl Day) (e : Int) (he : (e == 0) = false) (hF : 2147483648 < F) (i3 : Int) (fu : Nat) :
    L5x0 (E F (d + 11)) F s l (fu + 1) .i64 e e i3 .i64 0 .i64 0 .i64 0 .i64 0 .i64 0 .i64 0 .i64 0 .i64 0 = some (.ret (.bool true)) := by
  have k := s13 F d (by omega)
  rw [L5x0s]
  have e2 : (e == e) = true := by simp
  simp only [he, bne, Bool.not_false, pF, pT, decide_true, e2, eqF4, k, pOut, pBool]
  cases decide (i3 < (l.len : Int)) <;> rfl
theorem l5xno (s : Site) (l : Sl Day) (hl : ShortD l) (hs : Small s F) (hF : 2147483648 < F) : ∀ r i fu, l.len = i + r → r < fu → l.len ≤ 100 → ¬ (∀ k, i ≤ k → k < l.len → DayOk s (l.el k)) →
    L5x0 (E F (d + 11)) F s l fu .i64 2 0 (i : Int) .i64 0 .i64 0 .i64 0 .i64 0 .i64 0 .i64 0 .i64 0 .i64 0 = some (.ret (.bool true)) := by
  intro r
  induction r with
  | zero => intro i fu h hf hb hn; exact (hn fun k h1 h2 => by omega).elim
  | succ r ih =>
    intro i fu h hf hb hn
    obtain ⟨fu, rfl⟩ : ∃ k, fu = k + 1 := ⟨fu - 1, by omega⟩
    rw [L5x0s]
    simp only [Int.ofNat_lt, show i < l.len by omega, decide_true, pT, z00, Int.natCast_nonneg, Int.toNat_natCast, s20 F (d + 9) s (l.el i) hs.cavs hs.cavsF, pOut, pBool, wrS (show i < 4611686018427387904 by omega)]
    by_cases hd : DayOk s (l.el i)
    · simp only [decide_eq_true hd, Bool.not_true, pF]
      exact ih (i + 1) fu (by omega) (by omega) hb fun hx => hn fun k h1 h2 => by
        rcases Nat.eq_or_lt_of_le h1 with rfl | h3
        · exact hd
        · exact hx k h3 h2
    · simp only [decide_eq_false hd, Bool.not_false, pT]
      obtain ⟨fu, rfl⟩ : ∃ k, fu = k + 1 := ⟨fu - 1, by omega⟩
      exact l5xend F d s l 2 rfl hF _ fu
theorem l5xyes (s : Site) (l : Sl Day) (hs : Small s F) (hS : SiteF s) (hD : DaysOk s l) (hb : l.len ≤ 100) (hF : 2147483648 < F) (a b : Fault) (ha : a = refFrom s l false l.len 0 (begin s)) (hb' : b = refFrom s l true l.len 0 (begin s)) : ∀ r i fu, l.len = i + r → r < fu →
    L5x0 (E F (d + 11)) F s l fu .i64 0 0 (i : Int) .i64 a.day .i64 a.rule .i64 a.of .i64 a.wth .i64 b.day .i64 b.rule .i64 b.of .i64 b.wth = some (.ret (.bool true)) := by
  have k := s13 F d (by omega)
  intro r
  induction r with
  | zero =>
    intro i fu h hf
    obtain ⟨fu, rfl⟩ : ∃ k, fu = k + 1 := ⟨fu - 1, by omega⟩
    rw [L5x0s]
    have e1 := s31 F (d + 6) s l false hS hD hb hF
    have e2 := s31 F (d + 6) s l true hS hD hb hF
    rw [← ha] at e1
    rw [← hb'] at e2
    simp only [Int.ofNat_lt, show ¬ i < l.len by omega, decide_false, pF, z00, bne, Bool.not_true, decide_true, pT, e1, e2, pOut, pAgg, pCons, pInt, pNil, eqF4, k, pBool]
  | succ r ih =>
    intro i fu h hf
    obtain ⟨fu, rfl⟩ : ∃ k, fu = k + 1 := ⟨fu - 1, by omega⟩
    rw [L5x0s]
    simp only [Int.ofNat_lt, show i < l.len by omega, decide_true, pT, z00, Int.natCast_nonneg, Int.toNat_natCast, s20 F (d + 9) s (l.el i) hs.cavs hs.cavsF, pOut, pBool, wrS (show i < 4611686018427387904 by omega), decide_eq_true (hD i (by omega)), Bool.not_true, pF]
    exact ih (i + 1) fu (by omega) (by omega)
set_option maxRecDepth 100000 in
theorem s5 (s : Site) (l : Sl Day) (hlm : l.len ≤ 1000000000000000) (hF : 1000000000000001 < F) : E F (d + 12) 5 [.agg (eSite s), sl eDay 2 l] = some (.ret (.bool true)) := by
  have k := s13 F d (by omega)
  rw [E_succ, t5]
  simp only [s11 F (d + 10), pOut, pBool]
  by_cases h0 : ShortS s
  · have hs := small_of F h0 (by omega)
    have hB : l.len < Big := by show l.len < 4611686018427387904; omega
    simp only [decide_eq_true h0, Bool.not_true, pF, s12 F (d + 10) l 12 hB (by omega), pOut, pBool]
    by_cases h2 : Few l 12
    · have h65 : l.len ≤ 65 := by have := h2.2; omega
      have e30 := s30 F (d + 1) s l hs h2.1 hB (by omega) (by omega)
      have e16 := s16 F (d + 8) s hs
      simp only [decide_eq_true h2, Bool.not_true, pF, e30, e16, pOut, pBool]
      have ec : decide ((l.len : Int) > 60) = decide (60 < l.len) := by apply b2; simp only [decide_eq_true_iff]; omega
      obtain ⟨fu, hfu⟩ : ∃ k, F = k + 1 := ⟨F - 1, by omega⟩
      rw [ec]
      by_cases h3 : 60 < l.len
      · have g := l5xend F d s l 3 rfl (by omega) 0 fu
        rw [← hfu] at g
        simp only [decide_eq_true h3, pT, pTup, pCons, pAgg, pInt, pNil]
        exact g
      · cases h4 : siteB s with
        | false =>
          have g := l5xend F d s l 2 rfl (by omega) 0 fu
          rw [← hfu] at g
          simp only [decide_eq_false h3, Bool.false_and, pF, pTup, pCons, pAgg, pInt, pNil, Bool.not_false, pT]
          exact g
        | true =>
          have hS := (siteB_iff s).1 h4
          by_cases h5 : DaysOk s l
          · have g := l5xyes F d s l hs hS h5 (by omega) (by omega) (faults s l).1 (faults s l).2 (by rw [faults_eq hS h5]) (by rw [faults_eq hS h5]) l.len 0 F (by omega) (by omega)
            simp only [decide_eq_false h3, decide_eq_true h5, Bool.and_self, pF, pT, pTup, pCons, pAgg, pInt, pNil, Bool.not_true]
            exact g
          · have g := l5xno F d s l h2.1 hs (by omega) l.len 0 F (by omega) (by omega) (by omega) (fun hx => h5 fun i hi => hx i (Nat.zero_le _) hi)
            simp only [decide_eq_false h3, decide_eq_false h5, Bool.and_false, pF, pTup, pCons, pAgg, pInt, pNil, Bool.not_true]
            exact g
    · simp only [decide_eq_false h2, Bool.not_false, pT, k, pOut, pBool]
  · simp only [decide_eq_false h0, Bool.not_false, pT, k, pOut, pBool]
end Go.Sim.Cr

/-
  What the evaluator says of these functions (printed by a private program; each row is checked by the kernel).
-/
set_option maxRecDepth 100000
namespace Go.Sim.Cr
open Go.Proofs

noncomputable def L10x0 (env : Env) (F : Nat) (s : Site) (c : Int) (q : Span) (n : Int) (m : Int) (fu : Nat) (q0 : IntKind) (i1 : Int) : Option Out := atLoop Try.prog (cfg F) env 10 [.r, .r, .r, .r, .r, .r, .r, .r, .r, .r, .r, .r, .r, .l, .r, .d] [] fu { tm := tmL 198 0 [(3, (.int .i64 n)), (7, (.optr 0 0 0)), (11, (.int q0 i1)), (18, (.optr 1 0 0)), (19, (.row true 0 0 (fun u10 => []))), (20, (.int .i64 (0 : Int)))], hp := [(.box 41 (eSpan q) true), (.box 28 [(.osl 2 0 1), (sl eRow 5 (Site.rows s)), (sl eHeat 3 (Site.heats s)), (.int .i64 (Site.wall s)), (sl eRing 3 (Site.rings s)), (.row true 0 0 (fun u10 => []))] true), (.arr 57 11 1 (fun u10 => (eCav (Sl.el (Site.cavs s) (Int.toNat c)))) true)] }
noncomputable def L10x1 (env : Env) (F : Nat) (s : Site) (c : Int) (q : Span) (n : Int) (m : Int) (fu : Nat) (q0 : IntKind) (i1 : Int) (k2 : Nat) (i3 : Int) (k4 : Nat) (g5 : Nat → List V) : Option Out := atLoop Try.prog (cfg F) env 10 [.r, .r, .r, .r, .r, .r, .r, .r, .r, .r, .r, .r, .r, .l, .r, .d] [] fu { tm := tmL 198 0 [(3, (.int .i64 n)), (7, (.optr 0 0 0)), (11, (.int q0 i1)), (18, (.optr 1 0 0)), (19, (.osl 2 0 k2)), (20, (.int .i64 i3))], hp := [(.box 41 (eSpan q) true), (.box 28 [(.osl 3 0 1), (sl eRow 5 (Site.rows s)), (sl eHeat 3 (Site.heats s)), (.int .i64 (Site.wall s)), (sl eRing 3 (Site.rings s)), (.row true 0 0 (fun u14 => []))] true), (.arr 32 2 k4 g5 true), (.arr 57 11 1 (fun u14 => (eCav (Sl.el (Site.cavs s) (Int.toNat c)))) true)] }
theorem t10 (env : Env) (F : Nat) (s : Site) (c : Int) (q : Span) (n : Int) (m : Int) : (evFun Try.prog (cfg F) env 10 [(.agg (eSite s)), (.int .i64 c), (.agg (eSpan q)), (.int .i64 n), (.int .i64 m)]) =
  (tkOut (env 11 [(.agg (eSite s))]) none (fun v7 => (tkBool v7 none fun b8 => (bif (!b8) then (tkOut (env 13 []) none (fun v9 => (tkBool v9 none fun b10 => some (.ret (.bool b10))))
        (fun p9 => (tkIfc p9 none fun t10 x11 => (bif (flatP (.iface t10 x11)) then some (.pan (.iface t10 x11))
            else none))))
      else (tkOut (env 16 [(.agg (eSite s))]) none (fun v9 => (tkBool v9 none fun b10 => (bif (!b10) then (tkOut (env 13 []) none (fun v11 => (tkBool v11 none fun b12 => some (.ret (.bool b12))))
              (fun p11 => (tkIfc p11 none fun t12 x13 => (bif (flatP (.iface t12 x13)) then some (.pan (.iface t12 x13))
                  else none))))
            else (tkOut (env 39 [(.agg (eSite s)), (.int .i64 c)]) none (fun v11 => (tkBool v11 none fun b12 => (bif (!b12) then (tkOut (env 13 []) none (fun v13 => (tkBool v13 none fun b14 => some (.ret (.bool b14))))
                    (fun p13 => (tkIfc p13 none fun t14 x15 => (bif (flatP (.iface t14 x15)) then some (.pan (.iface t14 x15))
                        else none))))
                  else (tkOut (env 43 [(.agg (eSpan q)), (.int .i64 (0 : Int)), (.int .i64 (10000 : Int))]) none (fun v13 => (tkBool v13 none fun b14 => (bif (!b14) then (tkOut (env 13 []) none (fun v15 => (tkBool v15 none fun b16 => some (.ret (.bool b16))))
                          (fun p15 => (tkIfc p15 none fun t16 x17 => (bif (flatP (.iface t16 x17)) then some (.pan (.iface t16 x17))
                              else none))))
                        else (bif (decide (n < (1 : Int))) then (tkOut (env 13 []) none (fun v15 => (tkBool v15 none fun b16 => some (.ret (.bool b16))))
                            (fun p15 => (tkIfc p15 none fun t16 x17 => (bif (flatP (.iface t16 x17)) then some (.pan (.iface t16 x17))
                                else none))))
                          else (bif (decide (n > (20 : Int))) then (tkOut (env 13 []) none (fun v15 => (tkBool v15 none fun b16 => some (.ret (.bool b16))))
                              (fun p15 => (tkIfc p15 none fun t16 x17 => (bif (flatP (.iface t16 x17)) then some (.pan (.iface t16 x17))
                                  else none))))
                            else (bif (decide (m < (0 : Int))) then (tkOut (env 13 []) none (fun v15 => (tkBool v15 none fun b16 => some (.ret (.bool b16))))
                                (fun p15 => (tkIfc p15 none fun t16 x17 => (bif (flatP (.iface t16 x17)) then some (.pan (.iface t16 x17))
                                    else none))))
                              else (bif (decide (m > (50000 : Int))) then (tkOut (env 13 []) none (fun v15 => (tkBool v15 none fun b16 => some (.ret (.bool b16))))
                                  (fun p15 => (tkIfc p15 none fun t16 x17 => (bif (flatP (.iface t16 x17)) then some (.pan (.iface t16 x17))
                                      else none))))
                                else (tkOut (env 42 [(.agg (eSite s)), (.int .i64 c), (.agg (eSpan q)), (.int .i64 n)]) none (fun v15 => (tkTup v15 none fun l16 => (tkCons l16 none fun v17 r18 => (tkInt v17 none fun q19 n20 => (tkCons r18 none fun v21 r22 => (tkInt v21 none fun q23 n24 => (tkNil r22 none ((tkOut (env 41 [(.agg (eSite s)), (.int .i64 c), (.agg [(.int .i64 m), (.int .i64 m)]), (.agg (eSpan q))]) none (fun v25 => (tkTup v25 none fun l26 => (tkCons l26 none fun v27 r28 => (tkInt v27 none fun q29 n30 => (tkCons r28 none fun v31 r32 => (tkInt v31 none fun q33 n34 => (tkNil r32 none ((bif (decide (q33 = .i64)) then (bif (n34 != (0 : Int)) then some (.ret (.bool false))
                                                                else (bif (decide (q29 = .i64)) then (bif (decide (n30 < (0 : Int))) then some (.ret (.bool false))
                                                                    else (bif (decide (q29 = .i64)) then (bif (decide (n30 > (60 : Int))) then some (.ret (.bool false))
                                                                        else (bif (decide ((0 : Int) ≤ c)) then (bif (decide (c < (((Sl.len (Site.cavs s)) : Nat) : Int))) then (bif (decide (q23 = .i64)) then (bif (n24 != (0 : Int)) then (bif (decide (q23 = .i64)) then (bif (n24 == (5 : Int)) then (bif (decide (q29 = .i64)) then (bif (decide (n30 < n)) then (tkOut (env 13 []) none (fun v35 => (tkBool v35 none fun b36 => some (.ret (.bool b36))))
                                                                                          (fun p35 => (tkIfc p35 none fun t36 x37 => (bif (flatP (.iface t36 x37)) then some (.pan (.iface t36 x37))
                                                                                              else none))))
                                                                                        else some (.ret (.bool false)))
                                                                                      else none)
                                                                                    else some (.ret (.bool false)))
                                                                                  else none)
                                                                                else (bif (decide (q19 = .i64)) then (bif (decide (n20 < (0 : Int))) then some (.ret (.bool false))
                                                                                    else (bif (decide (q19 = .i64)) then (bif (decide (n20 > (50000 : Int))) then some (.ret (.bool false))
                                                                                        else (bif (decide (.i64 = q19)) then (bif (decide (m < n20)) then (bif (decide (q29 = .i64)) then (bif (decide (n30 ≥ n)) then some (.ret (.bool false))
                                                                                                else (bif (decide (.i64 = q19)) then (bif (decide (m ≥ n20)) then (bif (decide (m ≤ (Span.hi (Cav.gate (Sl.el (Site.cavs s) (Int.toNat c)))))) then (bif (decide (m ≤ (Cav.rock (Sl.el (Site.cavs s) (Int.toNat c))))) then (bif (decide (q29 = .i64)) then (bif (decide (n30 < n)) then some (.ret (.bool false))
                                                                                                            else (tkOut (env 41 [(.agg (eSite s)), (.int .i64 c), (.agg [(.int q19 n20), (.int q19 n20)]), (.agg (eSpan q))]) none (fun v35 => (tkTup v35 none fun l36 => (tkCons l36 none fun v37 r38 => (tkInt v37 none fun q39 n40 => (tkCons r38 none fun v41 r42 => (tkInt v41 none fun q43 n44 => (tkNil r42 none ((bif (decide (q43 = .i64)) then (bif (n44 != (0 : Int)) then some (.ret (.bool false))
                                                                                                                              else (bif (decide (q39 = .i64)) then (bif (decide (n40 < n)) then some (.ret (.bool false))
                                                                                                                                  else (L10x0 env F s c q n m F q19 n20))
                                                                                                                                else none))
                                                                                                                            else none)))))))))
                                                                                                              (fun p35 => (tkIfc p35 none fun t36 x37 => (bif (flatP (.iface t36 x37)) then some (.pan (.iface t36 x37))
                                                                                                                  else none)))))
                                                                                                          else none)
                                                                                                        else (tkOut (env 41 [(.agg (eSite s)), (.int .i64 c), (.agg [(.int q19 n20), (.int q19 n20)]), (.agg (eSpan q))]) none (fun v35 => (tkTup v35 none fun l36 => (tkCons l36 none fun v37 r38 => (tkInt v37 none fun q39 n40 => (tkCons r38 none fun v41 r42 => (tkInt v41 none fun q43 n44 => (tkNil r42 none ((bif (decide (q43 = .i64)) then (bif (n44 != (0 : Int)) then some (.ret (.bool false))
                                                                                                                          else (bif (decide (q39 = .i64)) then (bif (decide (n40 < n)) then some (.ret (.bool false))
                                                                                                                              else (L10x0 env F s c q n m F q19 n20))
                                                                                                                            else none))
                                                                                                                        else none)))))))))
                                                                                                          (fun p35 => (tkIfc p35 none fun t36 x37 => (bif (flatP (.iface t36 x37)) then some (.pan (.iface t36 x37))
                                                                                                              else none)))))
                                                                                                      else (tkOut (env 41 [(.agg (eSite s)), (.int .i64 c), (.agg [(.int q19 n20), (.int q19 n20)]), (.agg (eSpan q))]) none (fun v35 => (tkTup v35 none fun l36 => (tkCons l36 none fun v37 r38 => (tkInt v37 none fun q39 n40 => (tkCons r38 none fun v41 r42 => (tkInt v41 none fun q43 n44 => (tkNil r42 none ((bif (decide (q43 = .i64)) then (bif (n44 != (0 : Int)) then some (.ret (.bool false))
                                                                                                                        else (bif (decide (q39 = .i64)) then (bif (decide (n40 < n)) then some (.ret (.bool false))
                                                                                                                            else (L10x0 env F s c q n m F q19 n20))
                                                                                                                          else none))
                                                                                                                      else none)))))))))
                                                                                                        (fun p35 => (tkIfc p35 none fun t36 x37 => (bif (flatP (.iface t36 x37)) then some (.pan (.iface t36 x37))
                                                                                                            else none)))))
                                                                                                    else (tkOut (env 41 [(.agg (eSite s)), (.int .i64 c), (.agg [(.int q19 n20), (.int q19 n20)]), (.agg (eSpan q))]) none (fun v35 => (tkTup v35 none fun l36 => (tkCons l36 none fun v37 r38 => (tkInt v37 none fun q39 n40 => (tkCons r38 none fun v41 r42 => (tkInt v41 none fun q43 n44 => (tkNil r42 none ((bif (decide (q43 = .i64)) then (bif (n44 != (0 : Int)) then some (.ret (.bool false))
                                                                                                                      else (bif (decide (q39 = .i64)) then (bif (decide (n40 < n)) then some (.ret (.bool false))
                                                                                                                          else (L10x0 env F s c q n m F q19 n20))
                                                                                                                        else none))
                                                                                                                    else none)))))))))
                                                                                                      (fun p35 => (tkIfc p35 none fun t36 x37 => (bif (flatP (.iface t36 x37)) then some (.pan (.iface t36 x37))
                                                                                                          else none)))))
                                                                                                  else none))
                                                                                              else none)
                                                                                            else (bif (decide (.i64 = q19)) then (bif (decide (m ≥ n20)) then (bif (decide (m ≤ (Span.hi (Cav.gate (Sl.el (Site.cavs s) (Int.toNat c)))))) then (bif (decide (m ≤ (Cav.rock (Sl.el (Site.cavs s) (Int.toNat c))))) then (bif (decide (q29 = .i64)) then (bif (decide (n30 < n)) then some (.ret (.bool false))
                                                                                                        else (tkOut (env 41 [(.agg (eSite s)), (.int .i64 c), (.agg [(.int q19 n20), (.int q19 n20)]), (.agg (eSpan q))]) none (fun v35 => (tkTup v35 none fun l36 => (tkCons l36 none fun v37 r38 => (tkInt v37 none fun q39 n40 => (tkCons r38 none fun v41 r42 => (tkInt v41 none fun q43 n44 => (tkNil r42 none ((bif (decide (q43 = .i64)) then (bif (n44 != (0 : Int)) then some (.ret (.bool false))
                                                                                                                          else (bif (decide (q39 = .i64)) then (bif (decide (n40 < n)) then some (.ret (.bool false))
                                                                                                                              else (L10x0 env F s c q n m F q19 n20))
                                                                                                                            else none))
                                                                                                                        else none)))))))))
                                                                                                          (fun p35 => (tkIfc p35 none fun t36 x37 => (bif (flatP (.iface t36 x37)) then some (.pan (.iface t36 x37))
                                                                                                              else none)))))
                                                                                                      else none)
                                                                                                    else (tkOut (env 41 [(.agg (eSite s)), (.int .i64 c), (.agg [(.int q19 n20), (.int q19 n20)]), (.agg (eSpan q))]) none (fun v35 => (tkTup v35 none fun l36 => (tkCons l36 none fun v37 r38 => (tkInt v37 none fun q39 n40 => (tkCons r38 none fun v41 r42 => (tkInt v41 none fun q43 n44 => (tkNil r42 none ((bif (decide (q43 = .i64)) then (bif (n44 != (0 : Int)) then some (.ret (.bool false))
                                                                                                                      else (bif (decide (q39 = .i64)) then (bif (decide (n40 < n)) then some (.ret (.bool false))
                                                                                                                          else (L10x0 env F s c q n m F q19 n20))
                                                                                                                        else none))
                                                                                                                    else none)))))))))
                                                                                                      (fun p35 => (tkIfc p35 none fun t36 x37 => (bif (flatP (.iface t36 x37)) then some (.pan (.iface t36 x37))
                                                                                                          else none)))))
                                                                                                  else (tkOut (env 41 [(.agg (eSite s)), (.int .i64 c), (.agg [(.int q19 n20), (.int q19 n20)]), (.agg (eSpan q))]) none (fun v35 => (tkTup v35 none fun l36 => (tkCons l36 none fun v37 r38 => (tkInt v37 none fun q39 n40 => (tkCons r38 none fun v41 r42 => (tkInt v41 none fun q43 n44 => (tkNil r42 none ((bif (decide (q43 = .i64)) then (bif (n44 != (0 : Int)) then some (.ret (.bool false))
                                                                                                                    else (bif (decide (q39 = .i64)) then (bif (decide (n40 < n)) then some (.ret (.bool false))
                                                                                                                        else (L10x0 env F s c q n m F q19 n20))
                                                                                                                      else none))
                                                                                                                  else none)))))))))
                                                                                                    (fun p35 => (tkIfc p35 none fun t36 x37 => (bif (flatP (.iface t36 x37)) then some (.pan (.iface t36 x37))
                                                                                                        else none)))))
                                                                                                else (tkOut (env 41 [(.agg (eSite s)), (.int .i64 c), (.agg [(.int q19 n20), (.int q19 n20)]), (.agg (eSpan q))]) none (fun v35 => (tkTup v35 none fun l36 => (tkCons l36 none fun v37 r38 => (tkInt v37 none fun q39 n40 => (tkCons r38 none fun v41 r42 => (tkInt v41 none fun q43 n44 => (tkNil r42 none ((bif (decide (q43 = .i64)) then (bif (n44 != (0 : Int)) then some (.ret (.bool false))
                                                                                                                  else (bif (decide (q39 = .i64)) then (bif (decide (n40 < n)) then some (.ret (.bool false))
                                                                                                                      else (L10x0 env F s c q n m F q19 n20))
                                                                                                                    else none))
                                                                                                                else none)))))))))
                                                                                                  (fun p35 => (tkIfc p35 none fun t36 x37 => (bif (flatP (.iface t36 x37)) then some (.pan (.iface t36 x37))
                                                                                                      else none)))))
                                                                                              else none))
                                                                                          else none))
                                                                                      else none))
                                                                                  else none))
                                                                              else none)
                                                                            else none)
                                                                          else none))
                                                                      else none))
                                                                  else none))
                                                              else none)))))))))
                                                (fun p25 => (tkIfc p25 none fun t26 x27 => (bif (flatP (.iface t26 x27)) then some (.pan (.iface t26 x27))
                                                    else none))))))))))))
                                  (fun p15 => (tkIfc p15 none fun t16 x17 => (bif (flatP (.iface t16 x17)) then some (.pan (.iface t16 x17))
                                      else none)))))))))))
                    (fun p13 => (tkIfc p13 none fun t14 x15 => (bif (flatP (.iface t14 x15)) then some (.pan (.iface t14 x15))
                        else none)))))))
              (fun p11 => (tkIfc p11 none fun t12 x13 => (bif (flatP (.iface t12 x13)) then some (.pan (.iface t12 x13))
                  else none)))))))
        (fun p9 => (tkIfc p9 none fun t10 x11 => (bif (flatP (.iface t10 x11)) then some (.pan (.iface t10 x11))
            else none)))))))
  (fun p7 => (tkIfc p7 none fun t8 x9 => (bif (flatP (.iface t8 x9)) then some (.pan (.iface t8 x9))
      else none)))) := by kernel_rfl
theorem L10x0s (env : Env) (F : Nat) (s : Site) (c : Int) (q : Span) (n : Int) (m : Int) (fu : Nat) (q0 : IntKind) (i1 : Int) : L10x0 env F s c q n m (fu + 1) q0 i1 =
  (bif (decide ((0 : Int) < n)) then (L10x1 env F s c q n m fu q0 i1 1 (IntKind.wrap .i64 ((0 : Int) + (1 : Int))) 1 (fun u10 => [(.row false 1 2 (fun u11 => [(.int q0 i1), (.int q0 i1)])), (.row false 1 2 (fun u11 => (eSpan q)))]))
  else (tkOut (env 30 [(.agg [(.row false 1 11 (fun u10 => (eCav (Sl.el (Site.cavs s) (Int.toNat c))))), (sl eRow 5 (Site.rows s)), (sl eHeat 3 (Site.heats s)), (.int .i64 (Site.wall s)), (sl eRing 3 (Site.rings s)), (.row true 0 0 (fun u10 => []))]), (.row true 0 0 (fun u10 => []))]) none (fun v10 => (tkTup v10 none fun l11 => (tkCons l11 none fun v12 r13 => (tkAgg v12 none fun l14 => (tkCons l14 none fun v15 r16 => (tkInt v15 none fun q17 n18 => (tkCons r16 none fun v19 r20 => (tkInt v19 none fun q21 n22 => (tkCons r20 none fun v23 r24 => (tkInt v23 none fun q25 n26 => (tkCons r24 none fun v27 r28 => (tkInt v27 none fun q29 n30 => (tkNil r28 none ((tkCons r13 none fun v31 r32 => (tkAgg v31 none fun l33 => (tkCons l33 none fun v34 r35 => (tkInt v34 none fun q36 n37 => (tkCons r35 none fun v38 r39 => (tkInt v38 none fun q40 n41 => (tkCons r39 none fun v42 r43 => (tkInt v42 none fun q44 n45 => (tkCons r43 none fun v46 r47 => (tkInt v46 none fun q48 n49 => (tkNil r47 none ((tkCons r32 none fun v50 r51 => (tkInt v50 none fun q52 n53 => (tkNil r51 none ((bif (decide (q52 = .i64)) then (bif (n53 == (0 : Int)) then (bif (decide (q21 = .i64)) then (bif (n22 == (1 : Int)) then (tkOut (env 13 []) none (fun v54 => (tkBool v54 none fun b55 => some (.ret (.bool b55))))
                                                                  (fun p54 => (tkIfc p54 none fun t55 x56 => (bif (flatP (.iface t55 x56)) then some (.pan (.iface t55 x56))
                                                                      else none))))
                                                                else some (.ret (.bool false)))
                                                              else none)
                                                            else some (.ret (.bool false)))
                                                          else none)))))))))))))))))))))))))))))))
    (fun p10 => (tkIfc p10 none fun t11 x12 => (bif (flatP (.iface t11 x12)) then some (.pan (.iface t11 x12))
        else none))))) := by kernel_rfl
theorem L10x1s (env : Env) (F : Nat) (s : Site) (c : Int) (q : Span) (n : Int) (m : Int) (fu : Nat) (q0 : IntKind) (i1 : Int) (k2 : Nat) (i3 : Int) (k4 : Nat) (g5 : Nat → List V) : L10x1 env F s c q n m (fu + 1) q0 i1 k2 i3 k4 g5 =
  (bif (decide (i3 < n)) then (bif (decide (((k2 + 1) * 48) ≤ 140737488355328)) then (L10x1 env F s c q n m fu q0 i1 (k2 + 1) (IntKind.wrap .i64 (i3 + (1 : Int))) (k2 + 1) (appGet k2 g5 (fun u14 => [(.row false 1 2 (fun u15 => [(.int q0 i1), (.int q0 i1)])), (.row false 1 2 (fun u15 => (eSpan q)))])))
    else none)
  else (tkOut (env 30 [(.agg [(.row false 1 11 (fun u14 => (eCav (Sl.el (Site.cavs s) (Int.toNat c))))), (sl eRow 5 (Site.rows s)), (sl eHeat 3 (Site.heats s)), (.int .i64 (Site.wall s)), (sl eRing 3 (Site.rings s)), (.row true 0 0 (fun u14 => []))]), (.row false k2 2 (fun u14 => (g5 u14)))]) none (fun v14 => (tkTup v14 none fun l15 => (tkCons l15 none fun v16 r17 => (tkAgg v16 none fun l18 => (tkCons l18 none fun v19 r20 => (tkInt v19 none fun q21 n22 => (tkCons r20 none fun v23 r24 => (tkInt v23 none fun q25 n26 => (tkCons r24 none fun v27 r28 => (tkInt v27 none fun q29 n30 => (tkCons r28 none fun v31 r32 => (tkInt v31 none fun q33 n34 => (tkNil r32 none ((tkCons r17 none fun v35 r36 => (tkAgg v35 none fun l37 => (tkCons l37 none fun v38 r39 => (tkInt v38 none fun q40 n41 => (tkCons r39 none fun v42 r43 => (tkInt v42 none fun q44 n45 => (tkCons r43 none fun v46 r47 => (tkInt v46 none fun q48 n49 => (tkCons r47 none fun v50 r51 => (tkInt v50 none fun q52 n53 => (tkNil r51 none ((tkCons r36 none fun v54 r55 => (tkInt v54 none fun q56 n57 => (tkNil r55 none ((bif (decide (q56 = .i64)) then (bif (n57 == (0 : Int)) then (bif (decide (q25 = .i64)) then (bif (n26 == (1 : Int)) then (tkOut (env 13 []) none (fun v58 => (tkBool v58 none fun b59 => some (.ret (.bool b59))))
                                                                  (fun p58 => (tkIfc p58 none fun t59 x60 => (bif (flatP (.iface t59 x60)) then some (.pan (.iface t59 x60))
                                                                      else none))))
                                                                else some (.ret (.bool false)))
                                                              else none)
                                                            else some (.ret (.bool false)))
                                                          else none)))))))))))))))))))))))))))))))
    (fun p14 => (tkIfc p14 none fun t15 x16 => (bif (flatP (.iface t15 x16)) then some (.pan (.iface t15 x16))
        else none))))) := by kernel_rfl

end Go.Sim.Cr

/-
  A site without houses, as the evaluator sees it.
-/
namespace Go.Sim.Cr
open Go.Proofs
variable (F d : Nat)
abbrev nilHouses : V := .row true 0 3 fun _ => eHouse ⟨0, 0, 0⟩
/-- A site whose houses are nil. -/
def fixSite : V → V
  | .agg [a, b, c, e, f, .row true 0 0 _] => .agg [a, b, c, e, f, nilHouses]
  | v => v
theorem fixSite_ok (w : World) (pv : Nat → Prop) (v : Value) (c : V) (h : Rel w pv none_ v c) : Rel w pv none_ v (fixSite c) := by
  unfold fixSite
  split
  · rename_i a b c e f g
    cases h with
    | agg hl h =>
      refine .agg hl fun i v c h1 h2 => ?_
      match i, h2 with
      | 0, h2 => exact h 0 v c h1 h2
      | 1, h2 => exact h 1 v c h1 h2
      | 2, h2 => exact h 2 v c h1 h2
      | 3, h2 => exact h 3 v c h1 h2
      | 4, h2 => exact h 4 v c h1 h2
      | 5, h2 =>
        have := h 5 v _ h1 rfl
        simp only [List.getElem?_cons_succ, List.getElem?_cons_zero, Option.some.injEq] at h2
        subst h2
        exact rel_nil this
  · exact h
noncomputable def EX (F d : Nat) : Env := fun g args => E F d g (args.map fixSite)
theorem okEX (F d : Nat) : OkEnv Try.prog (EX F d) := okFix (okE F d) fixSite fixSite_ok
noncomputable def E10 (F d : Nat) : Env := fun f args => evFun Try.prog (cfg F) (EX F d) f args
theorem okE10 (F d : Nat) : OkEnv Try.prog (E10 F d) := okEv (okCfg F) names (okEX F d)
/-- A site with one of its caverns, and without houses. -/
def alone (s : Site) (c : Nat) : Site := { s with cavs := ⟨false, 1, fun _ => s.cavs.el c⟩, houses := ⟨true, 0, fun _ => ⟨0, 0, 0⟩⟩ }
theorem alone_ok {s : Site} (hS : SiteF s) {c : Nat} (hc : c < s.cavs.len) : SiteF (alone s c) :=
  ⟨Nat.le_refl 1, by show 1 ≤ 5; omega, fun i _ => hS.cav c hc, fun i k hi hk => by have : i < 1 := hi; omega, hS.wall, by show 0 ≤ 5; omega, fun i hi => by have : i < 0 := hi; omega, hS.row, hS.heat, hS.ring, hS.rows1, hS.rows8, hS.heats1, hS.heats8, hS.rings8⟩
/-- The same pressure and temperature on each of so many days. -/
def sameDay (r : Int) (q : Span) : Day := ⟨⟨false, 1, fun _ => ⟨r, r⟩⟩, ⟨false, 1, fun _ => q⟩⟩
abbrev sameDays (n : Nat) (r : Int) (q : Span) : Sl Day := ⟨false, n, fun _ => sameDay r q⟩
/-- Whoever is kept has no possible fault. -/
theorem kept_fine {s : Site} (hS : SiteF s) {c : Nat} (hc : c < s.cavs.len) {r : Int} {q : Span} (N : Nat) (hg : (s.cavs.el c).gate.lo ≤ r ∧ r ≤ (s.cavs.el c).gate.hi) : ∀ n k i (x : Stt) (now : Sl Stt), now.len = 1 → now.el 0 = x → k + n ≤ keepFrom s c ⟨r, r⟩ q n k x →
    refFrom (alone s c) (sameDays N r q) false n i now = fineF := by
  intro n
  induction n with
  | zero => intro k i x now _ _ _; rfl
  | succ n ih =>
    intro k i x now hl hx hk
    have hcg := (hS.cav c hc).2.2.2.2.2.2
    unfold keepFrom at hk
    cases hf : farB s (s.cavs.el c) ⟨r, r⟩ q with
    | true => rw [hf, cond_true] at hk; omega
    | false =>
      rw [hf, cond_false] at hk
      cases h1 : decide ((move1 s (s.cavs.el c) x ⟨r, r⟩ q).vol.lo < (s.cavs.el c).floor) with
      | true => rw [h1, cond_true] at hk; omega
      | false =>
        rw [h1, cond_false] at hk
        cases h2 : anyF (nearB s c (move1 s (s.cavs.el c) x ⟨r, r⟩ q)) s.cavs.len 0 with
        | true => rw [h2, cond_true] at hk; omega
        | false =>
          rw [h2, cond_false] at hk
          have e0 : (moved (alone s c) now (sameDay r q)).el 0 = move1 s (s.cavs.el c) x ⟨r, r⟩ q := by
            show mv (alone s c) now (sameDay r q) (min 0 (now.len - 1)) = _
            rw [Nat.zero_min]
            show move1 (alone s c) (s.cavs.el c) (now.el 0) ⟨r, r⟩ q = _
            rw [hx]; rfl
          have hn := ih (k + 1) (i + 1) _ (moved (alone s c) now (sameDay r q)) hl e0 (by omega)
          unfold refFrom
          have hfd : farDay (alone s c) (sameDay r q) = false := by
            show (farB s (s.cavs.el c) ⟨r, r⟩ q || false) = false
            rw [hf]; rfl
          have he : faultR (i : Int) (isM false) (earlyMs (alone s c) (sameDay r q) (prevOf (sameDays N r q) i)) = none := by
            unfold earlyMs
            have p0 : isM false (outM (alone s c) (sameDay r q) 0) = false := hf
            have p1 : isM false (gateM (alone s c) (sameDay r q) 0) = false := by
              show (decide (r < (s.cavs.el c).gate.lo) || decide (r > (s.cavs.el c).gate.hi)) = false
              simp; omega
            have p2 : ∀ b : Sl Span, b.el 0 = ⟨r, r⟩ → isM false (fastM (alone s c) (sameDay r q) b 0) = false := fun b hb => by
              show decide (maxI (r - (b.el 0).lo) ((b.el 0).hi - r) > (s.cavs.el c).change) = false
              rw [maxI_gt, hb]
              simp; omega
            show faultR (i : Int) (isM false) [(2, [outM (alone s c) (sameDay r q) 0]), (3, [gateM (alone s c) (sameDay r q) 0]), (4, fastMs (alone s c) (sameDay r q) (prevOf (sameDays N r q) i))] = none
            rw [fR_cons, p0, cond_false, fR_nil, fR_cons, p1, cond_false, fR_nil]
            cases i with
            | zero => rfl
            | succ j =>
              show faultR _ (isM false) [(4, [fastM (alone s c) (sameDay r q) ⟨false, 1, fun _ => ⟨r, r⟩⟩ 0])] = none
              rw [fR_cons, p2 _ rfl, cond_false, fR_nil]; rfl
          have hlt : faultR (i : Int) (isM false) (lateMs (alone s c) (some (moved (alone s c) now (sameDay r q)))) = none := by
            unfold lateMs
            have p0 : isM false (smallM (alone s c) (moved (alone s c) now (sameDay r q)) 0) = false := by
              show decide (((moved (alone s c) now (sameDay r q)).el 0).vol.lo < (s.cavs.el c).floor) = false
              rw [e0]; exact h1
            show faultR (i : Int) (isM false) [(5, [smallM (alone s c) (moved (alone s c) now (sameDay r q)) 0]), (6, []), (7, [])] = none
            rw [fR_cons, p0, cond_false, fR_nil, fR_nil, fR_nil]; rfl
          rw [show (sameDays N r q).el i = sameDay r q from rfl, hfd, Bool.false_and, cond_false, he]
          dsimp only
          rw [hlt]
          exact hn
end Go.Sim.Cr

/-
  CreepLeast: the law answers true.
-/
namespace Go.Sim.Cr
open Go.Proofs
variable (F d : Nat)
theorem fix_site (s : Site) : fixSite (.agg (eSite s)) = .agg (eSite s) := by
  obtain ⟨a, b, c, e, f, ⟨nl, len, el⟩⟩ := s
  cases nl <;> cases len <;> rfl
theorem ex1 (g : Nat) (s : Site) : EX F d g [.agg (eSite s)] = E F d g [.agg (eSite s)] := by
  show E F d g [fixSite _] = _
  rw [fix_site]
theorem ex2 (g : Nat) (s : Site) (c : Int) : EX F d g [.agg (eSite s), .int .i64 c] = E F d g [.agg (eSite s), .int .i64 c] := by
  show E F d g [fixSite _, _] = _
  rw [fix_site]
  rfl
theorem ex4 (g : Nat) (s : Site) (c a b e f : Int) : EX F d g [.agg (eSite s), .int .i64 c, .agg [.int .i64 a, .int .i64 b], .agg [.int .i64 e, .int .i64 f]] = E F d g [.agg (eSite s), .int .i64 c, .agg [.int .i64 a, .int .i64 b], .agg [.int .i64 e, .int .i64 f]] := by
  show E F d g [fixSite _, _, _, _] = _
  rw [fix_site]
  rfl
theorem ex4n (g : Nat) (s : Site) (c e f n : Int) : EX F d g [.agg (eSite s), .int .i64 c, .agg [.int .i64 e, .int .i64 f], .int .i64 n] = E F d g [.agg (eSite s), .int .i64 c, .agg [.int .i64 e, .int .i64 f], .int .i64 n] := by
  show E F d g [fixSite _, _, _, _] = _
  rw [fix_site]
  rfl
theorem ex3 (g : Nat) (e f a b : Int) : EX F d g [.agg [.int .i64 e, .int .i64 f], .int .i64 a, .int .i64 b] = E F d g [.agg [.int .i64 e, .int .i64 f], .int .i64 a, .int .i64 b] := rfl
theorem ex0 (g : Nat) : EX F d g [] = E F d g [] := rfl
theorem keeps_le {s : Site} {c : Nat} {p q : Span} : keeps s c p q 60 ≤ 60 := by
  unfold keeps
  cases decide (p.lo < (s.cavs.el c).gate.lo) || decide (p.hi > (s.cavs.el c).gate.hi)
  · rw [cond_false]; have := @keepFrom_le s c p q 60 0 (start (s.cavs.el c)); omega
  · exact Nat.zero_le _
theorem keeps_out {s : Site} (hS : SiteF s) {c : Nat} {q : Span} {m : Int} (h : m < (s.cavs.el c).gate.lo ∨ m > mostP (s.cavs.el c)) : keeps s c ⟨m, m⟩ q 60 = 0 := by
  unfold keeps
  by_cases hg : m < (s.cavs.el c).gate.lo ∨ m > (s.cavs.el c).gate.hi
  · rw [show (decide (m < (s.cavs.el c).gate.lo) || decide (m > (s.cavs.el c).gate.hi)) = true by simp; omega, cond_true]
  · rw [show (decide (m < (s.cavs.el c).gate.lo) || decide (m > (s.cavs.el c).gate.hi)) = false by simp; omega, cond_false]
    have hr : m > (s.cavs.el c).rock := by
      unfold mostP at h
      split at h <;> omega
    have hf : farB s (s.cavs.el c) ⟨m, m⟩ q = true := by
      have h0 : rowN s 0 = 0 := by
        have := hS.row 0 (by have := hS.rows1; omega)
        simp only [rowB, rowStep, Bool.and_eq_true, decide_eq_true_iff] at this
        exact this.2.2.2
      unfold farB offB
      rw [h0]
      simp
      omega
    rw [show (60 : Nat) = 59 + 1 from rfl, keepFrom, hf, cond_true]
theorem l10xend (s : Site) (c : Nat) (q : Span) (N : Nat) (r : Int) (hS : SiteF s) (hc : c < s.cavs.len) (hq : SpanIn q 0 10000) (hN : N ≤ 20) (hl : IsLeast s c q N r) (hF : 2147483648 < F) :
    ∃ b : Fault, EX F (d + 11) 30 [.agg [.row false 1 11 fun _ => eCav (s.cavs.el c), sl eRow 5 s.rows, sl eHeat 3 s.heats, .int .i64 s.wall, sl eRing 3 s.rings, .row true 0 0 fun _ => []], .row false N 2 fun _ => eDay (sameDay r q)] =
      some (.ret (.tup [.agg (eFault fineF), .agg (eFault b), .int .i64 0])) := by
  obtain ⟨a1, a2, a3, a4⟩ := mostP_ok hS hc
  have hA := alone_ok hS hc
  have g2 : mostP (s.cavs.el c) ≤ (s.cavs.el c).gate.hi := by unfold mostP; split <;> omega
  have hs : Small (alone s c) F := by
    have h1 := hS.rows8
    have h2 := hS.heats8
    have h3 := hS.rings8
    constructor
    · show 1 < 4611686018427387904; omega
    · show s.rows.len < 4611686018427387904; omega
    · show s.heats.len < 4611686018427387904; omega
    · show s.rings.len < 4611686018427387904; omega
    · show 0 < 4611686018427387904; omega
    · show 1 < F; omega
    · show s.rows.len < F; omega
    · show s.heats.len < F; omega
    · show s.rings.len < F; omega
    · show 0 < F; omega
  have hd : DayOk (alone s c) (sameDay r q) := ⟨⟨rfl, fun _ _ => ⟨by have := hl.1; show 0 ≤ r; omega, Int.le_refl _, by have := hl.2.1; show r ≤ 50000; omega⟩⟩, rfl, fun _ _ => hq⟩
  have hD : DaysOk (alone s c) (sameDays N r q) := fun _ _ => hd
  have e30 := s30 F (d + 1) (alone s c) (sameDays N r q) hs (fun _ _ => ⟨by show 1 ≤ 10; omega, by show 1 ≤ 10; omega⟩) (by show N < 4611686018427387904; omega) (by show N < F; omega) (by omega)
  rw [decide_eq_false (show ¬ 60 < (sameDays N r q).len by show ¬ 60 < N; omega), (siteB_iff _).2 hA, decide_eq_true hD, faults_eq hA hD] at e30
  have hk : 0 + N ≤ keepFrom s c ⟨r, r⟩ q N 0 (start (s.cavs.el c)) := by
    have h60 := hl.2.2.1
    unfold keeps at h60
    rw [show (decide ((⟨r, r⟩ : Span).lo < (s.cavs.el c).gate.lo) || decide ((⟨r, r⟩ : Span).hi > (s.cavs.el c).gate.hi)) = false by have := hl.1; have := hl.2.1; simp; omega, cond_false] at h60
    exact (@keepFrom_cap s c ⟨r, r⟩ q N 60 0 (start (s.cavs.el c)) (by omega)).2 (by omega)
  have hfine := kept_fine hS hc N ⟨hl.1, by have := hl.2.1; omega⟩ N 0 0 (start (s.cavs.el c)) (begin (alone s c)) rfl rfl hk
  refine ⟨refFrom (alone s c) (sameDays N r q) true N 0 (begin (alone s c)), ?_⟩
  have e : EX F (d + 11) 30 [.agg [.row false 1 11 fun _ => eCav (s.cavs.el c), sl eRow 5 s.rows, sl eHeat 3 s.heats, .int .i64 s.wall, sl eRing 3 s.rings, .row true 0 0 fun _ => []], .row false N 2 fun _ => eDay (sameDay r q)] = E F (d + 11) 30 [.agg (eSite (alone s c)), sl eDay 2 (sameDays N r q)] := rfl
  rw [e]
  refine e30.trans ?_
  rw [show refFrom (alone s c) (sameDays N r q) false (sameDays N r q).len 0 (begin (alone s c)) = fineF from hfine]
  rfl
end Go.Sim.Cr

/-
  CreepLeast: the law answers true.
-/
namespace Go.Sim.Cr
open Go.Proofs
variable (F d : Nat)
theorem appConst (k : Nat) (l : List V) : appGet k (fun _ => l) (fun _ => l) = fun _ => l := by
  funext j
  unfold appGet
  split <;> rfl
theorem l10x1 (s : Site) (c : Nat) (q : Span) (N : Nat) (m r : Int) (hS : SiteF s) (hc : c < s.cavs.len) (hq : SpanIn q 0 10000) (hN : N ≤ 20) (hl : IsLeast s c q N r) (hF : 2147483648 < F) : ∀ k i fu, N = i + k → k < fu →
    L10x1 (EX F (d + 11)) F s (c : Int) q (N : Int) m fu .i64 r i (i : Int) i (fun _ => eDay (sameDay r q)) = some (.ret (.bool true)) := by
  have k0 : EX F (d + 11) 13 [] = _ := s13 F d (by omega)
  intro k
  induction k with
  | zero =>
    intro i fu h hf
    obtain ⟨fu, rfl⟩ : ∃ k, fu = k + 1 := ⟨fu - 1, by omega⟩
    obtain rfl : N = i := by omega
    obtain ⟨b, e⟩ := l10xend F d s c q N r hS hc hq hN hl hF
    rw [L10x1s]
    simp only [Int.ofNat_lt, Nat.lt_irrefl, decide_false, pF, Int.toNat_natCast, e, pOut, pTup, pCons, pAgg, pInt, pNil, decide_true, pT, z00, eqI1, k0, pBool]
  | succ k ih =>
    intro i fu h hf
    obtain ⟨fu, rfl⟩ : ∃ k, fu = k + 1 := ⟨fu - 1, by omega⟩
    rw [L10x1s]
    simp only [Int.ofNat_lt, show i < N by omega, decide_true, cond_true, show (i + 1) * 48 ≤ 140737488355328 by omega, wrS (show i < 4611686018427387904 by omega)]
    exact (congrArg (L10x1 (EX F (d + 11)) F s (c : Int) q (N : Int) m fu .i64 r (i + 1) ((i + 1 : Nat) : Int) (i + 1)) (appConst i (eDay (sameDay r q)))).trans (ih (i + 1) fu (by omega) (by omega))
theorem l10x0 (s : Site) (c : Nat) (q : Span) (N : Nat) (m r : Int) (hS : SiteF s) (hc : c < s.cavs.len) (hq : SpanIn q 0 10000) (h0 : 0 < N) (hN : N ≤ 20) (hl : IsLeast s c q N r) (hF : 2147483648 < F) :
    L10x0 (EX F (d + 11)) F s (c : Int) q (N : Int) m F .i64 r = some (.ret (.bool true)) := by
  obtain ⟨fu, hfu⟩ : ∃ k, F = k + 1 := ⟨F - 1, by omega⟩
  have g := L10x0s (EX F (d + 11)) F s (c : Int) q (N : Int) m fu .i64 r
  rw [← hfu] at g
  rw [g, zlt h0, cond_true, wr1]
  exact l10x1 F d s c q N m r hS hc hq hN hl hF (N - 1) 1 fu (by omega) (by omega)
set_option maxRecDepth 100000 in
set_option maxHeartbeats 1000000 in
theorem s10 (s : Site) (c : Int) (q : Span) (n m : Int) (hF : 2147483648 < F) : E10 F (d + 11) 10 [.agg (eSite s), .int .i64 c, .agg (eSpan q), .int .i64 n, .int .i64 m] = some (.ret (.bool true)) := by
  have k : EX F (d + 11) 13 [] = _ := s13 F d (by omega)
  show evFun Try.prog (cfg F) (EX F (d + 11)) 10 _ = _
  rw [t10]
  simp only [ex1, s11 F (d + 10), pOut, pBool]
  by_cases h0 : ShortS s
  · have hs := small_of F h0 (by omega)
    have e16 := s16 F (d + 8) s hs
    simp only [decide_eq_true h0, Bool.not_true, pF, e16, pOut, pBool]
    cases h1 : siteB s with
    | false => simp only [Bool.not_false, pT, k, pOut, pBool]
    | true =>
      have hS := (siteB_iff s).1 h1
      have h5 := hS.cavs5
      have e39 := s39 F (d + 9) s c hS.cavs1 h5
      simp only [Bool.not_true, pF, ex2, e39, pOut, pBool]
      by_cases h2 : 0 ≤ c ∧ c < (s.cavs.len : Int)
      · have e43 := s43 F (d + 10) q 0 10000
        simp only [decide_eq_true h2, Bool.not_true, pF, ex3, e43, pOut, pBool]
        by_cases h3 : SpanIn q 0 10000
        · simp only [decide_eq_true h3, Bool.not_true, pF]
          by_cases h4 : n < 1
          · simp only [decide_eq_true h4, pT, k, pOut, pBool]
          · by_cases h6 : n > 20
            · simp only [decide_eq_false h4, decide_eq_true h6, pF, pT, k, pOut, pBool]
            · by_cases h7 : m < 0
              · simp only [decide_eq_false h4, decide_eq_false h6, decide_eq_true h7, pF, pT, k, pOut, pBool]
              · by_cases h8 : m > 50000
                · simp only [decide_eq_false h4, decide_eq_false h6, decide_eq_false h7, decide_eq_true h8, pF, pT, k, pOut, pBool]
                · obtain ⟨c, rfl⟩ := Int.eq_ofNat_of_zero_le h2.1
                  obtain ⟨n, rfl⟩ := Int.eq_ofNat_of_zero_le (show 0 ≤ n by omega)
                  have hc : c < s.cavs.len := by omega
                  obtain ⟨_, _, _, l4⟩ := s42 F (d + 1) s c q n hs (by omega)
                  have e41 : ∀ x : Int, 0 ≤ x → x ≤ 50000 → E F (d + 11) 41 [.agg (eSite s), .int .i64 (c : Int), .agg [.int .i64 x, .int .i64 x], .agg (eSpan q)] = some (.ret (.tup [.int .i64 ((keeps s c ⟨x, x⟩ q 60 : Nat) : Int), .int .i64 0])) := fun x hx1 hx2 => by
                    have e := s41 F (d + 3) s c ⟨x, x⟩ q hs (by omega)
                    rw [h1, decide_eq_true h2, decide_eq_true (show SpanIn ⟨x, x⟩ 0 50000 from ⟨hx1, Int.le_refl _, hx2⟩), decide_eq_true h3] at e
                    exact e
                  have kl := @keeps_le s c ⟨m, m⟩ q
                  have b1 : decide (((keeps s c ⟨m, m⟩ q 60 : Nat) : Int) < 0) = false := decide_eq_false (by omega)
                  have b2' : decide (((keeps s c ⟨m, m⟩ q 60 : Nat) : Int) > 60) = false := decide_eq_false (by omega)
                  have e41m := e41 m (by omega) (by omega)
                  obtain ⟨a1, a2, a3, a4⟩ := mostP_ok hS hc
                  have g1 : mostP (s.cavs.el c) ≤ (s.cavs.el c).rock := by unfold mostP; split <;> omega
                  have g2 : mostP (s.cavs.el c) ≤ (s.cavs.el c).gate.hi := by unfold mostP; split <;> omega
                  rcases l4 hS h2 h3 (by omega) (by omega) with ⟨r, e42, il⟩ | ⟨e42, il⟩
                  · rw [Int.toNat_natCast, Int.toNat_natCast] at il
                    have e41r := e41 r (by have := il.1; omega) (by have := il.2.1; omega)
                    have r0 : decide (r < 0) = false := decide_eq_false (by have := il.1; omega)
                    have r1 : decide (r > 50000) = false := decide_eq_false (by have := il.2.1; omega)
                    have rk : decide (((keeps s c ⟨r, r⟩ q 60 : Nat) : Int) < (n : Int)) = false := decide_eq_false (by have := il.2.2.1; omega)
                    have lend := l10x0 F d s c q n m r hS hc h3 (by omega) (by omega) il hF
                    by_cases c1 : m < r
                    · have c2 : keeps s c ⟨m, m⟩ q 60 < n := by
                        by_cases c3 : m < (s.cavs.el c).gate.lo
                        · rw [keeps_out hS (.inl c3)]; omega
                        · exact il.2.2.2 m (by omega) c1
                      simp only [decide_eq_false h4, decide_eq_false h6, decide_eq_false h7, decide_eq_false h8, ex4n, ex4, e42, e41m, e41r, pF, pT, pOut, pTup, pCons, pInt, pNil, pBool, decide_true, z00, bne, Bool.not_true, b1, b2', decide_eq_true h2.1, decide_eq_true h2.2, r0, r1, decide_eq_true c1, decide_eq_false (show ¬ ((keeps s c ⟨m, m⟩ q 60 : Nat) : Int) ≥ (n : Int) by omega), decide_eq_false (show ¬ m ≥ r by omega), rk, lend]
                    · by_cases c2 : m ≤ (s.cavs.el c).gate.hi
                      · by_cases c3 : m ≤ (s.cavs.el c).rock
                        · have c4 : n ≤ keeps s c ⟨m, m⟩ q 60 := by
                            have := keeps_mono hS hc (a := r) (b := m) (q := q) (by omega) c3 c2 il.1 h3.2.1 60
                            have := il.2.2.1
                            omega
                          simp only [decide_eq_false h4, decide_eq_false h6, decide_eq_false h7, decide_eq_false h8, ex4n, ex4, e42, e41m, e41r, pF, pT, pOut, pTup, pCons, pInt, pNil, pBool, decide_true, z00, bne, Bool.not_true, b1, b2', decide_eq_true h2.1, decide_eq_true h2.2, Int.toNat_natCast, r0, r1, decide_eq_false c1, decide_eq_true (show m ≥ r by omega), decide_eq_true c2, decide_eq_true c3, decide_eq_false (show ¬ ((keeps s c ⟨m, m⟩ q 60 : Nat) : Int) < (n : Int) by omega), rk, lend]
                        · simp only [decide_eq_false h4, decide_eq_false h6, decide_eq_false h7, decide_eq_false h8, ex4n, ex4, e42, e41m, e41r, pF, pT, pOut, pTup, pCons, pInt, pNil, pBool, decide_true, z00, bne, Bool.not_true, b1, b2', decide_eq_true h2.1, decide_eq_true h2.2, Int.toNat_natCast, r0, r1, decide_eq_false c1, decide_eq_true (show m ≥ r by omega), decide_eq_true c2, decide_eq_false c3, rk, lend]
                      · simp only [decide_eq_false h4, decide_eq_false h6, decide_eq_false h7, decide_eq_false h8, ex4n, ex4, e42, e41m, e41r, pF, pT, pOut, pTup, pCons, pInt, pNil, pBool, decide_true, z00, bne, Bool.not_true, b1, b2', decide_eq_true h2.1, decide_eq_true h2.2, Int.toNat_natCast, r0, r1, decide_eq_false c1, decide_eq_true (show m ≥ r by omega), decide_eq_false c2, rk, lend]
                  · rw [Int.toNat_natCast, Int.toNat_natCast] at il
                    have c2 : keeps s c ⟨m, m⟩ q 60 < n := by
                      by_cases c3 : m < (s.cavs.el c).gate.lo ∨ m > mostP (s.cavs.el c)
                      · rw [keeps_out hS c3]; omega
                      · exact il m (by omega) (by omega)
                    have z50 : ((5 : Int) == 0) = false := rfl
                    simp only [decide_eq_false h4, decide_eq_false h6, decide_eq_false h7, decide_eq_false h8, ex4n, ex4, e42, e41m, pF, pT, pOut, pTup, pCons, pInt, pNil, pBool, decide_true, z00, z50, z55, bne, Bool.not_true, Bool.not_false, b1, b2', decide_eq_true h2.1, decide_eq_true h2.2, decide_eq_true (show ((keeps s c ⟨m, m⟩ q 60 : Nat) : Int) < (n : Int) by omega), k]
        · simp only [decide_eq_false h3, Bool.not_false, pT, k, pOut, pBool]
      · simp only [decide_eq_false h2, Bool.not_false, pT, k, pOut, pBool]
  · simp only [decide_eq_false h0, Bool.not_false, pT, k, pOut, pBool]
end Go.Sim.Cr

/-
  CreepLeast: the row.
-/
namespace Go.Proofs.Ytpgpaficdabmkaa
open Go.ChangeShapes Go.WideShapes Go.ChangeAt Go.RowKit Go.Sim Go.Sim.Cr
set_option maxRecDepth 100000 in
theorem creepLeast_fit (cs : List V) (h : ArgsFit [(true, shSite), (false, [i8]), (true, shSpan), (false, [i8]), (false, [i8])] cs) : E10 2000000000000000 11 10 cs = some (.ret (.bool true)) := by
  obtain ⟨l0, cs0, rfl, h0, g0⟩ := h
  obtain ⟨s1, c1, cs1, e1, rfl, h1, g1⟩ := g0
  obtain ⟨l2, cs2, rfl, h2, g2⟩ := g1
  obtain ⟨s3, c3, cs3, e3, rfl, h3, g3⟩ := g2
  obtain ⟨s4, c4, cs4, e4, rfl, h4, g4⟩ := g3
  injection e1 with e1 _; subst e1
  injection e3 with e3 _; subst e3
  injection e4 with e4 _; subst e4
  obtain rfl : cs4 = [] := g4
  obtain ⟨a0, rfl⟩ := decSite l0 h0
  obtain ⟨a1, rfl, m1⟩ := fitInt h1
  obtain ⟨a2, rfl⟩ := decSpan l2 h2
  obtain ⟨a3, rfl, m3⟩ := fitInt h3
  obtain ⟨a4, rfl, m4⟩ := fitInt h4
  exact s10 2000000000000000 0 a0 a1 a2 a3 a4 (by omega)
set_option maxRecDepth 100000 in
theorem creepLeast_lifted (os : Os) (started : os.Started) (H : Type) (enc : TypeId × Value → H) :
    ReturnsInHanded {} Try.checked os 10 .any (Rows.creepLeastSpec.pre6 enc Try.prog Try.f10 Rows.creepLeastRow.domain false) (Rows.creepLeastSpec.post enc Try.prog Try.f10 false true false false) := by
  refine returnsInHanded_of_change_sized (C := Try.checked) own started (by kernel_rfl) Try.func10
    (ChangeSpec.witness6 (enc := enc) (C := Try.checked) false ⟨#[], #[.agg #[.slice none 0 0, .slice none 0 0, .slice none 0 0, .int .i64 0, .slice none 0 0, .slice none 0 0], .int .i64 0, .agg #[.int .i64 0, .int .i64 0], .int .i64 0, .int .i64 0], []⟩ 8 (by kernel_rfl) (by kernel_rfl) (by kernel_rfl) (by kernel_rfl)) ?_
  intro W base args ds gs before hval hW _ hwt _
  exact law_contract (tb := 4) (okE10 2000000000000000 11) (by kernel_rfl) creepLeast_fit
    ⟨rfl, fun H ds h => by match ds, h with | [_, _, _, _, _], _ => exact ⟨rfl, rfl, rfl⟩⟩ (by kernel_rfl) (by kernel_rfl) laid (by decide +kernel) W base args ds gs before hval hW hwt
theorem creepLeast_holds : Rows.CreepLeastSaid :=
  OpenClaim.holds_of_wide 10 Try.f10 rfl rfl rfl rfl rfl rfl rfl ⟨rfl, rfl, rfl, rfl, rfl⟩ rfl rfl rfl rfl rfl (by kernel_rfl) Try.func10 (by kernel_rfl)
    (of_decide_eq_true (by kernel_rfl)) (by unfold Func.isWrapper; first | (rw [if_pos (by decide +kernel)]; kernel_rfl) | (rw [if_neg (by decide +kernel)]; exact ⟨rfl, rfl⟩))
    (fun os started H enc _ => creepLeast_lifted os started H enc)
#print axioms creepLeast_holds
end Go.Proofs.Ytpgpaficdabmkaa
