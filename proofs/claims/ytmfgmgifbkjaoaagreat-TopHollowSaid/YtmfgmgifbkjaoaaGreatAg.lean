import Derived.Test.YtmfgmgifbkjaoaaGreatAf
import Derived.Test.YtmfgmgifbkjaoaaGreatRows
set_option linter.unusedVariables false
set_option linter.unusedSimpArgs false
set_option linter.unusedSectionVars false

namespace Go.Sim.Cr
open Go.Sim.Le (cfg E E_pf E_hv)
open Go.Proofs
theorem monoN {f : Nat → Int} {n : Nat} (h : ∀ j, j + 1 < n → f j ≤ f (j + 1)) : ∀ {j i : Nat}, i ≤ j → j < n → f i ≤ f j := by
  intro j
  induction j with
  | zero => intro i hi _; rw [show i = 0 by omega]; exact Int.le_refl _
  | succ j ih =>
    intro i hi hj
    rcases Nat.eq_or_lt_of_le hi with rfl | h4
    · exact Int.le_refl _
    · have := @ih i (by omega) (by omega)
      have := h j hj
      omega
theorem lastIx_mono {num : Nat → Int} {n : Nat} {x y : Int} (hn : 0 < n) (h0 : num 0 ≤ x) (hxy : x ≤ y) (hi : Inc num n) : lastIx num x n ≤ lastIx num y n := by
  obtain ⟨a1, a2, a3⟩ := lastIx_ok hn h0
  obtain ⟨b1, b2, b3⟩ := lastIx_ok hn (Int.le_trans h0 hxy)
  rcases Nat.lt_or_ge (lastIx num y n) (lastIx num x n) with h | h
  · have := b3 _ h a1; omega
  · exact h
theorem firstIx_mono {num : Nat → Int} {n : Nat} {x y : Int} (hn : 0 < n) (h0 : y ≤ num (n - 1)) (hxy : x ≤ y) (hi : Inc num n) : firstIx num x n 0 ≤ firstIx num y n 0 := by
  obtain ⟨_, a1, a2, a3⟩ := @firstIx_ok num x n 0 hn (by rw [Nat.zero_add]; omega)
  obtain ⟨_, b1, b2, b3⟩ := @firstIx_ok num y n 0 hn (by rw [Nat.zero_add]; omega)
  rcases Nat.lt_or_ge (firstIx num y n 0) (firstIx num x n 0) with h | h
  · have := a3 _ (Nat.zero_le _) h; omega
  · exact h
theorem last_first {num : Nat → Int} {n : Nat} {x y : Int} (hn : 0 < n) (h0 : num 0 ≤ x) (h1 : y ≤ num (n - 1)) (hxy : x ≤ y) (hi : Inc num n) : lastIx num x n ≤ firstIx num y n 0 := by
  obtain ⟨a1, a2, a3⟩ := lastIx_ok hn h0
  obtain ⟨_, b1, b2, b3⟩ := @firstIx_ok num y n 0 hn (by rw [Nat.zero_add]; omega)
  rcases Nat.lt_or_ge (firstIx num y n 0) (lastIx num x n) with h | h
  · have := hi.lt h a1; omega
  · exact h
variable {s : Site}
theorem SiteF.rowUp (hS : SiteF s) {i j : Nat} (hij : i ≤ j) (hj : j < s.rows.len) :
    ((s.rows.el i).rate.lo ≤ (s.rows.el j).rate.lo ∧ (s.rows.el i).rate.hi ≤ (s.rows.el j).rate.hi) ∧ (s.rows.el i).spall.lo ≤ (s.rows.el j).spall.lo ∧ (s.rows.el i).spall.hi ≤ (s.rows.el j).spall.hi := by
  have st : ∀ k, k + 1 < s.rows.len → ((s.rows.el k).rate.lo ≤ (s.rows.el (k + 1)).rate.lo ∧ (s.rows.el k).rate.hi ≤ (s.rows.el (k + 1)).rate.hi) ∧ (s.rows.el k).spall.lo ≤ (s.rows.el (k + 1)).spall.lo ∧ (s.rows.el k).spall.hi ≤ (s.rows.el (k + 1)).spall.hi := fun k hk => by
    have := hS.row (k + 1) hk
    simp only [rowB, rowStep, Bool.and_eq_true, decide_eq_true_iff] at this
    exact this.2.2.2.2
  exact ⟨⟨monoN (f := fun k => (s.rows.el k).rate.lo) (fun k hk => (st k hk).1.1) hij hj, monoN (f := fun k => (s.rows.el k).rate.hi) (fun k hk => (st k hk).1.2) hij hj⟩,
    monoN (f := fun k => (s.rows.el k).spall.lo) (fun k hk => (st k hk).2.1) hij hj, monoN (f := fun k => (s.rows.el k).spall.hi) (fun k hk => (st k hk).2.2) hij hj⟩
theorem SiteF.heatUp (hS : SiteF s) {i j : Nat} (hij : i ≤ j) (hj : j < s.heats.len) :
    (s.heats.el i).factor.lo ≤ (s.heats.el j).factor.lo ∧ (s.heats.el i).factor.hi ≤ (s.heats.el j).factor.hi := by
  have st : ∀ k, k + 1 < s.heats.len → (s.heats.el k).factor.lo ≤ (s.heats.el (k + 1)).factor.lo ∧ (s.heats.el k).factor.hi ≤ (s.heats.el (k + 1)).factor.hi := fun k hk => by
    have := hS.heat (k + 1) hk
    simp only [heatB, heatStep, Bool.and_eq_true, decide_eq_true_iff] at this
    exact this.2.2.2
  exact ⟨monoN (f := fun k => (s.heats.el k).factor.lo) (fun k hk => (st k hk).1) hij hj, monoN (f := fun k => (s.heats.el k).factor.hi) (fun k hk => (st k hk).2) hij hj⟩
abbrev Sub (p q : Span) : Prop := q.lo ≤ p.lo ∧ p.hi ≤ q.hi
theorem rate_sub (hS : SiteF s) {c : Cav} {p p' q : Span} (hf : farB s c p q = false) (hs : Sub p' p) (h' : p'.lo ≤ p'.hi) :
    Sub (rateOf s c p') (rateOf s c p) ∧ Sub (fallOf s c p') (fallOf s c p) ∧ (rateOf s c p').lo ≤ (rateOf s c p').hi ∧ (fallOf s c p').lo ≤ (fallOf s c p').hi := by
  obtain ⟨f1, _⟩ := far_split hf
  obtain ⟨o1, o2⟩ := not_off f1
  have hi := hS.incRow
  have n1 := hS.rows1
  obtain ⟨a1, _⟩ := lastIx_ok (num := rowN s) (x := c.rock - p'.hi) n1 (by omega)
  have b1 := (@firstIx_ok (rowN s) (c.rock - p.lo) s.rows.len 0 n1 (by rw [Nat.zero_add]; omega)).2.1
  have b2 := (@firstIx_ok (rowN s) (c.rock - p'.lo) s.rows.len 0 n1 (by rw [Nat.zero_add]; omega)).2.1
  have u1 := hS.rowUp (lastIx_mono (num := rowN s) (x := c.rock - p.hi) (y := c.rock - p'.hi) n1 o1 (by omega) hi) a1
  have u2 := hS.rowUp (firstIx_mono (num := rowN s) (x := c.rock - p'.lo) (y := c.rock - p.lo) n1 o2 (by omega) hi) (by omega)
  have u3 := hS.rowUp (last_first (num := rowN s) (x := c.rock - p'.hi) (y := c.rock - p'.lo) n1 (by omega) (by omega) (by omega) hi) (by omega)
  have r3 := hS.rowOk (show firstIx (rowN s) (c.rock - p'.lo) s.rows.len 0 < s.rows.len by omega)
  exact ⟨⟨u1.1.1, u2.1.2⟩, ⟨u1.2.1, u2.2.2⟩, Int.le_trans u3.1.1 r3.2.1.2.1, Int.le_trans u3.2.1 r3.2.2.2.1⟩
theorem factor_sub (hS : SiteF s) {c : Cav} {p q q' : Span} (hf : farB s c p q = false) (hs : Sub q' q) (h' : q'.lo ≤ q'.hi) :
    Sub (factorOf s q') (factorOf s q) ∧ (factorOf s q').lo ≤ (factorOf s q').hi := by
  obtain ⟨_, f1⟩ := far_split hf
  obtain ⟨o1, o2⟩ := not_off f1
  have hi := hS.incHeat
  have n1 := hS.heats1
  obtain ⟨a1, _⟩ := lastIx_ok (num := heatN s) (x := q'.lo) n1 (by omega)
  have b1 := (@firstIx_ok (heatN s) q.hi s.heats.len 0 n1 (by rw [Nat.zero_add]; omega)).2.1
  have b2 := (@firstIx_ok (heatN s) q'.hi s.heats.len 0 n1 (by rw [Nat.zero_add]; omega)).2.1
  have u1 := hS.heatUp (lastIx_mono (num := heatN s) (x := q.lo) (y := q'.lo) n1 o1 (by omega) hi) a1
  have u2 := hS.heatUp (firstIx_mono (num := heatN s) (x := q'.hi) (y := q.hi) n1 o2 (by omega) hi) (by omega)
  have u3 := hS.heatUp (last_first (num := heatN s) (x := q'.lo) (y := q'.hi) n1 (by omega) (by omega) (by omega) hi) (by omega)
  have r3 := hS.heatOk (show firstIx (heatN s) q'.hi s.heats.len 0 < s.heats.len by omega)
  exact ⟨⟨u1.1, u2.2⟩, Int.le_trans u3.1 r3.2.2.1⟩
theorem far_sub {c : Cav} {p p' q q' : Span} (hf : farB s c p q = false) (hp : Sub p' p) (hq : Sub q' q) : farB s c p' q' = false := by
  unfold farB offB at hf ⊢
  simp only [Bool.or_eq_false_iff, decide_eq_false_iff_not] at hf ⊢
  omega
theorem prod_mono {u v r r' f f' : Int} (hu : 0 ≤ u) (huv : u ≤ v) (hr : 0 ≤ r) (hrr : r ≤ r') (hf : 0 ≤ f) (hff : f ≤ f') : u * r * f ≤ v * r' * f' := by
  have h1 : u * r ≤ v * r' := Int.mul_le_mul huv hrr hr (by omega)
  exact Int.mul_le_mul h1 hff hf (Int.mul_nonneg (by omega) (by omega))
theorem shrink_mono {u v r r' f f' k k' : Int} (hu : 0 ≤ u) (huv : u ≤ v) (hr : 0 ≤ r) (hrr : r ≤ r') (hf : 0 ≤ f) (hff : f ≤ f') (hk : k ≤ k') : shrink u r f k ≤ shrink v r' f' k' := by
  have h := prod_mono hu huv hr hrr hf hff
  have h2 : (u * r * f + k) / 1000000000 ≤ (v * r' * f' + k') / 1000000000 := Int.ediv_le_ediv (by omega) (by omega)
  unfold shrink minI
  split <;> split <;> omega
theorem shrink_rest {u v r f k : Int} (huv : u ≤ v) (hr : 0 ≤ r ∧ r ≤ 100000) (hf : 0 ≤ f ∧ f ≤ 10000) : u - shrink u r f k ≤ v - shrink v r f k := by
  have h2 := mulB hr hf
  have h3 : (v - u) * (r * f) ≤ (v - u) * 1000000000 := Int.mul_le_mul_of_nonneg_left (by omega) (by omega)
  have h4 : v * r * f = u * r * f + (v - u) * (r * f) := by rw [Int.mul_assoc, Int.mul_assoc, ← Int.add_mul]; congr 1; omega
  have h5 : (v * r * f + k) / 1000000000 ≤ (u * r * f + k) / 1000000000 + (v - u) := by omega
  unfold shrink minI
  split <;> split <;> omega
theorem move1xok (hS : SiteF s) {c : Cav} {x : Stt} {p q : Span} (hx : SttOk x) (hp : p.lo ≤ p.hi) (hq : q.lo ≤ q.hi) (hf : farB s c p q = false) : SttOk (move1 s c x p q) := by
  obtain ⟨k1, k2, k3, k4, k5, k6⟩ := rates_ok hS hf
  obtain ⟨r1, r2, r3, r4⟩ := rate_sub hS hf (show Sub p p from ⟨Int.le_refl _, Int.le_refl _⟩) hp
  obtain ⟨g1, g2⟩ := factor_sub hS hf (show Sub q q from ⟨Int.le_refl _, Int.le_refl _⟩) hq
  have b1 := @shrink_ok x.vol.lo (rateOf s c p).hi (factorOf s q).hi 999999999 (by omega) k2 k6 (by omega)
  have b2 := @shrink_ok x.vol.hi (rateOf s c p).lo (factorOf s q).lo 0 (by omega) k1 k5 (by omega)
  have b3 := @shrink_ok x.vol.lo (rateOf s c p).lo (factorOf s q).lo 0 (by omega) k1 k5 (by omega)
  have b4 := @shrink_ok x.vol.hi (rateOf s c p).hi (factorOf s q).hi 999999999 (by omega) k2 k6 (by omega)
  have a1 := @shrink_mono x.vol.lo x.vol.lo (rateOf s c p).lo (rateOf s c p).hi (factorOf s q).lo (factorOf s q).hi 0 999999999 (by omega) (by omega) (by omega) (by omega) (by omega) (by omega) (by omega)
  have a2 := @shrink_rest x.vol.lo x.vol.hi (rateOf s c p).lo (factorOf s q).lo 0 (by omega) k1 k5
  have a3 := @shrink_mono x.vol.lo x.vol.hi (rateOf s c p).lo (rateOf s c p).hi (factorOf s q).lo (factorOf s q).hi 0 999999999 (by omega) (by omega) (by omega) (by omega) (by omega) (by omega) (by omega)
  refine ⟨⟨?_, ?_, ?_⟩, ⟨?_, ?_, ?_⟩, ?_, ?_, ?_⟩
  · show 0 ≤ minI _ 400000; unfold minI; split <;> omega
  · show minI _ 400000 ≤ minI _ 400000; unfold minI; split <;> split <;> omega
  · show minI _ 400000 ≤ 400000; unfold minI; split <;> omega
  · show 0 ≤ x.vol.lo - _; omega
  · show x.vol.lo - _ ≤ x.vol.hi - _; omega
  · show x.vol.hi - _ ≤ 10000000; omega
  · show 0 ≤ minI _ 1000000000; unfold minI; split <;> omega
  · show minI _ 1000000000 ≤ minI _ 1000000000; unfold minI; split <;> split <;> omega
  · show minI _ 1000000000 ≤ 1000000000; unfold minI; split <;> omega
end Go.Sim.Cr


namespace Go.Sim.Cr
open Go.Sim.Le (cfg E E_pf E_hv)
open Go.Proofs
variable (F d : Nat)
theorem moved_ok {s : Site} {l : Sl Stt} {y : Day} (hS : SiteF s) (hL : StatesOk s l) (hD : DayOk s y) (hf : farDay s y = false) : StatesOk s (moved s l y) := by
  have hl := hL.1
  refine ⟨hl, fun i hi => ?_⟩
  have hi' : i < l.len := hi
  rw [show (moved s l y).el i = mv s l y i from outL_el hi']
  have hp := hD.1.2 i (by have := hD.1.1; omega)
  have hw := hD.2.2 i (by have := hD.2.1; omega)
  refine move1xok hS (hL.2 i hi') hp.2.1 hw.2.1 ?_
  cases hx : farB s (s.cavs.el i) (y.press.el i) (y.warm.el i) with
  | false => rfl
  | true =>
    have : farDay s y = true := (anyF_eq _ _ _).2 ⟨i, Nat.zero_le _, by omega, hx⟩
    rw [this] at hf; cases hf
theorem begin_ok {s : Site} (hS : SiteF s) : StatesOk s (begin s) := by
  refine ⟨rfl, fun i hi => ?_⟩
  have hi' : i < s.cavs.len := hi
  rw [show (begin s).el i = start (s.cavs.el i) from outL_el hi']
  have := hS.cav i hi'
  refine ⟨⟨?_, ?_, ?_⟩, ⟨?_, ?_, ?_⟩, ?_, ?_, ?_⟩ <;> simp only [start] <;> omega
end Go.Sim.Cr


namespace Go.Sim.Cr
open Go.Sim.Le (cfg E E_pf E_hv)
open Go.Proofs
variable (F d : Nat)
def lst {α : Type} (z : α) (l : List α) : Sl α := ⟨false, l.length, fun i => l.getD (min i (l.length - 1)) z⟩
def gate0 : Span := ⟨6000, 16000⟩
def cavA : Cav := ⟨0, 0, ⟨30000, 31000⟩, ⟨400000, 410000⟩, 20000, 399800, gate0, 3000⟩
def cavZ : Cav := ⟨100, 0, ⟨30000, 30500⟩, ⟨300000, 300000⟩, 20000, 290000, gate0, 3000⟩
def row0 : Row := ⟨0, ⟨0, 10⟩, ⟨0, 0⟩⟩
def heat0 : Heat := ⟨3000, ⟨1000, 1000⟩⟩
def ring0 : Ring := ⟨50, ⟨900, 1000⟩⟩
def site0 : Site where
  cavs := lst cavA [cavA, cavZ]
  rows := lst row0 [row0, ⟨8000, ⟨20, 50⟩, ⟨0, 5⟩⟩, ⟨14000, ⟨100, 200⟩, ⟨10, 30⟩⟩]
  heats := lst heat0 [heat0, ⟨3200, ⟨1000, 1200⟩⟩]
  wall := 38440
  rings := lst ring0 [ring0, ⟨150, ⟨100, 200⟩⟩]
  houses := ⟨false, 1, fun _ => ⟨40, 0, 1⟩⟩
def day0 : Day := ⟨lst zSpan [⟨10000, 12000⟩, ⟨15000, 15000⟩], lst zSpan [⟨3100, 3100⟩, ⟨3100, 3100⟩]⟩
def m0 : Sl Stt := moved site0 (begin site0) day0
section
variable {R : Type}
end
section
variable (hF : 67108864 < F)
include hF
theorem hB0 : (begin site0).len < Big := by show 2 < 4611686018427387904; omega
theorem hF0 : (begin site0).len < F := by show 2 < F; omega
end
end Go.Sim.Cr


namespace Go.Sim.Cr
open Go.Sim.Le (cfg E E_pf E_hv)
open Go.Proofs
variable (F d : Nat)
theorem cNb (a b : Bool) : (bif !a then some (Out.ret (.bool false)) else some (.ret (.bool b))) = some (.ret (.bool (a && b))) := by cases a <;> rfl
def houseP (s : Site) (i : Nat) : Bool := decide (Place (s.houses.el i).x (s.houses.el i).y) && decide (0 ≤ (s.houses.el i).most ∧ (s.houses.el i).most ≤ 1000000)
def rowP (s : Site) : Nat → Bool
  | 0 => !decide ((s.rows.el 0).deficit > 50000) && (decide (SpanIn (s.rows.el 0).rate 0 100000) && decide (SpanIn (s.rows.el 0).spall 0 1000))
  | j + 1 => !decide ((s.rows.el (j + 1)).deficit > 50000) && (decide (SpanIn (s.rows.el (j + 1)).rate 0 100000) && (decide (SpanIn (s.rows.el (j + 1)).spall 0 1000) &&
      (!decide ((s.rows.el (j + 1)).deficit ≤ (s.rows.el j).deficit) && (decide ((s.rows.el j).rate.lo ≤ (s.rows.el (j + 1)).rate.lo ∧ (s.rows.el j).rate.hi ≤ (s.rows.el (j + 1)).rate.hi) &&
        decide ((s.rows.el j).spall.lo ≤ (s.rows.el (j + 1)).spall.lo ∧ (s.rows.el j).spall.hi ≤ (s.rows.el (j + 1)).spall.hi)))))
def heatP (s : Site) : Nat → Bool
  | 0 => decide (0 ≤ (s.heats.el 0).warmth ∧ (s.heats.el 0).warmth ≤ 10000) && decide (SpanIn (s.heats.el 0).factor 0 10000)
  | j + 1 => decide (0 ≤ (s.heats.el (j + 1)).warmth ∧ (s.heats.el (j + 1)).warmth ≤ 10000) && (decide (SpanIn (s.heats.el (j + 1)).factor 0 10000) &&
      (!decide ((s.heats.el (j + 1)).warmth ≤ (s.heats.el j).warmth) && decide ((s.heats.el j).factor.lo ≤ (s.heats.el (j + 1)).factor.lo ∧ (s.heats.el j).factor.hi ≤ (s.heats.el (j + 1)).factor.hi)))
def ringP (s : Site) : Nat → Bool
  | 0 => decide (0 ≤ (s.rings.el 0).away ∧ (s.rings.el 0).away ≤ 40000) && decide (SpanIn (s.rings.el 0).share 0 1000000)
  | j + 1 => decide (0 ≤ (s.rings.el (j + 1)).away ∧ (s.rings.el (j + 1)).away ≤ 40000) && (decide (SpanIn (s.rings.el (j + 1)).share 0 1000000) && !decide ((s.rings.el (j + 1)).away ≤ (s.rings.el j).away))
theorem l16x5 (s : Site) (hs : Small s F) : ∀ n i fu, s.houses.len = i + n → n < fu → L16x5 (E F (d + 2)) F s fu (i : Int) = some (.ret (.bool (allF (houseP s) true n i))) := by
  have hB := hs.houses
  intro n
  induction n with
  | zero =>
    intro i fu h hf
    obtain ⟨fu, rfl⟩ : ∃ k, fu = k + 1 := ⟨fu - 1, by omega⟩
    rw [L16x5s]
    simp only [Int.ofNat_lt, show ¬ i < s.houses.len by omega, decide_false, cond_false, allF]
  | succ n ih =>
    intro i fu h hf
    obtain ⟨fu, rfl⟩ : ∃ k, fu = k + 1 := ⟨fu - 1, by omega⟩
    rw [L16x5s]
    simp only [Int.ofNat_lt, show i < s.houses.len by omega, decide_true, cond_true, Int.natCast_nonneg, Int.toNat_natCast, s18, s54, tkOut_ret, tkBool_b, wrS (show i < Big by omega), ih (i + 1) fu (by omega) (by omega), cNb, allF, houseP, Bool.and_assoc]
theorem gt0 (j : Nat) : decide (((j + 1 : Nat) : Int) > 0) = true := decide_eq_true (by omega)
theorem l16x4 (s : Site) (hs : Small s F) : ∀ n i fu, s.rings.len = i + n → n < fu → L16x4 (E F (d + 2)) F s fu (i : Int) = some (.ret (.bool (allF (ringP s) (allF (houseP s) true s.houses.len 0) n i))) := by
  have hB := hs.rings
  intro n
  induction n with
  | zero =>
    intro i fu h hf
    obtain ⟨fu, rfl⟩ : ∃ k, fu = k + 1 := ⟨fu - 1, by omega⟩
    rw [L16x4s]
    simp only [Int.ofNat_lt, show ¬ i < s.rings.len by omega, decide_false, cond_false, allF]
    exact l16x5 F d s hs s.houses.len 0 F (by omega) hs.housesF
  | succ n ih =>
    intro i fu h hf
    obtain ⟨fu, rfl⟩ : ∃ k, fu = k + 1 := ⟨fu - 1, by omega⟩
    rw [L16x4s]
    simp only [Int.ofNat_lt, show i < s.rings.len by omega, decide_true, cond_true, Int.natCast_nonneg, Int.toNat_natCast, s54, s43, tkOut_ret, tkBool_b, wrS (show i < Big by omega), ih (i + 1) fu (by omega) (by omega), allF]
    cases i with
    | zero => simp only [Int.natCast_zero, show decide ((0 : Int) > 0) = false from rfl, cond_false, cNb, ringP, Bool.and_assoc]
    | succ j =>
      simp only [gt0, cond_true, wrP j (by omega), Int.natCast_nonneg, Int.ofNat_lt, show j < s.rings.len by omega, decide_true, Int.toNat_natCast, cNand, cNb, Bool.not_not, ringP, Bool.and_assoc]
theorem l16x3 (s : Site) (hs : Small s F) : ∀ n i fu, s.heats.len = i + n → n < fu → L16x3 (E F (d + 2)) F s fu (i : Int) = some (.ret (.bool (allF (heatP s) (allF (ringP s) (allF (houseP s) true s.houses.len 0) s.rings.len 0) n i))) := by
  have hB := hs.heats
  intro n
  induction n with
  | zero =>
    intro i fu h hf
    obtain ⟨fu, rfl⟩ : ∃ k, fu = k + 1 := ⟨fu - 1, by omega⟩
    rw [L16x3s]
    simp only [Int.ofNat_lt, show ¬ i < s.heats.len by omega, decide_false, cond_false, allF]
    exact l16x4 F d s hs s.rings.len 0 F (by omega) hs.ringsF
  | succ n ih =>
    intro i fu h hf
    obtain ⟨fu, rfl⟩ : ∃ k, fu = k + 1 := ⟨fu - 1, by omega⟩
    rw [L16x3s]
    simp only [Int.ofNat_lt, show i < s.heats.len by omega, decide_true, cond_true, Int.natCast_nonneg, Int.toNat_natCast, s54, s43, s55, tkOut_ret, tkBool_b, wrS (show i < Big by omega), ih (i + 1) fu (by omega) (by omega), allF]
    cases i with
    | zero => simp only [Int.natCast_zero, show decide ((0 : Int) > 0) = false from rfl, cond_false, cNb, heatP, Bool.and_assoc]
    | succ j =>
      simp only [gt0, cond_true, wrP j (by omega), Int.natCast_nonneg, Int.ofNat_lt, show j < s.heats.len by omega, decide_true, Int.toNat_natCast, cNand, cNb, Bool.not_not, heatP, Bool.and_assoc]
theorem l16x2 (s : Site) (hs : Small s F) : ∀ n i fu, s.rows.len = i + n → n < fu → L16x2 (E F (d + 2)) F s fu (i : Int) = some (.ret (.bool (allF (rowP s) (allF (heatP s) (allF (ringP s) (allF (houseP s) true s.houses.len 0) s.rings.len 0) s.heats.len 0) n i))) := by
  have hB := hs.rows
  intro n
  induction n with
  | zero =>
    intro i fu h hf
    obtain ⟨fu, rfl⟩ : ∃ k, fu = k + 1 := ⟨fu - 1, by omega⟩
    rw [L16x2s]
    simp only [Int.ofNat_lt, show ¬ i < s.rows.len by omega, decide_false, cond_false, allF]
    exact l16x3 F d s hs s.heats.len 0 F (by omega) hs.heatsF
  | succ n ih =>
    intro i fu h hf
    obtain ⟨fu, rfl⟩ : ∃ k, fu = k + 1 := ⟨fu - 1, by omega⟩
    rw [L16x2s]
    simp only [Int.ofNat_lt, show i < s.rows.len by omega, decide_true, cond_true, Int.natCast_nonneg, Int.toNat_natCast, s54, s43, s55, tkOut_ret, tkBool_b, wrS (show i < Big by omega), ih (i + 1) fu (by omega) (by omega), allF]
    cases i with
    | zero => simp only [Int.natCast_zero, show decide ((0 : Int) > 0) = false from rfl, cond_false, cNand, cNb, Bool.not_not, rowP, Bool.and_assoc]
    | succ j =>
      simp only [gt0, cond_true, wrP j (by omega), Int.natCast_nonneg, Int.ofNat_lt, show j < s.rows.len by omega, decide_true, Int.toNat_natCast, cNand, cNb, Bool.not_not, rowP, Bool.and_assoc]
def sameB (s : Site) (i k : Nat) : Bool := decide ((s.cavs.el k).x = (s.cavs.el i).x) && decide ((s.cavs.el k).y = (s.cavs.el i).y)
theorem l16x1 (s : Site) (hs : Small s F) (m0 i : Nat) (hi : i < s.cavs.len) (R : Bool) (a2 a3 a4 a5 a6 a7 a8 a9 a10 : Int) (hO : L16x0 (E F (d + 2)) F s m0 ((i + 1 : Nat) : Int) = some (.ret (.bool R))) : ∀ n k fu, i = k + n → n < fu →
    L16x1 (E F (d + 2)) F s m0 fu (i : Int) (k : Int) (s.cavs.el i).x (s.cavs.el i).y a2 a3 a4 a5 a6 a7 a8 a9 a10 = some (.ret (.bool (!anyF (sameB s i) n k && R))) := by
  have hB := hs.cavs
  intro n
  induction n with
  | zero =>
    intro k fu h hf
    obtain ⟨fu, rfl⟩ : ∃ k, fu = k + 1 := ⟨fu - 1, by omega⟩
    rw [L16x1s]
    simp only [Int.ofNat_lt, show ¬ k < i by omega, decide_false, cond_false, anyF, wrS (show i < Big by omega), hO, Bool.not_false, Bool.true_and]
  | succ n ih =>
    intro k fu h hf
    obtain ⟨fu, rfl⟩ : ∃ k, fu = k + 1 := ⟨fu - 1, by omega⟩
    rw [L16x1s]
    simp only [Int.ofNat_lt, show k < i by omega, show k < s.cavs.len by omega, decide_true, cond_true, Int.natCast_nonneg, Int.toNat_natCast, anyF, wrS (show k < Big by omega), ih (k + 1) fu (by omega) (by omega), beqI, sameB]
    cases decide ((s.cavs.el k).x = (s.cavs.el i).x) <;> cases decide ((s.cavs.el k).y = (s.cavs.el i).y) <;> rfl
def cavP (s : Site) (i : Nat) : Bool := decide (CavOk (s.cavs.el i)) && !anyF (sameB s i) i 0
def allP (s : Site) : Bool := allF (rowP s) (allF (heatP s) (allF (ringP s) (allF (houseP s) true s.houses.len 0) s.rings.len 0) s.heats.len 0) s.rows.len 0
theorem l16x0 (s : Site) (hs : Small s F) : ∀ n i fu, s.cavs.len = i + n → n < fu → L16x0 (E F (d + 2)) F s fu (i : Int) = some (.ret (.bool (allF (cavP s) (allP s) n i))) := by
  have hB := hs.cavs
  have hC := hs.cavsF
  intro n
  induction n with
  | zero =>
    intro i fu h hf
    obtain ⟨fu, rfl⟩ : ∃ k, fu = k + 1 := ⟨fu - 1, by omega⟩
    rw [L16x0s]
    simp only [Int.ofNat_lt, show ¬ i < s.cavs.len by omega, decide_false, cond_false, allF]
    exact l16x2 F d s hs s.rows.len 0 F (by omega) hs.rowsF
  | succ n ih =>
    intro i fu h hf
    obtain ⟨fu, rfl⟩ : ∃ k, fu = k + 1 := ⟨fu - 1, by omega⟩
    rw [L16x0s]
    have g := fun a2 a3 a4 a5 a6 a7 a8 a9 a10 => l16x1 F d s hs fu i (by omega) (allF (cavP s) (allP s) n (i + 1)) a2 a3 a4 a5 a6 a7 a8 a9 a10 (ih (i + 1) fu (by omega) (by omega)) i 0 F (by omega) (by omega)
    simp only [Int.natCast_zero] at g
    simp only [Int.ofNat_lt, show i < s.cavs.len by omega, decide_true, cond_true, Int.natCast_nonneg, Int.toNat_natCast, s18, s54, s43, tkOut_ret, tkBool_b, g, cNb, allF, cavP, CavOk, Bool.decide_and, Bool.and_assoc]
theorem sp_eq (s : Site) : (decide (1 ≤ (s.cavs.len : Int) ∧ (s.cavs.len : Int) ≤ 5) && (decide (1 ≤ (s.rows.len : Int) ∧ (s.rows.len : Int) ≤ 8) && (decide (1 ≤ (s.heats.len : Int) ∧ (s.heats.len : Int) ≤ 8) && (decide (0 ≤ s.wall ∧ s.wall ≤ 1000000) &&
    (!decide ((s.rings.len : Int) > 8) && (!decide ((s.houses.len : Int) > 5) && (decide ((s.rows.el 0).deficit = 0) && allF (cavP s) (allP s) s.cavs.len 0))))))) = siteB s := by
  apply b2
  rw [siteB_iff]
  simp only [allP, cavP, houseP, Bool.and_eq_true, allF_0, decide_eq_true_iff, Bool.not_eq_true', decide_eq_false_iff_not, and_true]
  constructor
  · rintro ⟨h1, h2, h3, h4, h5, h6, h7, h8, h9, h10, h11, h12⟩
    have rows : ∀ i, i < s.rows.len → 0 ≤ (s.rows.el i).deficit ∧ rowB s i = true := by
      intro i
      induction i with
      | zero =>
        intro hi
        have g := h9 0 hi
        simp only [rowP, rowB, rowStep, Bool.and_eq_true, decide_eq_true_iff, Bool.not_eq_true', decide_eq_false_iff_not] at g ⊢
        exact ⟨by omega, by omega, g.2.1, g.2.2, h7⟩
      | succ j ih =>
        intro hi
        have g := h9 (j + 1) hi
        have g0 := (ih (by omega)).1
        simp only [rowP, rowB, rowStep, Bool.and_eq_true, decide_eq_true_iff, Bool.not_eq_true', decide_eq_false_iff_not] at g ⊢
        exact ⟨by omega, by omega, g.2.1, g.2.2.1, by omega, g.2.2.2.2.1, g.2.2.2.2.2⟩
    refine ⟨by omega, by omega, fun i hi => (h8 i hi).1, ?_, h4, by omega, fun i hi => h12 i hi, fun i hi => (rows i hi).2, ?_, ?_, by omega, by omega, by omega, by omega, by omega⟩
    · intro i k hi hk he
      have := (h8 i hi).2
      have ha : anyF (sameB s i) i 0 = true := (anyF_eq _ _ _).2 ⟨k, Nat.zero_le _, by omega, by simp only [sameB, Bool.and_eq_true, decide_eq_true_iff]; exact he⟩
      rw [ha] at this; cases this
    · intro i hi
      have g := h10 i hi
      cases i with
      | zero => simp only [heatP, heatB, heatStep, Bool.and_eq_true, decide_eq_true_iff] at g ⊢; exact ⟨g.1, g.2, trivial⟩
      | succ j =>
        simp only [heatP, heatB, heatStep, Bool.and_eq_true, decide_eq_true_iff, Bool.not_eq_true', decide_eq_false_iff_not] at g ⊢
        exact ⟨g.1, g.2.1, by omega, g.2.2.2⟩
    · intro i hi
      have g := h11 i hi
      cases i with
      | zero => simp only [ringP, ringB, ringStep, Bool.and_eq_true, decide_eq_true_iff] at g ⊢; exact ⟨g.1, g.2, trivial⟩
      | succ j =>
        simp only [ringP, ringB, ringStep, Bool.and_eq_true, decide_eq_true_iff, Bool.not_eq_true', decide_eq_false_iff_not] at g ⊢
        exact ⟨g.1, g.2.1, by omega⟩
  · intro h
    have g0 : (s.rows.el 0).deficit = 0 := by
      have := h.row 0 h.rows1
      simp only [rowB, rowStep, Bool.and_eq_true, decide_eq_true_iff] at this
      exact this.2.2.2
    have a1 := h.cavs1
    have a2 := h.cavs5
    have a3 := h.rows1
    have a4 := h.rows8
    have a5 := h.heats1
    have a6 := h.heats8
    have a7 := h.rings8
    have a8 := h.houses5
    refine ⟨by omega, by omega, by omega, h.wall, by omega, by omega, g0, fun i hi => ⟨h.cav i hi, ?_⟩, fun i hi => ?_, fun i hi => ?_, fun i hi => ?_, fun i hi => h.house i hi⟩
    · cases ha : anyF (sameB s i) i 0 with
      | false => rfl
      | true =>
        obtain ⟨k, _, hk, e⟩ := (anyF_eq _ _ _).1 ha
        simp only [sameB, Bool.and_eq_true, decide_eq_true_iff] at e
        exact (h.apart i k hi (by omega) e).elim
    · have g := h.row i hi
      cases i with
      | zero =>
        simp only [rowP, rowB, rowStep, Bool.and_eq_true, decide_eq_true_iff, Bool.not_eq_true', decide_eq_false_iff_not] at g ⊢
        exact ⟨by omega, g.2.1, g.2.2.1⟩
      | succ j =>
        simp only [rowP, rowB, rowStep, Bool.and_eq_true, decide_eq_true_iff, Bool.not_eq_true', decide_eq_false_iff_not] at g ⊢
        exact ⟨by omega, g.2.1, g.2.2.1, by omega, g.2.2.2.2.1, g.2.2.2.2.2⟩
    · have g := h.heat i hi
      cases i with
      | zero => simp only [heatP, heatB, heatStep, Bool.and_eq_true, decide_eq_true_iff] at g ⊢; exact ⟨g.1, g.2.1⟩
      | succ j =>
        simp only [heatP, heatB, heatStep, Bool.and_eq_true, decide_eq_true_iff, Bool.not_eq_true', decide_eq_false_iff_not] at g ⊢
        exact ⟨g.1, g.2.1, by omega, g.2.2.2⟩
    · have g := h.ring i hi
      cases i with
      | zero => simp only [ringP, ringB, ringStep, Bool.and_eq_true, decide_eq_true_iff] at g ⊢; exact ⟨g.1, g.2.1⟩
      | succ j =>
        simp only [ringP, ringB, ringStep, Bool.and_eq_true, decide_eq_true_iff, Bool.not_eq_true', decide_eq_false_iff_not] at g ⊢
        exact ⟨g.1, g.2.1, by omega⟩
theorem s16 (s : Site) (hs : Small s F) : (E F (d + 3)).pf 7 [.agg (eSite s)] = some (.ret (.bool (siteB s))) := by
  have hC := hs.cavsF
  rw [E_pf, t16, ← sp_eq]
  simp only [s54, tkOut_ret, tkBool_b]
  cases h1 : decide (1 ≤ (s.cavs.len : Int) ∧ (s.cavs.len : Int) ≤ 5) <;> simp only [Bool.not_false, Bool.not_true, cond_true, cond_false, Bool.false_and, Bool.true_and]
  cases h2 : decide (1 ≤ (s.rows.len : Int) ∧ (s.rows.len : Int) ≤ 8) <;> simp only [Bool.not_false, Bool.not_true, cond_true, cond_false, Bool.false_and, Bool.true_and]
  have hr : 0 < s.rows.len := by have := of_decide_eq_true h2; omega
  simp only [zlt hr, cond_true, show L16x0 (E F (d + 2)) F s F 0 = _ from l16x0 F d s hs s.cavs.len 0 F (by omega) hs.cavsF, bne, beqI, cNb, cNand, Bool.not_not]
end Go.Sim.Cr


namespace Go.Sim.Cr
open Go.Sim.Le (cfg E E_pf E_hv)
open Go.Proofs
variable (F d : Nat)
abbrev ShortS (s : Site) : Prop := s.cavs.len ≤ 10 ∧ s.rows.len ≤ 12 ∧ s.heats.len ≤ 12 ∧ s.rings.len ≤ 12 ∧ s.houses.len ≤ 10
theorem small_of {s : Site} (h : ShortS s) (hF : 67108864 < F) : Small s F := by
  constructor
  · show s.cavs.len < 4611686018427387904; omega
  · show s.rows.len < 4611686018427387904; omega
  · show s.heats.len < 4611686018427387904; omega
  · show s.rings.len < 4611686018427387904; omega
  · show s.houses.len < 4611686018427387904; omega
  all_goals omega
end Go.Sim.Cr


namespace Go.Sim.Cr
open Go.Sim.Le (cfg E E_pf E_hv)
open Go.Proofs
variable (F d : Nat)
def partS (p : Span) (n : Int) : Int := p.lo + (p.hi - p.lo) * n / 100
end Go.Sim.Cr


namespace Go.Sim.Cr
open Go.Sim.Le (cfg E E_pf E_hv)
open Go.Proofs
variable (F d : Nat)
abbrev chs (w : Sl Int) (n : Nat) : Int := w.el (n % w.len)
section
variable {s : Site} {c : Cav} {p q : Span} {w : Sl Int}
theorem shrink0 {v r f : Int} (hv : 0 ≤ v ∧ v ≤ 10000000) (hr : 0 ≤ r ∧ r ≤ 100000) (hf : 0 ≤ f ∧ f ≤ 10000) : v * r * f / 1000000000 = shrink v r f 0 := by
  have := upDown v hv hr hf
  unfold shrink minI
  split <;> omega
end
end Go.Sim.Cr


namespace Go.Sim.Cr
open Go.Sim.Le (cfg E E_pf E_hv)
open Go.Proofs
variable (F d : Nat)
section
variable (s : Site) (ds : Sl Day) (w : Sl Int) (x y : Int)
abbrev n4 (n t i : Nat) : Nat := 6 * (n * t + i)
end
end Go.Sim.Cr


namespace Go.Sim.Cr
open Go.Sim.Le (cfg E E_pf E_hv)
open Go.Proofs
variable (F d : Nat)
section
variable (s : Site) (ds : Sl Day) (w : Sl Int) (x y : Int)
def first (i : Nat) : Truth := ⟨partS (s.cavs.el i).rad (chs w (2 * i)), partS (s.cavs.el i).vol (chs w (2 * i + 1)), 0⟩
end
end Go.Sim.Cr


namespace Go.Sim.Cr
open Go.Proofs
theorem left_in {s : Site} {c : Cav} {p q : Span} (hS : SiteF s) (hf : farB s c p q = false) {x : Stt} (hx : SttOk x) {n r f k : Int} (hn : x.vol.lo ≤ n ∧ n ≤ x.vol.hi) (hr : (rateOf s c p).lo ≤ r ∧ r ≤ (rateOf s c p).hi) (hg : (factorOf s q).lo ≤ f ∧ f ≤ (factorOf s q).hi) (hk : 0 ≤ k ∧ k ≤ 999999999) :
    (move1 s c x p q).vol.lo ≤ n - shrink n r f k ∧ n - shrink n r f k ≤ (move1 s c x p q).vol.hi := by
  obtain ⟨k1, k2, k3, k4, k5, k6⟩ := rates_ok hS hf
  have a1 := @shrink_mono n n r (rateOf s c p).hi f (factorOf s q).hi k 999999999 (by omega) (by omega) (by omega) (by omega) (by omega) (by omega) hk.2
  have a2 := @shrink_mono n n (rateOf s c p).lo r (factorOf s q).lo f 0 k (by omega) (by omega) (by omega) (by omega) (by omega) (by omega) hk.1
  have b1 := @shrink_rest x.vol.lo n (rateOf s c p).hi (factorOf s q).hi 999999999 (by omega) k2 k6
  have b2 := @shrink_rest n x.vol.hi (rateOf s c p).lo (factorOf s q).lo 0 (by omega) k1 k5
  refine ⟨?_, ?_⟩
  · show x.vol.lo - _ ≤ n - shrink n r f k; omega
  · show n - shrink n r f k ≤ x.vol.hi - _; omega
theorem far0 {s : Site} {y : Day} (h1 : s.cavs.len = 1) (h : farDay s y = false) : farB s (s.cavs.el 0) (y.press.el 0) (y.warm.el 0) = false := by
  cases hb : farB s (s.cavs.el 0) (y.press.el 0) (y.warm.el 0) with
  | false => rfl
  | true =>
    have : farDay s y = true := (anyF_eq _ _ _).2 ⟨0, Nat.le_refl _, by omega, hb⟩
    rw [this] at h; cases h
theorem moved0 {s : Site} {l : Sl Stt} {y : Day} (h : 0 < l.len) : (moved s l y).el 0 = move1 s (s.cavs.el 0) (l.el 0) (y.press.el 0) (y.warm.el 0) := outL_el h
end Go.Sim.Cr
namespace Go.Sim.Le
open Go.Proofs Go.Sim.Gs
variable (F d : Nat)
def newS (s : Cr.Site) (v : Gs.Sp) : Cr.Site := { s with cavs := ⟨false, s.cavs.len, fun u => if u = 0 then { s.cavs.el 0 with vol := ⟨v.lo, v.hi⟩ } else s.cavs.el u⟩ }
theorem upd_vol (s : Cr.Site) (v : Gs.Sp) : updGet (fun u => Cr.eCav (s.cavs.el u)) 0 4 [.int .i64 v.lo, .int .i64 v.hi] = fun u => Cr.eCav ((newS s v).cavs.el u) := by
  funext u
  unfold updGet newS
  by_cases h : u = 0
  · subst h; simp [splice]
  · simp [h]
theorem z77 : ((7 : Int) == 7) = true := by decide
theorem z70 : ((7 : Int) != 0) = true := by decide
theorem z00 : ((0 : Int) != 0) = false := by decide
theorem z11 : (((1 : Nat) : Int) != 1) = false := by decide
theorem z01 : decide ((0 : Int) < ((1 : Nat) : Int)) = true := by decide
section
variable {c : Cav} {l : Sl Stg} {t : Truth} {s : Cr.Site} {v : Gs.Sp} {ds : Cr.Sl Cr.Day} {fb : Sl Bool} {g : Gas} {x : Gst} {p : Gpt}
theorem end7003 (m : Cr.Sl Cr.Stt) (hm : m.len = 1) (n : Int) (hn : (m.el 0).vol.lo ≤ n ∧ n ≤ (m.el 0).vol.hi) (fu i : Nat) (hi : ds.len = i) :
    L7003x0 (E (F + 3000) (d + 25)) (F + 3000) c l t s ds fb g x p (fu + 1) m.nl m.len 6 (fun i => Cr.eStt (m.el i)) .i64 n (i : Int) (fun u => Cr.eCav ((newS s v).cavs.el u)) = some (.ret (.bool true)) := by
  have q6 := s7006 F d
  rw [L7003x0s, hm]
  simp only [Int.ofNat_lt, show ¬ i < ds.len by omega, decide_false, pF, decide_true, pT, q6, tkOut_ret, tkBool_b, beq_self_eq_true, List.drop, List.take, List.length, tkCons_c, tkInt_i, tkNil_n, z01]
  by_cases h1 : n < 1
  · rw [decide_eq_true h1, cond_true]
  rw [decide_eq_false h1, cond_false]
  by_cases h2 : (m.el 0).vol.lo < 1
  · rw [decide_eq_true h2, cond_true]
  rw [decide_eq_false h2, cond_false]
  by_cases h3 : (m.el 0).vol.hi > 1000000
  · rw [decide_eq_true h3, cond_true]
  rw [decide_eq_false h3, cond_false]
  have q7 : (E (F + 3000) (d + 25)).pf 17 [.agg (eGas { g with vol := ⟨(m.el 0).vol.lo, (m.el 0).vol.hi⟩ })] = _ := s7007 (F + 2997) (d + 23) { g with vol := ⟨(m.el 0).vol.lo, (m.el 0).vol.hi⟩ }
  have q8 : (E (F + 3000) (d + 25)).pf 18 [.agg (eGst x)] = _ := s7008 (F + 3000) (d + 23) x
  have q9 : (E (F + 3000) (d + 25)).pf 19 [.agg (eGst x), .agg (eGpt p)] = _ := s7009 (F + 3000) (d + 23) x p
  simp only [q7, q8, q9, tkOut_ret, tkBool_b]
  by_cases h5 : GasOk { g with vol := ⟨(m.el 0).vol.lo, (m.el 0).vol.hi⟩ }
  rotate_left
  · rw [decide_eq_false h5, Bool.not_false, cond_true]
  rw [decide_eq_true h5, Bool.not_true, cond_false]
  by_cases h6 : StOk x
  rotate_left
  · rw [decide_eq_false h6, Bool.not_false, cond_true]
  rw [decide_eq_true h6, Bool.not_true, cond_false]
  by_cases h7 : HasP x p
  rotate_left
  · rw [decide_eq_false h7, Bool.not_false, cond_true]
  rw [decide_eq_true h7, Bool.not_true, cond_false]
  have q10 : (E (F + 3000) (d + 25)).pf 20 [.agg (eGas { g with vol := ⟨(m.el 0).vol.lo, (m.el 0).vol.hi⟩ }), .agg (eGst x)] = _ := s7010 (F + 2995) (d + 20) h5 h6
  simp only [q10, tkOut_ret, tkTup_t, tkCons_c, tkInt_i, tkNil_n, decide_true, cond_true, beq_self_eq_true]
  by_cases h8 : ruleS { g with vol := ⟨(m.el 0).vol.lo, (m.el 0).vol.hi⟩ } x = 1
  rotate_left
  · rw [show (ruleS { g with vol := ⟨(m.el 0).vol.lo, (m.el 0).vol.hi⟩ } x != 1) = true by simp [h8], cond_true]
  rw [h8, bne_self_eq_false, cond_false]
  have k1 : (E (F + 3000) (d + 25)).pf 21 [.agg (eGas { g with vol := ⟨(m.el 0).vol.lo, (m.el 0).vol.hi⟩ }), .agg (eGpt p), .int .i64 n] = some (.ret (.int .i64 1)) := by
    have := s7012 (F + 3000) (d + 23) h5 p n (by omega) (by omega) (by omega) (by omega)
    rw [fine_keeps h5 h6 h8 h7 hn] at this
    exact this
  simp only [k1, tkOut_ret, tkInt_i, decide_true, cond_true, beq_self_eq_true]
theorem l7003 (hF : 140737488355330 < F) (hs : Cr.Small (newS s v) (F + 3000)) (hS : Cr.SiteF (newS s v)) (h1 : s.cavs.len = 1) (h8 : ds.len ≤ 8) (hfb : fb.len = ds.len) : ∀ (r i fu : Nat) (m : Cr.Sl Cr.Stt) (n : Int), ds.len = i + r → r < fu → Cr.StatesOk (newS s v) m → (m.el 0).vol.lo ≤ n ∧ n ≤ (m.el 0).vol.hi →
    L7003x0 (E (F + 3000) (d + 25)) (F + 3000) c l t s ds fb g x p fu m.nl m.len 6 (fun i => Cr.eStt (m.el i)) .i64 n (i : Int) (fun u => Cr.eCav ((newS s v).cavs.el u)) = some (.ret (.bool true)) := by
  intro r
  induction r with
  | zero =>
    intro i fu m n h hf hL hn
    obtain ⟨fu, rfl⟩ : ∃ k, fu = k + 1 := ⟨fu - 1, by omega⟩
    exact end7003 F d m (hL.1.trans h1) n hn fu i (by omega)
  | succ r ih =>
    intro i fu m n h hf hL hn
    obtain ⟨fu, rfl⟩ : ∃ k, fu = k + 1 := ⟨fu - 1, by omega⟩
    have hi : i < ds.len := by omega
    have q6 := s7006 F d
    have hml : m.len = 1 := hL.1.trans h1
    have hlen : (newS s v).cavs.len = 1 := h1
    rw [L7003x0s]
    simp only [Int.ofNat_lt, hi, decide_true, pT, Int.natCast_nonneg, Int.toNat_natCast, q6, tkOut_ret, tkBool_b, show i < fb.len by omega]
    by_cases g1 : ((ds.el i).press.len : Int) > 10
    · rw [decide_eq_true g1, cond_true]
    rw [decide_eq_false g1, cond_false]
    by_cases g2 : ((ds.el i).warm.len : Int) > 10
    · rw [decide_eq_true g2, cond_true]
    rw [decide_eq_false g2, cond_false]
    have e20 : (E (F + 3000) (d + 25)).pf 10 [.agg [.row false s.cavs.len 11 (fun u => Cr.eCav ((newS s v).cavs.el u)), Cr.sl Cr.eRow 5 s.rows, Cr.sl Cr.eHeat 3 s.heats, .int .i64 s.wall, Cr.sl Cr.eRing 3 s.rings, Cr.sl Cr.eHouse 3 s.houses], .agg (Cr.eDay (ds.el i))] = some (.ret (.bool (decide (Cr.DayOk (newS s v) (ds.el i))))) := Cr.s20 (F + 3000) (d + 23) (newS s v) (ds.el i) (by show s.cavs.len < 4611686018427387904; omega) (by show s.cavs.len < F + 3000; omega)
    simp only [e20, tkOut_ret, tkBool_b]
    by_cases hD : Cr.DayOk (newS s v) (ds.el i)
    rotate_left
    · rw [decide_eq_false hD, Bool.not_false, cond_true]
    rw [decide_eq_true hD, Bool.not_true, cond_false]
    have e14 : (E (F + 3000) (d + 25)).pf 11 [.agg [.row false s.cavs.len 11 (fun u => Cr.eCav ((newS s v).cavs.el u)), Cr.sl Cr.eRow 5 s.rows, Cr.sl Cr.eHeat 3 s.heats, .int .i64 s.wall, Cr.sl Cr.eRing 3 s.rings, Cr.sl Cr.eHouse 3 s.houses], .row m.nl m.len 6 (fun i => Cr.eStt (m.el i)), .agg (Cr.eDay (ds.el i))] = _ := Cr.s14 (F + 3000) (d + 17) (newS s v) m (ds.el i) hs (show m.len < 4611686018427387904 by omega) (by omega) (show (ds.el i).press.len < 4611686018427387904 by omega) (show (ds.el i).warm.len < 4611686018427387904 by omega) (by omega) (by omega) (by omega)
    rw [(Cr.siteB_iff _).2 hS, decide_eq_true hL, decide_eq_true hD, Bool.and_self, Bool.and_self, cond_true] at e14
    simp only [e14]
    cases h9 : Cr.farDay (newS s v) (ds.el i) with
    | true =>
      simp only [cond_true, tkOut_ret, tkTup_t, tkCons_c, tkInt_i, tkNil_n, tkRow_r, z70, z77, decide_true, pT]
    | false =>
      have h9' : Cr.farB (newS s v) ((newS s v).cavs.el 0) ((ds.el i).press.el 0) ((ds.el i).warm.el 0) = false := Cr.far0 hlen h9
      have hpl : (ds.el i).press.len = 1 := hD.1.1.trans hlen
      have hwl : (ds.el i).warm.len = 1 := hD.2.1.trans hlen
      have hp := hD.1.2 0 (by omega)
      have hw := hD.2.2 0 (by omega)
      have hx := hL.2 0 (by omega)
      have hrk := (hS.cav 0 (by omega)).2.2.2.1
      have hML := Cr.moved_ok hS hL hD h9
      have hm0 : (Cr.moved (newS s v) m (ds.el i)).el 0 = Cr.move1 (newS s v) ((newS s v).cavs.el 0) (m.el 0) ((ds.el i).press.el 0) ((ds.el i).warm.el 0) := Cr.moved0 (by omega)
      have hmn : ((Cr.moved (newS s v) m (ds.el i)).len : Int) = 1 := by show (m.len : Int) = 1; omega
      have hmn' : (Cr.moved (newS s v) m (ds.el i)).len = 1 := by show m.len = 1; omega
      simp only [cond_false, tkOut_ret, tkTup_t, tkCons_c, tkInt_i, tkNil_n, tkRow_r, z00, decide_true, pT, pF, Cr.zlt (show 0 < (ds.el i).press.len by omega), Cr.zlt (show 0 < (ds.el i).warm.len by omega), List.drop, hm0, hmn', z11, z01, beq_self_eq_true]
      cases hfi : fb.el i with
      | true =>
        have sp : Cr.Sub ⟨((ds.el i).press.el 0).lo, ((ds.el i).press.el 0).lo⟩ ((ds.el i).press.el 0) := ⟨Int.le_refl _, hp.2.1⟩
        have sq : Cr.Sub ⟨((ds.el i).warm.el 0).hi, ((ds.el i).warm.el 0).hi⟩ ((ds.el i).warm.el 0) := ⟨hw.2.1, Int.le_refl _⟩
        have hf' := Cr.far_sub h9' sp sq
        obtain ⟨o1, o2⟩ := Cr.far_split hf'
        obtain ⟨r1, _, r3, _⟩ := Cr.rate_sub hS h9' sp (Int.le_refl _)
        obtain ⟨f1, f3⟩ := Cr.factor_sub hS h9' sq (Int.le_refl _)
        obtain ⟨k1, k2, _, _, k5, k6⟩ := Cr.rates_ok hS hf'
        have e70 : (E (F + 3000) (d + 25)).pf 12 [.agg [.row false s.cavs.len 11 (fun u => Cr.eCav ((newS s v).cavs.el u)), Cr.sl Cr.eRow 5 s.rows, Cr.sl Cr.eHeat 3 s.heats, .int .i64 s.wall, Cr.sl Cr.eRing 3 s.rings, Cr.sl Cr.eHouse 3 s.houses], .int .i64 0, .agg [.int .i64 ((ds.el i).press.el 0).lo, .int .i64 ((ds.el i).press.el 0).lo]] = _ := Cr.s70 (F + 3000) (d + 24) (newS s v) 0 ⟨((ds.el i).press.el 0).lo, ((ds.el i).press.el 0).lo⟩ hS (by omega) ⟨hp.1, Int.le_refl _, by show ((ds.el i).press.el 0).lo ≤ 50000; omega⟩
        have e58 : (E (F + 3000) (d + 25)).pf 14 [.agg [.row false s.cavs.len 11 (fun u => Cr.eCav ((newS s v).cavs.el u)), Cr.sl Cr.eRow 5 s.rows, Cr.sl Cr.eHeat 3 s.heats, .int .i64 s.wall, Cr.sl Cr.eRing 3 s.rings, Cr.sl Cr.eHouse 3 s.houses], .agg [.int .i64 (((newS s v).cavs.el 0).rock - ((ds.el i).press.el 0).lo), .int .i64 (((newS s v).cavs.el 0).rock - ((ds.el i).press.el 0).lo)]] = some (.ret (.agg [.int .i64 (Cr.rateOf (newS s v) ((newS s v).cavs.el 0) ⟨((ds.el i).press.el 0).lo, ((ds.el i).press.el 0).lo⟩).lo, .int .i64 (Cr.rateOf (newS s v) ((newS s v).cavs.el 0) ⟨((ds.el i).press.el 0).lo, ((ds.el i).press.el 0).lo⟩).hi])) := Cr.s58 (F + 3000) (d + 23) (newS s v) ⟨((newS s v).cavs.el 0).rock - ((ds.el i).press.el 0).lo, ((newS s v).cavs.el 0).rock - ((ds.el i).press.el 0).lo⟩ hS o1 (by omega)
        have e59 : (E (F + 3000) (d + 25)).pf 15 [.agg [.row false s.cavs.len 11 (fun u => Cr.eCav ((newS s v).cavs.el u)), Cr.sl Cr.eRow 5 s.rows, Cr.sl Cr.eHeat 3 s.heats, .int .i64 s.wall, Cr.sl Cr.eRing 3 s.rings, Cr.sl Cr.eHouse 3 s.houses], .agg [.int .i64 ((ds.el i).warm.el 0).hi, .int .i64 ((ds.el i).warm.el 0).hi]] = some (.ret (.agg [.int .i64 (Cr.factorOf (newS s v) ⟨((ds.el i).warm.el 0).hi, ((ds.el i).warm.el 0).hi⟩).lo, .int .i64 (Cr.factorOf (newS s v) ⟨((ds.el i).warm.el 0).hi, ((ds.el i).warm.el 0).hi⟩).hi])) := Cr.s59 (F + 3000) (d + 24) (newS s v) ⟨((ds.el i).warm.el 0).hi, ((ds.el i).warm.el 0).hi⟩ hS o2 (by omega)
        have e62 := Cr.s62 (F + 3000) (d + 24) n (Cr.rateOf (newS s v) ((newS s v).cavs.el 0) ⟨((ds.el i).press.el 0).lo, ((ds.el i).press.el 0).lo⟩).hi (Cr.factorOf (newS s v) ⟨((ds.el i).warm.el 0).hi, ((ds.el i).warm.el 0).hi⟩).hi (by omega) k2 k6
        have hin := Cr.left_in hS h9' hx hn (k := 999999999) (r := (Cr.rateOf (newS s v) ((newS s v).cavs.el 0) ⟨((ds.el i).press.el 0).lo, ((ds.el i).press.el 0).lo⟩).hi) (f := (Cr.factorOf (newS s v) ⟨((ds.el i).warm.el 0).hi, ((ds.el i).warm.el 0).hi⟩).hi) (by omega) (by omega) (by omega)
        rw [← hm0] at hin
        have hsh := Cr.shrink_ok (v := n) (k := 999999999) (by omega) k2 k6 (by omega)
        have hmi : (if (n * (Cr.rateOf (newS s v) ((newS s v).cavs.el 0) ⟨((ds.el i).press.el 0).lo, ((ds.el i).press.el 0).lo⟩).hi * (Cr.factorOf (newS s v) ⟨((ds.el i).warm.el 0).hi, ((ds.el i).warm.el 0).hi⟩).hi + 999999999) / 1000000000 < n then (n * (Cr.rateOf (newS s v) ((newS s v).cavs.el 0) ⟨((ds.el i).press.el 0).lo, ((ds.el i).press.el 0).lo⟩).hi * (Cr.factorOf (newS s v) ⟨((ds.el i).warm.el 0).hi, ((ds.el i).warm.el 0).hi⟩).hi + 999999999) / 1000000000 else n) = Cr.shrink n (Cr.rateOf (newS s v) ((newS s v).cavs.el 0) ⟨((ds.el i).press.el 0).lo, ((ds.el i).press.el 0).lo⟩).hi (Cr.factorOf (newS s v) ⟨((ds.el i).warm.el 0).hi, ((ds.el i).warm.el 0).hi⟩).hi 999999999 := rfl
        simp only [pT, e70, e58, e59, e62, hmi, tkOut_ret, tkAgg_a, tkCons_c, tkInt_i, tkNil_n, decide_true]
        rw [wr (n := n - Cr.shrink n (Cr.rateOf (newS s v) ((newS s v).cavs.el 0) ⟨((ds.el i).press.el 0).lo, ((ds.el i).press.el 0).lo⟩).hi (Cr.factorOf (newS s v) ⟨((ds.el i).warm.el 0).hi, ((ds.el i).warm.el 0).hi⟩).hi 999999999) (by omega), wr (n := (i : Int) + 1) (by omega)]
        generalize n - Cr.shrink n (Cr.rateOf (newS s v) ((newS s v).cavs.el 0) ⟨((ds.el i).press.el 0).lo, ((ds.el i).press.el 0).lo⟩).hi (Cr.factorOf (newS s v) ⟨((ds.el i).warm.el 0).hi, ((ds.el i).warm.el 0).hi⟩).hi 999999999 = n' at hin ⊢
        rw [← hm0, decide_eq_false (by omega), cond_false, decide_eq_false (by omega), cond_false]
        have := ih (i + 1) fu (Cr.moved (newS s v) m (ds.el i)) n' (by omega) (by omega) hML hin
        rw [hmn'] at this
        exact this
      | false =>
        have sp : Cr.Sub ⟨((ds.el i).press.el 0).hi, ((ds.el i).press.el 0).hi⟩ ((ds.el i).press.el 0) := ⟨hp.2.1, Int.le_refl _⟩
        have sq : Cr.Sub ⟨((ds.el i).warm.el 0).lo, ((ds.el i).warm.el 0).lo⟩ ((ds.el i).warm.el 0) := ⟨Int.le_refl _, hw.2.1⟩
        have hf' := Cr.far_sub h9' sp sq
        obtain ⟨o1, o2⟩ := Cr.far_split hf'
        obtain ⟨r1, _, r3, _⟩ := Cr.rate_sub hS h9' sp (Int.le_refl _)
        obtain ⟨f1, f3⟩ := Cr.factor_sub hS h9' sq (Int.le_refl _)
        obtain ⟨k1, k2, _, _, k5, k6⟩ := Cr.rates_ok hS hf'
        have e70 : (E (F + 3000) (d + 25)).pf 12 [.agg [.row false s.cavs.len 11 (fun u => Cr.eCav ((newS s v).cavs.el u)), Cr.sl Cr.eRow 5 s.rows, Cr.sl Cr.eHeat 3 s.heats, .int .i64 s.wall, Cr.sl Cr.eRing 3 s.rings, Cr.sl Cr.eHouse 3 s.houses], .int .i64 0, .agg [.int .i64 ((ds.el i).press.el 0).hi, .int .i64 ((ds.el i).press.el 0).hi]] = _ := Cr.s70 (F + 3000) (d + 24) (newS s v) 0 ⟨((ds.el i).press.el 0).hi, ((ds.el i).press.el 0).hi⟩ hS (by omega) ⟨by show 0 ≤ ((ds.el i).press.el 0).hi; omega, Int.le_refl _, hp.2.2⟩
        have e58 : (E (F + 3000) (d + 25)).pf 14 [.agg [.row false s.cavs.len 11 (fun u => Cr.eCav ((newS s v).cavs.el u)), Cr.sl Cr.eRow 5 s.rows, Cr.sl Cr.eHeat 3 s.heats, .int .i64 s.wall, Cr.sl Cr.eRing 3 s.rings, Cr.sl Cr.eHouse 3 s.houses], .agg [.int .i64 (((newS s v).cavs.el 0).rock - ((ds.el i).press.el 0).hi), .int .i64 (((newS s v).cavs.el 0).rock - ((ds.el i).press.el 0).hi)]] = some (.ret (.agg [.int .i64 (Cr.rateOf (newS s v) ((newS s v).cavs.el 0) ⟨((ds.el i).press.el 0).hi, ((ds.el i).press.el 0).hi⟩).lo, .int .i64 (Cr.rateOf (newS s v) ((newS s v).cavs.el 0) ⟨((ds.el i).press.el 0).hi, ((ds.el i).press.el 0).hi⟩).hi])) := Cr.s58 (F + 3000) (d + 23) (newS s v) ⟨((newS s v).cavs.el 0).rock - ((ds.el i).press.el 0).hi, ((newS s v).cavs.el 0).rock - ((ds.el i).press.el 0).hi⟩ hS o1 (by omega)
        have e59 : (E (F + 3000) (d + 25)).pf 15 [.agg [.row false s.cavs.len 11 (fun u => Cr.eCav ((newS s v).cavs.el u)), Cr.sl Cr.eRow 5 s.rows, Cr.sl Cr.eHeat 3 s.heats, .int .i64 s.wall, Cr.sl Cr.eRing 3 s.rings, Cr.sl Cr.eHouse 3 s.houses], .agg [.int .i64 ((ds.el i).warm.el 0).lo, .int .i64 ((ds.el i).warm.el 0).lo]] = some (.ret (.agg [.int .i64 (Cr.factorOf (newS s v) ⟨((ds.el i).warm.el 0).lo, ((ds.el i).warm.el 0).lo⟩).lo, .int .i64 (Cr.factorOf (newS s v) ⟨((ds.el i).warm.el 0).lo, ((ds.el i).warm.el 0).lo⟩).hi])) := Cr.s59 (F + 3000) (d + 24) (newS s v) ⟨((ds.el i).warm.el 0).lo, ((ds.el i).warm.el 0).lo⟩ hS o2 (by omega)
        have e61 := Cr.s61 (F + 3000) (d + 24) n (Cr.rateOf (newS s v) ((newS s v).cavs.el 0) ⟨((ds.el i).press.el 0).hi, ((ds.el i).press.el 0).hi⟩).lo (Cr.factorOf (newS s v) ⟨((ds.el i).warm.el 0).lo, ((ds.el i).warm.el 0).lo⟩).lo (by omega) k1 k5
        rw [Cr.shrink0 (by omega) k1 k5] at e61
        have hin := Cr.left_in hS h9' hx hn (k := 0) (r := (Cr.rateOf (newS s v) ((newS s v).cavs.el 0) ⟨((ds.el i).press.el 0).hi, ((ds.el i).press.el 0).hi⟩).lo) (f := (Cr.factorOf (newS s v) ⟨((ds.el i).warm.el 0).lo, ((ds.el i).warm.el 0).lo⟩).lo) (by omega) (by omega) (by omega)
        rw [← hm0] at hin
        have hsh := Cr.shrink_ok (v := n) (k := 0) (by omega) k1 k5 (by omega)
        simp only [pF, e70, e58, e59, e61, tkOut_ret, tkAgg_a, tkCons_c, tkInt_i, tkNil_n, decide_true, pT]
        rw [wr (n := n - Cr.shrink n (Cr.rateOf (newS s v) ((newS s v).cavs.el 0) ⟨((ds.el i).press.el 0).hi, ((ds.el i).press.el 0).hi⟩).lo (Cr.factorOf (newS s v) ⟨((ds.el i).warm.el 0).lo, ((ds.el i).warm.el 0).lo⟩).lo 0) (by omega), wr (n := (i : Int) + 1) (by omega)]
        generalize n - Cr.shrink n (Cr.rateOf (newS s v) ((newS s v).cavs.el 0) ⟨((ds.el i).press.el 0).hi, ((ds.el i).press.el 0).hi⟩).lo (Cr.factorOf (newS s v) ⟨((ds.el i).warm.el 0).lo, ((ds.el i).warm.el 0).lo⟩).lo 0 = n' at hin ⊢
        rw [← hm0, decide_eq_false (by omega), cond_false, decide_eq_false (by omega), cond_false]
        have := ih (i + 1) fu (Cr.moved (newS s v) m (ds.el i)) n' (by omega) (by omega) hML hin
        rw [hmn'] at this
        exact this
end
end Go.Sim.Le


namespace Go.Sim.Le
open Go.Proofs Go.Sim.Gs
variable (F d : Nat)
theorem law7003 (hF : 140737488355330 < F) (c : Cav) (l : Sl Stg) (t : Truth) (s : Cr.Site) (ds : Cr.Sl Cr.Day) (fb : Sl Bool) (g : Gas) (x : Gst) (p : Gpt) (hC : c.slices.len ≤ 140737488355328) (hL : l.len ≤ 140737488355328) (hT : t.rates.len ≤ 140737488355328) (hnl : t.vols.nl = true → t.vols.len = 0) (hcn : s.cavs.nl = true → s.cavs.len = 0) :
    (E (F + 3000) (d + 26)).pf 3 [.agg (eCav c), sl eStg 4 l, .agg (eTruth t), .agg (Cr.eSite s), Cr.sl Cr.eDay 2 ds, .row fb.nl fb.len 1 (fun i => [.bool (fb.el i)]), .agg (eGas g), .agg (eGst x), .agg (eGpt p)] = some (.ret (.bool true)) := by
  have q6 := s7006 F d
  have q4 : (E (F + 3000) (d + 25)).pf 4 [.agg (eCav c), sl eStg 4 l] = _ := s7004 (F + 3000) (d + 9) c l (by show _ < 4611686018427387904; omega) (by omega) (by show _ < 4611686018427387904; omega) (by omega) (by omega)
  have q5 : (E (F + 3000) (d + 25)).pf 5 [.agg (eCav c), sl eStg 4 l, .agg (eTruth t)] = _ := s47 (F + 3000) (d + 23) c l t (by show _ < 4611686018427387904; omega) (by show _ < 4611686018427387904; omega) (by omega) (by omega)
  rw [E_pf, t7003, q4]
  by_cases h1 : HolOk c l
  rotate_left
  · rw [if_neg h1]
    simp only [tkOut_ret, tkTup_t, tkCons_c, tkAgg_a, tkInt_i, tkNil_n, tkBool_b, Bool.not_false, pT, q6]
  rw [if_pos h1]
  simp only [tkOut_ret, tkTup_t, tkCons_c, tkAgg_a, tkInt_i, tkNil_n, tkBool_b, Bool.not_true, pF, q6, q5]
  by_cases h2 : (t.vols.len : Int) > 20
  · rw [decide_eq_true h2, cond_true]
  rw [decide_eq_false h2, cond_false]
  by_cases h3 : (t.rates.len : Int) > 20
  · rw [decide_eq_true h3, cond_true]
  rw [decide_eq_false h3, cond_false]
  by_cases h4 : TruthOk c l.len t
  rotate_left
  · rw [decide_eq_false h4, Bool.not_false, cond_true]
  rw [decide_eq_true h4, Bool.not_true, cond_false]
  by_cases h5 : s.cavs.len = 1
  rotate_left
  · rw [show ((s.cavs.len : Int) != 1) = true by simp; omega, cond_true]
  rw [show ((s.cavs.len : Int) != 1) = false by simp [h5], cond_false]
  by_cases h6 : (ds.len : Int) > 8
  · rw [decide_eq_true h6, cond_true]
  rw [decide_eq_false h6, cond_false]
  by_cases h7 : fb.len = ds.len
  rotate_left
  · rw [show ((fb.len : Int) != (ds.len : Int)) = true by simp; omega, cond_true]
  rw [show ((fb.len : Int) != (ds.len : Int)) = false by simp [h7], cond_false]
  have hn : s.cavs.nl = false := by
    cases h : s.cavs.nl with
    | false => rfl
    | true => have := hcn h; omega
  rw [hn, cond_false, show (s.cavs.len == 0) = false by simp; omega, cond_false, decide_eq_true (show s.cavs.len * 88 ≤ 140737488355328 by omega), cond_true, decide_eq_true (show (0 : Int) < (s.cavs.len : Int) by omega), cond_true]
  by_cases g1 : (s.rows.len : Int) > 12
  · rw [decide_eq_true g1, cond_true]
  rw [decide_eq_false g1, cond_false]
  by_cases g2 : (s.heats.len : Int) > 12
  · rw [decide_eq_true g2, cond_true]
  rw [decide_eq_false g2, cond_false]
  by_cases g3 : (s.rings.len : Int) > 12
  · rw [decide_eq_true g3, cond_true]
  rw [decide_eq_false g3, cond_false]
  by_cases g4 : (s.houses.len : Int) > 10
  · rw [decide_eq_true g4, cond_true]
  rw [decide_eq_false g4, cond_false]
  have hu := upd_vol s (holS c l)
  have hs : Cr.Small (newS s (holS c l)) (F + 3000) := Cr.small_of (F + 3000) ⟨by show s.cavs.len ≤ 10; omega, by show s.rows.len ≤ 12; omega, by show s.heats.len ≤ 12; omega, by show s.rings.len ≤ 12; omega, by show s.houses.len ≤ 10; omega⟩ (by omega)
  have e16 : (E (F + 3000) (d + 25)).pf 7 [.agg [.row false s.cavs.len 11 (fun u => Cr.eCav ((newS s (holS c l)).cavs.el u)), Cr.sl Cr.eRow 5 s.rows, Cr.sl Cr.eHeat 3 s.heats, .int .i64 s.wall, Cr.sl Cr.eRing 3 s.rings, Cr.sl Cr.eHouse 3 s.houses]] = _ := Cr.s16 (F + 3000) (d + 22) (newS s (holS c l)) hs
  have e24 : (E (F + 3000) (d + 25)).pf 8 [.agg [.row false s.cavs.len 11 (fun u => Cr.eCav ((newS s (holS c l)).cavs.el u)), Cr.sl Cr.eRow 5 s.rows, Cr.sl Cr.eHeat 3 s.heats, .int .i64 s.wall, Cr.sl Cr.eRing 3 s.rings, Cr.sl Cr.eHouse 3 s.houses]] = _ := Cr.s24 (F + 3000) (d + 18) (newS s (holS c l)) hs (by omega)
  simp only [hu, e16, e24, tkOut_ret, tkBool_b]
  cases hb : Cr.siteB (newS s (holS c l)) with
  | false => rw [Bool.not_false, cond_true]
  | true =>
    have hS := (Cr.siteB_iff _).1 hb
    obtain ⟨a1, a2, a3, a4, a5, a6, a7, a8⟩ := h1
    have q11 : (E (F + 3000) (d + 25)).pf 9 [.agg (eCav c), sl eStg 4 l, .agg (eTruth t)] = _ := s7011 (F + 3000) (d + 16) a4 a3 a5 h4 (by show _ < 4611686018427387904; omega) (by omega) (by omega) (by show _ < 4611686018427387904; omega) (by omega) hnl (by omega)
    have hti := true_in a4 a5 h4 (hM c) l.len (Nat.le_refl _)
    generalize hn : trueM c l.el t (hM c) l.len = n at q11 hti
    change (hB c l).lo ≤ n ∧ n ≤ (hB c l).hi at hti
    have hlo : (holS c l).lo = (hB c l).lo / 1000000 := rfl
    have hhi : (holS c l).hi = ((hB c l).hi + 999999) / 1000000 := rfl
    have hbl : (Cr.begin (newS s (holS c l))).len = 1 := h5
    have hb0 : (Cr.begin (newS s (holS c l))).el 0 = Cr.start ((newS s (holS c l)).cavs.el 0) := Cr.outL_el (show 0 < s.cavs.len by omega)
    have hvol : ((Cr.begin (newS s (holS c l))).el 0).vol = ⟨(holS c l).lo, (holS c l).hi⟩ := by rw [hb0]; rfl
    simp only [Bool.not_true, pF, pT, q11, tkOut_ret, tkTup_t, tkCons_c, tkRow_r, tkInt_i, tkNil_n, decide_true, z00, hbl, z11]
    rw [Int.tdiv_eq_ediv_of_nonneg (show 0 ≤ n by omega), wr (n := n / 1000000) (by omega), decide_eq_false (by omega), cond_false, decide_eq_false (by omega), cond_false]
    have := l7003 (F := F) (d := d) (c := c) (l := l) (t := t) (s := s) (v := holS c l) (ds := ds) (fb := fb) (g := g) (x := x) (p := p) hF hs hS h5 (by omega) h7 ds.len 0 (F + 3000) (Cr.begin (newS s (holS c l))) (n / 1000000) (by omega) (by omega) (Cr.begin_ok hS) (by rw [hvol]; show (holS c l).lo ≤ _ ∧ _ ≤ (holS c l).hi; omega)
    rw [hbl] at this
    exact this
end Go.Sim.Le


namespace Go.Sim.Cr
open Go.Proofs
theorem fitInt {k : IntKind} {c : V} (h : Fit (.int k) c) : ∃ n, c = .int k n ∧ k.min ≤ n ∧ n ≤ k.max := by
  cases h with
  | int h => exact ⟨_, rfl, h⟩
theorem fitL_nil {cs : List V} (h : FitL [] cs) : cs = [] := by
  have := h.1
  exact List.eq_nil_of_length_eq_zero this
theorem fitL_cons {s : Sh} {l : List Sh} {cs : List V} (h : FitL (s :: l) cs) : ∃ c cs', cs = c :: cs' ∧ Fit s c ∧ FitL l cs' := by
  obtain ⟨h1, h2⟩ := h
  cases cs with
  | nil => simp at h1
  | cons c cs' => exact ⟨c, cs', rfl, h2 0 s c rfl rfl, by simpa using h1, fun j s' c' g1 g2 => h2 (j + 1) s' c' (by simpa using g1) (by simpa using g2)⟩
theorem fitL_int {k : IntKind} {l : List Sh} {cs : List V} (h : FitL (.int k :: l) cs) : ∃ n cs', cs = .int k n :: cs' ∧ FitL l cs' := by
  obtain ⟨c, cs', rfl, h1, h2⟩ := fitL_cons h
  obtain ⟨n, rfl, _⟩ := fitInt h1
  exact ⟨n, cs', rfl, h2⟩
theorem fitRow {α : Type} {e : α → List V} {l : List Sh} (dec : ∀ cs, FitL l cs → ∃ a : α, cs = e a) {c : V} (h : Fit (.row l) c) : ∃ s : Sl α, c = sl e l.length s ∧ s.len ≤ 140737488355328 ∧ (s.nl = true → s.len = 0) := by
  cases h with
  | row h hn hl hf =>
    rename_i nl len get
    have hx : ∀ i, ∃ a : α, get i = e a := fun i => dec _ ⟨hl i, hf i⟩
    refine ⟨⟨nl, len, fun i => (hx i).choose⟩, ?_, h, hn⟩
    show V.row nl len l.length get = V.row nl len l.length fun i => e (hx i).choose
    congr 1
    funext i
    exact (hx i).choose_spec
theorem fitL_row {α : Type} {e : α → List V} {l r : List Sh} (dec : ∀ cs, FitL l cs → ∃ a : α, cs = e a) {cs : List V} (h : FitL (.row l :: r) cs) : ∃ (s : Sl α) (cs' : List V), cs = sl e l.length s :: cs' ∧ s.len ≤ 140737488355328 ∧ (s.nl = true → s.len = 0) ∧ FitL r cs' := by
  obtain ⟨c, cs', rfl, h1, h2⟩ := fitL_cons h
  obtain ⟨s, rfl, h3, h4⟩ := fitRow dec h1
  exact ⟨s, cs', rfl, h3, h4, h2⟩
abbrev i8 : Sh := .int .i64
abbrev shSpan : List Sh := [i8, i8]
abbrev shCav : List Sh := [i8, i8, i8, i8, i8, i8, i8, i8, i8, i8, i8]
abbrev shRow : List Sh := [i8, i8, i8, i8, i8]
abbrev shTri : List Sh := [i8, i8, i8]
abbrev shStt : List Sh := [i8, i8, i8, i8, i8, i8]
abbrev shSite : List Sh := [.row shCav, .row shRow, .row shTri, i8, .row shTri, .row shTri]
abbrev shDay : List Sh := [.row shSpan, .row shSpan]
theorem decInt (cs : List V) (h : FitL [i8] cs) : ∃ n : Int, cs = eInt n := by
  obtain ⟨a, _, rfl, h1⟩ := fitL_int h
  obtain rfl := fitL_nil h1
  exact ⟨a, rfl⟩
theorem decSpan (cs : List V) (h : FitL shSpan cs) : ∃ p : Span, cs = eSpan p := by
  obtain ⟨a, _, rfl, h1⟩ := fitL_int h
  obtain ⟨b, _, rfl, h2⟩ := fitL_int h1
  obtain rfl := fitL_nil h2
  exact ⟨⟨a, b⟩, rfl⟩
theorem decCav (cs : List V) (h : FitL shCav cs) : ∃ c : Cav, cs = eCav c := by
  obtain ⟨a0, _, rfl, h1⟩ := fitL_int h
  obtain ⟨a1, _, rfl, h2⟩ := fitL_int h1
  obtain ⟨a2, _, rfl, h3⟩ := fitL_int h2
  obtain ⟨a3, _, rfl, h4⟩ := fitL_int h3
  obtain ⟨a4, _, rfl, h5⟩ := fitL_int h4
  obtain ⟨a5, _, rfl, h6⟩ := fitL_int h5
  obtain ⟨a6, _, rfl, h7⟩ := fitL_int h6
  obtain ⟨a7, _, rfl, h8⟩ := fitL_int h7
  obtain ⟨a8, _, rfl, h9⟩ := fitL_int h8
  obtain ⟨a9, _, rfl, h10⟩ := fitL_int h9
  obtain ⟨a10, _, rfl, h11⟩ := fitL_int h10
  obtain rfl := fitL_nil h11
  exact ⟨⟨a0, a1, ⟨a2, a3⟩, ⟨a4, a5⟩, a6, a7, ⟨a8, a9⟩, a10⟩, rfl⟩
theorem decRow (cs : List V) (h : FitL shRow cs) : ∃ c : Row, cs = eRow c := by
  obtain ⟨a0, _, rfl, h1⟩ := fitL_int h
  obtain ⟨a1, _, rfl, h2⟩ := fitL_int h1
  obtain ⟨a2, _, rfl, h3⟩ := fitL_int h2
  obtain ⟨a3, _, rfl, h4⟩ := fitL_int h3
  obtain ⟨a4, _, rfl, h5⟩ := fitL_int h4
  obtain rfl := fitL_nil h5
  exact ⟨⟨a0, ⟨a1, a2⟩, ⟨a3, a4⟩⟩, rfl⟩
theorem decTri (cs : List V) (h : FitL shTri cs) : ∃ a b c : Int, cs = [i64 a, i64 b, i64 c] := by
  obtain ⟨a0, _, rfl, h1⟩ := fitL_int h
  obtain ⟨a1, _, rfl, h2⟩ := fitL_int h1
  obtain ⟨a2, _, rfl, h3⟩ := fitL_int h2
  obtain rfl := fitL_nil h3
  exact ⟨a0, a1, a2, rfl⟩
theorem decHeat (cs : List V) (h : FitL shTri cs) : ∃ c : Heat, cs = eHeat c := by
  obtain ⟨a, b, c, rfl⟩ := decTri cs h
  exact ⟨⟨a, ⟨b, c⟩⟩, rfl⟩
theorem decRing (cs : List V) (h : FitL shTri cs) : ∃ c : Ring, cs = eRing c := by
  obtain ⟨a, b, c, rfl⟩ := decTri cs h
  exact ⟨⟨a, ⟨b, c⟩⟩, rfl⟩
theorem decHouse (cs : List V) (h : FitL shTri cs) : ∃ c : House, cs = eHouse c := by
  obtain ⟨a, b, c, rfl⟩ := decTri cs h
  exact ⟨⟨a, b, c⟩, rfl⟩
theorem decDay (cs : List V) (h : FitL shDay cs) : ∃ c : Day, cs = eDay c := by
  obtain ⟨p, _, rfl, _, _, h1⟩ := fitL_row decSpan h
  obtain ⟨q, _, rfl, _, _, h2⟩ := fitL_row decSpan h1
  obtain rfl := fitL_nil h2
  exact ⟨⟨p, q⟩, rfl⟩
theorem decSite (cs : List V) (h : FitL shSite cs) : ∃ c : Site, cs = eSite c ∧ (c.cavs.nl = true → c.cavs.len = 0) := by
  obtain ⟨a, _, rfl, _, k0, h1⟩ := fitL_row decCav h
  obtain ⟨b, _, rfl, _, _, h2⟩ := fitL_row decRow h1
  obtain ⟨c, _, rfl, _, _, h3⟩ := fitL_row decHeat h2
  obtain ⟨n, _, rfl, h4⟩ := fitL_int h3
  obtain ⟨d, _, rfl, _, _, h5⟩ := fitL_row decRing h4
  obtain ⟨e, _, rfl, _, _, h6⟩ := fitL_row decHouse h5
  obtain rfl := fitL_nil h6
  exact ⟨⟨a, b, c, n, d, e⟩, rfl, k0⟩
end Go.Sim.Cr


namespace Go.Sim.Le
open Go.Proofs
theorem fitInt {k : IntKind} {c : V} (h : Fit (.int k) c) : ∃ n, c = .int k n ∧ k.min ≤ n ∧ n ≤ k.max := by
  cases h with
  | int h => exact ⟨_, rfl, h⟩
theorem fitL_nil {cs : List V} (h : FitL [] cs) : cs = [] := by
  have := h.1
  exact List.eq_nil_of_length_eq_zero this
theorem fitL_cons {s : Sh} {l : List Sh} {cs : List V} (h : FitL (s :: l) cs) : ∃ c cs', cs = c :: cs' ∧ Fit s c ∧ FitL l cs' := by
  obtain ⟨h1, h2⟩ := h
  cases cs with
  | nil => simp at h1
  | cons c cs' => exact ⟨c, cs', rfl, h2 0 s c rfl rfl, by simpa using h1, fun j s' c' g1 g2 => h2 (j + 1) s' c' (by simpa using g1) (by simpa using g2)⟩
theorem fitL_int {k : IntKind} {l : List Sh} {cs : List V} (h : FitL (.int k :: l) cs) : ∃ n cs', cs = .int k n :: cs' ∧ FitL l cs' := by
  obtain ⟨c, cs', rfl, h1, h2⟩ := fitL_cons h
  obtain ⟨n, rfl, _⟩ := fitInt h1
  exact ⟨n, cs', rfl, h2⟩
abbrev SlOk {α : Type} (s : Sl α) : Prop := s.len ≤ 140737488355328 ∧ (s.nl = true → s.len = 0)
theorem fitRow {α : Type} {e : α → List V} {P : α → Prop} {l : List Sh} (dec : ∀ cs, FitL l cs → ∃ a : α, cs = e a ∧ P a) {c : V} (h : Fit (.row l) c) : ∃ s : Sl α, c = sl e l.length s ∧ SlOk s ∧ ∀ i, P (s.el i) := by
  cases h with
  | row h hn hl hf =>
    rename_i nl len get
    have hx : ∀ i, ∃ a : α, get i = e a ∧ P a := fun i => dec _ ⟨hl i, hf i⟩
    refine ⟨⟨nl, len, fun i => (hx i).choose⟩, ?_, ⟨h, hn⟩, fun i => (hx i).choose_spec.2⟩
    show V.row nl len l.length get = V.row nl len l.length fun i => e (hx i).choose
    congr 1
    funext i
    exact (hx i).choose_spec.1
theorem fitL_row {α : Type} {e : α → List V} {P : α → Prop} {l r : List Sh} (dec : ∀ cs, FitL l cs → ∃ a : α, cs = e a ∧ P a) {cs : List V} (h : FitL (.row l :: r) cs) : ∃ (s : Sl α) (cs' : List V), cs = sl e l.length s :: cs' ∧ SlOk s ∧ (∀ i, P (s.el i)) ∧ FitL r cs' := by
  obtain ⟨c, cs', rfl, h1, h2⟩ := fitL_cons h
  obtain ⟨s, rfl, h3, h4⟩ := fitRow dec h1
  exact ⟨s, cs', rfl, h3, h4, h2⟩
abbrev i8 : Sh := .int .i64
abbrev shSlc : List Sh := [i8, i8, i8, i8, i8, i8, i8]
abbrev shCav : List Sh := [.row shSlc, i8, i8]
abbrev shStg : List Sh := [i8, i8, i8, i8]
abbrev shTruth : List Sh := [.row [i8], .row [.row [i8]]]
theorem decInt (cs : List V) (h : FitL [i8] cs) : ∃ n : Int, cs = eInt n ∧ I64 n := by
  obtain ⟨c, cs', rfl, h1, h2⟩ := fitL_cons h
  obtain ⟨n, rfl, m1, m2⟩ := fitInt h1
  obtain rfl := fitL_nil h2
  refine ⟨n, rfl, ?_⟩
  exact ⟨m1, m2⟩
theorem decIL (cs : List V) (h : FitL [.row [i8]] cs) : ∃ s : Sl Int, cs = eIL s ∧ SlOk s := by
  obtain ⟨s, _, rfl, h1, _, h2⟩ := fitL_row decInt h
  obtain rfl := fitL_nil h2
  exact ⟨s, rfl, h1⟩
theorem decSlc (cs : List V) (h : FitL shSlc cs) : ∃ c : Slc, cs = eSlc c ∧ True := by
  obtain ⟨a0, _, rfl, h1⟩ := fitL_int h
  obtain ⟨a1, _, rfl, h2⟩ := fitL_int h1
  obtain ⟨a2, _, rfl, h3⟩ := fitL_int h2
  obtain ⟨a3, _, rfl, h4⟩ := fitL_int h3
  obtain ⟨a4, _, rfl, h5⟩ := fitL_int h4
  obtain ⟨a5, _, rfl, h6⟩ := fitL_int h5
  obtain ⟨a6, _, rfl, h7⟩ := fitL_int h6
  obtain rfl := fitL_nil h7
  exact ⟨⟨⟨a0, a1⟩, a2, a3, ⟨a4, a5⟩, a6⟩, rfl, trivial⟩
theorem decStg (cs : List V) (h : FitL shStg cs) : ∃ c : Stg, cs = eStg c ∧ True := by
  obtain ⟨a0, _, rfl, h1⟩ := fitL_int h
  obtain ⟨a1, _, rfl, h2⟩ := fitL_int h1
  obtain ⟨a2, _, rfl, h3⟩ := fitL_int h2
  obtain ⟨a3, _, rfl, h4⟩ := fitL_int h3
  obtain rfl := fitL_nil h4
  exact ⟨⟨a0, a1, a2, a3⟩, rfl, trivial⟩
theorem decCav (cs : List V) (h : FitL shCav cs) : ∃ c : Cav, cs = eCav c ∧ SlOk c.slices := by
  obtain ⟨a, _, rfl, h0, _, h1⟩ := fitL_row decSlc h
  obtain ⟨b, _, rfl, h2⟩ := fitL_int h1
  obtain ⟨d, _, rfl, h3⟩ := fitL_int h2
  obtain rfl := fitL_nil h3
  exact ⟨⟨a, b, d⟩, rfl, h0⟩
theorem decTruth (cs : List V) (h : FitL shTruth cs) : ∃ t : Truth, cs = eTruth t ∧ SlOk t.vols ∧ SlOk t.rates ∧ ∀ i, SlOk (t.rates.el i) := by
  obtain ⟨a, _, rfl, h0, _, h1⟩ := fitL_row decInt h
  obtain ⟨b, _, rfl, h2, h3, h4⟩ := fitL_row decIL h1
  obtain rfl := fitL_nil h4
  exact ⟨⟨a, b⟩, rfl, h0, h2, h3⟩
abbrev shGas : List Sh := [i8, i8, i8, i8, i8, i8, i8, i8, i8, i8, i8]
abbrev shGst : List Sh := [i8, i8, i8, i8, i8, i8, i8, i8]
abbrev shGpt : List Sh := [i8, i8, i8, i8]
theorem decGas (cs : List V) (h : FitL shGas cs) : ∃ c, cs = eGas c ∧ True := by
  obtain ⟨a0, _, rfl, h1⟩ := fitL_int h
  obtain ⟨a1, _, rfl, h2⟩ := fitL_int h1
  obtain ⟨a2, _, rfl, h3⟩ := fitL_int h2
  obtain ⟨a3, _, rfl, h4⟩ := fitL_int h3
  obtain ⟨a4, _, rfl, h5⟩ := fitL_int h4
  obtain ⟨a5, _, rfl, h6⟩ := fitL_int h5
  obtain ⟨a6, _, rfl, h7⟩ := fitL_int h6
  obtain ⟨a7, _, rfl, h8⟩ := fitL_int h7
  obtain ⟨a8, _, rfl, h9⟩ := fitL_int h8
  obtain ⟨a9, _, rfl, h10⟩ := fitL_int h9
  obtain ⟨a10, _, rfl, h11⟩ := fitL_int h10
  obtain rfl := fitL_nil h11
  exact ⟨⟨⟨a0, a1⟩, a2, a3, a4, a5, a6, a7, a8, ⟨a9, a10⟩⟩, rfl, trivial⟩
theorem decGst (cs : List V) (h : FitL shGst cs) : ∃ c, cs = eGst c ∧ True := by
  obtain ⟨a0, _, rfl, h1⟩ := fitL_int h
  obtain ⟨a1, _, rfl, h2⟩ := fitL_int h1
  obtain ⟨a2, _, rfl, h3⟩ := fitL_int h2
  obtain ⟨a3, _, rfl, h4⟩ := fitL_int h3
  obtain ⟨a4, _, rfl, h5⟩ := fitL_int h4
  obtain ⟨a5, _, rfl, h6⟩ := fitL_int h5
  obtain ⟨a6, _, rfl, h7⟩ := fitL_int h6
  obtain ⟨a7, _, rfl, h8⟩ := fitL_int h7
  obtain rfl := fitL_nil h8
  exact ⟨⟨⟨a0, a1⟩, ⟨a2, a3⟩, ⟨a4, a5⟩, ⟨a6, a7⟩⟩, rfl, trivial⟩
theorem decGpt (cs : List V) (h : FitL shGpt cs) : ∃ c, cs = eGpt c ∧ True := by
  obtain ⟨a0, _, rfl, h1⟩ := fitL_int h
  obtain ⟨a1, _, rfl, h2⟩ := fitL_int h1
  obtain ⟨a2, _, rfl, h3⟩ := fitL_int h2
  obtain ⟨a3, _, rfl, h4⟩ := fitL_int h3
  obtain rfl := fitL_nil h4
  exact ⟨⟨a0, a1, a2, a3⟩, rfl, trivial⟩
theorem decBool (cs : List V) (h : FitL [.bool] cs) : ∃ b : Bool, cs = [.bool b] ∧ True := by
  obtain ⟨c, cs', rfl, h1, h2⟩ := fitL_cons h
  obtain rfl := fitL_nil h2
  cases h1 with
  | bool => exact ⟨_, rfl, trivial⟩
theorem own : ownKnob Tryz.prog.godebug = none := by kernel_rfl
end Go.Sim.Le
