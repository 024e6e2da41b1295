import Derived.Test.YthbpagcfclddeaaGreatAg
import Derived.KernelRfl
set_option linter.unusedVariables false
set_option linter.unusedSimpArgs false
set_option linter.unusedSectionVars false

namespace Go.Sim.Pl
open Go.Sim.Le (cfg E E_pf E_hv names look)
open Go.Proofs
def okL (l : Sl Mach) (hs : Nat → Hour) : Nat → (Nat → Sta) → List Int → Prop
 | _, _, [] => True
 | t, st, a :: p => (faultS l st (wayS l.len a) (hs t)).1 = 1 ∧ okL l hs (t + 1) (nextS l st (wayS l.len a)) p
def enL (l : Sl Mach) (hs : Nat → Hour) : Nat → (Nat → Sta) → List Int → Int
 | _, _, [] => 0
 | t, st, a :: p => (hourE l (wayS l.len a) (hs t)).2 + startE l (wayS l.len a) st l.len + enL l hs (t + 1) (nextS l st (wayS l.len a)) p
def stL (l : Sl Mach) : (Nat → Sta) → List Int → Int
 | _, [] => 0
 | st, a :: p => startN (wayS l.len a) st l.len + stL l (nextS l st (wayS l.len a)) p
def lexL : List Int → List Int → Prop
 | a :: p, b :: q => a < b ∨ a = b ∧ lexL p q
 | _, _ => True
def Vld (l : Sl Mach) (h : Hour) (st : Nat → Sta) (rest : (Nat → Sta) → Bst) (a : Nat) : Prop := (faultS l st (wayS l.len a) h).1 = 1 ∧ (rest (nextS l st (wayS l.len a))).right = true
abbrev adB (l : Sl Mach) (h : Hour) (st : Nat → Sta) (rest : (Nat → Sta) → Bst) (a : Nat) : Bst := addB l h st (rest (nextS l st (wayS l.len a))) a
def Pick (l : Sl Mach) (h : Hour) (st : Nat → Sta) (rest : (Nat → Sta) → Bst) (m : Nat) (o : Bst) : Prop :=
 (o.right = false ∧ ∀ a, a < m → ¬ Vld l h st rest a) ∨ ∃ a, a < m ∧ Vld l h st rest a ∧ o = adB l h st rest a ∧ ∀ b, b < m → Vld l h st rest b → (adB l h st rest a).energy < (adB l h st rest b).energy ∨ (adB l h st rest a).energy = (adB l h st rest b).energy ∧ ((adB l h st rest a).starts < (adB l h st rest b).starts ∨ (adB l h st rest a).starts = (adB l h st rest b).starts ∧ a ≤ b)
theorem pick_step {l : Sl Mach} {h : Hour} {st : Nat → Sta} {rest : (Nat → Sta) → Bst} {m : Nat} {o : Bst} (ho : Pick l h st rest m o) : Pick l h st rest (m + 1) (stepB l h st rest o m) := by
 unfold stepB
 by_cases h1 : (faultS l st (wayS l.len m) h).1 = 1
 case neg =>
  rw [if_pos h1]
  have hn : ¬ Vld l h st rest m := fun hv => h1 hv.1
  rcases ho with ⟨h2, h3⟩ | ⟨a, h2, h3, h4, h5⟩
  ·refine .inl ⟨h2, fun b hb hv => ?_⟩
   rcases Nat.lt_or_eq_of_le (Nat.le_of_lt_succ hb) with h6 | h6
   ·exact h3 b h6 hv
   ·subst h6; exact hn hv
  ·refine .inr ⟨a, by omega, h3, h4, fun b hb hv => ?_⟩
   rcases Nat.lt_or_eq_of_le (Nat.le_of_lt_succ hb) with h6 | h6
   ·exact h5 b h6 hv
   ·subst h6; exact absurd hv hn
 rw [if_neg (fun hh => hh h1)]
 by_cases h2 : (rest (nextS l st (wayS l.len m))).right = false
 ·rw [if_pos h2]
  have hn : ¬ Vld l h st rest m := fun hv => by rw [hv.2] at h2; exact absurd h2 (by decide)
  rcases ho with ⟨h3, h4⟩ | ⟨a, h3, h4, h5, h6⟩
  ·refine .inl ⟨h3, fun b hb hv => ?_⟩
   rcases Nat.lt_or_eq_of_le (Nat.le_of_lt_succ hb) with h7 | h7
   ·exact h4 b h7 hv
   ·subst h7; exact hn hv
  ·refine .inr ⟨a, by omega, h4, h5, fun b hb hv => ?_⟩
   rcases Nat.lt_or_eq_of_le (Nat.le_of_lt_succ hb) with h7 | h7
   ·exact h6 b h7 hv
   ·subst h7; exact absurd hv hn
 rw [if_neg h2]
 have hv : Vld l h st rest m := ⟨h1, by simpa using h2⟩
 unfold takeB
 by_cases hc : o.right = false ∨ (adB l h st rest m).energy < o.energy ∨ (adB l h st rest m).energy = o.energy ∧ (adB l h st rest m).starts < o.starts
 ·rw [if_pos hc]
  refine .inr ⟨m, by omega, hv, rfl, fun b hb hvb => ?_⟩
  rcases Nat.lt_or_eq_of_le (Nat.le_of_lt_succ hb) with h7 | h7
  ·rcases ho with ⟨h3, h4⟩ | ⟨a, h3, h4, h5, h6⟩
   ·exact absurd hvb (h4 b h7)
   ·have h8 := h6 b h7 hvb
    rw [h5] at hc
    rcases hc with hc | hc
    ·exact absurd hc (by simp [adB, addB])
    ·omega
  ·subst h7; exact .inr ⟨rfl, .inr ⟨rfl, Nat.le_refl _⟩⟩
 ·rw [if_neg hc]
  rcases ho with ⟨h3, h4⟩ | ⟨a, h3, h4, h5, h6⟩
  ·exact absurd (.inl h3) hc
  ·refine .inr ⟨a, by omega, h4, h5, fun b hb hvb => ?_⟩
   rcases Nat.lt_or_eq_of_le (Nat.le_of_lt_succ hb) with h7 | h7
   ·exact h6 b h7 hvb
   ·subst h7
    rw [h5] at hc
    have h8 : ¬ ((adB l h st rest b).energy < (adB l h st rest a).energy ∨ (adB l h st rest b).energy = (adB l h st rest a).energy ∧ (adB l h st rest b).starts < (adB l h st rest a).starts) := fun hh => hc (.inr hh)
    omega
theorem pick_ways {l : Sl Mach} {h : Hour} {st : Nat → Sta} {rest : (Nat → Sta) → Bst} : ∀ (k m : Nat) (o : Bst), Pick l h st rest m o → Pick l h st rest (m + k) (waysB l h st rest k m o)
 | 0, _, _, ho => ho
 | k + 1, m, o, ho => by
  have e := pick_ways k (m + 1) _ (pick_step ho)
  rw [show m + (k + 1) = m + 1 + k by omega]
  exact e
theorem pick_bst {l : Sl Mach} (hs : Nat → Hour) (j t : Nat) (st : Nat → Sta) : Pick l (hs t) st (bst l hs j (t + 1)) (3 ^ l.len) (bst l hs (j + 1) t st) := by
 have e := pick_ways (l := l) (h := hs t) (st := st) (rest := bst l hs j (t + 1)) (3 ^ l.len) 0 bNo (.inl ⟨rfl, fun a ha => by omega⟩)
 rw [Nat.zero_add] at e
 exact e
theorem planW_len (l : Sl Mach) (hs : Nat → Hour) : ∀ (j t : Nat) (st : Nat → Sta), (planW l hs j t st).length = j
 | 0, _, _ => rfl
 | j + 1, t, st => by simp only [planW, List.length_cons, planW_len l hs j]
theorem planW_cons {l : Sl Mach} {hs : Nat → Hour} {j t : Nat} {st : Nat → Sta} {a : Nat} (e : bst l hs (j + 1) t st = adB l (hs t) st (bst l hs j (t + 1)) a) : planW l hs (j + 1) t st = (a : Int) :: planW l hs j (t + 1) (nextS l st (wayS l.len a)) := by
 have ew : (bst l hs (j + 1) t st).way = some (a : Int) := by rw [e]; rfl
 simp only [planW, ew, Option.getD]
theorem bst_att (l : Sl Mach) (hs : Nat → Hour) : ∀ (j t : Nat) (st : Nat → Sta), (bst l hs j t st).right = true → okL l hs t st (planW l hs j t st) ∧ enL l hs t st (planW l hs j t st) = (bst l hs j t st).energy ∧ stL l st (planW l hs j t st) = (bst l hs j t st).starts ∧ ∀ a ∈ planW l hs j t st, 0 ≤ a ∧ a < ((3 ^ l.len : Nat) : Int)
 | 0, _, _, _ => ⟨trivial, rfl, rfl, by simp [planW]⟩
 | j + 1, t, st, h => by
  rcases pick_bst (l := l) hs j t st with ⟨h1, _⟩ | ⟨a, h1, h2, h3, _⟩
  ·rw [h1] at h; exact absurd h (by decide)
  ·obtain ⟨i1, i2, i3, i4⟩ := bst_att l hs j (t + 1) _ h2.2
   rw [planW_cons h3, h3]
   refine ⟨⟨h2.1, i1⟩, ?_, ?_, ?_⟩
   ·show _ + enL l hs (t + 1) _ _ = _ + _
    rw [i2]
   ·show _ + stL l _ _ = _ + _
    rw [i3]
   ·intro b hb
    rcases List.mem_cons.1 hb with h5 | h5
    ·omega
    ·exact i4 b h5
def numF (w : Nat → Int) : Nat → Int
 | 0 => 0
 | i + 1 => 3 * numF w i + w i
abbrev WEq (n : Nat) (w w' : Sl Int) : Prop := w.len = n ∧ w'.len = n ∧ ∀ i, i < n → w.el i = w'.el i
theorem digG_in : ∀ (n : Nat) (a : Int) (g : Nat → Int) i, 0 ≤ a → i < n → 0 ≤ digG n a g i ∧ digG n a g i ≤ 2
 | 0, _, _, i, _, h => by omega
 | n + 1, a, g, i, ha, h => by
  simp only [digG]
  have e1 : a.tdiv 3 = a / 3 := Int.tdiv_eq_ediv_of_nonneg ha
  have e2 : a.tmod 3 = a % 3 := Int.tmod_eq_emod_of_nonneg ha
  by_cases h1 : i < n
  ·exact digG_in n _ _ i (by rw [e1]; omega) h1
  ·have h2 : i = n := by omega
   subst h2
   have : ∀ (m : Nat) (b : Int) (g : Nat → Int) k, m ≤ k → digG m b g k = g k := by
    intro m
    induction m with
    | zero => intro b g k _; rfl
    | succ m ih =>
     intro b g k hk
     simp only [digG]
     rw [ih _ _ k (by omega), if_neg (by omega)]
   rw [this i _ _ i (Nat.le_refl _), if_pos rfl, e2]
   omega
theorem way_does (n : Nat) {a : Int} (ha : 0 ≤ a) : DoesOk n (wayS n a) := ⟨rfl, fun i hi => digG_in n a _ i ha hi⟩
section
variable {l : Sl Mach} {w w' : Sl Int} (h : WEq l.len w w')
include h
theorem runs_weq : runsS w = runsS w' := by
 unfold runsS
 rw [h.1, h.2.1]
 exact rowT_congr fun j hj => by rw [h.2.2 j hj]
theorem busy_weq : ∀ i, i ≤ l.len → busyB w.el i = busyB w'.el i
 | 0, _ => rfl
 | i + 1, hi => by simp only [busyB, busy_weq i (by omega), h.2.2 i (by omega)]
theorem fault_weq {st st' : Nat → Sta} (e : ∀ i, i < l.len → st i = st' i) (ho : Hour) : faultS l st w ho = faultS l st' w' ho := by
 rw [faultS_congr e]
 unfold faultS
 rw [firstP_congr (p := fun i => upB (l.el i) (st' i) (w.el i)) (q := fun i => upB (l.el i) (st' i) (w'.el i)) l.len 0 (fun k _ h2 => by rw [h.2.2 k (by omega)])]
 rw [firstP_congr (p := fun i => downB (l.el i) (st' i) (w.el i)) (q := fun i => downB (l.el i) (st' i) (w'.el i)) l.len 0 (fun k _ h2 => by rw [h.2.2 k (by omega)])]
 rw [firstP_congr (p := fun i => cutB (l.el i) (st' i) (w.el i)) (q := fun i => cutB (l.el i) (st' i) (w'.el i)) l.len 0 (fun k _ h2 => by rw [h.2.2 k (by omega)])]
 rw [firstP_congr (p := crewB w.el) (q := crewB w'.el) l.len 0 (fun k _ h2 => by unfold crewB; rw [busy_weq h k (by omega), h.2.2 k (by omega)])]
 rw [firstP_congr (p := fun i => wornB (l.el i) (st' i) (w.el i)) (q := fun i => wornB (l.el i) (st' i) (w'.el i)) l.len 0 (fun k _ h2 => by rw [h.2.2 k (by omega)])]
 rw [runs_weq h]
theorem hourE_weq (ho : Hour) : hourE l w ho = hourE l w' ho := by
 unfold hourE
 rw [runs_weq h]
theorem start_weq {st st' : Nat → Sta} (e : ∀ i, i < l.len → st i = st' i) : startE l w st l.len = startE l w' st' l.len ∧ startN w st l.len = startN w' st' l.len := by
 have e1 := start_congr (l := l) (w := w) l.len e
 rw [e1.1, e1.2]
 have hb : ∀ i, startB w st' i = startB w' st' i := fun i => by unfold startB; rw [runs_weq h]
 have : ∀ n, startE l w st' n = startE l w' st' n ∧ startN w st' n = startN w' st' n := by
  intro n
  induction n with
  | zero => exact ⟨rfl, rfl⟩
  | succ n ih => simp only [startE, startN, hb, ih.1, ih.2]; exact ⟨trivial, trivial⟩
 exact this _
end
theorem play_L {l : Sl Mach} {hs : Nat → Hour} {sc : Nat → Sl Int} : ∀ (p : List Int) (t : Nat) (st : Nat → Sta) (lo hi n : Int), (∀ i, i < l.len → stAt l sc t i = st i) → (∀ k (hk : k < p.length), WEq l.len (sc (t + k)) (wayS l.len p[k])) →
  ((playR l hs sc p.length t lo hi n).rule = 1 ↔ okL l hs t st p) ∧ (okL l hs t st p → (playR l hs sc p.length t lo hi n).hi = hi + enL l hs t st p ∧ (playR l hs sc p.length t lo hi n).many = n + stL l st p)
 | [], t, st, lo, hi, n, _, _ => by simp [playR, okL, enL, stL]
 | a :: p, t, st, lo, hi, n, e, hw => by
  have hw0 : WEq l.len (sc t) (wayS l.len a) := hw 0 (by simp)
  have e' : ∀ i, i < l.len → stAt l sc (t + 1) i = nextS l st (wayS l.len a) i := fun i hi => by
   show afterS (stAt l sc t i) (l.el i) ((sc t).el i) = afterS (st i) (l.el i) ((wayS l.len a).el i)
   rw [e i hi, hw0.2.2 i hi]
  have ih := play_L (l := l) (hs := hs) (sc := sc) p (t + 1) (nextS l st (wayS l.len a)) (lo + ((hourE l (sc t) (hs t)).1 + startE l (sc t) (stAt l sc t) l.len)) (hi + ((hourE l (sc t) (hs t)).2 + startE l (sc t) (stAt l sc t) l.len)) (n + startN (sc t) (stAt l sc t) l.len) e' (fun k hk => by
   have := hw (k + 1) (by simp; omega)
   rw [show t + 1 + k = t + (k + 1) by omega]
   exact this)
  rw [List.length_cons]
  simp only [playR]
  rw [fault_weq hw0 e (hs t)]
  by_cases h1 : (faultS l st (wayS l.len a) (hs t)).1 = 1
  ·rw [if_neg (fun hh => hh h1)]
   refine ⟨⟨fun h => ⟨h1, ih.1.1 h⟩, fun h => ih.1.2 h.2⟩, fun h => ?_⟩
   obtain ⟨i1, i2⟩ := ih.2 h.2
   rw [i1, i2, hourE_weq hw0, (start_weq hw0 e).1, (start_weq hw0 e).2]
   simp only [enL, stL]
   omega
  ·rw [if_pos h1]
   exact ⟨⟨fun h => absurd h h1, fun h => absurd h.1 h1⟩, fun h => absurd h.1 h1⟩
def codes (n : Nat) (sc : Nat → Sl Int) (h : Nat) : List Int := (List.range h).map fun t => numF (sc t).el n
section
variable {l : Sl Mach} {hs : Sl Hour} {sc : Sl (Sl Int)}
def planQ (l : Sl Mach) (hs : Sl Hour) : Sl (Sl Int) := ⟨false, hs.len, fun j => wayS l.len ((planS l hs).getD j ((planS l hs).getLastD 0))⟩
theorem planS_len : (planS l hs).length = hs.len := planW_len _ _ _ _ _
theorem planS_at {k : Nat} (hk : k < (planS l hs).length) : (planS l hs).getD k ((planS l hs).getLastD 0) = (planS l hs)[k] := by
 rw [List.getD_eq_getElem?_getD, List.getElem?_eq_getElem hk]; rfl
theorem planQ_ok (hr : (bestS l hs).right = true) : SchedOk l hs.len (planQ l hs) := by
 refine ⟨fun k hk => ?_, rfl⟩
 have hk : k < (planS l hs).length := by rw [planS_len]; exact hk
 have := (bst_att l hs.el hs.len 0 (beginF l) hr).2.2.2 _ (List.getElem_mem hk)
 show DoesOk l.len (wayS l.len ((planS l hs).getD k ((planS l hs).getLastD 0)))
 rw [planS_at hk]
 exact way_does _ this.1
theorem planQ_play (hr : (bestS l hs).right = true) : (playS l hs (planQ l hs)).rule = 1 ∧ (playS l hs (planQ l hs)).hi = (bestS l hs).energy ∧ (playS l hs (planQ l hs)).many = (bestS l hs).starts := by
 obtain ⟨h1, h2, h3, _⟩ := bst_att l hs.el hs.len 0 (beginF l) hr
 have e := play_L (l := l) (hs := hs.el) (sc := (planQ l hs).el) (planS l hs) 0 (beginF l) 0 0 0 (fun i _ => rfl) (fun k hk => by
  rw [Nat.zero_add]
  refine ⟨rfl, rfl, fun i hi => ?_⟩
  show (wayS l.len ((planS l hs).getD k ((planS l hs).getLastD 0))).el i = _
  rw [planS_at hk])
 rw [planS_len] at e
 simp only [Int.zero_add] at e
 obtain ⟨e1, e2⟩ := e
 refine ⟨e1.2 h1, ?_, ?_⟩
 ·exact (e2 h1).1.trans h2
 ·exact (e2 h1).2.trans h3
end
end Go.Sim.Pl


namespace Go.Sim.Pl
open Go.Sim.Le (cfg E E_pf E_hv names look)
open Go.Proofs
def lessW (a b : Nat → Int) : Nat → Nat → Option Bool
 | 0, _ => none
 | j + 1, i => if a i ≠ b i then some (decide (a i < b i)) else lessW a b j (i + 1)
def lessS (a b : Nat → Sl Int) (m : Nat) : Nat → Nat → Bool
 | 0, _ => false
 | j + 1, t => match lessW (a t).el (b t).el m 0 with
  | some v => v
  | none => lessS a b m j (t + 1)
variable (F d : Nat)
section
variable {a b : Sl (Sl Int)} {m : Nat} (hm : m ≤ 1000) (hab : a.len = b.len) (hn : a.len ≤ 1000) (ha : ∀ t, t < a.len → (a.el t).len = m) (hb : ∀ t, t < a.len → (b.el t).len = m) (hF : 2000 < F)
include hm hab hn ha hb hF
end
theorem cnt_small {l : Sl Mach} {hs : Sl Hour} (h1 : l.len ≤ 3) (h2 : hs.len ≤ 5) : 30 * cntS (3 ^ l.len) hs.len < 1000000000000 := by
 have a : l.len = 0 ∨ l.len = 1 ∨ l.len = 2 ∨ l.len = 3 := by omega
 have b : hs.len = 0 ∨ hs.len = 1 ∨ hs.len = 2 ∨ hs.len = 3 ∨ hs.len = 4 ∨ hs.len = 5 := by omega
 rcases a with a | a | a | a <;> rcases b with b | b | b | b | b | b <;> rw [a, b] <;> decide
section
variable {l : Sl Mach} (hl : PlantOk l) {hs : Sl Hour} (hh : HoursOk hs) (h24 : hs.len ≤ 24) (hF : 140737488355330 < F) (hr : (bestS l hs).right = true)
include hl hh h24 hF hr
theorem out_44 : (E F (d + 1)).pf 15 [sl eMach 10 l, .int .i64 hs.len, outR l hs] = some (.ret (.bool true)) := by
 have hl2 := hl.2
 unfold outR
 by_cases h0 : hs.len = 0
 ·rw [if_pos h0]
  obtain ⟨G, rfl⟩ : ∃ k, F = k + 1 := ⟨F - 1, by omega⟩
  rw [E_pf, t440, L440x0s, h0]
  rfl
 ·rw [if_neg h0]
  have hq := planQ_ok hr
  have hS : SchB (planQ l hs) F := ⟨⟨by show hs.len < 4611686018427387904; omega, show hs.len < F by omega⟩, fun i hi => ⟨by show l.len < 4611686018427387904; omega, show l.len < F by omega⟩⟩
  have e := s44 F d l hs.len (planQ l hs) (by show l.len < 4611686018427387904; omega) (by omega) hS
  rw [decide_eq_true hq] at e
  exact e
end
end Go.Sim.Pl


namespace Go.Sim.Pl
open Go.Sim.Le (cfg E E_pf E_hv names look)
open Go.Proofs
theorem play_fine {l : Sl Mach} {hs : Nat → Hour} {sc : Nat → Sl Int} : ∀ (j t : Nat) (lo hi n : Int), (playR l hs sc j t lo hi n).rule = 1 → ∀ k, t ≤ k → k < t + j → (faultS l (stAt l sc k) (sc k) (hs k)).1 = 1 := by
 intro j
 induction j with
 | zero => intro t lo hi n _ k h1 h2; omega
 | succ j ih =>
  intro t lo hi n h k h1 h2
  simp only [playR] at h
  by_cases hr : (faultS l (stAt l sc t) (sc t) (hs t)).1 = 1
  ·rw [if_neg (fun hh => hh hr)] at h
   rcases Nat.eq_or_lt_of_le h1 with h3 | h3
   ·subst h3; exact hr
   ·exact ih (t + 1) _ _ _ h k (by omega) (by omega)
  ·rw [if_pos hr] at h
   exact absurd h hr
theorem playS_fine {l : Sl Mach} {hs : Sl Hour} {sc : Sl (Sl Int)} (h : (playS l hs sc).rule = 1) {k : Nat} (hk : k < hs.len) : (faultS l (stAt l sc.el k) (sc.el k) (hs.el k)).1 = 1 :=
 play_fine hs.len 0 0 0 0 h k (by omega) (by omega)
variable (F d : Nat)
section
variable {l : Sl Mach} (hl : PlantOk l) {hs : Sl Hour} (hh : HoursOk hs) (h24 : hs.len ≤ 24) {sc : Sl (Sl Int)} (hsc : SchedOk l hs.len sc) (hF : 2000 < F) (hfine : ∀ k, k < hs.len → (faultS l (stAt l sc.el k) (sc.el k) (hs.el k)).1 = 1)
include hl hh h24 hsc hF hfine
end
end Go.Sim.Pl


namespace Go.Sim.Pl
open Go.Sim.Le (cfg E E_pf E_hv names look)
open Go.Proofs
theorem foldl_same {α β : Type} {f g : β → α → β} : ∀ (L : List α) (s : β), (∀ z ∈ L, ∀ s, f s z = g s z) → L.foldl f s = L.foldl g s
 | [], _, _ => rfl
 | z :: L, s, h => by
  simp only [List.foldl_cons]
  rw [h z (by simp) s]
  exact foldl_same L _ fun y hy => h y (by simp [hy])
section
variable {l : Sl Mach} {r : Nat → Bool} {f x y : Int} (h : ∀ i, i < l.len → rowAt (l.el i) x = rowAt (l.el i) y)
include h
theorem mineE_same (k : Int) : mineE l r x k = mineE l r y k := by
 refine ord_uniq (keyE l x) _ _ (mineE_ord l r x k) ?_ fun z => by rw [mineE_mem, mineE_mem]
 refine (mineE_ord l r y k).imp_of_mem fun {a b} ha hb hab => ?_
 have ka : keyE l x a = keyE l y a := by unfold keyE; rw [h a (mineE_mem.1 ha).1]
 have kb : keyE l x b = keyE l y b := by unfold keyE; rw [h b (mineE_mem.1 hb).1]
 unfold Bef at hab ⊢
 rw [ka, kb]
 exact hab
theorem kindF_same (s : Shr) (k : Int) : kindF l r f x s k = kindF l r f y s k := by
 unfold kindF
 rw [mineE_same h k, foldl_same (f := leastF l x) (g := leastF l y) (mine l r k) _ (fun z hz s => by unfold leastF; rw [h z (mine_mem.1 hz).1])]
 exact foldl_same _ _ (fun z hz s => by unfold moreF; rw [h z (mineE_mem.1 hz).1])
theorem shareS_same : shareS l r f x = shareS l r f y := by
 unfold shareS
 simp only [shK, kindF_same h]
theorem enS_same : enS l r f x = enS l r f y := by
 unfold enS
 rw [shareS_same h]
end
theorem costF_lo (e : Int → Int) : ∀ (xs : List Int) (p : Int × Int), (costF e p xs).1 ≤ p.1 ∧ (∀ x ∈ xs, (costF e p xs).1 ≤ e x) ∧ ((costF e p xs).1 = p.1 ∨ ∃ x ∈ xs, (costF e p xs).1 = e x)
 | [], p => ⟨Int.le_refl _, by simp, .inl rfl⟩
 | x :: xs, p => by
  obtain ⟨h1, h2, h3⟩ := costF_lo e xs (min p.1 (e x), max p.2 (e x))
  have e0 : costF e p (x :: xs) = costF e (min p.1 (e x), max p.2 (e x)) xs := rfl
  rw [e0]
  refine ⟨by omega, fun z hz => ?_, ?_⟩
  ·rcases List.mem_cons.1 hz with h4 | h4
   ·subst h4; omega
   ·exact h2 z h4
  ·rcases h3 with h3 | ⟨z, hz, h3⟩
   ·by_cases h4 : p.1 ≤ e x
    ·exact .inl (by omega)
    ·exact .inr ⟨x, by simp, by omega⟩
   ·exact .inr ⟨z, by simp [hz], h3⟩
theorem costF_hi (e : Int → Int) : ∀ (xs : List Int) (p : Int × Int), p.2 ≤ (costF e p xs).2 ∧ (∀ x ∈ xs, e x ≤ (costF e p xs).2) ∧ ((costF e p xs).2 = p.2 ∨ ∃ x ∈ xs, (costF e p xs).2 = e x)
 | [], p => ⟨Int.le_refl _, by simp, .inl rfl⟩
 | x :: xs, p => by
  obtain ⟨h1, h2, h3⟩ := costF_hi e xs (min p.1 (e x), max p.2 (e x))
  have e0 : costF e p (x :: xs) = costF e (min p.1 (e x), max p.2 (e x)) xs := rfl
  rw [e0]
  refine ⟨by omega, fun z hz => ?_, ?_⟩
  ·rcases List.mem_cons.1 hz with h4 | h4
   ·subst h4; omega
   ·exact h2 z h4
  ·rcases h3 with h3 | ⟨z, hz, h3⟩
   ·by_cases h4 : e x ≤ p.2
    ·exact .inl (by omega)
    ·exact .inr ⟨x, by simp, by omega⟩
   ·exact .inr ⟨z, by simp [hz], h3⟩
theorem hourE_at {l : Sl Mach} {w : Sl Int} {h : Hour} {x : Int} (hx : h.ratio.lo ≤ x ∧ x ≤ h.ratio.hi) : (hourE l w h).1 ≤ enS l (runsS w).el h.flow x ∧ enS l (runsS w).el h.flow x ≤ (hourE l w h).2 := by
 obtain ⟨y, hy, he⟩ := rat_cover (l := l) hx
 rw [enS_same he]
 unfold hourE
 unfold ratL at hy
 rcases List.mem_cons.1 hy with h4 | h4
 ·rw [h4]; exact ⟨(costF_lo _ _ _).1, (costF_hi _ _ _).1⟩
 ·exact ⟨(costF_lo _ _ _).2.1 y h4, (costF_hi _ _ _).2.1 y h4⟩
def upL (lo : Int) (k : Nat) : List Int := (List.range k).map fun i : Nat => lo + 1 + (i : Int)
def allE (e : Int → Int) (lo : Int) (k : Nat) : Int × Int := costF e (e lo, e lo) (upL lo k)
variable (F d : Nat)
end Go.Sim.Pl


namespace Go.Sim.Pl
open Go.Sim.Le (cfg E E_pf E_hv names look)
open Go.Proofs
def xH (hs : Sl Hour) (w : Sl Int) (t : Nat) : Hour := ⟨(hs.el t).flow, ⟨w.el t, w.el t⟩⟩
def hour0 : Hour := ⟨0, ⟨0, 0⟩⟩
def exact (hs : Sl Hour) (w : Sl Int) : Sl Hour := ⟨false, hs.len, fun j => (tabL (xH hs w) hs.len).getD j ((tabL (xH hs w) hs.len).getLastD hour0)⟩
variable (F d : Nat)
section
variable {l : Sl Mach} (hl : PlantOk l) {hs : Sl Hour} (hh : HoursOk hs) (h24 : hs.len ≤ 24) {sc : Sl (Sl Int)} (hsc : SchedOk l hs.len sc) (hF : 140737488355330 < F) (hfine : ∀ k, k < hs.len → (faultS l (stAt l sc.el k) (sc.el k) (hs.el k)).1 = 1) (w : Sl Int) (hwl : w.len = hs.len)
include hl hh h24 hsc hfine
include hF hwl in
end
end Go.Sim.Pl


namespace Go.Sim.Pl
open Go.Sim.Le (cfg E E_pf E_hv)
open Go.Proofs
variable (F d : Nat)
abbrev nilS : V := .row true 0 0 (fun _ => [])
theorem s9112 (hF : 0 < F) : (E F (d + 1)).pf 12 [nilS] = some (.ret (.bool true)) := by
 obtain ⟨k, rfl⟩ : ∃ k, F = k + 1 := ⟨F - 1, by omega⟩
 rw [E_pf, t9112, L9112x0s]
theorem s9115 (hF : 0 < F) (l : Sl Mach) : (E F (d + 1)).pf 15 [sl eMach 10 l, .int .i64 ((0 : Nat) : Int), nilS] = some (.ret (.bool true)) := by
 obtain ⟨k, rfl⟩ : ∃ k, F = k + 1 := ⟨F - 1, by omega⟩
 rw [E_pf, t9115, L9115x0s, beq_self_eq_true]
theorem s9117 (hF : 0 < F) : (E F (d + 1)).pf 68 [nilS, .fn (.func 69) [] []] = some (.ret (.bool true)) := by
 obtain ⟨k, rfl⟩ : ∃ k, F = k + 1 := ⟨F - 1, by omega⟩
 rw [E_pf, t9117, L9117x0s]
theorem s9116 (l : Sl Mach) (hF : 1000 < F) (hl : PlantOk l) (hR : RowsB l F) : (E F (d + 8)).pf 39 [sl eMach 10 l, nilS] = some (.ret (.int .i64 0)) := by
 have q := s80 F d l (by have := hl.2; show l.len < 4611686018427387904; omega) (by have := hl.2; omega) hR
 rw [decide_eq_true hl] at q
 rw [E_pf, t9116]
 simp only [q, s9117 F (d + 6) (by omega), tkOut_ret, tkBool_b, Bool.not_true, pF]
section
variable {l : Sl Mach} (hl : PlantOk l) (hF : 1000 < F) (hR : RowsB l F)
include hl hF
theorem l9114x0 : ∀ (j i fu : Nat) (w : Int), i + j = l.len → j < fu → L9114x0 (E F (d + 40)) F l fu i w = some (.ret (.tup [nilS, .int .i64 0, .int .i64 0])) := by
 have hl2 := hl.2
 intro j
 induction j with
 | zero =>
  intro i fu w h hf
  obtain ⟨fu, rfl⟩ : ∃ k, fu = k + 1 := ⟨fu - 1, by omega⟩
  have q76 := s76 F (d + 38) l (by omega) hF (by omega)
  have q40 : ∀ b k wd gs, (E F (d + 40)).hv 40 [.int .i64 0, .row b k wd gs, .optr 0 0 0, .optr 1 0 0, .optr 2 0 0, .optr 3 0 0, .optr 4 0 0] _ = _ := fun b k wd gs => (E_hv F (d + 39) 40 _ _).trans (t9140 (E F (d + 39)) F b k wd gs (fun _ => []) l.nl l.len 10 (fun i => eMach (l.el i)) w)
  rw [L9114x0s, decide_eq_false (by omega), pF]
  simp only [q76, tkOut_ret, tkRow_r]
  simp only [q40, tkHv_h, tkAgg_a, tkCons_c, tkInt_i, tkRow_r, tkBool_b, tkNil_n, tkSCons_c, tkBox_b, Nat.beq_refl, beq_self_eq_true, Bool.and_self, pT, samM5, samF, tkMp_m, show ksEq [KS.int .i64, KS.bool, KS.int .i64, KS.int .i64, KS.int .i64, KS.bool, KS.bool, KS.int .i64, KS.int .i64, KS.int .i64, KS.bool, KS.bool, KS.int .i64, KS.int .i64, KS.int .i64, KS.bool, KS.bool, KS.int .i64, KS.int .i64, KS.int .i64, KS.bool, KS.bool, KS.int .i64, KS.int .i64, KS.int .i64, KS.bool, KS.bool, KS.int .i64, KS.int .i64, KS.int .i64, KS.bool] [KS.int .i64, KS.bool, KS.int .i64, KS.int .i64, KS.int .i64, KS.bool, KS.bool, KS.int .i64, KS.int .i64, KS.int .i64, KS.bool, KS.bool, KS.int .i64, KS.int .i64, KS.int .i64, KS.bool, KS.bool, KS.int .i64, KS.int .i64, KS.int .i64, KS.bool, KS.bool, KS.int .i64, KS.int .i64, KS.int .i64, KS.bool, KS.bool, KS.int .i64, KS.int .i64, KS.int .i64, KS.bool] = true from ksS, tkSNil_n, Bool.not_true, pF]
  obtain ⟨G, hG⟩ : ∃ k, F = k + 1 := ⟨F - 1, by omega⟩
  have e : ∀ b0 k1 k2 g3 b5 k6 k7 g8 b9 k10 k11 g12 b17 k18 k19 g20 b21 q22 i23 e24, L9114x1 (E F (d + 40)) F l (G + 1) b0 k1 k2 g3 ((0 : Nat) : Int) b5 k6 k7 g8 b9 k10 k11 g12 .i64 0 .i64 0 b17 k18 k19 g20 b21 q22 i23 e24 = some (.ret (.tup [nilS, .int .i64 0, .int .i64 0])) := by
   intros
   rw [L9114x1s, decide_eq_false (by omega), pF]
  rw [← hG] at e
  exact e _ _ _ _ _ _ _ _ _ _ _ _ _ _ _ _ _ _ _ _
 | succ j ih =>
  intro i fu w h hf
  obtain ⟨fu, rfl⟩ : ∃ k, fu = k + 1 := ⟨fu - 1, by omega⟩
  have hS' : IntKind.i64.wrap ((i : Int) + 1) = ((i + 1 : Nat) : Int) := wrS (by omega)
  rw [L9114x0s, decide_eq_true (by omega), pT, hS']
  exact ih (i + 1) fu _ (by omega) (by omega)
include hR
theorem s9114 : (E F (d + 41)).pf 14 [sl eMach 10 l, nilS] = some (.ret (.tup [nilS, .int .i64 0, .int .i64 0])) := by
 have q := s9116 F (d + 32) l hF hl hR
 rw [E_pf, t9114]
 simp only [q, tkOut_ret, tkInt_i, decide_true, pT, show ((0 : Int) != 0) = false from rfl, pF]
 exact l9114x0 F d hl hF l.len 0 F 1 (by omega) (by have := hl.2; omega)
end
end Go.Sim.Pl


namespace Go.Sim.Pl
open Go.Sim.Le (cfg E E_pf E_hv)
open Go.Proofs
variable (F d : Nat)
theorem stE_in {l : Sl Mach} (hl : PlantOk l) (w : Sl Int) (st : Nat → Sta) : ∀ i, i ≤ l.len → 0 ≤ startE l w st i ∧ startE l w st i ≤ 1000000000 * i
 | 0, _ => by simp [startE]
 | i + 1, hi => by
  have ih := stE_in hl w st i (by omega)
  have := (hl.1 i (by omega)).2.2.2.1
  simp only [startE]
  split <;> omega
def enX (l : Sl Mach) (hs : Nat → Hour) (sc : Nat → Sl Int) (x : Int) : Nat → Int
 | 0 => 0
 | t + 1 => enX l hs sc x t + enS l (runsS (sc t)).el (hs t).flow x + startE l (sc t) (stAt l sc t) l.len
theorem enX_in {l : Sl Mach} (hl : PlantOk l) {hs : Nat → Hour} {sc : Nat → Sl Int} {x : Int} {n : Nat} (hh : ∀ t, t < n → HourOk (hs t) ∧ (hs t).ratio.lo ≤ x ∧ x ≤ (hs t).ratio.hi) : ∀ t, t ≤ n → (0 ≤ enX l hs sc x t ∧ enX l hs sc x t ≤ 24000000000 * t) ∧ enX l hs sc x t ≤ sumE l sc t + sumHi l hs sc t
 | 0, _ => by simp [enX, sumE, sumHi]
 | t + 1, ht => by
  have ih := enX_in (sc := sc) hl hh t (by omega)
  have h1 := stE_in hl (sc t) (stAt l sc t) l.len (Nat.le_refl _)
  have h2 := enS_in hl (by omega) (r := (runsS (sc t)).el) (f := (hs t).flow) (x := x) (hh t (by omega)).1.1
  have h3 := (hourE_at (l := l) (w := sc t) (h := hs t) (x := x) (hh t (by omega)).2).2
  have hl2 := hl.2
  simp only [enX, sumE, sumHi]
  omega
theorem runs_at (w : Sl Int) {i : Nat} (h : i < w.len) : (runsS w).el i = (w.el i == 1) := tabL_get _ h _
section
variable (g : Gs.Gas) (s : Gs.Gst) (p : Gs.Gpt) (vo net : Int) {l : Sl Mach} (fw : Sl Int) (hl : PlantOk l) 
include hl
theorem l9003x9 (env : Env) {w : Sl Int} {st : Nat → Sta} (hw : w.len = l.len) (b10 : Bool) (g13 : Nat → List V) (hp : ∀ i, i < l.len → g13 i = [.bool (st i).runs]) (m k0 : Nat) (rx : Int) (b3 : Bool) (k4 k5 : Nat) (g6 : Nat → List V) (q7 : IntKind) (i8 e : Int) (he : 0 ≤ e ∧ e ≤ 1000000000000) (t : Int) (k20 : Nat) (g21 : Nat → List V) (R : Option Out)
  (K : L9003x8 env F g s p vo net l fw m k0 .i64 rx b3 k4 k5 g6 q7 i8 (e + startE l w st l.len) (runsS w).nl l.len 1 (fun j => eBool ((runsS w).el j)) (IntKind.wrap .i64 (t + 1)) k20 g21 = R) : ∀ (j i fu : Nat), i + j = l.len → j < fu →
  L9003x9 env F g s p vo net l fw m fu k0 .i64 rx b3 k4 k5 g6 q7 i8 (e + startE l w st i) b10 l.len 1 g13 t (runsS w).nl l.len 1 (fun j => eBool ((runsS w).el j)) i k20 g21 = R := by
 have hl2 := hl.2
 intro j
 induction j with
 | zero =>
  intro i fu h hf
  obtain ⟨fu, rfl⟩ : ∃ k, fu = k + 1 := ⟨fu - 1, by omega⟩
  obtain rfl : i = l.len := by omega
  rw [L9003x9s, decide_eq_false (by omega), pF]
  exact K
 | succ j ih =>
  intro i fu h hf
  obtain ⟨fu, rfl⟩ : ∃ k, fu = k + 1 := ⟨fu - 1, by omega⟩
  have hi : i < l.len := by omega
  have hS' : IntKind.i64.wrap ((i : Int) + 1) = ((i + 1 : Nat) : Int) := wrS (by omega)
  have e1 := ih (i + 1) fu (by omega) (by omega)
  have hs1 := stE_in hl w st i (by omega)
  have hst := (hl.1 i hi).2.2.2.1
  have hb : startB w st i = ((runsS w).el i && !(st i).runs) := rfl
  have hE : startE l w st (i + 1) = startE l w st i + (if startB w st i = true then (l.el i).start else 0) := rfl
  have h9 : 1000000000 * (i : Int) ≤ 6000000000 := by omega
  rw [L9003x9s]
  simp (disch := omega) only [decide_eq_true, pT, Int.toNat_natCast, tkCons_c, tkBool_b, beq_self_eq_true, hp i hi, hS']
  rw [hE, hb] at e1
  cases hr : (runsS w).el i with
  | false =>
   rw [hr] at e1
   rw [pF]
   simpa using e1
  | true =>
   rw [hr] at e1
   rw [pT]
   cases hq : (st i).runs with
   | true =>
    rw [hq] at e1
    rw [Bool.not_true, pF]
    simpa using e1
   | false =>
    rw [hq] at e1
    rw [Bool.not_false, pT, wr (by omega)]
    rw [Int.add_assoc]
    simpa using e1
theorem l9003x7 (env : Env) {w : Sl Int} {st : Nat → Sta} (hw : w.len = l.len) (g17 : Nat → List V) (hp : ∀ i, i < l.len → g17 i = [.bool (st i).runs]) (m k0 : Nat) (rx : Int) (b3 : Bool) (k4 k5 : Nat) (g6 : Nat → List V) (q7 : IntKind) (i8 e : Int) (he : 0 ≤ e ∧ e ≤ 1000000000000) (k20 : Nat) (g21 : Nat → List V) (R : Option Out)
  (K : L9003x8 env F g s p vo net l fw m k0 .i64 rx b3 k4 k5 g6 q7 i8 (e + startE l w st l.len) (runsS w).nl l.len 1 (fun j => eBool ((runsS w).el j)) (IntKind.wrap .i64 (0 + 1)) k20 g21 = R) : ∀ (j i fu : Nat), i + j = l.len → j < fu →
  L9003x7 env F g s p vo net l fw m fu k0 .i64 rx b3 k4 k5 g6 q7 i8 (e + startE l w st i) (runsS w).nl l.len 1 (fun j => eBool ((runsS w).el j)) i k20 g21 g17 = R := by
 have hl2 := hl.2
 intro j
 induction j with
 | zero =>
  intro i fu h hf
  obtain ⟨fu, rfl⟩ : ∃ k, fu = k + 1 := ⟨fu - 1, by omega⟩
  obtain rfl : i = l.len := by omega
  rw [L9003x7s, decide_eq_false (by omega), pF]
  exact K
 | succ j ih =>
  intro i fu h hf
  obtain ⟨fu, rfl⟩ : ∃ k, fu = k + 1 := ⟨fu - 1, by omega⟩
  have hi : i < l.len := by omega
  have hS' : IntKind.i64.wrap ((i : Int) + 1) = ((i + 1 : Nat) : Int) := wrS (by omega)
  have e1 := ih (i + 1) fu (by omega) (by omega)
  have hs1 := stE_in hl w st i (by omega)
  have hst := (hl.1 i hi).2.2.2.1
  have hb : startB w st i = ((runsS w).el i && !(st i).runs) := rfl
  have hE : startE l w st (i + 1) = startE l w st i + (if startB w st i = true then (l.el i).start else 0) := rfl
  have h9 : 1000000000 * (i : Int) ≤ 6000000000 := by omega
  rw [L9003x7s]
  simp (disch := omega) only [decide_eq_true, pT, Int.toNat_natCast, tkCons_c, tkBool_b, beq_self_eq_true, hp i hi, hS']
  rw [hE, hb] at e1
  cases hr : (runsS w).el i with
  | false =>
   rw [hr] at e1
   rw [pF]
   simpa using e1
  | true =>
   rw [hr] at e1
   rw [pT]
   cases hq : (st i).runs with
   | true =>
    rw [hq] at e1
    rw [Bool.not_true, pF]
    simpa using e1
   | false =>
    rw [hq] at e1
    rw [Bool.not_false, pT, wr (by omega)]
    rw [Int.add_assoc]
    simpa using e1
variable {hs : Sl Hour} (hh : HoursOk hs) (h24 : hs.len ≤ 24) {sc : Sl (Sl Int)} (hsc : SchedOk l hs.len sc) (hF : 2000 < F) (hp : (playS l hs sc).rule = 1) {x : Int} (hx : ∀ t, t < hs.len → (hs.el t).ratio.lo ≤ x ∧ x ≤ (hs.el t).ratio.hi) (hfw : ∀ t, t < hs.len → fw.el t = (hs.el t).flow) (hfl : fw.len = hs.len) {most : Int} (hm : enX l hs.el sc.el x hs.len ≤ most) (q7 : (E F (d + 91)).pf 7 [] = some (.ret (.bool true)))
include hh h24 hsc hF hp hx hfw hfl hm q7
theorem hour_17 {t : Nat} (ht : t < hs.len) : (E F (d + 91)).pf 16 [sl eInt 1 (sc.el t)] = some (.ret (sl eBool 1 (runsS (sc.el t)))) ∧
  (E F (d + 91)).pf 17 [sl eMach 10 l, sl eBool 1 (runsS (sc.el t)), .int .i64 (hs.el t).flow, .int .i64 x] = some (.ret (.tup [.row false l.len 1 (fun i => eInt ((shareS l (runsS (sc.el t)).el (hs.el t).flow x).sh i)), .row false 3 1 (fun i => eInt ((shareS l (runsS (sc.el t)).el (hs.el t).flow x).pr i)), .int .i64 (enS l (runsS (sc.el t)).el (hs.el t).flow x), .int .i64 0])) := by
 have hl2 := hl.2
 have hw := (hsc.1 t (by have := hsc.2; omega)).1
 have hho := hh t ht
 have hk := (short_0 hho.2).1 (fault_fine (playS_fine hp ht)).2 x (hx t ht).1 (hx t ht).2
 have hr := hho.2
 have hxx := hx t ht
 exact ⟨s35 F (d + 90) (sc.el t) (by omega) (by omega) (by omega), s17xok F (d + 81) (r := runsS (sc.el t)) ⟨hl, hw, hho.1⟩ hF (by unfold RatioOk at hr; omega) hk⟩
theorem l9003x8 (k15 : Nat) (g16 : Nat → List V) : ∀ (j t fu : Nat) (b10 : Bool) (g13 : Nat → List V), t + j = hs.len → j < fu → (∀ i, i < l.len → g13 i = [.bool (stAt l sc.el t i).runs]) →
  L9003x8 (E F (d + 91)) F g s p vo net l fw fu hs.len .i64 x false hs.len 1 (fun i => eIL (sc.el i)) .i64 most (enX l hs.el sc.el x t) b10 l.len 1 g13 t k15 g16 = some (.ret (.bool true)) := by
 intro j
 induction j with
 | zero =>
  intro t fu b10 g13 h hf hg
  obtain ⟨fu, rfl⟩ : ∃ k, fu = k + 1 := ⟨fu - 1, by omega⟩
  obtain rfl : t = hs.len := by omega
  rw [L9003x8s, decide_eq_false (by omega), pF]
  simp only [decide_true, pT, decide_eq_true hm, q7, tkOut_ret, tkBool_b]
 | succ j ih =>
  intro t fu b10 g13 h hf hg
  obtain ⟨fu, rfl⟩ : ∃ k, fu = k + 1 := ⟨fu - 1, by omega⟩
  have ht : t < hs.len := by omega
  obtain ⟨q16, q17⟩ := hour_17 F d fw hl hh h24 hsc hF hp hx hfw hfl hm q7 ht
  have hw := (hsc.1 t (by have := hsc.2; omega)).1
  have he := (enX_in hl (sc := sc.el) (fun t ht => ⟨hh t ht, hx t ht⟩) t (by omega)).1
  have h2 := enS_in hl (by omega) (r := (runsS (sc.el t)).el) (f := (hs.el t).flow) (x := x) (hh t ht).1
  have hS : IntKind.i64.wrap ((t : Int) + 1) = ((t + 1 : Nat) : Int) := wrS (by omega)
  have hft := hfw t ht
  have hl2 := hl.2
  rw [L9003x8s]
  simp (disch := omega) only [decide_eq_true, pT, Int.toNat_natCast, tkCons_c, tkRow_r, beq_self_eq_true, q16, tkOut_ret, hft, q17, tkTup_t, tkInt_i, tkNil_n, decide_true, show ((0 : Int) != 0) = false from rfl, pF]
  rw [wr (by omega)]
  have e := l9003x9 g s p vo net fw hl (E F (d + 91)) (F := F) (w := sc.el t) (st := stAt l sc.el t) hw b10 g13 hg fu hs.len x false hs.len 1 (fun i => eIL (sc.el i)) .i64 most (enX l hs.el sc.el x t + enS l (runsS (sc.el t)).el (hs.el t).flow x) (by omega) t k15 g16 (some (.ret (.bool true))) ?_ l.len 0 F (by omega) (by omega)
  ·simp only [startE, Int.add_zero] at e
   rw [show ((runsS (sc.el t)).len : Nat) = l.len from hw]
   exact e
  ·rw [hS]
   exact ih (t + 1) fu _ _ (by omega) (by omega) fun i hi => by
    show [V.bool ((runsS (sc.el t)).el i)] = _
    rw [runs_at _ (by omega)]
    rfl
theorem l9003x6 (h0 : 0 < hs.len) (k15 : Nat) (g16 g17 : Nat → List V) (hg : ∀ i, i < l.len → g17 i = [.bool (l.el i).runs]) (fu : Nat) (hf : hs.len ≤ fu) :
  L9003x6 (E F (d + 91)) F g s p vo net l fw (fu + 1) hs.len .i64 x false hs.len 1 (fun i => eIL (sc.el i)) .i64 most k15 g16 g17 = some (.ret (.bool true)) := by
 obtain ⟨q16, q17⟩ := hour_17 F d fw hl hh h24 hsc hF hp hx hfw hfl hm q7 h0
 have hw := (hsc.1 0 (by have := hsc.2; omega)).1
 have h2 := enS_in hl (by omega) (r := (runsS (sc.el 0)).el) (f := (hs.el 0).flow) (x := x) (hh 0 h0).1
 have hft := hfw 0 h0
 have hl2 := hl.2
 rw [L9003x6s]
 simp (disch := omega) only [decide_eq_true, pT, tkCons_c, tkRow_r, beq_self_eq_true, q16, tkOut_ret, hft, q17, tkTup_t, tkInt_i, tkNil_n, decide_true, show ((0 : Int) != 0) = false from rfl, pF]
 rw [wr (by omega)]
 have e := l9003x7 g s p vo net fw hl (E F (d + 91)) (F := F) (w := sc.el 0) (st := stAt l sc.el 0) hw g17 hg fu hs.len x false hs.len 1 (fun i => eIL (sc.el i)) .i64 most (0 + enS l (runsS (sc.el 0)).el (hs.el 0).flow x) (by omega) k15 g16 (some (.ret (.bool true))) ?_ l.len 0 F (by omega) (by omega)
 ·simp only [startE, Int.add_zero] at e
  rw [show ((runsS (sc.el 0)).len : Nat) = l.len from hw]
  exact e
 ·have hS : IntKind.i64.wrap ((0 : Int) + 1) = ((1 : Nat) : Int) := by rw [wr (by omega)]; rfl
  rw [hS]
  exact l9003x8 F d g s p vo net fw hl hh h24 hsc hF hp hx hfw hfl hm q7 k15 g16 (hs.len - 1) 1 fu _ _ (by omega) (by omega) fun i hi => by
   show [V.bool ((runsS (sc.el 0)).el i)] = _
   rw [runs_at _ (by omega)]
   rfl
end
end Go.Sim.Pl


namespace Go.Sim.Pl
open Go.Sim.Le (cfg E E_pf E_hv)
open Go.Proofs Go.Sim.Gs
variable (F d : Nat)
def hX (fw : Sl Int) (a b : Int) (t : Nat) : Hour := ⟨fw.el t, ⟨a, b⟩⟩
abbrev hrX (fw : Sl Int) (a b : Int) : Sl Hour := rowT hour0 (hX fw a b) fw.len
theorem hX_get (fw : Sl Int) (a b : Int) (t : Nat) : appGet t (gl eHour hour0 (tabL (hX fw a b) t)) (fun _ => [.int .i64 (fw.el t), .int .i64 a, .int .i64 b]) = gl eHour hour0 (tabL (hX fw a b) (t + 1)) := by
 rw [tabL_S]
 exact gl_snoc (tabL_len _ _) rfl
theorem hX_0 (fw : Sl Int) (a b : Int) : (fun _ : Nat => [V.int .i64 (fw.el 0), .int .i64 a, .int .i64 b]) = gl eHour hour0 (tabL (hX fw a b) 1) := gl_one (e := eHour) (m := hX fw a b 0) rfl
theorem known_t {e : Env} (q7 : e.pf 7 [] = some (.ret (.bool true))) : (tkOut (e.pf 7 []) none (fun v2 => (tkBool v2 none fun b2 => some (Out.ret (.bool b2)))) (fun p2 => (tkIfc p2 none fun t3 x4 => (bif (flatP (.iface t3 x4)) then some (.pan (.iface t3 x4)) else none)))) = some (.ret (.bool true)) := by rw [q7]; rfl
section
variable (g : Gs.Gas) (s : Gs.Gst) (p : Gs.Gpt) (vo net : Int) (l : Sl Mach) (fw : Sl Int) (h3 : l.len ≤ 3) 
include h3
theorem l9003x3 (env : Env) (q7 : env.pf 7 [] = some (.ret (.bool true))) (hF : 0 < F) (q0 : IntKind) (i1 : Int) (b2 : Bool) (k3 k4 : Nat) (g5 : Nat → List V) : ∀ (j i fu : Nat) (g9 : Nat → List V), i + j = l.len → j < fu →
  L9003x3 env F g s p vo net l fw fu q0 i1 b2 k3 k4 g5 .i64 0 i g9 = some (.ret (.bool true)) := by
 intro j
 induction j with
 | zero =>
  intro i fu g9 h hf
  obtain ⟨fu, rfl⟩ : ∃ k, fu = k + 1 := ⟨fu - 1, by omega⟩
  obtain ⟨G, hG⟩ : ∃ k, F = k + 1 := ⟨F - 1, by omega⟩
  rw [L9003x3s, decide_eq_false (by omega), pF]
  have e : L9003x5 env F g s p vo net l fw (G + 1) q0 i1 b2 k3 k4 g5 .i64 0 g9 = some (.ret (.bool true)) := by
   rw [L9003x5s, decide_eq_true rfl, pT, decide_eq_true (by omega), pT, known_t q7]
  rw [← hG] at e
  exact e
 | succ j ih =>
  intro i fu g9 h hf
  obtain ⟨fu, rfl⟩ : ∃ k, fu = k + 1 := ⟨fu - 1, by omega⟩
  have hS' : IntKind.i64.wrap ((i : Int) + 1) = ((i + 1 : Nat) : Int) := wrS (by omega)
  rw [L9003x3s]
  simp (disch := omega) only [decide_eq_true, pT, Int.toNat_natCast, hS']
  exact ih (i + 1) fu _ (by omega) (by omega)
theorem l9003x4 (env : Env) (k0 : Nat) (q1 : IntKind) (i2 : Int) (b3 : Bool) (k4 k5 : Nat) (g6 : Nat → List V) (q7 : IntKind) (i8 : Int) (k10 : Nat) (g11 : Nat → List V) (R : Option Out)
  (K : ∀ g12, (∀ i, i < l.len → g12 i = [.bool (l.el i).runs]) → L9003x6 env F g s p vo net l fw F k0 q1 i2 b3 k4 k5 g6 q7 i8 k10 g11 g12 = R) : ∀ (j i fu : Nat) (g12 : Nat → List V), i + j = l.len → j < fu → (∀ i, ∃ b, g12 i = [.bool b]) → (∀ k, k < i → g12 k = [.bool (l.el k).runs]) →
  L9003x4 env F g s p vo net l fw fu k0 q1 i2 b3 k4 k5 g6 q7 i8 i k10 g11 g12 = R := by
 intro j
 induction j with
 | zero =>
  intro i fu g12 h hf _ hg
  obtain ⟨fu, rfl⟩ : ∃ k, fu = k + 1 := ⟨fu - 1, by omega⟩
  rw [L9003x4s, decide_eq_false (by omega), pF]
  exact K g12 fun k hk => hg k (by omega)
 | succ j ih =>
  intro i fu g12 h hf hb hg
  obtain ⟨fu, rfl⟩ : ∃ k, fu = k + 1 := ⟨fu - 1, by omega⟩
  have hS' : IntKind.i64.wrap ((i : Int) + 1) = ((i + 1 : Nat) : Int) := wrS (by omega)
  obtain ⟨b, hb'⟩ := hb i
  have hu : updGet g12 i 0 [.bool (l.el i).runs] = fun k => if k = i then [.bool (l.el i).runs] else g12 k := by
   funext k
   unfold updGet
   split
   ·next h => subst h; rw [hb']; rfl
   ·rfl
  rw [L9003x4s]
  simp (disch := omega) only [decide_eq_true, pT, Int.toNat_natCast, hS', hu]
  refine ih (i + 1) fu _ (by omega) (by omega) (fun k => ?_) (fun k hk => ?_)
  ·by_cases hki : k = i
   ·exact ⟨_, if_pos hki⟩
   ·obtain ⟨b, hb⟩ := hb k
    exact ⟨b, (if_neg hki).trans hb⟩
  ·by_cases hki : k = i
   ·subst hki; exact if_pos rfl
   ·exact (if_neg hki).trans (hg k (by omega))
variable (h4 : fw.len ≤ 4) (hF : 1000000000000000000 < F) (hR : ∀ i, (l.el i).rows.len ≤ 140737488355328) (hg : GasOk g) (hs : StOk s) (hp : HasP s p) (hv : g.vol.lo ≤ vo ∧ vo ≤ g.vol.hi) (hn : 1 ≤ net ∧ net ≤ 100000) {x1 y1 x2 y2 : Int} (t1 : Told (force g s.gas.lo s.hyd.lo s.heat.lo) (g.vol.hi * 10000000) x1 y1) (t2 : Told (force g s.gas.hi s.hyd.hi s.heat.hi) (g.vol.lo * 10000000) x2 y2) (b1 : (x1 ≥ 0 ∧ x1 ≤ 1000000000000) ∧ y1 ≥ 1 ∧ y1 ≤ 10000000000000) (b2 : (x2 ≥ 0 ∧ x2 ≤ 1000000000000) ∧ y2 ≥ 1 ∧ y2 ≤ 10000000000000) (q7 : (E F (d + 91)).pf 7 [] = some (.ret (.bool true)))
include hg hs hp hv hn t1 t2 in
theorem rat_in {x y : Int} (t : Told (force g p.gas p.hyd p.heat) (vo * 10000000) x y) : Gs.ratR x1 y1 net ≤ Gs.ratR x y net ∧ Gs.ratR x y net ≤ Gs.ratR x2 y2 net := by
 obtain ⟨a1, a2, a3, a4⟩ := hp
 obtain ⟨c1, c2, c3, c4⟩ := hs
 have f1 := force_mono hg (a := s.gas.lo) (a' := p.gas) (h := s.hyd.lo) (h' := p.hyd) (t := s.heat.lo) (t' := p.heat) (by omega) (by omega) (by omega) (by omega) (by omega) (by omega)
 have f2 := force_mono hg (a := p.gas) (a' := s.gas.hi) (h := p.hyd) (h' := s.hyd.hi) (t := p.heat) (t' := s.heat.hi) (by omega) (by omega) (by omega) (by omega) (by omega) (by omega)
 have hg1 := hg.1
 constructor
 ·refine rat_mono (by omega) t1.red t.red (by omega) (by omega) ?_
  exact (mul_mono f1.1 f1.2 (by omega) (by omega)).2
 ·refine rat_mono (by omega) t.red t2.red (by omega) (by omega) ?_
  exact (mul_mono f2.1 f2.2 (by omega) (by omega)).2
include h4 hF hR hg hs hp hv hn t1 t2 b1 b2 q7
theorem l9003x0h (fu : Nat) (h0 : fw.len = 0) : L9003x1 (E F (d + 91)) F g s p vo net l fw (fu + 1) .i64 x1 .i64 y1 .i64 x2 .i64 y2 = some (.ret (.bool true)) := by
 have hRB : RowsB l F := fun i _ => ⟨lenB (hR i), by have := hR i; omega⟩
 have q11 := s39 F (d + 88) l (by show l.len < 4611686018427387904; omega) (by omega) hRB
 have q12 := s9112 F (d + 90) (by omega)
 obtain ⟨a1, a2, a3, a4⟩ := hp
 obtain ⟨c1, c2, c3, c4⟩ := hs
 obtain ⟨x, y, q13, t⟩ := s9013 F d hg p vo (by omega) (by omega) (by omega) (by have := hg.1; omega)
 have q9 := s9009 F (d + 90) x y
 have q15 := s9115 F (d + 90) (by omega) l
 rw [L9003x1s, decide_eq_false (by omega), pF]
 simp only [q11, q12, q13, q9, tkOut_ret, tkBool_b, tkAgg_a, tkCons_c, tkInt_i, tkNil_n, Bool.not_true, pF]
 by_cases hP : PlantOk l
 case neg => rw [decide_eq_false hP, Bool.not_false, pT, q7]; rfl
 rw [decide_eq_true hP, Bool.not_true, pF]
 by_cases hb : (x ≥ 0 ∧ x ≤ 1000000000000) ∧ y ≥ 1 ∧ y ≤ 10000000000000
 case neg => rw [decide_eq_false hb, Bool.not_false, pT, q7]; rfl
 rw [decide_eq_true hb, Bool.not_true, pF]
 have q10 := s9010 F (d + 90) (x := x) (y := y) (net := net) (by omega) (by omega) (by omega)
 have q14 := s9114 F (d + 50) hP (by omega) hRB
 simp (disch := omega) only [q10, q14, q15, tkOut_ret, tkBool_b, tkTup_t, tkRow_r, tkAgg_a, tkCons_c, tkInt_i, tkNil_n, decide_true, pT, pF, show ((0 : Int) != 0) = false from rfl, Bool.not_true, decide_eq_true]
 exact l9003x3 F g s p vo net l fw h3 _ q7 (by omega) _ _ _ _ _ _ l.len 0 F _ (by omega) (by omega)
theorem l9003x2 : ∀ (j t fu : Nat), 1 ≤ t → t + j = fw.len → j < fu →
  L9003x2 (E F (d + 91)) F g s p vo net l fw fu t t .i64 x1 .i64 y1 .i64 x2 .i64 y2 t (gl eHour hour0 (tabL (hX fw (Gs.ratR x1 y1 net) (Gs.ratR x2 y2 net)) t)) = some (.ret (.bool true)) := by
 have q10a := s9010 F (d + 90) (x := x1) (y := y1) (net := net) (by omega) (by omega) (by omega)
 have q10b := s9010 F (d + 90) (x := x2) (y := y2) (net := net) (by omega) (by omega) (by omega)
 intro j
 induction j with
 | succ j ih =>
  intro t fu h1 h hf
  obtain ⟨fu, rfl⟩ : ∃ k, fu = k + 1 := ⟨fu - 1, by omega⟩
  have hS' : IntKind.i64.wrap ((t : Int) + 1) = ((t + 1 : Nat) : Int) := wrS (by omega)
  rw [L9003x2s]
  simp (disch := omega) only [decide_eq_true, pT, Int.toNat_natCast, hS', q10a, q10b, tkOut_ret, tkInt_i, hX_get]
  exact ih (t + 1) fu (by omega) (by omega) (by omega)
 | zero =>
  intro t fu h1 h hf
  obtain ⟨fu, rfl⟩ : ∃ k, fu = k + 1 := ⟨fu - 1, by omega⟩
  obtain rfl : t = fw.len := by omega
  generalize hlo : Gs.ratR x1 y1 net = lo at q10a ⊢
  generalize hhi : Gs.ratR x2 y2 net = hi at q10b ⊢
  have hRB : RowsB l F := fun i _ => ⟨lenB (hR i), by have := hR i; omega⟩
  have hB : InB l (hrX fw lo hi) F := inB_of F (by omega) (by omega) hR (by show fw.len ≤ _; omega)
  have q11 := s39 F (d + 88) l hB.1.1 hB.1.2 hRB
  have q12 : (E F (d + 91)).pf 12 [.row false fw.len 3 (gl eHour hour0 (tabL (hX fw lo hi) fw.len))] = _ := s40 F (d + 88) (hrX fw lo hi) hB.2.2.1 hB.2.2.2
  have hp' := hp
  have hs' := hs
  obtain ⟨a1, a2, a3, a4⟩ := hp'
  obtain ⟨c1, c2, c3, c4⟩ := hs'
  obtain ⟨x, y, q13, t⟩ := s9013 F d hg p vo (by omega) (by omega) (by omega) (by have := hg.1; omega)
  have q9 := s9009 F (d + 90) x y
  rw [L9003x2s, decide_eq_false (by omega), pF]
  simp only [q11, q12, q13, q9, tkOut_ret, tkBool_b, tkAgg_a, tkCons_c, tkInt_i, tkNil_n]
  by_cases hP : PlantOk l
  case neg => rw [decide_eq_false hP, Bool.not_false, pT, q7]; rfl
  rw [decide_eq_true hP, Bool.not_true, pF]
  by_cases hH : HoursOk (hrX fw lo hi)
  case neg => rw [decide_eq_false hH, Bool.not_false, pT, q7]; rfl
  rw [decide_eq_true hH, Bool.not_true, pF]
  by_cases hb : (x ≥ 0 ∧ x ≤ 1000000000000) ∧ y ≥ 1 ∧ y ≤ 10000000000000
  case neg => rw [decide_eq_false hb, Bool.not_false, pT, q7]; rfl
  rw [decide_eq_true hb, Bool.not_true, pF]
  have q10 := s9010 F (d + 90) (x := x) (y := y) (net := net) (by omega) (by omega) (by omega)
  obtain ⟨r1, r2⟩ := rat_in g s p vo net l h3 hg hs hp hv hn t1 t2 t
  rw [hlo] at r1
  rw [hhi] at r2
  have h24 : (hrX fw lo hi).len ≤ 24 := by show fw.len ≤ 24; omega
  have he : errA l (hrX fw lo hi) = 0 := by
   unfold errA
   rw [if_neg (by omega), if_pos ⟨hP, hH⟩]
  have q14 := s41 F (d + 50) l (hrX fw lo hi) (by omega) hB (fun _ => cnt_small h3 (by show fw.len ≤ 5; omega))
  rw [if_pos he] at q14
  have hl0 : gl eHour hour0 (tabL (hX fw lo hi) fw.len) 0 = [.int .i64 (fw.el 0), .int .i64 lo, .int .i64 hi] := by
   show eHour ((tabL (hX fw lo hi) fw.len).getD 0 _) = _
   rw [tabL_get _ (by omega)]
   rfl
  simp (disch := omega) only [q10, tkOut_ret, tkInt_i, decide_eq_true, pT, hl0, List.drop, tkCons_c, decide_true, decide_eq_false, pF]
  cases hr : (bestS l (hrX fw lo hi)).right with
  | false =>
   rw [hr] at q14
   have q14' : (E F (d + 91)).pf 14 [sl eMach 10 l, .row false fw.len 3 (gl eHour hour0 (tabL (hX fw lo hi) fw.len))] = some (.ret (.tup [nilS, .int .i64 0, .int .i64 5])) := q14
   simp only [q14', tkOut_ret, tkTup_t, tkRow_r, tkCons_c, tkInt_i, tkNil_n, decide_true, pT, show ((5 : Int) != 0) = true from rfl, show ((5 : Int) == 5) = true from rfl, q7, tkBool_b]
  | true =>
   rw [hr] at q14
   have hne : ¬ fw.len = 0 := by omega
   have ho : outR l (hrX fw lo hi) = .row false fw.len 1 (fun i => eIL ((planQ l (hrX fw lo hi)).el i)) := by
    unfold outR
    rw [if_neg (show ¬ (hrX fw lo hi).len = 0 from hne)]
    rfl
   have q15 := out_44 F (d + 90) hP hH h24 (by omega) hr
   rw [if_pos rfl, ho] at q14
   rw [ho] at q15
   have q14' : (E F (d + 91)).pf 14 [sl eMach 10 l, .row false fw.len 3 (gl eHour hour0 (tabL (hX fw lo hi) fw.len))] = some (.ret (.tup [.row false fw.len 1 (fun i => eIL ((planQ l (hrX fw lo hi)).el i)), .int .i64 (bestS l (hrX fw lo hi)).energy, .int .i64 0])) := q14
   have q15' : (E F (d + 91)).pf 15 [sl eMach 10 l, .int .i64 ((fw.len : Nat) : Int), .row false fw.len 1 (fun i => eIL ((planQ l (hrX fw lo hi)).el i))] = some (.ret (.bool true)) := q15
   simp (disch := omega) only [q14', q15', tkOut_ret, tkTup_t, tkRow_r, tkCons_c, tkInt_i, tkNil_n, decide_true, pT, show ((0 : Int) != 0) = false from rfl, pF, tkBool_b, Bool.not_true, decide_eq_true]
   obtain ⟨G, hG⟩ : ∃ k, F = k + 1 := ⟨F - 1, by omega⟩
   have hin : ∀ t, t < (hrX fw lo hi).len → ((hrX fw lo hi).el t).ratio.lo ≤ Gs.ratR x y net ∧ Gs.ratR x y net ≤ ((hrX fw lo hi).el t).ratio.hi := fun t ht => by
    have h1 : (hrX fw lo hi).el t = hX fw lo hi t := rowT_el ht
    rw [h1]
    exact ⟨r1, r2⟩
   obtain ⟨w1, w2, w3⟩ := planQ_play hr
   have hen : enX l (hrX fw lo hi).el (planQ l (hrX fw lo hi)).el (Gs.ratR x y net) (hrX fw lo hi).len ≤ (bestS l (hrX fw lo hi)).energy := by
    rw [← w2, (playS_sum w1).2.1]
    exact (enX_in (n := (hrX fw lo hi).len) hP (fun t ht => ⟨hH t ht, hin t ht⟩) _ (Nat.le_refl _)).2
   refine l9003x4 F g s p vo net l fw h3 _ _ _ _ _ _ _ _ _ _ _ _ _ (fun g12 hg12 => ?_) l.len 0 F _ (by omega) (by omega) (fun i => ⟨false, rfl⟩) (fun k hk => by omega)
   have e := l9003x6 F d g s p vo net fw hP (hs := hrX fw lo hi) hH h24 (planQ_ok hr) (by omega) w1 hin (fun t ht => by rw [show (hrX fw lo hi).el t = hX fw lo hi t from rowT_el ht]; rfl) rfl hen q7 (by show 0 < fw.len; omega) fw.len (gl eHour hour0 (tabL (hX fw lo hi) fw.len)) g12 hg12 G (by show fw.len ≤ G; omega)
   rw [← hG] at e
   exact e
theorem l9003x1 : L9003x1 (E F (d + 91)) F g s p vo net l fw F .i64 x1 .i64 y1 .i64 x2 .i64 y2 = some (.ret (.bool true)) := by
 obtain ⟨G, hG⟩ : ∃ k, F = k + 1 := ⟨F - 1, by omega⟩
 have e : L9003x1 (E F (d + 91)) F g s p vo net l fw (G + 1) .i64 x1 .i64 y1 .i64 x2 .i64 y2 = some (.ret (.bool true)) := by
  by_cases h0 : fw.len = 0
  ·exact l9003x0h F d g s p vo net l fw h3 h4 hF hR hg hs hp hv hn t1 t2 b1 b2 q7 G h0
  ·have q10a := s9010 F (d + 90) (x := x1) (y := y1) (net := net) (by omega) (by omega) (by omega)
   have q10b := s9010 F (d + 90) (x := x2) (y := y2) (net := net) (by omega) (by omega) (by omega)
   have hS' : IntKind.i64.wrap ((0 : Int) + 1) = ((1 : Nat) : Int) := by rw [wr (by omega)]; rfl
   rw [L9003x1s]
   simp (disch := omega) only [decide_eq_true, pT, hS', q10a, q10b, tkOut_ret, tkInt_i, hX_0]
   exact l9003x2 F d g s p vo net l fw h3 h4 hF hR hg hs hp hv hn t1 t2 b1 b2 q7 (fw.len - 1) 1 G (by omega) (by omega) (by omega)
 rw [← hG] at e
 exact e
omit b1 b2 t1 t2
end
theorem law3 (hF : 1000000000000000000 < F) (g : Gs.Gas) (s : Gs.Gst) (p : Gs.Gpt) (vo net : Int) (l : Sl Mach) (fw : Sl Int) (hl : l.len ≤ 140737488355328) (hR : ∀ i, (l.el i).rows.len ≤ 140737488355328) (hfw : fw.len ≤ 140737488355328) (q7 : (E (F + 3) (d + 91)).pf 7 [] = some (.ret (.bool true))) :
  (E (F + 3) (d + 92)).pf 3 [.agg (eGas g), .agg (eGst s), .agg (eGpt p), .int .i64 vo, .int .i64 net, sl eMach 10 l, sl eInt 1 fw] = some (.ret (.bool true)) := by
 have q4 := s9004 F (d + 89) g
 have q5 := s9005 (F + 3) (d + 89) s
 have q6 := s9006 (F + 3) (d + 89) s p
 rw [E_pf, t9003]
 simp only [q4, q5, q6, tkOut_ret, tkBool_b, known_t q7]
 by_cases h3 : ((l.len : Nat) : Int) > 3
 ·rw [decide_eq_true h3, pT]
 rw [decide_eq_false h3, pF]
 by_cases h4 : ((fw.len : Nat) : Int) > 4
 ·rw [decide_eq_true h4, pT]
 rw [decide_eq_false h4, pF]
 cases decide (IntKind.i64.wrap (((l.len : Nat) : Int) * ((fw.len : Nat) : Int)) > 8)
 case true => rw [pT]
 rw [pF]
 by_cases hn1 : net < 1
 ·rw [decide_eq_true hn1, pT]
 rw [decide_eq_false hn1, pF]
 by_cases hn2 : net > 100000
 ·rw [decide_eq_true hn2, pT]
 rw [decide_eq_false hn2, pF]
 by_cases hg : GasOk g
 case neg => rw [decide_eq_false hg, Bool.not_false, pT]
 rw [decide_eq_true hg, Bool.not_true, pF]
 by_cases hs : StOk s
 case neg => rw [decide_eq_false hs, Bool.not_false, pT]
 rw [decide_eq_true hs, Bool.not_true, pF]
 by_cases hp : HasP s p
 case neg => rw [decide_eq_false hp, Bool.not_false, pT]
 rw [decide_eq_true hp, Bool.not_true, pF]
 by_cases hv1 : vo < g.vol.lo
 ·rw [decide_eq_true hv1, pT]
 rw [decide_eq_false hv1, pF]
 by_cases hv2 : vo > g.vol.hi
 ·rw [decide_eq_true hv2, pT]
 rw [decide_eq_false hv2, pF]
 have key : ∀ (j i fu : Nat), i + j = l.len → j < fu → L9003x0 (E (F + 3) (d + 91)) (F + 3) g s p vo net l fw fu i = some (.ret (.bool true)) := by
  intro j
  induction j with
  | zero =>
   intro i fu h hf
   obtain ⟨fu, rfl⟩ : ∃ k, fu = k + 1 := ⟨fu - 1, by omega⟩
   obtain ⟨x1, y1, x2, y2, q8, t1, t2⟩ := s9008 F (d + 87) hg hs hF
   have q9 := s9009 (F + 3) (d + 90) x1 y1
   have q9' := s9009 (F + 3) (d + 90) x2 y2
   rw [L9003x0s, decide_eq_false (by omega), pF]
   simp only [q8, q9, q9', tkOut_ret, tkBool_b, tkTup_t, tkAgg_a, tkCons_c, tkInt_i, tkNil_n, decide_true, pT, show ((0 : Int) != 0) = false from rfl, pF, show ((0 : Int) == 0) = true from rfl, q7]
   by_cases b1 : (x1 ≥ 0 ∧ x1 ≤ 1000000000000) ∧ y1 ≥ 1 ∧ y1 ≤ 10000000000000
   case neg => rw [decide_eq_false b1, Bool.not_false, pT]
   rw [decide_eq_true b1, Bool.not_true, pF]
   by_cases b2 : (x2 ≥ 0 ∧ x2 ≤ 1000000000000) ∧ y2 ≥ 1 ∧ y2 ≤ 10000000000000
   case neg => rw [decide_eq_false b2, Bool.not_false, pT]
   rw [decide_eq_true b2, Bool.not_true, pF]
   exact l9003x1 (F + 3) d g s p vo net l fw (by omega) (by omega) (by omega) hR hg hs hp ⟨by omega, by omega⟩ ⟨by omega, by omega⟩ t1 t2 b1 b2 q7
  | succ j ih =>
   intro i fu h hf
   obtain ⟨fu, rfl⟩ : ∃ k, fu = k + 1 := ⟨fu - 1, by omega⟩
   have hS' : IntKind.i64.wrap ((i : Int) + 1) = ((i + 1 : Nat) : Int) := wrS (by omega)
   rw [L9003x0s]
   simp (disch := omega) only [decide_eq_true, pT, Int.toNat_natCast, hS', known_t q7]
   rw [ih (i + 1) fu (by omega) (by omega)]
   cases decide ((((l.el i).rows.len : Nat) : Int) > 10) <;> rfl
 exact key l.len 0 (F + 3) (by omega) (by omega)
end Go.Sim.Pl


set_option maxRecDepth 100000
namespace Go.Sim.Le
open Go.RowKit Go.Proofs
noncomputable def T130 (env : Env) (g : Nat → List V) (n : Nat) (d fl nom u : Int) : Option Out :=
 (tkCons (List.drop 5 (g 0)) none fun v8 r9 => (tkRow v8 none fun nl10 n11 wd12 g13 => (bif (wd12 == 8) then (bif (decide ((0 : Int) ≤ d)) then (bif (decide (d < ((n11 : Nat) : Int))) then (tkCons (List.drop 2 (g13 (Int.toNat d))) none fun v14 r15 => (tkInt v14 none fun q16 n17 => (bif (decide (.i64 = q16)) then some (.ret (.bool (decide (u > n17))))
        else none)))
     else none)
    else none)
   else none)))
noncomputable def T131 (env : Env) (g : Nat → List V) (n : Nat) (d fl nom u : Int) : Option Out :=
 (tkCons (List.drop 5 (g 0)) none fun v8 r9 => (tkRow v8 none fun nl10 n11 wd12 g13 => (bif (wd12 == 8) then (bif (decide ((0 : Int) ≤ d)) then (bif (decide (d < ((n11 : Nat) : Int))) then (tkCons (List.drop 3 (g13 (Int.toNat d))) none fun v14 r15 => (tkInt v14 none fun q16 n17 => (bif (decide (.i64 = q16)) then some (.ret (.bool (decide ((IntKind.wrap .i64 ((0 : Int) - u)) > n17))))
        else none)))
     else none)
    else none)
   else none)))
noncomputable def T132 (env : Env) (g : Nat → List V) (n : Nat) (d fl nom u : Int) : Option Out :=
 (tkOut (env.pf 138 [(.rptr 1 n g 0 0), (.int .i64 fl)]) none (fun v8 => (tkAgg v8 none fun l9 => (tkCons l9 none fun v10 r11 => (tkInt v10 none fun q12 n13 => (tkCons r11 none fun v14 r15 => (tkInt v14 none fun q16 n17 => (tkCons r15 none fun v18 r19 => (tkInt v18 none fun q20 n21 => (tkNil r19 none ((bif (decide (.i64 = q16)) then some (.ret (.bool (decide ((IntKind.wrap .i64 (nom + u)) > n17))))
          else none)))))))))))
 (fun p8 => (tkIfc p8 none fun t9 x10 => (bif (flatP (.iface t9 x10)) then some (.pan (.iface t9 x10))
   else none))))
noncomputable def T133 (env : Env) (g : Nat → List V) (n : Nat) (d fl nom u : Int) : Option Out :=
 (tkOut (env.pf 138 [(.rptr 1 n g 0 0), (.int .i64 fl)]) none (fun v8 => (tkAgg v8 none fun l9 => (tkCons l9 none fun v10 r11 => (tkInt v10 none fun q12 n13 => (tkCons r11 none fun v14 r15 => (tkInt v14 none fun q16 n17 => (tkCons r15 none fun v18 r19 => (tkInt v18 none fun q20 n21 => (tkNil r19 none ((bif (decide (.i64 = q20)) then some (.ret (.bool (decide ((IntKind.wrap .i64 ((IntKind.wrap .i64 ((0 : Int) - nom)) - u)) > n21))))
          else none)))))))))))
 (fun p8 => (tkIfc p8 none fun t9 x10 => (bif (flatP (.iface t9 x10)) then some (.pan (.iface t9 x10))
   else none))))
noncomputable def T134 (env : Env) (g : Nat → List V) (n : Nat) (d fl nom u : Int) : Option Out :=
 (tkCons (List.drop 5 (g 0)) none fun v8 r9 => (tkRow v8 none fun nl10 n11 wd12 g13 => (bif (wd12 == 8) then (bif (decide ((0 : Int) ≤ d)) then (bif (decide (d < ((n11 : Nat) : Int))) then (bif ((List.length (List.take 2 (List.drop 4 (g13 (Int.toNat d))))) == 2) then (tkCons (List.take 2 (List.drop 4 (g13 (Int.toNat d)))) none fun v14 r15 => (tkInt v14 none fun q16 n17 => (tkCons r15 none fun v18 r19 => (tkInt v18 none fun q20 n21 => (tkNil r19 none ((tkOut (env.pf 63 [(ordV g n d fl nom u)]) none (fun v22 => (tkInt v22 none fun q23 n24 => (tkOut (env.pf 91 [(.int q23 n24), (.int q16 n17), (.int q20 n21)]) none (fun v25 => (tkBool v25 none fun b26 => some (.ret (.bool (!b26)))))
            (fun p25 => (tkIfc p25 none fun t26 x27 => (bif (flatP (.iface t26 x27)) then some (.pan (.iface t26 x27))
            else none))))))
            (fun p22 => (tkIfc p22 none fun t23 x24 => (bif (flatP (.iface t23 x24)) then none
            else none))))))))))
      else none)
     else none)
    else none)
   else none)))
noncomputable def T135 (env : Env) (g : Nat → List V) (n : Nat) (d fl nom u : Int) : Option Out :=
 (tkCons (List.drop 5 (g 0)) none fun v8 r9 => (tkRow v8 none fun nl10 n11 wd12 g13 => (bif (d == (IntKind.wrap .i64 (((n11 : Nat) : Int) - (1 : Int)))) then (tkOut (env.pf 63 [(ordV g n d fl nom u)]) none (fun v14 => (tkInt v14 none fun q15 n16 => (tkCons (List.drop 2 (g 0)) none fun v17 r18 => (tkInt v17 none fun q19 n20 => (tkCons (List.drop 3 (g 0)) none fun v21 r22 => (tkInt v21 none fun q23 n24 => (tkOut (env.pf 91 [(.int q15 n16), (.int q19 n20), (.int q23 n24)]) none (fun v25 => (tkBool v25 none fun b26 => some (.ret (.bool (!b26)))))
          (fun p25 => (tkIfc p25 none fun t26 x27 => (bif (flatP (.iface t26 x27)) then some (.pan (.iface t26 x27))
            else none))))))))))
    (fun p14 => (tkIfc p14 none fun t15 x16 => (bif (flatP (.iface t15 x16)) then none
      else none))))
   else some (.ret (.bool false)))))
noncomputable def T63 (env : Env) (g : Nat → List V) (n : Nat) (d fl nom u : Int) : Option Out :=
 some (.ret (.int .i64 (IntKind.wrap .i64 ((IntKind.wrap .i64 (fl + nom)) + u))))
noncomputable def T99 (env : Env) (g : Nat → List V) (n : Nat) (d fl nom u : Int) : Option Out :=
 (tkCons (List.drop 5 (g 0)) none fun v8 r9 => (tkRow v8 none fun nl10 n11 wd12 g13 => (bif (wd12 == 8) then (bif (decide ((0 : Int) ≤ d)) then (bif (decide (d < ((n11 : Nat) : Int))) then (bif ((List.length (List.take 8 (g13 (Int.toNat d)))) == 8) then (tkCons (List.take 8 (g13 (Int.toNat d))) none fun v14 r15 => (tkInt v14 none fun q16 n17 => (tkCons r15 none fun v18 r19 => (tkInt v18 none fun q20 n21 => (tkCons r19 none fun v22 r23 => (tkInt v22 none fun q24 n25 => (tkCons r23 none fun v26 r27 => (tkInt v26 none fun q28 n29 => (tkCons r27 none fun v30 r31 => (tkInt v30 none fun q32 n33 => (tkCons r31 none fun v34 r35 => (tkInt v34 none fun q36 n37 => (tkCons r35 none fun v38 r39 => (tkInt v38 none fun q40 n41 => (tkCons r39 none fun v42 r43 => (tkInt v42 none fun q44 n45 => (tkNil r43 none ((bif (decide (q16 = .i64)) then (bif (decide (q20 = .i64)) then (bif (decide (q16 = q20)) then some (.ret (.int q16 (IntKind.wrap q16 ((IntKind.wrap q16 (n17 * (if (0 : Int) < u then u else (0 : Int)))) - (IntKind.wrap q20 (n21 * (if (0 : Int) < (IntKind.wrap .i64 ((0 : Int) - u)) then (IntKind.wrap .i64 ((0 : Int) - u)) else (0 : Int))))))))
            else none)
            else none)
            else none)))))))))))))))))))
      else none)
     else none)
    else none)
   else none)))
noncomputable def T198 (env : Env) (g : Nat → List V) (n : Nat) (d fl nom u : Int) : Option Out :=
 (tkOut (env.pf 130 [(ordV g n d fl nom u)]) none (fun v8 => (tkBool v8 none fun b9 => (bif b9 then some (.ret (.bool false))
   else (tkOut (env.pf 131 [(ordV g n d fl nom u)]) none (fun v10 => (tkBool v10 none fun b11 => (bif b11 then some (.ret (.bool false))
      else (tkOut (env.pf 132 [(ordV g n d fl nom u)]) none (fun v12 => (tkBool v12 none fun b13 => (bif b13 then some (.ret (.bool false))
         else (tkOut (env.pf 133 [(ordV g n d fl nom u)]) none (fun v14 => (tkBool v14 none fun b15 => (bif b15 then some (.ret (.bool false))
            else (tkOut (env.pf 134 [(ordV g n d fl nom u)]) none (fun v16 => (tkBool v16 none fun b17 => (bif b17 then some (.ret (.bool false))
            else (tkOut (env.pf 135 [(ordV g n d fl nom u)]) none (fun v18 => (tkBool v18 none fun b19 => (bif b19 then some (.ret (.bool false))
            else some (.ret (.bool true)))))
            (fun p18 => (tkIfc p18 none fun t19 x20 => (bif (flatP (.iface t19 x20)) then some (.pan (.iface t19 x20))
            else none)))))))
            (fun p16 => (tkIfc p16 none fun t17 x18 => (bif (flatP (.iface t17 x18)) then some (.pan (.iface t17 x18))
            else none)))))))
          (fun p14 => (tkIfc p14 none fun t15 x16 => (bif (flatP (.iface t15 x16)) then some (.pan (.iface t15 x16))
            else none)))))))
       (fun p12 => (tkIfc p12 none fun t13 x14 => (bif (flatP (.iface t13 x14)) then some (.pan (.iface t13 x14))
         else none)))))))
    (fun p10 => (tkIfc p10 none fun t11 x12 => (bif (flatP (.iface t11 x12)) then some (.pan (.iface t11 x12))
      else none)))))))
 (fun p8 => (tkIfc p8 none fun t9 x10 => (bif (flatP (.iface t9 x10)) then some (.pan (.iface t9 x10))
   else none))))
noncomputable def T62 (env : Env) (g : Nat → List V) (n : Nat) (d fl nom u : Int) (m wd : Nat) (gv : Nat → List V) : Option Out :=
 (tkOut (env.pf 63 [(ordV g n d fl nom u)]) none (fun v11 => (tkInt v11 none fun q12 n13 => (bif (wd == 1) then (bif (decide ((0 : Int) ≤ n13)) then (bif (decide (n13 < ((m : Nat) : Int))) then (tkCons (gv (Int.toNat n13)) none fun v14 r15 => (tkInt v14 none fun q16 n17 => (bif (decide (q16 = .i64)) then (bif (n17 == (1000000000000000 : Int)) then some (.ret (.int q16 n17))
         else (tkOut (env.pf 99 [(ordV g n d fl nom u)]) none (fun v18 => (tkInt v18 none fun q19 n20 => (bif (decide (q19 = q16)) then some (.ret (.int q19 (IntKind.wrap q19 (n20 + n17))))
            else none)))
          (fun p18 => (tkIfc p18 none fun t19 x20 => (bif (flatP (.iface t19 x20)) then some (.pan (.iface t19 x20))
            else none)))))
        else none)))
     else none)
    else none)
   else none)))
 (fun p11 => (tkIfc p11 none fun t12 x13 => (bif (flatP (.iface t12 x13)) then some (.pan (.iface t12 x13))
   else none))))
noncomputable def T96 (env : Env) (g : Nat → List V) (n : Nat) (d fl nom u : Int) (gp gd : Nat → List V) : Option Out :=
 (tkCons (gp 0) none fun v10 r11 => (tkRow v10 none fun nl12 n13 wd14 g15 => (tkCons (gd 0) none fun v16 r17 => (tkInt v16 none fun q18 n19 => (bif (decide (q18 = .i64)) then (bif (wd14 == 1) then (bif (decide ((0 : Int) ≤ (IntKind.wrap q18 (n19 + (1 : Int))))) then (bif (decide ((IntKind.wrap q18 (n19 + (1 : Int))) < ((n13 : Nat) : Int))) then (tkCons (g15 (Int.toNat (IntKind.wrap q18 (n19 + (1 : Int))))) none fun v20 r21 => (tkRow v20 none fun nl22 n23 wd24 g25 => (tkOut (env.pf 62 [(ordV g n d fl nom u), (.row nl22 n23 wd24 g25)]) none (fun v26 => (tkInt v26 none fun q27 n28 => some (.ret (.int q27 n28))))
           (fun p26 => (tkIfc p26 none fun t27 x28 => (bif (flatP (.iface t27 x28)) then some (.pan (.iface t27 x28))
            else none))))))
        else none)
       else none)
      else none)
     else none)))))
noncomputable def T61 (env : Env) (g : Nat → List V) (n : Nat) (d fl nom u : Int) (gp gd : Nat → List V) : Option Out :=
 (tkCons (gp 0) none fun v10 r11 => (tkRow v10 none fun nl12 n13 wd14 g15 => (tkCons (gd 0) none fun v16 r17 => (tkInt v16 none fun q18 n19 => (bif (decide (q18 = .i64)) then (bif (wd14 == 1) then (bif (decide ((0 : Int) ≤ (IntKind.wrap q18 (n19 + (1 : Int))))) then (bif (decide ((IntKind.wrap q18 (n19 + (1 : Int))) < ((n13 : Nat) : Int))) then (tkCons (g15 (Int.toNat (IntKind.wrap q18 (n19 + (1 : Int))))) none fun v20 r21 => (tkRow v20 none fun nl22 n23 wd24 g25 => (tkOut (env.pf 62 [(ordV g n d fl nom u), (.row nl22 n23 wd24 g25)]) none (fun v26 => (tkInt v26 none fun q27 n28 => some (.ret (.int q27 n28))))
           (fun p26 => (tkIfc p26 none fun t27 x28 => (bif (flatP (.iface t27 x28)) then some (.pan (.iface t27 x28))
            else none))))))
        else none)
       else none)
      else none)
     else none)))))
noncomputable def T91 (x y z : Int) : Option Out :=
 (bif (decide (x ≥ y)) then some (.ret (.bool (decide (x ≤ z))))
 else some (.ret (.bool false)))
noncomputable def R138 (fl : Int) : (fu : Nat) → (b0 : Bool) → (k1 k2 : Nat) → (g3 : Nat → List V) → (i4 i5 : Int) → (q6 : IntKind) → (i7 : Int) → (q8 : IntKind) → (i9 : Int) → (q10 : IntKind) → (i11 : Int) → Option Out
 | 0, _, _, _, _, _, _, _, _, _, _, _, _ => none
 | fu + 1, b0, k1, k2, g3, i4, i5, q6, i7, q8, i9, q10, i11 =>
 (bif (decide (i5 < i4)) then (bif (k2 == 3) then (bif (decide ((0 : Int) ≤ i5)) then (bif (decide (i5 < ((k1 : Nat) : Int))) then (bif ((List.length (List.take 3 (g3 (Int.toNat i5)))) == 3) then (tkCons (List.take 3 (g3 (Int.toNat i5))) none fun v18 r19 => (tkInt v18 none fun q20 n21 => (tkCons r19 none fun v22 r23 => (tkInt v22 none fun q24 n25 => (tkCons r23 none fun v26 r27 => (tkInt v26 none fun q28 n29 => (tkNil r27 none ((bif (decide (q20 = .i64)) then (bif (decide (n21 ≤ fl)) then (R138 fl fu b0 k1 k2 g3 i4 (IntKind.wrap .i64 (i5 + (1 : Int))) q20 n21 q24 n25 q28 n29)
            else (R138 fl fu b0 k1 k2 g3 i4 (IntKind.wrap .i64 (i5 + (1 : Int))) q6 i7 q8 i9 q10 i11))
            else none)))))))))
     else none)
    else none)
   else none)
  else none)
 else some (.ret (.agg [(.int q6 i7), (.int q8 i9), (.int q10 i11)])))
theorem R138xeq (env : Env) (F : Nat) (g : Nat → List V) (n : Nat) (fl : Int) : ∀ fu b0 k1 k2 g3 i4 i5 q6 i7 q8 i9 q10 i11, L9138x0 env F g n fl fu b0 k1 k2 g3 i4 i5 q6 i7 q8 i9 q10 i11 = R138 fl fu b0 k1 k2 g3 i4 i5 q6 i7 q8 i9 q10 i11 := by
 intro fu
 induction fu with
 | zero => intros; rfl
 | succ fu ih => intro b0 k1 k2 g3 i4 i5 q6 i7 q8 i9 q10 i11; rw [L9138x0s]; unfold R138; simp only [ih]
noncomputable def T138 (F : Nat) (g : Nat → List V) (n : Nat) (fl : Int) : Option Out :=
 (tkCons (List.drop 4 (g 0)) none fun v5 r6 => (tkRow v5 none fun nl7 n8 wd9 g10 => (bif (wd9 == 3) then (bif (decide ((0 : Int) < ((n8 : Nat) : Int))) then (bif ((List.length (List.take 3 (g10 0))) == 3) then (tkCons (List.take 3 (g10 0)) none fun v11 r12 => (tkInt v11 none fun q13 n14 => (tkCons r12 none fun v15 r16 => (tkInt v15 none fun q17 n18 => (tkCons r16 none fun v19 r20 => (tkInt v19 none fun q21 n22 => (tkNil r20 none ((tkCons (List.drop 4 (g 0)) none fun v23 r24 => (tkRow v23 none fun nl25 n26 wd27 g28 => (R138 fl F nl25 n26 wd27 g28 ((n26 : Nat) : Int) (0 : Int) q13 n14 q17 n18 q21 n22)))))))))))
     else none)
    else none)
   else none)))
noncomputable def qpf (F : Nat) (env : Env) (f : Nat) (a : List V) : Option Out := match a with
 | [.agg [.rptr 1 n g 0 0, .int .i64 d, .int .i64 fl, .int .i64 nom, .int .i64 u]] => bif Nat.beq f 130 then T130 env g n d fl nom u else bif Nat.beq f 131 then T131 env g n d fl nom u else bif Nat.beq f 132 then T132 env g n d fl nom u else bif Nat.beq f 133 then T133 env g n d fl nom u else bif Nat.beq f 134 then T134 env g n d fl nom u else bif Nat.beq f 135 then T135 env g n d fl nom u else bif Nat.beq f 63 then T63 env g n d fl nom u else bif Nat.beq f 99 then T99 env g n d fl nom u else bif Nat.beq f 98 then T198 env g n d fl nom u else evFun Tryz.prog (cfg F) env f [ordV g n d fl nom u]
 | [.agg [.rptr 1 n g 0 0, .int .i64 d, .int .i64 fl, .int .i64 nom, .int .i64 u], .row false m wd gv] => bif Nat.beq f 62 then T62 env g n d fl nom u m wd gv else evFun Tryz.prog (cfg F) env f [ordV g n d fl nom u, .row false m wd gv]
 | [.rptr 1 n g 0 0, .int .i64 fl] => bif Nat.beq f 138 then T138 F g n fl else evFun Tryz.prog (cfg F) env f [.rptr 1 n g 0 0, .int .i64 fl]
 | [.int .i64 x, .int .i64 y, .int .i64 z] => bif Nat.beq f 91 then T91 x y z else evFun Tryz.prog (cfg F) env f [.int .i64 x, .int .i64 y, .int .i64 z]
 | [.agg [.rptr 1 n g 0 0, .int .i64 d, .int .i64 fl, .int .i64 nom, .int .i64 u], .rptr 1 1 gp 0 0, .rptr 1 1 gd 0 0] => bif Nat.beq f 96 then T96 env g n d fl nom u gp gd else bif Nat.beq f 61 then T61 env g n d fl nom u gp gd else evFun Tryz.prog (cfg F) env f [ordV g n d fl nom u, .rptr 1 1 gp 0 0, .rptr 1 1 gd 0 0]
 | a => evFun Tryz.prog (cfg F) env f a
theorem cond_beq {f k : Nat} {α : Type} {x y z : α} (h : f = k → x = z) (h' : y = z) : cond (Nat.beq f k) x y = z := by
 cases hb : Nat.beq f k with
 | false => exact h'
 | true => exact h (Nat.eq_of_beq_eq_true hb)
theorem with123xeq (F d : Nat) : with123 (E F (d + 1)) = E F (d + 1) := by
 have h : pf123 (E F (d + 1)) = (E F (d + 1)).pf := by
  funext f a
  unfold pf123
  split
  ·rename_i n g d' fl nom u
   refine cond_beq (fun e => ?_) rfl
   subst e
   exact ((E_pf F d 123 _).trans (t9123 (E F d) F g n d' fl nom u)).symm
  ·rfl
 unfold with123
 rw [h]
theorem qpf_eq (F d : Nat) (f : Nat) (a : List V) : qpf (F + 7) (E (F + 7) (d + 1)) f a = evFun Tryz.prog (cfg (F + 7)) (E (F + 7) (d + 1)) f a := by
 unfold qpf
 split
 ·rename_i n g d' fl nom u
  refine cond_beq (fun e => by subst e; delta T130; exact (t9130 (E (F + 7) (d + 1)) (F + 7) g n d' fl nom u).symm) ?_
  refine cond_beq (fun e => by subst e; delta T131; exact (t9131 (E (F + 7) (d + 1)) (F + 7) g n d' fl nom u).symm) ?_
  refine cond_beq (fun e => by subst e; delta T132; exact (t9132 (E (F + 7) (d + 1)) (F + 7) g n d' fl nom u).symm) ?_
  refine cond_beq (fun e => by subst e; delta T133; exact (t9133 (E (F + 7) (d + 1)) (F + 7) g n d' fl nom u).symm) ?_
  refine cond_beq (fun e => by subst e; delta T134; exact (t9134 (E (F + 7) (d + 1)) (F + 7) g n d' fl nom u).symm) ?_
  refine cond_beq (fun e => by subst e; delta T135; exact (t9135 (E (F + 7) (d + 1)) (F + 7) g n d' fl nom u).symm) ?_
  refine cond_beq (fun e => by subst e; delta T63; exact (t9063 (E (F + 7) (d + 1)) (F + 7) g n d' fl nom u).symm) ?_
  refine cond_beq (fun e => by subst e; delta T99; exact (t9099 (E (F + 7) (d + 1)) (F + 7) g n d' fl nom u).symm) ?_
  refine cond_beq (fun e => ?_) rfl
  subst e
  delta T198
  have h := t9198 (E (F + 7) (d + 1)) F g n d' fl nom u
  rw [with123xeq] at h
  exact h.symm
 ·rename_i n g d' fl nom u m wd gv
  exact cond_beq (fun e => by subst e; delta T62; exact (t9062 (E (F + 7) (d + 1)) (F + 7) g n d' fl nom u m wd gv).symm) rfl
 ·rename_i n g fl
  refine cond_beq (fun e => ?_) rfl
  subst e
  delta T138
  have h := t9138 (E (F + 7) (d + 1)) (F + 7) g n fl
  simp only [R138xeq] at h
  exact h.symm
 ·rename_i x y z
  exact cond_beq (fun e => by subst e; delta T91; exact (t9091 (E (F + 7) (d + 1)) (F + 7) x y z).symm) rfl
 ·rename_i n g d' fl nom u gp gd
  refine cond_beq (fun e => by subst e; delta T96; exact (t9096 (E (F + 7) (d + 1)) (F + 7) g n d' fl nom u gp gd).symm) ?_
  exact cond_beq (fun e => by subst e; delta T61; exact (t9061 (E (F + 7) (d + 1)) (F + 7) g n d' fl nom u gp gd).symm) rfl
 ·rfl
theorem E_two (F d : Nat) : E F (d + 1) = { pf := fun f a => evFun Tryz.prog (cfg F) (E F d) f a, hv := fun f a hp => evFunH Tryz.prog (cfg F) (E F d) f a hp } := by kernel_rfl
noncomputable def QS (F : Nat) (e : Env) : Env := { pf := fun f a => qpf F e f a, hv := fun f a hp => evFunH Tryz.prog (cfg F) e f a hp }
noncomputable def QE (F : Nat) (e : Env) : Nat → Env
 | 0 => e
 | n + 1 => QS F (QE F e n)
theorem QE_eq (F d : Nat) : ∀ n, E (F + 7) (d + 1 + n) = QE (F + 7) (E (F + 7) (d + 1)) n
 | 0 => rfl
 | n + 1 => by
  have h : E (F + 7) (d + 1 + (n + 1)) = QS (F + 7) (E (F + 7) (d + 1 + n)) := by
   have e1 : d + 1 + n = d + n + 1 := by omega
   rw [show d + 1 + (n + 1) = (d + n + 1) + 1 by omega, e1]
   have h2 : (fun f a => qpf (F + 7) (E (F + 7) (d + n + 1)) f a) = fun f a => evFun Tryz.prog (cfg (F + 7)) (E (F + 7) (d + n + 1)) f a := by
    funext f a; exact qpf_eq F (d + n) f a
   unfold QS
   rw [h2]
   exact E_two (F + 7) (d + n + 1)
  rw [h, QE_eq F d n]
  rfl
end Go.Sim.Le


set_option maxRecDepth 100000
namespace Go.Sim.Le
open Go.RowKit Go.Proofs
abbrev seR : List V := [.int .i64 0, .int .i64 4, .int .i64 2, .int .i64 5, .int .i64 2, .int .i64 4]
abbrev seD : List V := [.int .i64 10, .int .i64 8, .int .i64 3, .int .i64 3, .int .i64 0, .int .i64 10, .int .i64 (-1), .int .i64 1, .int .i64 20, .int .i64 18, .int .i64 3, .int .i64 3, .int .i64 2, .int .i64 10, .int .i64 (-2), .int .i64 0, .int .i64 30, .int .i64 25, .int .i64 1, .int .i64 4, .int .i64 0, .int .i64 9, .int .i64 0, .int .i64 0]
abbrev seC : List V := [.int .i64 10, .int .i64 4, .int .i64 4, .int .i64 6, .row false 2 3 (rowGet seR 3 2), .row false 3 8 (rowGet seD 8 3)]
abbrev seN : V := .row false 3 1 (rowGet [.int .i64 0, .int .i64 (-1), .int .i64 0] 1 3)
abbrev seL : V := .rptr 1 7 (fun _ => [.int .i64 10, .int .i64 4, .int .i64 4, .int .i64 6, .row false 2 3 (rowGet seR 3 2), .row false 3 8 (rowGet seD 8 3), .nilm]) 0 0
def tg : List Int → Nat → List V
 | [] => fun _ => []
 | [v] => fun _ => [.int .i64 v]
 | v :: r => appGet r.length (tg r) (fun _ => [.int .i64 v])
noncomputable def A0 (env : Env) (F : Nat) (fu : Nat) (f : Int) (hp : List Slot) : Option Out := atLoop Tryz.prog (cfg F) env 58 [.r, .r, .l, .r, .d] [] fu { tm := tmL 113 0 [(0, seL), (1, seN), (5, (.optr 0 0 0)), (26, (.int .i64 11)), (27, (.int .i64 f))], hp := (.box 140 [(.psl 1 0 4)] true) :: hp }
noncomputable def A3 (env : Env) (F : Nat) (fu : Nat) (d : Int) (hp : List Slot) : Option Out := atLoop Tryz.prog (cfg F) env 58 [.r, .r, .r, .l, .r, .d] [] fu { tm := tmL 113 0 [(0, seL), (1, seN), (5, (.optr 0 0 0)), (8, (.optr 1 0 0))], hp := (.box 140 [(.psl 2 0 4)] true) :: (.box 3 [(.int .i64 d)] true) :: hp }
noncomputable def A5 (env : Env) (F m fu : Nat) (d f : Int) (hp : List Slot) : Option Out := atLoop Tryz.prog (cfg F) env 58 [.r, .r, .r, .l, .r, .d, .d, .r, .l, .d, .r, .d] [m] fu { tm := tmL 113 0 [(0, seL), (1, seN), (5, (.optr 0 0 0)), (8, (.optr 1 0 0)), (81, (.int .i64 11)), (82, (.int .i64 f))], hp := (.box 140 [(.psl 2 0 4)] true) :: (.box 3 [(.int .i64 d)] true) :: hp }
noncomputable abbrev Q (F d : Nat) : Env := QE (F + 3000) (E (F + 3000) (d + 1)) 57
theorem k_0 (env : Env) (F : Nat) : evFun Tryz.prog (cfg F) env 58 [seL, seN] = A0 env F F 0 [.box 32 [.row true 0 0 (fun _ => []), .row true 0 0 (fun _ => []), .row true 0 0 (fun _ => []), .row true 0 0 (fun _ => [])] true] := by kernel_rfl
theorem k3x0 (F d G fu : Nat) : A0 (Q F d) G (fu + 1) 0 [.box 32 [.row true 0 0 (fun _ => []), .row true 0 0 (fun _ => []), .row true 0 0 (fun _ => []), .row true 0 0 (fun _ => [])] true] = A0 (Q F d) G fu 1 [.box 32 [.row true 0 0 (fun _ => []), .row true 0 0 (fun _ => []), .row true 0 0 (fun _ => []), .osl 2 0 1] true, .arr 3 1 1 (tg [1000000000000000]) true] := by kernel_rfl
theorem k3x1 (F d G fu : Nat) : A0 (Q F d) G (fu + 1) 1 [.box 32 [.row true 0 0 (fun _ => []), .row true 0 0 (fun _ => []), .row true 0 0 (fun _ => []), .osl 2 0 1] true, .arr 3 1 1 (tg [1000000000000000]) true] = A0 (Q F d) G fu 2 [.box 32 [.row true 0 0 (fun _ => []), .row true 0 0 (fun _ => []), .row true 0 0 (fun _ => []), .osl 2 0 2] true, .arr 3 1 2 (tg [1000000000000000, 1000000000000000]) true] := by kernel_rfl
theorem k3x2 (F d G fu : Nat) : A0 (Q F d) G (fu + 1) 2 [.box 32 [.row true 0 0 (fun _ => []), .row true 0 0 (fun _ => []), .row true 0 0 (fun _ => []), .osl 2 0 2] true, .arr 3 1 2 (tg [1000000000000000, 1000000000000000]) true] = A0 (Q F d) G fu 3 [.box 32 [.row true 0 0 (fun _ => []), .row true 0 0 (fun _ => []), .row true 0 0 (fun _ => []), .osl 2 0 3] true, .arr 3 1 3 (tg [1000000000000000, 1000000000000000, 1000000000000000]) true] := by kernel_rfl
theorem k3x3 (F d G fu : Nat) : A0 (Q F d) G (fu + 1) 3 [.box 32 [.row true 0 0 (fun _ => []), .row true 0 0 (fun _ => []), .row true 0 0 (fun _ => []), .osl 2 0 3] true, .arr 3 1 3 (tg [1000000000000000, 1000000000000000, 1000000000000000]) true] = A0 (Q F d) G fu 4 [.box 32 [.row true 0 0 (fun _ => []), .row true 0 0 (fun _ => []), .row true 0 0 (fun _ => []), .osl 2 0 4] true, .arr 3 1 4 (tg [1000000000000000, 1000000000000000, 1000000000000000, 1000000000000000]) true] := by kernel_rfl
theorem k3x4 (F d G fu : Nat) : A0 (Q F d) G (fu + 1) 4 [.box 32 [.row true 0 0 (fun _ => []), .row true 0 0 (fun _ => []), .row true 0 0 (fun _ => []), .osl 2 0 4] true, .arr 3 1 4 (tg [1000000000000000, 1000000000000000, 1000000000000000, 1000000000000000]) true] = A0 (Q F d) G fu 5 [.box 32 [.row true 0 0 (fun _ => []), .row true 0 0 (fun _ => []), .row true 0 0 (fun _ => []), .osl 2 0 5] true, .arr 3 1 5 (tg [0, 1000000000000000, 1000000000000000, 1000000000000000, 1000000000000000]) true] := by kernel_rfl
theorem k3x5 (F d G fu : Nat) : A0 (Q F d) G (fu + 1) 5 [.box 32 [.row true 0 0 (fun _ => []), .row true 0 0 (fun _ => []), .row true 0 0 (fun _ => []), .osl 2 0 5] true, .arr 3 1 5 (tg [0, 1000000000000000, 1000000000000000, 1000000000000000, 1000000000000000]) true] = A0 (Q F d) G fu 6 [.box 32 [.row true 0 0 (fun _ => []), .row true 0 0 (fun _ => []), .row true 0 0 (fun _ => []), .osl 2 0 6] true, .arr 3 1 6 (tg [0, 0, 1000000000000000, 1000000000000000, 1000000000000000, 1000000000000000]) true] := by kernel_rfl
theorem k3x6 (F d G fu : Nat) : A0 (Q F d) G (fu + 1) 6 [.box 32 [.row true 0 0 (fun _ => []), .row true 0 0 (fun _ => []), .row true 0 0 (fun _ => []), .osl 2 0 6] true, .arr 3 1 6 (tg [0, 0, 1000000000000000, 1000000000000000, 1000000000000000, 1000000000000000]) true] = A0 (Q F d) G fu 7 [.box 32 [.row true 0 0 (fun _ => []), .row true 0 0 (fun _ => []), .row true 0 0 (fun _ => []), .osl 2 0 7] true, .arr 3 1 7 (tg [0, 0, 0, 1000000000000000, 1000000000000000, 1000000000000000, 1000000000000000]) true] := by kernel_rfl
theorem k3x7 (F d G fu : Nat) : A0 (Q F d) G (fu + 1) 7 [.box 32 [.row true 0 0 (fun _ => []), .row true 0 0 (fun _ => []), .row true 0 0 (fun _ => []), .osl 2 0 7] true, .arr 3 1 7 (tg [0, 0, 0, 1000000000000000, 1000000000000000, 1000000000000000, 1000000000000000]) true] = A0 (Q F d) G fu 8 [.box 32 [.row true 0 0 (fun _ => []), .row true 0 0 (fun _ => []), .row true 0 0 (fun _ => []), .osl 2 0 8] true, .arr 3 1 8 (tg [1000000000000000, 0, 0, 0, 1000000000000000, 1000000000000000, 1000000000000000, 1000000000000000]) true] := by kernel_rfl
theorem k3x8 (F d G fu : Nat) : A0 (Q F d) G (fu + 1) 8 [.box 32 [.row true 0 0 (fun _ => []), .row true 0 0 (fun _ => []), .row true 0 0 (fun _ => []), .osl 2 0 8] true, .arr 3 1 8 (tg [1000000000000000, 0, 0, 0, 1000000000000000, 1000000000000000, 1000000000000000, 1000000000000000]) true] = A0 (Q F d) G fu 9 [.box 32 [.row true 0 0 (fun _ => []), .row true 0 0 (fun _ => []), .row true 0 0 (fun _ => []), .osl 2 0 9] true, .arr 3 1 9 (tg [1000000000000000, 1000000000000000, 0, 0, 0, 1000000000000000, 1000000000000000, 1000000000000000, 1000000000000000]) true] := by kernel_rfl
theorem k3x9 (F d G fu : Nat) : A0 (Q F d) G (fu + 1) 9 [.box 32 [.row true 0 0 (fun _ => []), .row true 0 0 (fun _ => []), .row true 0 0 (fun _ => []), .osl 2 0 9] true, .arr 3 1 9 (tg [1000000000000000, 1000000000000000, 0, 0, 0, 1000000000000000, 1000000000000000, 1000000000000000, 1000000000000000]) true] = A0 (Q F d) G fu 10 [.box 32 [.row true 0 0 (fun _ => []), .row true 0 0 (fun _ => []), .row true 0 0 (fun _ => []), .osl 2 0 10] true, .arr 3 1 10 (tg [1000000000000000, 1000000000000000, 1000000000000000, 0, 0, 0, 1000000000000000, 1000000000000000, 1000000000000000, 1000000000000000]) true] := by kernel_rfl
theorem k3x10 (F d G fu : Nat) : A0 (Q F d) G (fu + 1) 10 [.box 32 [.row true 0 0 (fun _ => []), .row true 0 0 (fun _ => []), .row true 0 0 (fun _ => []), .osl 2 0 10] true, .arr 3 1 10 (tg [1000000000000000, 1000000000000000, 1000000000000000, 0, 0, 0, 1000000000000000, 1000000000000000, 1000000000000000, 1000000000000000]) true] = A0 (Q F d) G fu 11 [.box 32 [.row true 0 0 (fun _ => []), .row true 0 0 (fun _ => []), .row true 0 0 (fun _ => []), .osl 2 0 11] true, .arr 3 1 11 (tg [1000000000000000, 1000000000000000, 1000000000000000, 1000000000000000, 0, 0, 0, 1000000000000000, 1000000000000000, 1000000000000000, 1000000000000000]) true] := by kernel_rfl
theorem k3xe (env : Env) (F : Nat) (fu : Nat) : A0 env F (fu + 1) 11 [.box 32 [.row true 0 0 (fun _ => []), .row true 0 0 (fun _ => []), .row true 0 0 (fun _ => []), .osl 2 0 11] true, .arr 3 1 11 (tg [1000000000000000, 1000000000000000, 1000000000000000, 1000000000000000, 0, 0, 0, 1000000000000000, 1000000000000000, 1000000000000000, 1000000000000000]) true] = A3 env F F 2 [.box 32 [.row true 0 0 (fun _ => []), .row true 0 0 (fun _ => []), .row true 0 0 (fun _ => []), .osl 3 0 11] true, .arr 3 1 11 (tg [1000000000000000, 1000000000000000, 1000000000000000, 1000000000000000, 0, 0, 0, 1000000000000000, 1000000000000000, 1000000000000000, 1000000000000000]) true] := by kernel_rfl
end Go.Sim.Le
