import Derived.Test.YtmjmhccjkmjahaaGreatAh
set_option linter.unusedVariables false
set_option linter.unusedSimpArgs false
set_option linter.unusedSectionVars false

set_option maxRecDepth 100000
namespace Go.Sim.Cr
open Go.Proofs
section
variable {s : Site} {low rest : Sl Int} {wm : Span}
noncomputable abbrev dayR (s : Site) (low rest : Sl Int) (wm : Span) (r : Rw) : Day := dayQ s low rest wm (fun i => hasR r (i : Int))
theorem dayQ_same {q q' : Nat → Bool} (h1 : 1 ≤ s.cavs.len) (h : ∀ i, i < s.cavs.len → q i = q' i) : dayQ s low rest wm q = dayQ s low rest wm q' := by
 unfold dayQ outL
 have : (fun i => pickQ low rest q (min i (s.cavs.len - 1))) = fun i => pickQ low rest q' (min i (s.cavs.len - 1)) := by
  funext i
  unfold pickQ
  rw [h _ (by omega)]
 rw [this]
end
section
variable (F d : Nat) (s : Site) (low rest : Sl Int) (wm : Span)
theorem pickR (q : Nat → Bool) (i : Nat) : (bif q i then [V.int .i64 (low.el i), V.int .i64 (low.el i)] else [V.int .i64 (rest.el i), V.int .i64 (rest.el i)]) = eSpan (pickQ low rest q i) := by
 cases h : q i
 ·rw [cond_false, pick_f h]
 ·rw [cond_true, pick_t h]
theorem l9015x2 (a : Sl Rw) (m0 : Nat) (hl : low.len = s.cavs.len) (hr : rest.len = s.cavs.len) (h5 : s.cavs.len ≤ 5) (h0 : 0 < a.len) (hok : RwOk (a.el 0)) (hB : (a.el 0).len < 4611686018427387904) (hBF : (a.el 0).len < F) : ∀ n i fu, s.cavs.len = i + n → n < fu → 1 ≤ i →
  L9015x2 (E F (d + 1)) F s low rest wm a m0 fu (i : Int) i i i (fun j => eSpan (pickQ low rest (fun i => hasR (a.el 0) (i : Int)) (min j (i - 1)))) i (fun _ => eSpan wm) = L9015x3 (E F (d + 1)) F s low rest wm a m0 1 ((1 : Nat) : Int) 1 (fun _ => eDay (dayR s low rest wm (a.el 0))) := by
 intro n
 induction n with
 | zero =>
  intro i fu h hf h1
  obtain ⟨fu, rfl⟩ : ∃ q, fu = q + 1 := ⟨fu - 1, by omega⟩
  obtain rfl : i = s.cavs.len := by omega
  rw [L9015x2s, decide_eq_false (show ¬ ((s.cavs.len : Nat) : Int) < ((s.cavs.len : Nat) : Int) by omega), cond_false]
  rw [show IntKind.wrap .i64 ((0 : Int) + 1) = ((1 : Nat) : Int) from wr1]
  rfl
 | succ n ih =>
  intro i fu h hf h1
  obtain ⟨fu, rfl⟩ : ∃ q, fu = q + 1 := ⟨fu - 1, by omega⟩
  have hi : i < s.cavs.len := by omega
  have e50 := s9050 F d (a.el 0) (i : Int) hok hB hBF
  rw [L9015x2s]
  simp only [Int.ofNat_lt, hi, show i < rest.len by omega, show i < low.len by omega, zlt h0, decide_true, pT, Int.natCast_nonneg, Int.toNat_natCast, e50, pOut, qBool, show (i + 1) * 16 ≤ 140737488355328 by omega, wrS (show i < 4611686018427387904 by omega), app_same]
  have g := ih (i + 1) fu (by omega) (by omega) (by omega)
  rw [show i + 1 - 1 = i from rfl, ← app_enc eSpan (pickQ low rest (fun i => hasR (a.el 0) (i : Int))) h1] at g
  have e1 := pickR low rest (fun i => hasR (a.el 0) (i : Int)) i
  cases hq : hasR (a.el 0) (i : Int) with
  | true =>
   rw [hq, cond_true] at e1
   rw [cond_true, e1]; exact g
  | false =>
   rw [hq, cond_false] at e1
   rw [cond_false, e1]; exact g
theorem l9015x5 (a : Sl Rw) (m0 : Nat) (t kd : Nat) (g4 : Nat → List V) (htl : t < a.len) (ht100 : t ≤ 100) (hkd : kd ≤ 100) (hl : low.len = s.cavs.len) (hr : rest.len = s.cavs.len) (h5 : s.cavs.len ≤ 5) (h0 : 0 < a.len) (hok : RwOk (a.el t)) (hB : (a.el t).len < 4611686018427387904) (hBF : (a.el t).len < F) : ∀ n i fu, s.cavs.len = i + n → n < fu → 1 ≤ i →
  L9015x5 (E F (d + 1)) F s low rest wm a m0 fu kd (t : Int) (i : Int) kd g4 i i i (fun j => eSpan (pickQ low rest (fun i => hasR (a.el t) (i : Int)) (min j (i - 1)))) i (fun _ => eSpan wm) = L9015x3 (E F (d + 1)) F s low rest wm a m0 (kd + 1) ((t + 1 : Nat) : Int) (kd + 1) (appGet kd g4 (fun _ => eDay (dayR s low rest wm (a.el t)))) := by
 intro n
 induction n with
 | zero =>
  intro i fu h hf h1
  obtain ⟨fu, rfl⟩ : ∃ q, fu = q + 1 := ⟨fu - 1, by omega⟩
  obtain rfl : i = s.cavs.len := by omega
  rw [L9015x5s, decide_eq_false (show ¬ ((s.cavs.len : Nat) : Int) < ((s.cavs.len : Nat) : Int) by omega), cond_false]
  rw [decide_eq_true (show (kd + 1) * 48 ≤ 140737488355328 by omega), cond_true, wrS (show t < 4611686018427387904 by omega)]
  rfl
 | succ n ih =>
  intro i fu h hf h1
  obtain ⟨fu, rfl⟩ : ∃ q, fu = q + 1 := ⟨fu - 1, by omega⟩
  have hi : i < s.cavs.len := by omega
  have e50 := s9050 F d (a.el t) (i : Int) hok hB hBF
  rw [L9015x5s]
  simp only [Int.ofNat_lt, hi, show i < rest.len by omega, show i < low.len by omega, htl, decide_true, pT, Int.natCast_nonneg, Int.toNat_natCast, e50, pOut, qBool, show (i + 1) * 16 ≤ 140737488355328 by omega, wrS (show i < 4611686018427387904 by omega), app_same]
  have g := ih (i + 1) fu (by omega) (by omega) (by omega)
  rw [show i + 1 - 1 = i from rfl, ← app_enc eSpan (pickQ low rest (fun i => hasR (a.el t) (i : Int))) h1] at g
  have e1 := pickR low rest (fun i => hasR (a.el t) (i : Int)) i
  cases hq : hasR (a.el t) (i : Int) with
  | true =>
   rw [hq, cond_true] at e1
   rw [cond_true, e1]; exact g
  | false =>
   rw [hq, cond_false] at e1
   rw [cond_false, e1]; exact g
theorem start_pick (q : Nat → Bool) : (fun j => eSpan (pickQ low rest q (min j (1 - 1)))) = fun _ => eSpan (pickQ low rest q 0) := by funext j; rw [show min j (1 - 1) = 0 from Nat.min_zero j]
theorem l9015x3 (a : Sl Rw) (hl : low.len = s.cavs.len) (hr : rest.len = s.cavs.len) (h1 : 1 ≤ s.cavs.len) (h5 : s.cavs.len ≤ 5) (h0 : 0 < a.len) (h100 : a.len ≤ 100) (hok : ∀ i, i < a.len → RwOk (a.el i) ∧ (a.el i).len < 4611686018427387904 ∧ (a.el i).len < F) (hF : 8 < F) : ∀ n t fu, a.len = t + n → n < fu → 1 ≤ t →
  L9015x3 (E F (d + 1)) F s low rest wm a fu t (t : Int) t (fun j => eDay (dayR s low rest wm (a.el (min j (t - 1))))) = some (.ret (sl eDay 2 (outL a.len (fun i => dayR s low rest wm (a.el i))))) := by
 intro n
 induction n with
 | zero =>
  intro t fu h hf ht
  obtain ⟨fu, rfl⟩ : ∃ q, fu = q + 1 := ⟨fu - 1, by omega⟩
  obtain rfl : t = a.len := by omega
  rw [L9015x3s, decide_eq_false (show ¬ ((a.len : Nat) : Int) < ((a.len : Nat) : Int) by omega), cond_false]
  rfl
 | succ n ih =>
  intro t fu h hf ht
  obtain ⟨fu, rfl⟩ : ∃ q, fu = q + 1 := ⟨fu - 1, by omega⟩
  have htl : t < a.len := by omega
  obtain ⟨k1, k2, k3⟩ := hok t htl
  obtain ⟨fu', hfu'⟩ : ∃ q, F = q + 1 := ⟨F - 1, by omega⟩
  have e50 := s9050 F d (a.el t) ((0 : Nat) : Int) k1 k2 k3
  have e1 := pickR low rest (fun i => hasR (a.el t) (i : Int)) 0
  rw [L9015x3s, decide_eq_true (show (t : Int) < (a.len : Int) by omega), cond_true]
  have gst := L9015x4s (E F (d + 1)) F s low rest wm a fu fu' t (t : Int) t (fun j => eDay (dayR s low rest wm (a.el (min j (t - 1)))))
  rw [← hfu'] at gst
  rw [gst]
  have e50' : (E F (d + 1)).pf 50 [.row (a.el t).nl (a.el t).len (a.el t).wd (a.el t).get, .int .i64 0] = some (.ret (.bool (hasR (a.el t) ((0 : Nat) : Int)))) := e50
  simp only [zlt (show 0 < s.cavs.len by omega), zlt (show 0 < rest.len by omega), zlt (show 0 < low.len by omega), pT, Int.natCast_nonneg, decide_true, Int.ofNat_lt, htl, Int.toNat_natCast, e50', pOut, qBool, wr1]
  have g := l9015x5 F d s low rest wm a fu t t (fun j => eDay (dayR s low rest wm (a.el (min j (t - 1))))) htl (by omega) (by omega) hl hr h5 h0 k1 k2 k3 (s.cavs.len - 1) 1 fu' (by omega) (by omega) (Nat.le_refl _)
  rw [start_pick, app_enc (fun y => eDay y) (fun i => dayR s low rest wm (a.el i)) ht] at g
  have ihh := ih (t + 1) fu (by omega) (by omega) (by omega)
  rw [show t + 1 - 1 = t from rfl] at ihh
  have g2 := g.trans ihh
  cases hq : hasR (a.el t) ((0 : Nat) : Int) with
  | true =>
   rw [hq, cond_true] at e1
   rw [cond_true, e1]; exact g2
  | false =>
   rw [hq, cond_false] at e1
   rw [cond_false, e1]; exact g2
theorem s9015 (a : Sl Rw) (hl : low.len = s.cavs.len) (hr : rest.len = s.cavs.len) (h1 : 1 ≤ s.cavs.len) (h5 : s.cavs.len ≤ 5) (h0 : 0 < a.len) (h100 : a.len ≤ 100) (hok : ∀ i, i < a.len → RwOk (a.el i) ∧ (a.el i).len < 4611686018427387904 ∧ (a.el i).len < F) (hF : 200 < F) :
  (E F (d + 2)).pf 15 [.agg (eSite s), sl eInt 1 low, sl eInt 1 rest, .agg (eSpan wm), sl eRw 1 a] = some (.ret (sl eDay 2 (outL a.len (fun i => dayR s low rest wm (a.el i))))) := by
 obtain ⟨k1, k2, k3⟩ := hok 0 h0
 obtain ⟨fu, hfu⟩ : ∃ q, F = q + 1 := ⟨F - 1, by omega⟩
 have e50 := s9050 F d (a.el 0) ((0 : Nat) : Int) k1 k2 k3
 have e50' : (E F (d + 1)).pf 50 [.row (a.el 0).nl (a.el 0).len (a.el 0).wd (a.el 0).get, .int .i64 0] = some (.ret (.bool (hasR (a.el 0) ((0 : Nat) : Int)))) := e50
 have e1 := pickR low rest (fun i => hasR (a.el 0) (i : Int)) 0
 have g0 := L9015x0s (E F (d + 1)) F s low rest wm a fu
 rw [← hfu] at g0
 have g1 := L9015x1s (E F (d + 1)) F s low rest wm a fu fu
 rw [← hfu] at g1
 rw [E_pf, t9015, g0, zlt h0, cond_true, g1]
 simp only [zlt (show 0 < s.cavs.len by omega), zlt (show 0 < rest.len by omega), zlt (show 0 < low.len by omega), zlt h0, pT, e50', pOut, qBool, wr1]
 have g := l9015x2 F d s low rest wm a fu hl hr h5 h0 k1 k2 k3 (s.cavs.len - 1) 1 fu (by omega) (by omega) (Nat.le_refl _)
 rw [start_pick] at g
 have g3 := l9015x3 F d s low rest wm a hl hr h1 h5 h0 h100 hok (by omega) (a.len - 1) 1 fu (by omega) (by omega) (Nat.le_refl _)
 have e3 : (fun j => eDay (dayR s low rest wm (a.el (min j (1 - 1))))) = fun _ => eDay (dayR s low rest wm (a.el 0)) := by funext j; rw [show min j (1 - 1) = 0 from Nat.min_zero j]
 rw [e3] at g3
 have g2 := g.trans g3
 cases hq : hasR (a.el 0) ((0 : Nat) : Int) with
 | true =>
  rw [hq, cond_true] at e1
  rw [cond_true, e1]; exact g2
 | false =>
  rw [hq, cond_false] at e1
  rw [cond_false, e1]; exact g2
noncomputable def holdsR (a : Sl Rw) : Bool := (refFrom s (outL a.len (fun i => dayR s low rest wm (a.el i))) false a.len 0 (begin s)).rule == 1
theorem s9075 (a : Sl Rw) (hS : SiteF s) (hl : PresOk s low) (hr : PresOk s rest) (hw : SpanIn wm 0 10000) (h0 : 0 < a.len) (h100 : a.len ≤ 100) (hok : ∀ i, i < a.len → RwOk (a.el i) ∧ (a.el i).len < 4611686018427387904 ∧ (a.el i).len < F) (hF : 2147483648 < F) :
  (E F (d + 6)).pf 75 [.agg (eSite s), sl eInt 1 low, sl eInt 1 rest, .agg (eSpan wm), sl eRw 1 a] = some (.ret (.bool (holdsR s low rest wm a))) := by
 have e15 := s9015 F (d + 3) s low rest wm a hl.1 hr.1 hS.cavs1 hS.cavs5 h0 h100 hok (by omega)
 have hD : DaysOk s (outL a.len (fun i => dayR s low rest wm (a.el i))) := fun i hi => by
  rw [outL_el (show i < a.len from hi)]
  exact dayQ_ok hl hr hw _
 have e96 : (E F (d + 5)).pf 96 [.agg (eSite s), .row (outL a.len (fun i => dayR s low rest wm (a.el i))).nl (outL a.len (fun i => dayR s low rest wm (a.el i))).len 2 (fun i => eDay ((outL a.len (fun i => dayR s low rest wm (a.el i))).el i)), .bool false] = _ := s31 F d s (outL a.len (fun i => dayR s low rest wm (a.el i))) false hS hD h100 hF
 rw [E_pf, t9075, e15]
 simp only [pOut, qRow, e96, pAgg, pCons, pInt, pNil, decide_true, pT]
 rfl
theorem s9175 (hS : SiteF s) (hF : 8 < F) : (E F (d + 6)).pf 75 [.agg (eSite s), sl eInt 1 low, sl eInt 1 rest, .agg (eSpan wm), .row true 0 0 (fun _ => [])] = some (.ret (.bool true)) := by
 obtain ⟨fu, hfu⟩ : ∃ q, F = q + 1 := ⟨F - 1, by omega⟩
 have e15 : (E F (d + 5)).pf 15 [.agg (eSite s), sl eInt 1 low, sl eInt 1 rest, .agg (eSpan wm), .row true 0 0 (fun _ => [])] = some (.ret (.row true 0 0 (fun _ => []))) := by
  have g := L9115x0s (E F (d + 4)) F s low rest wm 0 (fun _ => []) fu
  rw [← hfu] at g
  rw [E_pf, t9115, g]
 have e96 : (E F (d + 5)).pf 96 [.agg (eSite s), .row true 0 0 (fun _ => []), .bool false] = some (.ret (.agg [.int .i64 0, .int .i64 1, .int .i64 0, .int .i64 0])) := by
  have e115 := s38 F (d + 3) s hS.cavs1 hS.cavs5 (by omega)
  have g := L9196x0s (E F (d + 4)) F s false fu (begin s).nl (begin s).len 6 (fun i => eStt ((begin s).el i))
  rw [← hfu] at g
  rw [E_pf, t9196, e115, pOut, qRow, g]
 rw [E_pf, t9175, e15]
 simp only [pOut, qRow, e96, pAgg, pCons, pInt, pNil, decide_true, pT]
 rfl
end
noncomputable def okFrom (s : Site) (l : Sl Day) : Nat → Nat → Sl Stt → Bool
 | 0, _, _ => true
 | r + 1, i, now => okDay s (l.el i) (prevOf l i) now && okFrom s l r (i + 1) (moved s now (l.el i))
theorem fR_rule {n : Int} {is : Mark → Bool} : ∀ {l : List (Int × List Mark)} {f : Fault}, (∀ p ∈ l, p.1 ≠ 1) → faultR n is l = some f → f.rule ≠ 1
 | [], f, _, h => by cases h
 | (k, ms) :: a, f, hp, h => by
  unfold faultR at h
  cases hm : ms.find? is with
  | some m => rw [hm] at h; cases h; exact hp (k, ms) (by simp)
  | none => rw [hm] at h; exact fR_rule (fun p hq => hp p (by simp [hq])) h
theorem ref_ok {s : Site} {l : Sl Day} : ∀ r i now, ((refFrom s l false r i now).rule == 1) = okFrom s l r i now
 | 0, _, _ => rfl
 | r + 1, i, now => by
  unfold refFrom okFrom okDay
  rw [Bool.and_false, cond_false]
  have he : ∀ p ∈ earlyMs s (l.el i) (prevOf l i), p.1 ≠ 1 := by intro p hp; simp only [earlyMs, List.mem_cons, List.not_mem_nil, or_false] at hp; rcases hp with rfl | rfl | rfl <;> simp
  have hl : ∀ p ∈ lateMs s (some (moved s now (l.el i))), p.1 ≠ 1 := by intro p hp; simp only [lateMs, List.mem_cons, List.not_mem_nil, or_false] at hp; rcases hp with rfl | rfl | rfl <;> simp
  cases hfar : farDay s (l.el i) with
  | true =>
   obtain ⟨f, e⟩ := far_early hfar (i : Int) (prevOf l i)
   rw [e]
   have := fR_rule he e
   simp only [Bool.not_true, Bool.false_and, beq_eq_false_iff_ne, ne_eq]
   exact this
  | false =>
   rw [marks_parts, faultR_n 0 (i : Int), faultR_append, ← isM_f]
   cases e1 : faultR (i : Int) (isM false) (earlyMs s (l.el i) (prevOf l i)) with
   | some f =>
    have := fR_rule he e1
    simp only [Option.isNone_some, Bool.and_false, Bool.false_and, beq_eq_false_iff_ne, ne_eq]
    exact this
   | none =>
    cases e2 : faultR (i : Int) (isM false) (lateMs s (some (moved s now (l.el i)))) with
    | some f =>
     have := fR_rule hl e2
     simp only [Option.isNone_some, Bool.and_false, Bool.false_and, beq_eq_false_iff_ne, ne_eq]
     exact this
    | none =>
     simp only [Option.isNone_none, Bool.not_false, Bool.and_self, Bool.true_and]
     exact ref_ok r (i + 1) (moved s now (l.el i))
end Go.Sim.Cr


set_option maxRecDepth 100000
namespace Go.Sim.Cr
open Go.Proofs
def isIs : Nat → (Nat → List V) → List Int → Bool
 | _, _, [] => true
 | i, g, x :: r => (match g i with | [.int .i64 n] => n == x | _ => false) && isIs (i + 1) g r
def rowIs (o : Option Out) (l : List Int) : Bool := match o with
 | some (.ret (.row _ n w g)) => (n == l.length && (l.isEmpty || w == 1)) && isIs 0 g l
 | _ => false
theorem isIs_at : ∀ (l : List Int) (i : Nat) (g : Nat → List V), isIs i g l = true → ∀ j, j < l.length → g (i + j) = [.int .i64 (l.getD j 0)]
 | [], _, _, _, j, hj => by simp at hj
 | x :: r, i, g, h, j, hj => by
  simp only [isIs, Bool.and_eq_true] at h
  obtain ⟨h1, h2⟩ := h
  cases j with
  | zero =>
   split at h1
   ·rename_i n he
    rw [Nat.add_zero, he, eq_of_beq h1]; rfl
   ·cases h1
  | succ j =>
   have := isIs_at r (i + 1) g h2 j (by simpa using hj)
   rw [show i + 1 + j = i + (j + 1) by omega] at this
   exact this
theorem row_of {o : Option Out} {l : List Int} (h : rowIs o l = true) : ∃ r : Rw, o = some (.ret (.row r.nl r.len r.wd r.get)) ∧ RIs r l := by
 unfold rowIs at h
 split at h
 ·rename_i nl n w g
  simp only [Bool.and_eq_true, Bool.or_eq_true, beq_iff_eq] at h
  obtain ⟨⟨h1, h2⟩, h3⟩ := h
  refine ⟨⟨nl, n, w, g⟩, rfl, h1, fun hl => ?_, fun i hi => ?_⟩
  ·rcases h2 with h2 | h2
   ·cases l with | nil => exact absurd rfl hl | cons => cases h2
   ·exact h2
  ·have := isIs_at l 0 g h3 i hi
   rw [Nat.zero_add] at this
   exact this
 ·cases h
def rwsIs : Nat → (Nat → List V) → List (List Int) → Bool
 | _, _, [] => true
 | i, g, x :: r => (match g i with | [v] => rowIs (some (.ret v)) x | _ => false) && rwsIs (i + 1) g r
def rowsIs (o : Option Out) (l : List (List Int)) : Bool := match o with
 | some (.ret (.row _ n w g)) => (n == l.length && w == 1) && rwsIs 0 g l
 | _ => false
theorem rwsIs_at : ∀ (l : List (List Int)) (i : Nat) (g : Nat → List V), rwsIs i g l = true → ∀ j, j < l.length → ∃ r : Rw, g (i + j) = eRw r ∧ RIs r (l.getD j [])
 | [], _, _, _, j, hj => by simp at hj
 | x :: r, i, g, h, j, hj => by
  simp only [rwsIs, Bool.and_eq_true] at h
  obtain ⟨h1, h2⟩ := h
  cases j with
  | zero =>
   split at h1
   ·rename_i v he
    obtain ⟨q, hq, hr⟩ := row_of h1
    refine ⟨q, ?_, hr⟩
    rw [Nat.add_zero, he]
    injection hq with hq
    injection hq with hq
    rw [hq]
   ·cases h1
  | succ j =>
   obtain ⟨q, hq, hr⟩ := rwsIs_at r (i + 1) g h2 j (by simpa using hj)
   rw [show i + 1 + j = i + (j + 1) by omega] at hq
   exact ⟨q, hq, hr⟩
theorem rows_of {o : Option Out} {l : List (List Int)} (h : rowsIs o l = true) : ∃ nl g, o = some (.ret (.row nl l.length 1 g)) ∧ ∀ j, j < l.length → ∃ r : Rw, g j = eRw r ∧ RIs r (l.getD j []) := by
 unfold rowsIs at h
 split at h
 ·rename_i nl n w g
  simp only [Bool.and_eq_true, beq_iff_eq] at h
  obtain ⟨⟨rfl, rfl⟩, h3⟩ := h
  refine ⟨nl, g, rfl, fun j hj => ?_⟩
  have := rwsIs_at l 0 g h3 j hj
  rw [Nat.zero_add] at this
  exact this
 ·cases h
def setsOf (c m : Nat) : List Int := match c, m with
 | 1, 0 => [0]
 | 1, 1 => [1]
 | 2, 0 => [0]
 | 2, 1 => [1, 2]
 | 2, 2 => [3]
 | 3, 0 => [0]
 | 3, 1 => [1, 2, 4]
 | 3, 2 => [3, 5, 6]
 | 3, 3 => [7]
 | 4, 0 => [0]
 | 4, 1 => [1, 2, 4, 8]
 | 4, 2 => [3, 5, 9, 6, 10, 12]
 | 4, 3 => [7, 11, 13, 14]
 | 4, 4 => [15]
 | _, _ => []
def lstN (b : Nat) : List Int := match b with
 | 0 => []
 | 1 => [0]
 | 2 => [1]
 | 3 => [0, 1]
 | 4 => [2]
 | 5 => [0, 2]
 | 6 => [1, 2]
 | 7 => [0, 1, 2]
 | 8 => [3]
 | 9 => [0, 3]
 | 10 => [1, 3]
 | 11 => [0, 1, 3]
 | 12 => [2, 3]
 | 13 => [0, 2, 3]
 | 14 => [1, 2, 3]
 | 15 => [0, 1, 2, 3]
 | _ => []
def lstOf (b : Int) : List Int := lstN b.toNat
theorem k37x0 (F d : Nat) : rowIs ((E (F + 3000) (d + 40)).pf 37 [.int .i64 0]) (lstOf 0) = true := by kernel_rfl
theorem k37x1 (F d : Nat) : rowIs ((E (F + 3000) (d + 40)).pf 37 [.int .i64 1]) (lstOf 1) = true := by kernel_rfl
theorem k37x2 (F d : Nat) : rowIs ((E (F + 3000) (d + 40)).pf 37 [.int .i64 2]) (lstOf 2) = true := by kernel_rfl
theorem k37x3 (F d : Nat) : rowIs ((E (F + 3000) (d + 40)).pf 37 [.int .i64 3]) (lstOf 3) = true := by kernel_rfl
theorem k37x4 (F d : Nat) : rowIs ((E (F + 3000) (d + 40)).pf 37 [.int .i64 4]) (lstOf 4) = true := by kernel_rfl
theorem k37x5 (F d : Nat) : rowIs ((E (F + 3000) (d + 40)).pf 37 [.int .i64 5]) (lstOf 5) = true := by kernel_rfl
theorem k37x6 (F d : Nat) : rowIs ((E (F + 3000) (d + 40)).pf 37 [.int .i64 6]) (lstOf 6) = true := by kernel_rfl
theorem k37x7 (F d : Nat) : rowIs ((E (F + 3000) (d + 40)).pf 37 [.int .i64 7]) (lstOf 7) = true := by kernel_rfl
theorem k37x8 (F d : Nat) : rowIs ((E (F + 3000) (d + 40)).pf 37 [.int .i64 8]) (lstOf 8) = true := by kernel_rfl
theorem k37x9 (F d : Nat) : rowIs ((E (F + 3000) (d + 40)).pf 37 [.int .i64 9]) (lstOf 9) = true := by kernel_rfl
theorem k37x10 (F d : Nat) : rowIs ((E (F + 3000) (d + 40)).pf 37 [.int .i64 10]) (lstOf 10) = true := by kernel_rfl
theorem k37x11 (F d : Nat) : rowIs ((E (F + 3000) (d + 40)).pf 37 [.int .i64 11]) (lstOf 11) = true := by kernel_rfl
theorem k37x12 (F d : Nat) : rowIs ((E (F + 3000) (d + 40)).pf 37 [.int .i64 12]) (lstOf 12) = true := by kernel_rfl
theorem k37x13 (F d : Nat) : rowIs ((E (F + 3000) (d + 40)).pf 37 [.int .i64 13]) (lstOf 13) = true := by kernel_rfl
theorem k37x14 (F d : Nat) : rowIs ((E (F + 3000) (d + 40)).pf 37 [.int .i64 14]) (lstOf 14) = true := by kernel_rfl
theorem k37x15 (F d : Nat) : rowIs ((E (F + 3000) (d + 40)).pf 37 [.int .i64 15]) (lstOf 15) = true := by kernel_rfl
theorem k33x10 (F d : Nat) : rowIs ((E (F + 3000) (d + 50)).pf 33 [.int .i64 1, .int .i64 0]) (setsOf 1 0) = true := by kernel_rfl
theorem k33x11 (F d : Nat) : rowIs ((E (F + 3000) (d + 50)).pf 33 [.int .i64 1, .int .i64 1]) (setsOf 1 1) = true := by kernel_rfl
theorem k33x20 (F d : Nat) : rowIs ((E (F + 3000) (d + 50)).pf 33 [.int .i64 2, .int .i64 0]) (setsOf 2 0) = true := by kernel_rfl
theorem k33x21 (F d : Nat) : rowIs ((E (F + 3000) (d + 50)).pf 33 [.int .i64 2, .int .i64 1]) (setsOf 2 1) = true := by kernel_rfl
theorem k33x22 (F d : Nat) : rowIs ((E (F + 3000) (d + 50)).pf 33 [.int .i64 2, .int .i64 2]) (setsOf 2 2) = true := by kernel_rfl
theorem k33x30 (F d : Nat) : rowIs ((E (F + 3000) (d + 50)).pf 33 [.int .i64 3, .int .i64 0]) (setsOf 3 0) = true := by kernel_rfl
theorem k33x31 (F d : Nat) : rowIs ((E (F + 3000) (d + 50)).pf 33 [.int .i64 3, .int .i64 1]) (setsOf 3 1) = true := by kernel_rfl
theorem k33x32 (F d : Nat) : rowIs ((E (F + 3000) (d + 50)).pf 33 [.int .i64 3, .int .i64 2]) (setsOf 3 2) = true := by kernel_rfl
theorem k33x33 (F d : Nat) : rowIs ((E (F + 3000) (d + 50)).pf 33 [.int .i64 3, .int .i64 3]) (setsOf 3 3) = true := by kernel_rfl
theorem k33x40 (F d : Nat) : rowIs ((E (F + 3000) (d + 50)).pf 33 [.int .i64 4, .int .i64 0]) (setsOf 4 0) = true := by kernel_rfl
theorem k33x41 (F d : Nat) : rowIs ((E (F + 3000) (d + 50)).pf 33 [.int .i64 4, .int .i64 1]) (setsOf 4 1) = true := by kernel_rfl
theorem k33x42 (F d : Nat) : rowIs ((E (F + 3000) (d + 50)).pf 33 [.int .i64 4, .int .i64 2]) (setsOf 4 2) = true := by kernel_rfl
theorem k33x43 (F d : Nat) : rowIs ((E (F + 3000) (d + 50)).pf 33 [.int .i64 4, .int .i64 3]) (setsOf 4 3) = true := by kernel_rfl
theorem k33x44 (F d : Nat) : rowIs ((E (F + 3000) (d + 50)).pf 33 [.int .i64 4, .int .i64 4]) (setsOf 4 4) = true := by kernel_rfl
theorem k76x10 (F d : Nat) : rowsIs ((E (F + 3000) (d + 40)).pf 76 [.int .i64 0, .int .i64 1]) ((setsOf 1 0).map lstOf) = true := by kernel_rfl
theorem k76x11 (F d : Nat) : rowsIs ((E (F + 3000) (d + 40)).pf 76 [.int .i64 1, .int .i64 1]) ((setsOf 1 1).map lstOf) = true := by kernel_rfl
theorem k76x20 (F d : Nat) : rowsIs ((E (F + 3000) (d + 40)).pf 76 [.int .i64 0, .int .i64 2]) ((setsOf 2 0).map lstOf) = true := by kernel_rfl
theorem k76x21 (F d : Nat) : rowsIs ((E (F + 3000) (d + 40)).pf 76 [.int .i64 1, .int .i64 2]) ((setsOf 2 1).map lstOf) = true := by kernel_rfl
theorem k76x22 (F d : Nat) : rowsIs ((E (F + 3000) (d + 40)).pf 76 [.int .i64 2, .int .i64 2]) ((setsOf 2 2).map lstOf) = true := by kernel_rfl
theorem k76x30 (F d : Nat) : rowsIs ((E (F + 3000) (d + 40)).pf 76 [.int .i64 0, .int .i64 3]) ((setsOf 3 0).map lstOf) = true := by kernel_rfl
theorem k76x31 (F d : Nat) : rowsIs ((E (F + 3000) (d + 40)).pf 76 [.int .i64 1, .int .i64 3]) ((setsOf 3 1).map lstOf) = true := by kernel_rfl
theorem k76x32 (F d : Nat) : rowsIs ((E (F + 3000) (d + 40)).pf 76 [.int .i64 2, .int .i64 3]) ((setsOf 3 2).map lstOf) = true := by kernel_rfl
theorem k76x33 (F d : Nat) : rowsIs ((E (F + 3000) (d + 40)).pf 76 [.int .i64 3, .int .i64 3]) ((setsOf 3 3).map lstOf) = true := by kernel_rfl
theorem k76x40 (F d : Nat) : rowsIs ((E (F + 3000) (d + 40)).pf 76 [.int .i64 0, .int .i64 4]) ((setsOf 4 0).map lstOf) = true := by kernel_rfl
theorem k76x41 (F d : Nat) : rowsIs ((E (F + 3000) (d + 40)).pf 76 [.int .i64 1, .int .i64 4]) ((setsOf 4 1).map lstOf) = true := by kernel_rfl
theorem k76x42 (F d : Nat) : rowsIs ((E (F + 3000) (d + 40)).pf 76 [.int .i64 2, .int .i64 4]) ((setsOf 4 2).map lstOf) = true := by kernel_rfl
theorem k76x43 (F d : Nat) : rowsIs ((E (F + 3000) (d + 40)).pf 76 [.int .i64 3, .int .i64 4]) ((setsOf 4 3).map lstOf) = true := by kernel_rfl
theorem k76x44 (F d : Nat) : rowsIs ((E (F + 3000) (d + 40)).pf 76 [.int .i64 4, .int .i64 4]) ((setsOf 4 4).map lstOf) = true := by kernel_rfl
theorem cases4 {p : Nat → Nat → Prop} (h : p 1 0 ∧ p 1 1 ∧ p 2 0 ∧ p 2 1 ∧ p 2 2 ∧ p 3 0 ∧ p 3 1 ∧ p 3 2 ∧ p 3 3 ∧ p 4 0 ∧ p 4 1 ∧ p 4 2 ∧ p 4 3 ∧ p 4 4) {c m : Nat} (h1 : 1 ≤ c) (h4 : c ≤ 4) (hm : m ≤ c) : p c m := by
 have hc : c = 1 ∨ c = 2 ∨ c = 3 ∨ c = 4 := by omega
 rcases hc with rfl | rfl | rfl | rfl
 ·have hm : m = 0 ∨ m = 1 := by omega
  rcases hm with rfl | rfl
  ·exact h.1
  ·exact h.2.1
 ·have hm : m = 0 ∨ m = 1 ∨ m = 2 := by omega
  rcases hm with rfl | rfl | rfl
  ·exact h.2.2.1
  ·exact h.2.2.2.1
  ·exact h.2.2.2.2.1
 ·have hm : m = 0 ∨ m = 1 ∨ m = 2 ∨ m = 3 := by omega
  rcases hm with rfl | rfl | rfl | rfl
  ·exact h.2.2.2.2.2.1
  ·exact h.2.2.2.2.2.2.1
  ·exact h.2.2.2.2.2.2.2.1
  ·exact h.2.2.2.2.2.2.2.2.1
 ·have hm : m = 0 ∨ m = 1 ∨ m = 2 ∨ m = 3 ∨ m = 4 := by omega
  rcases hm with rfl | rfl | rfl | rfl | rfl
  ·exact h.2.2.2.2.2.2.2.2.2.1
  ·exact h.2.2.2.2.2.2.2.2.2.2.1
  ·exact h.2.2.2.2.2.2.2.2.2.2.2.1
  ·exact h.2.2.2.2.2.2.2.2.2.2.2.2.1
  ·exact h.2.2.2.2.2.2.2.2.2.2.2.2.2
theorem all33 (F d : Nat) {c m : Nat} (h1 : 1 ≤ c) (h4 : c ≤ 4) (hm : m ≤ c) : rowIs ((E (F + 3000) (d + 50)).pf 33 [.int .i64 (c : Int), .int .i64 (m : Int)]) (setsOf c m) = true :=
 cases4 (p := fun c m => rowIs ((E (F + 3000) (d + 50)).pf 33 [.int .i64 (c : Int), .int .i64 (m : Int)]) (setsOf c m) = true) ⟨k33x10 F d, k33x11 F d, k33x20 F d, k33x21 F d, k33x22 F d, k33x30 F d, k33x31 F d, k33x32 F d, k33x33 F d, k33x40 F d, k33x41 F d, k33x42 F d, k33x43 F d, k33x44 F d⟩ h1 h4 hm
theorem all76 (F d : Nat) {c m : Nat} (h1 : 1 ≤ c) (h4 : c ≤ 4) (hm : m ≤ c) : rowsIs ((E (F + 3000) (d + 40)).pf 76 [.int .i64 (m : Int), .int .i64 (c : Int)]) ((setsOf c m).map lstOf) = true :=
 cases4 (p := fun c m => rowsIs ((E (F + 3000) (d + 40)).pf 76 [.int .i64 (m : Int), .int .i64 (c : Int)]) ((setsOf c m).map lstOf) = true) ⟨k76x10 F d, k76x11 F d, k76x20 F d, k76x21 F d, k76x22 F d, k76x30 F d, k76x31 F d, k76x32 F d, k76x33 F d, k76x40 F d, k76x41 F d, k76x42 F d, k76x43 F d, k76x44 F d⟩ h1 h4 hm
theorem all37 (F d : Nat) {b : Int} (h0 : 0 ≤ b) (h16 : b < 16) : rowIs ((E (F + 3000) (d + 40)).pf 37 [.int .i64 b]) (lstOf b) = true := by
 have hb : b = 0 ∨ b = 1 ∨ b = 2 ∨ b = 3 ∨ b = 4 ∨ b = 5 ∨ b = 6 ∨ b = 7 ∨ b = 8 ∨ b = 9 ∨ b = 10 ∨ b = 11 ∨ b = 12 ∨ b = 13 ∨ b = 14 ∨ b = 15 := by omega
 rcases hb with rfl | rfl | rfl | rfl | rfl | rfl | rfl | rfl | rfl | rfl | rfl | rfl | rfl | rfl | rfl | rfl
 ·exact k37x0 F d
 ·exact k37x1 F d
 ·exact k37x2 F d
 ·exact k37x3 F d
 ·exact k37x4 F d
 ·exact k37x5 F d
 ·exact k37x6 F d
 ·exact k37x7 F d
 ·exact k37x8 F d
 ·exact k37x9 F d
 ·exact k37x10 F d
 ·exact k37x11 F d
 ·exact k37x12 F d
 ·exact k37x13 F d
 ·exact k37x14 F d
 ·exact k37x15 F d
theorem sets_in {c m : Nat} (h1 : 1 ≤ c) (h4 : c ≤ 4) (hm : m ≤ c) : (setsOf c m).length ≤ 6 ∧ ∀ b ∈ setsOf c m, 0 ≤ b ∧ b < 16 :=
 cases4 (p := fun c m => (setsOf c m).length ≤ 6 ∧ ∀ b ∈ setsOf c m, 0 ≤ b ∧ b < 16) (by decide) h1 h4 hm
end Go.Sim.Cr


set_option maxRecDepth 100000
namespace Go.Sim.Cr
open Go.Proofs
abbrev RsIs (a : Sl Rw) (ms : List Int) : Prop := a.len = ms.length ∧ ∀ i, i < a.len → RIs (a.el i) (lstOf (ms.getD i 0))
theorem ris_rv {r : Rw} {l : List Int} (h : RIs r l) {i : Nat} (hi : i < l.length) : rv r i = l.getD i 0 := by
 unfold rv
 rw [h.2.2 i hi]
theorem ris_ok {r : Rw} {l : List Int} (h : RIs r l) : RwOk r := fun i hi => by
 have hi' : i < l.length := by have := h.1; omega
 refine ⟨h.2.1 (fun he => by rw [he] at hi'; simp at hi'), ?_⟩
 rw [h.2.2 i hi', ris_rv h hi']
theorem hasR_mem {r : Rw} {l : List Int} (h : RIs r l) (x : Int) : hasR r x = decide (x ∈ l) := by
 apply b2
 unfold hasR
 rw [anyF_eq, decide_eq_true_iff]
 have hl := h.1
 constructor
 ·rintro ⟨k, _, hk, he⟩
  rw [ris_rv h (by omega), beq_iff_eq] at he
  rw [← he, List.getD_eq_getElem?_getD, List.getElem?_eq_getElem (by omega)]
  exact List.getElem_mem _
 ·intro hx
  obtain ⟨k, hk, rfl⟩ := List.mem_iff_getElem.1 hx
  refine ⟨k, Nat.zero_le _, by omega, ?_⟩
  rw [ris_rv h hk, beq_iff_eq, List.getD_eq_getElem?_getD, List.getElem?_eq_getElem hk]
  rfl
theorem bits_all : ∀ m : Fin 16, ∀ i : Fin 4, bitB ((m.1 : Nat) : Int) i.1 = decide (((i.1 : Nat) : Int) ∈ lstOf ((m.1 : Nat) : Int)) := by decide +kernel
theorem bits_mem {m : Int} (h0 : 0 ≤ m) (h16 : m < 16) {i : Nat} (hi : i < 4) : bitB m i = decide ((i : Int) ∈ lstOf m) := by
 have := bits_all ⟨m.toNat, by omega⟩ ⟨i, hi⟩
 rw [show ((m.toNat : Nat) : Int) = m by omega] at this
 exact this
theorem lst_len : ∀ m : Fin 16, (lstOf ((m.1 : Nat) : Int)).length ≤ 4 := by decide
theorem lst_le {m : Int} (h0 : 0 ≤ m) (h16 : m < 16) : (lstOf m).length ≤ 4 := by
 have := lst_len ⟨m.toNat, by omega⟩
 rw [show ((m.toNat : Nat) : Int) = m by omega] at this
 exact this
section
variable {s : Site} {low rest : Sl Int} {wm : Span}
theorem dayR_mask (h1 : 1 ≤ s.cavs.len) (h4 : s.cavs.len ≤ 4) {r : Rw} {m : Int} (h0 : 0 ≤ m) (h16 : m < 16) (h : RIs r (lstOf m)) : dayR s low rest wm r = dayB s low rest wm m :=
 dayQ_same h1 fun i hi => by rw [hasR_mem h, bits_mem h0 h16 (by omega)]
variable (s low rest wm)
noncomputable def okL : List Int → Option (Sl Span) → Sl Stt → Bool
 | [], _, _ => true
 | m :: r, b, now => okDay s (dayB s low rest wm m) b now && okL r (some (dayB s low rest wm m).press) (moved s now (dayB s low rest wm m))
noncomputable def stL : List Int → Sl Stt → Sl Stt
 | [], now => now
 | m :: r, now => stL r (moved s now (dayB s low rest wm m))
noncomputable def befL : List Int → Option (Sl Span) → Option (Sl Span)
 | [], b => b
 | m :: r, _ => befL r (some (dayB s low rest wm m).press)
variable {s low rest wm}
theorem okL_snoc : ∀ (ms : List Int) (m : Int) (b : Option (Sl Span)) (now : Sl Stt), okL s low rest wm (ms ++ [m]) b now = (okL s low rest wm ms b now && okDay s (dayB s low rest wm m) (befL s low rest wm ms b) (stL s low rest wm ms now))
 | [], m, b, now => by simp [okL, befL, stL]
 | x :: ms, m, b, now => by
  show (okDay s (dayB s low rest wm x) b now && okL s low rest wm (ms ++ [m]) _ _) = _
  rw [okL_snoc ms m]
  simp only [okL, befL, stL, Bool.and_assoc]
theorem stL_snoc : ∀ (ms : List Int) (m : Int) (now : Sl Stt), stL s low rest wm (ms ++ [m]) now = moved s (stL s low rest wm ms now) (dayB s low rest wm m)
 | [], _, _ => rfl
 | x :: ms, m, now => stL_snoc ms m _
theorem befL_snoc : ∀ (ms : List Int) (m : Int) (b : Option (Sl Span)), befL s low rest wm (ms ++ [m]) b = some (dayB s low rest wm m).press
 | [], _, _ => rfl
 | x :: ms, m, _ => befL_snoc ms m _
theorem drop_cons_getD {ms : List Int} {i : Nat} (h : i < ms.length) : ms.drop i = ms.getD i 0 :: ms.drop (i + 1) := by
 rw [List.drop_eq_getElem_cons h, List.getD_eq_getElem?_getD, List.getElem?_eq_getElem h, Option.getD_some]
theorem okFrom_masks {L : Sl Day} {ms : List Int} (hL : ∀ i, i < ms.length → L.el i = dayB s low rest wm (ms.getD i 0)) : ∀ r i now, ms.length = i + r → okFrom s L r i now = okL s low rest wm (ms.drop i) (prevOf L i) now
 | 0, i, now, h => by rw [List.drop_eq_nil_of_le (by omega)]; rfl
 | r + 1, i, now, h => by
  have hi : i < ms.length := by omega
  rw [drop_cons_getD hi]
  unfold okFrom okL
  rw [okFrom_masks hL r (i + 1) _ (by omega), hL i hi]
  rw [show prevOf L (i + 1) = some (L.el i).press from rfl, hL i hi]
theorem holds_masks (h1 : 1 ≤ s.cavs.len) (h4 : s.cavs.len ≤ 4) {a : Sl Rw} {ms : List Int} (h : RsIs a ms) (hm : ∀ m ∈ ms, 0 ≤ m ∧ m < 16) : holdsR s low rest wm a = okL s low rest wm ms none (begin s) := by
 unfold holdsR
 rw [ref_ok]
 have := okFrom_masks (s := s) (low := low) (rest := rest) (wm := wm) (L := outL a.len (fun i => dayR s low rest wm (a.el i))) (ms := ms) (fun i hi => by
  have hi' : i < a.len := by have := h.1; omega
  rw [outL_el hi']
  have hmem : ms.getD i 0 ∈ ms := by rw [List.getD_eq_getElem?_getD, List.getElem?_eq_getElem hi]; exact List.getElem_mem hi
  exact dayR_mask h1 h4 (hm _ hmem).1 (hm _ hmem).2 (h.2 i hi')) a.len 0 (begin s) (by have := h.1; omega)
 exact this
theorem rs_rows {a : Sl Rw} {ms : List Int} (h : RsIs a ms) (hm : ∀ m ∈ ms, 0 ≤ m ∧ m < 16) {F : Nat} (hF : 8 < F) : ∀ i, i < a.len → RwOk (a.el i) ∧ (a.el i).len < 4611686018427387904 ∧ (a.el i).len < F := fun i hi => by
 have hi' : i < ms.length := by have := h.1; omega
 have hmem : ms.getD i 0 ∈ ms := by rw [List.getD_eq_getElem?_getD, List.getElem?_eq_getElem hi']; exact List.getElem_mem hi'
 have hr := h.2 i hi
 have := lst_le (hm _ hmem).1 (hm _ hmem).2
 exact ⟨ris_ok hr, by have := hr.1; omega, by have := hr.1; omega⟩
end
def snocR (a : Sl Rw) (r : Rw) : Sl Rw := ⟨false, a.len + 1, fun i => if i < a.len then a.el i else r⟩
theorem snoc_is {a : Sl Rw} {ms : List Int} (h : RsIs a ms) {r : Rw} {m : Int} (hr : RIs r (lstOf m)) : RsIs (snocR a r) (ms ++ [m]) := by
 refine ⟨by simp only [snocR, List.length_append, List.length_singleton, h.1], fun i hi => ?_⟩
 have hi : i < a.len + 1 := hi
 show RIs (if i < a.len then a.el i else r) _
 by_cases hia : i < a.len
 ·rw [if_pos hia, List.getD_eq_getElem?_getD, List.getElem?_append_left (by have := h.1; omega), ← List.getD_eq_getElem?_getD]
  exact h.2 i hia
 ·rw [if_neg hia, List.getD_eq_getElem?_getD, List.getElem?_append_right (by have := h.1; omega)]
  rw [show i - ms.length = 0 by have := h.1; omega]
  exact hr
end Go.Sim.Cr


set_option maxRecDepth 100000
namespace Go.Sim.Cr
open Go.Proofs
structure Pln (s : Site) (low rest : Sl Int) (wm : Span) (nd : Sl Int) : Prop where
 site : SiteF s
 c4 : s.cavs.len ≤ 4
 low_ : PresOk s low
 rest_ : PresOk s rest
 wm_ : SpanIn wm 0 10000
 need : NeedOk s nd
 n12 : nd.len ≤ 12
def setsN (s : Site) (nd : Sl Int) (t : Nat) : List Int := setsOf s.cavs.len (nd.el t).toNat
section
variable {s : Site} {low rest : Sl Int} {wm : Span} {nd : Sl Int}
theorem setsN_in (P : Pln s low rest wm nd) {t : Nat} (ht : t < nd.len) : (setsN s nd t).length ≤ 6 ∧ ∀ b ∈ setsN s nd t, 0 ≤ b ∧ b < 16 := by
 have := P.need t ht
 exact sets_in P.site.cavs1 P.c4 (by omega)
theorem ask_of (P : Pln s low rest wm nd) {F : Nat} (hF : 67108864 < F + 3000) (d : Nat) : Ask (F + 3000) d s low rest wm nd (fun t => if t < nd.len then setsN s nd t else []) lstOf where
 site := P.site
 low_ := P.low_
 rest_ := P.rest_
 wm_ := P.wm_
 fuel := hF
 days := by have := P.n12; omega
 six := fun t => by
  split
  ·rename_i h; exact (setsN_in P h).1
  ·simp
 m64 := fun t m hm => by
  split at hm
  ·rename_i h
   have := (setsN_in P h).2 m hm
   omega
  ·cases hm
 h33 := fun e t ht => by
  have hn := P.need t ht
  have := all33 F (d + e) (c := s.cavs.len) (m := (nd.el t).toNat) P.site.cavs1 P.c4 (by omega)
  rw [show (((nd.el t).toNat : Nat) : Int) = nd.el t by omega, show d + e + 50 = d + 50 + e by omega] at this
  rw [if_pos ht]
  exact row_of this
 h37 := fun e t m ht hm => by
  rw [if_pos ht] at hm
  have h := (setsN_in P ht).2 m hm
  have := all37 F (d + 10 + e) h.1 h.2
  rw [show d + 10 + e + 40 = d + 50 + e by omega] at this
  exact row_of this
noncomputable abbrev goN (s : Site) (low rest : Sl Int) (wm : Span) (nd : Sl Int) := go s low rest wm (fun t => if t < nd.len then setsN s nd t else [])
abbrev ARGS (s : Site) (low rest : Sl Int) (wm : Span) (nd : Sl Int) (a : V) : List V := [.agg (eSite s), sl eInt 1 low, sl eInt 1 rest, .agg (eSpan wm), sl eInt 1 nd, a]
def Ans (res : Option (List Int)) (ms : List Int) (o : Option Out) : Prop := (res = none ∧ o = some (.ret (.tup [noneRow, .bool false]))) ∨ ∃ q a', res = some q ∧ RsIs a' (ms ++ q) ∧ a'.nl = false ∧ 1 ≤ a'.len ∧ o = some (.ret (.tup [sl eRw 1 a', .bool true]))
abbrev InS (s : Site) (nd : Sl Int) (ms : List Int) : Prop := ∀ i, i < ms.length → ms.getD i 0 ∈ setsN s nd i
theorem ins_16 (P : Pln s low rest wm nd) {ms : List Int} (h : InS s nd ms) (hl : ms.length ≤ nd.len) : ∀ m ∈ ms, 0 ≤ m ∧ m < 16 := fun m hm => by
 obtain ⟨i, hi, rfl⟩ := List.mem_iff_getElem.1 hm
 have := h i hi
 rw [List.getD_eq_getElem?_getD, List.getElem?_eq_getElem hi, Option.getD_some] at this
 exact (setsN_in P (by omega)).2 _ this
theorem ins_snoc {ms : List Int} (h : InS s nd ms) {m : Int} (hm : m ∈ setsN s nd ms.length) : InS s nd (ms ++ [m]) := fun i hi => by
 rw [List.length_append, List.length_singleton] at hi
 by_cases hia : i < ms.length
 ·rw [List.getD_eq_getElem?_getD, List.getElem?_append_left hia, ← List.getD_eq_getElem?_getD]
  exact h i hia
 ·obtain rfl : i = ms.length := by omega
  rw [List.getD_eq_getElem?_getD, List.getElem?_append_right (Nat.le_refl _), Nat.sub_self]
  exact hm
variable (F d : Nat)
theorem app_snoc (a : Sl Rw) (r : Rw) : (fun u => appGet a.len (fun u => [V.row (a.el u).nl (a.el u).len (a.el u).wd (a.el u).get]) (fun _ => [V.row r.nl r.len r.wd r.get]) u) = fun i => eRw ((snocR a r).el i) := by
 funext i
 show appGet a.len _ _ i = eRw (if i < a.len then a.el i else r)
 unfold appGet
 by_cases h : i < a.len
 ·rw [if_pos h, if_pos h]
 ·rw [if_neg h, if_neg h]
theorem s9043 (P : Pln s low rest wm nd) (hF : 2147483648 < F + 3000) : ∀ (r : Nat) (ms : List Int) (a : Sl Rw), RsIs a ms → a.nl = false → 1 ≤ a.len → ms.length + r = nd.len → InS s nd ms →
  Ans (if okL s low rest wm ms none (begin s) then goN s low rest wm nd r ms.length (befL s low rest wm ms none) (stL s low rest wm ms (begin s)) else none) ms ((E (F + 3000) (d + 61 + r)).pf 43 (ARGS s low rest wm nd (sl eRw 1 a))) := by
 have hS := P.site
 have h1 := hS.cavs1
 intro r
 induction r with
 | zero =>
  intro ms a ha hnl h1a hN hin
  have h16 := ins_16 P hin (by omega)
  have hal := ha.1
  have e75 : (E (F + 3000) (d + 60)).pf 75 [.agg (eSite s), sl eInt 1 low, sl eInt 1 rest, .agg (eSpan wm), sl eRw 1 a] = some (.ret (.bool (okL s low rest wm ms none (begin s)))) := by
   have := s9075 (F + 3000) (d + 54) s low rest wm a hS P.low_ P.rest_ P.wm_ (by omega) (by have := P.n12; omega) (rs_rows ha h16 (by omega)) hF
   rw [holds_masks h1 P.c4 ha h16] at this
   exact this
  have hen : (E (F + 3000) (d + 61 + 0)).pf 43 (ARGS s low rest wm nd (sl eRw 1 a)) = evFun Tryz.prog (cfg (F + 3000)) (E (F + 3000) (d + 60)) 43 (ARGS s low rest wm nd (sl eRw 1 a)) := by rw [show d + 61 + 0 = (d + 60) + 1 by omega, E_pf]
  rw [hen, t9043, e75, pOut, qBool]
  cases hok : okL s low rest wm ms none (begin s) with
  | false => exact .inl ⟨rfl, by rw [Bool.not_false, cond_true]⟩
  | true =>
   rw [Bool.not_true, cond_false, show ((a.len : Int) == (nd.len : Int)) = true by simp; omega, cond_true]
   exact .inr ⟨[], a, rfl, by rw [List.append_nil]; exact ha, hnl, h1a, rfl⟩
 | succ r ih =>
  intro ms a ha hnl h1a hN hin
  have h16 := ins_16 P hin (by omega)
  have hal := ha.1
  have hn12 := P.n12
  have htn : ms.length < nd.len := by omega
  have hneed := P.need ms.length htn
  have e75 : (E (F + 3000) (d + 61 + r)).pf 75 [.agg (eSite s), sl eInt 1 low, sl eInt 1 rest, .agg (eSpan wm), sl eRw 1 a] = some (.ret (.bool (okL s low rest wm ms none (begin s)))) := by
   have := s9075 (F + 3000) (d + 55 + r) s low rest wm a hS P.low_ P.rest_ P.wm_ (by omega) (by omega) (rs_rows ha h16 (by omega)) hF
   rw [holds_masks h1 P.c4 ha h16, show d + 55 + r + 6 = d + 61 + r by omega] at this
   exact this
  have hen : (E (F + 3000) (d + 61 + (r + 1))).pf 43 (ARGS s low rest wm nd (sl eRw 1 a)) = evFun Tryz.prog (cfg (F + 3000)) (E (F + 3000) (d + 61 + r)) 43 (ARGS s low rest wm nd (sl eRw 1 a)) := by rw [show d + 61 + (r + 1) = (d + 61 + r) + 1 by omega, E_pf]
  have k76 := all76 F (d + 21 + r) (c := s.cavs.len) (m := (nd.el ms.length).toNat) h1 P.c4 (by omega)
  rw [show (((nd.el ms.length).toNat : Nat) : Int) = nd.el ms.length by omega, show d + 21 + r + 40 = d + 61 + r by omega] at k76
  obtain ⟨nl, g, e76, hg⟩ := rows_of k76
  have hlen : ((setsOf s.cavs.len (nd.el ms.length).toNat).map lstOf).length = (setsN s nd ms.length).length := List.length_map ..
  rw [hlen] at e76 hg
  rw [hen, t9043, e75, pOut, qBool]
  cases hok : okL s low rest wm ms none (begin s) with
  | false => exact .inl ⟨rfl, by rw [Bool.not_false, cond_true]⟩
  | true =>
   rw [Bool.not_true, cond_false, show ((a.len : Int) == (nd.len : Int)) = false by simp; omega, cond_false, decide_eq_true (Int.natCast_nonneg a.len), cond_true, decide_eq_true (show (a.len : Int) < (nd.len : Int) by omega), cond_true, Int.toNat_natCast, hal, e76, pOut, qRow, if_pos rfl]
   have hgo : goN s low rest wm nd (r + 1) ms.length (befL s low rest wm ms none) (stL s low rest wm ms (begin s)) = ((setsN s nd ms.length).drop 0).findSome? (fB s low rest wm (fun t => if t < nd.len then setsN s nd t else []) r ms.length (befL s low rest wm ms none) (stL s low rest wm ms (begin s))) := by
    show (if ms.length < nd.len then setsN s nd ms.length else []).findSome? _ = _
    rw [if_pos htn]; rfl
   rw [hgo]
   have h6 := (setsN_in P htn).1
   have loop : ∀ n k fu, (setsN s nd ms.length).length = k + n → n < fu → Ans (((setsN s nd ms.length).drop k).findSome? (fB s low rest wm (fun t => if t < nd.len then setsN s nd t else []) r ms.length (befL s low rest wm ms none) (stL s low rest wm ms (begin s)))) ms
     (L9043x0 (E (F + 3000) (d + 61 + r)) (F + 3000) s low rest wm nd a fu nl (setsN s nd ms.length).length 1 g (k : Int)) := by
    intro n
    induction n with
    | zero =>
     intro k fu h hf
     obtain ⟨fu, rfl⟩ : ∃ q, fu = q + 1 := ⟨fu - 1, by omega⟩
     rw [List.drop_eq_nil_of_le (by omega), L9043x0s, decide_eq_false (by omega), cond_false]
     exact .inl ⟨rfl, rfl⟩
    | succ n hin2 =>
     intro k fu h hf
     obtain ⟨fu, rfl⟩ : ∃ q, fu = q + 1 := ⟨fu - 1, by omega⟩
     have hk : k < (setsN s nd ms.length).length := by omega
     obtain ⟨rr, hrr, hris⟩ := hg k hk
     have hmem : (setsN s nd ms.length).getD k 0 ∈ setsN s nd ms.length := by rw [List.getD_eq_getElem?_getD, List.getElem?_eq_getElem hk]; exact List.getElem_mem hk
     have hris' : RIs rr (lstOf ((setsN s nd ms.length).getD k 0)) := by
      have e : ((setsOf s.cavs.len (nd.el ms.length).toNat).map lstOf).getD k [] = lstOf ((setsN s nd ms.length).getD k 0) := by
       rw [List.getD_eq_getElem?_getD, List.getElem?_map, List.getD_eq_getElem?_getD]
       show Option.getD (Option.map lstOf (setsN s nd ms.length)[k]?) [] = _
       rw [List.getElem?_eq_getElem hk]; rfl
      rw [← e]; exact hris
     have hsn := snoc_is ha hris'
     have hrec := ih (ms ++ [(setsN s nd ms.length).getD k 0]) (snocR a rr) hsn rfl (by show 1 ≤ a.len + 1; omega) (by rw [List.length_append, List.length_singleton]; omega) (ins_snoc hin hmem)
     rw [okL_snoc, hok, Bool.true_and, stL_snoc, befL_snoc, List.length_append, List.length_singleton] at hrec
     have nxt := hin2 (k + 1) fu (by omega) (by omega)
     rw [drop_find hk, L9043x0s]
     have e43 : (E (F + 3000) (d + 61 + r)).pf 43 [.agg (eSite s), sl eInt 1 low, sl eInt 1 rest, .agg (eSpan wm), sl eInt 1 nd, .row false (a.len + 1) 1 (fun i => eRw ((snocR a rr).el i))] = (E (F + 3000) (d + 61 + r)).pf 43 (ARGS s low rest wm nd (sl eRw 1 (snocR a rr))) := rfl
     simp only [decide_eq_true (show (k : Int) < ((setsN s nd ms.length).length : Int) by omega), pT, hnl, pF, show (a.len == 0) = false by simp; omega, decide_eq_true (show a.len * 24 ≤ 140737488355328 by omega), beq_self_eq_true, Int.natCast_nonneg, decide_true, Int.toNat_natCast, hrr, pCons, qRow,
      decide_eq_true (show (a.len + 1) * 24 ≤ 140737488355328 by omega), app_snoc, wrS (show k < 4611686018427387904 by omega)]
     rw [e43]
     rcases hrec with ⟨q1, q2⟩ | ⟨q, a', q1, q2, q3, q4, q5⟩
     ·have hfk : fB s low rest wm (fun t => if t < nd.len then setsN s nd t else []) r ms.length (befL s low rest wm ms none) (stL s low rest wm ms (begin s)) ((setsN s nd ms.length).getD k 0) = none := by
       unfold fB
       cases ho : okDay s (dayB s low rest wm ((setsN s nd ms.length).getD k 0)) (befL s low rest wm ms none) (stL s low rest wm ms (begin s)) with
       | false => rfl
       | true =>
        rw [ho, if_pos rfl] at q1
        rw [cond_true]
        show (goN s low rest wm nd r _ _ _).map _ = none
        rw [q1]; rfl
      rw [hfk, q2]
      simp only [pOut, pTup, pCons, pNil, qRow, qBool, pF]
      exact nxt
     ·have hfk : fB s low rest wm (fun t => if t < nd.len then setsN s nd t else []) r ms.length (befL s low rest wm ms none) (stL s low rest wm ms (begin s)) ((setsN s nd ms.length).getD k 0) = some ((setsN s nd ms.length).getD k 0 :: q) := by
       unfold fB
       cases ho : okDay s (dayB s low rest wm ((setsN s nd ms.length).getD k 0)) (befL s low rest wm ms none) (stL s low rest wm ms (begin s)) with
       | false => rw [ho] at q1; cases q1
       | true =>
        rw [ho, if_pos rfl] at q1
        rw [cond_true]
        show (goN s low rest wm nd r _ _ _).map _ = _
        rw [q1]; rfl
      rw [hfk, q5]
      simp only [pOut, pTup, pCons, pNil, qRow, qBool, pT]
      exact .inr ⟨_, a', rfl, by rw [List.append_assoc] at q2; exact q2, q3, q4, rfl⟩
   exact loop (setsN s nd ms.length).length 0 (F + 3000) (by omega) (by omega)
end
end Go.Sim.Cr


set_option maxRecDepth 100000
namespace Go.Sim.Cr
open Go.Proofs
def oneR (r : Rw) : Sl Rw := ⟨false, 1, fun _ => r⟩
theorem one_is {r : Rw} {m : Int} (hr : RIs r (lstOf m)) : RsIs (oneR r) [m] := ⟨rfl, fun i hi => by
 have hi : i < 1 := hi
 obtain rfl : i = 0 := by omega
 exact hr⟩
section
variable {s : Site} {low rest : Sl Int} {wm : Span} {nd : Sl Int} (F d : Nat)
def Ans0 (nd : Sl Int) (res : Option (List Int)) (o : Option Out) : Prop := (res = none ∧ o = some (.ret (.tup [noneRow, .bool false]))) ∨ (res = some [] ∧ nd.len = 0 ∧ o = some (.ret (.tup [noneRow, .bool true]))) ∨
 ∃ q a', res = some q ∧ nd.len ≠ 0 ∧ RsIs a' q ∧ a'.nl = false ∧ 1 ≤ a'.len ∧ o = some (.ret (.tup [sl eRw 1 a', .bool true]))
theorem s9143 (P : Pln s low rest wm nd) (hF : 2147483648 < F + 3000) : Ans0 nd (goN s low rest wm nd nd.len 0 none (begin s)) ((E (F + 3000) (d + 61 + nd.len)).pf 43 (ARGS s low rest wm nd noneRow)) := by
 have hS := P.site
 have h1 := hS.cavs1
 cases hN : nd.len with
 | zero =>
  have e75 : (E (F + 3000) (d + 60)).pf 75 [.agg (eSite s), sl eInt 1 low, sl eInt 1 rest, .agg (eSpan wm), .row true 0 0 (fun _ => [])] = some (.ret (.bool true)) := s9175 (F + 3000) (d + 54) s low rest wm hS (by omega)
  have hen : (E (F + 3000) (d + 61 + 0)).pf 43 (ARGS s low rest wm nd noneRow) = evFun Tryz.prog (cfg (F + 3000)) (E (F + 3000) (d + 60)) 43 (ARGS s low rest wm nd noneRow) := by rw [show d + 61 + 0 = (d + 60) + 1 by omega, E_pf]
  rw [hen, t9143, e75, pOut, qBool, Bool.not_true, cond_false, show ((0 : Nat) : Int) == (nd.len : Int) by rw [hN]; rfl, cond_true]
  exact .inr (.inl ⟨rfl, hN, rfl⟩)
 | succ r =>
  have hn12 := P.n12
  have hneed := P.need 0 (by omega)
  have htn : 0 < nd.len := by omega
  have e75 : (E (F + 3000) (d + 61 + r)).pf 75 [.agg (eSite s), sl eInt 1 low, sl eInt 1 rest, .agg (eSpan wm), .row true 0 0 (fun _ => [])] = some (.ret (.bool true)) := by
   have := s9175 (F + 3000) (d + 55 + r) s low rest wm hS (by omega)
   rw [show d + 55 + r + 6 = d + 61 + r by omega] at this
   exact this
  have hen : (E (F + 3000) (d + 61 + (r + 1))).pf 43 (ARGS s low rest wm nd noneRow) = evFun Tryz.prog (cfg (F + 3000)) (E (F + 3000) (d + 61 + r)) 43 (ARGS s low rest wm nd noneRow) := by rw [show d + 61 + (r + 1) = (d + 61 + r) + 1 by omega, E_pf]
  have k76 := all76 F (d + 21 + r) (c := s.cavs.len) (m := (nd.el 0).toNat) h1 P.c4 (by omega)
  rw [show (((nd.el 0).toNat : Nat) : Int) = nd.el 0 by omega, show d + 21 + r + 40 = d + 61 + r by omega] at k76
  obtain ⟨nl, g, e76, hg⟩ := rows_of k76
  have hlen : ((setsOf s.cavs.len (nd.el 0).toNat).map lstOf).length = (setsN s nd 0).length := List.length_map ..
  rw [hlen] at e76 hg
  rw [hen, t9143, e75, pOut, qBool, Bool.not_true, cond_false, show (((0 : Nat) : Int) == (nd.len : Int)) = false by simp; omega, cond_false, decide_eq_true (show ((0 : Nat) : Int) < (nd.len : Int) by omega), cond_true, e76, pOut, qRow]
  have hgo : goN s low rest wm nd (r + 1) 0 none (begin s) = ((setsN s nd 0).drop 0).findSome? (fB s low rest wm (fun t => if t < nd.len then setsN s nd t else []) r 0 none (begin s)) := by
   show (if 0 < nd.len then setsN s nd 0 else []).findSome? _ = _
   rw [if_pos htn]; rfl
  rw [hgo]
  have h6 := (setsN_in P htn).1
  have loop : ∀ n k fu, (setsN s nd 0).length = k + n → n < fu → Ans0 nd (((setsN s nd 0).drop k).findSome? (fB s low rest wm (fun t => if t < nd.len then setsN s nd t else []) r 0 none (begin s)))
    (L9143x0 (E (F + 3000) (d + 61 + r)) (F + 3000) s low rest wm nd fu nl (setsN s nd 0).length 1 g (k : Int)) := by
   intro n
   induction n with
   | zero =>
    intro k fu h hf
    obtain ⟨fu, rfl⟩ : ∃ q, fu = q + 1 := ⟨fu - 1, by omega⟩
    rw [List.drop_eq_nil_of_le (by omega), L9143x0s, decide_eq_false (by omega), cond_false]
    exact .inl ⟨rfl, rfl⟩
   | succ n hin2 =>
    intro k fu h hf
    obtain ⟨fu, rfl⟩ : ∃ q, fu = q + 1 := ⟨fu - 1, by omega⟩
    have hk : k < (setsN s nd 0).length := by omega
    obtain ⟨rr, hrr, hris⟩ := hg k hk
    have hmem : (setsN s nd 0).getD k 0 ∈ setsN s nd 0 := by rw [List.getD_eq_getElem?_getD, List.getElem?_eq_getElem hk]; exact List.getElem_mem hk
    have hris' : RIs rr (lstOf ((setsN s nd 0).getD k 0)) := by
     have e : ((setsOf s.cavs.len (nd.el 0).toNat).map lstOf).getD k [] = lstOf ((setsN s nd 0).getD k 0) := by
      rw [List.getD_eq_getElem?_getD, List.getElem?_map, List.getD_eq_getElem?_getD]
      show Option.getD (Option.map lstOf (setsN s nd 0)[k]?) [] = _
      rw [List.getElem?_eq_getElem hk]; rfl
     rw [← e]; exact hris
    have hrec := s9043 F d P hF r [(setsN s nd 0).getD k 0] (oneR rr) (one_is hris') rfl (Nat.le_refl _) (by show 1 + r = nd.len; omega) (fun i hi => by
     have hi : i < 1 := hi
     obtain rfl : i = 0 := by omega
     exact hmem)
    have e1 : okL s low rest wm [(setsN s nd 0).getD k 0] none (begin s) = okDay s (dayB s low rest wm ((setsN s nd 0).getD k 0)) none (begin s) := by unfold okL okL; rw [Bool.and_true]
    rw [e1] at hrec
    have nxt := hin2 (k + 1) fu (by omega) (by omega)
    rw [drop_find hk, L9143x0s]
    have e43 : (E (F + 3000) (d + 61 + r)).pf 43 [.agg (eSite s), sl eInt 1 low, sl eInt 1 rest, .agg (eSpan wm), sl eInt 1 nd, .row false 1 1 (fun _ => [.row rr.nl rr.len rr.wd rr.get])] = (E (F + 3000) (d + 61 + r)).pf 43 (ARGS s low rest wm nd (sl eRw 1 (oneR rr))) := rfl
    simp only [decide_eq_true (show (k : Int) < ((setsN s nd 0).length : Int) by omega), pT, beq_self_eq_true, Int.natCast_nonneg, decide_true, Int.toNat_natCast, hrr, pCons, qRow, wrS (show k < 4611686018427387904 by omega)]
    rw [e43]
    rcases hrec with ⟨q1, q2⟩ | ⟨q, a', q1, q2, q3, q4, q5⟩
    ·have hfk : fB s low rest wm (fun t => if t < nd.len then setsN s nd t else []) r 0 none (begin s) ((setsN s nd 0).getD k 0) = none := by
      unfold fB
      cases ho : okDay s (dayB s low rest wm ((setsN s nd 0).getD k 0)) none (begin s) with
      | false => rfl
      | true =>
       rw [ho, if_pos rfl] at q1
       rw [cond_true]
       show (goN s low rest wm nd r _ _ _).map _ = none
       rw [show goN s low rest wm nd r (0 + 1) (some (dayB s low rest wm ((setsN s nd 0).getD k 0)).press) (moved s (begin s) (dayB s low rest wm ((setsN s nd 0).getD k 0))) = none from q1]; rfl
     rw [hfk, q2]
     simp only [pOut, pTup, pCons, pNil, qRow, qBool, pF]
     exact nxt
    ·have hfk : fB s low rest wm (fun t => if t < nd.len then setsN s nd t else []) r 0 none (begin s) ((setsN s nd 0).getD k 0) = some ((setsN s nd 0).getD k 0 :: q) := by
      unfold fB
      cases ho : okDay s (dayB s low rest wm ((setsN s nd 0).getD k 0)) none (begin s) with
      | false => rw [ho] at q1; cases q1
      | true =>
       rw [ho, if_pos rfl] at q1
       rw [cond_true]
       show (goN s low rest wm nd r _ _ _).map _ = _
       rw [show goN s low rest wm nd r (0 + 1) (some (dayB s low rest wm ((setsN s nd 0).getD k 0)).press) (moved s (begin s) (dayB s low rest wm ((setsN s nd 0).getD k 0))) = some q from q1]; rfl
     rw [hfk, q5]
     simp only [pOut, pTup, pCons, pNil, qRow, qBool, pT]
     exact .inr (.inr ⟨_, a', rfl, by omega, q2, q3, q4, rfl⟩)
  exact loop (setsN s nd 0).length 0 (F + 3000) (by omega) (by omega)
theorem s9011 (P : Pln s low rest wm nd) (hF : 2147483648 < F + 3000) : Ans0 nd (goN s low rest wm nd nd.len 0 none (begin s)) ((E (F + 3000) (d + 61 + nd.len + 1)).pf 11 [.agg (eSite s), sl eInt 1 low, sl eInt 1 rest, .agg (eSpan wm), sl eInt 1 nd]) := by
 have h := s9143 F d P hF
 rw [E_pf, t9011]
 rcases h with ⟨q1, q2⟩ | ⟨q1, q2, q3⟩ | ⟨q, a', q1, q2, q3, q4, q5, q6⟩
 ·exact .inl ⟨q1, by rw [show (E (F + 3000) (d + 61 + nd.len)).pf 43 [.agg (eSite s), sl eInt 1 low, sl eInt 1 rest, .agg (eSpan wm), sl eInt 1 nd, .row true 0 0 (fun _ => [])] = _ from q2]; simp only [pOut, pTup, pCons, pNil, qRow, qBool]⟩
 ·exact .inr (.inl ⟨q1, q2, by rw [show (E (F + 3000) (d + 61 + nd.len)).pf 43 [.agg (eSite s), sl eInt 1 low, sl eInt 1 rest, .agg (eSpan wm), sl eInt 1 nd, .row true 0 0 (fun _ => [])] = _ from q3]; simp only [pOut, pTup, pCons, pNil, qRow, qBool]⟩)
 ·exact .inr (.inr ⟨q, a', q1, q2, q3, q4, q5, by rw [show (E (F + 3000) (d + 61 + nd.len)).pf 43 [.agg (eSite s), sl eInt 1 low, sl eInt 1 rest, .agg (eSpan wm), sl eInt 1 nd, .row true 0 0 (fun _ => [])] = _ from q6]; simp only [pOut, pTup, pCons, pNil, qRow, qBool]⟩)
end
section
variable (F d : Nat) {a b : Sl Rw} {ms : List Int}
theorem l9012x1 (env : Env) (m0 : Nat) (t : Nat) (ha : t < a.len) (hb : t < b.len) {l : List Int} (hra : RIs (a.el t) l) (hrb : RIs (b.el t) l) (h100 : l.length ≤ 100) : ∀ n k fu, l.length = k + n → n < fu →
  L9012x1 env F a b m0 fu (t : Int) (k : Int) = L9012x0 env F a b m0 (IntKind.wrap .i64 ((t : Int) + 1)) := by
 intro n
 induction n with
 | zero =>
  intro k fu h hf
  obtain ⟨fu, rfl⟩ : ∃ q, fu = q + 1 := ⟨fu - 1, by omega⟩
  rw [L9012x1s]
  simp only [Int.natCast_nonneg, decide_true, pT, Int.ofNat_lt, ha, Int.toNat_natCast, show ¬ k < (a.el t).len by have := hra.1; omega, decide_false, pF]
 | succ n ih =>
  intro k fu h hf
  obtain ⟨fu, rfl⟩ : ∃ q, fu = q + 1 := ⟨fu - 1, by omega⟩
  have hk : k < l.length := by omega
  have hne : l ≠ [] := fun he => by rw [he] at hk; simp at hk
  have w1 : ((a.el t).wd == 1) = true := by rw [hra.2.1 hne]; rfl
  have w2 : ((b.el t).wd == 1) = true := by rw [hrb.2.1 hne]; rfl
  rw [L9012x1s]
  simp only [Int.natCast_nonneg, decide_true, pT, Int.ofNat_lt, ha, hb, Int.toNat_natCast, show k < (a.el t).len by have := hra.1; omega, show k < (b.el t).len by have := hrb.1; omega, w1, w2, hra.2.2 k hk, hrb.2.2 k hk, pCons, pInt, bne_self_eq_false, pF, wrS (show k < 4611686018427387904 by omega)]
  exact ih (k + 1) fu (by omega) (by omega)
theorem s9012 (ha : RsIs a ms) (hb : RsIs b ms) (h16 : ∀ m ∈ ms, 0 ≤ m ∧ m < 16) (h100 : ms.length ≤ 100) (hF : 200 < F) : (E F (d + 1)).pf 12 [sl eRw 1 a, sl eRw 1 b] = some (.ret (.bool true)) := by
 have hla := ha.1
 have hlb := hb.1
 have loop : ∀ n t fu, ms.length = t + n → n < fu → L9012x0 (E F d) F a b fu (t : Int) = some (.ret (.bool true)) := by
  intro n
  induction n with
  | zero =>
   intro t fu h hf
   obtain ⟨fu, rfl⟩ : ∃ q, fu = q + 1 := ⟨fu - 1, by omega⟩
   rw [L9012x0s, decide_eq_false (show ¬ (t : Int) < (a.len : Int) by omega), cond_false]
  | succ n ih =>
   intro t fu h hf
   obtain ⟨fu, rfl⟩ : ∃ q, fu = q + 1 := ⟨fu - 1, by omega⟩
   have ht : t < ms.length := by omega
   have hra := ha.2 t (by omega)
   have hrb := hb.2 t (by omega)
   have hmem : ms.getD t 0 ∈ ms := by rw [List.getD_eq_getElem?_getD, List.getElem?_eq_getElem ht]; exact List.getElem_mem ht
   have hle := lst_le (h16 _ hmem).1 (h16 _ hmem).2
   rw [L9012x0s]
   simp only [Int.natCast_nonneg, decide_true, pT, Int.ofNat_lt, show t < a.len by omega, show t < b.len by omega, Int.toNat_natCast, hra.1, hrb.1, bne_self_eq_false, pF]
   have g := l9012x1 F (E F d) fu t (by omega) (by omega) hra hrb (by omega) (lstOf (ms.getD t 0)).length 0 F (by omega) (by omega)
   rw [wrS (show t < 4611686018427387904 by omega)] at g
   exact g.trans (ih (t + 1) fu (by omega) (by omega))
 rw [E_pf, t9012, hla, hlb, bne_self_eq_false, cond_false]
 exact loop ms.length 0 F (by omega) (by omega)
theorem s9112 (hF : 200 < F) (wa wb : Nat) (ga gb : Nat → List V) : (E F (d + 1)).pf 12 [.row true 0 wa ga, .row true 0 wb gb] = some (.ret (.bool true)) := by
 obtain ⟨fu, hfu⟩ : ∃ q, F = q + 1 := ⟨F - 1, by omega⟩
 have g := L9112x0s (E F d) F wa wb ga gb fu
 rw [← hfu] at g
 rw [E_pf, t9112, g]
end
end Go.Sim.Cr


set_option maxRecDepth 100000
namespace Go.Sim.Cr
open Go.Proofs
variable (F d : Nat) {s : Site} {low rest : Sl Int} {wm : Span} {nd : Sl Int}
abbrev ShortS (s : Site) : Prop := s.cavs.len ≤ 10 ∧ s.rows.len ≤ 12 ∧ s.heats.len ≤ 12 ∧ s.rings.len ≤ 12 ∧ s.houses.len ≤ 10
theorem small_of {s : Site} (h : ShortS s) (hF : 67108864 < F) : Small s F := by
 constructor
 ·show s.cavs.len < 4611686018427387904; omega
 ·show s.rows.len < 4611686018427387904; omega
 ·show s.heats.len < 4611686018427387904; omega
 ·show s.rings.len < 4611686018427387904; omega
 ·show s.houses.len < 4611686018427387904; omega
 all_goals omega
def LitOk (s : Site) (nd : Sl Int) (a b : Nat) : Prop := (60 < nd.len ∧ nd.len ≤ 65) ∨ (siteB s = false ∧ nd.len ≤ 10) ∨ (s.cavs.len ≤ a ∧ nd.len ≤ b)
instance (s : Site) (nd : Sl Int) (a b : Nat) : Decidable (LitOk s nd a b) := by unfold LitOk; infer_instance
theorem s9006 (hs : Small s F) (a b : Nat) : (E F (d + 4)).pf 6 [.agg (eSite s), sl eInt 1 nd, .int .i64 (a : Int), .int .i64 (b : Int)] = some (.ret (.bool (decide (LitOk s nd a b)))) := by
 have e9 := s16 F d s hs
 rw [E_pf, t9006]
 by_cases h1 : 60 < nd.len
 ·rw [decide_eq_true (show (nd.len : Int) > 60 by omega), cond_true]
  by_cases h2 : nd.len ≤ 65
  ·rw [decide_eq_true (show (nd.len : Int) ≤ 65 by omega), cond_true, decide_eq_true (show LitOk s nd a b from .inl ⟨h1, h2⟩)]
  ·rw [decide_eq_false (show ¬ (nd.len : Int) ≤ 65 by omega), cond_false, e9, pOut, qBool]
   have e : decide (LitOk s nd a b) = decide (s.cavs.len ≤ a ∧ nd.len ≤ b) := by
    exact decide_eq_decide.2 ⟨fun h => by
     rcases h with h | h | h
     ·omega
     ·omega
     ·exact h, fun h => .inr (.inr h)⟩
   rw [e]
   cases hb : siteB s <;> by_cases h3 : s.cavs.len ≤ a <;> by_cases h4 : nd.len ≤ b <;>
    simp only [Bool.not_false, Bool.not_true, pT, pF, decide_eq_false (show ¬ (nd.len : Int) ≤ 10 by omega), h3, h4, Int.ofNat_le, decide_true, decide_false, and_self, and_true, and_false, false_and, true_and]
 ·rw [decide_eq_false (show ¬ (nd.len : Int) > 60 by omega), cond_false, e9, pOut, qBool]
  cases hb : siteB s with
  | false =>
   by_cases h10 : nd.len ≤ 10
   ·rw [Bool.not_false, cond_true, decide_eq_true (show (nd.len : Int) ≤ 10 by omega), cond_true, decide_eq_true (show LitOk s nd a b from .inr (.inl ⟨hb, h10⟩))]
   ·have e : decide (LitOk s nd a b) = decide (s.cavs.len ≤ a ∧ nd.len ≤ b) := by
     exact decide_eq_decide.2 ⟨fun h => by
      rcases h with h | h | h
      ·omega
      ·omega
      ·exact h, fun h => .inr (.inr h)⟩
    rw [e]
    by_cases h3 : s.cavs.len ≤ a <;> by_cases h4 : nd.len ≤ b <;>
     simp only [Bool.not_false, pT, pF, decide_eq_false (show ¬ (nd.len : Int) ≤ 10 by omega), h3, h4, Int.ofNat_le, decide_true, decide_false, and_self, and_true, and_false, false_and, true_and]
  | true =>
   have e : decide (LitOk s nd a b) = decide (s.cavs.len ≤ a ∧ nd.len ≤ b) := by
    exact decide_eq_decide.2 ⟨fun h => by
     rcases h with h | h | h
     ·omega
     ·(rw [hb] at h; cases h.1)
     ·exact h, fun h => .inr (.inr h)⟩
   rw [e]
   by_cases h3 : s.cavs.len ≤ a <;> by_cases h4 : nd.len ≤ b <;>
    simp only [Bool.not_true, pT, pF, h3, h4, Int.ofNat_le, decide_true, decide_false, and_self, and_true, and_false, false_and, true_and]
theorem z33 : ((3 : Int) == 3) = true := by decide
theorem z22 : ((2 : Int) == 2) = true := by decide
theorem z55 : ((5 : Int) == 5) = true := by decide
theorem zz0 : ((0 : Int) == 0) = true := by decide
theorem zc0 : (((0 : Nat) : Int) == 0) = true := by decide
theorem ms_in (P : Pln s low rest wm nd) : ∀ (r t : Nat) (b : Option (Sl Span)) (now : Sl Stt) (ms : List Int), t + r = nd.len → goN s low rest wm nd r t b now = some ms → ∀ m ∈ ms, 0 ≤ m ∧ m < 16
 | 0, _, _, _, ms, _, h => by cases h; intro m hm; cases hm
 | r + 1, t, b, now, ms, ht, h => by
  unfold goN go at h
  rw [if_pos (by omega)] at h
  obtain ⟨x, hx, hf⟩ := List.exists_of_findSome?_eq_some h
  cases ho : okDay s (dayB s low rest wm x) b now with
  | false => rw [ho, cond_false] at hf; cases hf
  | true =>
   rw [ho, cond_true] at hf
   cases hg : goN s low rest wm nd r (t + 1) (some (dayB s low rest wm x).press) (moved s now (dayB s low rest wm x)) with
   | none => rw [show go s low rest wm (fun t => if t < nd.len then setsN s nd t else []) r (t + 1) _ _ = none from hg] at hf; cases hf
   | some q =>
    rw [show go s low rest wm (fun t => if t < nd.len then setsN s nd t else []) r (t + 1) _ _ = some q from hg] at hf
    cases hf
    intro m hm
    rcases List.mem_cons.1 hm with rfl | hm
    ·exact (setsN_in P (by omega)).2 _ hx
    ·exact ms_in P r (t + 1) _ _ q (by omega) hg m hm
theorem law3 (hF : 2147483648 < F) (s : Site) (low rest : Sl Int) (wm : Span) (nd : Sl Int) (hnb : nd.len ≤ 140737488355328) : (E (F + 3000) (d + 100)).pf 3 [.agg (eSite s), sl eInt 1 low, sl eInt 1 rest, .agg (eSpan wm), sl eInt 1 nd] = some (.ret (.bool true)) := by
 have k : (E (F + 3000) (d + 99)).pf 7 [] = some (.ret (.bool true)) := s13 (F + 3000) (d + 88) (by omega)
 have e5 : (E (F + 3000) (d + 99)).pf 5 [.agg (eSite s)] = _ := s11 (F + 3000) (d + 98) s
 rw [E_pf, t9003]
 simp only [e5, k, pOut, qBool]
 by_cases h0 : ShortS s
 rotate_left
 ·rw [decide_eq_false h0, Bool.not_false, cond_true]
 rw [decide_eq_true h0, Bool.not_true, cond_false]
 have hs := small_of (F + 3000) h0 (by omega)
 by_cases h1 : (low.len : Int) > 10
 ·rw [decide_eq_true h1, cond_true]
 rw [decide_eq_false h1, cond_false]
 by_cases h2 : (rest.len : Int) > 10
 ·rw [decide_eq_true h2, cond_true]
 rw [decide_eq_false h2, cond_false]
 have e6 : (E (F + 3000) (d + 99)).pf 6 [.agg (eSite s), sl eInt 1 nd, .int .i64 3, .int .i64 4] = some (.ret (.bool (decide (LitOk s nd 3 4)))) := s9006 (F + 3000) (d + 95) hs 3 4
 rw [e6, pOut, qBool]
 by_cases h3 : LitOk s nd 3 4
 rotate_left
 ·rw [decide_eq_false h3, Bool.not_false, cond_true]
 rw [decide_eq_true h3, Bool.not_true, cond_false]
 have e9 : (E (F + 3000) (d + 99)).pf 9 [.agg (eSite s)] = some (.ret (.bool (siteB s))) := s16 (F + 3000) (d + 96) s hs
 by_cases h60 : 60 < nd.len
 ·have e8 : (E (F + 3000) (d + 99)).pf 8 [.agg (eSite s), sl eInt 1 low, sl eInt 1 rest, .agg (eSpan wm), sl eInt 1 nd] = _ := plan_long (d + 98) h60
  simp only [e8, pOut, pTup, pCons, pNil, pInt, qRow, decide_eq_true (show (nd.len : Int) > 60 by omega), pT, decide_true, z33, zc0]
 have e10 : (E (F + 3000) (d + 99)).pf 10 [.agg (eSite s), sl eInt 1 low, sl eInt 1 rest, .agg (eSpan wm), sl eInt 1 nd] = some (.ret (.bool (decide (PlOk s low rest wm nd)))) := s9010 (F + 3000) (d + 97) s low rest wm nd (by omega) (by omega) (by omega) (by omega)
 by_cases hb : siteB s = true ∧ PlOk s low rest wm nd
 rotate_left
 ·have e8 : (E (F + 3000) (d + 99)).pf 8 [.agg (eSite s), sl eInt 1 low, sl eInt 1 rest, .agg (eSpan wm), sl eInt 1 nd] = _ := plan_bad (d + 92) hs (by omega) (by omega) (by omega) (by omega) (by omega) (by omega) hb
  simp only [e8, e9, e10, pOut, pTup, pCons, pNil, pInt, qRow, qBool, decide_eq_false (show ¬ (nd.len : Int) > 60 by omega), pF, decide_true, z22, zc0, pT]
  cases hsb : siteB s with
  | false => simp only [Bool.not_false, pT]
  | true =>
   have hn : ¬ PlOk s low rest wm nd := fun h => hb ⟨hsb, h⟩
   simp only [Bool.not_true, pF, decide_eq_false hn, Bool.not_false, pT]
 obtain ⟨hsb, hP⟩ := hb
 have hlit : s.cavs.len ≤ 3 ∧ nd.len ≤ 4 := by
  rcases h3 with h | h | h
  ·omega
  ·rw [hsb] at h; cases h.1
  ·exact h
 have P : Pln s low rest wm nd := ⟨(siteB_iff s).1 hsb, by omega, hP.1, hP.2.1, hP.2.2.1, hP.2.2.2, by omega⟩
 have hpl := plan_ok (ask_of P (F := F) (by omega) (d + 47 - nd.len)) hs (by omega) P.need
 rw [show d + 47 - nd.len + 52 + nd.len = d + 99 by omega] at hpl
 have hrf := s9011 F (d + 37 - nd.len) P (by omega)
 rw [show d + 37 - nd.len + 61 + nd.len + 1 = d + 99 by omega] at hrf
 have e12 : ∀ (a b : Sl Rw) (ms : List Int), RsIs a ms → RsIs b ms → (∀ m ∈ ms, 0 ≤ m ∧ m < 16) → ms.length ≤ 100 → (E (F + 3000) (d + 99)).pf 12 [sl eRw 1 a, sl eRw 1 b] = some (.ret (.bool true)) := fun a b ms g1 g2 g3 g4 => s9012 (F + 3000) (d + 98) g1 g2 g3 g4 (by omega)
 rcases hpl with ⟨g1, g2⟩ | ⟨g1, g2, wd, g, g3⟩ | ⟨ms, T, g1, g2, g3, g4, g5⟩
 ·have g1 : goN s low rest wm nd nd.len 0 none (begin s) = none := g1
  rcases hrf with ⟨r1, r2⟩ | ⟨r1, r2, r3⟩ | ⟨q, a', r1, r2, r3, r4, r5, r6⟩
  ·simp only [g2, r2, e9, e10, hsb, decide_eq_true hP, pOut, pTup, pCons, pNil, pInt, qRow, qBool, decide_eq_false (show ¬ (nd.len : Int) > 60 by omega), pF, decide_true, Bool.not_true, Bool.not_false, z55, zc0, pT]
  ·rw [g1] at r1; cases r1
  ·rw [g1] at r1; cases r1
 ·have g1 : goN s low rest wm nd nd.len 0 none (begin s) = some [] := g1
  rcases hrf with ⟨r1, r2⟩ | ⟨r1, r2, r3⟩ | ⟨q, a', r1, r2, r3, r4, r5, r6⟩
  ·rw [g1] at r1; cases r1
  ·have e12' := s9112 (F + 3000) (d + 98) (by omega) wd 0 g (fun _ => [])
   simp only [g3, r3, e9, e10, hsb, decide_eq_true hP, pOut, pTup, pCons, pNil, pInt, qRow, qBool, decide_eq_false (show ¬ (nd.len : Int) > 60 by omega), pF, decide_true, Bool.not_true, zz0, e12', pT]
  ·exact absurd g2 r2
 ·have g1 : goN s low rest wm nd nd.len 0 none (begin s) = some ms := g1
  rcases hrf with ⟨r1, r2⟩ | ⟨r1, r2, r3⟩ | ⟨q, a', r1, r2, r3, r4, r5, r6⟩
  ·rw [g1] at r1; cases r1
  ·exact absurd r2 g3
  ·rw [g1] at r1
   cases r1
   have hin := ms_in P nd.len 0 none (begin s) ms (by omega) g1
   have e := e12 ⟨false, nd.len, T⟩ a' ms ⟨g2.symm, fun i hi => g5 i (by rw [g2]; exact hi)⟩ r3 hin (by omega)
   have e' : (E (F + 3000) (d + 99)).pf 12 [.row false nd.len 1 (fun i => eRw (T i)), .row a'.nl a'.len 1 (fun i => eRw (a'.el i))] = some (.ret (.bool true)) := e
   simp only [g4, r6, e9, e10, hsb, decide_eq_true hP, pOut, pTup, pCons, pNil, pInt, qRow, qBool, decide_eq_false (show ¬ (nd.len : Int) > 60 by omega), pF, decide_true, Bool.not_true, zz0, e', pT]
end Go.Sim.Cr
