import Derived.Test.YthbpagcfclddeaaGreatAf
import Derived.Test.YthbpagcfclddeaaGreatRows
set_option linter.unusedVariables false
set_option linter.unusedSimpArgs false
set_option linter.unusedSectionVars false

namespace Go.Sim.Pl
open Go.Sim.Le (cfg E E_pf E_hv names look)
open Go.Proofs
abbrev RowIn (r : Row) : Prop := (0 ≤ r.least ∧ r.least ≤ r.most) ∧ r.most ≤ 1000000 ∧ 0 ≤ r.energy ∧ r.energy ≤ 1000
theorem rowR_in {m : Mach} (hm : MachOk m) (x : Int) : ∀ j i, i + j = m.rows.len → RowIn (rowR m x j i)
 | 0, _, _ => by show RowIn row0; decide
 | j + 1, i, h => by
  simp only [rowR]
  split
  ·have := hm.1 i (by omega)
   exact this.2.2
  ·exact rowR_in hm x j (i + 1) (by omega)
theorem row_in {m : Mach} (hm : MachOk m) (x : Int) : RowIn (rowAt m x) := rowR_in hm x _ _ (by omega)
def thereS (l : Nat → Mach) (k : Int) : Nat → Bool
 | 0 => false
 | j + 1 => thereS l k j || decide ((l j).kind = k)
def mostS (l : Nat → Mach) (r : Nat → Bool) (x k : Int) : Nat → Int
 | 0 => 0
 | j + 1 => mostS l r x k j + (if (l j).kind = k ∧ r j = true then (rowAt (l j) x).most else 0)
def shortK (l : Nat → Mach) (r : Nat → Bool) (f x k : Int) (n : Nat) : Bool := thereS l k n && decide (mostS l r x k n < f)
def lackK (l : Nat → Mach) (r : Nat → Bool) (f x : Int) (n : Nat) : Nat → Int → Int
 | 0, _ => 0
 | j + 1, k => if shortK l r f x k n = true then k else lackK l r f x n j (k + 1)
def lacks (l : Sl Mach) (r : Nat → Bool) (f x : Int) : Int := lackK l.el r f x l.len 3 1
theorem lackK_in (l : Nat → Mach) (r : Nat → Bool) (f x : Int) (n : Nat) : ∀ (j : Nat) (k : Int), 1 ≤ k → 0 ≤ lackK l r f x n j k ∧ lackK l r f x n j k < k + j
 | 0, k, h => by simp only [lackK]; omega
 | j + 1, k, h => by
  have := lackK_in l r f x n j (k + 1) (by omega)
  simp only [lackK]
  split <;> omega
theorem lacks_in (l : Sl Mach) (r : Nat → Bool) (f x : Int) : 0 ≤ lacks l r f x ∧ lacks l r f x ≤ 3 := by
 have := lackK_in l.el r f x l.len 3 1 (by omega)
 unfold lacks
 omega
abbrev PlantF (l : Sl Mach) (F : Nat) : Prop := PlantOk l ∧ 1000 < F
variable (F d : Nat)
theorem rowsB {l : Sl Mach} (hl : PlantOk l) (hF : 1000 < F) : RowsB l F := fun i hi => by
 have := (hl.1 i hi).2.2.1
 exact ⟨lenB (by omega), by omega⟩
section
variable {l : Sl Mach} (hl : PlantOk l) (hF : 1000 < F)
include hl
theorem mostS_in (r : Nat → Bool) (x k : Int) : ∀ j, j ≤ l.len → 0 ≤ mostS l.el r x k j ∧ mostS l.el r x k j ≤ 1000000 * j
 | 0, _ => by simp [mostS]
 | j + 1, h => by
  have i := mostS_in r x k j (by omega)
  have hr := row_in (hl.1 j (by omega)) x
  simp only [mostS]
  split <;> omega
include hF
theorem e82 (x : Int) {i : Nat} (hi : i < l.len) : (E F (d + 1)).pf 81 [.agg (eMach (l.el i)), .int .i64 x] = some (.ret (.agg (eRow (rowAt (l.el i) x)))) := s82 F d (l.el i) x (rowsB F hl hF i hi).1 (rowsB F hl hF i hi).2
theorem l54x1 (r : Sl Bool) (hr : r.len = l.len) (f x : Int) (m0 a : Nat) (k : Int) (R : Option Out)
  (K : (bif shortK l.el r.el f x k l.len then some (.ret (.int .i64 k)) else L54x0 (E F (d + 1)) F l r f x m0 .i64 1 .i64 2 .i64 3 (IntKind.i64.wrap ((a : Int) + 1))) = R) : ∀ j i fu, i + j = l.len → j < fu →
  L54x1 (E F (d + 1)) F l r f x m0 fu .i64 k (thereS l.el k i) (mostS l.el r.el x k i) .i64 1 .i64 2 .i64 3 a i = R := by
 have hll := hl.2
 intro j
 induction j with
 | zero =>
  intro i fu h hf
  obtain ⟨fu, rfl⟩ : ∃ k, fu = k + 1 := ⟨fu - 1, by omega⟩
  have hi : i = l.len := by omega
  subst hi
  rw [L54x1s, decide_eq_false (by omega), pF]
  unfold shortK at K
  cases hb : thereS l.el k l.len with
  | true =>
   rw [hb, Bool.true_and] at K
   rw [pT]
   cases hd : decide (mostS l.el r.el x k l.len < f) with
   | true => rw [hd, cond_true] at K; rw [pT]; exact K
   | false => rw [hd, cond_false] at K; rw [pF]; exact K
  | false =>
   rw [hb, Bool.false_and, cond_false] at K
   rw [pF]
   exact K
 | succ j ih =>
  intro i fu h hf
  obtain ⟨fu, rfl⟩ : ∃ k, fu = k + 1 := ⟨fu - 1, by omega⟩
  have hS : IntKind.i64.wrap ((i : Int) + 1) = ((i + 1 : Nat) : Int) := wrS (by omega)
  have hm := mostS_in hl r.el x k i (by omega)
  have hrw := row_in (hl.1 i (by omega)) x
  have e := ih (i + 1) fu (by omega) (by omega)
  have q := e82 F d hl hF x (i := i) (by omega)
  simp only [thereS, mostS] at e
  rw [L54x1s]
  simp (disch := omega) only [decide_eq_true, decide_true, pT, Int.toNat_natCast, hS]
  by_cases hk : (l.el i).kind = k
  ·rw [show ((l.el i).kind != k) = false by simp [hk], pF]
   rw [decide_eq_true hk, Bool.or_true] at e
   cases hb : r.el i with
   | true =>
    rw [if_pos ⟨hk, hb⟩] at e
    rw [pT]
    simp only [q, tkOut_ret, tkAgg_a, tkCons_c, tkInt_i, tkNil_n, decide_true, pT]
    rw [wr (n := mostS l.el r.el x k i + (rowAt (l.el i) x).most) (by omega)]
    exact e
   | false =>
    rw [if_neg (fun hh => by rw [hb] at hh; cases hh.2), Int.add_zero] at e
    rw [pF]
    exact e
  ·rw [show ((l.el i).kind != k) = true by simp [hk], pT]
   rw [decide_eq_false hk, Bool.or_false, if_neg (fun hh => hk hh.1), Int.add_zero] at e
   exact e
omit hl hF in
theorem kind_at {a : Nat} (ha : a < 3) : List.drop (a * 1) [V.int .i64 1, .int .i64 2, .int .i64 3] = .int .i64 ((a : Int) + 1) :: List.drop (a + 1) [V.int .i64 1, .int .i64 2, .int .i64 3] := by
 match a, ha with
 | 0, _ => rfl
 | 1, _ => rfl
 | 2, _ => rfl
theorem l54x0 (r : Sl Bool) (hr : r.len = l.len) (f x : Int) : ∀ (j a : Nat) fu, a + j = 3 → j < fu → L54x0 (E F (d + 1)) F l r f x fu .i64 1 .i64 2 .i64 3 a = some (.ret (.int .i64 (lackK l.el r.el f x l.len j ((a : Int) + 1)))) := by
 have hll := hl.2
 intro j
 induction j with
 | zero =>
  intro a fu h hf
  obtain ⟨fu, rfl⟩ : ∃ k, fu = k + 1 := ⟨fu - 1, by omega⟩
  rw [L54x0s, decide_eq_false (by omega), pF]; rfl
 | succ j ih =>
  intro a fu h hf
  obtain ⟨fu, rfl⟩ : ∃ k, fu = k + 1 := ⟨fu - 1, by omega⟩
  rw [L54x0s]
  simp (disch := omega) only [decide_eq_true, decide_true, pT, Int.toNat_natCast, kind_at, tkCons_c, tkInt_i]
  refine l54x1 F d hl hF r hr f x fu a ((a : Int) + 1) _ ?_ l.len 0 F (by omega) (by omega)
  simp only [lackK]
  cases shortK l.el r.el f x ((a : Int) + 1) l.len with
  | true => rw [cond_true, if_pos rfl]
  | false =>
   rw [cond_false, if_neg (by simp), wrS (by omega)]
   have e := ih (a + 1) fu (by omega) (by omega)
   rw [show (((a + 1 : Nat) : Int) + 1) = (a : Int) + 1 + 1 by omega] at e
   exact e
theorem s54 (r : Sl Bool) (hr : r.len = l.len) (f x : Int) : (E F (d + 2)).pf 51 [sl eMach 10 l, sl eBool 1 r, .int .i64 f, .int .i64 x] = some (.ret (.int .i64 (lacks l r.el f x))) := by
 have q : (E F (d + 1)).pf 80 [] = some (.ret (.agg [.int .i64 1, .int .i64 2, .int .i64 3])) := by rw [E_pf, t83]
 rw [E_pf, t54]
 simp only [q, tkOut_ret, tkAgg_a, tkCons_c, tkInt_i, tkNil_n]
 exact l54x0 F d hl hF r hr f x 3 0 F (by omega) (by omega)
end
def ratR (m : Mach) (s : Span) : Nat → Nat → List Int
 | 0, _ => []
 | j + 1, i => (if s.lo < (m.rows.el i).ratio + 1 ∧ (m.rows.el i).ratio + 1 ≤ s.hi then [(m.rows.el i).ratio + 1] else []) ++ ratR m s j (i + 1)
def ratM (l : Sl Mach) (s : Span) : Nat → Nat → List Int
 | 0, _ => []
 | j + 1, i => ratR (l.el i) s (l.el i).rows.len 0 ++ ratM l s j (i + 1)
def ratL (l : Sl Mach) (s : Span) : List Int := s.lo :: ratM l s l.len 0
theorem ratR_in {m : Mach} {s : Span} : ∀ j i, ∀ x ∈ ratR m s j i, s.lo < x ∧ x ≤ s.hi
 | 0, _, x, h => by simp [ratR] at h
 | j + 1, i, x, h => by
  simp only [ratR, List.mem_append] at h
  rcases h with h | h
  ·split at h
   ·rename_i hc
    rw [List.mem_singleton] at h
    subst h
    exact hc
   ·simp at h
  ·exact ratR_in j (i + 1) x h
theorem ratM_in {l : Sl Mach} {s : Span} : ∀ j i, ∀ x ∈ ratM l s j i, s.lo < x ∧ x ≤ s.hi
 | 0, _, x, h => by simp [ratM] at h
 | j + 1, i, x, h => by
  simp only [ratM, List.mem_append] at h
  rcases h with h | h
  ·exact ratR_in _ _ x h
  ·exact ratM_in j (i + 1) x h
theorem ratL_in {l : Sl Mach} {s : Span} (hs : RatioOk s) : ∀ x ∈ ratL l s, s.lo ≤ x ∧ x ≤ s.hi := fun x h => by
 rcases List.mem_cons.1 h with rfl | h
 ·exact ⟨Int.le_refl _, hs.2.1⟩
 ·have := ratM_in _ _ x h
  omega
section
variable {l : Sl Mach} (hl : PlantOk l) (hF : 1000 < F) {s : Span} (hs : RatioOk s)
include hl hF hs
end
def updK (o k : Int) : Int := if k ≠ 0 ∧ (o = 0 ∨ k < o) then k else o
def shortF (l : Sl Mach) (r : Nat → Bool) (f : Int) (o : Int) (xs : List Int) : Int := xs.foldl (fun o x => updK o (lacks l r f x)) o
def shortest (l : Sl Mach) (r : Nat → Bool) (f : Int) (s : Span) : Int := shortF l r f 0 (ratL l s)
def failsB (l : Sl Mach) (r : Nat → Bool) (f : Int) (xs : List Int) : Bool := xs.any fun x => decide (lacks l r f x > 0)
theorem shortF_in (l : Sl Mach) (r : Nat → Bool) (f : Int) : ∀ xs o, 0 ≤ o → o ≤ 3 → 0 ≤ shortF l r f o xs ∧ shortF l r f o xs ≤ 3
 | [], o, h1, h2 => ⟨h1, h2⟩
 | x :: xs, o, h1, h2 => by
  have hx := lacks_in l r f x
  have : shortF l r f o (x :: xs) = shortF l r f (updK o (lacks l r f x)) xs := rfl
  rw [this]
  refine shortF_in l r f xs _ ?_ ?_ <;> unfold updK <;> split <;> omega
theorem shortF_0 (l : Sl Mach) (r : Nat → Bool) (f : Int) : ∀ xs o, 0 ≤ o → (shortF l r f o xs ≠ 0 ↔ o ≠ 0 ∨ failsB l r f xs = true)
 | [], o, _ => by simp [shortF, failsB]
 | x :: xs, o, h1 => by
  have hx := lacks_in l r f x
  have e : shortF l r f o (x :: xs) = shortF l r f (updK o (lacks l r f x)) xs := rfl
  rw [e, shortF_0 l r f xs _ (by unfold updK; split <;> omega)]
  have e2 : failsB l r f (x :: xs) = (decide (lacks l r f x > 0) || failsB l r f xs) := rfl
  rw [e2, Bool.or_eq_true, decide_eq_true_iff]
  have e3 : updK o (lacks l r f x) ≠ 0 ↔ o ≠ 0 ∨ lacks l r f x > 0 := by
   unfold updK
   split
   ·rename_i h
    constructor
    ·intro _; omega
    ·intro _; omega
   ·rename_i h
    constructor
    ·intro hh; exact .inl hh
    ·rintro (hh | hh)
     ·exact hh
     ·intro ho; exact h ⟨by omega, .inl ho⟩
  rw [e3, or_assoc]
theorem shortest_0 (l : Sl Mach) (r : Nat → Bool) (f : Int) (s : Span) : shortest l r f s ≠ 0 ↔ failsB l r f (ratL l s) = true := by
 unfold shortest
 rw [shortF_0 l r f _ 0 (by omega)]
 simp
section
variable {l : Sl Mach} (hl : PlantOk l) (hF : 1000 < F) {s : Span} (hs : RatioOk s) (r : Sl Bool) (hr : r.len = l.len) (f : Int)
include hl hF hs hr
theorem l57x1 (m0 i : Nat) (hi : i < l.len) (R : Option Out) (hFd : (E F (d + 2)).pf 49 = (E F (d + 2)).pf 49) : ∀ j k fu (o : Int), k + j = (l.el i).rows.len → j < fu → 0 ≤ o → o ≤ 3 →
  (L57x0 (E F (d + 2)) F l r f s m0 (fun _ => eSpan s) l.nl l.len 10 (fun i => eMach (l.el i)) l.len ((i + 1 : Nat) : Int) .i64 (shortF l r.el f o (ratR (l.el i) s j k)) (fun _ => eSpan s) (fun _ => [sl eMach 10 l]) = R) →
  L57x1 (E F (d + 2)) F l r f s m0 fu (fun _ => eSpan s) l.nl l.len 10 (fun i => eMach (l.el i)) l.len i (l.el i).rows.nl (l.el i).rows.len 4 (fun k => eRow ((l.el i).rows.el k)) (l.el i).rows.len k .i64 o (fun _ => eSpan s) (fun _ => [sl eMach 10 l]) = R := by
 have hll := hl.2
 intro j
 induction j with
 | zero =>
  intro k fu o h hf ho1 ho2 K
  obtain ⟨fu, rfl⟩ : ∃ k, fu = k + 1 := ⟨fu - 1, by omega⟩
  have hS : IntKind.i64.wrap ((i : Int) + 1) = ((i + 1 : Nat) : Int) := wrS (by omega)
  simp only [ratR, shortF, List.foldl_nil] at K
  rw [L57x1s, decide_eq_false (by omega), pF, hS]
  exact K
 | succ j ih =>
  intro k fu o h hf ho1 ho2 K
  obtain ⟨fu, rfl⟩ : ∃ k, fu = k + 1 := ⟨fu - 1, by omega⟩
  have hm := (hl.1 i hi).1 k (by omega)
  have hml := (hl.1 i hi).2.2.1
  have hS : IntKind.i64.wrap ((k : Int) + 1) = ((k + 1 : Nat) : Int) := wrS (by omega)
  have q52 := s52 F (d + 1) (((l.el i).rows.el k).ratio + 1) (s.lo + 1) s.hi
  have q54 := s54 F d hl hF r hr f (((l.el i).rows.el k).ratio + 1)
  have hlk := lacks_in l r.el f (((l.el i).rows.el k).ratio + 1)
  simp only [ratR] at K
  rw [L57x1s]
  simp (disch := omega) only [decide_eq_true, decide_true, pT, Int.toNat_natCast, show ((4 : Nat) == 4) = true from rfl, List.take, List.length, List.drop, show ((0 + 1 + 1 + 1 + 1 : Nat) == 4) = true from rfl, tkCons_c, tkInt_i, tkNil_n, wr (n := ((l.el i).rows.el k).ratio + 1), wr (n := s.lo + 1), q52, tkOut_ret, tkBool_b, hS]
  by_cases h1 : s.lo < ((l.el i).rows.el k).ratio + 1 ∧ ((l.el i).rows.el k).ratio + 1 ≤ s.hi
  ·rw [decide_eq_true (show s.lo + 1 ≤ ((l.el i).rows.el k).ratio + 1 ∧ ((l.el i).rows.el k).ratio + 1 ≤ s.hi by omega), pT]
   rw [if_pos h1] at K
   have K' : L57x0 (E F (d + 2)) F l r f s m0 (fun _ => eSpan s) l.nl l.len 10 (fun i => eMach (l.el i)) l.len ((i + 1 : Nat) : Int) .i64 (shortF l r.el f (updK o (lacks l r.el f (((l.el i).rows.el k).ratio + 1))) (ratR (l.el i) s j (k + 1))) (fun _ => eSpan s) (fun _ => [sl eMach 10 l]) = R := K
   have e := fun h1 h2 => ih (k + 1) fu (updK o (lacks l r.el f (((l.el i).rows.el k).ratio + 1))) (by omega) (by omega) h1 h2 K'
   simp only [q54, tkOut_ret, tkInt_i, decide_true, pT]
   by_cases g1 : lacks l r.el f (((l.el i).rows.el k).ratio + 1) = 0
   ·rw [show (lacks l r.el f (((l.el i).rows.el k).ratio + 1) != 0) = false by simp [g1], pF]
    have eu : updK o (lacks l r.el f (((l.el i).rows.el k).ratio + 1)) = o := by unfold updK; rw [if_neg (by omega)]
    rw [eu] at e
    exact e ho1 ho2
   ·rw [show (lacks l r.el f (((l.el i).rows.el k).ratio + 1) != 0) = true by simp [g1], pT]
    by_cases g2 : o = 0
    ·rw [show (o == 0) = true by simp [g2], pT]
     have eu : updK o (lacks l r.el f (((l.el i).rows.el k).ratio + 1)) = lacks l r.el f (((l.el i).rows.el k).ratio + 1) := by unfold updK; rw [if_pos ⟨g1, .inl g2⟩]
     rw [eu] at e
     exact e (by omega) (by omega)
    ·rw [show (o == 0) = false by simp [g2], pF]
     by_cases g3 : lacks l r.el f (((l.el i).rows.el k).ratio + 1) < o
     ·rw [decide_eq_true g3, pT]
      have eu : updK o (lacks l r.el f (((l.el i).rows.el k).ratio + 1)) = lacks l r.el f (((l.el i).rows.el k).ratio + 1) := by unfold updK; rw [if_pos ⟨g1, .inr g3⟩]
      rw [eu] at e
      exact e (by omega) (by omega)
     ·rw [decide_eq_false g3, pF]
      have eu : updK o (lacks l r.el f (((l.el i).rows.el k).ratio + 1)) = o := by unfold updK; rw [if_neg (by omega)]
      rw [eu] at e
      exact e ho1 ho2
  ·rw [decide_eq_false (show ¬ (s.lo + 1 ≤ ((l.el i).rows.el k).ratio + 1 ∧ ((l.el i).rows.el k).ratio + 1 ≤ s.hi) by omega), pF]
   rw [if_neg h1, List.nil_append] at K
   exact ih (k + 1) fu o (by omega) (by omega) ho1 ho2 K
theorem l57x0 : ∀ j i fu (o : Int), i + j = l.len → j < fu → 0 ≤ o → o ≤ 3 →
  L57x0 (E F (d + 2)) F l r f s fu (fun _ => eSpan s) l.nl l.len 10 (fun i => eMach (l.el i)) l.len i .i64 o (fun _ => eSpan s) (fun _ => [sl eMach 10 l]) = some (.ret (.int .i64 (shortF l r.el f o (ratM l s j i)))) := by
 have hll := hl.2
 intro j
 induction j with
 | zero =>
  intro i fu o h hf ho1 ho2
  obtain ⟨fu, rfl⟩ : ∃ k, fu = k + 1 := ⟨fu - 1, by omega⟩
  rw [L57x0s, decide_eq_false (by omega), pF]; rfl
 | succ j ih =>
  intro i fu o h hf ho1 ho2
  obtain ⟨fu, rfl⟩ : ∃ k, fu = k + 1 := ⟨fu - 1, by omega⟩
  have hml := (hl.1 i (by omega)).2.2.1
  have hsf := shortF_in l r.el f (ratR (l.el i) s (l.el i).rows.len 0) o ho1 ho2
  have e := ih (i + 1) fu (shortF l r.el f o (ratR (l.el i) s (l.el i).rows.len 0)) (by omega) (by omega) hsf.1 hsf.2
  have e' : shortF l r.el f (shortF l r.el f o (ratR (l.el i) s (l.el i).rows.len 0)) (ratM l s j (i + 1)) = shortF l r.el f o (ratM l s (j + 1) i) := by
   unfold shortF
   rw [ratM, List.foldl_append]
  rw [e'] at e
  rw [L57x0s]
  simp (disch := omega) only [decide_eq_true, decide_true, pT, Int.toNat_natCast, show ((10 : Nat) == 10) = true from rfl, List.take, List.length, show ((0 + 1 + 1 + 1 + 1 + 1 + 1 + 1 + 1 + 1 + 1 : Nat) == 10) = true from rfl, tkCons_c, tkInt_i, tkBool_b, tkRow_r, tkNil_n]
  exact l57x1 F d hl hF hs r hr f fu i (by omega) _ rfl (l.el i).rows.len 0 F o (by omega) (by omega) ho1 ho2 e
theorem s57 : (E F (d + 3)).pf 109 [sl eMach 10 l, sl eBool 1 r, .int .i64 f, .agg (eSpan s)] = some (.ret (.int .i64 (shortest l r.el f s))) := by
 have q90 : (E F (d + 2)).pf 78 [sl eMach 10 l, .agg (eSpan s)] = some (.ret (.fn (.func 110) [] [.rptr 1 2 (fun _ => eSpan s) 0 0, .rptr 1 1 (fun _ => [sl eMach 10 l]) 0 0])) := by
  rw [E_pf]
  exact t90 _ _ l s
 have q54 := s54 F d hl hF r hr f s.lo
 have hlk := lacks_in l r.el f s.lo
 have e := l57x0 F d hl hF hs r hr f l.len 0 F (lacks l r.el f s.lo) (by omega) (by have := hl.2; omega) hlk.1 hlk.2
 have e' : shortF l r.el f (lacks l r.el f s.lo) (ratM l s l.len 0) = shortest l r.el f s := by
  have : shortest l r.el f s = shortF l r.el f (updK 0 (lacks l r.el f s.lo)) (ratM l s l.len 0) := rfl
  have eu : updK 0 (lacks l r.el f s.lo) = lacks l r.el f s.lo := by
   unfold updK
   split
   ·rfl
   ·omega
  rw [this, eu]
 rw [e'] at e
 rw [E_pf, t57]
 simp only [q90, tkOut_ret, tkFn_f, Nat.beq_refl, pT, tkNil_n, tkCons_c, tkPtr_p, Bool.and_self, tkInt_i, tkRow_r]
 simp only [q54, tkOut_ret, tkInt_i, decide_true, pT]
 by_cases h0 : lacks l r.el f s.lo = 0
 ·rw [show (lacks l r.el f s.lo != 0) = false by simp [h0], pF]
  rw [h0, Int.natCast_zero] at e
  exact e
 ·rw [show (lacks l r.el f s.lo != 0) = true by simp [h0], pT]
  exact e
end
end Go.Sim.Pl


namespace Go.Sim.Pl
open Go.Sim.Le (cfg E E_pf E_hv names look)
open Go.Proofs
def pd (key : Nat → Int) : List Nat → Nat → List Nat → List Nat
 | [], x, B => x :: B
 | y :: A, x, B => if key x < key y then pd key A x (y :: B) else (y :: A).reverse ++ x :: B
def srt (key : Nat → Int) : List Nat → List Nat → List Nat
 | S, [] => S
 | S, y :: r => srt key (pd key S.reverse y []) r
theorem pd_len (key : Nat → Int) : ∀ (A : List Nat) (x : Nat) (B : List Nat), (pd key A x B).length = A.length + 1 + B.length
 | [], x, B => by simp only [pd, List.length_cons, List.length_nil]; omega
 | y :: A, x, B => by
  simp only [pd]
  split
  ·rw [pd_len key A x (y :: B)]; simp only [List.length_cons]; omega
  ·simp only [List.length_append, List.length_reverse, List.length_cons]; omega
theorem pd_mem (key : Nat → Int) : ∀ (A : List Nat) (x : Nat) (B : List Nat) (z : Nat), z ∈ pd key A x B ↔ z ∈ A ∨ z = x ∨ z ∈ B
 | [], x, B, z => by simp [pd]
 | y :: A, x, B, z => by
  simp only [pd]
  split
  ·rw [pd_mem key A x (y :: B)]
   simp only [List.mem_cons]
   constructor
   ·rintro (h | h | h | h)
    ·exact .inl (.inr h)
    ·exact .inr (.inl h)
    ·exact .inl (.inl h)
    ·exact .inr (.inr h)
   ·rintro ((h | h) | h | h)
    ·exact .inr (.inr (.inl h))
    ·exact .inl h
    ·exact .inr (.inl h)
    ·exact .inr (.inr (.inr h))
  ·simp only [List.mem_append, List.mem_reverse, List.mem_cons]
theorem srt_len (key : Nat → Int) : ∀ (r S : List Nat), (srt key S r).length = S.length + r.length
 | [], S => by simp [srt]
 | y :: r, S => by
  simp only [srt]
  rw [srt_len key r, pd_len]
  simp only [List.length_reverse, List.length_nil, List.length_cons]
  omega
theorem srt_mem (key : Nat → Int) : ∀ (r S : List Nat) (z : Nat), z ∈ srt key S r ↔ z ∈ S ∨ z ∈ r
 | [], S, z => by simp [srt]
 | y :: r, S, z => by
  simp only [srt]
  rw [srt_mem key r, pd_mem]
  simp only [List.mem_reverse, List.mem_cons, List.not_mem_nil, or_false, or_assoc]
def Bef (key : Nat → Int) (a b : Nat) : Prop := key a < key b ∨ key a = key b ∧ a < b
theorem pd_ord (key : Nat → Int) : ∀ (A : List Nat) (x : Nat) (B : List Nat), (A.reverse ++ B).Pairwise (Bef key) → (∀ b ∈ B, Bef key x b) → (∀ a ∈ A, a < x) → (pd key A x B).Pairwise (Bef key)
 | [], x, B, h, hB, hA => by
  simp only [pd]
  exact List.pairwise_cons.2 ⟨hB, by simpa using h⟩
 | y :: A, x, B, h, hB, hA => by
  simp only [pd]
  split
  ·rename_i hk
   refine pd_ord key A x (y :: B) (by simpa using h) ?_ (fun a ha => hA a (by simp [ha]))
   intro b hb
   rcases List.mem_cons.1 hb with rfl | hb
   ·exact .inl hk
   ·exact hB b hb
  ·rename_i hk
   rw [List.pairwise_append] at h ⊢
   refine ⟨h.1, List.pairwise_cons.2 ⟨hB, h.2.1⟩, ?_⟩
   intro a ha b hb
   rcases List.mem_cons.1 hb with rfl | hb
   ·have hax := hA a (by simpa [or_comm] using ha)
    have h1 := h.1
    rw [List.reverse_cons, List.pairwise_append] at h1
    rw [List.reverse_cons, List.mem_append, List.mem_singleton] at ha
    rcases ha with ha | rfl
    ·have := h1.2.2 a ha y (by simp)
     rcases this with h2 | ⟨h2, _⟩
     ·exact .inl (by omega)
     ·rcases Int.lt_or_eq_of_le (Int.not_lt.1 hk) with h3 | h3
      ·exact .inl (by omega)
      ·exact .inr ⟨by omega, hax⟩
    ·rcases Int.lt_or_eq_of_le (Int.not_lt.1 hk) with h3 | h3
     ·exact .inl h3
     ·exact .inr ⟨h3, hax⟩
   ·exact h.2.2 a ha b hb
theorem srt_ord (key : Nat → Int) : ∀ (r S : List Nat), S.Pairwise (Bef key) → (∀ a ∈ S, ∀ b ∈ r, a < b) → r.Pairwise (· < ·) → (srt key S r).Pairwise (Bef key)
 | [], S, h, _, _ => h
 | y :: r, S, h, hS, hr => by
  simp only [srt]
  rw [List.pairwise_cons] at hr
  refine srt_ord key r _ (pd_ord key S.reverse y [] (by simpa using h) (by simp) (fun a ha => hS a (by simpa using ha) y (by simp))) ?_ hr.2
  intro a ha b hb
  rw [pd_mem] at ha
  rcases ha with ha | rfl | ha
  ·exact hS a (by simpa using ha) b (by simp [hb])
  ·exact hr.1 b hb
  ·simp at ha
theorem bef_irr {key : Nat → Int} {a b : Nat} (h1 : Bef key a b) (h2 : Bef key b a) : False := by
 unfold Bef at h1 h2; omega
theorem bef_self {key : Nat → Int} {a : Nat} (h1 : Bef key a a) : False := bef_irr h1 h1
theorem ord_uniq (key : Nat → Int) : ∀ (a b : List Nat), a.Pairwise (Bef key) → b.Pairwise (Bef key) → (∀ z, z ∈ a ↔ z ∈ b) → a = b
 | [], [], _, _, _ => rfl
 | [], y :: b, _, _, h => by have := (h y).2 (by simp); simp at this
 | x :: a, [], _, _, h => by have := (h x).1 (by simp); simp at this
 | x :: a, y :: b, ha, hb, h => by
  rw [List.pairwise_cons] at ha hb
  have e : x = y := by
   rcases List.mem_cons.1 ((h x).1 (by simp)) with h1 | h1
   ·exact h1
   ·rcases List.mem_cons.1 ((h y).2 (by simp)) with h2 | h2
    ·exact h2.symm
    ·exact (bef_irr (ha.1 y h2) (hb.1 x h1)).elim
  subst e
  rw [ord_uniq key a b ha.2 hb.2 fun z => ?_]
  constructor
  ·intro hz
   rcases List.mem_cons.1 ((h z).1 (by simp [hz])) with h1 | h1
   ·subst h1; exact (bef_self (ha.1 z hz)).elim
   ·exact h1
  ·intro hz
   rcases List.mem_cons.1 ((h z).2 (by simp [hz])) with h1 | h1
   ·subst h1; exact (bef_self (hb.1 z hz)).elim
   ·exact h1
def key0 : Nat → Int := fun _ => 0
def keyE (l : Sl Mach) (x : Int) : Nat → Int := fun i => (rowAt (l.el i) x).energy
def IsL (g : Nat → List V) (L : List Nat) : Prop := ∀ j, j < L.length → g j = eInt ((L.getD j 0 : Nat) : Int)
theorem getD_append_l {a b : List Nat} {j : Nat} (h : j < a.length) : (a ++ b).getD j 0 = a.getD j 0 := by
 rw [List.getD_eq_getElem?_getD, List.getElem?_append_left h, ← List.getD_eq_getElem?_getD]
theorem getD_append_r {a b : List Nat} {j : Nat} (h : a.length ≤ j) : (a ++ b).getD j 0 = b.getD (j - a.length) 0 := by
 rw [List.getD_eq_getElem?_getD, List.getElem?_append_right h, ← List.getD_eq_getElem?_getD]
theorem upd_at {g : Nat → List V} {n : Nat} {p a : Int} (h : g n = eInt a) : updGet g n 0 (eInt p) = fun j => if j = n then eInt p else g j := by
 funext j
 unfold updGet
 by_cases hj : j = n
 ·rw [if_pos hj, if_pos hj, hj, h]; rfl
 ·rw [if_neg hj, if_neg hj]
theorem sameK0 : sameV 8 (.fn (.func 85) [] []) (.fn (.func 85) [] []) = true := by simp [sameV]
theorem sameK1 (x : Int) : sameV 8 (.fn (.func 86) [] [(.rptr 1 1 (fun _ => [(.fn (.func 83) [] [(.rptr 1 1 (fun _ => [(.int .i64 x)]) 0 0)])]) 0 0)]) (.fn (.func 86) [] [(.rptr 1 1 (fun _ => [(.fn (.func 83) [] [(.rptr 1 1 (fun _ => [(.int .i64 x)]) 0 0)])]) 0 0)]) = true := by simp [sameV]
variable (F d : Nat)
section
variable {l : Sl Mach} (hl : PlantOk l) (hF : 1000 < F)
include hl hF
theorem s84 (i : Nat) (hi : i < l.len) (k : Int) (r : Sl Bool) (hr : r.len = l.len) : (E F (d + 1)).pf 82 [.int .i64 i, .agg (eMach (l.el i)), .rptr 1 1 (fun _ => [.int .i64 k]) 0 0, .rptr 1 1 (fun _ => [sl eBool 1 r]) 0 0] = some (.ret (.bool (decide ((l.el i).kind = k ∧ r.el i = true)))) := by
 rw [E_pf, t84]
 by_cases h : (l.el i).kind = k
 ·rw [show ((l.el i).kind == k) = true by simp [h], pT]
  simp (disch := omega) only [decide_eq_true, pT, Int.toNat_natCast]
  refine b3 (b2 ?_)
  simp [h]
 ·rw [show ((l.el i).kind == k) = false by simp [h], pF]
  refine b3 (b2 ?_)
  simp [h]
theorem s85 (i : Nat) (hi : i < l.len) (x : Int) : (E F (d + 2)).pf 83 [.agg (eMach (l.el i)), .rptr 1 1 (fun _ => [.int .i64 x]) 0 0] = some (.ret (.agg (eRow (rowAt (l.el i) x)))) := by
 have e := e82 F d hl hF x hi
 rw [E_pf, t85]
 simp only [e, tkOut_ret, tkAgg_a, tkCons_c, tkInt_i, tkNil_n]
theorem s87 (i : Nat) : (E F (d + 3)).pf 85 [.agg (eMach (l.el i))] = some (.ret (.int .i64 0)) := by
 rw [E_pf, t87]
theorem s88 (i : Nat) (hi : i < l.len) (x : Int) : (E F (d + 3)).pf 86 [.agg (eMach (l.el i)), .rptr 1 1 (fun _ => [.fn (.func 83) [] [.rptr 1 1 (fun _ => [.int .i64 x]) 0 0]]) 0 0] = some (.ret (.int .i64 (rowAt (l.el i) x).energy)) := by
 have e := s85 F d hl hF i hi x
 rw [E_pf, t88]
 simp only [e, tkOut_ret, tkAgg_a, tkCons_c, tkInt_i, tkNil_n]
theorem s1120 {a b : Nat} (ha : a < l.len) (hb : b < l.len) : (E F (d + 4)).pf 112 [.int .i64 a, .int .i64 b, .rptr 1 1 (fun _ => [(.fn (.func 85) [] [])]) 0 0, .rptr 1 1 (fun _ => [sl eMach 10 l]) 0 0] = some (.ret (.int .i64 (key0 a - key0 b))) := by
 have hl2 := hl.2
 skip
 rw [E_pf, t1120]
 simp (disch := omega) only [decide_eq_true, decide_true, pT, Int.toNat_natCast, s87 F d hl hF a, s87 F d hl hF b, tkOut_ret, tkInt_i, wr]
 rfl
theorem l1210x1 {n : Nat} (g0 : Nat → Int) (b : Int) (m0 i0 : Nat) (hi0 : i0 < 1000) (P : Option (Out × List Slot) → Prop) (rest : List Nat) (hn : n < 1000) :
  ∀ (A : List Nat) (y : Nat) (B : List Nat) fu g, A.length < fu → n = A.length + 1 + B.length + rest.length → (∀ z ∈ A, z < l.len) → y < l.len → IsL g (A.reverse ++ y :: (B ++ rest)) →
  (∀ g', IsL g' (pd (key0) A y B ++ rest) → P (L1210x0 (E F (d + 4)) F n g0 0 b l m0 ((i0 + 1 : Nat) : Int) g')) → P (L1210x1 (E F (d + 4)) F n g0 0 b l m0 fu i0 A.length g) := by
 intro A
 induction A with
 | nil =>
  intro y B fu g hf hn1 hA hy hg K
  obtain ⟨fu, rfl⟩ : ∃ k, fu = k + 1 := ⟨fu - 1, by omega⟩
  have hS : IntKind.i64.wrap ((i0 : Int) + 1) = ((i0 + 1 : Nat) : Int) := wrS (by omega)
  rw [L1210x1s, show ((([] : List Nat).length : Nat) : Int) = 0 from rfl, decide_eq_false (by omega), pF, hS]
  exact K g hg
 | cons z A ih =>
  intro y B fu g hf hn1 hA hy hg K
  obtain ⟨fu, rfl⟩ : ∃ k, fu = k + 1 := ⟨fu - 1, by omega⟩
  have hS : IntKind.i64.wrap ((i0 : Int) + 1) = ((i0 + 1 : Nat) : Int) := wrS (by omega)
  rw [List.length_cons] at hn1 hf ⊢
  have hP : IntKind.i64.wrap (((A.length + 1 : Nat) : Int) - 1) = ((A.length : Nat) : Int) := by rw [wr (by omega)]; omega
  have g1 : g (A.length + 1) = eInt (y : Int) := by
   rw [hg (A.length + 1) (by simp)]
   simp
  have g2 : g A.length = eInt (z : Int) := by
   rw [hg A.length (by simp)]
   simp
  have q := s1120 F d hl hF (a := y) (b := z) hy (hA z (by simp))
  have hIs : IsL (updGet (updGet g (A.length + 1) 0 (eInt (z : Int))) A.length 0 (eInt (y : Int))) (A.reverse ++ y :: ((z :: B) ++ rest)) := by
   rw [upd_at g1, upd_at (n := A.length) (a := (z : Int)) (by rw [if_neg (by omega)]; exact g2)]
   intro j hj
   show (if j = A.length then eInt (y : Int) else if j = A.length + 1 then eInt (z : Int) else g j) = _
   by_cases h1 : j = A.length
   ·rw [if_pos h1, h1, getD_append_r (by simp)]; simp
   ·rw [if_neg h1]
    by_cases h2 : j = A.length + 1
    ·rw [if_pos h2, h2, getD_append_r (by simp)]; simp
    ·rw [if_neg h2, hg j (by simp at hj ⊢; omega), List.reverse_cons, List.append_assoc]
     by_cases h3 : j < A.length
     ·rw [getD_append_l (by simp; omega), getD_append_l (by simp; omega)]
     ·obtain ⟨t, rfl⟩ : ∃ t, j = A.length + 2 + t := ⟨j - A.length - 2, by omega⟩
      rw [getD_append_r (a := A.reverse) (b := [z] ++ y :: (B ++ rest)) (by simp; omega), getD_append_r (a := A.reverse) (b := y :: (z :: B ++ rest)) (by simp; omega)]
      rw [show A.length + 2 + t - A.reverse.length = t + 1 + 1 by simp; omega]
      rfl
  rw [L1210x1s]
  simp (disch := omega) only [decide_eq_true, decide_true, pT, Int.toNat_natCast, hP, g1, g2, tkCons_c, tkInt_i, q, tkOut_ret]
  by_cases hk : (key0) y < (key0) z
  ·rw [decide_eq_true (show (key0) y - (key0) z < 0 by omega), pT]
   refine ih y (z :: B) fu _ (by omega) (by simp only [List.length_cons]; omega) (fun w hw => hA w (by simp [hw])) hy hIs ?_
   intro g' h'
   refine K g' ?_
   simp only [pd]
   rw [if_pos hk]
   exact h'
  ·rw [decide_eq_false (show ¬ (key0) y - (key0) z < 0 by omega), pF, hS]
   refine K g ?_
   simp only [pd]
   rw [if_neg hk, List.append_assoc, List.cons_append]
   exact hg
theorem l1210x0 {n : Nat} (g0 : Nat → Int) (hn : n < 1000) (hFn : n < F) : ∀ (rest S : List Nat) fu g, S.length + rest.length = n → rest.length < fu → (∀ z ∈ S, z < l.len) → (∀ z ∈ rest, z < l.len) → 0 < S.length → IsL g (S ++ rest) →
  ∃ g', IsL g' (srt (key0) S rest) ∧ L1210x0 (E F (d + 4)) F n g0 0 n l fu S.length g = some (.ret (.tup []), [.arr 3 1 n g' true, .box 178 [(.fn (.func 85) [] [])] true, .box 31 [sl eMach 10 l] true]) := by
 intro rest
 induction rest with
 | nil =>
  intro S fu g hn1 hf hS1 hr hS0 hg
  obtain ⟨fu, rfl⟩ : ∃ k, fu = k + 1 := ⟨fu - 1, by simp at hf; omega⟩
  refine ⟨g, ?_, ?_⟩
  ·simp only [srt]; rw [List.append_nil] at hg; exact hg
  ·rw [L1210x0s, decide_eq_false (by simp at hn1; omega), pF]
 | cons y rest ih =>
  intro S fu g hn1 hf hS1 hr hS0 hg
  obtain ⟨fu, rfl⟩ : ∃ k, fu = k + 1 := ⟨fu - 1, by omega⟩
  rw [List.length_cons] at hn1 hf
  rw [L1210x0s, decide_eq_true (by omega), pT]
  have e := l1210x1 F d hl hF (n := n) g0 n fu S.length (by omega) (fun o => ∃ g', IsL g' (srt (key0) S (y :: rest)) ∧ o = some (.ret (.tup []), [.arr 3 1 n g' true, .box 178 [(.fn (.func 85) [] [])] true, .box 31 [sl eMach 10 l] true])) rest hn S.reverse y [] F g (by simp; omega) (by simp; omega) (fun z hz => hS1 z (by simpa using hz)) (hr y (by simp)) (by simpa using hg)
  rw [List.length_reverse] at e
  refine e fun g' h' => ?_
  have hlen : (pd (key0) S.reverse y []).length = S.length + 1 := by rw [pd_len]; simp
  have e2 := ih (pd (key0) S.reverse y []) fu g' (by rw [hlen]; omega) (by omega) (fun z hz => ?_) (fun z hz => hr z (by simp [hz])) (by omega) h'
  ·rw [hlen] at e2
   exact e2
  ·rw [pd_mem] at hz
   rcases hz with hz | hz | hz
   ·exact hS1 z (by simpa using hz)
   ·rw [hz]; exact hr y (by simp)
   ·simp at hz
theorem s1110 {n : Nat} (g0 : Nat → Int) (L : List Nat) (hn : n < 20) (h0 : 0 < n) (hL : L.length = n) (hLl : ∀ z ∈ L, z < l.len) (hg : IsL (fun j => eInt (g0 j)) L) :
  ∃ g', IsL g' (srt (key0) [] L) ∧ (E F (d + 7)).hv 111 [.osl 0 0 n, .fn (.func 112) [] [.optr 1 0 0, .optr 2 0 0]] [.arr 3 1 n (fun j => eInt (g0 j)) true, .box 178 [(.fn (.func 85) [] [])] true, .box 31 [sl eMach 10 l] true] = some (.ret (.tup []), [.arr 3 1 n g' true, .box 178 [(.fn (.func 85) [] [])] true, .box 31 [sl eMach 10 l] true]) := by
 obtain ⟨F, rfl⟩ : ∃ k, F = k + 1 := ⟨F - 1, by omega⟩
 match L, hL with
 | [], hL => simp at hL; omega
 | y :: L, hL =>
  have e1 : ∃ g', IsL g' (srt (key0) [y] L) ∧ (E (F + 1) (d + 5)).hv 136 [.osl 0 0 n, .int .i64 0, .int .i64 n, .fn (.func 112) [] [.optr 1 0 0, .optr 2 0 0]] [.arr 3 1 n (fun j => eInt (g0 j)) true, .box 178 [(.fn (.func 85) [] [])] true, .box 31 [sl eMach 10 l] true] = some (.ret (.tup []), [.arr 3 1 n g' true, .box 178 [(.fn (.func 85) [] [])] true, .box 31 [sl eMach 10 l] true]) := by
   rw [E_hv, t1210]
   have e := l1210x0 (F + 1) d hl hF (n := n) g0 (by omega) (by omega) L [y] (F + 1) (fun j => eInt (g0 j)) (by simp at hL ⊢; omega) (by simp at hL; omega) (fun z hz => hLl z (by simp at hz; simp [hz])) (fun z hz => hLl z (by simp [hz])) (by simp) (by simpa using hg)
   rw [wr (by omega)]
   exact e
  obtain ⟨g', h1, h2⟩ := e1
  refine ⟨g', h1, ?_⟩
  have e2 : (E (F + 1) (d + 6)).hv 127 [.osl 0 0 n, .int .i64 n, .fn (.func 112) [] [.optr 1 0 0, .optr 2 0 0]] [.arr 3 1 n (fun j => eInt (g0 j)) true, .box 178 [(.fn (.func 85) [] [])] true, .box 31 [sl eMach 10 l] true] = some (.ret (.tup []), [.arr 3 1 n g' true, .box 178 [(.fn (.func 85) [] [])] true, .box 31 [sl eMach 10 l] true]) := by
   rw [E_hv, t1200]
   rw [L1200x0s, decide_eq_false (by omega), pF]
   simp only [h2, tkHv_h, tkTup_t, tkNil_n, tkSCons_c, tkArr_a, tkBox_b, Nat.beq_refl, Bool.and_self, beq_self_eq_true, pT, tkCons_c, sameK0, tkRow_r, tkSNil_n]
   rw [L1200x1s, decide_eq_false (by omega), pF]
  rw [E_hv, t1110]
  simp only [e2, tkHv_h, tkTup_t, tkNil_n, tkSCons_c, tkArr_a, tkBox_b, Nat.beq_refl, Bool.and_self, beq_self_eq_true, pT, tkCons_c, sameK0, tkRow_r, tkSNil_n]
theorem s1112 : (E F (d + 7)).hv 111 [.row true 0 0 (fun _ => []), .fn (.func 112) [] [.optr 0 0 0, .optr 1 0 0]] [.box 178 [(.fn (.func 85) [] [])] true, .box 31 [sl eMach 10 l] true] = some (.ret (.tup []), [.box 178 [(.fn (.func 85) [] [])] true, .box 31 [sl eMach 10 l] true]) := by
 obtain ⟨F, rfl⟩ : ∃ k, F = k + 1 := ⟨F - 1, by omega⟩
 have h2 : (E (F + 1) (d + 5)).hv 136 [.row true 0 0 (fun _ => []), .int .i64 0, .int .i64 ((0 : Nat) : Int), .fn (.func 112) [] [.optr 0 0 0, .optr 1 0 0]] [.box 178 [(.fn (.func 85) [] [])] true, .box 31 [sl eMach 10 l] true] = some (.ret (.tup []), [.box 178 [(.fn (.func 85) [] [])] true, .box 31 [sl eMach 10 l] true]) := by
  rw [E_hv, t1212, wr (by omega)]
  rw [L1212x0s, decide_eq_false (by omega), pF]
 have e2 : (E (F + 1) (d + 6)).hv 127 [.row true 0 0 (fun _ => []), .int .i64 ((0 : Nat) : Int), .fn (.func 112) [] [.optr 0 0 0, .optr 1 0 0]] [.box 178 [(.fn (.func 85) [] [])] true, .box 31 [sl eMach 10 l] true] = some (.ret (.tup []), [.box 178 [(.fn (.func 85) [] [])] true, .box 31 [sl eMach 10 l] true]) := by
  rw [E_hv, t1202]
  rw [L1202x0s, decide_eq_false (by omega), pF]
  simp only [h2, tkHv_h, tkTup_t, tkNil_n, tkSCons_c, tkArr_a, tkBox_b, Nat.beq_refl, Bool.and_self, beq_self_eq_true, pT, tkCons_c, sameK0, tkRow_r, tkSNil_n]
  rw [L1202x1s, decide_eq_false (by omega), pF]
 rw [E_hv, t1112]
 simp only [e2, tkHv_h, tkTup_t, tkNil_n, tkSCons_c, tkArr_a, tkBox_b, Nat.beq_refl, Bool.and_self, beq_self_eq_true, pT, tkCons_c, sameK0, tkRow_r, tkSNil_n]
theorem s1121 {a b : Nat} (ha : a < l.len) (hb : b < l.len) (x : Int) : (E F (d + 4)).pf 112 [.int .i64 a, .int .i64 b, .rptr 1 1 (fun _ => [(.fn (.func 86) [] [(.rptr 1 1 (fun _ => [(.fn (.func 83) [] [(.rptr 1 1 (fun _ => [(.int .i64 x)]) 0 0)])]) 0 0)])]) 0 0, .rptr 1 1 (fun _ => [sl eMach 10 l]) 0 0] = some (.ret (.int .i64 (keyE l x a - keyE l x b))) := by
 have hl2 := hl.2
 have ra := row_in (hl.1 a ha) x
 have rb := row_in (hl.1 b hb) x
 rw [E_pf, t1121]
 simp (disch := omega) only [decide_eq_true, decide_true, pT, Int.toNat_natCast, s88 F d hl hF a ha x, s88 F d hl hF b hb x, tkOut_ret, tkInt_i, wr]
 rfl
theorem l1211x1 {n : Nat} (g0 : Nat → Int) (x : Int) (b : Int) (m0 i0 : Nat) (hi0 : i0 < 1000) (P : Option (Out × List Slot) → Prop) (rest : List Nat) (hn : n < 1000) :
  ∀ (A : List Nat) (y : Nat) (B : List Nat) fu g, A.length < fu → n = A.length + 1 + B.length + rest.length → (∀ z ∈ A, z < l.len) → y < l.len → IsL g (A.reverse ++ y :: (B ++ rest)) →
  (∀ g', IsL g' (pd (keyE l x) A y B ++ rest) → P (L1211x0 (E F (d + 4)) F n g0 0 b l x m0 ((i0 + 1 : Nat) : Int) g')) → P (L1211x1 (E F (d + 4)) F n g0 0 b l x m0 fu i0 A.length g) := by
 intro A
 induction A with
 | nil =>
  intro y B fu g hf hn1 hA hy hg K
  obtain ⟨fu, rfl⟩ : ∃ k, fu = k + 1 := ⟨fu - 1, by omega⟩
  have hS : IntKind.i64.wrap ((i0 : Int) + 1) = ((i0 + 1 : Nat) : Int) := wrS (by omega)
  rw [L1211x1s, show ((([] : List Nat).length : Nat) : Int) = 0 from rfl, decide_eq_false (by omega), pF, hS]
  exact K g hg
 | cons z A ih =>
  intro y B fu g hf hn1 hA hy hg K
  obtain ⟨fu, rfl⟩ : ∃ k, fu = k + 1 := ⟨fu - 1, by omega⟩
  have hS : IntKind.i64.wrap ((i0 : Int) + 1) = ((i0 + 1 : Nat) : Int) := wrS (by omega)
  rw [List.length_cons] at hn1 hf ⊢
  have hP : IntKind.i64.wrap (((A.length + 1 : Nat) : Int) - 1) = ((A.length : Nat) : Int) := by rw [wr (by omega)]; omega
  have g1 : g (A.length + 1) = eInt (y : Int) := by
   rw [hg (A.length + 1) (by simp)]
   simp
  have g2 : g A.length = eInt (z : Int) := by
   rw [hg A.length (by simp)]
   simp
  have q := s1121 F d hl hF (a := y) (b := z) hy (hA z (by simp)) x
  have hIs : IsL (updGet (updGet g (A.length + 1) 0 (eInt (z : Int))) A.length 0 (eInt (y : Int))) (A.reverse ++ y :: ((z :: B) ++ rest)) := by
   rw [upd_at g1, upd_at (n := A.length) (a := (z : Int)) (by rw [if_neg (by omega)]; exact g2)]
   intro j hj
   show (if j = A.length then eInt (y : Int) else if j = A.length + 1 then eInt (z : Int) else g j) = _
   by_cases h1 : j = A.length
   ·rw [if_pos h1, h1, getD_append_r (by simp)]; simp
   ·rw [if_neg h1]
    by_cases h2 : j = A.length + 1
    ·rw [if_pos h2, h2, getD_append_r (by simp)]; simp
    ·rw [if_neg h2, hg j (by simp at hj ⊢; omega), List.reverse_cons, List.append_assoc]
     by_cases h3 : j < A.length
     ·rw [getD_append_l (by simp; omega), getD_append_l (by simp; omega)]
     ·obtain ⟨t, rfl⟩ : ∃ t, j = A.length + 2 + t := ⟨j - A.length - 2, by omega⟩
      rw [getD_append_r (a := A.reverse) (b := [z] ++ y :: (B ++ rest)) (by simp; omega), getD_append_r (a := A.reverse) (b := y :: (z :: B ++ rest)) (by simp; omega)]
      rw [show A.length + 2 + t - A.reverse.length = t + 1 + 1 by simp; omega]
      rfl
  rw [L1211x1s]
  simp (disch := omega) only [decide_eq_true, decide_true, pT, Int.toNat_natCast, hP, g1, g2, tkCons_c, tkInt_i, q, tkOut_ret]
  by_cases hk : (keyE l x) y < (keyE l x) z
  ·rw [decide_eq_true (show (keyE l x) y - (keyE l x) z < 0 by omega), pT]
   refine ih y (z :: B) fu _ (by omega) (by simp only [List.length_cons]; omega) (fun w hw => hA w (by simp [hw])) hy hIs ?_
   intro g' h'
   refine K g' ?_
   simp only [pd]
   rw [if_pos hk]
   exact h'
  ·rw [decide_eq_false (show ¬ (keyE l x) y - (keyE l x) z < 0 by omega), pF, hS]
   refine K g ?_
   simp only [pd]
   rw [if_neg hk, List.append_assoc, List.cons_append]
   exact hg
theorem l1211x0 {n : Nat} (g0 : Nat → Int) (x : Int) (hn : n < 1000) (hFn : n < F) : ∀ (rest S : List Nat) fu g, S.length + rest.length = n → rest.length < fu → (∀ z ∈ S, z < l.len) → (∀ z ∈ rest, z < l.len) → 0 < S.length → IsL g (S ++ rest) →
  ∃ g', IsL g' (srt (keyE l x) S rest) ∧ L1211x0 (E F (d + 4)) F n g0 0 n l x fu S.length g = some (.ret (.tup []), [.arr 3 1 n g' true, .box 178 [(.fn (.func 86) [] [(.rptr 1 1 (fun _ => [(.fn (.func 83) [] [(.rptr 1 1 (fun _ => [(.int .i64 x)]) 0 0)])]) 0 0)])] true, .box 31 [sl eMach 10 l] true]) := by
 intro rest
 induction rest with
 | nil =>
  intro S fu g hn1 hf hS1 hr hS0 hg
  obtain ⟨fu, rfl⟩ : ∃ k, fu = k + 1 := ⟨fu - 1, by simp at hf; omega⟩
  refine ⟨g, ?_, ?_⟩
  ·simp only [srt]; rw [List.append_nil] at hg; exact hg
  ·rw [L1211x0s, decide_eq_false (by simp at hn1; omega), pF]
 | cons y rest ih =>
  intro S fu g hn1 hf hS1 hr hS0 hg
  obtain ⟨fu, rfl⟩ : ∃ k, fu = k + 1 := ⟨fu - 1, by omega⟩
  rw [List.length_cons] at hn1 hf
  rw [L1211x0s, decide_eq_true (by omega), pT]
  have e := l1211x1 F d hl hF (n := n) g0 x n fu S.length (by omega) (fun o => ∃ g', IsL g' (srt (keyE l x) S (y :: rest)) ∧ o = some (.ret (.tup []), [.arr 3 1 n g' true, .box 178 [(.fn (.func 86) [] [(.rptr 1 1 (fun _ => [(.fn (.func 83) [] [(.rptr 1 1 (fun _ => [(.int .i64 x)]) 0 0)])]) 0 0)])] true, .box 31 [sl eMach 10 l] true])) rest hn S.reverse y [] F g (by simp; omega) (by simp; omega) (fun z hz => hS1 z (by simpa using hz)) (hr y (by simp)) (by simpa using hg)
  rw [List.length_reverse] at e
  refine e fun g' h' => ?_
  have hlen : (pd (keyE l x) S.reverse y []).length = S.length + 1 := by rw [pd_len]; simp
  have e2 := ih (pd (keyE l x) S.reverse y []) fu g' (by rw [hlen]; omega) (by omega) (fun z hz => ?_) (fun z hz => hr z (by simp [hz])) (by omega) h'
  ·rw [hlen] at e2
   exact e2
  ·rw [pd_mem] at hz
   rcases hz with hz | hz | hz
   ·exact hS1 z (by simpa using hz)
   ·rw [hz]; exact hr y (by simp)
   ·simp at hz
theorem s1111 {n : Nat} (g0 : Nat → Int) (L : List Nat) (x : Int) (hn : n < 20) (h0 : 0 < n) (hL : L.length = n) (hLl : ∀ z ∈ L, z < l.len) (hg : IsL (fun j => eInt (g0 j)) L) :
  ∃ g', IsL g' (srt (keyE l x) [] L) ∧ (E F (d + 7)).hv 111 [.osl 0 0 n, .fn (.func 112) [] [.optr 1 0 0, .optr 2 0 0]] [.arr 3 1 n (fun j => eInt (g0 j)) true, .box 178 [(.fn (.func 86) [] [(.rptr 1 1 (fun _ => [(.fn (.func 83) [] [(.rptr 1 1 (fun _ => [(.int .i64 x)]) 0 0)])]) 0 0)])] true, .box 31 [sl eMach 10 l] true] = some (.ret (.tup []), [.arr 3 1 n g' true, .box 178 [(.fn (.func 86) [] [(.rptr 1 1 (fun _ => [(.fn (.func 83) [] [(.rptr 1 1 (fun _ => [(.int .i64 x)]) 0 0)])]) 0 0)])] true, .box 31 [sl eMach 10 l] true]) := by
 obtain ⟨F, rfl⟩ : ∃ k, F = k + 1 := ⟨F - 1, by omega⟩
 match L, hL with
 | [], hL => simp at hL; omega
 | y :: L, hL =>
  have e1 : ∃ g', IsL g' (srt (keyE l x) [y] L) ∧ (E (F + 1) (d + 5)).hv 136 [.osl 0 0 n, .int .i64 0, .int .i64 n, .fn (.func 112) [] [.optr 1 0 0, .optr 2 0 0]] [.arr 3 1 n (fun j => eInt (g0 j)) true, .box 178 [(.fn (.func 86) [] [(.rptr 1 1 (fun _ => [(.fn (.func 83) [] [(.rptr 1 1 (fun _ => [(.int .i64 x)]) 0 0)])]) 0 0)])] true, .box 31 [sl eMach 10 l] true] = some (.ret (.tup []), [.arr 3 1 n g' true, .box 178 [(.fn (.func 86) [] [(.rptr 1 1 (fun _ => [(.fn (.func 83) [] [(.rptr 1 1 (fun _ => [(.int .i64 x)]) 0 0)])]) 0 0)])] true, .box 31 [sl eMach 10 l] true]) := by
   rw [E_hv, t1211]
   have e := l1211x0 (F + 1) d hl hF (n := n) g0 x (by omega) (by omega) L [y] (F + 1) (fun j => eInt (g0 j)) (by simp at hL ⊢; omega) (by simp at hL; omega) (fun z hz => hLl z (by simp at hz; simp [hz])) (fun z hz => hLl z (by simp [hz])) (by simp) (by simpa using hg)
   rw [wr (by omega)]
   exact e
  obtain ⟨g', h1, h2⟩ := e1
  refine ⟨g', h1, ?_⟩
  have e2 : (E (F + 1) (d + 6)).hv 127 [.osl 0 0 n, .int .i64 n, .fn (.func 112) [] [.optr 1 0 0, .optr 2 0 0]] [.arr 3 1 n (fun j => eInt (g0 j)) true, .box 178 [(.fn (.func 86) [] [(.rptr 1 1 (fun _ => [(.fn (.func 83) [] [(.rptr 1 1 (fun _ => [(.int .i64 x)]) 0 0)])]) 0 0)])] true, .box 31 [sl eMach 10 l] true] = some (.ret (.tup []), [.arr 3 1 n g' true, .box 178 [(.fn (.func 86) [] [(.rptr 1 1 (fun _ => [(.fn (.func 83) [] [(.rptr 1 1 (fun _ => [(.int .i64 x)]) 0 0)])]) 0 0)])] true, .box 31 [sl eMach 10 l] true]) := by
   rw [E_hv, t1201]
   rw [L1201x0s, decide_eq_false (by omega), pF]
   simp only [h2, tkHv_h, tkTup_t, tkNil_n, tkSCons_c, tkArr_a, tkBox_b, Nat.beq_refl, Bool.and_self, beq_self_eq_true, pT, tkCons_c, sameK1, tkRow_r, tkSNil_n]
   rw [L1201x1s, decide_eq_false (by omega), pF]
  rw [E_hv, t1111]
  simp only [e2, tkHv_h, tkTup_t, tkNil_n, tkSCons_c, tkArr_a, tkBox_b, Nat.beq_refl, Bool.and_self, beq_self_eq_true, pT, tkCons_c, sameK1, tkRow_r, tkSNil_n]
theorem s1113 (x : Int) : (E F (d + 7)).hv 111 [.row true 0 0 (fun _ => []), .fn (.func 112) [] [.optr 0 0 0, .optr 1 0 0]] [.box 178 [(.fn (.func 86) [] [(.rptr 1 1 (fun _ => [(.fn (.func 83) [] [(.rptr 1 1 (fun _ => [(.int .i64 x)]) 0 0)])]) 0 0)])] true, .box 31 [sl eMach 10 l] true] = some (.ret (.tup []), [.box 178 [(.fn (.func 86) [] [(.rptr 1 1 (fun _ => [(.fn (.func 83) [] [(.rptr 1 1 (fun _ => [(.int .i64 x)]) 0 0)])]) 0 0)])] true, .box 31 [sl eMach 10 l] true]) := by
 obtain ⟨F, rfl⟩ : ∃ k, F = k + 1 := ⟨F - 1, by omega⟩
 have h2 : (E (F + 1) (d + 5)).hv 136 [.row true 0 0 (fun _ => []), .int .i64 0, .int .i64 ((0 : Nat) : Int), .fn (.func 112) [] [.optr 0 0 0, .optr 1 0 0]] [.box 178 [(.fn (.func 86) [] [(.rptr 1 1 (fun _ => [(.fn (.func 83) [] [(.rptr 1 1 (fun _ => [(.int .i64 x)]) 0 0)])]) 0 0)])] true, .box 31 [sl eMach 10 l] true] = some (.ret (.tup []), [.box 178 [(.fn (.func 86) [] [(.rptr 1 1 (fun _ => [(.fn (.func 83) [] [(.rptr 1 1 (fun _ => [(.int .i64 x)]) 0 0)])]) 0 0)])] true, .box 31 [sl eMach 10 l] true]) := by
  rw [E_hv, t1213, wr (by omega)]
  rw [L1213x0s, decide_eq_false (by omega), pF]
 have e2 : (E (F + 1) (d + 6)).hv 127 [.row true 0 0 (fun _ => []), .int .i64 ((0 : Nat) : Int), .fn (.func 112) [] [.optr 0 0 0, .optr 1 0 0]] [.box 178 [(.fn (.func 86) [] [(.rptr 1 1 (fun _ => [(.fn (.func 83) [] [(.rptr 1 1 (fun _ => [(.int .i64 x)]) 0 0)])]) 0 0)])] true, .box 31 [sl eMach 10 l] true] = some (.ret (.tup []), [.box 178 [(.fn (.func 86) [] [(.rptr 1 1 (fun _ => [(.fn (.func 83) [] [(.rptr 1 1 (fun _ => [(.int .i64 x)]) 0 0)])]) 0 0)])] true, .box 31 [sl eMach 10 l] true]) := by
  rw [E_hv, t1203]
  rw [L1203x0s, decide_eq_false (by omega), pF]
  simp only [h2, tkHv_h, tkTup_t, tkNil_n, tkSCons_c, tkArr_a, tkBox_b, Nat.beq_refl, Bool.and_self, beq_self_eq_true, pT, tkCons_c, sameK1, tkRow_r, tkSNil_n]
  rw [L1203x1s, decide_eq_false (by omega), pF]
 rw [E_hv, t1113]
 simp only [e2, tkHv_h, tkTup_t, tkNil_n, tkSCons_c, tkArr_a, tkBox_b, Nat.beq_refl, Bool.and_self, beq_self_eq_true, pT, tkCons_c, sameK1, tkRow_r, tkSNil_n]
end
end Go.Sim.Pl


namespace Go.Sim.Pl
open Go.Sim.Le (cfg E E_pf E_hv names look)
open Go.Proofs
def mineR (l : Sl Mach) (r : Nat → Bool) (k : Int) : Nat → Nat → List Nat
 | 0, _ => []
 | j + 1, i => if (l.el i).kind = k ∧ r i = true then i :: mineR l r k j (i + 1) else mineR l r k j (i + 1)
def mine (l : Sl Mach) (r : Nat → Bool) (k : Int) : List Nat := mineR l r k l.len 0
theorem mineR_mem (l : Sl Mach) (r : Nat → Bool) (k : Int) : ∀ j i z, z ∈ mineR l r k j i ↔ (i ≤ z ∧ z < i + j) ∧ (l.el z).kind = k ∧ r z = true
 | 0, i, z => by simp [mineR]; omega
 | j + 1, i, z => by
  have ih := mineR_mem l r k j (i + 1) z
  simp only [mineR]
  split
  ·rename_i h
   rw [List.mem_cons, ih]
   constructor
   ·rintro (rfl | ⟨h1, h2⟩)
    ·exact ⟨by omega, h⟩
    ·exact ⟨by omega, h2⟩
   ·rintro ⟨h1, h2⟩
    rcases Nat.eq_or_lt_of_le h1.1 with h3 | h3
    ·exact .inl h3.symm
    ·exact .inr ⟨by omega, h2⟩
  ·rename_i h
   rw [ih]
   constructor
   ·rintro ⟨h1, h2⟩; exact ⟨by omega, h2⟩
   ·rintro ⟨h1, h2⟩
    rcases Nat.eq_or_lt_of_le h1.1 with h3 | h3
    ·subst h3; exact (h h2).elim
    ·exact ⟨by omega, h2⟩
theorem mine_mem {l : Sl Mach} {r : Nat → Bool} {k : Int} {z : Nat} : z ∈ mine l r k ↔ z < l.len ∧ (l.el z).kind = k ∧ r z = true := by
 unfold mine
 rw [mineR_mem]
 constructor
 ·rintro ⟨h1, h2⟩; exact ⟨by omega, h2⟩
 ·rintro ⟨h1, h2⟩; exact ⟨by omega, h2⟩
theorem mineR_ord (l : Sl Mach) (r : Nat → Bool) (k : Int) : ∀ j i, (mineR l r k j i).Pairwise (· < ·)
 | 0, i => by simp [mineR]
 | j + 1, i => by
  have ih := mineR_ord l r k j (i + 1)
  simp only [mineR]
  split
  ·refine List.pairwise_cons.2 ⟨fun z hz => ?_, ih⟩
   rw [mineR_mem] at hz
   omega
  ·exact ih
theorem mineR_len (l : Sl Mach) (r : Nat → Bool) (k : Int) : ∀ j i, (mineR l r k j i).length ≤ j
 | 0, i => by simp [mineR]
 | j + 1, i => by
  have ih := mineR_len l r k j (i + 1)
  simp only [mineR]
  split <;> simp <;> omega
abbrev eNat (n : Nat) : List V := eInt (n : Int)
theorem isL_gl (A : List Nat) : IsL (fun j => eInt ((A.getD j (A.getLastD 0) : Nat) : Int)) A := by
 intro j hj
 have e : ∀ y, A.getD j y = A.getD j 0 := fun y => by
  rw [List.getD_eq_getElem?_getD, List.getD_eq_getElem?_getD, List.getElem?_eq_getElem hj]; rfl
 show eInt ((A.getD j (A.getLastD 0) : Nat) : Int) = _
 rw [e]
theorem pd_0 : ∀ (A : List Nat) (x : Nat), pd key0 A x [] = A.reverse ++ [x]
 | [], x => rfl
 | y :: A, x => by simp only [pd]; rw [if_neg (by simp [key0])]
theorem srt_0 : ∀ (r S : List Nat), srt key0 S r = S ++ r
 | [], S => by simp [srt]
 | y :: r, S => by
  simp only [srt]
  rw [pd_0, srt_0 r, List.reverse_reverse, List.append_assoc]; rfl
def mineE (l : Sl Mach) (r : Nat → Bool) (x k : Int) : List Nat := srt (keyE l x) [] (mine l r k)
theorem mineE_mem {l : Sl Mach} {r : Nat → Bool} {x k : Int} {z : Nat} : z ∈ mineE l r x k ↔ z < l.len ∧ (l.el z).kind = k ∧ r z = true := by
 unfold mineE
 rw [srt_mem, ← mine_mem]
 simp
theorem mineE_len (l : Sl Mach) (r : Nat → Bool) (x k : Int) : (mineE l r x k).length = (mine l r k).length := by
 unfold mineE
 rw [srt_len]; simp
theorem mineE_ord (l : Sl Mach) (r : Nat → Bool) (x k : Int) : (mineE l r x k).Pairwise (Bef (keyE l x)) :=
 srt_ord (keyE l x) _ [] List.Pairwise.nil (fun a h => by simp at h) (mineR_ord l r k l.len 0)
variable (F d : Nat)
section
variable {l : Sl Mach} (hl : PlantOk l) (hF : 1000 < F)
include hl hF
theorem l860x1 (r : Sl Bool) (hr : r.len = l.len) (k : Int) : ∀ j i fu (A : List Nat), i + j = l.len → j < fu → 0 < A.length → A.length + j ≤ l.len → (∀ z ∈ A, z < l.len) →
  ∃ g', IsL g' (srt (key0) [] (A ++ mineR l r.el k j i)) ∧ L860x1 (E F (d + 7)) F l r k fu A.length i A.length (gl eNat 0 A) = some (.ret (.row false (A ++ mineR l r.el k j i).length 1 g')) := by
 have hl2 := hl.2
 intro j
 induction j with
 | zero =>
  intro i fu A h hf hA0 hA hAl
  obtain ⟨fu, rfl⟩ : ∃ k, fu = k + 1 := ⟨fu - 1, by omega⟩
  obtain ⟨g', h1, h2⟩ := s1110 F d hl hF (n := A.length) (fun j => ((A.getD j (A.getLastD 0) : Nat) : Int)) A (by omega) hA0 rfl hAl (isL_gl A)
  have h2' : (E F (d + 7)).hv 111 [.osl 0 0 A.length, .fn (.func 112) [] [.optr 1 0 0, .optr 2 0 0]] [.arr 3 1 A.length (gl eNat 0 A) true, .box 178 [(.fn (.func 85) [] [])] true, .box 31 [sl eMach 10 l] true] = _ := h2
  simp only [mineR, List.append_nil]
  refine ⟨g', h1, ?_⟩
  rw [L860x1s, decide_eq_false (by omega), pF]
  simp only [h2', tkHv_h, tkTup_t, tkNil_n, tkSCons_c, tkArr_a, tkBox_b, Nat.beq_refl, Bool.and_self, beq_self_eq_true, pT, tkCons_c, sameK0, tkRow_r, tkSNil_n]
 | succ j ih =>
  intro i fu A h hf hA0 hA hAl
  obtain ⟨fu, rfl⟩ : ∃ k, fu = k + 1 := ⟨fu - 1, by omega⟩
  have hS : IntKind.i64.wrap ((i : Int) + 1) = ((i + 1 : Nat) : Int) := wrS (by omega)
  have q := s84 F (d + 6) hl hF i (by omega) k r hr
  rw [L860x1s]
  simp (disch := omega) only [decide_eq_true, decide_true, pT, Int.toNat_natCast, q, tkOut_ret, tkBool_b, hS]
  simp only [mineR]
  by_cases hm : (l.el i).kind = k ∧ r.el i = true
  ·rw [decide_eq_true hm, pT, if_pos hm]
   obtain ⟨g', h1, h2⟩ := ih (i + 1) fu (A ++ [i]) (by omega) (by omega) (by simp) (by simp; omega) (fun z hz => by
    rw [List.mem_append, List.mem_singleton] at hz
    rcases hz with hz | rfl
    ·exact hAl z hz
    ·omega)
   rw [List.append_assoc, List.singleton_append] at h1 h2
   refine ⟨g', h1, ?_⟩
   rw [← gl_snoc (e := eNat) (z := 0) (m := i) (ms := A) (k := A.length) rfl rfl, List.length_append, List.length_singleton] at h2
   exact h2
  ·rw [decide_eq_false hm, pF, if_neg hm]
   exact ih (i + 1) fu A (by omega) (by omega) hA0 (by omega) hAl
theorem l860x0 (r : Sl Bool) (hr : r.len = l.len) (k : Int) : ∀ j i fu, i + j = l.len → j < fu →
  ∃ nl wd g', (0 < (mineR l r.el k j i).length → wd = 1) ∧ IsL g' (srt (key0) [] (mineR l r.el k j i)) ∧ L860x0 (E F (d + 7)) F l r k fu i = some (.ret (.row nl (mineR l r.el k j i).length wd g')) := by
 have hl2 := hl.2
 intro j
 induction j with
 | zero =>
  intro i fu h hf
  obtain ⟨fu, rfl⟩ : ∃ k, fu = k + 1 := ⟨fu - 1, by omega⟩
  have h2 := s1112 F d hl hF
  simp only [mineR]
  refine ⟨true, 0, fun _ => [], fun h => by simp at h, fun j hj => by simp [srt] at hj, ?_⟩
  rw [L860x0s, decide_eq_false (by omega), pF]
  simp only [h2, tkHv_h, tkTup_t, tkNil_n, tkSCons_c, tkBox_b, Nat.beq_refl, Bool.and_self, beq_self_eq_true, pT, tkCons_c, sameK0, tkRow_r, tkSNil_n]
  rfl
 | succ j ih =>
  intro i fu h hf
  obtain ⟨fu, rfl⟩ : ∃ k, fu = k + 1 := ⟨fu - 1, by omega⟩
  have hS : IntKind.i64.wrap ((i : Int) + 1) = ((i + 1 : Nat) : Int) := wrS (by omega)
  have q := s84 F (d + 6) hl hF i (by omega) k r hr
  rw [L860x0s]
  simp (disch := omega) only [decide_eq_true, decide_true, pT, Int.toNat_natCast, q, tkOut_ret, tkBool_b, hS]
  simp only [mineR]
  by_cases hm : (l.el i).kind = k ∧ r.el i = true
  ·rw [decide_eq_true hm, pT, if_pos hm]
   obtain ⟨g', h1, h2⟩ := l860x1 F d hl hF r hr k j (i + 1) fu [i] (by omega) (by omega) (by simp) (by simp; omega) (fun z hz => by
    rw [List.mem_singleton] at hz
    omega)
   rw [← gl_one (e := eNat) (z := 0) (m := i) rfl, List.length_singleton, List.singleton_append] at h2
   exact ⟨false, 1, g', fun _ => rfl, h1, h2⟩
  ·rw [decide_eq_false hm, pF, if_neg hm]
   exact ih (i + 1) fu (by omega) (by omega)
theorem s860 (r : Sl Bool) (hr : r.len = l.len) (k : Int) : ∃ nl wd g', (0 < (mine l r.el k).length → wd = 1) ∧ IsL g' (srt (key0) [] (mine l r.el k)) ∧ (E F (d + 8)).pf 84 [sl eMach 10 l, .fn (.func 82) [] [.rptr 1 1 (fun _ => [.int .i64 k]) 0 0, .rptr 1 1 (fun _ => [sl eBool 1 r]) 0 0], (.fn (.func 85) [] [])] = some (.ret (.row nl (mine l r.el k).length wd g')) := by
 have hl2 := hl.2
 rw [E_pf, t860]
 exact l860x0 F d hl hF r hr k l.len 0 F (by omega) (by omega)
theorem l861x1 (r : Sl Bool) (hr : r.len = l.len) (k : Int) (x : Int) : ∀ j i fu (A : List Nat), i + j = l.len → j < fu → 0 < A.length → A.length + j ≤ l.len → (∀ z ∈ A, z < l.len) →
  ∃ g', IsL g' (srt (keyE l x) [] (A ++ mineR l r.el k j i)) ∧ L861x1 (E F (d + 7)) F l r k x fu A.length i A.length (gl eNat 0 A) = some (.ret (.row false (A ++ mineR l r.el k j i).length 1 g')) := by
 have hl2 := hl.2
 intro j
 induction j with
 | zero =>
  intro i fu A h hf hA0 hA hAl
  obtain ⟨fu, rfl⟩ : ∃ k, fu = k + 1 := ⟨fu - 1, by omega⟩
  obtain ⟨g', h1, h2⟩ := s1111 F d hl hF (n := A.length) (fun j => ((A.getD j (A.getLastD 0) : Nat) : Int)) A x (by omega) hA0 rfl hAl (isL_gl A)
  have h2' : (E F (d + 7)).hv 111 [.osl 0 0 A.length, .fn (.func 112) [] [.optr 1 0 0, .optr 2 0 0]] [.arr 3 1 A.length (gl eNat 0 A) true, .box 178 [(.fn (.func 86) [] [(.rptr 1 1 (fun _ => [(.fn (.func 83) [] [(.rptr 1 1 (fun _ => [(.int .i64 x)]) 0 0)])]) 0 0)])] true, .box 31 [sl eMach 10 l] true] = _ := h2
  simp only [mineR, List.append_nil]
  refine ⟨g', h1, ?_⟩
  rw [L861x1s, decide_eq_false (by omega), pF]
  simp only [h2', tkHv_h, tkTup_t, tkNil_n, tkSCons_c, tkArr_a, tkBox_b, Nat.beq_refl, Bool.and_self, beq_self_eq_true, pT, tkCons_c, sameK1, tkRow_r, tkSNil_n]
 | succ j ih =>
  intro i fu A h hf hA0 hA hAl
  obtain ⟨fu, rfl⟩ : ∃ k, fu = k + 1 := ⟨fu - 1, by omega⟩
  have hS : IntKind.i64.wrap ((i : Int) + 1) = ((i + 1 : Nat) : Int) := wrS (by omega)
  have q := s84 F (d + 6) hl hF i (by omega) k r hr
  rw [L861x1s]
  simp (disch := omega) only [decide_eq_true, decide_true, pT, Int.toNat_natCast, q, tkOut_ret, tkBool_b, hS]
  simp only [mineR]
  by_cases hm : (l.el i).kind = k ∧ r.el i = true
  ·rw [decide_eq_true hm, pT, if_pos hm]
   obtain ⟨g', h1, h2⟩ := ih (i + 1) fu (A ++ [i]) (by omega) (by omega) (by simp) (by simp; omega) (fun z hz => by
    rw [List.mem_append, List.mem_singleton] at hz
    rcases hz with hz | rfl
    ·exact hAl z hz
    ·omega)
   rw [List.append_assoc, List.singleton_append] at h1 h2
   refine ⟨g', h1, ?_⟩
   rw [← gl_snoc (e := eNat) (z := 0) (m := i) (ms := A) (k := A.length) rfl rfl, List.length_append, List.length_singleton] at h2
   exact h2
  ·rw [decide_eq_false hm, pF, if_neg hm]
   exact ih (i + 1) fu A (by omega) (by omega) hA0 (by omega) hAl
theorem l861x0 (r : Sl Bool) (hr : r.len = l.len) (k : Int) (x : Int) : ∀ j i fu, i + j = l.len → j < fu →
  ∃ nl wd g', (0 < (mineR l r.el k j i).length → wd = 1) ∧ IsL g' (srt (keyE l x) [] (mineR l r.el k j i)) ∧ L861x0 (E F (d + 7)) F l r k x fu i = some (.ret (.row nl (mineR l r.el k j i).length wd g')) := by
 have hl2 := hl.2
 intro j
 induction j with
 | zero =>
  intro i fu h hf
  obtain ⟨fu, rfl⟩ : ∃ k, fu = k + 1 := ⟨fu - 1, by omega⟩
  have h2 := s1113 F d hl hF x
  simp only [mineR]
  refine ⟨true, 0, fun _ => [], fun h => by simp at h, fun j hj => by simp [srt] at hj, ?_⟩
  rw [L861x0s, decide_eq_false (by omega), pF]
  simp only [h2, tkHv_h, tkTup_t, tkNil_n, tkSCons_c, tkBox_b, Nat.beq_refl, Bool.and_self, beq_self_eq_true, pT, tkCons_c, sameK1, tkRow_r, tkSNil_n]
  rfl
 | succ j ih =>
  intro i fu h hf
  obtain ⟨fu, rfl⟩ : ∃ k, fu = k + 1 := ⟨fu - 1, by omega⟩
  have hS : IntKind.i64.wrap ((i : Int) + 1) = ((i + 1 : Nat) : Int) := wrS (by omega)
  have q := s84 F (d + 6) hl hF i (by omega) k r hr
  rw [L861x0s]
  simp (disch := omega) only [decide_eq_true, decide_true, pT, Int.toNat_natCast, q, tkOut_ret, tkBool_b, hS]
  simp only [mineR]
  by_cases hm : (l.el i).kind = k ∧ r.el i = true
  ·rw [decide_eq_true hm, pT, if_pos hm]
   obtain ⟨g', h1, h2⟩ := l861x1 F d hl hF r hr k x j (i + 1) fu [i] (by omega) (by omega) (by simp) (by simp; omega) (fun z hz => by
    rw [List.mem_singleton] at hz
    omega)
   rw [← gl_one (e := eNat) (z := 0) (m := i) rfl, List.length_singleton, List.singleton_append] at h2
   exact ⟨false, 1, g', fun _ => rfl, h1, h2⟩
  ·rw [decide_eq_false hm, pF, if_neg hm]
   exact ih (i + 1) fu (by omega) (by omega)
theorem s861 (r : Sl Bool) (hr : r.len = l.len) (k : Int) (x : Int) : ∃ nl wd g', (0 < (mine l r.el k).length → wd = 1) ∧ IsL g' (srt (keyE l x) [] (mine l r.el k)) ∧ (E F (d + 8)).pf 84 [sl eMach 10 l, .fn (.func 82) [] [.rptr 1 1 (fun _ => [.int .i64 k]) 0 0, .rptr 1 1 (fun _ => [sl eBool 1 r]) 0 0], (.fn (.func 86) [] [(.rptr 1 1 (fun _ => [(.fn (.func 83) [] [(.rptr 1 1 (fun _ => [(.int .i64 x)]) 0 0)])]) 0 0)])] = some (.ret (.row nl (mine l r.el k).length wd g')) := by
 have hl2 := hl.2
 rw [E_pf, t861]
 exact l861x0 F d hl hF r hr k x l.len 0 F (by omega) (by omega)
end
end Go.Sim.Pl


namespace Go.Sim.Pl
open Go.Sim.Le (cfg E E_pf E_hv names look)
open Go.Proofs
structure Shr where
  left : Int
  sh : Nat → Int
  pr : Nat → Int
  es : List Int
def leastF (l : Sl Mach) (x : Int) (s : Shr) (z : Nat) : Shr :=
  { s with left := s.left - min s.left (rowAt (l.el z) x).least, sh := fun j => if j = z then min s.left (rowAt (l.el z) x).least else s.sh j }
def moreF (l : Sl Mach) (x k : Int) (s : Shr) (z : Nat) : Shr :=
  { left := s.left - min s.left ((rowAt (l.el z) x).most - s.sh z)
    sh := fun j => if j = z then s.sh z + min s.left ((rowAt (l.el z) x).most - s.sh z) else s.sh j
    pr := if s.sh z + min s.left ((rowAt (l.el z) x).most - s.sh z) > (rowAt (l.el z) x).least then (fun j => if j = (k - 1).toNat then max (s.pr (k - 1).toNat) (rowAt (l.el z) x).energy else s.pr j) else s.pr
    es := s.es ++ [(rowAt (l.el z) x).energy * max (s.sh z + min s.left ((rowAt (l.el z) x).most - s.sh z)) (rowAt (l.el z) x).least] }
def kindF (l : Sl Mach) (r : Nat → Bool) (f x : Int) (s : Shr) (k : Int) : Shr :=
  (mineE l r x k).foldl (moreF l x k) ((mine l r k).foldl (leastF l x) { s with left := f })
def shK (l : Sl Mach) (r : Nat → Bool) (f x : Int) : Nat → Int → Shr → Shr
  | 0, _, s => s
  | j + 1, k, s => shK l r f x j (k + 1) (kindF l r f x s k)
def shr0 : Shr := ⟨0, fun _ => 0, fun _ => 0, []⟩
def shareS (l : Sl Mach) (r : Nat → Bool) (f x : Int) : Shr := shK l r f x 3 1 shr0
structure ShInv (l : Sl Mach) (x : Int) (s : Shr) : Prop where
  left : 0 ≤ s.left ∧ s.left ≤ 1000000
  sh : ∀ j, j < l.len → 0 ≤ s.sh j ∧ s.sh j ≤ (rowAt (l.el j) x).most
  pr : ∀ j, 0 ≤ s.pr j ∧ s.pr j ≤ 1000
  es : ∀ e ∈ s.es, 0 ≤ e ∧ e ≤ 1000000000
theorem least_inv {l : Sl Mach} (hl : PlantOk l) {x : Int} {s : Shr} (h : ShInv l x s) {z : Nat} (hz : z < l.len) : ShInv l x (leastF l x s z) := by
  have hr := row_in (hl.1 z hz) x
  have hs := h.sh z hz
  have hleft := h.left
  refine ⟨?_, fun j hj => ?_, h.pr, h.es⟩
  · show 0 ≤ s.left - _ ∧ s.left - _ ≤ 1000000
    omega
  · show 0 ≤ (if j = z then _ else _) ∧ (if j = z then _ else _) ≤ _
    by_cases hjz : j = z
    · rw [if_pos hjz, hjz]; omega
    · rw [if_neg hjz]; exact h.sh j hj
theorem mul_in {a b : Int} (h1 : 0 ≤ a ∧ a ≤ 1000) (h2 : 0 ≤ b ∧ b ≤ 1000000) : 0 ≤ a * b ∧ a * b ≤ 1000000000 := by
  refine ⟨Int.mul_nonneg h1.1 h2.1, ?_⟩
  have h3 : a * b ≤ 1000 * b := Int.mul_le_mul_of_nonneg_right h1.2 h2.1
  omega
theorem more_inv {l : Sl Mach} (hl : PlantOk l) {x k : Int} {s : Shr} (h : ShInv l x s) {z : Nat} (hz : z < l.len) : ShInv l x (moreF l x k s z) := by
  have hr := row_in (hl.1 z hz) x
  have hs := h.sh z hz
  have hleft := h.left
  refine ⟨?_, fun j hj => ?_, fun j => ?_, fun e he => ?_⟩
  · show 0 ≤ s.left - _ ∧ s.left - _ ≤ 1000000
    omega
  · show 0 ≤ (if j = z then _ else _) ∧ (if j = z then _ else _) ≤ _
    by_cases hjz : j = z
    · rw [if_pos hjz, hjz]; omega
    · rw [if_neg hjz]; exact h.sh j hj
  · have h1 := h.pr j
    have h2 := h.pr (k - 1).toNat
    simp only [moreF]
    split
    · show 0 ≤ (if j = _ then _ else _) ∧ (if j = _ then _ else _) ≤ (1000 : Int)
      split <;> omega
    · exact h1
  · simp only [moreF, List.mem_append, List.mem_singleton] at he
    rcases he with he | rfl
    · exact h.es e he
    · exact mul_in hr.2.2 (by omega)
theorem leasts_inv {l : Sl Mach} (hl : PlantOk l) {x : Int} : ∀ (S : List Nat) {s : Shr}, ShInv l x s → (∀ z ∈ S, z < l.len) → ShInv l x (S.foldl (leastF l x) s)
  | [], s, h, _ => h
  | z :: S, s, h, hS => leasts_inv hl S (least_inv hl h (hS z (by simp))) fun y hy => hS y (by simp [hy])
theorem mores_inv {l : Sl Mach} (hl : PlantOk l) {x k : Int} : ∀ (S : List Nat) {s : Shr}, ShInv l x s → (∀ z ∈ S, z < l.len) → ShInv l x (S.foldl (moreF l x k) s)
  | [], s, h, _ => h
  | z :: S, s, h, hS => mores_inv hl S (more_inv hl h (hS z (by simp))) fun y hy => hS y (by simp [hy])
theorem kind_inv {l : Sl Mach} (hl : PlantOk l) {r : Nat → Bool} {f x k : Int} (hf : FlowOk f) {s : Shr} (h : ShInv l x s) : ShInv l x (kindF l r f x s k) :=
  mores_inv hl _ (leasts_inv hl _ ⟨hf, h.sh, h.pr, h.es⟩ fun z hz => (mine_mem.1 hz).1) fun z hz => (mineE_mem.1 hz).1
theorem leasts_keep {l : Sl Mach} {x : Int} : ∀ (S : List Nat) (s : Shr), (S.foldl (leastF l x) s).pr = s.pr ∧ (S.foldl (leastF l x) s).es = s.es
  | [], s => ⟨rfl, rfl⟩
  | z :: S, s => leasts_keep S (leastF l x s z)
theorem mores_es {l : Sl Mach} {x k : Int} : ∀ (S : List Nat) (s : Shr), (S.foldl (moreF l x k) s).es.length = s.es.length + S.length
  | [], s => rfl
  | z :: S, s => by
    have := mores_es (l := l) (x := x) (k := k) S (moreF l x k s z)
    simp only [List.foldl_cons, List.length_cons]
    rw [this]
    simp only [moreF, List.length_append, List.length_singleton]
    omega
theorem kind_es {l : Sl Mach} {r : Nat → Bool} {f x k : Int} {s : Shr} : (kindF l r f x s k).es.length = s.es.length + (mine l r k).length := by
  unfold kindF
  rw [mores_es, (leasts_keep _ _).2, mineE_len]
def sumL (l : List Int) : Int := l.foldr (· + ·) 0
variable (F d : Nat)
section
variable {l : Sl Mach} (hl : PlantOk l) (hF : 1000 < F)
include hl hF
theorem l55x1 (r : Sl Bool) (f x : Int) (m0 a : Nat) (nl : Bool) (wd : Nat) (g : Nat → List V) (b : Bool) (k : Int) (S : List Nat) (hS : ∀ z ∈ S, z < l.len) (hSl : S.length < 1000) (hg : IsL g S) (hwd : 0 < S.length → wd = 1) (R : Option Out)
    (s' : Shr) (K : ∀ nl' wd' g', (0 < (mineE l r.el x k).length → wd' = 1) → IsL g' (mineE l r.el x k) → L55x2 (E F (d + 8)) F l r f x m0 F s'.left .i64 1 .i64 2 .i64 3 a nl' (mineE l r.el x k).length wd' g' ((mineE l r.el x k).length : Nat) (fun j => eInt (s'.sh j)) .i64 k = R) (hr : r.len = l.len) :
    ∀ j p fu (s : Shr), p + j = S.length → j < fu → ShInv l x s → (S.drop p).foldl (leastF l x) s = s' →
    L55x1 (E F (d + 8)) F l r f x m0 fu s.left .i64 1 .i64 2 .i64 3 a nl S.length wd g (S.length : Nat) p b (fun j => eInt (s.sh j)) .i64 k = R := by
  have hl2 := hl.2
  intro j
  induction j with
  | zero =>
    intro p fu s h hf hI hs
    obtain ⟨fu, rfl⟩ : ∃ k, fu = k + 1 := ⟨fu - 1, by omega⟩
    rw [List.drop_eq_nil_of_le (by omega)] at hs
    subst hs
    obtain ⟨nl', wd', g', h1, h2, h3⟩ := s861 F d hl hF r hr k x
    have K' := K nl' wd' g' (fun h => h1 (by rw [← mineE_len l r.el x k]; exact h)) h2
    rw [mineE_len] at K'
    rw [L55x1s, decide_eq_false (by omega), pF]
    simp only [h3, tkOut_ret, tkRow_r]
    exact K'
  | succ j ih =>
    intro p fu s h hf hI hs
    obtain ⟨fu, rfl⟩ : ∃ k, fu = k + 1 := ⟨fu - 1, by omega⟩
    have hp : p < S.length := by omega
    have hz := hS S[p] (List.getElem_mem hp)
    rw [List.drop_eq_getElem_cons hp, List.foldl_cons] at hs
    have hI' := least_inv hl hI hz
    have e := ih (p + 1) fu (leastF l x s S[p]) (by omega) (by omega) hI' hs
    have hgp : g p = eInt ((S[p] : Nat) : Int) := by rw [hg p hp, List.getD_eq_getElem?_getD, List.getElem?_eq_getElem hp]; rfl
    have hS' : IntKind.i64.wrap ((p : Int) + 1) = ((p + 1 : Nat) : Int) := wrS (by omega)
    have q := s85 F (d + 6) hl hF S[p] hz x
    have hr2 := row_in (hl.1 S[p] hz) x
    have hleft := hI.left
    have hw := hwd (by omega)
    subst hw
    rw [L55x1s]
    generalize hzz : S[p] = z at *
    simp (disch := omega) only [decide_eq_true, decide_true, pT, Int.toNat_natCast, hgp, tkCons_c, tkInt_i, q, tkOut_ret, tkAgg_a, tkNil_n, beq_self_eq_true, upd_int, mnE, hS', wr, if_true]
    exact e
theorem l55x3 (r : Sl Bool) (f x : Int) (m0 a : Nat) (ha : a < 3) (nl : Bool) (g : Nat → List V) (k : Int) (hk : 1 ≤ k ∧ k ≤ 3) (S : List Nat) (hS : ∀ z ∈ S, z < l.len) (hSl : S.length < 1000) (hg : IsL g S) (R : Option Out)
    (s' : Shr) (K : ∀ cap, L55x4 (E F (d + 8)) F l r f x m0 s'.es.length .i64 1 .i64 2 .i64 3 ((a + 1 : Nat) : Int) (fun j => eInt (s'.sh j)) (fun j => eInt (s'.pr j)) cap (gl eInt 0 s'.es) = R) :
    ∀ j p fu wd cap (s : Shr), p + j = S.length → j < fu → (0 < j → wd = 1) → ShInv l x s → s.es.length + j < 1000 → (S.drop p).foldl (moreF l x k) s = s' →
    L55x3 (E F (d + 8)) F l r f x m0 fu s.es.length s.left .i64 1 .i64 2 .i64 3 a nl S.length wd g (S.length : Nat) p (fun j => eInt (s.sh j)) (fun j => eInt (s.pr j)) cap (gl eInt 0 s.es) .i64 k = R := by
  have hl2 := hl.2
  intro j
  induction j with
  | zero =>
    intro p fu wd cap s h hf hwd hI hes hs
    obtain ⟨fu, rfl⟩ : ∃ k, fu = k + 1 := ⟨fu - 1, by omega⟩
    rw [List.drop_eq_nil_of_le (by omega)] at hs
    subst hs
    have hS' : IntKind.i64.wrap ((a : Int) + 1) = ((a + 1 : Nat) : Int) := wrS (by omega)
    rw [L55x3s, decide_eq_false (by omega), pF, hS']
    exact K cap
  | succ j ih =>
    intro p fu wd cap s h hf hwd hI hes hs
    obtain ⟨fu, rfl⟩ : ∃ k, fu = k + 1 := ⟨fu - 1, by omega⟩
    have hp : p < S.length := by omega
    have hz := hS S[p] (List.getElem_mem hp)
    rw [List.drop_eq_getElem_cons hp, List.foldl_cons] at hs
    have hI' := more_inv hl (k := k) hI hz
    have e := fun cap => ih (p + 1) fu 1 cap (moreF l x k s S[p]) (by omega) (by omega) (fun _ => rfl) hI' (by simp only [moreF, List.length_append, List.length_singleton]; omega) hs
    have hgp : g p = eInt ((S[p] : Nat) : Int) := by rw [hg p hp, List.getD_eq_getElem?_getD, List.getElem?_eq_getElem hp]; rfl
    have hS' : IntKind.i64.wrap ((p : Int) + 1) = ((p + 1 : Nat) : Int) := wrS (by omega)
    have q := s85 F (d + 6) hl hF S[p] hz x
    have hr2 := row_in (hl.1 S[p] hz) x
    have hsz := hI.sh S[p] hz
    have hleft := hI.left
    have hw := hwd (by omega)
    subst hw
    rw [L55x3s]
    generalize hzz : S[p] = z at *
    have hm := mul_in hr2.2.2 (b := max (s.sh z + min s.left ((rowAt (l.el z) x).most - s.sh z)) (rowAt (l.el z) x).least) (by omega)
    simp (disch := omega) only [decide_eq_true, decide_true, pT, Int.toNat_natCast, hgp, tkCons_c, tkInt_i, q, tkOut_ret, tkAgg_a, tkNil_n, beq_self_eq_true, mnE, mxE, upd_int, hS', wr, if_true]
    have e1 : moreF l x k s z = { moreF l x k s z with es := s.es ++ [(rowAt (l.el z) x).energy * max (s.sh z + min s.left ((rowAt (l.el z) x).most - s.sh z)) (rowAt (l.el z) x).least] } := rfl
    by_cases hgt : s.sh z + min s.left ((rowAt (l.el z) x).most - s.sh z) > (rowAt (l.el z) x).least
    · rw [decide_eq_true hgt, pT]
      have e2 := e (s.es.length + 1)
      rw [show moreF l x k s z = ⟨s.left - min s.left ((rowAt (l.el z) x).most - s.sh z), fun j => if j = z then s.sh z + min s.left ((rowAt (l.el z) x).most - s.sh z) else s.sh j, fun j => if j = (k - 1).toNat then max (s.pr (k - 1).toNat) (rowAt (l.el z) x).energy else s.pr j, s.es ++ [(rowAt (l.el z) x).energy * max (s.sh z + min s.left ((rowAt (l.el z) x).most - s.sh z)) (rowAt (l.el z) x).least]⟩ from by unfold moreF; rw [if_pos hgt]] at e2
      simp only [] at e2
      rw [← gl_snoc (e := eInt) (z := 0) (k := s.es.length) rfl rfl, List.length_append, List.length_singleton] at e2
      exact e2
    · rw [decide_eq_false hgt, pF]
      have e2 := e (s.es.length + 1)
      rw [show moreF l x k s z = ⟨s.left - min s.left ((rowAt (l.el z) x).most - s.sh z), fun j => if j = z then s.sh z + min s.left ((rowAt (l.el z) x).most - s.sh z) else s.sh j, s.pr, s.es ++ [(rowAt (l.el z) x).energy * max (s.sh z + min s.left ((rowAt (l.el z) x).most - s.sh z)) (rowAt (l.el z) x).least]⟩ from by unfold moreF; rw [if_neg hgt]] at e2
      simp only [] at e2
      rw [← gl_snoc (e := eInt) (z := 0) (k := s.es.length) rfl rfl, List.length_append, List.length_singleton] at e2
      exact e2
theorem l55x2 (r : Sl Bool) (f x : Int) (m0 a : Nat) (ha : a < 3) (nl : Bool) (g : Nat → List V) (k : Int) (hk : 1 ≤ k ∧ k ≤ 3) (S : List Nat) (hS : ∀ z ∈ S, z < l.len) (hSl : S.length < 1000) (hg : IsL g S) (R : Option Out)
    (s s' : Shr) (hes : s.es = []) (hpr : s.pr = fun _ => 0) (K0 : S = [] → L55x0 (E F (d + 8)) F l r f x m0 .i64 1 .i64 2 .i64 3 ((a + 1 : Nat) : Int) false false (fun j => eInt (s.sh j)) = R)
    (K : S ≠ [] → ∀ cap, L55x4 (E F (d + 8)) F l r f x m0 s'.es.length .i64 1 .i64 2 .i64 3 ((a + 1 : Nat) : Int) (fun j => eInt (s'.sh j)) (fun j => eInt (s'.pr j)) cap (gl eInt 0 s'.es) = R) (wd : Nat) (hwd : 0 < S.length → wd = 1) (hI : ShInv l x s) (hs : S.foldl (moreF l x k) s = s') :
    ∀ fu, S.length < fu → 
    L55x2 (E F (d + 8)) F l r f x m0 fu s.left .i64 1 .i64 2 .i64 3 a nl S.length wd g (S.length : Nat) (fun j => eInt (s.sh j)) .i64 k = R := by
  have hl2 := hl.2
  intro fu hf
  obtain ⟨fu, rfl⟩ : ∃ k, fu = k + 1 := ⟨fu - 1, by omega⟩
  match S, hS, hSl, hg, K0, K, hwd, hs, hf with
  | [], _, _, _, K0, _, _, _, _ =>
    have hS' : IntKind.i64.wrap ((a : Int) + 1) = ((a + 1 : Nat) : Int) := wrS (by omega)
    rw [L55x2s, show ((([] : List Nat).length : Nat) : Int) = 0 from rfl, decide_eq_false (by omega), pF, hS']
    exact K0 rfl
  | z :: S, hS, hSl, hg, _, K, hwd, hs, hf =>
    have hz := hS z (by simp)
    rw [List.foldl_cons] at hs
    have hI' := more_inv hl (k := k) hI hz
    have hesl : (moreF l x k s z).es.length = 1 := by simp only [moreF, hes]; rfl
    have hsl1 : (z :: S).length = S.length + 1 := rfl
    have e := fun cap => l55x3 F d hl hF r f x m0 a ha nl g k hk (z :: S) hS hSl hg R s' (K (by simp)) S.length 1 fu 1 cap (moreF l x k s z) (by simp; omega) (by simp at hf; omega) (fun _ => rfl) hI' (by rw [hesl]; omega) (by simpa using hs)
    rw [hesl] at e
    have hgp : g 0 = eInt ((z : Nat) : Int) := by rw [hg 0 (by simp)]; rfl
    have hS' : IntKind.i64.wrap ((0 : Int) + 1) = ((1 : Nat) : Int) := by rw [wr (by omega)]; rfl
    have q := s85 F (d + 6) hl hF z hz x
    have hr2 := row_in (hl.1 z hz) x
    have hsz := hI.sh z hz
    have hleft := hI.left
    have hw := hwd (by simp)
    subst hw
    rw [L55x2s, hsl1] at *
    have hm := mul_in hr2.2.2 (b := max (s.sh z + min s.left ((rowAt (l.el z) x).most - s.sh z)) (rowAt (l.el z) x).least) (by omega)
    simp (disch := omega) only [decide_eq_true, decide_true, pT, Int.toNat_natCast, hgp, tkCons_c, tkInt_i, q, tkOut_ret, tkAgg_a, tkNil_n, beq_self_eq_true, mnE, mxE, upd_int, hS', wr, if_true]
    by_cases hgt : s.sh z + min s.left ((rowAt (l.el z) x).most - s.sh z) > (rowAt (l.el z) x).least
    · rw [decide_eq_true hgt, pT]
      have e2 := e 1
      rw [show moreF l x k s z = ⟨s.left - min s.left ((rowAt (l.el z) x).most - s.sh z), fun j => if j = z then s.sh z + min s.left ((rowAt (l.el z) x).most - s.sh z) else s.sh j, fun j => if j = (k - 1).toNat then max 0 (rowAt (l.el z) x).energy else 0, [(rowAt (l.el z) x).energy * max (s.sh z + min s.left ((rowAt (l.el z) x).most - s.sh z)) (rowAt (l.el z) x).least]⟩ from by unfold moreF; rw [if_pos hgt, hes, hpr]; rfl] at e2
      simp only [] at e2
      rw [← gl_one (e := eInt) (z := 0) rfl] at e2
      exact e2
    · rw [decide_eq_false hgt, pF]
      have e2 := e 1
      rw [show moreF l x k s z = ⟨s.left - min s.left ((rowAt (l.el z) x).most - s.sh z), fun j => if j = z then s.sh z + min s.left ((rowAt (l.el z) x).most - s.sh z) else s.sh j, fun _ => 0, [(rowAt (l.el z) x).energy * max (s.sh z + min s.left ((rowAt (l.el z) x).most - s.sh z)) (rowAt (l.el z) x).least]⟩ from by unfold moreF; rw [if_neg hgt, hes, hpr]; rfl] at e2
      simp only [] at e2
      rw [← gl_one (e := eInt) (z := 0) rfl] at e2
      exact e2
theorem l55x5 (r : Sl Bool) (f x : Int) (m0 a cap : Nat) (E0 : List Int) (nl : Bool) (wd : Nat) (g : Nat → List V) (k : Int) (S : List Nat) (hS : ∀ z ∈ S, z < l.len) (hSl : S.length < 1000) (hg : IsL g S) (hwd : 0 < S.length → wd = 1) (R : Option Out)
    (s' : Shr) (K : ∀ nl' wd' g', (0 < (mineE l r.el x k).length → wd' = 1) → IsL g' (mineE l r.el x k) → L55x3 (E F (d + 8)) F l r f x m0 F E0.length s'.left .i64 1 .i64 2 .i64 3 a nl' (mineE l r.el x k).length wd' g' ((mineE l r.el x k).length : Nat) 0 (fun j => eInt (s'.sh j)) (fun j => eInt (s'.pr j)) cap (gl eInt 0 E0) .i64 k = R) (hr : r.len = l.len) :
    ∀ j p fu (s : Shr), p + j = S.length → j < fu → ShInv l x s → (S.drop p).foldl (leastF l x) s = s' →
    L55x5 (E F (d + 8)) F l r f x m0 fu E0.length s.left .i64 1 .i64 2 .i64 3 a nl S.length wd g (S.length : Nat) p (fun j => eInt (s.sh j)) (fun j => eInt (s.pr j)) cap (gl eInt 0 E0) .i64 k = R := by
  have hl2 := hl.2
  intro j
  induction j with
  | zero =>
    intro p fu s h hf hI hs
    obtain ⟨fu, rfl⟩ : ∃ k, fu = k + 1 := ⟨fu - 1, by omega⟩
    rw [List.drop_eq_nil_of_le (by omega)] at hs
    subst hs
    obtain ⟨nl', wd', g', h1, h2, h3⟩ := s861 F d hl hF r hr k x
    have K' := K nl' wd' g' (fun h => h1 (by rw [← mineE_len l r.el x k]; exact h)) h2
    rw [mineE_len] at K'
    rw [L55x5s, decide_eq_false (by omega), pF]
    simp only [h3, tkOut_ret, tkRow_r]
    exact K'
  | succ j ih =>
    intro p fu s h hf hI hs
    obtain ⟨fu, rfl⟩ : ∃ k, fu = k + 1 := ⟨fu - 1, by omega⟩
    have hp : p < S.length := by omega
    have hz := hS S[p] (List.getElem_mem hp)
    rw [List.drop_eq_getElem_cons hp, List.foldl_cons] at hs
    have hI' := least_inv hl hI hz
    have e := ih (p + 1) fu (leastF l x s S[p]) (by omega) (by omega) hI' hs
    have hgp : g p = eInt ((S[p] : Nat) : Int) := by rw [hg p hp, List.getD_eq_getElem?_getD, List.getElem?_eq_getElem hp]; rfl
    have hS' : IntKind.i64.wrap ((p : Int) + 1) = ((p + 1 : Nat) : Int) := wrS (by omega)
    have q := s85 F (d + 6) hl hF S[p] hz x
    have hr2 := row_in (hl.1 S[p] hz) x
    have hleft := hI.left
    have hw := hwd (by omega)
    subst hw
    rw [L55x5s]
    generalize hzz : S[p] = z at *
    simp (disch := omega) only [decide_eq_true, decide_true, pT, Int.toNat_natCast, hgp, tkCons_c, tkInt_i, q, tkOut_ret, tkAgg_a, tkNil_n, beq_self_eq_true, upd_int, mnE, hS', wr, if_true]
    exact e
theorem sumL_in : ∀ (L : List Int), (∀ e ∈ L, 0 ≤ e ∧ e ≤ 1000000000) → 0 ≤ sumL L ∧ sumL L ≤ 1000000000 * L.length
  | [], _ => by simp [sumL]
  | e :: L, h => by
    have h1 := h e (by simp)
    have h2 := sumL_in L fun e he => h e (by simp [he])
    have : sumL (e :: L) = e + sumL L := rfl
    rw [List.length_cons]
    omega
omit hl in
theorem l89 (L : List Int) (hL : L.length < 1000) (hb : ∀ e ∈ L, 0 ≤ e ∧ e ≤ 1000000000) : ∀ j p fu (n : Int), p + j = L.length → j < fu → 0 ≤ n → n ≤ 1000000000 * p →
    L89x0 (E F d) F ⟨false, L.length, fun j => L.getD j (L.getLastD 0)⟩ fu n p = some (.ret (.int .i64 (n + sumL (L.drop p)))) := by
  intro j
  induction j with
  | zero =>
    intro p fu n h hf h0 h1
    obtain ⟨fu, rfl⟩ : ∃ k, fu = k + 1 := ⟨fu - 1, by omega⟩
    rw [L89x0s, decide_eq_false (by show ¬ (p : Int) < ((L.length : Nat) : Int); omega), pF, List.drop_eq_nil_of_le (by omega)]
    simp [sumL]
  | succ j ih =>
    intro p fu n h hf h0 h1
    obtain ⟨fu, rfl⟩ : ∃ k, fu = k + 1 := ⟨fu - 1, by omega⟩
    have hp : p < L.length := by omega
    have hbp := hb L[p] (List.getElem_mem hp)
    have hS' : IntKind.i64.wrap ((p : Int) + 1) = ((p + 1 : Nat) : Int) := wrS (by omega)
    have hg : L.getD p (L.getLastD 0) = L[p] := by rw [List.getD_eq_getElem?_getD, List.getElem?_eq_getElem hp]; rfl
    have e := ih (p + 1) fu (n + L[p]) (by omega) (by omega) (by omega) (by omega)
    rw [List.drop_eq_getElem_cons hp]
    have e3 : n + sumL (L[p] :: L.drop (p + 1)) = n + L[p] + sumL (L.drop (p + 1)) := by
      show n + (L[p] + sumL (L.drop (p + 1))) = _
      omega
    rw [L89x0s, decide_eq_true (by show (p : Int) < ((L.length : Nat) : Int); omega), pT, decide_eq_true (by omega), pT, pT]
    simp (disch := omega) only [Int.toNat_natCast, hg, hS', wr]
    rw [e3]
    exact e
omit hl in
theorem s89 (L : List Int) (hL : L.length < 1000) (hb : ∀ e ∈ L, 0 ≤ e ∧ e ≤ 1000000000) : (E F (d + 1)).pf 87 [.row false L.length 1 (gl eInt 0 L)] = some (.ret (.int .i64 (sumL L))) := by
  have e := l89 F d hF L hL hb L.length 0 F 0 (by omega) (by omega) (by omega) (by omega)
  have e2 : (E F (d + 1)).pf 87 [sl eInt 1 ⟨false, L.length, fun j => L.getD j (L.getLastD 0)⟩] = some (.ret (.int .i64 (sumL L))) := by
    rw [E_pf, t89]
    rw [Int.natCast_zero, Int.zero_add, List.drop_zero] at e
    exact e
  exact e2
theorem shK_inv {r : Nat → Bool} {f x : Int} (hf : FlowOk f) : ∀ (j : Nat) (k : Int) (s : Shr), ShInv l x s → ShInv l x (shK l r f x j k s)
  | 0, _, _, h => h
  | j + 1, k, s, h => shK_inv hf j (k + 1) _ (kind_inv hl hf h)
end
section
variable {l : Sl Mach} (hl : PlantOk l) (hF : 1000 < F) (r : Sl Bool) (hr : r.len = l.len) (f x : Int) (hf : FlowOk f)
include hl hF hr hf
theorem mine_len6 (k : Int) : (mine l r.el k).length ≤ 6 := by
  have := mineR_len l r.el k l.len 0
  have := hl.2
  unfold mine
  omega
theorem l55x4 : ∀ (j a fu : Nat) (s : Shr) cap, a + j = 3 → j < fu → ShInv l x s → s.es.length + 6 * j < 100 →
    L55x4 (E F (d + 8)) F l r f x fu s.es.length .i64 1 .i64 2 .i64 3 a (fun j => eInt (s.sh j)) (fun j => eInt (s.pr j)) cap (gl eInt 0 s.es) = some (.ret (.tup [.row false l.len 1 (fun i => eInt ((shK l r.el f x j ((a : Int) + 1) s).sh i)), .row false 3 1 (fun i => eInt ((shK l r.el f x j ((a : Int) + 1) s).pr i)), .int .i64 (sumL (shK l r.el f x j ((a : Int) + 1) s).es)])) := by
  have hl2 := hl.2
  intro j
  induction j with
  | zero =>
    intro a fu s cap h hfu hI hes
    obtain ⟨fu, rfl⟩ : ∃ k, fu = k + 1 := ⟨fu - 1, by omega⟩
    have q := s89 F (d + 7) hF s.es (by omega) hI.es
    rw [L55x4s, decide_eq_false (by omega), pF]
    simp only [q, tkOut_ret, tkInt_i, Int.toNat_natCast]
    rfl
  | succ j ih =>
    intro a fu s cap h hfu hI hes
    obtain ⟨fu, rfl⟩ : ∃ k, fu = k + 1 := ⟨fu - 1, by omega⟩
    have ha : a < 3 := by omega
    have hm6 := mine_len6 F hl hF r hr f hf ((a : Int) + 1)
    have hkes := kind_es (l := l) (r := r.el) (f := f) (x := x) (k := (a : Int) + 1) (s := s)
    obtain ⟨nl, wd, g, h1, h2, h3⟩ := s860 F d hl hF r hr ((a : Int) + 1)
    rw [srt_0, List.nil_append] at h2
    have hI0 : ShInv l x { s with left := f } := ⟨hf, hI.sh, hI.pr, hI.es⟩
    have e := fun cap => ih (a + 1) fu (kindF l r.el f x s ((a : Int) + 1)) cap (by omega) (by omega) (kind_inv hl hf hI) (by omega)
    rw [show (((a + 1 : Nat) : Int) + 1) = (a : Int) + 1 + 1 by omega] at e
    rw [L55x4s]
    simp (disch := omega) only [decide_eq_true, decide_true, pT, Int.toNat_natCast, kind_at, tkCons_c, tkInt_i, h3, tkOut_ret, tkRow_r]
    refine l55x5 F d hl hF r f x fu a cap s.es nl wd g ((a : Int) + 1) (mine l r.el ((a : Int) + 1)) (fun z hz => (mine_mem.1 hz).1) (by omega) h2 h1 _ ((mine l r.el ((a : Int) + 1)).foldl (leastF l x) { s with left := f }) ?_ hr (mine l r.el ((a : Int) + 1)).length 0 F { s with left := f } (by omega) (by omega) hI0 rfl
    intro nl' wd' g' h1' h2'
    have hk2 := leasts_keep (l := l) (x := x) (mine l r.el ((a : Int) + 1)) { s with left := f }
    have hIm := leasts_inv hl (x := x) (mine l r.el ((a : Int) + 1)) hI0 (fun z hz => (mine_mem.1 hz).1)
    have hml := mineE_len l r.el x ((a : Int) + 1)
    have e5 := l55x3 F d hl hF r f x fu a ha nl' g' ((a : Int) + 1) (by omega) (mineE l r.el x ((a : Int) + 1)) (fun z hz => (mineE_mem.1 hz).1) (by omega) h2' _ (kindF l r.el f x s ((a : Int) + 1)) e (mineE l r.el x ((a : Int) + 1)).length 0 F wd' cap ((mine l r.el ((a : Int) + 1)).foldl (leastF l x) { s with left := f }) (by omega) (by omega) h1' hIm (by rw [hk2.2]; show s.es.length + _ < _; omega) rfl
    rw [hk2.2] at e5
    exact e5
theorem l55x0 : ∀ (j a fu : Nat) (s : Shr) b b', a + j = 3 → j < fu → ShInv l x s → s.es = [] → s.pr = (fun _ => 0) →
    L55x0 (E F (d + 8)) F l r f x fu .i64 1 .i64 2 .i64 3 a b b' (fun j => eInt (s.sh j)) = some (.ret (.tup [.row false l.len 1 (fun i => eInt ((shK l r.el f x j ((a : Int) + 1) s).sh i)), .row false 3 1 (fun i => eInt ((shK l r.el f x j ((a : Int) + 1) s).pr i)), .int .i64 (sumL (shK l r.el f x j ((a : Int) + 1) s).es)])) := by
  have hl2 := hl.2
  intro j
  induction j with
  | zero =>
    intro a fu s b b' h hfu hI hes hpr
    obtain ⟨fu, rfl⟩ : ∃ k, fu = k + 1 := ⟨fu - 1, by omega⟩
    have q : (E F (d + 8)).pf 87 [.row true 0 0 (fun _ => [])] = some (.ret (.int .i64 0)) := by
      rw [E_pf, t890]
      obtain ⟨F', hF'⟩ : ∃ k, F = k + 1 := ⟨F - 1, by omega⟩
      subst hF'
      rw [L890x0s]
    rw [L55x0s, decide_eq_false (by omega), pF]
    simp only [q, tkOut_ret, tkInt_i, Int.toNat_natCast, shK, hes, hpr]
    rfl
  | succ j ih =>
    intro a fu s b b' h hfu hI hes hpr
    obtain ⟨fu, rfl⟩ : ∃ k, fu = k + 1 := ⟨fu - 1, by omega⟩
    have ha : a < 3 := by omega
    have hm6 := mine_len6 F hl hF r hr f hf ((a : Int) + 1)
    have hkes := kind_es (l := l) (r := r.el) (f := f) (x := x) (k := (a : Int) + 1) (s := s)
    obtain ⟨nl, wd, g, h1, h2, h3⟩ := s860 F d hl hF r hr ((a : Int) + 1)
    rw [srt_0, List.nil_append] at h2
    have hI0 : ShInv l x { s with left := f } := ⟨hf, hI.sh, hI.pr, hI.es⟩
    have hel0 : s.es.length = 0 := by rw [hes]; rfl
    rw [L55x0s]
    simp (disch := omega) only [decide_eq_true, decide_true, pT, Int.toNat_natCast, kind_at, tkCons_c, tkInt_i, h3, tkOut_ret, tkRow_r]
    refine l55x1 F d hl hF r f x fu a nl wd g b' ((a : Int) + 1) (mine l r.el ((a : Int) + 1)) (fun z hz => (mine_mem.1 hz).1) (by omega) h2 h1 _ ((mine l r.el ((a : Int) + 1)).foldl (leastF l x) { s with left := f }) ?_ hr (mine l r.el ((a : Int) + 1)).length 0 F { s with left := f } (by omega) (by omega) hI0 rfl
    intro nl' wd' g' h1' h2'
    have hk2 := leasts_keep (l := l) (x := x) (mine l r.el ((a : Int) + 1)) { s with left := f }
    have hIm := leasts_inv hl (x := x) (mine l r.el ((a : Int) + 1)) hI0 (fun z hz => (mine_mem.1 hz).1)
    have hml := mineE_len l r.el x ((a : Int) + 1)
    refine l55x2 F d hl hF r f x fu a ha nl' g' ((a : Int) + 1) (by omega) (mineE l r.el x ((a : Int) + 1)) (fun z hz => (mineE_mem.1 hz).1) (by omega) h2' _ ((mine l r.el ((a : Int) + 1)).foldl (leastF l x) { s with left := f }) (kindF l r.el f x s ((a : Int) + 1)) (by rw [hk2.2]; exact hes) (by rw [hk2.1]; exact hpr) ?_ ?_ wd' h1' hIm rfl F (by omega)
    · intro hS
      have hk0 : kindF l r.el f x s ((a : Int) + 1) = (mine l r.el ((a : Int) + 1)).foldl (leastF l x) { s with left := f } := by
        unfold kindF
        rw [hS]; rfl
      have e := ih (a + 1) fu (kindF l r.el f x s ((a : Int) + 1)) false false (by omega) (by omega) (kind_inv hl hf hI) (by rw [hk0, hk2.2]; exact hes) (by rw [hk0, hk2.1]; exact hpr)
      rw [show (((a + 1 : Nat) : Int) + 1) = (a : Int) + 1 + 1 by omega] at e
      rw [← hk0]
      exact e
    · intro hS cap
      have e := l55x4 F d hl hF r hr f x hf j (a + 1) fu (kindF l r.el f x s ((a : Int) + 1)) cap (by omega) (by omega) (kind_inv hl hf hI) (by omega)
      rw [show (((a + 1 : Nat) : Int) + 1) = (a : Int) + 1 + 1 by omega] at e
      exact e
theorem shr0xinv : ShInv l x shr0 := by
  refine ⟨by decide, fun j hj => ?_, fun j => by show (0 : Int) ≤ 0 ∧ (0 : Int) ≤ 1000; omega, fun e he => by cases he⟩
  have := row_in (hl.1 j hj) x
  show (0 : Int) ≤ 0 ∧ (0 : Int) ≤ _
  omega
theorem s55 : (E F (d + 9)).pf 52 [sl eMach 10 l, sl eBool 1 r, .int .i64 f, .int .i64 x] = some (.ret (.tup [.row false l.len 1 (fun i => eInt ((shareS l r.el f x).sh i)), .row false 3 1 (fun i => eInt ((shareS l r.el f x).pr i)), .int .i64 (sumL (shareS l r.el f x).es)])) := by
  have hl2 := hl.2
  have q : (E F (d + 8)).pf 80 [] = some (.ret (.agg [.int .i64 1, .int .i64 2, .int .i64 3])) := by rw [E_pf, t83]
  have e := l55x0 F d hl hF r hr f x hf 3 0 F shr0 true true (by omega) (by omega) (shr0xinv F hl hF r hr f x hf) rfl rfl
  rw [E_pf, t55]
  simp (disch := omega) only [decide_eq_true, decide_true, pT, q, tkOut_ret, tkAgg_a, tkCons_c, tkInt_i, tkNil_n]
  exact e
end
end Go.Sim.Pl


namespace Go.Sim.Pl
open Go.Sim.Le (cfg E E_pf E_hv names look)
open Go.Proofs
def eqR (l : Sl Mach) (r : Nat → Bool) (x k e : Int) : Nat → Nat → List Nat
 | 0, _ => []
 | j + 1, i => if ((l.el i).kind = k ∧ r i = true) ∧ (rowAt (l.el i) x).energy = e then i :: eqR l r x k e j (i + 1) else eqR l r x k e j (i + 1)
def byE (l : Sl Mach) (r : Nat → Bool) (x k : Int) : Nat → Int → List Nat
 | 0, _ => []
 | j + 1, e => eqR l r x k e l.len 0 ++ byE l r x k j (e + 1)
variable (F d : Nat)
section
variable {l : Sl Mach} (hl : PlantOk l) (hF : 2000 < F) (r : Sl Bool) (hr : r.len = l.len) (f x : Int) (hf : FlowOk f)
include hl hF hr
end
def sumP (p : Nat → Prop) [DecidablePred p] (g : Nat → Int) : Nat → Int
 | 0 => 0
 | n + 1 => sumP p g n + (if p n then g n else 0)
def maxP (p : Nat → Prop) [DecidablePred p] (g : Nat → Int) : Nat → Int
 | 0 => 0
 | n + 1 => if p n then max (maxP p g n) (g n) else maxP p g n
def prR (l : Sl Mach) (r : Nat → Bool) (w : Nat → Int) (x : Int) : Nat → Nat → Int
 | 0 => fun _ => 0
 | i + 1 => if r i = true ∧ w i > (rowAt (l.el i) x).least then (fun j => if j = ((l.el i).kind - 1).toNat then max (prR l r w x i ((l.el i).kind - 1).toNat) (rowAt (l.el i) x).energy else prR l r w x i j) else prR l r w x i
section
variable {l : Sl Mach} (hl : PlantOk l) (hF : 1000 < F) (r : Sl Bool) (hr : r.len = l.len) (w : Sl Int) (hw : w.len = l.len) (x : Int)
include hl hF hr hw
abbrev enT (l : Sl Mach) (w : Nat → Int) (x : Int) : Nat → Int := fun i => (rowAt (l.el i) x).energy * max (w i) (rowAt (l.el i) x).least
end
end Go.Sim.Pl


namespace Go.Sim.Pl
open Go.Sim.Le (cfg E E_pf E_hv names look)
open Go.Proofs
def prL (l : Sl Mach) (x : Int) (w : Nat → Int) (S : List Nat) (m : Int) : Int := S.foldl (fun m z => if w z > (rowAt (l.el z) x).least then max m (rowAt (l.el z) x).energy else m) m
section
variable {l : Sl Mach} {r : Nat → Bool} {f x k : Int}
end
def shr1 (l : Sl Mach) (r : Nat → Bool) (f x : Int) : Shr := kindF l r f x shr0 1
def shr2 (l : Sl Mach) (r : Nat → Bool) (f x : Int) : Shr := kindF l r f x (shr1 l r f x) 2
section
variable {l : Sl Mach} (hl : PlantOk l) (r : Nat → Bool) (f x : Int)
include hl
end
end Go.Sim.Pl


namespace Go.Sim.Pl
open Go.Sim.Le (cfg E E_pf E_hv names look)
open Go.Proofs
def wo (r : Nat → Bool) (i : Nat) : Nat → Bool := fun j => if j = i then false else r j
def weakR (l : Sl Mach) (r : Nat → Bool) (f : Int) (s : Span) : Nat → Nat → Int
 | 0, _ => -1
 | j + 1, i => if r i = true ∧ failsB l (wo r i) f (ratL l s) = true then (i : Int) else weakR l r f s j (i + 1)
def weakS (l : Sl Mach) (r : Nat → Bool) (f : Int) (s : Span) : Int := weakR l r f s l.len 0
abbrev RunOk (l : Sl Mach) (r : Sl Bool) (f : Int) : Prop := PlantOk l ∧ r.len = l.len ∧ FlowOk f
instance decRun (l : Sl Mach) (r : Sl Bool) (f : Int) : Decidable (RunOk l r f) := inferInstance
def nilR : V := .row true 0 0 fun _ => []
variable (F d : Nat)
theorem e53 (x : Int) : (E F (d + 1)).pf 50 [.agg [.int .i64 x, .int .i64 x]] = some (.ret (.bool (decide (1000 ≤ x ∧ x ≤ 5000)))) := by
 have e := s53 F d ⟨x, x⟩
 simp only [eSpan] at e
 rw [e]
 refine b3 (b2 ?_)
 simp only [decide_eq_true_iff]
 constructor
 ·rintro ⟨h1, h2, h3⟩; exact ⟨h1, h3⟩
 ·rintro ⟨h1, h2⟩; exact ⟨h1, Int.le_refl _, h2⟩
section
variable {l : Sl Mach} {r : Sl Bool} {f x : Int} (h : RunOk l r f) (hF : 2000 < F)
include h hF
theorem s17xok (hx : 1000 ≤ x ∧ x ≤ 5000) (hk : lacks l r.el f x = 0) : (E F (d + 10)).pf 17 [sl eMach 10 l, sl eBool 1 r, .int .i64 f, .int .i64 x] = some (.ret (.tup [.row false l.len 1 (fun i => eInt ((shareS l r.el f x).sh i)), .row false 3 1 (fun i => eInt ((shareS l r.el f x).pr i)), .int .i64 (sumL (shareS l r.el f x).es), .int .i64 0])) := by
 have hl2 := h.1.2
 have q1 := s51 F (d + 1) l r (lenB (by omega)) (by omega) (rowsB F h.1 (by omega))
 have q2 := s52 F (d + 8) f 0 1000000
 have q3 := e53 F (d + 8) x
 have q4 := s54 F (d + 7) h.1 (by omega) r h.2.1 f x
 have q5 := s55 F d h.1 (by omega) r h.2.1 f x h.2.2
 rw [E_pf, t17]
 simp only [q1, tkOut_ret, tkBool_b]
 rw [decide_eq_true ⟨h.1, h.2.1⟩, Bool.not_true, pF]
 simp only [q2, tkOut_ret, tkBool_b]
 rw [decide_eq_true h.2.2, Bool.not_true, pF]
 simp only [q3, tkOut_ret, tkBool_b]
 rw [decide_eq_true hx, Bool.not_true, pF]
 simp only [q4, tkOut_ret, tkInt_i, decide_true, pT]
 rw [show (lacks l r.el f x != 0) = false by simp [hk], pF]
 simp only [q5, tkOut_ret, tkTup_t, tkCons_c, tkRow_r, tkInt_i, tkNil_n]
end
section
variable {l : Sl Mach} (hl : PlantOk l) (hF : 1000 < F) {s : Span} (hs : RatioOk s) (r : Sl Bool) (hr : r.len = l.len) (hn : r.nl = false) (f : Int)
include hl hF hs hr hn
end
end Go.Sim.Pl


namespace Go.Sim.Pl
open Go.Sim.Le (cfg E E_pf E_hv names look)
open Go.Proofs
def sta0 : Sta := ⟨false, 0, 0, 0, false⟩
def beginS (m : Mach) : Sta := ⟨m.runs, m.since, m.left, 0, false⟩
def afterS (s : Sta) (m : Mach) (x : Int) : Sta :=
  { runs := x == 1
    since := bif (x == 1) == s.runs then s.since + 1 else 1
    left := bif x == 2 && s.served + 1 == m.service then m.life else bif x == 1 then s.left - 1 else s.left
    served := bif x == 2 then s.served + 1 else 0
    complete := x == 2 && s.served + 1 == m.service }
def rowT {α : Type} (z : α) (f : Nat → α) (n : Nat) : Sl α := ⟨false, n, fun j => (tabL f n).getD j ((tabL f n).getLastD z)⟩
theorem rowT_el {α : Type} {z : α} {f : Nat → α} {n j : Nat} (h : j < n) : (rowT z f n).el j = f j := tabL_get f h _
theorem rowT_congr {α : Type} {z : α} {f g : Nat → α} {n : Nat} (h : ∀ j, j < n → f j = g j) : rowT z f n = rowT z g n := by
  have e : tabL f n = tabL g n := List.map_congr_left fun j hj => h j (List.mem_range.1 hj)
  unfold rowT
  rw [e]
abbrev rowS (f : Nat → Sta) (n : Nat) : Sl Sta := rowT sta0 f n
abbrev rowB (f : Nat → Bool) (n : Nat) : Sl Bool := rowT false f n
abbrev runsS (w : Sl Int) : Sl Bool := rowB (fun i => w.el i == 1) w.len
abbrev HV (l : Sl Mach) (st : Sl Sta) (w : Sl Int) (h : Hour) : V := .rptr 1 6 (fun _ => [sl eMach 10 l, sl eSta 5 st, sl eInt 1 w, .int .i64 h.flow, .int .i64 h.ratio.lo, .int .i64 h.ratio.hi]) 0 0
def firstP (p : Nat → Bool) : Nat → Nat → Option Nat
  | 0, _ => none
  | j + 1, i => bif p i then some i else firstP p j (i + 1)
def fO : Option Nat → List V
  | some i => [.int .i64 i, .bool true]
  | none => [.int .i64 0, .bool false]
def upB (m : Mach) (s : Sta) (x : Int) : Bool := s.runs && (x != 1 && decide (s.since < m.up))
def downB (m : Mach) (s : Sta) (x : Int) : Bool := !s.runs && (x == 1 && decide (s.since < m.down))
def cutB (_ : Mach) (s : Sta) (x : Int) : Bool := bif x == 2 then s.complete else decide (s.served > 0) && !s.complete
def wornB (_ : Mach) (s : Sta) (x : Int) : Bool := x == 1 && decide (s.left ≤ 0)
def busyB (w : Nat → Int) : Nat → Bool
  | 0 => false
  | i + 1 => busyB w i || w i == 2
def crewB (w : Nat → Int) (i : Nat) : Bool := busyB w i && w i == 2
def faultS (l : Sl Mach) (st : Nat → Sta) (w : Sl Int) (h : Hour) : Int × Int :=
  match firstP (fun i => upB (l.el i) (st i) (w.el i)) l.len 0 with
  | some i => (2, (i : Int))
  | none => match firstP (fun i => downB (l.el i) (st i) (w.el i)) l.len 0 with
    | some i => (3, (i : Int))
    | none => match firstP (fun i => cutB (l.el i) (st i) (w.el i)) l.len 0 with
      | some i => (4, (i : Int))
      | none => match firstP (crewB w.el) l.len 0 with
        | some i => (5, (i : Int))
        | none => match firstP (fun i => wornB (l.el i) (st i) (w.el i)) l.len 0 with
          | some i => (6, (i : Int))
          | none => if shortest l (runsS w).el h.flow h.ratio ≠ 0 then (7, shortest l (runsS w).el h.flow h.ratio) else (1, 0)
variable (F d : Nat)
theorem s105 (m : Mach) : (E F (d + 1)).pf 79 [.agg (eMach m)] = some (.ret (.agg (eSta (beginS m)))) := by rw [E_pf, t105]; rfl
abbrev StaOk (s : Sta) : Prop := (0 ≤ s.since ∧ s.since ≤ 1000000) ∧ (-1000000 ≤ s.left ∧ s.left ≤ 1000000) ∧ 0 ≤ s.served ∧ s.served ≤ 1000000
theorem s103 (s : Sta) (m : Mach) (x : Int) (hs : StaOk s) : (E F (d + 1)).pf 76 [.agg (eSta s), .agg (eMach m), .int .i64 x] = some (.ret (.agg (eSta (afterS s m x)))) := by
  rw [E_pf, t103]
  simp (disch := omega) only [wr]
  unfold afterS
  by_cases h1 : x = 1
  · have h2 : (x == 2) = false := by simp; omega
    rw [h2, show (x == 1) = true by simp [h1]]
    cases hr : s.runs <;> rfl
  · rw [show (x == 1) = false by simp [h1]]
    cases (x == 2) <;> cases (s.served + 1 == m.service) <;> cases hr : s.runs <;> rfl
theorem l76 (l : Sl Mach) (hl2 : l.len ≤ 1000) : ∀ j i fu, i + j = l.len → j < fu → 0 < i →
    L76x1 (E F (d + 1)) F l fu i i i (gl eSta sta0 (tabL (fun i => beginS (l.el i)) i)) = some (.ret (sl eSta 5 (rowS (fun i => beginS (l.el i)) l.len))) := by
  intro j
  induction j with
  | zero =>
    intro i fu h hf h0
    obtain ⟨fu, rfl⟩ : ∃ k, fu = k + 1 := ⟨fu - 1, by omega⟩
    have hi : i = l.len := by omega
    subst hi
    rw [L76x1s, decide_eq_false (by omega), pF]
    rfl
  | succ j ih =>
    intro i fu h hf h0
    obtain ⟨fu, rfl⟩ : ∃ k, fu = k + 1 := ⟨fu - 1, by omega⟩
    have hS' : IntKind.i64.wrap ((i : Int) + 1) = ((i + 1 : Nat) : Int) := wrS (by omega)
    have q := s105 F d (l.el i)
    have e := ih (i + 1) fu (by omega) (by omega) (by omega)
    rw [tabL_S, ← gl_snoc (e := eSta) (z := sta0) (k := i) (tabL_len _ _) rfl] at e
    rw [L76x1s]
    simp (disch := omega) only [decide_eq_true, pT, Int.toNat_natCast, hS', q, tkOut_ret, tkAgg_a, tkCons_c, tkInt_i, tkBool_b, tkNil_n]
    exact e
theorem s76 (l : Sl Mach) (hl2 : l.len ≤ 1000) (hF : 1000 < F) (h0 : 0 < l.len) : (E F (d + 2)).pf 46 [sl eMach 10 l] = some (.ret (sl eSta 5 (rowS (fun i => beginS (l.el i)) l.len))) := by
  obtain ⟨F, rfl⟩ : ∃ k, F = k + 1 := ⟨F - 1, by omega⟩
  have q := s105 (F + 1) d (l.el 0)
  have e := l76 (F + 1) d l hl2 (l.len - 1) 1 F (by omega) (by omega) (by omega)
  rw [show tabL (fun i => beginS (l.el i)) 1 = [beginS (l.el 0)] from rfl, ← gl_one (e := eSta) (z := sta0) rfl] at e
  rw [E_pf, t76, L76x0s]
  rw [show IntKind.i64.wrap ((0 : Int) + 1) = ((1 : Nat) : Int) by rw [wr (by omega)]; rfl]
  simp (disch := omega) only [decide_eq_true, pT, q, tkOut_ret, tkAgg_a, tkCons_c, tkInt_i, tkBool_b, tkNil_n]
  exact e
section
variable {l : Sl Mach} {st : Sl Sta} {w : Sl Int} {h : Hour} (hl2 : l.len ≤ 1000) (hF : 1000 < F) (hst : st.len = l.len) (hw : w.len = l.len)
include hl2 hF hst hw
theorem l74 (hsto : ∀ i, i < l.len → StaOk (st.el i)) : ∀ j i fu, i + j = l.len → j < fu → 0 < i →
    L74x1 (E F (d + 1)) F l st w h fu i i i (gl eSta sta0 (tabL (fun i => afterS (st.el i) (l.el i) (w.el i)) i)) = some (.ret (sl eSta 5 (rowS (fun i => afterS (st.el i) (l.el i) (w.el i)) l.len))) := by
  intro j
  induction j with
  | zero =>
    intro i fu h hf h0
    obtain ⟨fu, rfl⟩ : ∃ k, fu = k + 1 := ⟨fu - 1, by omega⟩
    have hi : i = l.len := by omega
    subst hi
    rw [L74x1s, decide_eq_false (by omega), pF]
    rfl
  | succ j ih =>
    intro i fu h hf h0
    obtain ⟨fu, rfl⟩ : ∃ k, fu = k + 1 := ⟨fu - 1, by omega⟩
    have hS' : IntKind.i64.wrap ((i : Int) + 1) = ((i + 1 : Nat) : Int) := wrS (by omega)
    have q := s103 F d (st.el i) (l.el i) (w.el i) (hsto i (by omega))
    have e := ih (i + 1) fu (by omega) (by omega) (by omega)
    rw [tabL_S, ← gl_snoc (e := eSta) (z := sta0) (k := i) (tabL_len _ _) rfl] at e
    rw [L74x1s]
    simp (disch := omega) only [decide_eq_true, pT, Int.toNat_natCast, hS', q, tkOut_ret, tkAgg_a, tkCons_c, tkInt_i, tkBool_b, tkNil_n]
    exact e
theorem s74 (hsto : ∀ i, i < l.len → StaOk (st.el i)) (h0 : 0 < l.len) : (E F (d + 2)).pf 44 [HV l st w h] = some (.ret (sl eSta 5 (rowS (fun i => afterS (st.el i) (l.el i) (w.el i)) l.len))) := by
  obtain ⟨F, rfl⟩ : ∃ k, F = k + 1 := ⟨F - 1, by omega⟩
  have q := s103 (F + 1) d (st.el 0) (l.el 0) (w.el 0) (hsto 0 (by omega))
  have e := l74 (F + 1) d (h := h) hl2 hF hst hw hsto (l.len - 1) 1 F (by omega) (by omega) (by omega)
  rw [show tabL (fun i => afterS (st.el i) (l.el i) (w.el i)) 1 = [afterS (st.el 0) (l.el 0) (w.el 0)] from rfl, ← gl_one (e := eSta) (z := sta0) rfl] at e
  rw [E_pf, t74, L74x0s]
  rw [show IntKind.i64.wrap ((0 : Int) + 1) = ((1 : Nat) : Int) by rw [wr (by omega)]; rfl]
  simp (disch := omega) only [decide_eq_true, pT, q, tkOut_ret, tkAgg_a, tkCons_c, tkInt_i, tkBool_b, tkNil_n]
  exact e
theorem l104 : ∀ j i fu, i + j = w.len → j < fu → 0 < i →
    L104x1 (E F d) F l st w h fu i i i (gl eBool false (tabL (fun i => w.el i == 1) i)) = some (.ret (sl eBool 1 (runsS w))) := by
  intro j
  induction j with
  | zero =>
    intro i fu h hf h0
    obtain ⟨fu, rfl⟩ : ∃ k, fu = k + 1 := ⟨fu - 1, by omega⟩
    have hi : i = w.len := by omega
    subst hi
    rw [L104x1s, decide_eq_false (by omega), pF]
    rfl
  | succ j ih =>
    intro i fu h hf h0
    obtain ⟨fu, rfl⟩ : ∃ k, fu = k + 1 := ⟨fu - 1, by omega⟩
    have hS' : IntKind.i64.wrap ((i : Int) + 1) = ((i + 1 : Nat) : Int) := wrS (by omega)
    have e := ih (i + 1) fu (by omega) (by omega) (by omega)
    rw [tabL_S, ← gl_snoc (e := eBool) (z := false) (k := i) (tabL_len _ _) rfl] at e
    rw [L104x1s]
    simp (disch := omega) only [decide_eq_true, pT, Int.toNat_natCast, hS']
    exact e
theorem s104 (h0 : 0 < l.len) : (E F (d + 1)).pf 77 [HV l st w h] = some (.ret (sl eBool 1 (runsS w))) := by
  obtain ⟨F, rfl⟩ : ∃ k, F = k + 1 := ⟨F - 1, by omega⟩
  have e := l104 (F + 1) d (h := h) hl2 hF hst hw (w.len - 1) 1 F (by omega) (by omega) (by omega)
  rw [show tabL (fun i => w.el i == 1) 1 = [w.el 0 == 1] from rfl, ← gl_one (e := eBool) (z := false) rfl] at e
  rw [E_pf, t104, L104x0s]
  rw [show IntKind.i64.wrap ((0 : Int) + 1) = ((1 : Nat) : Int) by rw [wr (by omega)]; rfl]
  simp (disch := omega) only [decide_eq_true, pT]
  exact e
theorem l1145 : ∀ j i fu, i + j = l.len → j < fu → L1145x0 (E F (d + 1)) F l st w h fu i = some (.ret (.tup (fO (firstP (fun i => upB (l.el i) (st.el i) (w.el i)) j i))), []) := by
  intro j
  induction j with
  | zero =>
    intro i fu h hf
    obtain ⟨fu, rfl⟩ : ∃ k, fu = k + 1 := ⟨fu - 1, by omega⟩
    rw [L1145x0s, decide_eq_false (by omega), pF]
    rfl
  | succ j ih =>
    intro i fu h hf
    obtain ⟨fu, rfl⟩ : ∃ k, fu = k + 1 := ⟨fu - 1, by omega⟩
    have hS' : IntKind.i64.wrap ((i : Int) + 1) = ((i + 1 : Nat) : Int) := wrS (by omega)
    have e := ih (i + 1) fu (by omega) (by omega)
    have q : (E F (d + 1)).pf 104 [.agg (eMach (l.el i)), .agg (eSta (st.el i)), .int .i64 (w.el i)] = some (.ret (.bool (upB (l.el i) (st.el i) (w.el i)))) := by
      rw [E_pf, t115]
      unfold upB
      cases (st.el i).runs <;> cases (w.el i != 1) <;> rfl
    rw [L1145x0s]
    simp (disch := omega) only [decide_eq_true, pT, Int.toNat_natCast, hS', q, tkOut_ret, tkBool_b]
    simp only [firstP]
    cases hp : upB (l.el i) (st.el i) (w.el i) with
    | true => rw [pT, pT]; rfl
    | false => rw [pF, pF]; exact e
theorem s97 : (E F (d + 3)).pf 70 [HV l st w h] = some (.ret (.tup (fO (firstP (fun i => upB (l.el i) (st.el i) (w.el i)) l.len 0)))) := by
  have q : (E F (d + 2)).hv 103 [HV l st w h, .fn (.func 104) [] []] [] = some (.ret (.tup (fO (firstP (fun i => upB (l.el i) (st.el i) (w.el i)) l.len 0))), []) := by
    rw [E_hv, t1145]
    exact l1145 F d (h := h) hl2 hF hst hw l.len 0 F (by omega) (by omega)
  rw [E_pf, t97]
  simp only [q, tkHv_h, tkTup_t]
  cases firstP (fun i => upB (l.el i) (st.el i) (w.el i)) l.len 0 with
  | none => rfl
  | some i => rfl
theorem l1146 : ∀ j i fu, i + j = l.len → j < fu → L1146x0 (E F (d + 1)) F l st w h fu i = some (.ret (.tup (fO (firstP (fun i => downB (l.el i) (st.el i) (w.el i)) j i))), []) := by
  intro j
  induction j with
  | zero =>
    intro i fu h hf
    obtain ⟨fu, rfl⟩ : ∃ k, fu = k + 1 := ⟨fu - 1, by omega⟩
    rw [L1146x0s, decide_eq_false (by omega), pF]
    rfl
  | succ j ih =>
    intro i fu h hf
    obtain ⟨fu, rfl⟩ : ∃ k, fu = k + 1 := ⟨fu - 1, by omega⟩
    have hS' : IntKind.i64.wrap ((i : Int) + 1) = ((i + 1 : Nat) : Int) := wrS (by omega)
    have e := ih (i + 1) fu (by omega) (by omega)
    have q : (E F (d + 1)).pf 105 [.agg (eMach (l.el i)), .agg (eSta (st.el i)), .int .i64 (w.el i)] = some (.ret (.bool (downB (l.el i) (st.el i) (w.el i)))) := by
      rw [E_pf, t116]
      unfold downB
      cases (st.el i).runs <;> cases (w.el i == 1) <;> rfl
    rw [L1146x0s]
    simp (disch := omega) only [decide_eq_true, pT, Int.toNat_natCast, hS', q, tkOut_ret, tkBool_b]
    simp only [firstP]
    cases hp : downB (l.el i) (st.el i) (w.el i) with
    | true => rw [pT, pT]; rfl
    | false => rw [pF, pF]; exact e
theorem s98 : (E F (d + 3)).pf 71 [HV l st w h] = some (.ret (.tup (fO (firstP (fun i => downB (l.el i) (st.el i) (w.el i)) l.len 0)))) := by
  have q : (E F (d + 2)).hv 103 [HV l st w h, .fn (.func 105) [] []] [] = some (.ret (.tup (fO (firstP (fun i => downB (l.el i) (st.el i) (w.el i)) l.len 0))), []) := by
    rw [E_hv, t1146]
    exact l1146 F d (h := h) hl2 hF hst hw l.len 0 F (by omega) (by omega)
  rw [E_pf, t98]
  simp only [q, tkHv_h, tkTup_t]
  cases firstP (fun i => downB (l.el i) (st.el i) (w.el i)) l.len 0 with
  | none => rfl
  | some i => rfl
theorem l1147 : ∀ j i fu, i + j = l.len → j < fu → L1147x0 (E F (d + 1)) F l st w h fu i = some (.ret (.tup (fO (firstP (fun i => cutB (l.el i) (st.el i) (w.el i)) j i))), []) := by
  intro j
  induction j with
  | zero =>
    intro i fu h hf
    obtain ⟨fu, rfl⟩ : ∃ k, fu = k + 1 := ⟨fu - 1, by omega⟩
    rw [L1147x0s, decide_eq_false (by omega), pF]
    rfl
  | succ j ih =>
    intro i fu h hf
    obtain ⟨fu, rfl⟩ : ∃ k, fu = k + 1 := ⟨fu - 1, by omega⟩
    have hS' : IntKind.i64.wrap ((i : Int) + 1) = ((i + 1 : Nat) : Int) := wrS (by omega)
    have e := ih (i + 1) fu (by omega) (by omega)
    have q : (E F (d + 1)).pf 106 [.agg (eMach (l.el i)), .agg (eSta (st.el i)), .int .i64 (w.el i)] = some (.ret (.bool (cutB (l.el i) (st.el i) (w.el i)))) := by
      rw [E_pf, t117]
      unfold cutB
      cases (w.el i == 2) <;> cases decide ((st.el i).served > 0) <;> rfl
    rw [L1147x0s]
    simp (disch := omega) only [decide_eq_true, pT, Int.toNat_natCast, hS', q, tkOut_ret, tkBool_b]
    simp only [firstP]
    cases hp : cutB (l.el i) (st.el i) (w.el i) with
    | true => rw [pT, pT]; rfl
    | false => rw [pF, pF]; exact e
theorem s99 : (E F (d + 3)).pf 72 [HV l st w h] = some (.ret (.tup (fO (firstP (fun i => cutB (l.el i) (st.el i) (w.el i)) l.len 0)))) := by
  have q : (E F (d + 2)).hv 103 [HV l st w h, .fn (.func 106) [] []] [] = some (.ret (.tup (fO (firstP (fun i => cutB (l.el i) (st.el i) (w.el i)) l.len 0))), []) := by
    rw [E_hv, t1147]
    exact l1147 F d (h := h) hl2 hF hst hw l.len 0 F (by omega) (by omega)
  rw [E_pf, t99]
  simp only [q, tkHv_h, tkTup_t]
  cases firstP (fun i => cutB (l.el i) (st.el i) (w.el i)) l.len 0 with
  | none => rfl
  | some i => rfl
theorem l1149 : ∀ j i fu, i + j = l.len → j < fu → L1149x0 (E F (d + 1)) F l st w h fu i = some (.ret (.tup (fO (firstP (fun i => wornB (l.el i) (st.el i) (w.el i)) j i))), []) := by
  intro j
  induction j with
  | zero =>
    intro i fu h hf
    obtain ⟨fu, rfl⟩ : ∃ k, fu = k + 1 := ⟨fu - 1, by omega⟩
    rw [L1149x0s, decide_eq_false (by omega), pF]
    rfl
  | succ j ih =>
    intro i fu h hf
    obtain ⟨fu, rfl⟩ : ∃ k, fu = k + 1 := ⟨fu - 1, by omega⟩
    have hS' : IntKind.i64.wrap ((i : Int) + 1) = ((i + 1 : Nat) : Int) := wrS (by omega)
    have e := ih (i + 1) fu (by omega) (by omega)
    have q : (E F (d + 1)).pf 108 [.agg (eMach (l.el i)), .agg (eSta (st.el i)), .int .i64 (w.el i)] = some (.ret (.bool (wornB (l.el i) (st.el i) (w.el i)))) := by
      rw [E_pf, t119]
      unfold wornB
      cases (w.el i == 1) <;> rfl
    rw [L1149x0s]
    simp (disch := omega) only [decide_eq_true, pT, Int.toNat_natCast, hS', q, tkOut_ret, tkBool_b]
    simp only [firstP]
    cases hp : wornB (l.el i) (st.el i) (w.el i) with
    | true => rw [pT, pT]; rfl
    | false => rw [pF, pF]; exact e
theorem s101 : (E F (d + 3)).pf 74 [HV l st w h] = some (.ret (.tup (fO (firstP (fun i => wornB (l.el i) (st.el i) (w.el i)) l.len 0)))) := by
  have q : (E F (d + 2)).hv 103 [HV l st w h, .fn (.func 108) [] []] [] = some (.ret (.tup (fO (firstP (fun i => wornB (l.el i) (st.el i) (w.el i)) l.len 0))), []) := by
    rw [E_hv, t1149]
    exact l1149 F d (h := h) hl2 hF hst hw l.len 0 F (by omega) (by omega)
  rw [E_pf, t101]
  simp only [q, tkHv_h, tkTup_t]
  cases firstP (fun i => wornB (l.el i) (st.el i) (w.el i)) l.len 0 with
  | none => rfl
  | some i => rfl
theorem l1148 : ∀ j i fu, i + j = l.len → j < fu → ∃ b, L1148x0 (E F (d + 1)) F l st w h false fu i (busyB w.el i) = some (.ret (.tup (fO (firstP (crewB w.el) j i))), [.box 4 [.bool b] true]) := by
  intro j
  induction j with
  | zero =>
    intro i fu h hf
    obtain ⟨fu, rfl⟩ : ∃ k, fu = k + 1 := ⟨fu - 1, by omega⟩
    refine ⟨busyB w.el i, ?_⟩
    rw [L1148x0s, decide_eq_false (by omega), pF]
    rfl
  | succ j ih =>
    intro i fu h hf
    obtain ⟨fu, rfl⟩ : ∃ k, fu = k + 1 := ⟨fu - 1, by omega⟩
    have hS' : IntKind.i64.wrap ((i : Int) + 1) = ((i + 1 : Nat) : Int) := wrS (by omega)
    have e := ih (i + 1) fu (by omega) (by omega)
    have q : (E F (d + 1)).hv 107 [.agg (eMach (l.el i)), .agg (eSta (st.el i)), .int .i64 (w.el i), .optr 0 0 0] [.box 4 [.bool (busyB w.el i)] true] = some (.ret (.bool (crewB w.el i)), [.box 4 [.bool (busyB w.el (i + 1))] true]) := by
      rw [E_hv, t118]
      simp only [busyB, crewB]
      cases busyB w.el i <;> cases (w.el i == 2) <;> rfl
    rw [L1148x0s]
    simp (disch := omega) only [decide_eq_true, pT, Int.toNat_natCast, hS', q, tkHv_h, tkBool_b, tkSCons_c, tkBox_b, Nat.beq_refl, beq_self_eq_true, Bool.and_self, tkCons_c, tkNil_n, tkSNil_n]
    simp only [firstP]
    cases hp : crewB w.el i with
    | true => exact ⟨_, rfl⟩
    | false => rw [pF, pF]; exact e
theorem s100 : (E F (d + 3)).pf 73 [HV l st w h] = some (.ret (.tup (fO (firstP (crewB w.el) l.len 0)))) := by
  obtain ⟨b, e⟩ := l1148 F d (h := h) hl2 hF hst hw l.len 0 F (by omega) (by omega)
  have q : (E F (d + 2)).hv 103 [HV l st w h, .fn (.func 107) [] [.optr 0 0 0]] [.box 4 [.bool false] true] = some (.ret (.tup (fO (firstP (crewB w.el) l.len 0))), [.box 4 [.bool b] true]) := by
    rw [E_hv, t1148]
    exact e
  rw [E_pf, t100]
  simp only [q, tkHv_h, tkTup_t]
  cases firstP (crewB w.el) l.len 0 with
  | none => rfl
  | some i => rfl
end
section
variable {l : Sl Mach} (hl : PlantOk l) {st : Sl Sta} {w : Sl Int} {h : Hour} (hF : 1000 < F) (hst : st.len = l.len) (hw : w.len = l.len) (hh : HourOk h)
include hl hF hst hw hh
theorem s102 : (E F (d + 4)).pf 75 [HV l st w h] = some (.ret (.tup [.int .i64 (shortest l (runsS w).el h.flow h.ratio), .bool (shortest l (runsS w).el h.flow h.ratio != 0)])) := by
  have hl2 := hl.2
  have q1 := s104 F (d + 2) (st := st) (h := h) (by omega) hF hst hw (by omega)
  have q2 := s57 F d hl hF hh.2 (runsS w) (by show w.len = l.len; exact hw) h.flow
  rw [E_pf, t102]
  simp only [q1, q2, tkOut_ret, tkRow_r, tkInt_i, decide_true, pT]
theorem s73 : (E F (d + 5)).pf 43 [HV l st w h] = some (.ret (.tup [.int .i64 (faultS l st.el w h).1, .int .i64 (faultS l st.el w h).2])) := by
  have hl2 := hl.2
  have q1 := s97 F (d + 1) (st := st) (h := h) (by omega) hF hst hw
  have q2 := s98 F (d + 1) (st := st) (h := h) (by omega) hF hst hw
  have q3 := s99 F (d + 1) (st := st) (h := h) (by omega) hF hst hw
  have q4 := s100 F (d + 1) (st := st) (h := h) (by omega) hF hst hw
  have q5 := s101 F (d + 1) (st := st) (h := h) (by omega) hF hst hw
  have q6 := s102 F d (h := h) hl hF hst hw hh
  rw [E_pf, t73]
  unfold faultS
  simp (disch := omega) only [q1, tkOut_ret, tkTup_t, wr]
  cases firstP (fun i => upB (l.el i) (st.el i) (w.el i)) l.len 0 with
  | some i => rfl
  | none =>
    simp only [fO, tkCons_c, tkInt_i, tkBool_b, tkNil_n, pF, q2, tkOut_ret, tkTup_t]
    cases firstP (fun i => downB (l.el i) (st.el i) (w.el i)) l.len 0 with
    | some i => rfl
    | none =>
      simp only [fO, tkCons_c, tkInt_i, tkBool_b, tkNil_n, pF, q3, tkOut_ret, tkTup_t]
      cases firstP (fun i => cutB (l.el i) (st.el i) (w.el i)) l.len 0 with
      | some i => rfl
      | none =>
        simp only [fO, tkCons_c, tkInt_i, tkBool_b, tkNil_n, pF, q4, tkOut_ret, tkTup_t]
        cases firstP (crewB w.el) l.len 0 with
        | some i => rfl
        | none =>
          simp only [fO, tkCons_c, tkInt_i, tkBool_b, tkNil_n, pF, q5, tkOut_ret, tkTup_t]
          cases firstP (fun i => wornB (l.el i) (st.el i) (w.el i)) l.len 0 with
          | some i => rfl
          | none =>
            simp only [fO, tkCons_c, tkInt_i, tkBool_b, tkNil_n, pF, q6, tkOut_ret, tkTup_t]
            by_cases hk : shortest l (runsS w).el h.flow h.ratio = 0
            · rw [hk]; rfl
            · rw [show (shortest l (runsS w).el h.flow h.ratio != 0) = true by simp [hk], pT, if_pos hk]; rfl
end
end Go.Sim.Pl


namespace Go.Sim.Pl
open Go.Sim.Le (cfg E E_pf E_hv names look)
open Go.Proofs
def enS (l : Sl Mach) (r : Nat → Bool) (f x : Int) : Int := sumL (shareS l r f x).es
def costF (e : Int → Int) (p : Int × Int) (xs : List Int) : Int × Int := xs.foldl (fun p x => (min p.1 (e x), max p.2 (e x))) p
def startB (w : Sl Int) (st : Nat → Sta) (i : Nat) : Bool := (runsS w).el i && !(st i).runs
def startN (w : Sl Int) (st : Nat → Sta) : Nat → Int
 | 0 => 0
 | i + 1 => startN w st i + (if startB w st i = true then 1 else 0)
def startE (l : Sl Mach) (w : Sl Int) (st : Nat → Sta) : Nat → Int
 | 0 => 0
 | i + 1 => startE l w st i + (if startB w st i = true then (l.el i).start else 0)
def hourE (l : Sl Mach) (w : Sl Int) (h : Hour) : Int × Int := costF (enS l (runsS w).el h.flow) (enS l (runsS w).el h.flow h.ratio.lo, enS l (runsS w).el h.flow h.ratio.lo) (ratM l h.ratio l.len 0)
theorem enS_in {l : Sl Mach} (hl : PlantOk l) (hF : 1000 < (2000 : Nat)) {r : Nat → Bool} {f x : Int} (hf : FlowOk f) : 0 ≤ enS l r f x ∧ enS l r f x ≤ 18000000000 := by
 have hl2 := hl.2
 have hI := shK_inv 2000 hl (by omega) (r := r) (f := f) (x := x) hf 3 1 shr0 (shr0xinv 2000 hl (by omega) ⟨false, l.len, r⟩ rfl f x hf)
 have hs := sumL_in 2000 hl (by omega) _ hI.es
 have hm : ∀ k, (mine l r k).length ≤ 6 := fun k => by
  have := mineR_len l r k l.len 0
  unfold mine
  omega
 have h1 := hm 1
 have h2 := hm 2
 have h3 := hm 3
 have e3 := kind_es (l := l) (r := r) (f := f) (x := x) (k := 3) (s := shr2 l r f x)
 have e2 := kind_es (l := l) (r := r) (f := f) (x := x) (k := 2) (s := shr1 l r f x)
 have e1 := kind_es (l := l) (r := r) (f := f) (x := x) (k := 1) (s := shr0)
 have e3' : (shareS l r f x).es.length = _ := e3
 have e2' : (shr2 l r f x).es.length = _ := e2
 have e1' : (shr1 l r f x).es.length = (mine l r 1).length := by rw [show (shr1 l r f x).es.length = _ from e1]; show 0 + _ = _; omega
 have hs' : 0 ≤ enS l r f x ∧ enS l r f x ≤ 1000000000 * ((shareS l r f x).es.length : Nat) := hs
 omega
theorem costF_in {e : Int → Int} (he : ∀ x, 0 ≤ e x ∧ e x ≤ 18000000000) : ∀ (xs : List Int) (p : Int × Int), (0 ≤ p.1 ∧ p.1 ≤ 18000000000) ∧ (0 ≤ p.2 ∧ p.2 ≤ 18000000000) → (0 ≤ (costF e p xs).1 ∧ (costF e p xs).1 ≤ 18000000000) ∧ (0 ≤ (costF e p xs).2 ∧ (costF e p xs).2 ≤ 18000000000)
 | [], p, h => h
 | x :: xs, p, h => by
  have := he x
  exact costF_in he xs (min p.1 (e x), max p.2 (e x)) (by constructor <;> constructor <;> simp only [] <;> omega)
variable (F d : Nat)
section
variable {l : Sl Mach} (hl : PlantOk l) {st : Sl Sta} {w : Sl Int} {h : Hour} (hF : 1000 < F) (hst : st.len = l.len) (hw : w.len = l.len) (hh : HourOk h)
include hl hF hst hw hh
theorem startE_in (st : Nat → Sta) : ∀ i, i ≤ l.len → (0 ≤ startE l w st i ∧ startE l w st i ≤ 1000000000 * i) ∧ 0 ≤ startN w st i ∧ startN w st i ≤ i
 | 0, _ => by simp [startE, startN]
 | i + 1, hi => by
  have ih := startE_in st i (by omega)
  have := (hl.1 i (by omega)).2.2.2.1
  simp only [startE, startN]
  split <;> omega
theorem l75x2 (lo hi : Int) (h1 : 0 ≤ lo ∧ lo ≤ 18000000000) (h2 : 0 ≤ hi ∧ hi ≤ 18000000000) : ∀ j i fu, i + j = l.len → j < fu →
  L75x2 (E F (d + 1)) F l st w h fu (startN w st.el i) i .i64 (lo + startE l w st.el i) .i64 (hi + startE l w st.el i) (runsS w).nl (runsS w).len 1 (fun j => eBool ((runsS w).el j)) = some (.ret (.tup [.agg [.int .i64 (lo + startE l w st.el l.len), .int .i64 (hi + startE l w st.el l.len)], .int .i64 (startN w st.el l.len)])) := by
 have hl2 := hl.2
 intro j
 induction j with
 | zero =>
  intro i fu hij hf
  obtain ⟨fu, rfl⟩ : ∃ k, fu = k + 1 := ⟨fu - 1, by omega⟩
  have hi : i = l.len := by omega
  subst hi
  rw [L75x2s, decide_eq_false (by omega), pF]
 | succ j ih =>
  intro i fu hij hf
  obtain ⟨fu, rfl⟩ : ∃ k, fu = k + 1 := ⟨fu - 1, by omega⟩
  have hS' : IntKind.i64.wrap ((i : Int) + 1) = ((i + 1 : Nat) : Int) := wrS (by omega)
  have e := ih (i + 1) fu (by omega) (by omega)
  have hb := startE_in F hl hF hst hw hh st.el i (by omega)
  have hs := (hl.1 i (by omega)).2.2.2.1
  have hrl : (runsS w).len = l.len := hw
  simp only [startE, startN] at e
  rw [L75x2s]
  simp (disch := omega) only [decide_eq_true, decide_true, pT, Int.toNat_natCast, hS', tkCons_c, tkBool_b, beq_self_eq_true, wr]
  cases hr : (runsS w).el i with
  | false =>
   have sb : startB w st.el i = false := by unfold startB; rw [hr]; rfl
   rw [sb, if_neg (by simp), Int.add_zero, if_neg (by simp), Int.add_zero] at e
   rw [pF]
   exact e
  | true =>
   rw [pT]
   cases hs2 : (st.el i).runs with
   | true =>
    have sb : startB w st.el i = false := by unfold startB; rw [hr, hs2]; rfl
    rw [sb, if_neg (by simp), Int.add_zero, if_neg (by simp), Int.add_zero] at e
    rw [Bool.not_true, pF]
    exact e
   | false =>
    have sb : startB w st.el i = true := by unfold startB; rw [hr, hs2]; rfl
    rw [sb, if_pos rfl, if_pos rfl, ← Int.add_assoc, ← Int.add_assoc] at e
    rw [Bool.not_false, pT]
    exact e
end
section
variable {l : Sl Mach} (hl : PlantOk l) {st : Sl Sta} {w : Sl Int} {h : Hour} (hF : 1000 < F) (hst : st.len = l.len) (hw : w.len = l.len) (hh : HourOk h)
include hl hF hst hw hh
theorem l75x1 (m0 i : Nat) (hi : i < l.len) (R : Option Out) (q : Int × Int) (K : L75x0 (E F (d + 9)) F l st w h m0 (fun _ => eSpan h.ratio) l.nl l.len 10 (fun i => eMach (l.el i)) l.len ((i + 1 : Nat) : Int) .i64 q.1 .i64 q.2 (runsS w).nl (runsS w).len 1 (fun j => eBool ((runsS w).el j)) (runsS w).nl (runsS w).len 1 (fun j => eBool ((runsS w).el j)) (fun _ => eSpan h.ratio) (fun _ => [sl eMach 10 l]) = R) :
  ∀ (j k fu : Nat) (p : Int × Int), k + j = (l.el i).rows.len → j < fu → costF (enS l (runsS w).el h.flow) p (ratR (l.el i) h.ratio j k) = q →
  L75x1 (E F (d + 9)) F l st w h m0 fu (fun _ => eSpan h.ratio) l.nl l.len 10 (fun i => eMach (l.el i)) l.len i (l.el i).rows.nl (l.el i).rows.len 4 (fun k => eRow ((l.el i).rows.el k)) (l.el i).rows.len k .i64 p.1 .i64 p.2 (runsS w).nl (runsS w).len 1 (fun j => eBool ((runsS w).el j)) (runsS w).nl (runsS w).len 1 (fun j => eBool ((runsS w).el j)) (fun _ => eSpan h.ratio) (fun _ => [sl eMach 10 l]) = R := by
 have hll := hl.2
 intro j
 induction j with
 | zero =>
  intro k fu p hk hf hq
  obtain ⟨fu, rfl⟩ : ∃ k, fu = k + 1 := ⟨fu - 1, by omega⟩
  have hS : IntKind.i64.wrap ((i : Int) + 1) = ((i + 1 : Nat) : Int) := wrS (by omega)
  simp only [ratR, costF, List.foldl_nil] at hq
  subst hq
  rw [L75x1s, decide_eq_false (by omega), pF, hS]
  exact K
 | succ j ih =>
  intro k fu p hk hf hq
  obtain ⟨fu, rfl⟩ : ∃ k, fu = k + 1 := ⟨fu - 1, by omega⟩
  have hm := (hl.1 i hi).1 k (by omega)
  have hml := (hl.1 i hi).2.2.1
  have hhr := hh.2
  have hS : IntKind.i64.wrap ((k : Int) + 1) = ((k + 1 : Nat) : Int) := wrS (by omega)
  have q52 := s52 F (d + 8) (((l.el i).rows.el k).ratio + 1) (h.ratio.lo + 1) h.ratio.hi
  have q55 := s55 F d hl hF (runsS w) (show w.len = l.len from hw) h.flow (((l.el i).rows.el k).ratio + 1) hh.1
  simp only [ratR] at hq
  rw [L75x1s]
  simp (disch := omega) only [decide_eq_true, decide_true, pT, Int.toNat_natCast, show ((4 : Nat) == 4) = true from rfl, List.take, List.length, List.drop, show ((0 + 1 + 1 + 1 + 1 : Nat) == 4) = true from rfl, tkCons_c, tkInt_i, tkNil_n, wr (n := ((l.el i).rows.el k).ratio + 1), wr (n := h.ratio.lo + 1), q52, tkOut_ret, tkBool_b, hS]
  by_cases h1 : h.ratio.lo < ((l.el i).rows.el k).ratio + 1 ∧ ((l.el i).rows.el k).ratio + 1 ≤ h.ratio.hi
  ·rw [decide_eq_true (show h.ratio.lo + 1 ≤ ((l.el i).rows.el k).ratio + 1 ∧ ((l.el i).rows.el k).ratio + 1 ≤ h.ratio.hi by omega), pT]
   rw [if_pos h1] at hq
   have e := ih (k + 1) fu (min p.1 (enS l (runsS w).el h.flow (((l.el i).rows.el k).ratio + 1)), max p.2 (enS l (runsS w).el h.flow (((l.el i).rows.el k).ratio + 1))) (by omega) (by omega) hq
   simp only [q55, tkOut_ret, tkTup_t, tkCons_c, tkRow_r, tkInt_i, tkNil_n, mnE, mxE]
   exact e
  ·rw [decide_eq_false (show ¬ (h.ratio.lo + 1 ≤ ((l.el i).rows.el k).ratio + 1 ∧ ((l.el i).rows.el k).ratio + 1 ≤ h.ratio.hi) by omega), pF]
   rw [if_neg h1, List.nil_append] at hq
   exact ih (k + 1) fu p (by omega) (by omega) hq
theorem l75x0 (q : Int × Int) (hq2 : (0 ≤ q.1 ∧ q.1 ≤ 18000000000) ∧ (0 ≤ q.2 ∧ q.2 ≤ 18000000000)) : ∀ (j i fu : Nat) (p : Int × Int), i + j = l.len → j < fu → costF (enS l (runsS w).el h.flow) p (ratM l h.ratio j i) = q →
  L75x0 (E F (d + 9)) F l st w h fu (fun _ => eSpan h.ratio) l.nl l.len 10 (fun i => eMach (l.el i)) l.len i .i64 p.1 .i64 p.2 (runsS w).nl (runsS w).len 1 (fun j => eBool ((runsS w).el j)) (runsS w).nl (runsS w).len 1 (fun j => eBool ((runsS w).el j)) (fun _ => eSpan h.ratio) (fun _ => [sl eMach 10 l]) = some (.ret (.tup [.agg [.int .i64 (q.1 + startE l w st.el l.len), .int .i64 (q.2 + startE l w st.el l.len)], .int .i64 (startN w st.el l.len)])) := by
 have hll := hl.2
 intro j
 induction j with
 | zero =>
  intro i fu p hij hf hq
  obtain ⟨fu, rfl⟩ : ∃ k, fu = k + 1 := ⟨fu - 1, by omega⟩
  simp only [ratM, costF, List.foldl_nil] at hq
  subst hq
  have e := l75x2 F (d + 8) hl hF hst hw hh p.1 p.2 hq2.1 hq2.2 l.len 0 F (by omega) (by omega)
  simp only [startE, startN, Int.add_zero] at e
  rw [L75x0s, decide_eq_false (by omega), pF]
  exact e
 | succ j ih =>
  intro i fu p hij hf hq
  obtain ⟨fu, rfl⟩ : ∃ k, fu = k + 1 := ⟨fu - 1, by omega⟩
  have hml := (hl.1 i (by omega)).2.2.1
  have e := ih (i + 1) fu (costF (enS l (runsS w).el h.flow) p (ratR (l.el i) h.ratio (l.el i).rows.len 0)) (by omega) (by omega) (by
   rw [← hq]
   unfold costF
   rw [ratM, List.foldl_append])
  rw [L75x0s]
  simp (disch := omega) only [decide_eq_true, decide_true, pT, Int.toNat_natCast, show ((10 : Nat) == 10) = true from rfl, List.take, List.length, show ((0 + 1 + 1 + 1 + 1 + 1 + 1 + 1 + 1 + 1 + 1 : Nat) == 10) = true from rfl, tkCons_c, tkInt_i, tkBool_b, tkRow_r, tkNil_n]
  exact l75x1 F d hl hF hst hw hh fu i (by omega) _ _ e (l.el i).rows.len 0 F p (by omega) (by omega) rfl
theorem s75 : (E F (d + 10)).pf 45 [HV l st w h] = some (.ret (.tup [.agg [.int .i64 ((hourE l w h).1 + startE l w st.el l.len), .int .i64 ((hourE l w h).2 + startE l w st.el l.len)], .int .i64 (startN w st.el l.len)])) := by
 have hll := hl.2
 have q90 : (E F (d + 9)).pf 78 [sl eMach 10 l, .agg (eSpan h.ratio)] = some (.ret (.fn (.func 110) [] [.rptr 1 2 (fun _ => eSpan h.ratio) 0 0, .rptr 1 1 (fun _ => [sl eMach 10 l]) 0 0])) := by
  rw [E_pf]
  exact t90 _ _ l h.ratio
 have q1 := s104 F (d + 8) (st := st) (h := h) (by omega) hF hst hw (by omega)
 have q55 := s55 F d hl hF (runsS w) (show w.len = l.len from hw) h.flow h.ratio.lo hh.1
 have hen := fun x => enS_in hl (by omega) (r := (runsS w).el) (x := x) hh.1
 have hin := costF_in hen (ratM l h.ratio l.len 0) (enS l (runsS w).el h.flow h.ratio.lo, enS l (runsS w).el h.flow h.ratio.lo) ⟨hen _, hen _⟩
 have e := l75x0 F d hl hF hst hw hh (hourE l w h) hin l.len 0 F (enS l (runsS w).el h.flow h.ratio.lo, enS l (runsS w).el h.flow h.ratio.lo) (by omega) (by omega) rfl
 rw [E_pf, t75]
 simp only [q1, q90, tkOut_ret, tkFn_f, Nat.beq_refl, pT, tkNil_n, tkCons_c, tkPtr_p, Bool.and_self, tkInt_i, tkRow_r]
 simp only [q55, tkOut_ret, tkTup_t, tkCons_c, tkRow_r, tkInt_i, tkNil_n, ite_self]
 exact e
end
end Go.Sim.Pl


namespace Go.Sim.Pl
open Go.Sim.Le (cfg E E_pf E_hv names look)
open Go.Proofs
def stAt (l : Sl Mach) (sc : Nat → Sl Int) : Nat → Nat → Sta
 | 0 => fun i => beginS (l.el i)
 | t + 1 => fun i => afterS (stAt l sc t i) (l.el i) ((sc t).el i)
theorem firstP_congr {p q : Nat → Bool} : ∀ j i, (∀ k, i ≤ k → k < i + j → p k = q k) → firstP p j i = firstP q j i
 | 0, _, _ => rfl
 | j + 1, i, h => by
  simp only [firstP]
  rw [h i (Nat.le_refl _) (by omega), firstP_congr j (i + 1) fun k h1 h2 => h k (by omega) (by omega)]
theorem faultS_congr {l : Sl Mach} {st st' : Nat → Sta} {w : Sl Int} {h : Hour} (e : ∀ i, i < l.len → st i = st' i) : faultS l st w h = faultS l st' w h := by
 unfold faultS
 rw [firstP_congr (p := fun i => upB (l.el i) (st i) (w.el i)) (q := fun i => upB (l.el i) (st' i) (w.el i)) l.len 0 (fun k _ h2 => by rw [e k (by omega)])]
 rw [firstP_congr (p := fun i => downB (l.el i) (st i) (w.el i)) (q := fun i => downB (l.el i) (st' i) (w.el i)) l.len 0 (fun k _ h2 => by rw [e k (by omega)])]
 rw [firstP_congr (p := fun i => cutB (l.el i) (st i) (w.el i)) (q := fun i => cutB (l.el i) (st' i) (w.el i)) l.len 0 (fun k _ h2 => by rw [e k (by omega)])]
 rw [firstP_congr (p := fun i => wornB (l.el i) (st i) (w.el i)) (q := fun i => wornB (l.el i) (st' i) (w.el i)) l.len 0 (fun k _ h2 => by rw [e k (by omega)])]
theorem start_congr {l : Sl Mach} {w : Sl Int} {st st' : Nat → Sta} : ∀ n, (∀ i, i < n → st i = st' i) → startE l w st n = startE l w st' n ∧ startN w st n = startN w st' n
 | 0, _ => ⟨rfl, rfl⟩
 | n + 1, e => by
  have ih := start_congr (l := l) (w := w) n fun i hi => e i (by omega)
  have hb : startB w st n = startB w st' n := by unfold startB; rw [e n (by omega)]
  simp only [startE, startN]
  rw [ih.1, ih.2, hb]
  exact ⟨rfl, rfl⟩
structure Ply where
 hour : Int
 rule : Int
 of : Int
 lo : Int
 hi : Int
 many : Int
def playR (l : Sl Mach) (hs : Nat → Hour) (sc : Nat → Sl Int) : Nat → Nat → Int → Int → Int → Ply
 | 0, _, lo, hi, n => ⟨0, 1, 0, lo, hi, n⟩
 | j + 1, t, lo, hi, n => if (faultS l (stAt l sc t) (sc t) (hs t)).1 ≠ 1 then ⟨t, (faultS l (stAt l sc t) (sc t) (hs t)).1, (faultS l (stAt l sc t) (sc t) (hs t)).2, 0, 0, 0⟩
  else playR l hs sc j (t + 1) (lo + ((hourE l (sc t) (hs t)).1 + startE l (sc t) (stAt l sc t) l.len)) (hi + ((hourE l (sc t) (hs t)).2 + startE l (sc t) (stAt l sc t) l.len)) (n + startN (sc t) (stAt l sc t) l.len)
def playS (l : Sl Mach) (hs : Sl Hour) (sc : Sl (Sl Int)) : Ply := playR l hs.el sc.el hs.len 0 0 0 0
def errA (l : Sl Mach) (hs : Sl Hour) : Int := if hs.len > 24 then 3 else if PlantOk l ∧ HoursOk hs then 0 else 2
def errS (l : Sl Mach) (hs : Sl Hour) (sc : Sl (Sl Int)) : Int := if hs.len > 24 then 3 else if PlantOk l ∧ HoursOk hs ∧ SchedOk l hs.len sc then 0 else 2
theorem hourE_in {l : Sl Mach} (hl : PlantOk l) {w : Sl Int} {h : Hour} (hh : HourOk h) : (0 ≤ (hourE l w h).1 ∧ (hourE l w h).1 ≤ 18000000000) ∧ (0 ≤ (hourE l w h).2 ∧ (hourE l w h).2 ≤ 18000000000) := by
 have hen := fun x => enS_in hl (by omega) (r := (runsS w).el) (x := x) hh.1
 exact costF_in hen (ratM l h.ratio l.len 0) (enS l (runsS w).el h.flow h.ratio.lo, enS l (runsS w).el h.flow h.ratio.lo) ⟨hen _, hen _⟩
variable (F d : Nat)
section
variable {l : Sl Mach} (hl : PlantOk l) {hs : Sl Hour} (hh : HoursOk hs) (h24 : hs.len ≤ 24) {sc : Sl (Sl Int)} (hsc : SchedOk l hs.len sc) (hF : 1000 < F)
include hl hh h24 hsc hF
end
theorem s96 (a : Int) (h : Hour) : (E F (d + 2)).pf 69 [.int .i64 a, .agg (eHour h)] = some (.ret (.bool (decide (HourOk h)))) := by
 have q1 := s52 F d h.flow 0 1000000
 have q2 := s53 F d h.ratio
 rw [E_pf, t96]
 simp only [q1, q2, tkOut_ret, tkBool_b, cAnd]
 exact b3 (b2 (by simp only [Bool.and_eq_true, decide_eq_true_iff]))
theorem l95 (hs : Sl Hour) (hB : hs.len < Big) : ∀ j i fu, i + j = hs.len → j < fu →
  L95x0 (E F (d + 2)) F hs fu i = some (.ret (.bool (allF (fun i => decide (HourOk (hs.el i))) j i))) := by
 intro j
 induction j with
 | zero =>
  intro i fu h hf
  obtain ⟨fu, rfl⟩ : ∃ k, fu = k + 1 := ⟨fu - 1, by omega⟩
  rw [L95x0s, decide_eq_false (by omega), pF]; rfl
 | succ j ih =>
  intro i fu h hf
  obtain ⟨fu, rfl⟩ : ∃ k, fu = k + 1 := ⟨fu - 1, by omega⟩
  have hB' : hs.len < 4611686018427387904 := hB
  have hS : IntKind.i64.wrap ((i : Int) + 1) = ((i + 1 : Nat) : Int) := wrS (by omega)
  have e := s96 F d i (hs.el i)
  rw [L95x0s]
  simp (disch := omega) only [decide_eq_true, decide_true, pT, Int.toNat_natCast, hS, e, tkOut_ret, tkBool_b, ih (i + 1) fu (by omega) (by omega), allF, cStep]
theorem s95 (hs : Sl Hour) (hB : hs.len < Big) (hF : hs.len < F) : (E F (d + 3)).pf 68 [sl eHour 3 hs, .fn (.func 69) [] []] = some (.ret (.bool (decide (HoursOk hs)))) := by
 rw [E_pf, t95]
 refine Eq.trans (l95 F d hs hB hs.len 0 F (by omega) hF) (b3 (b2 ?_))
 rw [allF_dec]
 simp only [decide_eq_true_iff]
abbrev SchB (sc : Sl (Sl Int)) (F : Nat) : Prop := (sc.len < Big ∧ sc.len < F) ∧ ∀ i, i < sc.len → (sc.el i).len < Big ∧ (sc.el i).len < F
abbrev InB (l : Sl Mach) (hs : Sl Hour) (F : Nat) : Prop := (l.len < Big ∧ l.len < F) ∧ RowsB l F ∧ hs.len < Big ∧ hs.len < F
theorem s69 (l : Sl Mach) (hs : Sl Hour) (hB : InB l hs F) : (E F (d + 8)).pf 39 [sl eMach 10 l, sl eHour 3 hs] = some (.ret (.int .i64 (errA l hs))) := by
 have q1 := s80 F d l hB.1.1 hB.1.2 hB.2.1
 have q2 := s95 F (d + 4) hs hB.2.2.1 hB.2.2.2
 rw [E_pf, t69]
 unfold errA
 by_cases h1 : hs.len > 24
 ·rw [if_pos h1, decide_eq_true (by omega), pT]
 ·rw [if_neg h1, decide_eq_false (by omega), pF]
  simp only [q1, tkOut_ret, tkBool_b]
  by_cases h2 : PlantOk l
  ·rw [decide_eq_true h2, Bool.not_true, pF]
   simp only [q2, tkOut_ret, tkBool_b]
   by_cases h3 : HoursOk hs
   ·rw [decide_eq_true h3, Bool.not_true, pF, if_pos ⟨h2, h3⟩]
   ·rw [decide_eq_false h3, Bool.not_false, pT, if_neg (fun h => h3 h.2)]
  ·rw [decide_eq_false h2, Bool.not_false, pT, if_neg (fun h => h2 h.1)]
end Go.Sim.Pl


namespace Go.Sim.Pl
open Go.Sim.Le (cfg E E_pf E_hv names look)
open Go.Proofs
variable (F d : Nat)
theorem l35 (w : Sl Int) (hB : w.len ≤ 1000) : ∀ j i fu, i + j = w.len → j < fu → 0 < i →
  L35x1 (E F d) F w fu i i i (gl eBool false (tabL (fun i => w.el i == 1) i)) = some (.ret (sl eBool 1 (runsS w))) := by
 intro j
 induction j with
 | zero =>
  intro i fu h hf h0
  obtain ⟨fu, rfl⟩ : ∃ k, fu = k + 1 := ⟨fu - 1, by omega⟩
  have hi : i = w.len := by omega
  subst hi
  rw [L35x1s, decide_eq_false (by omega), pF]
  rfl
 | succ j ih =>
  intro i fu h hf h0
  obtain ⟨fu, rfl⟩ : ∃ k, fu = k + 1 := ⟨fu - 1, by omega⟩
  have hS' : IntKind.i64.wrap ((i : Int) + 1) = ((i + 1 : Nat) : Int) := wrS (by omega)
  have e := ih (i + 1) fu (by omega) (by omega) (by omega)
  rw [tabL_S, ← gl_snoc (e := eBool) (z := false) (k := i) (tabL_len _ _) rfl] at e
  rw [L35x1s]
  simp (disch := omega) only [decide_eq_true, pT, Int.toNat_natCast, hS']
  exact e
theorem s35 (w : Sl Int) (hB : w.len ≤ 1000) (hF : 1000 < F) (h0 : 0 < w.len) : (E F (d + 1)).pf 16 [sl eInt 1 w] = some (.ret (sl eBool 1 (runsS w))) := by
 obtain ⟨F, rfl⟩ : ∃ k, F = k + 1 := ⟨F - 1, by omega⟩
 have e := l35 (F + 1) d w hB (w.len - 1) 1 F (by omega) (by omega) (by omega)
 rw [show tabL (fun i => w.el i == 1) 1 = [w.el 0 == 1] from rfl, ← gl_one (e := eBool) (z := false) rfl] at e
 rw [E_pf, t35, L35x0s]
 rw [show IntKind.i64.wrap ((0 : Int) + 1) = ((1 : Nat) : Int) by rw [wr (by omega)]; rfl]
 simp (disch := omega) only [decide_eq_true, pT]
 exact e
section
variable {l : Sl Mach} (hl : PlantOk l) {sc : Sl (Sl Int)} {n : Nat} (hn : n ≤ 24) (hsc : SchedOk l n sc) (hF : 1000 < F) {a : Nat} (ha : a < l.len)
include hl hn hsc hF ha
def sncB (m : Mach) (sc : Nat → Sl Int) (a : Nat) (b : Bool) : Nat → Int
 | 0 => bif m.runs == b then m.since else 0
 | k + 1 => bif ((sc k).el a == 1) == b then sncB m sc a b k + 1 else 0
end
def fI : Option Nat → Int
 | some i => i
 | none => -1
theorem l40 (hs : Sl Hour) (hB : hs.len < Big) : ∀ j i fu, i + j = hs.len → j < fu →
  L40x0 (E F (d + 2)) F hs fu i = some (.ret (.bool (allF (fun i => decide (HourOk (hs.el i))) j i))) := by
 intro j
 induction j with
 | zero =>
  intro i fu h hf
  obtain ⟨fu, rfl⟩ : ∃ k, fu = k + 1 := ⟨fu - 1, by omega⟩
  rw [L40x0s, decide_eq_false (by omega), pF]; rfl
 | succ j ih =>
  intro i fu h hf
  obtain ⟨fu, rfl⟩ : ∃ k, fu = k + 1 := ⟨fu - 1, by omega⟩
  have hB' : hs.len < 4611686018427387904 := hB
  have hS : IntKind.i64.wrap ((i : Int) + 1) = ((i + 1 : Nat) : Int) := wrS (by omega)
  have q1 := s56 F d (hs.el i).flow
  have q2 := s27 F (d + 1) (hs.el i).ratio
  rw [L40x0s]
  simp (disch := omega) only [decide_eq_true, pT, Int.toNat_natCast, hS, q1, q2, tkOut_ret, tkBool_b, ih (i + 1) fu (by omega) (by omega), allF, cStep]
  refine b3 ?_
  rw [show decide (HourOk (hs.el i)) = (decide (FlowOk (hs.el i).flow) && decide (RatioOk (hs.el i).ratio)) from Bool.decide_and _ _, Bool.and_assoc]
theorem s40 (hs : Sl Hour) (hB : hs.len < Big) (hF : hs.len < F) : (E F (d + 3)).pf 12 [sl eHour 3 hs] = some (.ret (.bool (decide (HoursOk hs)))) := by
 rw [E_pf, t40]
 refine Eq.trans (l40 F d hs hB hs.len 0 F (by omega) hF) (b3 (b2 ?_))
 rw [allF_dec]
 simp only [decide_eq_true_iff]
theorem l44x1 (l : Sl Mach) (nn : Int) (sc : Sl (Sl Int)) (hB : l.len < Big) (m0 i : Nat) (hi : i < sc.len) (hw : (sc.el i).len = l.len) (b : Bool) (K : L44x0 (E F d) F l nn sc m0 (IntKind.i64.wrap ((i : Int) + 1)) = some (.ret (.bool b))) : ∀ j k fu, k + j = l.len → j < fu →
  L44x1 (E F d) F l nn sc m0 fu i k = some (.ret (.bool (allF (fun k => decide (0 ≤ (sc.el i).el k ∧ (sc.el i).el k ≤ 2)) j k && b))) := by
 intro j
 induction j with
 | zero =>
  intro k fu h hf
  obtain ⟨fu, rfl⟩ : ∃ k, fu = k + 1 := ⟨fu - 1, by omega⟩
  rw [L44x1s, decide_eq_false (by omega), pF, K]; rfl
 | succ j ih =>
  intro k fu h hf
  obtain ⟨fu, rfl⟩ : ∃ k, fu = k + 1 := ⟨fu - 1, by omega⟩
  have hB' : l.len < 4611686018427387904 := hB
  have hS : IntKind.i64.wrap ((k : Int) + 1) = ((k + 1 : Nat) : Int) := wrS (by omega)
  rw [L44x1s]
  simp (disch := omega) only [decide_eq_true, pT, Int.toNat_natCast, hS, ih (k + 1) fu (by omega) (by omega), allF]
  by_cases h1 : (sc.el i).el k < 0
  ·rw [decide_eq_true h1, pT, decide_eq_false (by omega)]; rfl
  ·rw [decide_eq_false h1, pF]
   by_cases h2 : (sc.el i).el k > 2
   ·rw [decide_eq_true h2, pT, decide_eq_false (by omega)]; rfl
   ·rw [decide_eq_false h2, pF, decide_eq_true (by omega)]; rfl
theorem does_dec (n : Nat) (w : Sl Int) : decide (DoesOk n w) = (decide (w.len = n) && allF (fun k => decide (0 ≤ w.el k ∧ w.el k ≤ 2)) n 0) := by
 refine b2 ?_
 rw [allF_dec]
 simp only [Bool.and_eq_true, decide_eq_true_iff]
theorem l44x0 (l : Sl Mach) (nn : Int) (sc : Sl (Sl Int)) (hB : l.len < Big) (hF : l.len < F) (hS : sc.len < Big) : ∀ j i fu, i + j = sc.len → j < fu →
  L44x0 (E F d) F l nn sc fu i = some (.ret (.bool (allF (fun i => decide (DoesOk l.len (sc.el i))) j i && decide ((sc.len : Int) = nn)))) := by
 intro j
 induction j with
 | zero =>
  intro i fu h hf
  obtain ⟨fu, rfl⟩ : ∃ k, fu = k + 1 := ⟨fu - 1, by omega⟩
  rw [L44x0s, decide_eq_false (by omega), pF]
  refine b3 (b2 ?_)
  simp only [allF, Bool.true_and, beq_iff_eq, decide_eq_true_iff]
 | succ j ih =>
  intro i fu h hf
  obtain ⟨fu, rfl⟩ : ∃ k, fu = k + 1 := ⟨fu - 1, by omega⟩
  have hB' : sc.len < 4611686018427387904 := hS
  have hS2 : IntKind.i64.wrap ((i : Int) + 1) = ((i + 1 : Nat) : Int) := wrS (by omega)
  rw [L44x0s]
  simp (disch := omega) only [decide_eq_true, pT, Int.toNat_natCast, allF, does_dec]
  by_cases h1 : (sc.el i).len = l.len
  ·rw [show (((sc.el i).len : Int) != (l.len : Int)) = false by simp [h1], pF, decide_eq_true h1, Bool.true_and, Bool.and_assoc]
   refine l44x1 F d l nn sc hB fu i (by omega) h1 _ ?_ l.len 0 F (by omega) (by omega)
   rw [hS2]
   have e := ih (i + 1) fu (by omega) (by omega)
   simp only [does_dec] at e
   exact e
  ·rw [show (((sc.el i).len : Int) != (l.len : Int)) = true by simp; omega, pT, decide_eq_false h1]; rfl
theorem s44 (l : Sl Mach) (n : Nat) (sc : Sl (Sl Int)) (hB : l.len < Big) (hF : l.len < F) (hS : SchB sc F) : (E F (d + 1)).pf 15 [sl eMach 10 l, .int .i64 n, sl eIL 1 sc] = some (.ret (.bool (decide (SchedOk l n sc)))) := by
 rw [E_pf, t44]
 refine Eq.trans (l44x0 F d l n sc hB hF hS.1.1 sc.len 0 F (by omega) hS.1.2) (b3 (b2 ?_))
 rw [allF_dec]
 simp only [Bool.and_eq_true, decide_eq_true_iff, Int.natCast_inj]
abbrev BriefP (hs : Sl Hour) (sc : Sl (Sl Int)) : Prop := (∀ i, i < sc.len → (sc.el i).len ≤ 10) ∧ sc.len ≤ 40 ∧ (hs.len ≤ 12 ∨ 24 < hs.len ∧ hs.len ≤ 34)
def briefT (hs : Sl Hour) (sc : Sl (Sl Int)) : Bool := decide (sc.len ≤ 40 ∧ (hs.len ≤ 12 ∨ 24 < hs.len ∧ hs.len ≤ 34))
end Go.Sim.Pl


namespace Go.Sim.Pl
open Go.Sim.Le (cfg E E_pf E_hv names look)
open Go.Proofs
def cutD (m : Mach) (s : Sta) (x : Int) : Bool := (x != 2 && (decide (s.served > 0) && decide (s.served < m.service))) || (x == 2 && decide (s.served ≥ m.service))
def faultG (cut : Mach → Sta → Int → Bool) (l : Sl Mach) (st : Nat → Sta) (w : Sl Int) (h : Hour) : Int × Int :=
 match firstP (fun i => upB (l.el i) (st i) (w.el i)) l.len 0 with
 | some i => (2, (i : Int))
 | none => match firstP (fun i => downB (l.el i) (st i) (w.el i)) l.len 0 with
  | some i => (3, (i : Int))
  | none => match firstP (fun i => cut (l.el i) (st i) (w.el i)) l.len 0 with
   | some i => (4, (i : Int))
   | none => match firstP (crewB w.el) l.len 0 with
    | some i => (5, (i : Int))
    | none => match firstP (fun i => wornB (l.el i) (st i) (w.el i)) l.len 0 with
     | some i => (6, (i : Int))
     | none => if shortest l (runsS w).el h.flow h.ratio ≠ 0 then (7, shortest l (runsS w).el h.flow h.ratio) else (1, 0)
def refR (l : Sl Mach) (hs : Nat → Hour) (sc : Nat → Sl Int) : Nat → Nat → Int × Int × Int
 | 0, _ => (0, 1, 0)
 | j + 1, t => if (faultG cutD l (stAt l sc t) (sc t) (hs t)).1 ≠ 1 then ((t : Int), faultG cutD l (stAt l sc t) (sc t) (hs t)) else refR l hs sc j (t + 1)
abbrev TB (p : Nat → Bool) (i : Nat) : Nat → List V := gl eBool false (tabL p i)
def fiveR (a b c e f : V) : Nat → List V := fun u => List.take 1 (List.drop (Min.min u 4 * 1) [a, b, c, e, f])
variable (F d : Nat)
section
variable {l : Sl Mach} (hl : PlantOk l) {hs : Sl Hour} (hh : HoursOk hs) {sc : Sl (Sl Int)} (hn : hs.len ≤ 24) (hsc : SchedOk l hs.len sc) (hF : 1000 < F) {t : Nat} (ht : t < hs.len)
include hl hh hn hsc hF ht
section
variable {i : Nat} (hi : i < l.len) (m0 m1 k1 k2 k3 k4 k5 : Nat) (b6 : Bool) (c1 c2 c3 c4 c5 : Nat) (g1 g2 g3 g4 g5 : Nat → List V) (R : Option Out)
include hi
end
abbrev upP (l : Sl Mach) (sc : Nat → Sl Int) (t : Nat) : Nat → Bool := fun i => upB (l.el i) (stAt l sc t i) ((sc t).el i)
abbrev downP (l : Sl Mach) (sc : Nat → Sl Int) (t : Nat) : Nat → Bool := fun i => downB (l.el i) (stAt l sc t i) ((sc t).el i)
abbrev cutP (l : Sl Mach) (sc : Nat → Sl Int) (t : Nat) : Nat → Bool := fun i => cutD (l.el i) (stAt l sc t i) ((sc t).el i)
abbrev wornP (l : Sl Mach) (sc : Nat → Sl Int) (t : Nat) : Nat → Bool := fun i => wornB (l.el i) (stAt l sc t i) ((sc t).el i)
end
end Go.Sim.Pl


namespace Go.Sim.Pl
open Go.Sim.Le (cfg E E_pf E_hv names look)
open Go.Proofs
abbrev fiveH (l : Sl Mach) (sc : Nat → Sl Int) (t : Nat) : Nat → List V := fiveR (.row false l.len 1 (TB (upP l sc t) l.len)) (.row false l.len 1 (TB (downP l sc t) l.len)) (.row false l.len 1 (TB (cutP l sc t) l.len)) (.row false l.len 1 (TB (crewB (sc t).el) l.len)) (.row false l.len 1 (TB (wornP l sc t) l.len))
variable (F d : Nat)
section
variable {l : Sl Mach} (hl : PlantOk l) {hs : Sl Hour} (hh : HoursOk hs) {sc : Sl (Sl Int)} (hn : hs.len ≤ 24) (hsc : SchedOk l hs.len sc) (hF : 1000 < F) {t : Nat} (ht : t < hs.len)
include hl hh hn hsc hF ht
end
section
variable {l : Sl Mach} (hl : PlantOk l) {hs : Sl Hour} (hh : HoursOk hs) {sc : Sl (Sl Int)} (hn : hs.len ≤ 24) (hsc : SchedOk l hs.len sc) (hF : 1000 < F)
include hl hh hn hsc hF
end
theorem firstP_none {p : Nat → Bool} : ∀ j i, firstP p j i = none → ∀ k, i ≤ k → k < i + j → p k = false
 | 0, i, _, k, h1, h2 => by omega
 | j + 1, i, h, k, h1, h2 => by
  simp only [firstP] at h
  cases hp : p i with
  | true => rw [hp, cond_true] at h; cases h
  | false =>
   rw [hp, cond_false] at h
   rcases Nat.eq_or_lt_of_le h1 with rfl | h3
   ·exact hp
   ·exact firstP_none j (i + 1) h k (by omega) (by omega)
def ServOk (l : Sl Mach) (st : Nat → Sta) : Prop := ∀ i, i < l.len → 0 ≤ (st i).served ∧ (st i).served ≤ (l.el i).service ∧ ((st i).complete = true ↔ (st i).served = (l.el i).service)
theorem fault_fine {l : Sl Mach} {st : Nat → Sta} {w : Sl Int} {h : Hour} (e : (faultS l st w h).1 = 1) :
  (∀ i, i < l.len → upB (l.el i) (st i) (w.el i) = false ∧ downB (l.el i) (st i) (w.el i) = false ∧ cutB (l.el i) (st i) (w.el i) = false ∧ crewB w.el i = false ∧ wornB (l.el i) (st i) (w.el i) = false) ∧ shortest l (runsS w).el h.flow h.ratio = 0 := by
 unfold faultS at e
 split at e
 ·simp at e
 ·rename_i h1
  split at e
  ·simp at e
  ·rename_i h2
   split at e
   ·simp at e
   ·rename_i h3
    split at e
    ·simp at e
    ·rename_i h4
     split at e
     ·simp at e
     ·rename_i h5
      split at e
      ·simp at e
      ·rename_i h6
       refine ⟨fun i hi => ⟨?_, ?_, ?_, ?_, ?_⟩, by omega⟩
       ·exact firstP_none _ _ h1 i (by omega) (by omega)
       ·exact firstP_none _ _ h2 i (by omega) (by omega)
       ·exact firstP_none _ _ h3 i (by omega) (by omega)
       ·exact firstP_none _ _ h4 i (by omega) (by omega)
       ·exact firstP_none _ _ h5 i (by omega) (by omega)
end Go.Sim.Pl


namespace Go.Sim.Pl
open Go.Sim.Le (cfg E E_pf E_hv names look)
open Go.Proofs
def digG : Nat → Int → (Nat → Int) → Nat → Int
 | 0, _, g => g
 | j + 1, x, g => digG j (x.tdiv 3) (fun k => if k = j then x.tmod 3 else g k)
def digF (a : Int) (n : Nat) : Nat → Int := digG n a fun _ => 0
abbrev wayS (n : Nat) (a : Int) : Sl Int := ⟨false, n, digF a n⟩
variable (F d : Nat)
theorem l72 (a : Int) (n : Nat) (hn : n ≤ 1000) : ∀ (j fu : Nat) (x : Int) (g : Nat → Int), j ≤ n → j < fu → 0 ≤ x → x ≤ 1000000000 →
  L72x0 (E F d) F a n fu x ((j : Int) - 1) (fun k => eInt (g k)) = some (.ret (.row false n 1 (fun k => eInt (digG j x g k)))) := by
 intro j
 induction j with
 | zero =>
  intro fu x g h hf hx hx2
  obtain ⟨fu, rfl⟩ : ∃ k, fu = k + 1 := ⟨fu - 1, by omega⟩
  rw [L72x0s, decide_eq_false (by omega), pF, Int.toNat_natCast]
  rfl
 | succ j ih =>
  intro fu x g h hf hx hx2
  obtain ⟨fu, rfl⟩ : ∃ k, fu = k + 1 := ⟨fu - 1, by omega⟩
  have hd : x.tdiv 3 = x / 3 := Int.tdiv_eq_ediv_of_nonneg hx
  have e := ih fu (x.tdiv 3) (fun k => if k = j then x.tmod 3 else g k) (by omega) (by omega) (by rw [hd]; omega) (by rw [hd]; omega)
  rw [show (((j + 1 : Nat) : Int) - 1) = (j : Int) by omega]
  rw [L72x0s]
  have hw : IntKind.i64.wrap (x.tdiv 3) = x.tdiv 3 := wr (by rw [hd]; omega)
  have hw2 : IntKind.i64.wrap ((j : Int) - 1) = (j : Int) - 1 := wr (by omega)
  simp (disch := omega) only [decide_eq_true, decide_true, pT, Int.toNat_natCast, hw, hw2, upd_int]
  exact e
theorem s72 (a : Int) (n : Nat) (ha : 0 ≤ a ∧ a ≤ 1000000000) (hn : n ≤ 1000) (hF : 1000 < F) : (E F (d + 1)).pf 42 [.int .i64 a, .int .i64 n] = some (.ret (sl eInt 1 (wayS n a))) := by
 have e := l72 F d a n hn n F a (fun _ => 0) (by omega) (by omega) ha.1 ha.2
 rw [E_pf, t72]
 simp (disch := omega) only [decide_eq_true, decide_true, pT, wr]
 exact e
theorem s77 (w : Sl Int) (hn : w.nl = false) (h0 : 0 < w.len) (hB : w.len ≤ 1000) : (E F (d + 1)).pf 47 [sl eInt 1 w] = some (.ret (sl eInt 1 w)) := by
 rw [E_pf, t77, hn]
 simp (disch := omega) only [pF, decide_eq_true, pT, Nat.zero_add]
 rw [show (w.len == 0) = false by rw [beq_eq_false_iff_ne]; omega, pF]
 show _ = some (Out.ret (.row w.nl w.len 1 _))
 rw [hn]
 rfl
def capK (m : Mach) (s : Sta) (left : Int) : List V := [.bool s.runs, .int .i64 (min s.since (max m.up m.down)), .int .i64 (min s.left left), .int .i64 s.served, .bool s.complete]
def keyR (l : Sl Mach) (st : Nat → Sta) (left : Int) : Nat → Nat → List V
 | 0, _ => []
 | j + 1, i => (if i < l.len then capK (l.el i) (st i) left else [.bool false, .int .i64 0, .int .i64 0, .int .i64 0, .bool false]) ++ keyR l st left j (i + 1)
def keyS (l : Sl Mach) (st : Nat → Sta) (t left : Int) : V := .agg (.int .i64 t :: keyR l st left 6 0)
theorem s71 {l : Sl Mach} (hl : 1 ≤ l.len ∧ l.len ≤ 6) {st : Sl Sta} (hst : st.len = l.len) (t n : Nat) (ht : t ≤ n) (hn : n ≤ 1000) : (E F (d + 1)).pf 41 [.int .i64 t, sl eMach 10 l, sl eSta 5 st, .int .i64 n] = some (.ret (keyS l st.el t ((n : Int) - t))) := by
 have hw : IntKind.i64.wrap ((n : Int) - t) = (n : Int) - t := wr (by omega)
 have h01 : IntKind.i64.wrap ((0 : Int) + 1) = 1 := by rw [wr (by omega)]; rfl
 have h12 : IntKind.i64.wrap ((1 : Int) + 1) = 2 := by rw [wr (by omega)]; rfl
 have h23 : IntKind.i64.wrap ((2 : Int) + 1) = 3 := by rw [wr (by omega)]; rfl
 have h34 : IntKind.i64.wrap ((3 : Int) + 1) = 4 := by rw [wr (by omega)]; rfl
 have h45 : IntKind.i64.wrap ((4 : Int) + 1) = 5 := by rw [wr (by omega)]; rfl
 have h56 : IntKind.i64.wrap ((5 : Int) + 1) = 6 := by rw [wr (by omega)]; rfl
 have hmn : ∀ a b : Int, (if b < a then b else a) = min a b := mnE
 have hmx : ∀ a b : Int, (if a < b then b else a) = max a b := mxE
 rw [E_pf, t71]
 rw [hst]
 unfold keyS
 have h6 : l.len = 1 ∨ l.len = 2 ∨ l.len = 3 ∨ l.len = 4 ∨ l.len = 5 ∨ l.len = 6 := by omega
 rcases h6 with h | h | h | h | h | h <;> rw [h] <;> simp only [h01, h12, h23, h34, h45, h56, hw, hmn, hmx, keyR, h, capK] <;> simp
end Go.Sim.Pl


namespace Go.Sim.Pl
open Go.Sim.Le (cfg E E_pf E_hv names look)
open Go.Proofs
structure Bst where
 energy : Int
 starts : Int
 way : Option Int
 right : Bool
def bYes : Bst := ⟨0, 0, none, true⟩
def bNo : Bst := ⟨0, 0, none, false⟩
def nextS (l : Sl Mach) (st : Nat → Sta) (w : Sl Int) : Nat → Sta := fun i => afterS (st i) (l.el i) (w.el i)
def addB (l : Sl Mach) (h : Hour) (st : Nat → Sta) (r : Bst) (a : Int) : Bst :=
 ⟨(hourE l (wayS l.len a) h).2 + startE l (wayS l.len a) st l.len + r.energy, startN (wayS l.len a) st l.len + r.starts, some a, true⟩
def takeB (o x : Bst) : Bst := if o.right = false ∨ x.energy < o.energy ∨ x.energy = o.energy ∧ x.starts < o.starts then x else o
def stepB (l : Sl Mach) (h : Hour) (st : Nat → Sta) (rest : (Nat → Sta) → Bst) (o : Bst) (a : Int) : Bst :=
 if (faultS l st (wayS l.len a) h).1 ≠ 1 then o
 else if (rest (nextS l st (wayS l.len a))).right = false then o
 else takeB o (addB l h st (rest (nextS l st (wayS l.len a))) a)
def waysB (l : Sl Mach) (h : Hour) (st : Nat → Sta) (rest : (Nat → Sta) → Bst) : Nat → Int → Bst → Bst
 | 0, _, o => o
 | j + 1, a, o => waysB l h st rest j (a + 1) (stepB l h st rest o a)
def bst (l : Sl Mach) (hs : Nat → Hour) : Nat → Nat → (Nat → Sta) → Bst
 | 0, _, _ => bYes
 | j + 1, t, st => waysB l (hs t) st (bst l hs j (t + 1)) (3 ^ l.len) 0 bNo
def StEq (l : Sl Mach) (left : Int) (st st' : Nat → Sta) : Prop := ∀ i, i < l.len → (st i).runs = (st' i).runs ∧ min (st i).since (max (l.el i).up (l.el i).down) = min (st' i).since (max (l.el i).up (l.el i).down) ∧ min (st i).left left = min (st' i).left left ∧ (st i).served = (st' i).served ∧ (st i).complete = (st' i).complete
theorem start_runs {l : Sl Mach} {w : Sl Int} {st st' : Nat → Sta} : ∀ n, (∀ i, i < n → (st i).runs = (st' i).runs) → startE l w st n = startE l w st' n ∧ startN w st n = startN w st' n
 | 0, _ => ⟨rfl, rfl⟩
 | n + 1, e => by
  have ih := start_runs (l := l) (w := w) n fun i hi => e i (by omega)
  have hb : startB w st n = startB w st' n := by unfold startB; rw [e n (by omega)]
  simp only [startE, startN]
  rw [ih.1, ih.2, hb]
  exact ⟨rfl, rfl⟩
theorem fault_eq {l : Sl Mach} {left : Int} (hleft : 1 ≤ left) {st st' : Nat → Sta} (e : StEq l left st st') (w : Sl Int) (h : Hour) : faultS l st w h = faultS l st' w h := by
 unfold faultS
 rw [firstP_congr (p := fun i => upB (l.el i) (st i) (w.el i)) (q := fun i => upB (l.el i) (st' i) (w.el i)) l.len 0 (fun k _ h2 => ?_)]
 rw [firstP_congr (p := fun i => downB (l.el i) (st i) (w.el i)) (q := fun i => downB (l.el i) (st' i) (w.el i)) l.len 0 (fun k _ h2 => ?_)]
 rw [firstP_congr (p := fun i => cutB (l.el i) (st i) (w.el i)) (q := fun i => cutB (l.el i) (st' i) (w.el i)) l.len 0 (fun k _ h2 => ?_)]
 rw [firstP_congr (p := fun i => wornB (l.el i) (st i) (w.el i)) (q := fun i => wornB (l.el i) (st' i) (w.el i)) l.len 0 (fun k _ h2 => ?_)]
 ·have := e k (by omega)
  unfold wornB
  congr 1
  refine b2 ?_
  simp only [decide_eq_true_iff]
  omega
 ·have := e k (by omega)
  unfold cutB
  rw [this.2.2.2.1, this.2.2.2.2]
 ·have := e k (by omega)
  unfold downB
  rw [this.1]
  congr 2
  refine b2 ?_
  simp only [decide_eq_true_iff]
  omega
 ·have := e k (by omega)
  unfold upB
  rw [this.1]
  congr 2
  refine b2 ?_
  simp only [decide_eq_true_iff]
  omega
theorem next_eq {l : Sl Mach} {left : Int} {st st' : Nat → Sta} (e : StEq l (left + 1) st st') (w : Sl Int) : StEq l left (nextS l st w) (nextS l st' w) := by
 intro i hi
 obtain ⟨h1, h2, h3, h4, h5⟩ := e i hi
 simp only [nextS, afterS]
 refine ⟨trivial, ?_, ?_, ?_, ?_⟩
 ·rw [h1]
  cases (w.el i == 1) == (st' i).runs
  ·rfl
  ·simp only [cond_true]; omega
 ·rw [h4]
  cases (w.el i == 2 && (st' i).served + 1 == (l.el i).service)
  ·cases (w.el i == 1) <;> simp only [cond_true, cond_false] <;> omega
  ·rfl
 ·rw [h4]
 ·rw [h4]
theorem ways_congr {l : Sl Mach} {h : Hour} {st st' : Nat → Sta} {rest rest' : (Nat → Sta) → Bst} (hs : ∀ o a, stepB l h st rest o a = stepB l h st' rest' o a) : ∀ j a o, waysB l h st rest j a o = waysB l h st' rest' j a o
 | 0, _, _ => rfl
 | j + 1, a, o => by
  simp only [waysB]
  rw [hs, ways_congr hs j]
theorem bst_eq {l : Sl Mach} (hs : Nat → Hour) : ∀ (j t : Nat) (st st' : Nat → Sta), StEq l j st st' → bst l hs j t st = bst l hs j t st'
 | 0, _, _, _, _ => rfl
 | j + 1, t, st, st', e => by
  simp only [bst]
  refine ways_congr (fun o a => ?_) _ _ _
  have hf := fault_eq (by omega) e (wayS l.len a) (hs t)
  have hn := next_eq (left := j) (by simpa using e) (wayS l.len a)
  have hr := bst_eq hs j (t + 1) _ _ hn
  have hst := start_runs (l := l) (w := wayS l.len a) l.len fun i hi => (e i hi).1
  unfold stepB addB
  rw [hf, hr, hst.1, hst.2]
theorem keysEq_app : ∀ (a a' : List V) (b b' : List V), a.length = a'.length → keysEq (a ++ b) (a' ++ b') = (keysEq a a' && keysEq b b')
 | [], [], _, _, _ => by simp [keysEq]
 | [], _ :: _, _, _, h => by simp at h
 | _ :: _, [], _, _, h => by simp at h
 | x :: a, y :: a', b, b', h => by
  have := keysEq_app a a' b b' (by simpa using h)
  simp only [List.cons_append, keysEq, this, Bool.and_assoc]
theorem keyR_eq {l : Sl Mach} {st st' : Nat → Sta} {left : Int} : ∀ j i, keysEq (keyR l st left j i) (keyR l st' left j i) = true → ∀ k, i ≤ k → k < i + j → k < l.len → (st k).runs = (st' k).runs ∧ min (st k).since (max (l.el k).up (l.el k).down) = min (st' k).since (max (l.el k).up (l.el k).down) ∧ min (st k).left left = min (st' k).left left ∧ (st k).served = (st' k).served ∧ (st k).complete = (st' k).complete
 | 0, i, _, k, h1, h2, _ => by omega
 | j + 1, i, h, k, h1, h2, h3 => by
  simp only [keyR] at h
  rw [keysEq_app _ _ _ _ (by split <;> rfl), Bool.and_eq_true] at h
  rcases Nat.eq_or_lt_of_le h1 with rfl | h4
  ·have h5 := h.1
   rw [if_pos h3, if_pos h3] at h5
   simpa [capK, keysEq, keyEq1] using h5
  ·exact keyR_eq j (i + 1) h.2 k (by omega) (by omega) h3
theorem keyS_eq {l : Sl Mach} (hl : l.len ≤ 6) {st st' : Nat → Sta} {t t' n : Nat} (ht : t ≤ n) (ht' : t' ≤ n) (h : keyEq (keyS l st t ((n : Int) - t)) (keyS l st' t' ((n : Int) - t')) = true) : t = t' ∧ StEq l ((n - t : Nat) : Int) st st' := by
 unfold keyS at h
 simp only [keyEq, keysEq, keyEq1, decide_true, Bool.true_and, Bool.and_eq_true, beq_iff_eq] at h
 have e : t = t' := by omega
 subst e
 refine ⟨rfl, fun i hi => ?_⟩
 have := keyR_eq 6 0 h.2 i (by omega) (by omega) hi
 rw [show ((n - t : Nat) : Int) = (n : Int) - t by omega]
 exact this
end Go.Sim.Pl


namespace Go.Sim.Pl
open Go.Sim.Le (cfg E E_pf E_hv names look)
open Go.Proofs
def kr (l : Sl Mach) (st : Nat → Sta) (i : Nat) : Bool := bif decide (i < l.len) then (st i).runs else false
def ks (l : Sl Mach) (st : Nat → Sta) (i : Nat) : Int := bif decide (i < l.len) then min (st i).since (max (l.el i).up (l.el i).down) else 0
def kl (l : Sl Mach) (st : Nat → Sta) (left : Int) (i : Nat) : Int := bif decide (i < l.len) then min (st i).left left else 0
def kv (l : Sl Mach) (st : Nat → Sta) (i : Nat) : Int := bif decide (i < l.len) then (st i).served else 0
def kc (l : Sl Mach) (st : Nat → Sta) (i : Nat) : Bool := bif decide (i < l.len) then (st i).complete else false
theorem cell_eq (l : Sl Mach) (st : Nat → Sta) (left : Int) (i : Nat) : (if i < l.len then capK (l.el i) (st i) left else [.bool false, .int .i64 0, .int .i64 0, .int .i64 0, .bool false]) = [.bool (kr l st i), .int .i64 (ks l st i), .int .i64 (kl l st left i), .int .i64 (kv l st i), .bool (kc l st i)] := by
 unfold kr ks kl kv kc
 by_cases h : i < l.len
 ·rw [if_pos h, decide_eq_true h]; rfl
 ·rw [if_neg h, decide_eq_false h]; rfl
theorem keyS_flat (l : Sl Mach) (st : Nat → Sta) (t left : Int) : keyS l st t left = .agg [.int .i64 t, .bool (kr l st 0), .int .i64 (ks l st 0), .int .i64 (kl l st left 0), .int .i64 (kv l st 0), .bool (kc l st 0), .bool (kr l st 1), .int .i64 (ks l st 1), .int .i64 (kl l st left 1), .int .i64 (kv l st 1), .bool (kc l st 1), .bool (kr l st 2), .int .i64 (ks l st 2), .int .i64 (kl l st left 2), .int .i64 (kv l st 2), .bool (kc l st 2), .bool (kr l st 3), .int .i64 (ks l st 3), .int .i64 (kl l st left 3), .int .i64 (kv l st 3), .bool (kc l st 3), .bool (kr l st 4), .int .i64 (ks l st 4), .int .i64 (kl l st left 4), .int .i64 (kv l st 4), .bool (kc l st 4), .bool (kr l st 5), .int .i64 (ks l st 5), .int .i64 (kl l st left 5), .int .i64 (kv l st 5), .bool (kc l st 5)] := by
 unfold keyS
 simp only [keyR, cell_eq, List.cons_append, List.nil_append]
def StIn (l : Sl Mach) (t : Nat) (st : Nat → Sta) : Prop := ∀ i, i < l.len → (0 ≤ (st i).since ∧ (st i).since ≤ 1000 + t) ∧ (-t ≤ (st i).left ∧ (st i).left ≤ 1000) ∧ 0 ≤ (st i).served ∧ (st i).served ≤ t
theorem stIn_next {l : Sl Mach} (hl : PlantOk l) {t : Nat} {st : Nat → Sta} (h : StIn l t st) (w : Sl Int) : StIn l (t + 1) (nextS l st w) := by
 intro i hi
 have ih := h i hi
 have := (hl.1 i hi).2.2.2.2.2.2.2
 simp only [nextS, afterS]
 generalize st i = s at ih
 refine ⟨?_, ?_, ?_⟩
 ·cases ((w.el i == 1) == s.runs) <;> simp only [cond_true, cond_false] <;> omega
 ·cases (w.el i == 2 && s.served + 1 == (l.el i).service) <;> cases (w.el i == 1) <;> simp only [cond_true, cond_false] <;> omega
 ·cases (w.el i == 2) <;> simp only [cond_true, cond_false] <;> omega
theorem cond_in {P : Int → Prop} {b : Prop} [Decidable b] {x : Int} (h1 : b → P x) (h2 : P 0) : P (bif decide b then x else 0) := by
 by_cases h : b
 ·rw [decide_eq_true h]; exact h1 h
 ·rw [decide_eq_false h]; exact h2
theorem ks_in {l : Sl Mach} (hl : PlantOk l) {t : Nat} {st : Nat → Sta} (h : StIn l t st) (ht : t ≤ 24) (i : Nat) : 0 ≤ ks l st i ∧ ks l st i ≤ 2000 := cond_in (P := fun x => 0 ≤ x ∧ x ≤ 2000) (fun hi => by have := h i hi; have := (hl.1 i hi).2.2.2.2; omega) (by omega)
theorem kl_in {l : Sl Mach} {t : Nat} {st : Nat → Sta} (h : StIn l t st) (ht : t ≤ 24) {left : Int} (hle : 0 ≤ left ∧ left ≤ 1000) (i : Nat) : -2000 ≤ kl l st left i ∧ kl l st left i ≤ 2000 := cond_in (P := fun x => -2000 ≤ x ∧ x ≤ 2000) (fun hi => by have := h i hi; omega) (by omega)
theorem kv_in {l : Sl Mach} {t : Nat} {st : Nat → Sta} (h : StIn l t st) (ht : t ≤ 24) (i : Nat) : 0 ≤ kv l st i ∧ kv l st i ≤ 2000 := cond_in (P := fun x => 0 ≤ x ∧ x ≤ 2000) (fun hi => by have := h i hi; omega) (by omega)
theorem i64xin {x : Int} (h : -2000 ≤ x ∧ x ≤ 2000) : ((decide ((-((2 : Int) ^ 63)) ≤ x)) && (decide (x ≤ (((2 : Int) ^ 63) - (1 : Int))))) = true := by
 have e : (2 : Int) ^ 63 = 9223372036854775808 := rfl
 rw [e, Bool.and_eq_true, decide_eq_true_iff, decide_eq_true_iff]
 omega
def wNl : Option Int → Bool | none => true | some _ => false
def wLn (l : Sl Mach) : Option Int → Nat | none => 0 | some _ => l.len
def wWd : Option Int → Nat | none => 0 | some _ => 1
def wG (l : Sl Mach) : Option Int → Nat → List V | none => fun _ => [] | some a => fun k => eInt (digF a l.len k)
def encB (l : Sl Mach) (b : Bst) : V := .agg [.int .i64 b.energy, .int .i64 b.starts, .row (wNl b.way) (wLn l b.way) (wWd b.way) (wG l b.way), .bool b.right]
abbrev ksB : List KS := [(Go.Sim.KS.int .i64), Go.Sim.KS.bool, (Go.Sim.KS.int .i64), (Go.Sim.KS.int .i64), (Go.Sim.KS.int .i64), Go.Sim.KS.bool, Go.Sim.KS.bool, (Go.Sim.KS.int .i64), (Go.Sim.KS.int .i64), (Go.Sim.KS.int .i64), Go.Sim.KS.bool, Go.Sim.KS.bool, (Go.Sim.KS.int .i64), (Go.Sim.KS.int .i64), (Go.Sim.KS.int .i64), Go.Sim.KS.bool, Go.Sim.KS.bool, (Go.Sim.KS.int .i64), (Go.Sim.KS.int .i64), (Go.Sim.KS.int .i64), Go.Sim.KS.bool, Go.Sim.KS.bool, (Go.Sim.KS.int .i64), (Go.Sim.KS.int .i64), (Go.Sim.KS.int .i64), Go.Sim.KS.bool, Go.Sim.KS.bool, (Go.Sim.KS.int .i64), (Go.Sim.KS.int .i64), (Go.Sim.KS.int .i64), Go.Sim.KS.bool]
abbrev HB (l : Sl Mach) (hs : Sl Hour) (ways : Int) (es : List (V × V)) : List Slot := [.box 47 [sl eHour 3 hs] true, .box 31 [sl eMach 10 l] true, .box 93 [.mapr 5] true, .box 3 [.int .i64 ways] true, .box 94 [.fn (.func 40) [] [.optr 0 0 0, .optr 1 0 0, .optr 2 0 0, .optr 3 0 0, .optr 4 0 0]] true, .mp true ksB es true]
noncomputable def LB (env : Env) (F : Nat) (t : Nat) (ways : Int) (st : Sl Sta) (l : Sl Mach) (hs : Sl Hour) (es0 : List (V × V)) (fu : Nat) (a : Int) (left : Int) (o : Bst) (es : List (V × V)) : Option (Out × List Slot) :=
 L70x0 env F t ways st l hs es0 fu a hs.nl hs.len 3 (fun u => eHour (hs.el u)) l.nl l.len 10 (fun u => eMach (l.el u)) .i64 t (kr l st.el 0) .i64 (ks l st.el 0) .i64 (kl l st.el left 0) .i64 (kv l st.el 0) (kc l st.el 0) (kr l st.el 1) .i64 (ks l st.el 1) .i64 (kl l st.el left 1) .i64 (kv l st.el 1) (kc l st.el 1) (kr l st.el 2) .i64 (ks l st.el 2) .i64 (kl l st.el left 2) .i64 (kv l st.el 2) (kc l st.el 2) (kr l st.el 3) .i64 (ks l st.el 3) .i64 (kl l st.el left 3) .i64 (kv l st.el 3) (kc l st.el 3) (kr l st.el 4) .i64 (ks l st.el 4) .i64 (kl l st.el left 4) .i64 (kv l st.el 4) (kc l st.el 4) (kr l st.el 5) .i64 (ks l st.el 5) .i64 (kl l st.el left 5) .i64 (kv l st.el 5) (kc l st.el 5) .i64 o.energy .i64 o.starts (wNl o.way) (wLn l o.way) (wWd o.way) (wG l o.way) o.right .i64 ways es
def EntOk (l : Sl Mach) (hs : Sl Hour) (es : List (V × V)) : Prop := ∀ p ∈ es, ∃ (t : Nat) (st : Nat → Sta), t ≤ hs.len ∧ p = (keyS l st t ((hs.len : Int) - t), encB l (bst l hs.el (hs.len - t) t st))
theorem mget_mem : ∀ (es : List (V × V)) (x v : V), mget es x = some v → ∃ k, (k, v) ∈ es ∧ keyEq k x = true
 | [], _, _, h => by simp [mget] at h
 | (k, u) :: r, x, v, h => by
  simp only [mget] at h
  cases hk : keyEq k x with
  | true => rw [hk, cond_true] at h; cases h; exact ⟨k, by simp, hk⟩
  | false =>
   rw [hk, cond_false] at h
   obtain ⟨k', h1, h2⟩ := mget_mem r x v h
   exact ⟨k', by simp [h1], h2⟩
theorem mput_mem : ∀ (es : List (V × V)) (x v : V), ∀ p ∈ mput es x v, p ∈ es ∨ p = (x, v) ∨ ∃ k u, (k, u) ∈ es ∧ keyEq k x = true ∧ p = (k, v)
 | [], x, v, p, h => by simp only [mput, List.mem_singleton] at h; exact .inr (.inl h)
 | (k, u) :: r, x, v, p, h => by
  simp only [mput] at h
  cases hk : keyEq k x with
  | true =>
   rw [hk, cond_true, List.mem_cons] at h
   rcases h with h | h
   ·exact .inr (.inr ⟨k, u, by simp, hk, h⟩)
   ·exact .inl (by simp [h])
  | false =>
   rw [hk, cond_false, List.mem_cons] at h
   rcases h with h | h
   ·exact .inl (by simp [h])
   ·rcases mput_mem r x v p h with h | h | ⟨k', u', h1, h2⟩
    ·exact .inl (by simp [h])
    ·exact .inr (.inl h)
    ·exact .inr (.inr ⟨k', u', by simp [h1], h2⟩)
theorem mput_len : ∀ (es : List (V × V)) (x v : V), (mput es x v).length ≤ es.length + 1
 | [], _, _ => by simp [mput]
 | (k, u) :: r, x, v => by
  have := mput_len r x v
  simp only [mput]
  cases keyEq k x
  ·rw [cond_false]; simp only [List.length_cons]; omega
  ·rw [cond_true]; simp only [List.length_cons]; omega
theorem ent_get {l : Sl Mach} (hl : l.len ≤ 6) {hs : Sl Hour} {es : List (V × V)} (h : EntOk l hs es) {t : Nat} (ht : t ≤ hs.len) {st : Nat → Sta} {v : V} (hv : mget es (keyS l st t ((hs.len : Int) - t)) = some v) : v = encB l (bst l hs.el (hs.len - t) t st) := by
 obtain ⟨k, h1, h2⟩ := mget_mem _ _ _ hv
 obtain ⟨t', st', h3, h4⟩ := h _ h1
 cases h4
 obtain ⟨rfl, h5⟩ := keyS_eq hl h3 ht h2
 rw [bst_eq hs.el _ _ _ _ h5]
theorem ent_put {l : Sl Mach} (hl : l.len ≤ 6) {hs : Sl Hour} {es : List (V × V)} (h : EntOk l hs es) {t : Nat} (ht : t ≤ hs.len) {st : Nat → Sta} : EntOk l hs (mput es (keyS l st t ((hs.len : Int) - t)) (encB l (bst l hs.el (hs.len - t) t st))) := by
 intro p hp
 rcases mput_mem _ _ _ p hp with h1 | h1 | ⟨k, u, h1, h2, h3⟩
 ·exact h p h1
 ·exact ⟨t, st, ht, h1⟩
 ·obtain ⟨t', st', h4, h5⟩ := h _ h1
  cases h5
  obtain ⟨rfl, h6⟩ := keyS_eq hl h4 ht h2
  refine ⟨t', st', h4, ?_⟩
  rw [h3, bst_eq hs.el _ _ _ _ h6]
def BIn (j : Nat) (b : Bst) : Prop := (0 ≤ b.energy ∧ b.energy ≤ 100000000000 * j) ∧ 0 ≤ b.starts ∧ b.starts ≤ 1000 * j
theorem take_in {j : Nat} {o x : Bst} (ho : BIn j o) (hx : BIn j x) : BIn j (takeB o x) := by
 unfold takeB; split <;> assumption
theorem add_in {l : Sl Mach} (hl : PlantOk l) {h : Hour} (hh : HourOk h) {j : Nat} {r : Bst} (hr : BIn j r) (st : Nat → Sta) (a : Int) : BIn (j + 1) (addB l h st r a) := by
 have hE := hourE_in hl (w := wayS l.len a) hh
 have hN := startE_in 2000 hl (st := ⟨false, l.len, st⟩) (w := wayS l.len a) (by omega) rfl rfl hh st l.len (by omega)
 have hl2 := hl.2
 obtain ⟨⟨h1, h2⟩, h3, h4⟩ := hr
 refine ⟨?_, ?_⟩
 ·show 0 ≤ (hourE l (wayS l.len a) h).2 + startE l (wayS l.len a) st l.len + r.energy ∧ (hourE l (wayS l.len a) h).2 + startE l (wayS l.len a) st l.len + r.energy ≤ 100000000000 * ((j + 1 : Nat) : Int)
  omega
 ·show 0 ≤ startN (wayS l.len a) st l.len + r.starts ∧ startN (wayS l.len a) st l.len + r.starts ≤ 1000 * ((j + 1 : Nat) : Int)
  omega
theorem step_in {l : Sl Mach} (hl : PlantOk l) {h : Hour} (hh : HourOk h) {j : Nat} {st : Nat → Sta} {rest : (Nat → Sta) → Bst} (hr : ∀ st, BIn j (rest st)) {o : Bst} (ho : BIn (j + 1) o) (a : Int) : BIn (j + 1) (stepB l h st rest o a) := by
 unfold stepB
 split
 ·exact ho
 ·split
  ·exact ho
  ·exact take_in ho (add_in hl hh (hr _) st a)
theorem ways_in {l : Sl Mach} (hl : PlantOk l) {h : Hour} (hh : HourOk h) {j : Nat} {st : Nat → Sta} {rest : (Nat → Sta) → Bst} (hr : ∀ st, BIn j (rest st)) : ∀ (k : Nat) (a : Int) (o : Bst), BIn (j + 1) o → BIn (j + 1) (waysB l h st rest k a o)
 | 0, _, _, ho => ho
 | k + 1, a, o, ho => ways_in hl hh hr k (a + 1) _ (step_in hl hh hr ho a)
theorem bst_in {l : Sl Mach} (hl : PlantOk l) {hs : Sl Hour} (hh : HoursOk hs) : ∀ (j t : Nat) (st : Nat → Sta), t + j ≤ hs.len → BIn j (bst l hs.el j t st)
 | 0, _, _, _ => ⟨by show (0 : Int) ≤ 0 ∧ (0 : Int) ≤ _; omega, by show (0 : Int) ≤ 0 ∧ (0 : Int) ≤ _; omega⟩
 | j + 1, t, st, h => by
  simp only [bst]
  exact ways_in hl (hh t (by omega)) (fun st => bst_in hl hh j (t + 1) st (by omega)) _ _ _ ⟨by show (0 : Int) ≤ 0 ∧ (0 : Int) ≤ _; omega, by show (0 : Int) ≤ 0 ∧ (0 : Int) ≤ _; omega⟩
end Go.Sim.Pl


namespace Go.Sim.Pl
open Go.Sim.Le (cfg E E_pf E_hv names look)
open Go.Proofs
theorem samM5 : sameV 8 (.mapr 5) (.mapr 5) = true := by simp [sameV]
theorem samF : sameV 8 (.fn (.func 40) [] [(.optr 0 0 0), (.optr 1 0 0), (.optr 2 0 0), (.optr 3 0 0), (.optr 4 0 0)]) (.fn (.func 40) [] [(.optr 0 0 0), (.optr 1 0 0), (.optr 2 0 0), (.optr 3 0 0), (.optr 4 0 0)]) = true := by simp [sameV]
theorem ksS : ksEq ksB ksB = true := by simp [ksEq, ksB]
variable (F : Nat)
section
variable {l : Sl Mach} (hl : PlantOk l) {hs : Sl Hour} (hh : HoursOk hs) (h24 : hs.len ≤ 24) (hF : 1000 < F)
include hl hh h24 hF
def SearchOk (F D j C : Nat) (l : Sl Mach) (hs : Sl Hour) : Prop :=
 ∀ (t : Nat) (st : Sl Sta) (es : List (V × V)), t + j = hs.len → st.len = l.len → StIn l t st.el → EntOk l hs es → es.length + C < 1000000000000 →
  ∃ es', EntOk l hs es' ∧ es'.length ≤ es.length + C ∧ (E F D).hv 40 [.int .i64 t, sl eSta 5 st, .optr 0 0 0, .optr 1 0 0, .optr 2 0 0, .optr 3 0 0, .optr 4 0 0] (HB l hs (3 ^ l.len : Nat) es) = some (.ret (encB l (bst l hs.el j t st.el)), HB l hs (3 ^ l.len : Nat) es')
theorem l70x0 (e j C t : Nat) (htj : t + (j + 1) = hs.len) (S : SearchOk F (e + 10) j C l hs) (st : Sl Sta) (hst : st.len = l.len) (hin : StIn l t st.el) (es0 : List (V × V)) :
  ∀ (k fu a : Nat) (o : Bst) (es : List (V × V)), a + k = 3 ^ l.len → k < fu → BIn (j + 1) o → EntOk l hs es → es.length + k * C + 1 < 1000000000000 → waysB l (hs.el t) st.el (bst l hs.el j (t + 1)) k a o = bst l hs.el (j + 1) t st.el →
  ∃ es', EntOk l hs es' ∧ es'.length ≤ es.length + k * C + 1 ∧ LB (E F (e + 10)) F t (3 ^ l.len : Nat) st l hs es0 fu a ((hs.len : Int) - t) o es = some (.ret (encB l (bst l hs.el (j + 1) t st.el)), HB l hs (3 ^ l.len : Nat) es') := by
 have hl2 := hl.2
 have hho := hh t (by omega)
 have hpow : 3 ^ l.len ≤ 729 := Nat.le_trans (Nat.pow_le_pow_right (by omega) hl2.2) (by decide)
 intro k
 induction k with
 | zero =>
  intro fu a o es hak hf hB hE hlen hw
  obtain ⟨fu, rfl⟩ : ∃ k, fu = k + 1 := ⟨fu - 1, by omega⟩
  simp only [waysB] at hw
  have hbb := ent_put (by omega) hE (t := t) (by omega) (st := st.el)
  rw [show hs.len - t = j + 1 by omega, ← hw] at hbb
  refine ⟨mput es (keyS l st.el t ((hs.len : Int) - t)) (encB l o), hbb, ?_, ?_⟩
  ·have := mput_len es (keyS l st.el t ((hs.len : Int) - t)) (encB l o)
   omega
  ·have hk0 := fun i => i64xin (x := ks l st.el i) (by have := ks_in hl hin (by omega) i; omega)
   have hk1 := fun i => i64xin (kl_in hin (by omega) (left := (hs.len : Int) - t) (by omega) i)
   have hk2 := fun i => i64xin (x := kv l st.el i) (by have := kv_in hin (by omega) i; omega)
   have hk3 := i64xin (x := (t : Int)) (by omega)
   unfold LB
   rw [L70x0s, decide_eq_false (by omega), pF]
   simp only [hk0, hk1, hk2, hk3, decide_true, Bool.and_self, pT]
   rw [decide_eq_true (by omega), pT, ← hw, keyS_flat]
   rfl
 | succ k ih =>
  intro fu a o es hak hf hB hE hlen hw
  obtain ⟨fu, rfl⟩ : ∃ k, fu = k + 1 := ⟨fu - 1, by omega⟩
  have hS' : IntKind.i64.wrap ((a : Int) + 1) = ((a + 1 : Nat) : Int) := wrS (by omega)
  have hT' : IntKind.i64.wrap ((t : Int) + 1) = ((t + 1 : Nat) : Int) := wrS (by omega)
  have hkC : (k + 1) * C = k * C + C := Nat.succ_mul k C
  simp only [waysB] at hw
  rw [show ((a : Int) + 1) = ((a + 1 : Nat) : Int) by omega] at hw
  have q72 : (E F (e + 10)).pf 42 [.int .i64 a, .int .i64 l.len] = some (.ret (.row false l.len 1 (fun k => eInt (digF a l.len k)))) := s72 F (e + 9) a l.len (by omega) (by omega) hF
  have q73 : (E F (e + 10)).pf 43 [.rptr 1 6 (fun _ => [.row l.nl l.len 10 (fun u => eMach (l.el u)), sl eSta 5 st, .row false l.len 1 (fun k => eInt (digF a l.len k)), .int .i64 (hs.el t).flow, .int .i64 (hs.el t).ratio.lo, .int .i64 (hs.el t).ratio.hi]) 0 0] = some (.ret (.tup [.int .i64 (faultS l st.el (wayS l.len a) (hs.el t)).1, .int .i64 (faultS l st.el (wayS l.len a) (hs.el t)).2])) := s73 F (e + 5) (w := wayS l.len a) hl hF hst rfl hho
  have q74 : (E F (e + 10)).pf 44 [.rptr 1 6 (fun _ => [.row l.nl l.len 10 (fun u => eMach (l.el u)), sl eSta 5 st, .row false l.len 1 (fun k => eInt (digF a l.len k)), .int .i64 (hs.el t).flow, .int .i64 (hs.el t).ratio.lo, .int .i64 (hs.el t).ratio.hi]) 0 0] = some (.ret (.row false l.len 5 (fun j => eSta ((rowS (nextS l st.el (wayS l.len a)) l.len).el j)))) := s74 F (e + 8) (w := wayS l.len a) (h := hs.el t) (by omega) hF hst rfl (fun i hi => by
   have := hin i hi
   exact ⟨by omega, by omega, by omega⟩) (by omega)
  have q75 : (E F (e + 10)).pf 45 [.rptr 1 6 (fun _ => [.row l.nl l.len 10 (fun u => eMach (l.el u)), sl eSta 5 st, .row false l.len 1 (fun k => eInt (digF a l.len k)), .int .i64 (hs.el t).flow, .int .i64 (hs.el t).ratio.lo, .int .i64 (hs.el t).ratio.hi]) 0 0] = some (.ret (.tup [.agg [.int .i64 ((hourE l (wayS l.len a) (hs.el t)).1 + startE l (wayS l.len a) st.el l.len), .int .i64 ((hourE l (wayS l.len a) (hs.el t)).2 + startE l (wayS l.len a) st.el l.len)], .int .i64 (startN (wayS l.len a) st.el l.len)])) := s75 F e (w := wayS l.len a) hl hF hst rfl hho
  have hel : ∀ i, i < l.len → (rowS (nextS l st.el (wayS l.len a)) l.len).el i = nextS l st.el (wayS l.len a) i := fun i hi => rowT_el hi
  have hinN := stIn_next hl hin (wayS l.len a)
  obtain ⟨es1, hE1, hl1, q70⟩ := S (t + 1) (rowS (nextS l st.el (wayS l.len a)) l.len) es (by omega) rfl (fun i hi => by rw [hel i hi]; exact hinN i hi) hE (by omega)
  have hbe : bst l hs.el j (t + 1) (rowS (nextS l st.el (wayS l.len a)) l.len).el = bst l hs.el j (t + 1) (nextS l st.el (wayS l.len a)) := bst_eq hs.el j (t + 1) _ _ fun i hi => by rw [hel i hi]; exact ⟨rfl, rfl, rfl, rfl, rfl⟩
  rw [hbe] at q70
  have hBr := bst_in hl hh j (t + 1) (nextS l st.el (wayS l.len a)) (by omega)
  have hBx := add_in hl hho hBr st.el a
  have hBn := step_in hl hho (fun st => bst_in hl hh j (t + 1) st (by omega)) (st := st.el) hB a
  have e0 := ih fu (a + 1) o es (by omega) (by omega) hB hE (by omega)
  have e1 := ih fu (a + 1) o es1 (by omega) (by omega) hB hE1 (by omega)
  have e2 := ih fu (a + 1) (stepB l (hs.el t) st.el (bst l hs.el j (t + 1)) o a) es1 (by omega) (by omega) hBn hE1 (by omega) hw
  unfold stepB at hw e2 hBn
  generalize hrr : bst l hs.el j (t + 1) (nextS l st.el (wayS l.len a)) = rr at *
  unfold encB at q70
  unfold LB
  rw [L70x0s, decide_eq_true (by omega), pT]
  simp (disch := omega) only [q72, tkOut_ret, tkRow_r, beq_self_eq_true, pT, decide_eq_true, Int.toNat_natCast, List.take, List.length, show ((0 + 1 + 1 + 1 : Nat) == 3) = true from rfl, tkCons_c, tkInt_i, tkNil_n, q73, tkTup_t, decide_true]
  by_cases hfa : (faultS l st.el (wayS l.len a) (hs.el t)).1 = 1
  ·rw [show ((faultS l st.el (wayS l.len a) (hs.el t)).1 != 1) = false by simp [hfa], pF]
   rw [if_neg (fun h => h hfa)] at hw e2 hBn
   have q70' : (E F (e + 10)).hv 40 [.int .i64 ((t + 1 : Nat) : Int), .row false l.len 5 (fun j => eSta ((rowS (nextS l st.el (wayS l.len a)) l.len).el j)), .optr 0 0 0, .optr 1 0 0, .optr 2 0 0, .optr 3 0 0, .optr 4 0 0] (HB l hs (3 ^ l.len : Nat) es) = _ := q70
   simp only [q74, tkOut_ret, tkRow_r, hT']
   simp only [q70', tkHv_h, tkAgg_a, tkCons_c, tkInt_i, tkRow_r, tkBool_b, tkNil_n, tkSCons_c, tkBox_b, Nat.beq_refl, beq_self_eq_true, Bool.and_self, pT, samM5, samF, tkMp_m, ksS, tkSNil_n]
   cases hrt : rr.right with
   | false =>
    rw [if_pos hrt] at hw
    obtain ⟨es', h1, h2, h3⟩ := e1 hw
    refine ⟨es', h1, by omega, ?_⟩
    rw [Bool.not_false, pT, hS']
    exact h3
   | true =>
    rw [if_neg (by rw [hrt]; simp)] at e2
    obtain ⟨es', h1, h2, h3⟩ := e2
    refine ⟨es', h1, by omega, ?_⟩
    rw [Bool.not_true, pF]
    obtain ⟨⟨hx1, hx2⟩, hx3, hx4⟩ := hBx
    simp only [addB] at hx1 hx2 hx3 hx4
    simp (disch := omega) only [q75, tkOut_ret, tkTup_t, tkCons_c, tkAgg_a, tkInt_i, tkNil_n, decide_true, pT, wr, hS']
    unfold takeB addB at h3
    cases hor : o.right with
    | false =>
     rw [if_pos (.inl hor)] at h3
     rw [Bool.not_false, pT]
     exact h3
    | true =>
     rw [Bool.not_true, pF]
     simp only [hor, Bool.true_eq_false, false_or] at h3
     by_cases h5 : (hourE l (wayS l.len a) (hs.el t)).2 + startE l (wayS l.len a) st.el l.len + rr.energy < o.energy
     ·rw [if_pos (.inl h5)] at h3
      rw [decide_eq_true h5, pT]
      exact h3
     ·rw [decide_eq_false h5, pF]
      by_cases h6 : (hourE l (wayS l.len a) (hs.el t)).2 + startE l (wayS l.len a) st.el l.len + rr.energy = o.energy
      ·rw [show ((hourE l (wayS l.len a) (hs.el t)).2 + startE l (wayS l.len a) st.el l.len + rr.energy == o.energy) = true by simp [h6], pT]
       by_cases h7 : startN (wayS l.len a) st.el l.len + rr.starts < o.starts
       ·rw [if_pos (.inr ⟨h6, h7⟩)] at h3
        rw [decide_eq_true h7, pT]
        exact h3
       ·rw [if_neg (fun h => h.elim h5 fun h => h7 h.2)] at h3
        rw [decide_eq_false h7, pF, ← hor]
        exact h3
      ·rw [if_neg (fun h => h.elim h5 fun h => h6 h.1)] at h3
       rw [show ((hourE l (wayS l.len a) (hs.el t)).2 + startE l (wayS l.len a) st.el l.len + rr.energy == o.energy) = false by simp [h6], pF, ← hor]
       exact h3
  ·rw [if_pos hfa] at hw
   obtain ⟨es', h1, h2, h3⟩ := e0 hw
   refine ⟨es', h1, by omega, ?_⟩
   rw [show ((faultS l st.el (wayS l.len a) (hs.el t)).1 != 1) = true by simp [hfa], pT, hS']
   exact h3
end
end Go.Sim.Pl


namespace Go.Sim.Pl
open Go.Sim.Le (cfg E E_pf E_hv names look)
open Go.Proofs
def cntS (W : Nat) : Nat → Nat
 | 0 => 0
 | j + 1 => W * cntS W j + 1
variable (F : Nat)
section
variable {l : Sl Mach} (hl : PlantOk l) {hs : Sl Hour} (hh : HoursOk hs) (h24 : hs.len ≤ 24) (hF : 1000 < F)
include hl hh h24 hF
theorem s70 : ∀ (j D : Nat), 11 + j ≤ D → SearchOk F D j (cntS (3 ^ l.len) j) l hs := by
 have hl2 := hl.2
 have hpow : 3 ^ l.len ≤ 729 := Nat.le_trans (Nat.pow_le_pow_right (by omega) hl2.2) (by decide)
 intro j
 induction j with
 | zero =>
  intro D hD t st es ht hst hin hE hlen
  obtain ⟨D, rfl⟩ : ∃ k, D = k + 1 := ⟨D - 1, by omega⟩
  refine ⟨es, hE, by simp [cntS], ?_⟩
  rw [E_hv, t70, show ((t : Int) == (hs.len : Int)) = true by simp; omega, pT]
  rfl
 | succ j ih =>
  intro D hD t st es ht hst hin hE hlen
  obtain ⟨e, rfl⟩ : ∃ e, D = e + 11 := ⟨D - 11, by omega⟩
  have S := ih (e + 10) (by omega)
  have q71 := s71 F (e + 9) (l := l) hl2 hst t hs.len (by omega) (by omega)
  have hk0 := fun i => i64xin (x := ks l st.el i) (by have := ks_in hl hin (by omega) i; omega)
  have hk1 := fun i => i64xin (kl_in hin (by omega) (left := (hs.len : Int) - t) (by omega) i)
  have hk2 := fun i => i64xin (x := kv l st.el i) (by have := kv_in hin (by omega) i; omega)
  have hk3 := i64xin (x := (t : Int)) (by omega)
  have hkf := keyS_flat l st.el t ((hs.len : Int) - t)
  rw [hkf] at q71
  have hgo := l70x0 F hl hh h24 hF e j (cntS (3 ^ l.len) j) t (by omega) S st hst hin es (3 ^ l.len) F 0 bNo es (by omega) (by omega) ⟨by show (0 : Int) ≤ 0 ∧ (0 : Int) ≤ _; omega, by show (0 : Int) ≤ 0 ∧ (0 : Int) ≤ _; omega⟩ hE (by simp only [cntS] at hlen; omega) rfl
  rw [E_hv, t70, show ((t : Int) == (hs.len : Int)) = false by rw [beq_eq_false_iff_ne]; omega, pF]
  simp only [q71, tkOut_ret, tkAgg_a, tkCons_c, tkInt_i, tkBool_b, tkNil_n, hk0, hk1, hk2, hk3, decide_true, Bool.and_self, pT]
  rw [← hkf]
  cases hm : mget es (keyS l st.el t ((hs.len : Int) - t)) with
  | some v =>
   have hv := ent_get (by omega) hE (by omega) hm
   rw [show hs.len - t = j + 1 by omega] at hv
   subst hv
   refine ⟨es, hE, by omega, ?_⟩
   rfl
  | none =>
   obtain ⟨es', h1, h2, h3⟩ := hgo
   refine ⟨es', h1, by simp only [cntS]; omega, ?_⟩
   rw [Int.natCast_zero] at h3
   unfold LB at h3
   simp only [bNo, wNl, wLn, wWd, wG] at h3
   simp only [tkOpt]
   exact h3
end
end Go.Sim.Pl


namespace Go.Sim.Pl
open Go.Sim.Le (cfg E E_pf E_hv names look)
open Go.Proofs
theorem cntS_le {W : Nat} (hW : 1 ≤ W) : ∀ (i j : Nat), cntS W j ≤ cntS W (j + i)
 | 0, _ => Nat.le_refl _
 | i + 1, j => by
  have h1 := cntS_le hW i j
  have h2 : cntS W (j + (i + 1)) = W * cntS W (j + i) + 1 := rfl
  have h3 : 1 * cntS W (j + i) ≤ W * cntS W (j + i) := Nat.mul_le_mul_right _ hW
  omega
def Made (l : Sl Mach) (h : Hour) (st : Nat → Sta) (rest : (Nat → Sta) → Bst) (o : Bst) : Prop := o.right = true → ∃ a : Nat, a < 3 ^ l.len ∧ (faultS l st (wayS l.len a) h).1 = 1 ∧ (rest (nextS l st (wayS l.len a))).right = true ∧ o = addB l h st (rest (nextS l st (wayS l.len a))) a
theorem step_made {l : Sl Mach} {h : Hour} {st : Nat → Sta} {rest : (Nat → Sta) → Bst} {o : Bst} (ho : Made l h st rest o) {a : Nat} (ha : a < 3 ^ l.len) : Made l h st rest (stepB l h st rest o a) := by
 unfold stepB
 split
 ·exact ho
 ·rename_i h1
  split
  ·exact ho
  ·rename_i h2
   unfold takeB
   split
   ·intro _
    exact ⟨a, ha, by omega, by simpa using h2, rfl⟩
   ·exact ho
theorem ways_made {l : Sl Mach} {h : Hour} {st : Nat → Sta} {rest : (Nat → Sta) → Bst} : ∀ (k a : Nat) (o : Bst), a + k ≤ 3 ^ l.len → Made l h st rest o → Made l h st rest (waysB l h st rest k a o)
 | 0, _, _, _, ho => ho
 | k + 1, a, o, hk, ho => by
  simp only [waysB]
  rw [show ((a : Int) + 1) = ((a + 1 : Nat) : Int) by omega]
  exact ways_made k (a + 1) _ (by omega) (step_made ho (by omega))
theorem bst_made {l : Sl Mach} (hs : Nat → Hour) (j t : Nat) (st : Nat → Sta) : Made l (hs t) st (bst l hs j (t + 1)) (bst l hs (j + 1) t st) := by
 simp only [bst]
 have := ways_made (l := l) (h := hs t) (st := st) (rest := bst l hs j (t + 1)) (3 ^ l.len) 0 bNo (by omega) (fun h => by cases h)
 rw [Int.natCast_zero] at this
 exact this
def planW (l : Sl Mach) (hs : Nat → Hour) : Nat → Nat → (Nat → Sta) → List Int
 | 0, _, _ => []
 | j + 1, t, st => (bst l hs (j + 1) t st).way.getD 0 :: planW l hs j (t + 1) (nextS l st (wayS l.len ((bst l hs (j + 1) t st).way.getD 0)))
abbrev eW (l : Sl Mach) (a : Int) : List V := [sl eInt 1 (wayS l.len a)]
variable (F d : Nat)
section
variable {l : Sl Mach} (hl : PlantOk l) {hs : Sl Hour} (hh : HoursOk hs) (h24 : hs.len ≤ 24) (hF : 1000 < F) (hC : 30 * cntS (3 ^ l.len) hs.len < 1000000000000)
include hl hh h24 hF hC
theorem again {t j : Nat} (htj : t + (j + 1) = hs.len) {st : Nat → Sta} (hin : StIn l t st) {es : List (V × V)} (hE : EntOk l hs es) (hlen : es.length + cntS (3 ^ l.len) hs.len < 1000000000000) (hr : (bst l hs.el (j + 1) t st).right = true) :
  ∃ (es' : List (V × V)) (a : Nat), EntOk l hs es' ∧ es'.length ≤ es.length + cntS (3 ^ l.len) hs.len ∧ a < 3 ^ l.len ∧ (bst l hs.el (j + 1) t st).way = some (a : Int) ∧ (bst l hs.el j (t + 1) (nextS l st (wayS l.len a))).right = true ∧
  (E F (d + 40)).hv 40 [.int .i64 t, .row false l.len 5 (fun j => eSta ((rowS st l.len).el j)), .optr 0 0 0, .optr 1 0 0, .optr 2 0 0, .optr 3 0 0, .optr 4 0 0] (HB l hs (3 ^ l.len : Nat) es) = some (.ret (.agg [.int .i64 (bst l hs.el (j + 1) t st).energy, .int .i64 (bst l hs.el (j + 1) t st).starts, .row false l.len 1 (fun k => eInt (digF a l.len k)), .bool true]), HB l hs (3 ^ l.len : Nat) es') ∧
  (E F (d + 40)).pf 47 [.row false l.len 1 (fun k => eInt (digF a l.len k))] = some (.ret (.row false l.len 1 (fun k => eInt (digF a l.len k)))) ∧
  (E F (d + 40)).pf 44 [.rptr 1 6 (fun _ => [.row l.nl l.len 10 (fun u => eMach (l.el u)), .row false l.len 5 (fun j => eSta ((rowS st l.len).el j)), .row false l.len 1 (fun k => eInt (digF a l.len k)), .int .i64 (hs.el t).flow, .int .i64 (hs.el t).ratio.lo, .int .i64 (hs.el t).ratio.hi]) 0 0] = some (.ret (.row false l.len 5 (fun j => eSta ((rowS (nextS l st (wayS l.len a)) l.len).el j)))) := by
 have hl2 := hl.2
 have hmono := cntS_le (W := 3 ^ l.len) (Nat.one_le_pow _ _ (by omega)) t (j + 1)
 rw [show j + 1 + t = hs.len by omega] at hmono
 have hel : ∀ i, i < l.len → (rowS st l.len).el i = st i := fun i hi => rowT_el hi
 have hbe : bst l hs.el (j + 1) t (rowS st l.len).el = bst l hs.el (j + 1) t st := bst_eq hs.el (j + 1) t _ _ fun i hi => by rw [hel i hi]; exact ⟨rfl, rfl, rfl, rfl, rfl⟩
 obtain ⟨es', h1, h2, h3⟩ := s70 F hl hh h24 hF (j + 1) (d + 40) (by omega) t (rowS st l.len) es (by omega) rfl (fun i hi => by rw [hel i hi]; exact hin i hi) hE (by omega)
 rw [hbe] at h3
 obtain ⟨a, ha, hf, hr2, ho⟩ := bst_made hs.el j t st hr
 have hway : (bst l hs.el (j + 1) t st).way = some (a : Int) := by rw [ho]; rfl
 refine ⟨es', a, h1, by omega, ha, hway, hr2, ?_, ?_, ?_⟩
 ·unfold encB at h3
  rw [hway, hr] at h3
  exact h3
 ·exact s77 F (d + 39) (wayS l.len a) rfl (show 0 < l.len by omega) (show l.len ≤ 1000 by omega)
 ·have q := s74 F (d + 38) (l := l) (st := rowS st l.len) (w := wayS l.len a) (h := hs.el t) (by omega) hF rfl rfl (fun i hi => by
   have := hin i hi
   rw [hel i hi]
   exact ⟨by omega, by omega, by omega⟩) (by omega)
  have hcg : rowS (fun i => afterS ((rowS st l.len).el i) (l.el i) ((wayS l.len (a : Int)).el i)) l.len = rowS (nextS l st (wayS l.len a)) l.len := rowT_congr fun i hi => by
   show afterS _ _ _ = afterS _ _ _
   rw [hel i hi]
  rw [hcg] at q
  exact q
theorem l41x2 (en stn : Int) (b1 : Bool) (k1 k2 : Nat) (g1 : Nat → List V) (b2 : Bool) : ∀ (j t fu : Nat) (st : Nat → Sta) (A : List Int) (es : List (V × V)), t + j = hs.len → j < fu → A.length = t → StIn l t st → EntOk l hs es → es.length + j * cntS (3 ^ l.len) hs.len < 1000000000000 → (bst l hs.el j t st).right = true →
  L41x2 (E F (d + 40)) F l hs fu false l.len 5 (fun j => eSta ((rowS st l.len).el j)) t hs.len t l.nl l.len 10 (fun u => eMach (l.el u)) hs.nl hs.len 3 (fun u => eHour (hs.el u)) .i64 en .i64 stn b1 k1 k2 g1 b2 t (gl (eW l) 0 A) .i64 (3 ^ l.len : Nat) es = some (.ret (.tup [.row false hs.len 1 (gl (eW l) 0 (A ++ planW l hs.el j t st)), .int .i64 en, .int .i64 0])) := by
 have hl2 := hl.2
 intro j
 induction j with
 | zero =>
  intro t fu st A es ht hf hA hin hE hlen hr
  obtain ⟨fu, rfl⟩ : ∃ k, fu = k + 1 := ⟨fu - 1, by omega⟩
  have : t = hs.len := by omega
  subst this
  rw [L41x2s, decide_eq_false (by omega), pF]
  simp only [planW, List.append_nil]
 | succ j ih =>
  intro t fu st A es ht hf hA hin hE hlen hr
  obtain ⟨fu, rfl⟩ : ∃ k, fu = k + 1 := ⟨fu - 1, by omega⟩
  have hmul : (j + 1) * cntS (3 ^ l.len) hs.len = j * cntS (3 ^ l.len) hs.len + cntS (3 ^ l.len) hs.len := Nat.succ_mul _ _
  obtain ⟨es', a, h1, h2, h3, h4, h5, q70, q77, q74⟩ := again F d hl hh h24 hF hC ht hin hE (by omega) hr
  have hS' : IntKind.i64.wrap ((t : Int) + 1) = ((t + 1 : Nat) : Int) := wrS (by omega)
  have e := ih (t + 1) fu (nextS l st (wayS l.len a)) (A ++ [(a : Int)]) es' (by omega) (by omega) (by simp; omega) (stIn_next hl hin _) h1 (by omega) h5
  rw [List.append_assoc, List.singleton_append, ← gl_snoc (e := eW l) (z := 0) (k := t) hA rfl] at e
  have hp : planW l hs.el (j + 1) t st = (a : Int) :: planW l hs.el j (t + 1) (nextS l st (wayS l.len a)) := by
   simp only [planW, h4, Option.getD]
  rw [hp, L41x2s, decide_eq_true (by omega), pT]
  simp only [q70, tkHv_h, tkAgg_a, tkCons_c, tkInt_i, tkRow_r, tkBool_b, tkNil_n, tkSCons_c, tkBox_b, Nat.beq_refl, beq_self_eq_true, Bool.and_self, pT, samM5, samF, tkMp_m, ksS, tkSNil_n]
  simp (disch := omega) only [q77, tkOut_ret, tkRow_r, decide_eq_true, pT, Int.toNat_natCast, List.take, List.length, show ((0 + 1 + 1 + 1 : Nat) == 3) = true from rfl, tkCons_c, tkInt_i, tkNil_n, q74, hS']
  exact e
end
end Go.Sim.Pl


namespace Go.Sim.Pl
open Go.Sim.Le (cfg E E_pf E_hv names look)
open Go.Proofs
def beginF (l : Sl Mach) : Nat → Sta := fun i => beginS (l.el i)
def bestS (l : Sl Mach) (hs : Sl Hour) : Bst := bst l hs.el hs.len 0 (beginF l)
def planS (l : Sl Mach) (hs : Sl Hour) : List Int := planW l hs.el hs.len 0 (beginF l)
def outR (l : Sl Mach) (hs : Sl Hour) : V := if hs.len = 0 then .row true 0 0 (fun _ => []) else .row false hs.len 1 (gl (eW l) 0 (planS l hs))
theorem begin_in {l : Sl Mach} (hl : PlantOk l) : StIn l 0 (beginF l) := by
 intro i hi
 have := (hl.1 i hi).2.2.2.2.2.2.2
 simp only [beginF, beginS]
 omega
variable (F d : Nat)
section
variable {l : Sl Mach} (hl : PlantOk l) {hs : Sl Hour} (hh : HoursOk hs) (h24 : hs.len ≤ 24) (hF : 1000 < F) (hC : 30 * cntS (3 ^ l.len) hs.len < 1000000000000)
include hl hh h24 hF hC
theorem l41x1 (es : List (V × V)) (hE : EntOk l hs es) (hlen : es.length ≤ cntS (3 ^ l.len) hs.len) (en stn : Int) (b1 : Bool) (k1 k2 : Nat) (g1 : Nat → List V) (b2 : Bool) (hr : (bestS l hs).right = true) :
  L41x1 (E F (d + 40)) F l hs F false l.len 5 (fun j => eSta ((rowS (beginF l) l.len).el j)) hs.len l.nl l.len 10 (fun u => eMach (l.el u)) hs.nl hs.len 3 (fun u => eHour (hs.el u)) .i64 en .i64 stn b1 k1 k2 g1 b2 .i64 (3 ^ l.len : Nat) es = some (.ret (.tup [outR l hs, .int .i64 en, .int .i64 0])) := by
 have hl2 := hl.2
 unfold outR
 by_cases h0 : hs.len = 0
 ·rw [if_pos h0]
  obtain ⟨F, rfl⟩ : ∃ k, F = k + 1 := ⟨F - 1, by omega⟩
  rw [L41x1s, decide_eq_false (by omega), pF]
 ·rw [if_neg h0]
  obtain ⟨j, hj⟩ : ∃ j, hs.len = j + 1 := ⟨hs.len - 1, by omega⟩
  unfold bestS at hr
  unfold planS
  have hmul : (j + 1) * cntS (3 ^ l.len) hs.len ≤ 24 * cntS (3 ^ l.len) hs.len := Nat.mul_le_mul_right _ (by omega)
  have hmul2 : (j + 1) * cntS (3 ^ l.len) hs.len = j * cntS (3 ^ l.len) hs.len + cntS (3 ^ l.len) hs.len := Nat.succ_mul _ _
  obtain ⟨es', a, h1, h2, h3, h4, h5, q70, q77, q74⟩ := again F d hl hh h24 hF hC (t := 0) (j := j) (by omega) (begin_in hl) hE (by omega) (by rw [← hj]; exact hr)
  have hp : planW l hs.el hs.len 0 (beginF l) = (a : Int) :: planW l hs.el j 1 (nextS l (beginF l) (wayS l.len a)) := by
   rw [hj]
   simp only [planW, h4, Option.getD]
  have e := fun fu hfu => l41x2 F d hl hh h24 hF hC en stn b1 k1 k2 g1 b2 j 1 fu (nextS l (beginF l) (wayS l.len a)) [(a : Int)] es' (by omega) hfu rfl (stIn_next hl (begin_in hl) _) h1 (by omega) h5
  rw [← gl_one (e := eW l) (z := 0) rfl, List.singleton_append, ← hp] at e
  rw [Int.natCast_zero] at q70
  obtain ⟨F, rfl⟩ : ∃ k, F = k + 1 := ⟨F - 1, by omega⟩
  rw [L41x1s, decide_eq_true (by omega), pT]
  simp only [q70, tkHv_h, tkAgg_a, tkCons_c, tkInt_i, tkRow_r, tkBool_b, tkNil_n, tkSCons_c, tkBox_b, Nat.beq_refl, beq_self_eq_true, Bool.and_self, pT, samM5, samF, tkMp_m, ksS, tkSNil_n]
  have h01 : IntKind.i64.wrap ((0 : Int) + 1) = ((1 : Nat) : Int) := by rw [wr (by omega)]; rfl
  simp (disch := omega) only [q77, tkOut_ret, tkRow_r, decide_eq_true, pT, Int.toNat_natCast, List.take, List.length, show ((0 + 1 + 1 + 1 : Nat) == 3) = true from rfl, tkCons_c, tkInt_i, tkNil_n, q74, h01]
  exact e F (by omega)
theorem l41x0 : ∀ (j i fu : Nat), i + j = l.len → j < fu → L41x0 (E F (d + 40)) F l hs fu i ((3 ^ i : Nat) : Int) = some (.ret (.tup (if (bestS l hs).right = true then [outR l hs, .int .i64 (bestS l hs).energy, .int .i64 0] else [.row true 0 0 (fun _ => []), .int .i64 0, .int .i64 5]))) := by
 have hl2 := hl.2
 have hpow : ∀ i, i ≤ l.len → 3 ^ i ≤ 729 := fun i hi => Nat.le_trans (Nat.pow_le_pow_right (by omega) (Nat.le_trans hi hl2.2)) (by decide)
 intro j
 induction j with
 | zero =>
  intro i fu h hf
  obtain ⟨fu, rfl⟩ : ∃ k, fu = k + 1 := ⟨fu - 1, by omega⟩
  have hi : i = l.len := by omega
  subst hi
  have q76 : (E F (d + 40)).pf 46 [sl eMach 10 l] = some (.ret (.row false l.len 5 (fun j => eSta ((rowS (beginF l) l.len).el j)))) := s76 F (d + 38) l (by omega) hF (by omega)
  have hel : ∀ i, i < l.len → (rowS (beginF l) l.len).el i = beginF l i := fun i hi => rowT_el hi
  have hbe : bst l hs.el hs.len 0 (rowS (beginF l) l.len).el = bestS l hs := bst_eq hs.el hs.len 0 _ _ fun i hi => by rw [hel i hi]; exact ⟨rfl, rfl, rfl, rfl, rfl⟩
  obtain ⟨es', h1, h2, h3⟩ := s70 F hl hh h24 hF hs.len (d + 40) (by omega) 0 (rowS (beginF l) l.len) [] (by omega) rfl (fun i hi => by rw [hel i hi]; exact begin_in hl i hi) (fun p hp => by simp at hp) (by simp; omega)
  rw [hbe, Int.natCast_zero] at h3
  unfold encB at h3
  have q70 : (E F (d + 40)).hv 40 [.int .i64 0, .row false l.len 5 (fun j => eSta ((rowS (beginF l) l.len).el j)), .optr 0 0 0, .optr 1 0 0, .optr 2 0 0, .optr 3 0 0, .optr 4 0 0] (HB l hs (3 ^ l.len : Nat) []) = _ := h3
  have e := fun b1 k1 k2 g1 b2 en stn hr => l41x1 F d hl hh h24 hF hC es' h1 (by simpa using h2) en stn b1 k1 k2 g1 b2 hr
  rw [L41x0s, decide_eq_false (by omega), pF]
  simp only [q76, tkOut_ret, tkRow_r]
  simp only [q70, tkHv_h, tkAgg_a, tkCons_c, tkInt_i, tkRow_r, tkBool_b, tkNil_n, tkSCons_c, tkBox_b, Nat.beq_refl, beq_self_eq_true, Bool.and_self, pT, samM5, samF, tkMp_m, ksS, tkSNil_n]
  cases hr : (bestS l hs).right with
  | false => rw [Bool.not_false, pT, if_neg (by simp)]
  | true =>
   rw [Bool.not_true, pF, if_pos rfl]
   exact e _ _ _ _ _ _ _ hr
 | succ j ih =>
  intro i fu h hf
  obtain ⟨fu, rfl⟩ : ∃ k, fu = k + 1 := ⟨fu - 1, by omega⟩
  have hS' : IntKind.i64.wrap ((i : Int) + 1) = ((i + 1 : Nat) : Int) := wrS (by omega)
  have hp := hpow i (by omega)
  have hm : IntKind.i64.wrap (((3 ^ i : Nat) : Int) * 3) = ((3 ^ (i + 1) : Nat) : Int) := by
   rw [Nat.pow_succ]
   revert hp
   generalize 3 ^ i = p
   intro hp
   rw [wr (by omega)]; omega
  rw [L41x0s, decide_eq_true (by omega), pT, hS', hm]
  exact ih (i + 1) fu (by omega) (by omega)
end
theorem s41 (l : Sl Mach) (hs : Sl Hour) (hF : 1000 < F) (hB : InB l hs F) (hC : errA l hs = 0 → 30 * cntS (3 ^ l.len) hs.len < 1000000000000) : (E F (d + 41)).pf 14 [sl eMach 10 l, sl eHour 3 hs] = some (.ret (.tup (if errA l hs = 0 then (if (bestS l hs).right = true then [outR l hs, .int .i64 (bestS l hs).energy, .int .i64 0] else [.row true 0 0 (fun _ => []), .int .i64 0, .int .i64 5]) else [.row true 0 0 (fun _ => []), .int .i64 0, .int .i64 (errA l hs)]))) := by
 have q1 := s69 F (d + 32) l hs hB
 rw [E_pf, t41]
 simp only [q1, tkOut_ret, tkInt_i, decide_true, pT]
 by_cases h : errA l hs = 0
 ·have h0 : PlantOk l ∧ HoursOk hs ∧ hs.len ≤ 24 := by
   unfold errA at h
   split at h
   ·omega
   ·rename_i h1
    split at h
    ·rename_i h2; exact ⟨h2.1, h2.2, by omega⟩
    ·omega
  have hl2 := h0.1.2
  have e := l41x0 F d h0.1 h0.2.1 h0.2.2 hF (hC h) l.len 0 F (by omega) (by omega)
  rw [if_pos h, h, show ((0 : Int) != 0) = false from rfl, pF]
  rw [Nat.pow_zero, Int.natCast_zero] at e
  exact e
 ·rw [if_neg h, show (errA l hs != 0) = true by simp [h], pT]
end Go.Sim.Pl


namespace Go.Sim.Pl
open Go.Sim.Le (cfg E E_pf E_hv names look)
open Go.Proofs
def exM0 : Mach := ⟨1, ⟨false, 2, fun j => if j = 0 then ⟨2000, 100, 400, 5⟩ else ⟨3000, 150, 300, 9⟩⟩, 1000, 2, 1, 3, 10, 1, false, 5⟩
def exM1 : Mach := ⟨1, ⟨false, 1, fun _ => ⟨3000, 50, 200, 6⟩⟩, 300, 1, 1, 10, 10, 2, true, 1⟩
def exL : Sl Mach := ⟨false, 2, fun i => if i = 0 then exM0 else exM1⟩
def exH : Sl Hour := ⟨false, 3, fun i => if i = 0 then ⟨150, ⟨1500, 2500⟩⟩ else if i = 1 then ⟨350, ⟨1500, 1800⟩⟩ else ⟨150, ⟨2500, 2500⟩⟩⟩
def exW (a b : Int) : Sl Int := ⟨false, 2, fun i => if i = 0 then a else b⟩
def exS (a b c : Sl Int) : Sl (Sl Int) := ⟨false, 3, fun i => if i = 0 then a else if i = 1 then b else c⟩
def exT : Nat → Bool := fun _ => true
end Go.Sim.Pl


namespace Go.Sim.Pl
open Go.Sim.Le (cfg E E_pf E_hv names look)
open Go.Proofs
abbrev SameW (a b : Sl Int) : Prop := a.len = b.len ∧ ∀ k, k < a.len → a.el k = b.el k
abbrev SameSc (a b : Sl (Sl Int)) : Prop := a.len = b.len ∧ ∀ i, i < a.len → SameW (a.el i) (b.el i)
instance decSameW (a b : Sl Int) : Decidable (SameW a b) := @instDecidableAnd _ _ inferInstance (decAll (p := fun k => a.el k = b.el k) a.len)
instance decSameSc (a b : Sl (Sl Int)) : Decidable (SameSc a b) := @instDecidableAnd _ _ inferInstance (decAll (p := fun i => SameW (a.el i) (b.el i)) (h := fun i => decSameW (a.el i) (b.el i)) a.len)
variable (F d : Nat)
end Go.Sim.Pl


namespace Go.Sim.Pl
open Go.Sim.Le (cfg E E_pf E_hv names look)
open Go.Proofs
def exO : Sl (Sl Int) := ⟨false, 3, fun j => wayS 2 (([1, 3, 3] : List Int).getD j (([1, 3, 3] : List Int).getLastD 0))⟩
variable (F d : Nat)
end Go.Sim.Pl


namespace Go.Sim.Pl
open Go.Proofs
theorem fitInt {k : IntKind} {c : V} (h : Fit (.int k) c) : ∃ n, c = .int k n ∧ k.min ≤ n ∧ n ≤ k.max := by
 cases h with
 | int h => exact ⟨_, rfl, h⟩
theorem fitL_nil {cs : List V} (h : FitL [] cs) : cs = [] := by
 have := h.1
 exact List.eq_nil_of_length_eq_zero this
theorem fitL_cons {s : Sh} {l : List Sh} {cs : List V} (h : FitL (s :: l) cs) : ∃ c cs', cs = c :: cs' ∧ Fit s c ∧ FitL l cs' := by
 obtain ⟨h1, h2⟩ := h
 cases cs with
 | nil => simp at h1
 | cons c cs' => exact ⟨c, cs', rfl, h2 0 s c rfl rfl, by simpa using h1, fun j s' c' g1 g2 => h2 (j + 1) s' c' (by simpa using g1) (by simpa using g2)⟩
theorem fitL_int {k : IntKind} {l : List Sh} {cs : List V} (h : FitL (.int k :: l) cs) : ∃ n cs', cs = .int k n :: cs' ∧ FitL l cs' := by
 obtain ⟨c, cs', rfl, h1, h2⟩ := fitL_cons h
 obtain ⟨n, rfl, _⟩ := fitInt h1
 exact ⟨n, cs', rfl, h2⟩
abbrev SlOk {α : Type} (s : Sl α) : Prop := s.len ≤ 140737488355328 ∧ (s.nl = true → s.len = 0)
theorem fitRow {α : Type} {e : α → List V} {P : α → Prop} {l : List Sh} (dec : ∀ cs, FitL l cs → ∃ a : α, cs = e a ∧ P a) {c : V} (h : Fit (.row l) c) : ∃ s : Sl α, c = sl e l.length s ∧ SlOk s ∧ ∀ i, P (s.el i) := by
 cases h with
 | row h hn hl hf =>
  rename_i nl len get
  have hx : ∀ i, ∃ a : α, get i = e a ∧ P a := fun i => dec _ ⟨hl i, hf i⟩
  refine ⟨⟨nl, len, fun i => (hx i).choose⟩, ?_, ⟨h, hn⟩, fun i => (hx i).choose_spec.2⟩
  show V.row nl len l.length get = V.row nl len l.length fun i => e (hx i).choose
  congr 1
  funext i
  exact (hx i).choose_spec.1
theorem fitL_row {α : Type} {e : α → List V} {P : α → Prop} {l r : List Sh} (dec : ∀ cs, FitL l cs → ∃ a : α, cs = e a ∧ P a) {cs : List V} (h : FitL (.row l :: r) cs) : ∃ (s : Sl α) (cs' : List V), cs = sl e l.length s :: cs' ∧ SlOk s ∧ (∀ i, P (s.el i)) ∧ FitL r cs' := by
 obtain ⟨c, cs', rfl, h1, h2⟩ := fitL_cons h
 obtain ⟨s, rfl, h3, h4⟩ := fitRow dec h1
 exact ⟨s, cs', rfl, h3, h4, h2⟩
theorem fitL_bool {l : List Sh} {cs : List V} (h : FitL (.bool :: l) cs) : ∃ n cs', cs = .bool n :: cs' ∧ FitL l cs' := by
 obtain ⟨c, cs', rfl, h1, h2⟩ := fitL_cons h
 cases h1 with
 | bool => exact ⟨_, cs', rfl, h2⟩
abbrev i8 : Sh := .int .i64
abbrev shRow : List Sh := [i8, i8, i8, i8]
abbrev shMach : List Sh := [i8, .row shRow, i8, i8, i8, i8, i8, i8, .bool, i8]
abbrev shHour : List Sh := [i8, i8, i8]
abbrev shSpan : List Sh := [i8, i8]
abbrev I64 (n : Int) : Prop := IntKind.i64.min ≤ n ∧ n ≤ IntKind.i64.max
theorem decInt (cs : List V) (h : FitL [i8] cs) : ∃ n : Int, cs = eInt n ∧ I64 n := by
 obtain ⟨c, cs', rfl, h1, h2⟩ := fitL_cons h
 obtain ⟨n, rfl, m1, m2⟩ := fitInt h1
 obtain rfl := fitL_nil h2
 refine ⟨n, rfl, ?_⟩
 exact ⟨m1, m2⟩
theorem decRow (cs : List V) (h : FitL shRow cs) : ∃ c : Row, cs = eRow c ∧ True := by
 obtain ⟨a0, _, rfl, h1⟩ := fitL_int h
 obtain ⟨a1, _, rfl, h2⟩ := fitL_int h1
 obtain ⟨a2, _, rfl, h3⟩ := fitL_int h2
 obtain ⟨a3, _, rfl, h4⟩ := fitL_int h3
 obtain rfl := fitL_nil h4
 exact ⟨⟨a0, a1, a2, a3⟩, rfl, trivial⟩
theorem dcMach (cs : List V) (h : FitL shMach cs) : ∃ c : Mach, cs = eMach c ∧ SlOk c.rows := by
 obtain ⟨a0, _, rfl, h1⟩ := fitL_int h
 obtain ⟨rw, _, rfl, h0, _, h2⟩ := fitL_row decRow h1
 obtain ⟨a2, _, rfl, h3⟩ := fitL_int h2
 obtain ⟨a3, _, rfl, h4⟩ := fitL_int h3
 obtain ⟨a4, _, rfl, h5⟩ := fitL_int h4
 obtain ⟨a5, _, rfl, h6⟩ := fitL_int h5
 obtain ⟨a6, _, rfl, h7⟩ := fitL_int h6
 obtain ⟨a7, _, rfl, h8⟩ := fitL_int h7
 obtain ⟨a8, _, rfl, h9⟩ := fitL_bool h8
 obtain ⟨a9, _, rfl, h10⟩ := fitL_int h9
 obtain rfl := fitL_nil h10
 exact ⟨⟨a0, rw, a2, a3, a4, a5, a6, a7, a8, a9⟩, rfl, h0⟩
abbrev shGas : List Sh := [i8, i8, i8, i8, i8, i8, i8, i8, i8, i8, i8]
abbrev shGst : List Sh := [i8, i8, i8, i8, i8, i8, i8, i8]
abbrev shGpt : List Sh := [i8, i8, i8, i8]
theorem decGas (cs : List V) (h : FitL shGas cs) : ∃ c, cs = eGas c ∧ True := by
 obtain ⟨a0, _, rfl, h1⟩ := fitL_int h
 obtain ⟨a1, _, rfl, h2⟩ := fitL_int h1
 obtain ⟨a2, _, rfl, h3⟩ := fitL_int h2
 obtain ⟨a3, _, rfl, h4⟩ := fitL_int h3
 obtain ⟨a4, _, rfl, h5⟩ := fitL_int h4
 obtain ⟨a5, _, rfl, h6⟩ := fitL_int h5
 obtain ⟨a6, _, rfl, h7⟩ := fitL_int h6
 obtain ⟨a7, _, rfl, h8⟩ := fitL_int h7
 obtain ⟨a8, _, rfl, h9⟩ := fitL_int h8
 obtain ⟨a9, _, rfl, h10⟩ := fitL_int h9
 obtain ⟨a10, _, rfl, h11⟩ := fitL_int h10
 obtain rfl := fitL_nil h11
 exact ⟨⟨⟨a0, a1⟩, a2, a3, a4, a5, a6, a7, a8, ⟨a9, a10⟩⟩, rfl, trivial⟩
theorem decGst (cs : List V) (h : FitL shGst cs) : ∃ c, cs = eGst c ∧ True := by
 obtain ⟨a0, _, rfl, h1⟩ := fitL_int h
 obtain ⟨a1, _, rfl, h2⟩ := fitL_int h1
 obtain ⟨a2, _, rfl, h3⟩ := fitL_int h2
 obtain ⟨a3, _, rfl, h4⟩ := fitL_int h3
 obtain ⟨a4, _, rfl, h5⟩ := fitL_int h4
 obtain ⟨a5, _, rfl, h6⟩ := fitL_int h5
 obtain ⟨a6, _, rfl, h7⟩ := fitL_int h6
 obtain ⟨a7, _, rfl, h8⟩ := fitL_int h7
 obtain rfl := fitL_nil h8
 exact ⟨⟨⟨a0, a1⟩, ⟨a2, a3⟩, ⟨a4, a5⟩, ⟨a6, a7⟩⟩, rfl, trivial⟩
theorem decGpt (cs : List V) (h : FitL shGpt cs) : ∃ c, cs = eGpt c ∧ True := by
 obtain ⟨a0, _, rfl, h1⟩ := fitL_int h
 obtain ⟨a1, _, rfl, h2⟩ := fitL_int h1
 obtain ⟨a2, _, rfl, h3⟩ := fitL_int h2
 obtain ⟨a3, _, rfl, h4⟩ := fitL_int h3
 obtain rfl := fitL_nil h4
 exact ⟨⟨a0, a1, a2, a3⟩, rfl, trivial⟩
theorem own : ownKnob Tryz.prog.godebug = none := by kernel_rfl
end Go.Sim.Pl


namespace Go.Sim.Pl
open Go.Sim.Le (cfg E E_pf E_hv)
open Go.Proofs Go.Sim.Gs
variable (F d : Nat)
theorem and3 {a b c : Prop} [Decidable a] [Decidable b] [Decidable c] : (bif decide a then (bif decide b then some (Out.ret (.bool (decide c))) else some (.ret (.bool false))) else some (.ret (.bool false))) = some (.ret (.bool (decide (a ∧ b ∧ c)))) := by
 by_cases h1 : a
 ·by_cases h2 : b <;> simp [h1, h2]
 ·simp [h1]
theorem and2 {a b : Prop} [Decidable a] [Decidable b] : (bif decide a then some (Out.ret (.bool (decide b))) else some (.ret (.bool false))) = some (.ret (.bool (decide (a ∧ b)))) := by
 by_cases h1 : a <;> simp [h1]
theorem s9018 (x y z : Int) : (E F (d + 1)).pf 18 [.int .i64 x, .int .i64 y, .int .i64 z] = some (.ret (.bool (decide (x ≥ y ∧ x ≤ z)))) := by
 rw [E_pf, t9018, and2]
theorem s9064 (x y z : Int) : (E F (d + 1)).pf 64 [.int .i64 x, .int .i64 y, .int .i64 z] = some (.ret (.bool (decide (x ≥ y ∧ x ≤ z)))) := by
 rw [E_pf, t9064, and2]
theorem s9019 (a b x y : Int) : (E F (d + 1)).pf 19 [.agg [.int .i64 a, .int .i64 b], .int .i64 x, .int .i64 y] = some (.ret (.bool (decide (a ≥ x ∧ a ≤ b ∧ b ≤ y)))) := by
 rw [E_pf, t9019, and3]
theorem s9065 (a b x y : Int) : (E F (d + 1)).pf 65 [.agg [.int .i64 a, .int .i64 b], .int .i64 x, .int .i64 y] = some (.ret (.bool (decide (a ≥ x ∧ a ≤ b ∧ b ≤ y)))) := by
 rw [E_pf, t9065, and3]
theorem s9005 (s : Gst) : (E F (d + 2)).pf 5 [.agg (eGst s)] = some (.ret (.bool (decide (StOk s)))) := by
 rw [E_pf, t9005]
 simp only [s9019, tkOut_ret, tkBool_b]
 unfold StOk SpIn
 by_cases h1 : s.gas.lo ≥ 0 ∧ s.gas.lo ≤ s.gas.hi ∧ s.gas.hi ≤ 1000000
 ·rw [decide_eq_true h1, cond_true]
  by_cases h2 : s.hyd.lo ≥ 0 ∧ s.hyd.lo ≤ s.hyd.hi ∧ s.hyd.hi ≤ 1000000
  ·rw [decide_eq_true h2, cond_true]
   by_cases h3 : s.heat.lo ≥ 2000 ∧ s.heat.lo ≤ s.heat.hi ∧ s.heat.hi ≤ 5000
   ·rw [decide_eq_true h3, cond_true]
    congr 3
    exact decide_eq_decide.2 ⟨fun h => ⟨h1, h2, h3, h⟩, fun h => h.2.2.2⟩
   ·rw [decide_eq_false h3, cond_false, decide_eq_false (fun h => h3 h.2.2.1)]
  ·rw [decide_eq_false h2, cond_false, decide_eq_false (fun h => h2 h.2.1)]
 ·rw [decide_eq_false h1, cond_false, decide_eq_false (fun h => h1 h.1)]
theorem s9028 (s : Gst) : (E F (d + 2)).pf 28 [.agg (eGst s)] = some (.ret (.bool (decide (StOk s)))) := by
 rw [E_pf, t9028]
 simp only [s9065, tkOut_ret, tkBool_b]
 unfold StOk SpIn
 by_cases h1 : s.gas.lo ≥ 0 ∧ s.gas.lo ≤ s.gas.hi ∧ s.gas.hi ≤ 1000000
 ·rw [decide_eq_true h1, cond_true]
  by_cases h2 : s.hyd.lo ≥ 0 ∧ s.hyd.lo ≤ s.hyd.hi ∧ s.hyd.hi ≤ 1000000
  ·rw [decide_eq_true h2, cond_true]
   by_cases h3 : s.heat.lo ≥ 2000 ∧ s.heat.lo ≤ s.heat.hi ∧ s.heat.hi ≤ 5000
   ·rw [decide_eq_true h3, cond_true]
    congr 3
    exact decide_eq_decide.2 ⟨fun h => ⟨h1, h2, h3, h⟩, fun h => h.2.2.2⟩
   ·rw [decide_eq_false h3, cond_false, decide_eq_false (fun h => h3 h.2.2.1)]
  ·rw [decide_eq_false h2, cond_false, decide_eq_false (fun h => h2 h.2.1)]
 ·rw [decide_eq_false h1, cond_false, decide_eq_false (fun h => h1 h.1)]
theorem s9006 (s : Gst) (p : Gpt) : (E F (d + 2)).pf 6 [.agg (eGst s), .agg (eGpt p)] = some (.ret (.bool (decide (HasP s p)))) := by
 rw [E_pf, t9006]
 simp only [s9018, tkOut_ret, tkBool_b]
 unfold HasP
 by_cases h1 : p.gas ≥ s.gas.lo ∧ p.gas ≤ s.gas.hi
 ·rw [decide_eq_true h1, cond_true]
  by_cases h2 : p.hyd ≥ s.hyd.lo ∧ p.hyd ≤ s.hyd.hi
  ·rw [decide_eq_true h2, cond_true]
   by_cases h3 : p.heat ≥ s.heat.lo ∧ p.heat ≤ s.heat.hi
   ·rw [decide_eq_true h3, cond_true]
    congr 3
    exact decide_eq_decide.2 ⟨fun h => ⟨h1, h2, h3, h⟩, fun h => h.2.2.2⟩
   ·rw [decide_eq_false h3, cond_false, decide_eq_false (fun h => h3 h.2.2.1)]
  ·rw [decide_eq_false h2, cond_false, decide_eq_false (fun h => h2 h.2.1)]
 ·rw [decide_eq_false h1, cond_false, decide_eq_false (fun h => h1 h.1)]
theorem nn {a b : Prop} [Decidable a] [Decidable b] {x : Option Out} (h : x = some (.ret (.bool (decide b)))) : (bif (!decide a) then some (.ret (.bool false)) else x) = some (.ret (.bool (decide (a ∧ b)))) := by
 subst h; by_cases h1 : a <;> simp [h1]
theorem yy {a b : Prop} [Decidable a] [Decidable b] {x : Option Out} (h : x = some (.ret (.bool (decide b)))) : (bif decide a then x else some (.ret (.bool false))) = some (.ret (.bool (decide (a ∧ b)))) := by
 subst h; by_cases h1 : a <;> simp [h1]
theorem s9004 (g : Gas) : (E (F + 3) (d + 2)).pf 4 [.agg (eGas g)] = some (.ret (.bool (decide (GasOk g)))) := by
 rw [E_pf, t9004]
 simp only [s9018, s9019, tkOut_ret, tkBool_b]
 refine (nn (nn (nn (nn (yy (yy (yy rfl))))))).trans ?_
 congr 3
 exact decide_eq_decide.2 ⟨fun ⟨h1, h2, h3, h4, h5, h6, h7, h8⟩ => ⟨⟨h1, h2⟩, ⟨h3, h4⟩, h5, h6, h7, h8⟩, fun ⟨⟨h1, h2⟩, ⟨h3, h4⟩, h5, h6, h7, h8⟩ => ⟨h1, h2, h3, h4, h5, h6, h7, h8⟩⟩
theorem s9027 (g : Gas) : (E (F + 3) (d + 2)).pf 27 [.agg (eGas g)] = some (.ret (.bool (decide (GasOk g)))) := by
 rw [E_pf, t9027]
 simp only [s9064, s9065, tkOut_ret, tkBool_b]
 refine (nn (nn (nn (nn (yy (yy (yy rfl))))))).trans ?_
 congr 3
 exact decide_eq_decide.2 ⟨fun ⟨h1, h2, h3, h4, h5, h6, h7, h8⟩ => ⟨⟨h1, h2⟩, ⟨h3, h4⟩, h5, h6, h7, h8⟩, fun ⟨⟨h1, h2⟩, ⟨h3, h4⟩, h5, h6, h7, h8⟩ => ⟨h1, h2, h3, h4, h5, h6, h7, h8⟩⟩
section
variable {g : Gas} (hg : GasOk g)
include hg
theorem wr_force {a h t : Int} (h1 : 0 ≤ a ∧ a ≤ 1000000) (h3 : 0 ≤ h ∧ h ≤ 1000000) (h5 : 0 ≤ t ∧ t ≤ 5000) :
  IntKind.wrap .i64 ((IntKind.wrap .i64 ((IntKind.wrap .i64 ((IntKind.wrap .i64 (a * g.f0)) + (IntKind.wrap .i64 (h * g.f1)))) * t)) * (8314 : Int)) = force g a h t := by
 obtain ⟨b1, b2, b3, b4⟩ := force_big hg h1 h3 h5
 rw [wr (n := a * g.f0) (by omega), wr (n := h * g.f1) (by omega), wr (n := a * g.f0 + h * g.f1) (by omega), wr (n := (a * g.f0 + h * g.f1) * t) (by omega)]
 exact wr (by unfold force at b4; omega)
theorem s9038 (p : Gpt) (h1 : 0 ≤ p.gas ∧ p.gas ≤ 1000000) (h3 : 0 ≤ p.hyd ∧ p.hyd ≤ 1000000) (h5 : 0 ≤ p.heat ∧ p.heat ≤ 5000) : (E F (d + 1)).pf 38 [.agg (eGas g), .agg (eGpt p)] = some (.ret (.int .i64 (force g p.gas p.hyd p.heat))) := by
 rw [E_pf, t9038, wr_force hg h1 h3 h5]
theorem s9029 (p : Gpt) (n : Int) (h1 : 0 ≤ p.gas ∧ p.gas ≤ 1000000) (h3 : 0 ≤ p.hyd ∧ p.hyd ≤ 1000000) (h5 : 0 ≤ p.heat ∧ p.heat ≤ 5000) (hn : 0 ≤ n ∧ n ≤ 1000000) : (E F (d + 1)).pf 29 [.agg (eGas g), .agg (eGpt p), .int .i64 n] = some (.ret (.tup [.int .i64 (force g p.gas p.hyd p.heat), .int .i64 (n * 10000000)])) := by
 rw [E_pf, t9029, wr_force hg h1 h3 h5, wr (n := n * 10000000) (by omega)]
end
def loP (s : Gst) : Gpt := ⟨s.gas.lo, s.hyd.lo, s.heat.lo, s.water.lo⟩
def hiP (s : Gst) : Gpt := ⟨s.gas.hi, s.hyd.hi, s.heat.hi, s.water.hi⟩
theorem s9030 (s : Gst) : (E F (d + 1)).pf 30 [.agg (eGst s)] = some (.ret (.agg (eGpt (loP s)))) := by
 rw [E_pf, t9030]; rfl
theorem s9031 (s : Gst) : (E F (d + 1)).pf 31 [.agg (eGst s)] = some (.ret (.agg (eGpt (hiP s)))) := by
 rw [E_pf, t9031]; rfl
end Go.Sim.Pl


namespace Go.Sim.Gs
structure Red (a b x y : Int) : Prop where
 g : ∃ g : Int, 0 < g ∧ a = g * x ∧ b = g * y
def ratR (x y net : Int) : Int := (1000 * x + net * y - 1) / (net * y)
theorem up_le {x p y q : Int} (hp : 0 < p) (hq : 0 < q) (h : x * q ≤ y * p) : (x + p - 1) / p ≤ (y + q - 1) / q := by
 have h1 : y ≤ (y + q - 1) / q * q := by
  have := Int.lt_ediv_add_one_mul_self (y + q - 1) hq
  rw [Int.add_mul] at this
  omega
 have h2 : x ≤ (y + q - 1) / q * p := by
  have a1 : y * p ≤ (y + q - 1) / q * q * p := Int.mul_le_mul_of_nonneg_right h1 (by omega)
  have a2 : x * q ≤ (y + q - 1) / q * p * q := by
   rw [Int.mul_right_comm]
   exact Int.le_trans h a1
  exact Int.le_of_mul_le_mul_right a2 hq
 refine Int.le_of_lt_add_one ?_
 refine Int.ediv_lt_of_lt_mul hp ?_
 rw [Int.add_mul]
 omega
theorem rat_mono {a b x y a' b' x' y' net : Int} (hn : 0 < net) (h : Red a b x y) (h' : Red a' b' x' y') (hb : 0 < b) (hb' : 0 < b') (hle : a * b' ≤ a' * b) : ratR x y net ≤ ratR x' y' net := by
 obtain ⟨g, hg, rfl, rfl⟩ := h.g
 obtain ⟨g', hg', rfl, rfl⟩ := h'.g
 have hy : 0 < y := Int.pos_of_mul_pos_right hb (by omega)
 have hy' : 0 < y' := Int.pos_of_mul_pos_right hb' (by omega)
 have e1 : g * x * (g' * y') = (g * g') * (x * y') := by ac_rfl
 have e2 : g' * x' * (g * y) = (g * g') * (x' * y) := by ac_rfl
 rw [e1, e2] at hle
 have h0 : x * y' ≤ x' * y := Int.le_of_mul_le_mul_left hle (Int.mul_pos hg hg')
 unfold ratR
 refine up_le (Int.mul_pos hn hy) (Int.mul_pos hn hy') ?_
 have e3 : 1000 * x * (net * y') = (1000 * net) * (x * y') := by ac_rfl
 have e4 : 1000 * x' * (net * y) = (1000 * net) * (x' * y) := by ac_rfl
 rw [e3, e4]
 exact Int.mul_le_mul_of_nonneg_left h0 (by omega)
theorem tmod_nn {a b : Int} (ha : 0 ≤ a) (hb : 0 < b) : 0 ≤ a.tmod b ∧ a.tmod b < b := ⟨Int.tmod_nonneg _ ha, Int.tmod_lt_of_pos _ hb⟩
theorem dvd_back {g a b : Int} (h1 : g ∣ b) (h2 : g ∣ a.tmod b) : g ∣ a := by
 have := Int.tmod_add_tdiv_mul a b
 rw [← this]
 exact Int.dvd_add h2 (Int.dvd_mul_of_dvd_right h1)
theorem red_of {a b g : Int} (hg : 0 < g) (h1 : g ∣ a) (h2 : g ∣ b) : Red a b (a.tdiv g) (b.tdiv g) := by
 refine ⟨g, hg, ?_, ?_⟩
 ·rw [Int.mul_comm]; exact (Int.tdiv_mul_cancel h1).symm
 ·rw [Int.mul_comm]; exact (Int.tdiv_mul_cancel h2).symm
theorem two_step {a b : Int} (ha : 0 ≤ a) (hb : 0 < b) (hr : 0 < a.tmod b) : 2 * b.tmod (a.tmod b) < b := by
 obtain ⟨h1, h2⟩ := tmod_nn ha hb
 obtain ⟨h3, h4⟩ := tmod_nn (Int.le_of_lt hb) hr
 have h5 := Int.tmod_add_tdiv_mul b (a.tmod b)
 have h6 : 1 ≤ b.tdiv (a.tmod b) := by
  rw [Int.tdiv_eq_ediv_of_nonneg (Int.le_of_lt hb)]
  exact (Int.le_ediv_iff_mul_le hr).2 (by omega)
 have h7 : 1 * a.tmod b ≤ b.tdiv (a.tmod b) * a.tmod b := Int.mul_le_mul_of_nonneg_right h6 h1
 omega
end Go.Sim.Gs


namespace Go.Sim.Pl
open Go.Sim.Le (cfg E E_pf E_hv)
open Go.Proofs Go.Sim.Gs
variable (F d : Nat)
structure Told (a b x y : Int) : Prop where
 red : Red a b x y
 x0 : 0 ≤ x ∧ x ≤ a
 y0 : 0 < y ∧ y ≤ b
theorem told_of {a b g : Int} (ha : 0 ≤ a) (hb : 0 < b) (hg : 0 < g) (h1 : g ∣ a) (h2 : g ∣ b) : Told a b (a.tdiv g) (b.tdiv g) := by
 have hr := red_of hg h1 h2
 have e1 := Int.tdiv_mul_cancel h1
 have e2 := Int.tdiv_mul_cancel h2
 refine ⟨hr, ⟨Int.tdiv_nonneg ha (Int.le_of_lt hg), ?_⟩, ?_, ?_⟩
 ·rw [Int.tdiv_eq_ediv_of_nonneg ha]; exact Int.ediv_le_self _ ha
 ·rw [Int.tdiv_eq_ediv_of_nonneg (Int.le_of_lt hb)]
  exact Int.ediv_pos_of_pos_of_dvd hb (Int.le_of_lt hg) h2
 ·rw [Int.tdiv_eq_ediv_of_nonneg (Int.le_of_lt hb)]; exact Int.ediv_le_self _ (Int.le_of_lt hb)
theorem l9032 (env : Env) {a b : Int} (ha : 0 ≤ a ∧ a ≤ 166280000000000000) (hb : 0 < b ∧ b ≤ 10000000000000) : ∀ (fu : Nat) (A B : Int), 0 < A → 0 ≤ B → B < fu → (∀ g, g ∣ A → g ∣ B → g ∣ a ∧ g ∣ b) →
  ∃ x y, L9032x0 env F a b fu A B = some (.ret (.agg [.int .i64 x, .int .i64 y])) ∧ Told a b x y := by
 intro fu
 induction fu with
 | zero => intro A B hA hB h; omega
 | succ fu ih =>
  intro A B hA hB hlt hg
  rw [L9032x0s]
  by_cases h : B = 0
  ·subst h
   obtain ⟨g1, g2⟩ := hg A (Int.dvd_refl A) (Int.dvd_zero A)
   have ht := told_of ha.1 hb.1 hA g1 g2
   refine ⟨_, _, ?_, ht⟩
   rw [show ((0 : Int) != 0) = false by decide, pF, decide_eq_false (by omega), pF, pF, wr (by have := ht.x0; omega), wr (by have := ht.y0; omega)]
  ·rw [show (B != (0 : Int)) = true by simpa using h, pT, decide_eq_false h, pF]
   obtain ⟨m1, m2⟩ := tmod_nn (Int.le_of_lt hA) (show 0 < B by omega)
   exact ih B (A.tmod B) (by omega) m1 (by omega) fun g h1 h2 => hg g (dvd_back h1 h2) h1
theorem s9032 {a b : Int} (ha : 0 ≤ a ∧ a ≤ 166280000000000000) (hb : 0 < b ∧ b ≤ 10000000000000) (hF : 1000000000000000000 < F) : ∃ x y, (E F (d + 1)).pf 32 [.int .i64 a, .int .i64 b] = some (.ret (.agg [.int .i64 x, .int .i64 y])) ∧ Told a b x y := by
 rw [E_pf, t9032]
 exact l9032 F _ ha hb F b a hb.1 ha.1 (by omega) fun g h1 h2 => ⟨h2, h1⟩
theorem s9066x0 (a : Int) : (E F (d + 1)).pf 66 [.int .i64 a, .int .i64 0] = some (.ret (.int .i64 a)) := by
 rw [E_pf, t9066, show ((0 : Int) == 0) = true by decide, pT]
theorem s9066xs {a b g : Int} (hb : b ≠ 0) (h : (E F d).pf 66 [.int .i64 b, .int .i64 (a.tmod b)] = some (.ret (.int .i64 g))) : (E F (d + 1)).pf 66 [.int .i64 a, .int .i64 b] = some (.ret (.int .i64 g)) := by
 rw [E_pf, t9066, show (b == (0 : Int)) = false by simpa using hb, pF, decide_eq_false hb, pF, h]
 simp only [tkOut_ret, tkInt_i]
theorem s9066 : ∀ (n : Nat) (a b : Int), 0 ≤ a → 0 ≤ b → (0 < a ∨ 0 < b) → b < 2 ^ n → ∃ g, (E F (d + 2 * n + 1)).pf 66 [.int .i64 a, .int .i64 b] = some (.ret (.int .i64 g)) ∧ 0 < g ∧ g ∣ a ∧ g ∣ b := by
 intro n
 induction n with
 | zero =>
  intro a b ha hb hab hlt
  have : b = 0 := by
   have : (2 : Int) ^ 0 = 1 := by decide
   omega
  subst this
  exact ⟨a, s9066x0 F _ a, by omega, Int.dvd_refl a, Int.dvd_zero a⟩
 | succ n ih =>
  intro a b ha hb hab hlt
  by_cases h : b = 0
  ·subst h
   exact ⟨a, s9066x0 F _ a, by omega, Int.dvd_refl a, Int.dvd_zero a⟩
  have hb0 : 0 < b := by omega
  obtain ⟨m1, m2⟩ := tmod_nn ha hb0
  by_cases h2 : a.tmod b = 0
  ·refine ⟨b, ?_, hb0, ?_, Int.dvd_refl b⟩
   ·refine s9066xs F _ h ?_
    rw [h2]
    exact s9066x0 F (d + 2 * (n + 1) - 1) b
   ·exact dvd_back (Int.dvd_refl b) (by rw [h2]; exact Int.dvd_zero b)
  ·have h3 := two_step ha hb0 (by omega)
   obtain ⟨k1, k2⟩ := tmod_nn hb (show 0 < a.tmod b by omega)
   have hp : (2 : Int) ^ (n + 1) = 2 ^ n * 2 := Int.pow_succ ..
   obtain ⟨g, hg, g0, g1, g2⟩ := ih (a.tmod b) (b.tmod (a.tmod b)) m1 k1 (.inl (by omega)) (by omega)
   have d1 := dvd_back g1 g2
   refine ⟨g, ?_, g0, dvd_back d1 g1, d1⟩
   exact s9066xs F (d + 2 * n + 1 + 1) h (s9066xs F (d + 2 * n + 1) h2 hg)
theorem s9037 {a b : Int} (ha : 0 ≤ a ∧ a ≤ 166280000000000000) (hb : 0 < b ∧ b ≤ 10000000000000) : ∃ x y, (E F (d + 90)).pf 37 [.int .i64 a, .int .i64 b] = some (.ret (.agg [.int .i64 x, .int .i64 y])) ∧ Told a b x y := by
 obtain ⟨g, hg, g0, g1, g2⟩ := s9066 F d 44 a b ha.1 (by omega) (.inr hb.1) (by
  have : (2 : Int) ^ 44 = 17592186044416 := by decide
  omega)
 have ht := told_of ha.1 hb.1 g0 g1 g2
 refine ⟨_, _, ?_, ht⟩
 rw [E_pf, t9037, hg]
 simp only [tkOut_ret, tkInt_i, decide_true, pT]
 rw [decide_eq_false (by omega), pF, pF, wr (by have := ht.x0; omega), wr (by have := ht.y0; omega)]
theorem s9010 {x y net : Int} (hx : 0 ≤ x ∧ x ≤ 1000000000000) (hy : 0 < y ∧ y ≤ 10000000000000) (hn : 0 < net ∧ net ≤ 100000) : (E F (d + 1)).pf 10 [.agg [.int .i64 x, .int .i64 y], .int .i64 net] = some (.ret (.int .i64 (Gs.ratR x y net))) := by
 have h1 := mul_mono (show 0 ≤ net by omega) hn.2 (show 0 ≤ y by omega) hy.2
 have h2 := Int.mul_pos hn.1 hy.1
 rw [E_pf, t9010, wr (n := net * y) (by omega), wr (n := 1000 * x) (by omega), wr (n := 1000 * x + net * y) (by omega), wr (n := 1000 * x + net * y - 1) (by omega), decide_eq_false (by omega), pF]
 have h3 : 0 ≤ 1000 * x + net * y - 1 := by omega
 rw [Int.tdiv_eq_ediv_of_nonneg h3]
 have h4 : 0 ≤ (1000 * x + net * y - 1) / (net * y) := Int.ediv_nonneg h3 (by omega)
 have h5 : (1000 * x + net * y - 1) / (net * y) ≤ 1000 * x + net * y - 1 := Int.ediv_le_self _ h3
 rw [wr (by omega)]
 rfl
theorem s9009 (a b : Int) : (E F (d + 1)).pf 9 [.agg [.int .i64 a, .int .i64 b]] = some (.ret (.bool (decide ((a ≥ 0 ∧ a ≤ 1000000000000) ∧ b ≥ 1 ∧ b ≤ 10000000000000)))) := by
 rw [E_pf, t9009]
 by_cases h1 : a ≥ 0
 ·rw [decide_eq_true h1, pT]
  by_cases h2 : a ≤ 1000000000000
  ·rw [decide_eq_true h2, pT]
   by_cases h3 : b ≥ 1
   ·rw [decide_eq_true h3, pT]; simp [h1, h2, h3]
   ·rw [decide_eq_false h3, pF, decide_eq_false (fun h => h3 h.2.1)]
  ·rw [decide_eq_false h2, pF, decide_eq_false (fun h => h2 h.1.2)]
 ·rw [decide_eq_false h1, pF, decide_eq_false (fun h => h1 h.1.1)]
section
variable {g : Gas} (hg : GasOk g)
include hg
theorem s9013 (p : Gpt) (n : Int) (h1 : 0 ≤ p.gas ∧ p.gas ≤ 1000000) (h3 : 0 ≤ p.hyd ∧ p.hyd ≤ 1000000) (h5 : 0 ≤ p.heat ∧ p.heat ≤ 5000) (hn : 1 ≤ n ∧ n ≤ 1000000) :
  ∃ x y, (E F (d + 91)).pf 13 [.agg (eGas g), .agg (eGpt p), .int .i64 n] = some (.ret (.agg [.int .i64 x, .int .i64 y])) ∧ Told (force g p.gas p.hyd p.heat) (n * 10000000) x y := by
 obtain ⟨b1, b2, b3, b4⟩ := force_big hg h1 h3 h5
 obtain ⟨x, y, h, ht⟩ := s9037 F d (a := force g p.gas p.hyd p.heat) (b := n * 10000000) b4 (by omega)
 refine ⟨x, y, ?_, ht⟩
 have q := s9038 F (d + 89) hg p h1 h3 h5
 rw [E_pf, t9013]
 simp only [q, tkOut_ret, tkInt_i]
 rw [wr (n := n * 10000000) (by omega), h]
 simp only [tkOut_ret, tkInt_i, tkAgg_a, tkCons_c, tkNil_n]
theorem s9008 {s : Gst} (hs : StOk s) (hF : 1000000000000000000 < F) : ∃ x y x' y', (E (F + 3) (d + 4)).pf 8 [.agg (eGas g), .agg (eGst s)] = some (.ret (.tup [.agg [.int .i64 x, .int .i64 y], .agg [.int .i64 x', .int .i64 y'], .int .i64 0])) ∧
  Told (force g s.gas.lo s.hyd.lo s.heat.lo) (g.vol.hi * 10000000) x y ∧ Told (force g s.gas.hi s.hyd.hi s.heat.hi) (g.vol.lo * 10000000) x' y' := by
 obtain ⟨b1, b2, b3, b4⟩ := force_big hg (a := s.gas.lo) (h := s.hyd.lo) (t := s.heat.lo) (by omega) (by omega) (by omega)
 obtain ⟨c1, c2, c3, c4⟩ := force_big hg (a := s.gas.hi) (h := s.hyd.hi) (t := s.heat.hi) (by omega) (by omega) (by omega)
 obtain ⟨x, y, h, ht⟩ := s9032 (F + 3) (d + 2) (a := force g s.gas.lo s.hyd.lo s.heat.lo) (b := g.vol.hi * 10000000) b4 (by omega) (by omega)
 obtain ⟨x', y', h', ht'⟩ := s9032 (F + 3) (d + 2) (a := force g s.gas.hi s.hyd.hi s.heat.hi) (b := g.vol.lo * 10000000) c4 (by omega) (by omega)
 refine ⟨x, y, x', y', ?_, ht, ht'⟩
 have q1 := s9027 F (d + 1) g
 have q2 := s9028 (F + 3) (d + 1) s
 have q3 := s9030 (F + 3) (d + 2) s
 have q4 := s9031 (F + 3) (d + 2) s
 have q5 := s9029 (F + 3) (d + 2) hg (loP s) g.vol.hi (by show 0 ≤ s.gas.lo ∧ s.gas.lo ≤ 1000000; omega) (by show 0 ≤ s.hyd.lo ∧ s.hyd.lo ≤ 1000000; omega) (by show 0 ≤ s.heat.lo ∧ s.heat.lo ≤ 5000; omega) (by omega)
 have q6 := s9029 (F + 3) (d + 2) hg (hiP s) g.vol.lo (by show 0 ≤ s.gas.hi ∧ s.gas.hi ≤ 1000000; omega) (by show 0 ≤ s.hyd.hi ∧ s.hyd.hi ≤ 1000000; omega) (by show 0 ≤ s.heat.hi ∧ s.heat.hi ≤ 5000; omega) (by omega)
 rw [decide_eq_true hg] at q1
 rw [decide_eq_true hs] at q2
 rw [E_pf, t9008]
 simp only [q1, q2, q3, q4, tkOut_ret, tkBool_b, Bool.not_true, pF, tkAgg_a, tkCons_c, tkNil_n, tkInt_i, tkTup_t]
 simp only [loP, hiP] at q5 q6
 simp only [loP, hiP, q5, q6, h, h', tkOut_ret, tkBool_b, tkAgg_a, tkCons_c, tkNil_n, tkInt_i, tkTup_t]
end
end Go.Sim.Pl


namespace Go.Sim.Pl
open Go.Sim.Le (cfg E E_pf E_hv names look)
open Go.Proofs
variable (F d : Nat)
end Go.Sim.Pl


namespace Go.Sim.Pl
open Go.Sim.Le (cfg E E_pf E_hv names look)
open Go.Proofs
variable (F d : Nat)
theorem inB_of {l : Sl Mach} {hs : Sl Hour} (hF : 140737488355330 < F) (hl : l.len ≤ 140737488355328) (hR : ∀ i, (l.el i).rows.len ≤ 140737488355328) (hh : hs.len ≤ 140737488355328) : InB l hs F :=
 ⟨⟨lenB hl, by omega⟩, fun i _ => ⟨lenB (hR i), by have := hR i; omega⟩, lenB hh, by omega⟩
end Go.Sim.Pl


namespace Go.Sim.Pl
open Go.Sim.Le (cfg E E_pf E_hv names look)
open Go.Proofs
def sumN (l : Sl Mach) (sc : Nat → Sl Int) : Nat → Int
 | 0 => 0
 | t + 1 => sumN l sc t + startN (sc t) (stAt l sc t) l.len
def sumE (l : Sl Mach) (sc : Nat → Sl Int) : Nat → Int
 | 0 => 0
 | t + 1 => sumE l sc t + startE l (sc t) (stAt l sc t) l.len
def sumLo (l : Sl Mach) (hs : Nat → Hour) (sc : Nat → Sl Int) : Nat → Int
 | 0 => 0
 | t + 1 => sumLo l hs sc t + (hourE l (sc t) (hs t)).1
def sumHi (l : Sl Mach) (hs : Nat → Hour) (sc : Nat → Sl Int) : Nat → Int
 | 0 => 0
 | t + 1 => sumHi l hs sc t + (hourE l (sc t) (hs t)).2
theorem play_sum {l : Sl Mach} (hs : Nat → Hour) (sc : Nat → Sl Int) : ∀ (j t : Nat) (lo hi n : Int), (playR l hs sc j t lo hi n).rule = 1 →
  (playR l hs sc j t lo hi n).lo = lo + (sumLo l hs sc (t + j) - sumLo l hs sc t) + (sumE l sc (t + j) - sumE l sc t) ∧
  (playR l hs sc j t lo hi n).hi = hi + (sumHi l hs sc (t + j) - sumHi l hs sc t) + (sumE l sc (t + j) - sumE l sc t) ∧
  (playR l hs sc j t lo hi n).many = n + (sumN l sc (t + j) - sumN l sc t) := by
 intro j
 induction j with
 | zero => intro t lo hi n h; simp only [playR, Nat.add_zero]; omega
 | succ j ih =>
  intro t lo hi n h
  simp only [playR] at h ⊢
  by_cases hr : (faultS l (stAt l sc t) (sc t) (hs t)).1 = 1
  ·rw [if_neg (fun hh => hh hr)] at h ⊢
   have e := ih (t + 1) _ _ _ h
   rw [show t + (j + 1) = t + 1 + j by omega]
   simp only [sumLo, sumHi, sumE, sumN] at e ⊢
   omega
  ·rw [if_pos hr] at h
   exact absurd h hr
variable (F d : Nat)
section
variable {l : Sl Mach} (hl : PlantOk l) {hs : Sl Hour} (hh : HoursOk hs) (h24 : hs.len ≤ 24) {sc : Sl (Sl Int)} (hsc : SchedOk l hs.len sc) (hF : 1000 < F)
include hl hh h24 hsc hF
end
section
variable {l : Sl Mach} (hl : PlantOk l) {hs : Sl Hour} (hh : HoursOk hs) (h24 : hs.len ≤ 24) {sc : Sl (Sl Int)} (hsc : SchedOk l hs.len sc) (hF : 2000 < F)
include hl hF
end
end Go.Sim.Pl


namespace Go.Sim.Pl
open Go.Sim.Le (cfg E E_pf E_hv names look)
open Go.Proofs
theorem playS_sum {l : Sl Mach} {hs : Sl Hour} {sc : Sl (Sl Int)} (h : (playS l hs sc).rule = 1) :
  (playS l hs sc).lo = sumE l sc.el hs.len + sumLo l hs.el sc.el hs.len ∧ (playS l hs sc).hi = sumE l sc.el hs.len + sumHi l hs.el sc.el hs.len ∧ (playS l hs sc).many = sumN l sc.el hs.len := by
 have e := play_sum hs.el sc.el hs.len 0 0 0 0 h
 unfold playS
 simp only [Nat.zero_add, sumE, sumLo, sumHi, sumN] at e
 omega
variable (F d : Nat)
end Go.Sim.Pl


namespace Go.Sim.Pl
open Go.Sim.Le (cfg E E_pf E_hv names look)
open Go.Proofs
abbrev mst (l : Sl Mach) (x : Int) (z : Nat) : Int := (rowAt (l.el z) x).most
abbrev inK (l : Sl Mach) (r : Nat → Bool) (k : Int) (i : Nat) : Prop := (l.el i).kind = k ∧ r i = true
structure KindOk (l : Sl Mach) (r : Nat → Bool) (f x k : Int) (w : Nat → Int) : Prop where
 lim : ∀ i, i < l.len → inK l r k i → 0 ≤ w i ∧ w i ≤ mst l x i
 all : sumP (inK l r k) w l.len = f ∨ (sumP (inK l r k) w l.len < f ∧ ∀ i, i < l.len → inK l r k i → w i = mst l x i)
 low : (∃ m, m < l.len ∧ inK l r k m ∧ (rowAt (l.el m) x).least < w m) → ∀ i, i < l.len → inK l r k i → (rowAt (l.el i) x).least ≤ w i
 full : ∀ i m, i < l.len → m < l.len → inK l r k i → inK l r k m → (rowAt (l.el i) x).energy < (rowAt (l.el m) x).energy → (rowAt (l.el m) x).least < w m → w i = mst l x i
abbrev CarOk (l : Sl Mach) (r : Nat → Bool) (f x : Int) (w : Nat → Int) : Prop := (∀ i, i < l.len → (0 ≤ w i ∧ w i ≤ mst l x i) ∧ (r i = false → w i ≤ 0)) ∧ ∀ k : Int, 1 ≤ k ∧ k ≤ 3 → thereS l.el k l.len = true → sumP (fun i => (l.el i).kind = k) w l.len = f
abbrev prcS (l : Sl Mach) (r : Nat → Bool) (x k : Int) (w : Nat → Int) : Int := maxP (fun i => (l.el i).kind = k ∧ r i = true ∧ w i > (rowAt (l.el i) x).least) (fun i => (rowAt (l.el i) x).energy) l.len
end Go.Sim.Pl


namespace Go.Sim.Pl
open Go.Sim.Le (cfg E E_pf E_hv names look)
open Go.Proofs
theorem rowR_congr {m : Mach} {x y : Int} : ∀ j i, (∀ k, i ≤ k → k < i + j → ((m.rows.el k).ratio ≥ x ↔ (m.rows.el k).ratio ≥ y)) → rowR m x j i = rowR m y j i
 | 0, _, _ => rfl
 | j + 1, i, h => by
  have ih := rowR_congr (m := m) (x := x) (y := y) j (i + 1) (fun k h1 h2 => h k (by omega) (by omega))
  have h0 := h i (by omega) (by omega)
  simp only [rowR, ih]
  by_cases h1 : (m.rows.el i).ratio ≥ x
  ·rw [if_pos h1, if_pos (h0.1 h1)]
  ·rw [if_neg h1, if_neg (fun h => h1 (h0.2 h))]
theorem ratR_mem {m : Mach} {s : Span} {k : Nat} (h : s.lo < (m.rows.el k).ratio + 1 ∧ (m.rows.el k).ratio + 1 ≤ s.hi) : ∀ j i, i ≤ k → k < i + j → (m.rows.el k).ratio + 1 ∈ ratR m s j i
 | 0, i, h1, h2 => by omega
 | j + 1, i, h1, h2 => by
  simp only [ratR, List.mem_append]
  rcases Nat.eq_or_lt_of_le h1 with h3 | h3
  ·subst h3
   exact .inl (by rw [if_pos h]; simp)
  ·exact .inr (ratR_mem h j (i + 1) (by omega) (by omega))
theorem ratM_mem {l : Sl Mach} {s : Span} {a : Nat} {x : Int} (h : x ∈ ratR (l.el a) s (l.el a).rows.len 0) : ∀ j i, i ≤ a → a < i + j → x ∈ ratM l s j i
 | 0, i, h1, h2 => by omega
 | j + 1, i, h1, h2 => by
  simp only [ratM, List.mem_append]
  rcases Nat.eq_or_lt_of_le h1 with h3 | h3
  ·subst h3
   exact .inl h
  ·exact .inr (ratM_mem h j (i + 1) (by omega) (by omega))
theorem last_le {x : Int} : ∀ (L : List Int), (∃ z ∈ L, z ≤ x) → ∃ y ∈ L, y ≤ x ∧ ∀ z ∈ L, z ≤ x → z ≤ y
 | [], h => by obtain ⟨z, hz, _⟩ := h; simp at hz
 | a :: L, h => by
  by_cases h1 : ∃ z ∈ L, z ≤ x
  ·obtain ⟨y, hy, hyx, hm⟩ := last_le L h1
   by_cases h2 : a ≤ x ∧ y ≤ a
   ·refine ⟨a, by simp, h2.1, fun z hz hzx => ?_⟩
    rcases List.mem_cons.1 hz with h3 | h3
    ·omega
    ·have := hm z h3 hzx; omega
   ·refine ⟨y, by simp [hy], hyx, fun z hz hzx => ?_⟩
    rcases List.mem_cons.1 hz with h3 | h3
    ·subst h3; omega
    ·exact hm z h3 hzx
  ·obtain ⟨z, hz, hzx⟩ := h
   rcases List.mem_cons.1 hz with h3 | h3
   ·refine ⟨a, by simp, by omega, fun w hw hwx => ?_⟩
    rcases List.mem_cons.1 hw with h4 | h4
    ·omega
    ·exact absurd ⟨w, h4, hwx⟩ h1
   ·exact absurd ⟨z, h3, hzx⟩ h1
theorem rat_cover {l : Sl Mach} {s : Span} {x : Int} (hx : s.lo ≤ x ∧ x ≤ s.hi) : ∃ y ∈ ratL l s, ∀ i, i < l.len → rowAt (l.el i) x = rowAt (l.el i) y := by
 obtain ⟨y, hy, hyx, hm⟩ := last_le (x := x) (ratL l s) ⟨s.lo, by simp [ratL], hx.1⟩
 have hlo := hm s.lo (by simp [ratL]) hx.1
 refine ⟨y, hy, fun i hi => rowR_congr _ _ fun k _ hk => ⟨fun h => by omega, fun h => ?_⟩⟩
 by_cases h1 : ((l.el i).rows.el k).ratio ≥ x
 ·exact h1
 ·exfalso
  have hin : ((l.el i).rows.el k).ratio + 1 ∈ ratL l s := by
   unfold ratL
   refine List.mem_cons_of_mem _ (ratM_mem (a := i) (ratR_mem (k := k) ⟨by omega, by omega⟩ _ 0 (by omega) (by omega)) _ 0 (by omega) (by omega))
  have := hm _ hin (by omega)
  omega
theorem mostS_congr {l : Sl Mach} {r : Nat → Bool} {x y k : Int} : ∀ n, (∀ i, i < n → rowAt (l.el i) x = rowAt (l.el i) y) → mostS l.el r x k n = mostS l.el r y k n
 | 0, _ => rfl
 | n + 1, h => by
  have ih := mostS_congr (l := l) (r := r) (x := x) (y := y) (k := k) n (fun i hi => h i (by omega))
  simp only [mostS, ih, h n (by omega)]
theorem lacks_congr {l : Sl Mach} {r : Nat → Bool} {f x y : Int} (h : ∀ i, i < l.len → rowAt (l.el i) x = rowAt (l.el i) y) : lacks l r f x = lacks l r f y := by
 have hk : ∀ k, shortK l.el r f x k l.len = shortK l.el r f y k l.len := fun k => by
  unfold shortK
  rw [mostS_congr l.len h]
 unfold lacks
 simp only [lackK, hk]
theorem fails_iff {l : Sl Mach} {r : Nat → Bool} {f : Int} {s : Span} (hs : RatioOk s) : failsB l r f (ratL l s) = true ↔ ∃ x, (s.lo ≤ x ∧ x ≤ s.hi) ∧ lacks l r f x ≠ 0 := by
 unfold failsB
 rw [List.any_eq_true]
 constructor
 ·rintro ⟨x, hx, h⟩
  rw [decide_eq_true_iff] at h
  exact ⟨x, ratL_in hs x hx, by omega⟩
 ·rintro ⟨x, hx, h⟩
  obtain ⟨y, hy, he⟩ := rat_cover (l := l) hx
  refine ⟨y, hy, ?_⟩
  rw [decide_eq_true_iff, ← lacks_congr he]
  have := lacks_in l r f x
  omega
theorem short_0 {l : Sl Mach} {r : Nat → Bool} {f : Int} {s : Span} (hs : RatioOk s) : shortest l r f s = 0 ↔ ∀ x, s.lo ≤ x → x ≤ s.hi → lacks l r f x = 0 := by
 have h := shortest_0 l r f s
 rw [fails_iff hs] at h
 constructor
 ·intro h0 x h1 h2
  by_cases hk : lacks l r f x = 0
  ·exact hk
  ·exact absurd h0 (h.2 ⟨x, ⟨h1, h2⟩, hk⟩)
 ·intro ha
  by_cases hk : shortest l r f s = 0
  ·exact hk
  ·obtain ⟨x, hx, hn⟩ := h.1 hk
   exact absurd (ha x hx.1 hx.2) hn
variable (F d : Nat)
section
variable {l : Sl Mach} {r : Sl Bool} {f : Int} (h4 : RunOk l r f) (hF : 2000 < F) {s : Span} (hs : RatioOk s) (a x : Int) (q16 : (E F (d + 42)).pf 16 [] = some (.ret (.bool true)))
include h4 hF hs q16
end
end Go.Sim.Pl
