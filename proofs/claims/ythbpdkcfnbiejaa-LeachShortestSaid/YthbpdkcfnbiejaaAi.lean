import Derived.Test.YthbpdkcfnbiejaaAh
set_option linter.unusedVariables false
set_option linter.unusedSimpArgs false
set_option linter.unusedSectionVars false

namespace Go.Sim.Le
open Go.Proofs
theorem lex_neg {a b e : Nat → Int} : ∀ j i, lexR a b j i = false → lexR a e j i = true → lexR b e j i = true
 | 0, _, _, h => by simp [lexR] at h
 | j + 1, i, h1, h2 => by
  simp only [lexR] at h1 h2 ⊢
  by_cases g1 : a i = b i
  ·rw [if_pos g1] at h1
   rw [← g1]
   by_cases g2 : a i = e i
   ·rw [if_pos g2] at h2 ⊢
    exact lex_neg j (i + 1) h1 h2
   ·rw [if_neg g2] at h2 ⊢
    exact h2
  ·rw [if_neg g1] at h1
   have h1' := of_decide_eq_false h1
   by_cases g2 : a i = e i
   ·rw [if_neg (by omega)]
    exact decide_eq_true (by omega)
   ·rw [if_neg g2] at h2
    have h2' := of_decide_eq_true h2
    rw [if_neg (by omega)]
    exact decide_eq_true (by omega)
theorem less_neg {l : Nat → Stg} {n : Nat} {a b e : Sl Int} (ha : a.len = n) (hb : b.len = n) (he : e.len = n) (h1 : lessB l a b = false) (h2 : lessB l a e = true) : lessB l b e = true := by
 unfold lessB at *
 rw [if_neg (by omega)] at h1 h2 ⊢
 by_cases g1 : watW l a a.len = watW l b b.len
 ·rw [if_neg (fun h => h g1)] at h1
  by_cases g2 : watW l a a.len = watW l e e.len
  ·rw [if_neg (fun h => h g2)] at h2
   rw [if_neg (by omega), hb, ← ha]
   exact lex_neg a.len 0 h1 h2
  ·rw [if_pos g2] at h2
   rw [if_pos (by omega), ← g1]
   exact h2
 ·rw [if_pos g1] at h1
  have h1' := of_decide_eq_false h1
  by_cases g2 : watW l a a.len = watW l e e.len
  ·rw [if_pos (by omega)]
   exact decide_eq_true (by omega)
  ·rw [if_pos g2] at h2
   have h2' := of_decide_eq_true h2
   rw [if_pos (by omega)]
   exact decide_eq_true (by omega)
theorem less_asym {l : Nat → Stg} {n : Nat} {a b : Sl Int} (ha : a.len = n) (hb : b.len = n) (h : lessB l a b = true) : lessB l b a = false := by
 unfold lessB at *
 rw [if_neg (by omega)] at h ⊢
 by_cases g1 : watW l a a.len = watW l b b.len
 ·rw [if_neg (fun h => h g1)] at h
  rw [if_neg (by omega), hb, ← ha]
  exact lex_asym a.len 0 h
 ·rw [if_pos g1] at h
  have h' := of_decide_eq_true h
  rw [if_pos (by omega)]
  exact decide_eq_false (by omega)
def goodA (c : Cav) (l : Nat → Stg) (w : Sl Int) (r : List Int) : Bool := fineA c l r && makesB c l w r
theorem fold_best {c : Cav} {l : Nat → Stg} {w : Sl Int} {n : Nat} : ∀ (rest : List (List Int)) (acc : Option (List Int)), (∀ r ∈ rest, r.length = n) → (∀ b, acc = some b → b.length = n) →
  (rest.foldl (stepA c l w) acc = none → acc = none ∧ ∀ q ∈ rest, goodA c l w q = false) ∧
  ∀ b, rest.foldl (stepA c l w) acc = some b → ((b ∈ rest ∧ goodA c l w b = true) ∨ acc = some b) ∧ (∀ q ∈ rest, goodA c l w q = true → lessB l (slI q) (slI b) = false) ∧ ∀ a, acc = some a → a = b ∨ lessB l (slI a) (slI b) = false
 | [], acc, _, _ => ⟨fun h => ⟨h, fun q hq => by simp at hq⟩, fun b h => ⟨.inr h, fun q hq => by simp at hq, fun a ha => .inl (by rw [List.foldl_nil] at h; rw [h] at ha; injection ha with ha; exact ha.symm)⟩⟩
 | r :: rest, acc, hr, hacc => by
  have hr0 := hr r (List.mem_cons_self ..)
  have hrest : ∀ q ∈ rest, q.length = n := fun q hq => hr q (List.mem_cons_of_mem _ hq)
  rw [List.foldl_cons]
  have hirr : ∀ a : List Int, lessB l (slI a) (slI a) = false := fun a => by
   cases h : lessB l (slI a) (slI a) with
   | false => rfl
   | true => have h' := less_asym (l := l) (n := a.length) rfl rfl h; rw [h] at h'; exact h'
  cases hg : goodA c l w r with
  | false =>
   have e : stepA c l w acc r = acc := by
    unfold stepA
    unfold goodA at hg
    rw [hg, cond_false]
   rw [e]
   obtain ⟨i1, i2⟩ := fold_best rest acc hrest hacc
   refine ⟨fun h => ⟨(i1 h).1, fun q hq => ?_⟩, fun b h => ⟨?_, fun q hq hqg => ?_, (i2 b h).2.2⟩⟩
   ·rcases List.mem_cons.1 hq with rfl | hq
    ·exact hg
    ·exact (i1 h).2 q hq
   ·rcases (i2 b h).1 with ⟨h1, h2⟩ | h1
    ·exact .inl ⟨List.mem_cons_of_mem _ h1, h2⟩
    ·exact .inr h1
   ·rcases List.mem_cons.1 hq with rfl | hq
    ·rw [hg] at hqg; simp at hqg
    ·exact (i2 b h).2.1 q hq hqg
  | true =>
   have key : ∀ acc', stepA c l w acc r = some acc' → acc'.length = n → (lessB l (slI r) (slI acc') = false) → (acc' = r ∨ acc = some acc') → (∀ a, acc = some a → a = acc' ∨ lessB l (slI a) (slI acc') = false) →
     (rest.foldl (stepA c l w) (stepA c l w acc r) = none → acc = none ∧ ∀ q ∈ r :: rest, goodA c l w q = false) ∧
     ∀ b, rest.foldl (stepA c l w) (stepA c l w acc r) = some b → ((b ∈ r :: rest ∧ goodA c l w b = true) ∨ acc = some b) ∧ (∀ q ∈ r :: rest, goodA c l w q = true → lessB l (slI q) (slI b) = false) ∧ ∀ a, acc = some a → a = b ∨ lessB l (slI a) (slI b) = false := by
    intro acc' he hl' hra hwhich hacc'
    rw [he]
    obtain ⟨i1, i2⟩ := fold_best rest (some acc') hrest (fun b hb => by injection hb with hb; rw [← hb]; exact hl')
    refine ⟨fun h => (by cases (i1 h).1), fun b h => ?_⟩
    obtain ⟨j1, j2, j3⟩ := i2 b h
    have hbn : b.length = n := by
     rcases j1 with ⟨h1, _⟩ | h1
     ·exact hrest b h1
     ·injection h1 with h1; rw [← h1]; exact hl'
    have mono : ∀ q : List Int, q.length = n → lessB l (slI q) (slI acc') = false → lessB l (slI q) (slI b) = false := by
     intro q hq hqa
     rcases j3 acc' rfl with h1 | h1
     ·rw [← h1]; exact hqa
     ·cases hqb : lessB l (slI q) (slI b) with
      | false => rfl
      | true =>
       have := less_neg (l := l) (n := n) (a := slI q) (b := slI acc') (e := slI b) hq hl' hbn hqa hqb
       exact absurd (h1.symm.trans this) (by simp)
    refine ⟨?_, fun q hq hqg => ?_, fun a ha => ?_⟩
    ·rcases j1 with ⟨h1, h2⟩ | h1
     ·exact .inl ⟨List.mem_cons_of_mem _ h1, h2⟩
     ·injection h1 with h1
      rcases hwhich with h2 | h2
      ·rw [← h1, h2]; exact .inl ⟨List.mem_cons_self .., hg⟩
      ·rw [← h1]; exact .inr h2
    ·rcases List.mem_cons.1 hq with rfl | hq
     ·exact mono _ hr0 hra
     ·exact j2 q hq hqg
    ·rcases hacc' a ha with h1 | h1
     ·rcases j3 acc' rfl with h2 | h2
      ·exact .inl (h1.trans h2)
      ·rw [h1]; exact .inr h2
     ·exact .inr (mono a (hacc a ha) h1)
   have hg' : (fineA c l r && makesB c l w r) = true := hg
   have hac0 : acc = none ∨ ∃ a0, acc = some a0 := by cases acc with | none => exact .inl rfl | some a0 => exact .inr ⟨a0, rfl⟩
   rcases hac0 with hac | ⟨a0, hac⟩
   ·have e : stepA c l w acc r = some r := by unfold stepA; rw [hg', cond_true, hac]
    exact key r e hr0 (hirr r) (.inl rfl) (fun a ha => by rw [hac] at ha; cases ha)
   ·have e : stepA c l w acc r = bif lessB l (slI r) (slI a0) then some r else some a0 := by unfold stepA; rw [hg', cond_true, hac]
    cases hls : lessB l (slI r) (slI a0) with
    | true =>
     rw [hls, cond_true] at e
     exact key r e hr0 (hirr r) (.inl rfl) (fun a ha => by
      rw [hac] at ha; injection ha with ha; subst ha
      exact .inr (less_asym (n := n) hr0 (hacc _ hac) hls))
    | false =>
     rw [hls, cond_false] at e
     exact key a0 e (hacc _ hac) hls (.inr hac) (fun a ha => by rw [hac] at ha; injection ha with ha; exact .inl ha.symm)
theorem ext_in {r : List Int} {x : Int} : ∀ j i : Nat, (i : Int) ≤ x → x < ((i + j : Nat) : Int) → r ++ [x] ∈ extS r j i
 | 0, _, h1, h2 => by omega
 | j + 1, i, h1, h2 => by
  by_cases h : x = i
  ·subst h; exact List.mem_cons_self ..
  ·exact List.mem_cons_of_mem _ (ext_in j (i + 1) (by omega) (by omega))
theorem plans_all {l : Sl Stg} : ∀ n q, RowOk l n q → q ∈ plansS l.len n
 | 0, q, h => by
  have : q = [] := List.eq_nil_of_length_eq_zero h.1
  rw [this]; exact List.mem_singleton.2 rfl
 | n + 1, q, h => by
  have hn : n < q.length := by rw [h.1]; omega
  have htk : q = q.take n ++ [q.getD n 0] := by
   have e : q.take (n + 1) = q.take n ++ [q.getD n 0] := by
    rw [List.take_add_one, List.getElem?_eq_getElem hn, List.getD_eq_getElem?_getD, List.getElem?_eq_getElem hn]; rfl
   rw [← e, ← h.1, List.take_length]
  have h2 := rowOk_at h hn
  have i := plans_all (l := l) n (q.take n) ⟨by rw [List.length_take]; omega, fun x hx => h.2 x (List.mem_of_mem_take hx)⟩
  rw [plansS]
  refine List.mem_flatMap.2 ⟨q.take n, i, ?_⟩
  have hx := ext_in (r := q.take n) (x := q.getD n 0) l.len 0 (by omega) (by omega)
  rw [← htk] at hx
  exact hx
theorem planA_best {c : Cav} {l : Sl Stg} {w : Sl Int} : ∀ t n,
  (planA c l w t n = none → ∀ m q, n ≤ m → m < n + t → RowOk l m q → goodA c l.el w q = false) ∧
  ∀ r, planA c l w t n = some r → ∃ k, n ≤ k ∧ k < n + t ∧ RowOk l k r ∧ goodA c l.el w r = true ∧ ∀ m q, n ≤ m → m < n + t → RowOk l m q → goodA c l.el w q = true → k ≤ m ∧ (m = k → lessB l.el (slI q) (slI r) = false)
 | 0, n => ⟨fun _ m q h1 h2 => by omega, fun r h => by cases h⟩
 | t + 1, n => by
  obtain ⟨i1, i2⟩ := planA_best (c := c) (l := l) (w := w) t (n + 1)
  obtain ⟨f1, f2⟩ := fold_best (c := c) (l := l.el) (w := w) (n := n) (plansS l.len n) none (fun r hr => (plansS_ok n r hr).1) (fun b hb => by cases hb)
  rw [show planA c l w (t + 1) n = (match (plansS l.len n).foldl (stepA c l.el w) none with | some b => some b | none => planA c l w t (n + 1)) from rfl]
  cases hfo : (plansS l.len n).foldl (stepA c l.el w) none with
  | none =>
   have f1' := (f1 hfo).2
   refine ⟨fun h m q h1 h2 hq => ?_, fun r h => ?_⟩
   ·by_cases hm : m = n
    ·subst hm; exact f1' q (plans_all _ q hq)
    ·exact i1 h m q (by omega) (by omega) hq
   ·obtain ⟨k, k1, k2, k3, k4, k5⟩ := i2 r h
    refine ⟨k, by omega, by omega, k3, k4, fun m q h1 h2 hq hg => ?_⟩
    by_cases hm : m = n
    ·subst hm
     rw [f1' q (plans_all _ q hq)] at hg
     simp at hg
    ·exact k5 m q (by omega) (by omega) hq hg
  | some b =>
   obtain ⟨g1, g2, g3⟩ := f2 b hfo
   refine ⟨fun h => (by cases h), fun r h => ?_⟩
   injection h with h
   subst h
   rcases g1 with ⟨g1, g1'⟩ | g1
   ·refine ⟨n, Nat.le_refl _, by omega, plansS_ok n _ g1, g1', fun m q h1 h2 hq hg => ⟨h1, fun hm => ?_⟩⟩
    subst hm
    exact g2 q (plans_all _ q hq) hg
   ·cases g1
section
variable {c : Cav} (hc : CavOk c) {l : Sl Stg} (hl : ∀ i, i < l.len → StgOk c.slices.len (l.el i))
include hc hl
theorem mostG_ge {i : Nat} : ∀ n, ∀ j, j < n → n ≤ l.len → (rtRow c (l.el j) (pathN (l.el j)) i).lo * (l.el j).water * (c.slices.el i).opn ≤ mostG c l.el i n
 | 0, j, h, _ => by omega
 | n + 1, j, h, hn => by
  simp only [mostG]
  by_cases hj : j = n
  ·subst hj; omega
  ·have := mostG_ge (i := i) n j (by omega) (by omega)
   omega
theorem salt_most {r : List Int} (hr : ∀ i ∈ r, 0 ≤ i ∧ i < (l.len : Int)) {i : Nat} (hi : i < c.slices.len) : ∀ j, j ≤ r.length → (c.slices.el i).opn * (saltS c (stgF (msOf l.el r)) j i).lo ≤ j * mostG c l.el i l.len
 | 0, _ => by simp [saltS]
 | j + 1, h => by
  have ih := salt_most hr hi j (by omega)
  have hj : j < r.length := by omega
  have he : stgF (msOf l.el r) j = l.el (r.getD j 0).toNat := by
   unfold stgF msOf
   rw [List.getD_eq_getElem?_getD, List.getElem?_map, List.getElem?_eq_getElem hj, List.getD_eq_getElem?_getD, List.getElem?_eq_getElem hj]; rfl
  have hx : 0 ≤ r.getD j 0 ∧ r.getD j 0 < l.len := by
   rw [List.getD_eq_getElem?_getD, List.getElem?_eq_getElem hj]
   exact hr _ (List.getElem_mem hj)
  have hw := (hl (r.getD j 0).toNat (by omega)).1
  have hm := mostG_ge hc hl (i := i) l.len (r.getD j 0).toNat (by omega) (Nat.le_refl _)
  simp only [saltS, addS, he]
  have ht : (timesS (rtRow c (l.el (r.getD j 0).toNat) (pathN (l.el (r.getD j 0).toNat)) i) (l.el (r.getD j 0).toNat).water).lo = (l.el (r.getD j 0).toNat).water * (rtRow c (l.el (r.getD j 0).toNat) (pathN (l.el (r.getD j 0).toNat)) i).lo := by
   unfold timesS
   rw [if_neg (by omega)]
  rw [ht, Int.mul_add]
  have e : (c.slices.el i).opn * ((l.el (r.getD j 0).toNat).water * (rtRow c (l.el (r.getD j 0).toNat) (pathN (l.el (r.getD j 0).toNat)) i).lo) = (rtRow c (l.el (r.getD j 0).toNat) (pathN (l.el (r.getD j 0).toNat)) i).lo * (l.el (r.getD j 0).toNat).water * (c.slices.el i).opn := by
   rw [Int.mul_comm (l.el (r.getD j 0).toNat).water, Int.mul_comm]
  rw [e]
  have e2 : ((j + 1 : Nat) : Int) * mostG c l.el i l.len = j * mostG c l.el i l.len + mostG c l.el i l.len := by
   rw [Int.natCast_add, Int.add_mul]; simp
  omega
omit hc hl in
theorem allF_one {f : Nat → Bool} {j i : Nat} (h : allF f j i = true) {k : Nat} (h1 : i ≤ k) (h2 : k < i + j) : f k = true := (allF_iff f j i).1 h k h1 h2
theorem makes_vol {r : List Int} (hr : ∀ i ∈ r, 0 ≤ i ∧ i < (l.len : Int)) {w : Sl Int} (hw : w.len = c.slices.len) (h : makesB c l.el w r = true) {i : Nat} (hi : i < c.slices.len) : w.el i ≤ (volK c (stgF (msOf l.el r)) r.length i).lo := by
 have h1 := of_decide_eq_true (allF_one h (k := i) (by omega) (by omega))
 have hs : ∀ i, i < r.length → StgOk c.slices.len (stgF (msOf l.el r) i) := fun i hi => (stgF_ok hl hr hi).1
 rw [← bound_one2 hc hs, bound_one hc hi hs r.length (Nat.le_refl _)] at h1
 exact h1
theorem makes_of {r : List Int} (hr : ∀ i ∈ r, 0 ≤ i ∧ i < (l.len : Int)) {w : Sl Int} (hw : w.len = c.slices.len) (h : ∀ i, i < c.slices.len → w.el i ≤ (volK c (stgF (msOf l.el r)) r.length i).lo) : makesB c l.el w r = true := by
 have hs : ∀ i, i < r.length → StgOk c.slices.len (stgF (msOf l.el r) i) := fun i hi => (stgF_ok hl hr hi).1
 unfold makesB
 rw [allF_iff]
 intro k _ hk
 refine decide_eq_true ?_
 rw [← bound_one2 hc hs, bound_one hc (by omega) hs r.length (Nat.le_refl _)]
 exact h k (by omega)
theorem least_le {r : List Int} (hr : ∀ i ∈ r, 0 ≤ i ∧ i < (l.len : Int)) (h8 : r.length ≤ 8) {w : Sl Int} (hw : w.len = c.slices.len) (h : makesB c l.el w r = true) :
  ∀ j k out, k + j = c.slices.len → out ≤ (r.length : Int) → ∃ x, leastR c l w.el j k out = some x ∧ x ≤ r.length
 | 0, k, out, _, ho => ⟨out, rfl, ho⟩
 | j + 1, k, out, hk, ho => by
  have hv := makes_vol hc hl hr hw h (i := k) (by omega)
  have hs : ∀ i, i < r.length → StgOk c.slices.len (stgF (msOf l.el r) i) := fun i hi => (stgF_ok hl hr hi).1
  have hvk := volK_in hc hs h8 (k := k) (by omega)
  have hsm := salt_most hc hl hr (i := k) (by omega) r.length (Nat.le_refl _)
  have hmg := mostG_in hc hl (i := k) (by omega) l.len (Nat.le_refl _)
  unfold volK at hv
  rw [hvk.1] at hv
  simp only [addS] at hv
  simp only [leastR]
  by_cases h0 : w.el k - (c.slices.el k).vol.lo ≤ 0
  ·rw [if_pos h0]
   exact least_le hr h8 hw h j (k + 1) out (by omega) ho
  ·rw [if_neg h0]
   generalize hG : mostG c l.el k l.len = g at *
   have hle : w.el k - (c.slices.el k).vol.lo ≤ r.length * g := by omega
   by_cases hm : g = 0
   ·rw [hm, Int.mul_zero] at hle
    omega
   ·rw [if_neg hm]
    have hq : (w.el k - (c.slices.el k).vol.lo + g - 1) / g < (r.length : Int) + 1 := by
     refine Int.ediv_lt_of_lt_mul (by omega) ?_
     rw [Int.add_mul, Int.one_mul]
     omega
    exact least_le hr h8 hw h j (k + 1) _ (by omega) (by omega)
end
end Go.Sim.Le


namespace Go.Sim.Le
open Go.Proofs
variable (F d : Nat)
def volP (c : Cav) (n : Int) (i : Nat) : Int := (c.slices.el i).vol.lo + ((c.slices.el i).vol.hi - (c.slices.el i).vol.lo) / 100 * n
def rateP (c : Cav) (n : Int) (i : Nat) : Int := (c.slices.el i).rate.lo + ((c.slices.el i).rate.hi - (c.slices.el i).rate.lo) * n / 100
theorem part_in {x n : Int} (hx : 0 ≤ x) (hn : 0 ≤ n ∧ n ≤ 100) : (0 ≤ x / 100 * n ∧ x / 100 * n ≤ x) ∧ 0 ≤ x * n ∧ 0 ≤ x * n / 100 ∧ x * n / 100 ≤ x ∧ x * n ≤ x * 100 := by
 have h1 : 0 ≤ x / 100 := Int.ediv_nonneg hx (by omega)
 have h2 : x / 100 * n ≤ x / 100 * 100 := Int.mul_le_mul_of_nonneg_left hn.2 h1
 have h3 : x * n ≤ x * 100 := Int.mul_le_mul_of_nonneg_left hn.2 hx
 have h4 : 0 ≤ x / 100 * n := Int.mul_nonneg h1 hn.1
 have h5 : 0 ≤ x * n := Int.mul_nonneg hx hn.1
 refine ⟨⟨h4, by omega⟩, h5, by omega, by omega, h3⟩
def truthP (c : Cav) (n : Int) (k : Nat) : Truth := ⟨slK c.slices.len (vls (volP c n) c.slices.len), ⟨false, k, fun _ => slK c.slices.len (vls (rateP c n) c.slices.len)⟩⟩
section
variable {c : Cav} (hc : CavOk c) {n : Int} (hn : 0 ≤ n ∧ n ≤ 100)
include hc hn
theorem volP_in {i : Nat} (hi : i < c.slices.len) : (c.slices.el i).vol.lo ≤ volP c n i ∧ volP c n i ≤ (c.slices.el i).vol.hi := by
 have hv : SpanIn (c.slices.el i).vol 0 10000000000000 := (hc.2.2.2 i hi).1
 unfold SpanIn at hv
 have := part_in (x := (c.slices.el i).vol.hi - (c.slices.el i).vol.lo) (by omega) hn
 unfold volP
 omega
theorem rateP_in {i : Nat} (hi : i < c.slices.len) : (c.slices.el i).rate.lo ≤ rateP c n i ∧ rateP c n i ≤ (c.slices.el i).rate.hi := by
 have hv : SpanIn (c.slices.el i).rate 0 300 := (hc.2.2.2 i hi).2.2.2.1
 unfold SpanIn at hv
 have := part_in (x := (c.slices.el i).rate.hi - (c.slices.el i).rate.lo) (by omega) hn
 unfold rateP
 omega
theorem truthP_ok (k : Nat) : TruthOk c k (truthP c n k) := by
 refine ⟨rfl, rfl, fun i hi => ?_, fun _ _ => ⟨rfl, fun i hi => ?_⟩⟩
 ·have hi2 : i < c.slices.len := hi
  show _ ≤ (slK c.slices.len (vls (volP c n) c.slices.len)).el i ∧ (slK c.slices.len (vls (volP c n) c.slices.len)).el i ≤ _
  unfold vls
  rw [slI_map hi2]
  exact volP_in hc hn hi2
 ·show _ ≤ (slK c.slices.len (vls (rateP c n) c.slices.len)).el i ∧ (slK c.slices.len (vls (rateP c n) c.slices.len)).el i ≤ _
  unfold vls
  rw [slI_map hi]
  exact rateP_in hc hn hi
end
theorem const_app (k : Nat) (a : List V) : appGet k (fun _ => a) (fun _ => a) = fun _ => a := by
 funext i
 unfold appGet
 split <;> rfl
section
variable {c : Cav} (hc : CavOk c) {l : Sl Stg} (hL : l.len ≤ 6) (hl : ∀ i, i < l.len → StgOk c.slices.len (l.el i)) (w : Sl Int) (hw : w.len = c.slices.len) {n : Int} (hn : 0 ≤ n ∧ n ≤ 100) (hF : 1000000000 < F) (o : Sl Int)
include hc hl hw hn hF
theorem l18x6 (f : Nat → Int) (hf : ∀ i, i < c.slices.len → w.el i ≤ f i) (x1 x2 x3 x4 : Int) : ∀ j i fu, i + j = c.slices.len → j < fu →
  L18x6 (E F (d + 19)) F c l w n o fu i false c.slices.len 1 (fun i => [.int .i64 (f i)]) .i64 x1 .i64 x2 .i64 x3 .i64 x4 = some (.ret (.bool true)) := by
 have hcl := hc.1
 have q21 : (E F (d + 19)).pf 21 [] = _ := s21 F d hF
 intro j
 induction j with
 | zero =>
  intro i fu h hf
  obtain ⟨fu, rfl⟩ : ∃ k, fu = k + 1 := ⟨fu - 1, by omega⟩
  rw [L18x6s, decide_eq_false (by omega), pF, q21, tkOut_ret, tkBool_b]
 | succ j ih =>
  intro i fu h hf'
  obtain ⟨fu, rfl⟩ : ∃ k, fu = k + 1 := ⟨fu - 1, by omega⟩
  have h1 := hf i (by omega)
  have hS2 : IntKind.i64.wrap ((i : Int) + 1) = ((i + 1 : Nat) : Int) := wrS (by omega)
  rw [L18x6s]
  simp (disch := omega) only [decide_eq_true, decide_true, pT, Int.toNat_natCast, hS2, show ((1 : Nat) == 1) = true from rfl, tkCons_c, tkInt_i]
  rw [decide_eq_false (by omega), pF]
  exact ih (i + 1) fu (by omega) (by omega)
theorem l18x7 (r : List Int) (h5 : r.length ≤ 5) (hr : ∀ i ∈ r, 0 ≤ i ∧ i < (l.len : Int)) (hmk : makesB c l.el w r = true) : ∀ j i fu, i + j = r.length → j < fu →
  L18x7 (E F (d + 19)) F c l w n o fu false r.length 4 (gl eStg z0 (msOf l.el r)) c.slices.len i c.slices.len i c.slices.len (gl eInt 0 (vls (rateP c n) c.slices.len)) c.slices.len (gl eInt 0 (vls (volP c n) c.slices.len)) i (fun _ => [.row false c.slices.len 1 (gl eInt 0 (vls (rateP c n) c.slices.len))]) = some (.ret (.bool true)) := by
 have hcl := hc.1
 have hs : ∀ i, i < r.length → StgOk c.slices.len (stgF (msOf l.el r) i) := fun i hi => (stgF_ok hl hr hi).1
 intro j
 induction j with
 | zero =>
  intro i fu h hf
  obtain ⟨fu, rfl⟩ : ∃ k, fu = k + 1 := ⟨fu - 1, by omega⟩
  have hi : i = r.length := by omega
  subst hi
  have ht := truthP_ok hc hn r.length
  have hE : errP c ⟨false, r.length, stgF (msOf l.el r)⟩ true = 0 := errP_0.2 ⟨by show r.length ≤ 8; omega, hc, hs, rfl⟩
  have q44 := s44 F (d + 11) c ⟨false, r.length, stgF (msOf l.el r)⟩ (truthP c n r.length) (by show _ < 4611686018427387904; omega) (by omega) (by show r.length < 4611686018427387904; omega) (by show r.length < F; omega) (by show r.length < 4611686018427387904; omega) (by show r.length < F; omega) (by intro h; cases h) (by omega)
  rw [if_pos ⟨hE, ht⟩] at q44
  have q44' : (E F (d + 19)).pf 44 [.agg (eCav c), .row false r.length 4 (gl eStg z0 (msOf l.el r)), .agg [.row false c.slices.len 1 (gl eInt 0 (vls (volP c n) c.slices.len)), .row false r.length 1 (fun _ => [.row false c.slices.len 1 (gl eInt 0 (vls (rateP c n) c.slices.len))])]] = some (.ret (.tup [.agg (endV c (stgF (msOf l.el r)) (truthP c n r.length) r.length), .int .i64 0])) := q44
  have q45 : (E F (d + 19)).pf 45 [.agg (eCav c), .agg (endV c (stgF (msOf l.el r)) (truthP c n r.length) r.length)] = _ := s45 F (d + 18) hc (l := ⟨false, r.length, stgF (msOf l.el r)⟩) (by show r.length ≤ 8; omega) hs ht hF
  have e := fun x1 x2 x3 x4 => l18x6 F d hc hl w hw hn hF o (volS c (stgF (msOf l.el r)) (truthP c n r.length) r.length) (fun i hi => Int.le_trans (makes_vol hc hl hr hw hmk hi) (volT_in hc hs ht hi (Nat.le_refl _)).1) x1 x2 x3 x4 c.slices.len 0 F (by omega) (by omega)
  simp only [endV, sl, eInt] at q44' q45
  rw [L18x7s, decide_eq_false (by omega), pF]
  simp only [q44', q45, tkOut_ret, tkBool_b, tkTup_t, tkAgg_a, tkCons_c, tkInt_i, tkRow_r, tkNil_n, Bool.not_true, pF, decide_true, pT, z0']
  exact e _ _ _ _
 | succ j ih =>
  intro i fu h hf
  obtain ⟨fu, rfl⟩ : ∃ k, fu = k + 1 := ⟨fu - 1, by omega⟩
  have e := ih (i + 1) fu (by omega) (by omega)
  have hS2 : IntKind.i64.wrap ((i : Int) + 1) = ((i + 1 : Nat) : Int) := wrS (by omega)
  rw [L18x7s]
  simp (disch := omega) only [decide_eq_true, pT, hS2]
  rw [const_app]
  exact e
theorem l18x4 (r : List Int) (h5 : r.length ≤ 5) (hr : ∀ i ∈ r, 0 ≤ i ∧ i < (l.len : Int)) (hmk : makesB c l.el w r = true) (b : Bool) (wd : Nat) (g : Nat → List V) (hrow : (r = [] ∧ b = true ∧ wd = 0 ∧ g = fun _ => []) ∨ (r ≠ [] ∧ b = false ∧ wd = 4 ∧ g = gl eStg z0 (msOf l.el r))) : ∀ fu, 100 < fu →
  L18x4 (E F (d + 19)) F c l w n o fu b r.length wd g c.slices.len c.slices.len c.slices.len (gl eInt 0 (vls (rateP c n) c.slices.len)) c.slices.len (gl eInt 0 (vls (volP c n) c.slices.len)) = some (.ret (.bool true)) := by
 intro fu hf
 have hcl := hc.1
 obtain ⟨fu, rfl⟩ : ∃ k, fu = k + 1 := ⟨fu - 1, by omega⟩
 rcases hrow with ⟨rfl, rfl, rfl, rfl⟩ | ⟨hne, rfl, rfl, rfl⟩
 ·have ht : TruthOk c 0 (truthP c n 0) := truthP_ok hc hn 0
  have q44 := s440 F (d + 12) hc hF (slK c.slices.len (vls (volP c n) c.slices.len)) rfl rfl ht.2.2.1
  have q44' : (E F (d + 19)).pf 44 [.agg (eCav c), .row true 0 0 (fun _ => []), .agg [.row false c.slices.len 1 (gl eInt 0 (vls (volP c n) c.slices.len)), .row true 0 0 (fun _ => [])]] = some (.ret (.tup [.agg [sl eInt 1 ⟨false, c.slices.len, (slK c.slices.len (vls (volP c n) c.slices.len)).el⟩, .int .i64 0, .int .i64 0, .int .i64 0, .int .i64 0], .int .i64 0])) := q44
  have q45 := s45 F (d + 18) hc (l := ⟨true, 0, fun _ => z0⟩) (by show 0 ≤ 8; omega) (fun i hi => by have : i < 0 := hi; omega) ht hF
  have q45' : (E F (d + 19)).pf 45 [.agg (eCav c), .agg [sl eInt 1 ⟨false, c.slices.len, (slK c.slices.len (vls (volP c n) c.slices.len)).el⟩, .int .i64 0, .int .i64 0, .int .i64 0, .int .i64 0]] = some (.ret (.bool true)) := q45
  have e := fun x1 x2 x3 x4 => l18x6 F d hc hl w hw hn hF o (slK c.slices.len (vls (volP c n) c.slices.len)).el (fun i hi => by
   refine Int.le_trans (makes_vol hc hl hr hw hmk hi) ?_
   have h1 := (ht.2.2.1 i hi).1
   have h2 : (volK c (stgF (msOf l.el [])) ([] : List Int).length i).lo = (c.slices.el i).vol.lo := by
    show (c.slices.el i).vol.lo + (timesS ⟨0, 0⟩ (c.slices.el i).opn).lo = _
    unfold timesS
    split <;> simp
   rw [h2]
   exact h1) x1 x2 x3 x4 c.slices.len 0 F (by omega) (by omega)
  simp only [sl, eInt] at q44' q45'
  rw [L18x4s]
  simp only [List.length_nil, Int.natCast_zero]
  rw [decide_eq_false (by omega), pF]
  simp only [q44', q45', tkOut_ret, tkBool_b, tkTup_t, tkAgg_a, tkCons_c, tkInt_i, tkRow_r, tkNil_n, Bool.not_true, pF, decide_true, pT, z0']
  exact e _ _ _ _
 ·have hrl : 0 < r.length := List.length_pos_iff.2 hne
  have e := l18x7 F d hc hl w hw hn hF o r h5 hr hmk (r.length - 1) 1 fu (by omega) (by omega)
  rw [L18x4s, decide_eq_true (by omega), pT, wr (n := (0 : Int) + 1) (by omega)]
  exact e
theorem l18x2 (r : List Int) (h5 : r.length ≤ 5) (hr : ∀ i ∈ r, 0 ≤ i ∧ i < (l.len : Int)) (hmk : makesB c l.el w r = true) (b : Bool) (wd : Nat) (g : Nat → List V) (hrow : (r = [] ∧ b = true ∧ wd = 0 ∧ g = fun _ => []) ∨ (r ≠ [] ∧ b = false ∧ wd = 4 ∧ g = gl eStg z0 (msOf l.el r))) :
  ∀ j i fu, i + j = c.slices.len → 1 ≤ i → j < fu →
  L18x2 (E F (d + 19)) F c l w n o fu b r.length wd g i i i i (gl eInt 0 (vls (rateP c n) i)) i (gl eInt 0 (vls (volP c n) i)) = some (.ret (.bool true)) := by
 have hcl := hc.1
 intro j
 induction j with
 | zero =>
  intro i fu h h1 hf
  obtain ⟨fu, rfl⟩ : ∃ k, fu = k + 1 := ⟨fu - 1, by omega⟩
  have hi : i = c.slices.len := by omega
  subst hi
  rw [L18x2s, decide_eq_false (by omega), pF]
  exact l18x4 F d hc hl w hw hn hF o r h5 hr hmk b wd g hrow F (by omega)
 | succ j ih =>
  intro i fu h h1 hf
  obtain ⟨fu, rfl⟩ : ∃ k, fu = k + 1 := ⟨fu - 1, by omega⟩
  have e := ih (i + 1) fu (by omega) (by omega) (by omega)
  have hv : SpanIn (c.slices.el i).vol 0 10000000000000 := (hc.2.2.2 i (by omega)).1
  have hr' : SpanIn (c.slices.el i).rate 0 300 := (hc.2.2.2 i (by omega)).2.2.2.1
  unfold SpanIn at hv hr'
  have p1 := part_in (x := (c.slices.el i).vol.hi - (c.slices.el i).vol.lo) (by omega) hn
  have p2 := part_in (x := (c.slices.el i).rate.hi - (c.slices.el i).rate.lo) (by omega) hn
  have hS2 : IntKind.i64.wrap ((i : Int) + 1) = ((i + 1 : Nat) : Int) := wrS (by omega)
  have ev : IntKind.i64.wrap ((c.slices.el i).vol.lo + IntKind.i64.wrap (IntKind.i64.wrap (Int.tdiv (IntKind.i64.wrap ((c.slices.el i).vol.hi - (c.slices.el i).vol.lo)) 100) * n)) = volP c n i := by
   rw [wr (n := (c.slices.el i).vol.hi - (c.slices.el i).vol.lo) (by omega), Int.tdiv_eq_ediv_of_nonneg (by omega), wr (n := ((c.slices.el i).vol.hi - (c.slices.el i).vol.lo) / 100) (by omega), wr (n := ((c.slices.el i).vol.hi - (c.slices.el i).vol.lo) / 100 * n) (by omega), wr (by omega)]; rfl
  have er : IntKind.i64.wrap ((c.slices.el i).rate.lo + IntKind.i64.wrap (Int.tdiv (IntKind.i64.wrap (IntKind.i64.wrap ((c.slices.el i).rate.hi - (c.slices.el i).rate.lo) * n)) 100)) = rateP c n i := by
   rw [wr (n := (c.slices.el i).rate.hi - (c.slices.el i).rate.lo) (by omega), wr (n := ((c.slices.el i).rate.hi - (c.slices.el i).rate.lo) * n) (by omega), Int.tdiv_eq_ediv_of_nonneg (by omega), wr (n := ((c.slices.el i).rate.hi - (c.slices.el i).rate.lo) * n / 100) (by omega), wr (by omega)]; rfl
  rw [vls_snoc, vls_snoc, ← gl_snoc (e := eInt) (z := 0) (m := rateP c n i) (k := i) (vls_len ..) rfl, ← gl_snoc (e := eInt) (z := 0) (m := volP c n i) (k := i) (vls_len ..) rfl] at e
  rw [L18x2s]
  simp (disch := omega) only [decide_eq_true, decide_true, pT, Int.toNat_natCast, hS2, ev, er]
  exact e
theorem l18x1 (r : List Int) (h5 : r.length ≤ 5) (hr : ∀ i ∈ r, 0 ≤ i ∧ i < (l.len : Int)) (hmk : makesB c l.el w r = true) (b : Bool) (wd : Nat) (g : Nat → List V) (hrow : (r = [] ∧ b = true ∧ wd = 0 ∧ g = fun _ => []) ∨ (r ≠ [] ∧ b = false ∧ wd = 4 ∧ g = gl eStg z0 (msOf l.el r))) :
  L18x1 (E F (d + 19)) F c l w n o F b r.length wd g = some (.ret (.bool true)) := by
 have hcl := hc.1
 obtain ⟨F, rfl⟩ : ∃ k, F = k + 1 := ⟨F - 1, by omega⟩
 have e := l18x2 (F + 1) d hc hl w hw hn hF o r h5 hr hmk b wd g hrow (c.slices.len - 1) 1 F (by omega) (by omega) (by omega)
 have hv : SpanIn (c.slices.el 0).vol 0 10000000000000 := (hc.2.2.2 0 (by omega)).1
 have hr' : SpanIn (c.slices.el 0).rate 0 300 := (hc.2.2.2 0 (by omega)).2.2.2.1
 unfold SpanIn at hv hr'
 have p1 := part_in (x := (c.slices.el 0).vol.hi - (c.slices.el 0).vol.lo) (by omega) hn
 have p2 := part_in (x := (c.slices.el 0).rate.hi - (c.slices.el 0).rate.lo) (by omega) hn
 have ev : IntKind.i64.wrap ((c.slices.el 0).vol.lo + IntKind.i64.wrap (IntKind.i64.wrap (Int.tdiv (IntKind.i64.wrap ((c.slices.el 0).vol.hi - (c.slices.el 0).vol.lo)) 100) * n)) = volP c n 0 := by
  rw [wr (n := (c.slices.el 0).vol.hi - (c.slices.el 0).vol.lo) (by omega), Int.tdiv_eq_ediv_of_nonneg (by omega), wr (n := ((c.slices.el 0).vol.hi - (c.slices.el 0).vol.lo) / 100) (by omega), wr (n := ((c.slices.el 0).vol.hi - (c.slices.el 0).vol.lo) / 100 * n) (by omega), wr (by omega)]; rfl
 have er : IntKind.i64.wrap ((c.slices.el 0).rate.lo + IntKind.i64.wrap (Int.tdiv (IntKind.i64.wrap (IntKind.i64.wrap ((c.slices.el 0).rate.hi - (c.slices.el 0).rate.lo) * n)) 100)) = rateP c n 0 := by
  rw [wr (n := (c.slices.el 0).rate.hi - (c.slices.el 0).rate.lo) (by omega), wr (n := ((c.slices.el 0).rate.hi - (c.slices.el 0).rate.lo) * n) (by omega), Int.tdiv_eq_ediv_of_nonneg (by omega), wr (n := ((c.slices.el 0).rate.hi - (c.slices.el 0).rate.lo) * n / 100) (by omega), wr (by omega)]; rfl
 rw [show vls (rateP c n) 1 = [rateP c n 0] from rfl, show vls (volP c n) 1 = [volP c n 0] from rfl, ← gl_one rfl, ← gl_one rfl] at e
 rw [L18x1s]
 simp (disch := omega) only [decide_eq_true, decide_true, pT, ev, er, wr (n := (0 : Int) + 1)]
 exact e
omit hn hw in
include hL in
theorem told (r : List Int) (h5 : r.length ≤ 5) (hr : ∀ i ∈ r, 0 ≤ i ∧ i < (l.len : Int)) :
  ∃ b wd g, ((r = [] ∧ b = true ∧ wd = 0 ∧ g = fun _ => []) ∨ (r ≠ [] ∧ b = false ∧ wd = 4 ∧ g = gl eStg z0 (msOf l.el r))) ∧
   (E F (d + 19)).pf 52 [sl eStg 4 l, .row (rb r) r.length (rwd r) (rg r)] = some (.ret (.row b r.length wd g)) ∧
   (∃ x y, (E F (d + 19)).pf 30 [.agg (eCav c), .row b r.length wd g] = some (.ret (.tup [.int .i64 x, .int .i64 (faultR c (stgF (msOf l.el r)) r.length 0).2.1, .int .i64 y, .int .i64 0]))) ∧
   (E F (d + 19)).pf 42 [.agg (eCav c), .row b r.length wd g] = some (.ret (.tup [.agg (afterV c (stgF (msOf l.el r)) r.length), .int .i64 0])) ∧
   (E F (d + 19)).pf 51 [sl eStg 4 l, .row (rb r) r.length (rwd r) (rg r)] = some (.ret (.bool true)) := by
 have hcl := hc.1
 cases hr0 : r with
 | nil =>
  refine ⟨true, 0, fun _ => [], .inl ⟨rfl, rfl, rfl, rfl⟩, s52n F (d + 18) l (by omega), ⟨-1, 0, s300 F (d + 12) hc hF⟩, s420 F (d + 4) hc hF, s510 F (d + 18) hF l⟩
 | cons a r0 =>
  have hne : r ≠ [] := by rw [hr0]; simp
  have hrl : 0 < r.length := List.length_pos_iff.2 hne
  rw [← hr0, rb_own hne, rw_own hne, rg_own hne]
  have hs : ∀ i, i < r.length → StgOk c.slices.len (stgF (msOf l.el r) i) := fun i hi => (stgF_ok hl hr hi).1
  have hE : errP c ⟨false, r.length, stgF (msOf l.el r)⟩ true = 0 := errP_0.2 ⟨by show r.length ≤ 8; omega, hc, hs, rfl⟩
  have hP : PlOk l (slI r) := fun i hi => by rw [slI_el hi]; exact rowOk_at (n := r.length) ⟨rfl, hr⟩ hi
  have e52 := s52 F (d + 18) l (slI r) hP hrl (by show r.length ≤ 1000; omega) (by omega)
  rw [pickS_I] at e52
  have e30 := s30 F (d + 1) c ⟨false, r.length, stgF (msOf l.el r)⟩ (by show _ < 4611686018427387904; omega) (by omega) (by show r.length < 4611686018427387904; omega) (by show r.length < F; omega) (by omega)
  rw [if_pos hE] at e30
  have e42 := s42 F (d + 4) c ⟨false, r.length, stgF (msOf l.el r)⟩ (by show _ < 4611686018427387904; omega) (by omega) (by show r.length < 4611686018427387904; omega) (by show r.length < F; omega) hF
  rw [if_pos hE] at e42
  have e51 : (E F (d + 19)).pf 51 [sl eStg 4 l, .row false r.length 1 (gl eInt 0 r)] = some (.ret (.bool (decide (PlOk l (slI r) ∧ r.length ≤ 5)))) := by
   exact s51 F (d + 17) l (slI r) (by show r.length ≤ 1000; omega) (by show l.len < 4611686018427387904; omega) (by omega)
  rw [decide_eq_true ⟨hP, h5⟩] at e51
  exact ⟨false, 4, gl eStg z0 (msOf l.el r), .inr ⟨hne, rfl, rfl, rfl⟩, e52, ⟨_, _, e30⟩, e42, e51⟩
end
end Go.Sim.Le


namespace Go.Sim.Le
open Go.Proofs
variable (F d : Nat)
def listO (o : Sl Int) : List Int := (List.range o.len).map o.el
theorem listO_len (o : Sl Int) : (listO o).length = o.len := by simp [listO]
theorem listO_el (o : Sl Int) {i : Nat} (h : i < o.len) : (listO o).getD i 0 = o.el i := by
 unfold listO
 rw [List.getD_eq_getElem?_getD, List.getElem?_map, List.getElem?_range h]; rfl
theorem pick_O (l : Nat → Stg) (o : Sl Int) : pickS l o o.len = msOf l (listO o) := by
 simp only [pickS, msOf, listO, List.map_map]
 rfl
theorem listO_ok {l : Sl Stg} {o : Sl Int} (h : PlOk l o) : RowOk l o.len (listO o) := ⟨listO_len o, fun x hx => by
 obtain ⟨i, hi, rfl⟩ := List.mem_map.1 hx
 exact h i (List.mem_range.1 hi)⟩
theorem watW_cong {l : Nat → Stg} {a b : Sl Int} : ∀ k, (∀ i, i < k → a.el i = b.el i) → watW l a k = watW l b k
 | 0, _ => rfl
 | k + 1, h => by
  simp only [watW]
  rw [watW_cong k fun i hi => h i (by omega), h k (by omega)]
theorem lessO (l : Nat → Stg) (o : Sl Int) (b : Sl Int) : lessB l o b = lessB l (slI (listO o)) b := by
 have hel : ∀ i, i < o.len → o.el i = (slI (listO o)).el i := fun i hi => by
  rw [slI_el (by rw [listO_len]; exact hi), listO_el o hi]
 have hlen : (slI (listO o)).len = o.len := listO_len o
 unfold lessB
 rw [hlen, ← watW_cong o.len hel, lex_cong (a := o.el) (a' := (slI (listO o)).el) (b := b.el) (b' := b.el) o.len 0 fun k _ hk => ⟨hel k (by omega), rfl⟩]
section
variable {c : Cav} (hc : CavOk c) {l : Sl Stg} (hL : l.len ≤ 6) (hl : ∀ i, i < l.len → StgOk c.slices.len (l.el i)) (w : Sl Int) (hw : w.len = c.slices.len) {n : Int} (hn : 0 ≤ n ∧ n ≤ 100) (hF : 1000000000 < F) (o : Sl Int)
include hc hL hl hF
theorem told2 (ho : PlOk l o) (h5 : o.len ≤ 5) :
  ∃ b wd g, (E F (d + 19)).pf 52 [sl eStg 4 l, sl eInt 1 o] = some (.ret (.row b o.len wd g)) ∧
   (∃ x y, (E F (d + 19)).pf 30 [.agg (eCav c), .row b o.len wd g] = some (.ret (.tup [.int .i64 x, .int .i64 (faultR c (stgF (msOf l.el (listO o))) o.len 0).2.1, .int .i64 y, .int .i64 0]))) ∧
   (E F (d + 19)).pf 42 [.agg (eCav c), .row b o.len wd g] = some (.ret (.tup [.agg (afterV c (stgF (msOf l.el (listO o))) o.len), .int .i64 0])) := by
 obtain ⟨b, wd, g, hrow, _, e30, e42, _⟩ := told F d hc hL hl hF (listO o) (by rw [listO_len]; exact h5) (listO_ok ho).2
 rw [listO_len] at e30 e42
 refine ⟨b, wd, g, ?_, e30, e42⟩
 rcases hrow with ⟨h1, rfl, rfl, rfl⟩ | ⟨h1, rfl, rfl, rfl⟩
 ·have h0 : o.len = 0 := by rw [← listO_len o, h1]; rfl
  rw [h0]
  exact s52e F (d + 18) l o h0 (by omega)
 ·have h0 : 0 < o.len := by rw [← listO_len o]; exact List.length_pos_iff.2 h1
  have e := s52 F (d + 18) l o ho h0 (by omega) (by omega)
  rw [pick_O] at e
  exact e
include hw
theorem l18x0 (nS : Bool) (kS wS : Nat) (gS : Nat → List V) (vk : Nat → Span) (x1 x2 : Int) (R : Option Out) : ∀ j i fu b, i + j = w.len → j < fu →
  (L18x0 (E F (d + 19)) F c l w n o 1 (b && allF (fun i => decide (w.el i ≤ (vk i).lo)) j i) w.len nS kS wS gS false c.slices.len 2 (fun i => eSpan (vk i)) .i64 x1 .i64 x2 = R) →
  L18x0 (E F (d + 19)) F c l w n o fu b i nS kS wS gS false c.slices.len 2 (fun i => eSpan (vk i)) .i64 x1 .i64 x2 = R := by
 have hcl := hc.1
 intro j
 induction j with
 | zero =>
  intro i fu b h hf K
  obtain ⟨fu, rfl⟩ : ∃ k, fu = k + 1 := ⟨fu - 1, by omega⟩
  have hi : i = w.len := by omega
  subst hi
  simp only [allF, Bool.and_true] at K
  rw [show (1 : Nat) = 0 + 1 from rfl, L18x0s, decide_eq_false (by omega), pF] at K
  rw [L18x0s, decide_eq_false (by omega), pF]
  exact K
 | succ j ih =>
  intro i fu b h hf K
  obtain ⟨fu, rfl⟩ : ∃ k, fu = k + 1 := ⟨fu - 1, by omega⟩
  have hS2 : IntKind.i64.wrap ((i : Int) + 1) = ((i + 1 : Nat) : Int) := wrS (by omega)
  rw [L18x0s, decide_eq_true (by omega), pT]
  cases b with
  | false =>
   rw [pF, hS2]
   refine ih (i + 1) fu false (by omega) (by omega) ?_
   rw [Bool.false_and] at K ⊢
   exact K
  | true =>
   rw [pT]
   simp (disch := omega) only [decide_eq_true, decide_true, pT, Int.toNat_natCast, hS2, show ((2 : Nat) == 2) = true from rfl, tkCons_c, tkInt_i]
   refine ih (i + 1) fu _ (by omega) (by omega) ?_
   simp only [allF, Bool.true_and] at K
   have : decide ((vk i).lo ≥ w.el i) = decide (w.el i ≤ (vk i).lo) := rfl
   rw [this]
   exact K
end
theorem s18 (c : Cav) (l : Sl Stg) (w : Sl Int) (n : Int) (o : Sl Int) (hC : c.slices.len < Big) (hCF : c.slices.len < F) (hB : l.len < Big) (hLF : l.len < F) (hW : w.len < Big) (hWF : w.len < F) (hF : 1000000000 < F) : (E F (d + 20)).pf 18 [.agg (eCav c), sl eStg 4 l, sl eInt 1 w, .int .i64 n, sl eInt 1 o] = some (.ret (.bool true)) := by
 have q19 : (E F (d + 19)).pf 19 [.agg (eCav c)] = _ := s19 F (d + 18) c
 have q21 : (E F (d + 19)).pf 21 [] = _ := s21 F d hF
 have q33 : (E F (d + 19)).pf 33 [.agg (eCav c), sl eStg 4 l, sl eInt 1 w] = _ := s33 F (d + 1) c l w hC hCF hB hLF hW hWF (by omega)
 have q36 : (E F (d + 19)).pf 36 [.agg (eCav c), sl eStg 4 l, sl eInt 1 w] = _ := s36 F (d + 11) c l w hC hCF hB hLF hW hWF (by omega)
 have q32 : (E F (d + 19)).pf 32 [.agg (eCav c), sl eStg 4 l, sl eInt 1 w] = _ := s32 F (d + 15) c l w hC hCF hB hLF hW hWF
 rw [E_pf, t18]
 by_cases h0 : c.slices.len ≤ 20
 case neg =>
  rw [decide_eq_false h0] at q19
  simp only [q19, q21, tkOut_ret, tkBool_b, Bool.not_false, pT]
 rw [decide_eq_true h0] at q19
 by_cases h1 : (l.len : Int) > 3
 ·simp only [q19, q21, tkOut_ret, tkBool_b, Bool.not_true, pF, decide_eq_true h1, pT]
 by_cases h2 : (w.len : Int) > 20
 ·simp only [q19, q21, tkOut_ret, tkBool_b, Bool.not_true, pF, decide_eq_false h1, decide_eq_true h2, pT]
 by_cases h3 : (o.len : Int) > 20
 ·simp only [q19, q21, tkOut_ret, tkBool_b, Bool.not_true, pF, decide_eq_false h1, decide_eq_false h2, decide_eq_true h3, pT]
 simp only [q19, q32, tkOut_ret, tkBool_b, tkInt_i, Bool.not_true, pF, decide_eq_false h1, decide_eq_false h2, decide_eq_false h3, decide_true, pT]
 by_cases h4 : errM c l w = 0
 case neg =>
  have e1 : (errM c l w != 0) = true := by simpa using h4
  simp only [e1, pT, q21, tkOut_ret, tkBool_b]
 obtain ⟨h6, hc, h1', hl, hw⟩ := errM_0.1 h4
 rw [if_pos h4, planX_A] at q33
 rw [if_pos h4] at q36
 rw [h4, z0']
 by_cases g1 : (c.slices.len : Int) > 4
 ·simp only [decide_eq_true g1, pT, q21, tkOut_ret, tkBool_b]
 by_cases g2 : c.hold > 40
 ·simp only [decide_eq_false g1, pF, decide_eq_true g2, pT, q21, tkOut_ret, tkBool_b]
 by_cases g3 : n < 0
 ·simp only [decide_eq_false g1, pF, decide_eq_false g2, decide_eq_true g3, pT, q21, tkOut_ret, tkBool_b]
 by_cases g4 : n > 100
 ·simp only [decide_eq_false g1, pF, decide_eq_false g2, decide_eq_false g3, decide_eq_true g4, pT, q21, tkOut_ret, tkBool_b]
 have hn : 0 ≤ n ∧ n ≤ 100 := by omega
 have hwl := hw.2
 have q51 : (E F (d + 19)).pf 51 [sl eStg 4 l, sl eInt 1 o] = _ := s51 F (d + 17) l o (by omega) hB (by omega)
 simp only [decide_eq_false g1, decide_eq_false g2, decide_eq_false g3, decide_eq_false g4, pF, q51, tkOut_ret, tkBool_b]
 obtain ⟨b1, b2⟩ := planA_best (c := c) (l := l) (w := w) 6 0
 have half : ∀ own : Bool, (own = true → (PlOk l o ∧ o.len ≤ 5) ∧ goodA c l.el w (listO o) = true) → (PlOk l o ∧ o.len ≤ 5 → goodA c l.el w (listO o) = true → own = true) →
   (planA c l w 6 0 = none ∧ own = false ∧ (∃ x y, (E F (d + 19)).pf 36 [.agg (eCav c), sl eStg 4 l, sl eInt 1 w] = some (.ret (.tup [.int .i64 x, .int .i64 y])))) ∨
   ∃ r, planA c l w 6 0 = some r ∧ (r.length ≤ 5 ∧ (∀ i ∈ r, 0 ≤ i ∧ i < (l.len : Int)) ∧ goodA c l.el w r = true) ∧ (∃ x, (E F (d + 19)).pf 36 [.agg (eCav c), sl eStg 4 l, sl eInt 1 w] = some (.ret (.tup [.int .i64 x, .int .i64 0])) ∧ x ≤ r.length ∧ (own = true → x ≤ o.len)) ∧
    (own = true → (E F (d + 19)).pf 53 [sl eStg 4 l, sl eInt 1 o, .row (rb r) r.length (rwd r) (rg r)] = some (.ret (.bool false))) := by
  intro own hown hown2
  cases hx : planA c l w 6 0 with
  | none =>
   refine .inl ⟨rfl, ?_, ?_⟩
   ·cases hb : own with
    | false => rfl
    | true =>
     obtain ⟨⟨p1, p2⟩, p3⟩ := hown hb
     rw [b1 hx o.len (listO o) (by omega) (by omega) (listO_ok p1)] at p3
     exact absurd p3 (by simp)
   ·cases hlx : leastX c l w with
    | none => rw [hlx] at q36; exact ⟨_, _, q36⟩
    | some x => rw [hlx] at q36; exact ⟨_, _, q36⟩
  | some r =>
   obtain ⟨k, _, k2, k3, k4, k5⟩ := b2 r hx
   have hrl := k3.1
   have k4' := k4
   unfold goodA at k4'
   simp only [Bool.and_eq_true] at k4'
   obtain ⟨x, x1, x2⟩ := least_le hc hl k3.2 (by omega) hwl k4'.2 c.slices.len 0 0 (by omega) (by omega)
   have hlx : leastX c l w = some x := x1
   rw [hlx] at q36
   refine .inr ⟨r, rfl, ⟨by omega, k3.2, k4⟩, ⟨x, q36, x2, fun hb => ?_⟩, fun hb => ?_⟩
   ·obtain ⟨⟨p1, p2⟩, p3⟩ := hown hb
    have p3' := p3
    unfold goodA at p3'
    simp only [Bool.and_eq_true] at p3'
    obtain ⟨x', y1, y2⟩ := least_le hc hl (listO_ok p1).2 (by rw [listO_len]; omega) hwl p3'.2 c.slices.len 0 0 (by omega) (by omega)
    rw [x1] at y1
    injection y1 with y1
    rw [listO_len] at y2
    omega
   ·obtain ⟨⟨p1, p2⟩, p3⟩ := hown hb
    obtain ⟨m1, m2⟩ := k5 o.len (listO o) (by omega) (by omega) (listO_ok p1) p3
    cases hr0 : r with
    | nil => exact s530 F (d + 17) hF l hl o p1 (by omega)
    | cons a r0 =>
     have hne : r ≠ [] := by rw [hr0]; simp
     rw [← hr0, rb_own hne, rw_own hne, rg_own hne]
     have hP : PlOk l (slI r) := fun i hi => by rw [slI_el hi]; exact rowOk_at k3 hi
     have e := s53 F (d + 17) l hl o (slI r) p1 hP (by omega) (by show r.length ≤ 1000; omega) (by omega)
     have e2 : lessB l.el o (slI r) = false := by
      by_cases hm : o.len = k
      ·rw [lessO]; exact m2 hm
      ·unfold lessB
       rw [if_pos (by show o.len ≠ r.length; omega)]
       exact decide_eq_false (by show ¬ o.len < r.length; omega)
     rw [e2] at e
     exact e
 by_cases hO : PlOk l o ∧ o.len ≤ 5
 ·rw [decide_eq_true hO, pT]
  obtain ⟨b, wd, g, e52, ⟨x, y, e30⟩, e42⟩ := told2 F d hc h6 hl hF o hO.1 hO.2
  simp only [afterV, sl] at e42
  simp only [e52, e30, e42, tkOut_ret, tkBool_b, tkTup_t, tkAgg_a, tkCons_c, tkInt_i, tkRow_r, tkNil_n, decide_true, pT, z0']
  rw [show (((tabP (volK c (stgF (msOf l.el (listO o))) o.len) c.slices.len).len : Nat) : Int) = ((c.slices.len : Nat) : Int) from rfl, show (((c.slices.len : Nat) : Int) != ((w.len : Nat) : Int)) = false by rw [hwl]; simp, pF]
  have hs : ∀ i, i < o.len → StgOk c.slices.len (stgF (msOf l.el (listO o)) i) := fun i hi => (stgF_ok hl (listO_ok hO.1).2 (by rw [listO_len]; exact hi)).1
  refine l18x0 F d hc h6 hl w hwl hF o _ _ _ _ (tabP (volK c (stgF (msOf l.el (listO o))) o.len) c.slices.len).el _ _ _ w.len 0 F _ (by omega) (by omega) ?_
  have hownE : (((faultR c (stgF (msOf l.el (listO o))) o.len 0).2.1 == 1) && allF (fun i => decide (w.el i ≤ ((tabP (volK c (stgF (msOf l.el (listO o))) o.len) c.slices.len).el i).lo)) w.len 0) = goodA c l.el w (listO o) := by
   refine Go.Sim.Le.b2 ?_
   unfold goodA fineA
   rw [Bool.and_eq_true, Bool.and_eq_true, listO_len, beq_iff_eq, decide_eq_true_iff, allF_iff]
   constructor
   ·rintro ⟨p1, p2⟩
    refine ⟨p1, makes_of hc hl (listO_ok hO.1).2 hwl fun i hi => ?_⟩
    have := of_decide_eq_true (p2 i (by omega) (by omega))
    rw [tabP_el _ hi] at this
    rw [listO_len]
    exact this
   ·rintro ⟨p1, p2⟩
    refine ⟨p1, fun i _ hi => decide_eq_true ?_⟩
    have hi' : i < c.slices.len := by omega
    rw [tabP_el _ hi']
    have := makes_vol hc hl (listO_ok hO.1).2 hwl p2 hi'
    rw [listO_len] at this
    exact this
  rw [hownE]
  generalize hown : goodA c l.el w (listO o) = own
  rw [show (1 : Nat) = 0 + 1 from rfl, L18x0s, decide_eq_false (by omega), pF]
  rcases half own (fun h => ⟨hO, by rw [hown]; exact h⟩) (fun _ h => by rw [← hown]; exact h) with ⟨hx, ho, x, y, q36'⟩ | ⟨r, hx, ⟨r1, r2, r3⟩, ⟨x, q36', x1, x2⟩, q53⟩
  ·rw [hx] at q33
   simp only [planOut] at q33
   simp only [q33, q36', tkOut_ret, tkBool_b, tkTup_t, tkAgg_a, tkCons_c, tkInt_i, tkRow_r, tkNil_n, decide_true, pT, show ((5 : Int) != 0) = true from rfl, beq_self_eq_true, ho, Bool.not_false, q21]
  ·rw [hx] at q33
   simp only [planOut] at q33
   obtain ⟨b', wd', g', hrow, e52r, ⟨x', y', e30r⟩, _, e51r⟩ := told F d hc h6 hl hF r r1 r2
   have r3' := r3
   unfold goodA at r3'
   simp only [Bool.and_eq_true] at r3'
   have hfine : (faultR c (stgF (msOf l.el r)) r.length 0).2.1 = 1 := of_decide_eq_true r3'.1
   rw [hfine] at e30r
   have e1 := l18x1 F d hc hl w hwl hn hF o r r1 r2 r3'.2 b' wd' g' hrow
   simp only [q33, q36', e51r, tkOut_ret, tkBool_b, tkTup_t, tkAgg_a, tkCons_c, tkInt_i, tkRow_r, tkNil_n, decide_true, pT, z0', Bool.not_true, pF]
   rw [decide_eq_false (show ¬ (r.length : Int) < x by omega), pF]
   cases hb : own with
   | true =>
    have x2' := x2 hb
    rw [pT]
    simp only [q53 hb, e52r, e30r, decide_eq_false (show ¬ (o.len : Int) < x by omega), tkOut_ret, tkBool_b, tkTup_t, tkAgg_a, tkCons_c, tkInt_i, tkRow_r, tkNil_n, decide_true, pT, z0', pF, show ((1 : Int) != 1) = false from rfl]
    exact e1
   | false =>
    rw [pF]
    simp only [e52r, e30r, tkOut_ret, tkBool_b, tkTup_t, tkAgg_a, tkCons_c, tkInt_i, tkRow_r, tkNil_n, decide_true, pT, z0', pF, show ((1 : Int) != 1) = false from rfl]
    exact e1
 ·rw [decide_eq_false hO, pF]
  rcases half false (fun h => by cases h) (fun h => (hO h).elim) with ⟨hx, ho, x, y, q36'⟩ | ⟨r, hx, ⟨r1, r2, r3⟩, ⟨x, q36', x1, x2⟩, q53⟩
  ·rw [hx] at q33
   simp only [planOut] at q33
   simp only [q33, q36', tkOut_ret, tkBool_b, tkTup_t, tkAgg_a, tkCons_c, tkInt_i, tkRow_r, tkNil_n, decide_true, pT, show ((5 : Int) != 0) = true from rfl, beq_self_eq_true, Bool.not_false, q21]
  ·rw [hx] at q33
   simp only [planOut] at q33
   obtain ⟨b', wd', g', hrow, e52r, ⟨x', y', e30r⟩, _, e51r⟩ := told F d hc h6 hl hF r r1 r2
   have r3' := r3
   unfold goodA at r3'
   simp only [Bool.and_eq_true] at r3'
   have hfine : (faultR c (stgF (msOf l.el r)) r.length 0).2.1 = 1 := of_decide_eq_true r3'.1
   rw [hfine] at e30r
   have e1 := l18x1 F d hc hl w hwl hn hF o r r1 r2 r3'.2 b' wd' g' hrow
   simp only [q33, q36', e51r, tkOut_ret, tkBool_b, tkTup_t, tkAgg_a, tkCons_c, tkInt_i, tkRow_r, tkNil_n, decide_true, pT, z0', Bool.not_true, pF]
   rw [decide_eq_false (show ¬ (r.length : Int) < x by omega), pF]
   simp only [e52r, e30r, tkOut_ret, tkBool_b, tkTup_t, tkAgg_a, tkCons_c, tkInt_i, tkRow_r, tkNil_n, decide_true, pT, z0', pF, show ((1 : Int) != 1) = false from rfl]
   exact e1
end Go.Sim.Le
