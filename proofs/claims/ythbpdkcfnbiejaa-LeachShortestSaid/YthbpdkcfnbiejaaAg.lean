import Derived.Test.YthbpdkcfnbiejaaAf
set_option linter.unusedVariables false
set_option linter.unusedSimpArgs false
set_option linter.unusedSectionVars false

namespace Go.Sim.Le
open Go.Proofs
abbrev Rm := List (Int × Span)
abbrev r0 : Rm := [(0, ⟨0, 0⟩)]
def encR (m : Rm) : List (V × V) := m.map fun p => (V.int .i64 p.1, V.agg (eSpan p.2))
def findR : Rm → Int → Option Span
 | [], _ => none
 | p :: m, x => if p.1 = x then some p.2 else findR m x
def putR : Rm → Int → Span → Rm
 | [], x, s => [(x, s)]
 | p :: m, x, s => if p.1 = x then (p.1, s) :: m else p :: putR m x s
theorem mget_R (x : Int) : ∀ m, mget (encR m) (.int .i64 x) = (findR m x).map fun s => V.agg (eSpan s)
 | [] => rfl
 | p :: m => by
  simp only [encR, List.map, mget, findR, keyEq, keyEq1, decide_true, Bool.true_and]
  by_cases h : p.1 = x
  ·rw [if_pos h, show (p.1 == x) = true by rw [beq_iff_eq]; exact h, cond_true]; rfl
  ·rw [if_neg h, show (p.1 == x) = false by rw [beq_eq_false_iff_ne]; exact h, cond_false]
   exact mget_R x m
theorem mput_R (x : Int) (s : Span) : ∀ m, mput (encR m) (.int .i64 x) (.agg (eSpan s)) = encR (putR m x s)
 | [] => rfl
 | p :: m => by
  simp only [encR, List.map, mput, putR, keyEq, keyEq1, decide_true, Bool.true_and]
  by_cases h : p.1 = x
  ·rw [if_pos h, show (p.1 == x) = true by rw [beq_iff_eq]; exact h, cond_true]; rfl
  ·rw [if_neg h, show (p.1 == x) = false by rw [beq_eq_false_iff_ne]; exact h, cond_false]
   show _ :: mput (encR m) (.int .i64 x) (.agg (eSpan s)) = _
   rw [mput_R x s m]; rfl
theorem find_put (x : Int) (s : Span) (y : Int) : ∀ m, findR (putR m x s) y = if x = y then some s else findR m y
 | [] => by simp [putR, findR]
 | p :: m => by
  unfold putR
  by_cases h : p.1 = x
  ·rw [if_pos h]
   unfold findR
   by_cases hy : x = y
   ·rw [if_pos (h.trans hy), if_pos hy]
   ·rw [if_neg (fun e => hy (h.symm.trans e)), if_neg hy, if_neg (fun e => hy (h.symm.trans e))]
  ·rw [if_neg h]
   unfold findR
   by_cases hp : p.1 = y
   ·rw [if_pos hp, if_neg (fun e => h (hp.trans e.symm)), if_pos hp]
   ·rw [if_neg hp, if_neg hp]
    exact find_put x s y m
theorem mem_put (x : Int) (s : Span) (q : Int × Span) : ∀ m, q ∈ putR m x s → q = (x, s) ∨ q ∈ m
 | [], h => .inl (by simpa [putR] using h)
 | p :: m, h => by
  unfold putR at h
  by_cases hp : p.1 = x
  ·rw [if_pos hp] at h
   rcases List.mem_cons.1 h with h | h
   ·exact .inl (by rw [h, hp])
   ·exact .inr (List.mem_cons_of_mem _ h)
  ·rw [if_neg hp] at h
   rcases List.mem_cons.1 h with h | h
   ·exact .inr (by rw [h]; exact List.mem_cons_self ..)
   ·rcases mem_put x s q m h with h | h
    ·exact .inl h
    ·exact .inr (List.mem_cons_of_mem _ h)
theorem keys_put (x : Int) (s : Span) : ∀ m : Rm, (m.map (·.1)).Nodup → ((putR m x s).map (·.1)).Nodup
 | [], _ => by simp [putR]
 | p :: m, h => by
  rw [List.map_cons, List.nodup_cons] at h
  unfold putR
  by_cases hp : p.1 = x
  ·rw [if_pos hp, List.map_cons, List.nodup_cons]; exact h
  ·rw [if_neg hp, List.map_cons, List.nodup_cons]
   refine ⟨fun hm => ?_, keys_put x s m h.2⟩
   obtain ⟨q, hq, e⟩ := List.mem_map.1 hm
   rcases mem_put x s q m hq with rfl | hq
   ·exact hp e.symm
   ·exact h.1 (List.mem_map.2 ⟨q, hq, e⟩)
theorem find_mem {x : Int} {s : Span} : ∀ {m : Rm}, findR m x = some s → ∃ i : Nat, m[i]? = some (x, s)
 | [], h => by cases h
 | p :: m, h => by
  unfold findR at h
  by_cases hp : p.1 = x
  ·rw [if_pos hp] at h
   injection h with h
   exact ⟨0, by simp [← h, ← hp]⟩
  ·rw [if_neg hp] at h
   obtain ⟨i, hi⟩ := find_mem h
   exact ⟨i + 1, by simpa using hi⟩
def Cov (m : Rm) (x a b : Int) : Prop := ∃ s, findR m x = some s ∧ s.lo ≤ a ∧ b ≤ s.hi
def Ge (m m' : Rm) : Prop := ∀ y s, findR m y = some s → ∃ s', findR m' y = some s' ∧ s'.lo ≤ s.lo ∧ s.hi ≤ s'.hi
theorem Ge.refl (m : Rm) : Ge m m := fun _ s h => ⟨s, h, Int.le_refl _, Int.le_refl _⟩
theorem Ge.trans {a b e : Rm} (h : Ge a b) (k : Ge b e) : Ge a e := fun y s hs => by
 obtain ⟨s1, h1, h2, h3⟩ := h y s hs
 obtain ⟨s2, k1, k2, k3⟩ := k y s1 h1
 exact ⟨s2, k1, Int.le_trans k2 h2, Int.le_trans h3 k3⟩
theorem Cov.ge {m m' : Rm} (h : Ge m m') {x a b : Int} (hc : Cov m x a b) : Cov m' x a b := by
 obtain ⟨s, h1, h2, h3⟩ := hc
 obtain ⟨s', k1, k2, k3⟩ := h x s h1
 exact ⟨s', k1, Int.le_trans k2 h2, Int.le_trans h3 k3⟩
def Snd (c : Cav) (s : Stg) (k : Nat) (m : Rm) : Prop := (m.map (·.1)).Nodup ∧ ∀ p ∈ m, Reach c s k p.1 p.2.lo ∧ Reach c s k p.1 p.2.hi
def Inv (c : Cav) (s : Stg) (k : Nat) (m : Rm) : Prop := Snd c s k m ∧ Cov m (lowT c s k).1 (lowT c s k).2 (lowT c s k).2 ∧ Cov m (highT c s k).1 (highT c s k).2 (highT c s k).2
def addR (m : Rm) (x : Int) (nw : Span) : Rm := match findR m x with
 | none => putR m x nw
 | some old => putR m x ⟨min nw.lo old.lo, max nw.hi old.hi⟩
theorem addR_ge (m : Rm) (x : Int) (nw : Span) : Ge m (addR m x nw) ∧ Cov (addR m x nw) x nw.lo nw.hi := by
 unfold addR
 cases h : findR m x with
 | none =>
  refine ⟨fun y s hs => ?_, ⟨nw, ?_, Int.le_refl _, Int.le_refl _⟩⟩
  ·refine ⟨s, ?_, Int.le_refl _, Int.le_refl _⟩
   show findR (putR m x nw) y = _
   rw [find_put, if_neg (fun e => by rw [e, hs] at h; cases h)]; exact hs
  ·show findR (putR m x nw) x = _
   rw [find_put, if_pos rfl]
 | some old =>
  refine ⟨fun y s hs => ?_, ⟨⟨min nw.lo old.lo, max nw.hi old.hi⟩, ?_, ?_, ?_⟩⟩
  ·show ∃ s', findR (putR m x _) y = _ ∧ _
   by_cases e : x = y
   ·rw [e, hs] at h
    injection h with h
    subst h
    refine ⟨⟨min nw.lo s.lo, max nw.hi s.hi⟩, by rw [find_put, if_pos e], ?_, ?_⟩
    ·show min _ _ ≤ _; omega
    ·show _ ≤ max _ _; omega
   ·exact ⟨s, by rw [find_put, if_neg e]; exact hs, Int.le_refl _, Int.le_refl _⟩
  ·show findR (putR m x _) x = _
   rw [find_put, if_pos rfl]
  ·show min _ _ ≤ _; omega
  ·show _ ≤ max _ _; omega
theorem addR_snd {c : Cav} {s : Stg} {k : Nat} {m : Rm} {x : Int} {nw : Span} (h : Snd c s k m) (h1 : Reach c s k x nw.lo) (h2 : Reach c s k x nw.hi) : Snd c s k (addR m x nw) := by
 unfold addR
 cases hf : findR m x with
 | none =>
  refine ⟨keys_put _ _ _ h.1, fun p hp => ?_⟩
  rcases mem_put _ _ _ _ hp with rfl | hp
  ·exact ⟨h1, h2⟩
  ·exact h.2 p hp
 | some old =>
  obtain ⟨i, hi⟩ := find_mem hf
  have ho := h.2 _ (List.mem_of_getElem? hi)
  refine ⟨keys_put _ _ _ h.1, fun p hp => ?_⟩
  rcases mem_put _ _ _ _ hp with rfl | hp
  ·simp only
   constructor
   ·rcases Int.le_total nw.lo old.lo with e | e
    ·rw [Int.min_eq_left e]; exact h1
    ·rw [Int.min_eq_right e]; exact ho.1
   ·rcases Int.le_total nw.hi old.hi with e | e
    ·rw [Int.max_eq_right e]; exact ho.2
    ·rw [Int.max_eq_left e]; exact h2
  ·exact h.2 p hp
theorem snd_len {c : Cav} (hc : CavOk c) {s : Stg} (hs : StgOk c.slices.len s) {k : Nat} (hk : k ≤ pathN s) {m : Rm} (h : Snd c s k m) : m.length ≤ 301 := by
 have hH := hc.2.1
 have h1 : m.map (·.1) ⊆ (List.range 301).map fun j => ((j : Nat) : Int) := by
  intro x hx
  obtain ⟨p, hp, rfl⟩ := List.mem_map.1 hx
  have := reach_in hc hs (h.2 p hp).1 hk
  exact List.mem_map.2 ⟨p.1.toNat, List.mem_range.2 (by omega), by omega⟩
 have h2 := h.1.length_le_of_subset h1
 simpa using h2
theorem encR_len (m : Rm) : (encR m).length = m.length := by simp [encR]
theorem encR_at (m : Rm) (i : Nat) : (encR m)[i]? = (m[i]?).map fun p => (V.int .i64 p.1, V.agg (eSpan p.2)) := by simp [encR]
theorem nextK_some {β : Type} {n : Nat} {seen : List Nat} {kend : Option β} {k : Nat → Option β} {r : β} (h1 : (∀ i, i < n → i ∈ seen) → kend = some r) (h2 : ∀ i, i < n → i ∉ seen → k i = some r) : nextK n seen kend k = some r := by
 classical
 unfold nextK
 by_cases ha : ∀ i, i < n → i ∈ seen
 ·rw [if_pos ha]; exact h1 ha
 ·rw [if_neg ha]
  have hex : ∃ r, ∀ i, i < n → i ∉ seen → k i = some r := ⟨r, h2⟩
  rw [dif_pos hex]
  obtain ⟨i, hi⟩ := Classical.not_forall.1 ha
  have hi1 : i < n ∧ i ∉ seen := by
   constructor
   ·exact Classical.byContradiction fun h => hi fun h' => (h h').elim
   ·exact fun h => hi fun _ => h
  have e1 := hex.choose_spec i hi1.1 hi1.2
  rw [h2 i hi1.1 hi1.2] at e1
  exact e1.symm
def unseen (n : Nat) (seen : List Nat) : Nat := ((List.range n).filter fun i => !seen.contains i).length
theorem unseen_le (n : Nat) (seen : List Nat) : unseen n seen ≤ n := by
 have := List.length_filter_le (fun i => !seen.contains i) (List.range n)
 rw [List.length_range] at this
 exact this
theorem filter_lt {α : Type} {p q : α → Bool} {a : α} : ∀ {l : List α}, a ∈ l → p a = true → q a = false → (∀ x, q x = true → p x = true) → (l.filter q).length < (l.filter p).length
 | [], h, _, _, _ => by simp at h
 | b :: l, h, hp, hq, hi => by
  have hle : ∀ l : List α, (l.filter q).length ≤ (l.filter p).length := by
   intro l
   induction l with
   | nil => simp
   | cons x l ih =>
    cases hx : q x with
    | true => rw [List.filter_cons_of_pos hx, List.filter_cons_of_pos (hi x hx), List.length_cons, List.length_cons]; omega
    | false =>
     rw [List.filter_cons_of_neg (by simp [hx])]
     cases hy : p x with
     | true => rw [List.filter_cons_of_pos hy, List.length_cons]; omega
     | false => rw [List.filter_cons_of_neg (by simp [hy])]; exact ih
  rcases List.mem_cons.1 h with rfl | h
  ·rw [List.filter_cons_of_pos hp, List.filter_cons_of_neg (by simp [hq]), List.length_cons]
   have := hle l; omega
  ·have ih := filter_lt h hp hq hi
   cases hx : q b with
   | true => rw [List.filter_cons_of_pos hx, List.filter_cons_of_pos (hi b hx), List.length_cons, List.length_cons]; omega
   | false =>
    rw [List.filter_cons_of_neg (by simp [hx])]
    cases hy : p b with
    | true => rw [List.filter_cons_of_pos hy, List.length_cons]; omega
    | false => rw [List.filter_cons_of_neg (by simp [hy])]; exact ih
theorem unseen_step {n i : Nat} {seen : List Nat} (hi : i < n) (hs : i ∉ seen) : unseen n (i :: seen) < unseen n seen := by
 unfold unseen
 refine filter_lt (a := i) (List.mem_range.2 hi) (by simpa using hs) (by simp) fun x hx => ?_
 simp at hx ⊢
 exact hx.2
variable (F d : Nat)
section
variable {c : Cav} (hc : CavOk c) {s : Stg} (hs : StgOk c.slices.len s) (hF : 1000000000 < F) (b0 b1 b2 b3 b4 : Bool)
include hc hs hF
theorem l26x4 (m0 m1 k : Nat) (hk : k < pathN s) (had : Int) (sp : Span) (h1 : Reach c s k had sp.lo) (h2 : Reach c s k had sp.hi) (pos : Int) (seen : List Nat) (R : Option Out) :
  ∀ (j : Nat) (n : Int) (fu : Nat) (m : Rm), n + j = min (slAt c s k).rate.hi (c.hold - had) + 1 → min (slAt c s k).rate.lo (c.hold - had) ≤ n → j < fu → Snd c s (k + 1) m →
  (∀ m', Snd c s (k + 1) m' → Ge m m' → (∀ n', n ≤ n' → n' ≤ min (slAt c s k).rate.hi (c.hold - had) → Cov m' (had + n') (sp.lo + n' * oAt c s k) (sp.hi + n' * oAt c s k)) → L26x1 (E F (d + 3)) F c s m0 m1 (oAt c s k) (slAt c s k).rate.lo (slAt c s k).rate.hi (encR m') seen (fun _ => eStg s) (stepOf s) .i64 pos .i64 pos b0 b1 b2 b3 b4 (fun _ => eStg s) = R) →
  L26x4 (E F (d + 3)) F c s m0 m1 fu (oAt c s k) .i64 had n (slAt c s k).rate.lo (slAt c s k).rate.hi (encR m) .i64 sp.lo .i64 sp.hi seen (fun _ => eStg s) (stepOf s) .i64 pos .i64 pos b0 b1 b2 b3 b4 (fun _ => eStg s) = R := by
 have hH := hc.2.1
 have hra := rate_at hc hs hk
 have hi1 := reach_in hc hs h1 (by omega)
 have hi2 := reach_in hc hs h2 (by omega)
 intro j
 induction j with
 | zero =>
  intro n fu m h hn hf hS K
  obtain ⟨fu, rfl⟩ : ∃ k, fu = k + 1 := ⟨fu - 1, by omega⟩
  rw [L26x4s]
  simp only [decide_true, pT, mnE]
  rw [wr (n := c.hold - had) (by omega), decide_eq_false (by omega), pF]
  exact K m hS (Ge.refl m) fun n' h1 h2 => by omega
 | succ j ih =>
  intro n fu m h hn hf hS K
  obtain ⟨fu, rfl⟩ : ∃ k, fu = k + 1 := ⟨fu - 1, by omega⟩
  have hm := mulo hc hs hk (n := n) (by omega)
  have hlen := snd_len hc hs (by omega) hS
  have hr1 : Reach c s (k + 1) (had + n) (sp.lo + n * oAt c s k) := .step h1 hn (by omega)
  have hr2 : Reach c s (k + 1) (had + n) (sp.hi + n * oAt c s k) := .step h2 hn (by omega)
  have hg := addR_ge m (had + n) ⟨sp.lo + n * oAt c s k, sp.hi + n * oAt c s k⟩
  have e := ih (n + 1) fu (addR m (had + n) ⟨sp.lo + n * oAt c s k, sp.hi + n * oAt c s k⟩) (by omega) (by omega) (by omega) (addR_snd hS hr1 hr2) fun m' h3 h4 h5 => K m' h3 (hg.1.trans h4) fun n' h6 h7 => by
   rcases Int.lt_or_eq_of_le h6 with h8 | h8
   ·exact h5 n' (by omega) h7
   ·rw [← h8]; exact (hg.2).ge h4
  rw [L26x4s]
  simp only [decide_true, pT, mnE]
  rw [wr (n := c.hold - had) (by omega), decide_eq_true (by omega), pT, wr (n := had + n) (by omega), wr (n := n * oAt c s k) (by omega), wr (n := sp.lo + n * oAt c s k) (by omega), wr (n := sp.hi + n * oAt c s k) (by omega), wr (n := n + 1) (by omega)]
  simp (disch := omega) only [p63, decide_eq_true, decide_true, Bool.and_self, pT, mget_R, encR_len, mxE]
  unfold addR at e
  cases hf : findR m (had + n) with
  | none =>
   rw [hf] at e
   simp only [Option.map, tkOpt]
   rw [show (V.agg [V.int .i64 (sp.lo + n * oAt c s k), V.int .i64 (sp.hi + n * oAt c s k)]) = V.agg (eSpan ⟨sp.lo + n * oAt c s k, sp.hi + n * oAt c s k⟩) from rfl, mput_R]
   exact e
  | some old =>
   rw [hf] at e
   simp only [Option.map, tkOpt, tkAgg_a, tkCons_c, tkInt_i, tkNil_n]
   rw [show (V.agg [V.int .i64 (min (sp.lo + n * oAt c s k) old.lo), V.int .i64 (max (sp.hi + n * oAt c s k) old.hi)]) = V.agg (eSpan ⟨min (sp.lo + n * oAt c s k) old.lo, max (sp.hi + n * oAt c s k) old.hi⟩) from rfl, mput_R]
   exact e
theorem l26x6 (m0 m1 k : Nat) (hk : k < pathN s) (had : Int) (sp : Span) (h1 : Reach c s k had sp.lo) (h2 : Reach c s k had sp.hi) (pos : Int) (rooms : Rm) (seen : List Nat) (R : Option Out) :
  ∀ (j : Nat) (n : Int) (fu : Nat) (m : Rm), n + j = min (slAt c s k).rate.hi (c.hold - had) + 1 → min (slAt c s k).rate.lo (c.hold - had) ≤ n → j < fu → Snd c s (k + 1) m →
  (∀ m', Snd c s (k + 1) m' → Ge m m' → (∀ n', n ≤ n' → n' ≤ min (slAt c s k).rate.hi (c.hold - had) → Cov m' (had + n') (sp.lo + n' * oAt c s k) (sp.hi + n' * oAt c s k)) → L26x5 (E F (d + 3)) F c s m0 m1 (oAt c s k) (slAt c s k).rate.lo (slAt c s k).rate.hi (encR m') rooms.length seen (encR rooms) (fun _ => eStg s) (stepOf s) .i64 pos .i64 pos b0 b1 b2 b3 b4 (fun _ => eStg s) = R) →
  L26x6 (E F (d + 3)) F c s m0 m1 fu (oAt c s k) .i64 had n (slAt c s k).rate.lo (slAt c s k).rate.hi (encR m) .i64 sp.lo .i64 sp.hi rooms.length seen (encR rooms) (fun _ => eStg s) (stepOf s) .i64 pos .i64 pos b0 b1 b2 b3 b4 (fun _ => eStg s) = R := by
 have hH := hc.2.1
 have hra := rate_at hc hs hk
 have hi1 := reach_in hc hs h1 (by omega)
 have hi2 := reach_in hc hs h2 (by omega)
 intro j
 induction j with
 | zero =>
  intro n fu m h hn hf hS K
  obtain ⟨fu, rfl⟩ : ∃ k, fu = k + 1 := ⟨fu - 1, by omega⟩
  rw [L26x6s]
  simp only [decide_true, pT, mnE]
  rw [wr (n := c.hold - had) (by omega), decide_eq_false (by omega), pF]
  exact K m hS (Ge.refl m) fun n' h1 h2 => by omega
 | succ j ih =>
  intro n fu m h hn hf hS K
  obtain ⟨fu, rfl⟩ : ∃ k, fu = k + 1 := ⟨fu - 1, by omega⟩
  have hm := mulo hc hs hk (n := n) (by omega)
  have hlen := snd_len hc hs (by omega) hS
  have hr1 : Reach c s (k + 1) (had + n) (sp.lo + n * oAt c s k) := .step h1 hn (by omega)
  have hr2 : Reach c s (k + 1) (had + n) (sp.hi + n * oAt c s k) := .step h2 hn (by omega)
  have hg := addR_ge m (had + n) ⟨sp.lo + n * oAt c s k, sp.hi + n * oAt c s k⟩
  have e := ih (n + 1) fu (addR m (had + n) ⟨sp.lo + n * oAt c s k, sp.hi + n * oAt c s k⟩) (by omega) (by omega) (by omega) (addR_snd hS hr1 hr2) fun m' h3 h4 h5 => K m' h3 (hg.1.trans h4) fun n' h6 h7 => by
   rcases Int.lt_or_eq_of_le h6 with h8 | h8
   ·exact h5 n' (by omega) h7
   ·rw [← h8]; exact (hg.2).ge h4
  rw [L26x6s]
  simp only [decide_true, pT, mnE]
  rw [wr (n := c.hold - had) (by omega), decide_eq_true (by omega), pT, wr (n := had + n) (by omega), wr (n := n * oAt c s k) (by omega), wr (n := sp.lo + n * oAt c s k) (by omega), wr (n := sp.hi + n * oAt c s k) (by omega), wr (n := n + 1) (by omega)]
  simp (disch := omega) only [p63, decide_eq_true, decide_true, Bool.and_self, pT, mget_R, encR_len, mxE]
  unfold addR at e
  cases hf : findR m (had + n) with
  | none =>
   rw [hf] at e
   simp only [Option.map, tkOpt]
   rw [show (V.agg [V.int .i64 (sp.lo + n * oAt c s k), V.int .i64 (sp.hi + n * oAt c s k)]) = V.agg (eSpan ⟨sp.lo + n * oAt c s k, sp.hi + n * oAt c s k⟩) from rfl, mput_R]
   exact e
  | some old =>
   rw [hf] at e
   simp only [Option.map, tkOpt, tkAgg_a, tkCons_c, tkInt_i, tkNil_n]
   rw [show (V.agg [V.int .i64 (min (sp.lo + n * oAt c s k) old.lo), V.int .i64 (max (sp.hi + n * oAt c s k) old.hi)]) = V.agg (eSpan ⟨min (sp.lo + n * oAt c s k) old.lo, max (sp.hi + n * oAt c s k) old.hi⟩) from rfl, mput_R]
   exact e
theorem l26x1 (m0 k : Nat) (hk0 : k = 0) (hk : k < pathN s) (R : Out)
  (K : ∀ m', Snd c s (k + 1) m' → (∀ (i : Nat) p, r0[i]? = some p → ∀ n', min (slAt c s k).rate.lo (c.hold - p.1) ≤ n' → n' ≤ min (slAt c s k).rate.hi (c.hold - p.1) → Cov m' (p.1 + n') (p.2.lo + n' * oAt c s k) (p.2.hi + n' * oAt c s k)) →
   (bif pathAt s k != s.out then L26x2 (E F (d + 3)) F c s m0 (fun _ => eStg s) (stepOf s) .i64 (IntKind.i64.wrap (pathAt s k + stepOf s)) (encR m') b0 b1 b2 b3 b4 (fun _ => eStg s) else L26x3 (E F (d + 3)) F c s F .i64 0 .i64 0 .i64 0 .i64 0 m'.length [] (encR m')) = some R) :
  ∀ (j : Nat) (seen : List Nat) (fu : Nat) (m : Rm), unseen 1 seen ≤ j → j < fu → Snd c s (k + 1) m →
  (∀ (i : Nat) p, i ∈ seen → r0[i]? = some p → ∀ n', min (slAt c s k).rate.lo (c.hold - p.1) ≤ n' → n' ≤ min (slAt c s k).rate.hi (c.hold - p.1) → Cov m (p.1 + n') (p.2.lo + n' * oAt c s k) (p.2.hi + n' * oAt c s k)) →
  L26x1 (E F (d + 3)) F c s m0 fu (oAt c s k) (slAt c s k).rate.lo (slAt c s k).rate.hi (encR m) seen (fun _ => eStg s) (stepOf s) .i64 (pathAt s k) .i64 (pathAt s k) b0 b1 b2 b3 b4 (fun _ => eStg s) = some R := by
 have hH := hc.2.1
 have hra := rate_at hc hs hk
 have hR : Snd c s k r0 := by
  subst hk0
  exact ⟨by simp, fun p hp => by rw [List.mem_singleton] at hp; subst hp; exact ⟨.zero, .zero⟩⟩
 intro j
 induction j with
 | zero =>
  intro seen fu m h hf hS hC
  obtain ⟨fu, rfl⟩ : ∃ k, fu = k + 1 := ⟨fu - 1, by omega⟩
  rw [L26x1s]
  simp only [encR_len]
  refine nextK_some (fun ha => ?_) fun i hi hn => ?_
  ·simp only [List.drop, tkCons_c, tkInt_i, decide_true, pT]
   exact K m hS fun i p hp => hC i p (ha i (by have := (List.getElem?_eq_some_iff.1 hp).1; simpa using this)) hp
  ·have := unseen_step hi hn
   omega
 | succ j ih =>
  intro seen fu m h hf hS hC
  obtain ⟨fu, rfl⟩ : ∃ k, fu = k + 1 := ⟨fu - 1, by omega⟩
  rw [L26x1s]
  simp only [encR_len]
  refine nextK_some (fun ha => ?_) fun i hi hn => ?_
  ·simp only [List.drop, tkCons_c, tkInt_i, decide_true, pT]
   exact K m hS fun i p hp => hC i p (ha i (by have := (List.getElem?_eq_some_iff.1 hp).1; simpa using this)) hp
  ·have hu := unseen_step hi hn
   have hi0 : i = 0 := by omega
   subst hi0
   have hat : r0[0]? = some (0, ⟨0, 0⟩) := rfl
   generalize hpe : ((0 : Int), (⟨0, 0⟩ : Span)) = pe at hat
   have hent : tkEnt [(V.int .i64 (0 : Int), V.agg [V.int .i64 0, V.int .i64 0])] 0 = tkEnt (R := Option Out) [(V.int .i64 pe.1, V.agg (eSpan pe.2))] 0 := by rw [← hpe]
   rw [hent]
   simp only [tkEnt, List.getElem?_cons_zero, tkInt_i, tkAgg_a, tkCons_c, tkNil_n, decide_true, pT]
   have hpr := hR.2 _ (List.mem_of_getElem? hat)
   have hin := reach_in hc hs hpr.1 (by omega)
   rw [wr (n := c.hold - pe.1) (by omega)]
   simp only [mnE]
   refine l26x4 F d hc hs hF b0 b1 b2 b3 b4 m0 fu k hk pe.1 pe.2 hpr.1 hpr.2 (pathAt s k) _ (some R) (min (slAt c s k).rate.hi (c.hold - pe.1) + 1 - min (slAt c s k).rate.lo (c.hold - pe.1)).toNat _ F m (by omega) (Int.le_refl _) (by omega) hS fun m' h3 h4 h5 => ?_
   refine ih _ fu m' (by omega) (by omega) h3 fun i' p hi' hp => ?_
   rcases List.mem_cons.1 hi' with rfl | hi'
   ·rw [hat] at hp
    injection hp with hp
    subst hp
    exact h5
   ·exact fun n' h6 h7 => (hC i' p hi' hp n' h6 h7).ge h4
theorem l26x5 (m0 k : Nat) (hk : k < pathN s) (rooms : Rm) (hR : Snd c s k rooms) (R : Out)
  (K : ∀ m', Snd c s (k + 1) m' → (∀ (i : Nat) p, rooms[i]? = some p → ∀ n', min (slAt c s k).rate.lo (c.hold - p.1) ≤ n' → n' ≤ min (slAt c s k).rate.hi (c.hold - p.1) → Cov m' (p.1 + n') (p.2.lo + n' * oAt c s k) (p.2.hi + n' * oAt c s k)) →
   (bif pathAt s k != s.out then L26x2 (E F (d + 3)) F c s m0 (fun _ => eStg s) (stepOf s) .i64 (IntKind.i64.wrap (pathAt s k + stepOf s)) (encR m') b0 b1 b2 b3 b4 (fun _ => eStg s) else L26x3 (E F (d + 3)) F c s F .i64 0 .i64 0 .i64 0 .i64 0 m'.length [] (encR m')) = some R) :
  ∀ (j : Nat) (seen : List Nat) (fu : Nat) (m : Rm), unseen rooms.length seen ≤ j → j < fu → Snd c s (k + 1) m →
  (∀ (i : Nat) p, i ∈ seen → rooms[i]? = some p → ∀ n', min (slAt c s k).rate.lo (c.hold - p.1) ≤ n' → n' ≤ min (slAt c s k).rate.hi (c.hold - p.1) → Cov m (p.1 + n') (p.2.lo + n' * oAt c s k) (p.2.hi + n' * oAt c s k)) →
  L26x5 (E F (d + 3)) F c s m0 fu (oAt c s k) (slAt c s k).rate.lo (slAt c s k).rate.hi (encR m) rooms.length seen (encR rooms) (fun _ => eStg s) (stepOf s) .i64 (pathAt s k) .i64 (pathAt s k) b0 b1 b2 b3 b4 (fun _ => eStg s) = some R := by
 have hH := hc.2.1
 have hra := rate_at hc hs hk
 intro j
 induction j with
 | zero =>
  intro seen fu m h hf hS hC
  obtain ⟨fu, rfl⟩ : ∃ k, fu = k + 1 := ⟨fu - 1, by omega⟩
  rw [L26x5s]
  simp only [encR_len, beq_self_eq_true, pT]
  refine nextK_some (fun ha => ?_) fun i hi hn => ?_
  ·simp only [List.drop, tkCons_c, tkInt_i, decide_true, pT]
   exact K m hS fun i p hp => hC i p (ha i (by have := (List.getElem?_eq_some_iff.1 hp).1; simpa using this)) hp
  ·have := unseen_step hi hn
   omega
 | succ j ih =>
  intro seen fu m h hf hS hC
  obtain ⟨fu, rfl⟩ : ∃ k, fu = k + 1 := ⟨fu - 1, by omega⟩
  rw [L26x5s]
  simp only [encR_len, beq_self_eq_true, pT]
  refine nextK_some (fun ha => ?_) fun i hi hn => ?_
  ·simp only [List.drop, tkCons_c, tkInt_i, decide_true, pT]
   exact K m hS fun i p hp => hC i p (ha i (by have := (List.getElem?_eq_some_iff.1 hp).1; simpa using this)) hp
  ·have hu := unseen_step hi hn
   have hat : rooms[i]? = some rooms[i] := List.getElem?_eq_getElem hi
   generalize rooms[i] = pe at hat
   simp only [tkEnt, encR_at, hat, Option.map, tkInt_i, tkAgg_a, tkCons_c, tkNil_n, decide_true, pT]
   have hpr := hR.2 _ (List.mem_of_getElem? hat)
   have hin := reach_in hc hs hpr.1 (by omega)
   rw [wr (n := c.hold - pe.1) (by omega)]
   simp only [mnE]
   refine l26x6 F d hc hs hF b0 b1 b2 b3 b4 m0 fu k hk pe.1 pe.2 hpr.1 hpr.2 (pathAt s k) rooms _ (some R) (min (slAt c s k).rate.hi (c.hold - pe.1) + 1 - min (slAt c s k).rate.lo (c.hold - pe.1)).toNat _ F m (by omega) (Int.le_refl _) (by omega) hS fun m' h3 h4 h5 => ?_
   refine ih _ fu m' (by omega) (by omega) h3 fun i' p hi' hp => ?_
   rcases List.mem_cons.1 hi' with rfl | hi'
   ·rw [hat] at hp
    injection hp with hp
    subst hp
    exact h5
   ·exact fun n' h6 h7 => (hC i' p hi' hp n' h6 h7).ge h4
theorem inv_next {k : Nat} (hk : k < pathN s) {m m' : Rm} (h : Inv c s k m) (hS : Snd c s (k + 1) m') (hC : ∀ (i : Nat) p, m[i]? = some p → ∀ n', min (slAt c s k).rate.lo (c.hold - p.1) ≤ n' → n' ≤ min (slAt c s k).rate.hi (c.hold - p.1) → Cov m' (p.1 + n') (p.2.lo + n' * oAt c s k) (p.2.hi + n' * oAt c s k)) : Inv c s (k + 1) m' := by
 have hra := rate_at hc hs hk
 obtain ⟨_, ⟨s1, h1, h2, h3⟩, s2, k1, k2, k3⟩ := h
 obtain ⟨i, hi⟩ := find_mem h1
 obtain ⟨i', hi'⟩ := find_mem k1
 refine ⟨hS, ?_, ?_⟩
 ·obtain ⟨q, q1, q2, q3⟩ := hC i _ hi (min (slAt c s k).rate.lo (c.hold - (lowT c s k).1)) (Int.le_refl _) (by simp only; omega)
  refine ⟨q, q1, ?_, ?_⟩
  ·simp only [lowT] at q2 ⊢; omega
  ·simp only [lowT] at q3 ⊢; omega
 ·obtain ⟨q, q1, q2, q3⟩ := hC i' _ hi' (min (slAt c s k).rate.hi (c.hold - (highT c s k).1)) (by simp only; omega) (Int.le_refl _)
  refine ⟨q, q1, ?_, ?_⟩
  ·simp only [highT] at q2 ⊢; omega
  ·simp only [highT] at q3 ⊢; omega
theorem l26x2 (R : Out) (KN : ∀ m, Inv c s (pathN s) m → L26x3 (E F (d + 3)) F c s F .i64 0 .i64 0 .i64 0 .i64 0 m.length [] (encR m) = some R) : ∀ j k fu m, k + 1 + j = pathN s → j < fu → Inv c s k m →
  L26x2 (E F (d + 3)) F c s fu (fun _ => eStg s) (stepOf s) .i64 (pathAt s k) (encR m) b0 b1 b2 b3 b4 (fun _ => eStg s) = some R := by
 have hp := pathN_le hs
 have hl := hc.1
 intro j
 induction j with
 | zero =>
  intro k fu m h hf hI
  obtain ⟨fu, rfl⟩ : ∃ k, fu = k + 1 := ⟨fu - 1, by omega⟩
  have hin := pathAt_in hs (k := k) (by omega)
  have hra := rate_at hc hs (k := k) (by omega)
  have hlen := snd_len hc hs (by omega) hI.1
  have ho1 : 1000 ≤ (c.slices.el (pathAt s k).toNat).opn ∧ (c.slices.el (pathAt s k).toNat).opn ≤ 3000 := (slcOk_at hc hs (k := k) (by omega)).2.1
  have ho2 : 0 ≤ (c.slices.el (pathAt s k).toNat).fall ∧ (c.slices.el (pathAt s k).toNat).fall ≤ (c.slices.el (pathAt s k).toNat).opn - 1 := (slcOk_at hc hs (k := k) (by omega)).2.2.1
  have hk' : k = pathN s - 1 := by omega
  have e1 : pathAt s k = s.out := by rw [hk', pathAt_last]
  rw [L26x2s]
  simp (disch := omega) only [decide_eq_true, decide_true, pT, wr]
  simp only [encR_len]
  refine l26x5 F d hc hs hF b0 b1 b2 b3 b4 fu k (by omega) m hI.1 R (fun m' hS hC => ?_) m.length [] F [] (unseen_le _ _) (by omega) ⟨by simp, by simp⟩ (fun i p hi => by simp at hi)
  rw [e1, bne_self_eq_false, cond_false]
  refine KN m' ?_
  have := inv_next F hc hs hF (by omega) hI hS hC
  rwa [show k + 1 = pathN s by omega] at this
 | succ j ih =>
  intro k fu m h hf hI
  obtain ⟨fu, rfl⟩ : ∃ k, fu = k + 1 := ⟨fu - 1, by omega⟩
  have hin := pathAt_in hs (k := k) (by omega)
  have hin2 := pathAt_in hs (k := k + 1) (by omega)
  have hra := rate_at hc hs (k := k) (by omega)
  have hlen := snd_len hc hs (by omega) hI.1
  have ho1 : 1000 ≤ (c.slices.el (pathAt s k).toNat).opn ∧ (c.slices.el (pathAt s k).toNat).opn ≤ 3000 := (slcOk_at hc hs (k := k) (by omega)).2.1
  have ho2 : 0 ≤ (c.slices.el (pathAt s k).toNat).fall ∧ (c.slices.el (pathAt s k).toNat).fall ≤ (c.slices.el (pathAt s k).toNat).opn - 1 := (slcOk_at hc hs (k := k) (by omega)).2.2.1
  have hne : (pathAt s k != s.out) = true := by
   have := pathAt_ne s (k := k) (by omega)
   simpa using this
  have hS : pathAt s k + stepOf s = pathAt s (k + 1) := by rw [← pathAt_S]
  rw [L26x2s]
  simp (disch := omega) only [decide_eq_true, decide_true, pT, wr]
  simp only [encR_len]
  refine l26x5 F d hc hs hF b0 b1 b2 b3 b4 fu k (by omega) m hI.1 R (fun m' hS' hC => ?_) m.length [] F [] (unseen_le _ _) (by omega) ⟨by simp, by simp⟩ (fun i p hi => by simp at hi)
  rw [hne, cond_true, hS, wr (by omega)]
  exact ih (k + 1) fu m' (by omega) (by omega) (inv_next F hc hs hF (by omega) hI hS' hC)
theorem l26x0 (R : Out) (KN : ∀ m, Inv c s (pathN s) m → L26x3 (E F (d + 3)) F c s F .i64 0 .i64 0 .i64 0 .i64 0 m.length [] (encR m) = some R) :
  L26x0 (E F (d + 3)) F c s F (fun _ => eStg s) (stepOf s) .i64 s.into b0 b1 b2 b3 b4 (fun _ => eStg s) = some R := by
 have hp := pathN_le hs
 have hl := hc.1
 have hne2 : 2 ≤ pathN s := by
  have := hs.2.2.2.1
  unfold pathN; split <;> omega
 have hin := pathAt_in hs (k := 0) (by omega)
 have hin2 := pathAt_in hs (k := 0 + 1) (by omega)
 have hra := rate_at hc hs (k := 0) (by omega)
 have ho1 : 1000 ≤ (c.slices.el (pathAt s 0).toNat).opn ∧ (c.slices.el (pathAt s 0).toNat).opn ≤ 3000 := (slcOk_at hc hs (k := 0) (by omega)).2.1
 have ho2 : 0 ≤ (c.slices.el (pathAt s 0).toNat).fall ∧ (c.slices.el (pathAt s 0).toNat).fall ≤ (c.slices.el (pathAt s 0).toNat).opn - 1 := (slcOk_at hc hs (k := 0) (by omega)).2.2.1
 have hne : (pathAt s 0 != s.out) = true := by
  have := pathAt_ne s (k := 0) (by omega)
  simpa using this
 have hS : pathAt s 0 + stepOf s = pathAt s (0 + 1) := by rw [← pathAt_S]
 have hI : Inv c s 0 r0 := ⟨⟨by simp, fun p hp => by rw [List.mem_singleton] at hp; subst hp; exact ⟨.zero, .zero⟩⟩, ⟨⟨0, 0⟩, rfl, Int.le_refl _, Int.le_refl _⟩, ⟨0, 0⟩, rfl, Int.le_refl _, Int.le_refl _⟩
 rw [← pathAt_0 s]
 obtain ⟨F, rfl⟩ : ∃ k, F = k + 1 := ⟨F - 1, by omega⟩
 rw [L26x0s]
 simp (disch := omega) only [decide_eq_true, decide_true, pT, wr]
 refine l26x1 (F + 1) d hc hs hF b0 b1 b2 b3 b4 F 0 rfl (by omega) R (fun m' hS' hC => ?_) 1 [] (F + 1) [] (unseen_le _ _) (by omega) ⟨by simp, by simp⟩ (fun i p hi => by simp at hi)
 rw [hne, cond_true, hS, wr (by omega)]
 exact l26x2 (F + 1) d hc hs hF b0 b1 b2 b3 b4 R KN (pathN s - 2) (0 + 1) F m' (by omega) (by omega) (inv_next (F + 1) hc hs hF (by omega) hI hS' hC)
end
end Go.Sim.Le


namespace Go.Sim.Le
open Go.Proofs
theorem vle_trans {a b p q x y : Int} (hq : 0 < q) (hb : 0 ≤ b) (hy : 0 ≤ y) (h1 : a * q ≤ p * b) (h2 : p * y ≤ x * q) : a * y ≤ x * b := by
 refine Int.le_of_mul_le_mul_left ?_ hq
 have e1 : a * q * y ≤ p * b * y := Int.mul_le_mul_of_nonneg_right h1 hy
 have e2 : p * y * b ≤ x * q * b := Int.mul_le_mul_of_nonneg_right h2 hb
 have e3 : q * (a * y) = a * q * y := by rw [Int.mul_comm a q, Int.mul_assoc]
 have e4 : p * b * y = p * y * b := Int.mul_right_comm p b y
 have e5 : x * q * b = q * (x * b) := by rw [Int.mul_comm x q, Int.mul_assoc]
 omega
theorem fracF_in {x y : Int} (hx : 0 ≤ x) (hy : 0 < y) : (0 ≤ (fracF x y).1 ∧ (fracF x y).1 ≤ x) ∧ 0 < (fracF x y).2 ∧ (fracF x y).2 ≤ y := by
 have hg := gcdI_pos (a := x) hy
 have h1 := div_in hx hg
 have h2 := div_in (Int.le_of_lt hy) hg
 refine ⟨h1, ?_, h2.2⟩
 have hd := (gcdI_dvd hx (Int.le_of_lt hy)).2
 have : gcdI x y ≤ y := Int.le_of_dvd hy hd
 have h3 : 1 ≤ y / gcdI x y := Int.le_ediv_of_mul_le hg (by omega)
 show 0 < y / gcdI x y
 omega
variable (F d : Nat)
def fh (c : Cav) (p : Int × Span) : Int × Int := fracF (numOf c p.1 p.2.hi) (denOf p.2.hi)
def fl (c : Cav) (p : Int × Span) : Int × Int := fracF (numOf c p.1 p.2.lo) (denOf p.2.lo)
def LeH (c : Cav) (p e : Int × Span) : Prop := numOf c p.1 p.2.hi * denOf e.2.hi ≤ numOf c e.1 e.2.hi * denOf p.2.hi
def LeL (c : Cav) (p e : Int × Span) : Prop := numOf c p.1 p.2.lo * denOf e.2.lo ≤ numOf c e.1 e.2.lo * denOf p.2.lo
abbrev Bst := Option ((Int × Span) × (Int × Span))
def bl (c : Cav) (b : Bst) : Int × Int := match b with | none => (0, 0) | some (p, _) => fh c p
def bh (c : Cav) (b : Bst) : Int × Int := match b with | none => (0, 0) | some (_, q) => fl c q
def BOk (c : Cav) (m : Rm) (seen : List Nat) (b : Bst) : Prop := (b = none → seen = []) ∧ ∀ p q, b = some (p, q) → p ∈ m ∧ q ∈ m ∧ ∀ i, i ∈ seen → ∀ e, m[i]? = some e → LeH c p e ∧ LeL c e q
def bNext (c : Cav) (b : Bst) (e : Int × Span) : Bst := match b with | none => some (e, e) | some (p, q) => some (bif decide ((fh c e).1 * (fh c p).2 < (fh c p).1 * (fh c e).2) then e else p, bif decide ((fl c e).1 * (fl c q).2 > (fl c q).1 * (fl c e).2) then e else q)
def lowF (c : Cav) (s : Stg) : Int × Int := fracF (numOf c (lowT c s (pathN s)).1 (lowT c s (pathN s)).2) (denOf (lowT c s (pathN s)).2)
def highF (c : Cav) (s : Stg) : Int × Int := fracF (numOf c (highT c s (pathN s)).1 (highT c s (pathN s)).2) (denOf (highT c s (pathN s)).2)
section
variable {c : Cav} (hc : CavOk c) {s : Stg} (hs : StgOk c.slices.len s)
include hc hs
theorem best_end {m : Rm} (hI : Inv c s (pathN s) m) {seen : List Nat} {b : Bst} (hB : BOk c m seen b) (ha : ∀ i, i < m.length → i ∈ seen) : bl c b = lowF c s ∧ bh c b = highF c s := by
 obtain ⟨hS, ⟨s1, h1, h2, h3⟩, s2, k1, k2, k3⟩ := hI
 obtain ⟨i, hi⟩ := find_mem h1
 obtain ⟨i', hi'⟩ := find_mem k1
 have his := ha i (List.getElem?_eq_some_iff.1 hi).1
 have his' := ha i' (List.getElem?_eq_some_iff.1 hi').1
 have hN := Nat.le_refl (pathN s)
 cases hb : b with
 | none => rw [hB.1 hb] at his; simp at his
 | some pq =>
  obtain ⟨p, q⟩ := pq
  obtain ⟨hp, hq, hall⟩ := hB.2 p q hb
  have hpr := (hS.2 p hp).2
  have hqr := (hS.2 q hq).1
  have hpn := num_den hc hs hpr hN
  have hqn := num_den hc hs hqr hN
  have hLr := low_reach hc hs _ hN
  have hHr := high_reach hc hs _ hN
  have hLn := num_den hc hs hLr hN
  have hHn := num_den hc hs hHr hN
  have hLi := reach_in hc hs hLr hN
  have hHi := reach_in hc hs hHr hN
  have he1 := (hS.2 _ (List.mem_of_getElem? hi)).2
  have he2 := (hS.2 _ (List.mem_of_getElem? hi')).1
  have hen1 := num_den hc hs he1 hN
  have hen2 := num_den hc hs he2 hN
  constructor
  ·refine fracF_eq hpn.1 (by omega) hLn.1 (by omega) ?_
   have a1 := low_weak hc hs hpr
   have a2 := (hall i his _ hi).1
   have a3 := room_weak (c := c) hc (h := (lowT c s (pathN s)).1) hLi.2.1 h3
   have a4 := vle_trans (a := numOf c p.1 p.2.hi) (b := denOf p.2.hi) (p := numOf c (lowT c s (pathN s)).1 s1.hi) (q := denOf s1.hi) (x := numOf c (lowT c s (pathN s)).1 (lowT c s (pathN s)).2) (y := denOf (lowT c s (pathN s)).2) (by simp only at hen1; omega) (by omega) (by omega) a2 a3
   omega
  ·refine fracF_eq hqn.1 (by omega) hHn.1 (by omega) ?_
   have a1 := high_strong hc hs hqr
   have a2 := (hall i' his' _ hi').2
   have a3 := room_weak (c := c) hc (h := (highT c s (pathN s)).1) hHi.2.1 k2
   have a4 := vle_trans (a := numOf c (highT c s (pathN s)).1 (highT c s (pathN s)).2) (b := denOf (highT c s (pathN s)).2) (p := numOf c (highT c s (pathN s)).1 s2.lo) (q := denOf s2.lo) (x := numOf c q.1 q.2.lo) (y := denOf q.2.lo) (by simp only at hen2; omega) (by omega) (by omega) a3 a2
   omega
theorem best_next {m : Rm} (hS : Snd c s (pathN s) m) {seen : List Nat} {b : Bst} (hB : BOk c m seen b) {ix : Nat} {e : Int × Span} (he : m[ix]? = some e) :
  BOk c m (ix :: seen) (bNext c b e) := by
 have hN := Nat.le_refl (pathN s)
 have hem := List.mem_of_getElem? he
 have hden : ∀ p ∈ m, (0 ≤ numOf c p.1 p.2.hi ∧ 0 < denOf p.2.hi) ∧ 0 ≤ numOf c p.1 p.2.lo ∧ 0 < denOf p.2.lo := fun p hp => by
  have a := num_den hc hs (hS.2 p hp).1 hN
  have b := num_den hc hs (hS.2 p hp).2 hN
  omega
 cases hb : b with
 | none =>
  have hse := hB.1 hb
  subst hse
  refine ⟨fun h => (by cases h), fun p q h => ?_⟩
  injection h with h
  injection h with h1 h2
  subst h1 h2
  refine ⟨hem, hem, fun i hi e' he' => ?_⟩
  rw [List.mem_singleton] at hi
  subst hi
  rw [he] at he'
  injection he' with he'
  subst he'
  exact ⟨Int.le_refl _, Int.le_refl _⟩
 | some pq =>
  obtain ⟨p, q⟩ := pq
  obtain ⟨hp, hq, hall⟩ := hB.2 p q hb
  obtain ⟨dp, _⟩ := hden p hp
  obtain ⟨_, dq⟩ := hden q hq
  obtain ⟨de1, de2⟩ := hden e hem
  refine ⟨fun h => (by cases h), fun p' q' h => ?_⟩
  injection h with h
  injection h with h1 h2
  have iff1 := fracF_le dp.1 dp.2 de1.1 de1.2
  have iff2 := fracF_le de2.1 de2.2 dq.1 dq.2
  have key1 : p' ∈ m ∧ LeH c p' e ∧ ∀ i, i ∈ seen → ∀ e', m[i]? = some e' → LeH c p' e' := by
   by_cases hlt : (fh c e).1 * (fh c p).2 < (fh c p).1 * (fh c e).2
   ·rw [decide_eq_true hlt, cond_true] at h1
    subst h1
    refine ⟨hem, Int.le_refl _, fun i hi e' he' => ?_⟩
    have hx := (hall i hi e' he').1
    have hy : ¬ (numOf c p.1 p.2.hi * denOf e.2.hi ≤ numOf c e.1 e.2.hi * denOf p.2.hi) := fun hh => by
     have := iff1.2 hh
     unfold fh at hlt
     omega
    have de' := (hden e' (List.mem_of_getElem? he')).1
    exact vle_trans (p := numOf c p.1 p.2.hi) (q := denOf p.2.hi) dp.2 (Int.le_of_lt de1.2) (Int.le_of_lt de'.2) (by omega) hx
   ·rw [decide_eq_false hlt, cond_false] at h1
    subst h1
    refine ⟨hp, iff1.1 (by unfold fh at hlt; omega), fun i hi e' he' => (hall i hi e' he').1⟩
  have key2 : q' ∈ m ∧ LeL c e q' ∧ ∀ i, i ∈ seen → ∀ e', m[i]? = some e' → LeL c e' q' := by
   by_cases hlt : (fl c e).1 * (fl c q).2 > (fl c q).1 * (fl c e).2
   ·rw [decide_eq_true hlt, cond_true] at h2
    subst h2
    refine ⟨hem, Int.le_refl _, fun i hi e' he' => ?_⟩
    have hx := (hall i hi e' he').2
    have hy : ¬ (numOf c e.1 e.2.lo * denOf q.2.lo ≤ numOf c q.1 q.2.lo * denOf e.2.lo) := fun hh => by
     have := iff2.2 hh
     unfold fl at hlt
     omega
    have de' := (hden e' (List.mem_of_getElem? he')).2
    exact vle_trans (p := numOf c q.1 q.2.lo) (q := denOf q.2.lo) dq.2 (Int.le_of_lt de'.2) (Int.le_of_lt de2.2) hx (by omega)
   ·rw [decide_eq_false hlt, cond_false] at h2
    subst h2
    refine ⟨hq, iff2.1 (by unfold fl at hlt; omega), fun i hi e' he' => (hall i hi e' he').2⟩
  refine ⟨key1.1, key2.1, fun i hi e' he' => ?_⟩
  rcases List.mem_cons.1 hi with rfl | hi
  ·rw [he] at he'
   injection he' with he'
   subst he'
   exact ⟨key1.2.1, key2.2.1⟩
  ·exact ⟨key1.2.2 i hi e' he', key2.2.2 i hi e' he'⟩
theorem l26x3 (hF : 1000000000 < F) {m : Rm} (hI : Inv c s (pathN s) m) : ∀ j seen fu b, unseen m.length seen ≤ j → j < fu → BOk c m seen b →
  L26x3 (E F (d + 3)) F c s fu .i64 (bl c b).1 .i64 (bl c b).2 .i64 (bh c b).1 .i64 (bh c b).2 m.length seen (encR m) = some (.ret (.tup [.agg [.int .i64 (lowF c s).1, .int .i64 (lowF c s).2], .agg [.int .i64 (highF c s).1, .int .i64 (highF c s).2], .int .i64 0])) := by
 have hN := Nat.le_refl (pathN s)
 have hH := hc.2.1
 intro j
 induction j with
 | zero =>
  intro seen fu b h hf hB
  obtain ⟨fu, rfl⟩ : ∃ k, fu = k + 1 := ⟨fu - 1, by omega⟩
  rw [L26x3s]
  simp only [encR_len, beq_self_eq_true, pT]
  refine nextK_some (fun ha => ?_) fun i hi hn => ?_
  ·obtain ⟨e1, e2⟩ := best_end hc hs hI hB ha
   rw [e1, e2]
  ·have := unseen_step hi hn
   omega
 | succ j ih =>
  intro seen fu b h hf hB
  obtain ⟨fu, rfl⟩ : ∃ k, fu = k + 1 := ⟨fu - 1, by omega⟩
  rw [L26x3s]
  simp only [encR_len, beq_self_eq_true, pT]
  refine nextK_some (fun ha => ?_) fun i hi hn => ?_
  ·obtain ⟨e1, e2⟩ := best_end hc hs hI hB ha
   rw [e1, e2]
  ·have hu := unseen_step hi hn
   have hat : m[i]? = some m[i] := List.getElem?_eq_getElem hi
   generalize m[i] = pe at hat
   have hem := List.mem_of_getElem? hat
   have hB' := best_next hc hs hI.1 hB hat
   have e := ih (i :: seen) fu _ (by omega) (by omega) hB'
   have hr1 := (hI.1.2 pe hem).1
   have hr2 := (hI.1.2 pe hem).2
   have ri1 := reach_in hc hs hr1 hN
   have ri2 := reach_in hc hs hr2 hN
   have rn1 := num_den hc hs hr1 hN
   have rn2 := num_den hc hs hr2 hN
   have hm1 : c.hold * pe.2.lo ≤ 300 * pe.2.lo := Int.mul_le_mul_of_nonneg_right hH.2 ri1.2.2.1
   have hm2 : c.hold * pe.2.hi ≤ 300 * pe.2.hi := Int.mul_le_mul_of_nonneg_right hH.2 ri2.2.2.1
   have hm3 : 0 ≤ c.hold * pe.2.lo := Int.mul_nonneg (by omega) ri1.2.2.1
   have hm4 : 0 ≤ c.hold * pe.2.hi := Int.mul_nonneg (by omega) ri2.2.2.1
   have fi1 := fracF_in rn1.1 (show 0 < denOf pe.2.lo by omega)
   have fi2 := fracF_in rn2.1 (show 0 < denOf pe.2.hi by omega)
   have e69h := s69 F (d + 2) (numOf c pe.1 pe.2.hi) (denOf pe.2.hi) rn2.1 (by omega) (by omega) (by omega) (by omega)
   have e69l := s69 F (d + 2) (numOf c pe.1 pe.2.lo) (denOf pe.2.lo) rn1.1 (by omega) (by omega) (by omega) (by omega)
   unfold numOf denOf at e69h e69l
   simp (disch := omega) only [tkEnt, encR_at, hat, Option.map, tkInt_i, tkAgg_a, tkCons_c, tkNil_n, decide_true, pT, wr, e69h, e69l, tkOut_ret]
   have eh : fracF (1000000 * pe.1 - c.hold * pe.2.hi) (1000000 - pe.2.hi) = fh c pe := rfl
   have el : fracF (1000000 * pe.1 - c.hold * pe.2.lo) (1000000 - pe.2.lo) = fl c pe := rfl
   rw [eh, el]
   cases hb : b with
   | none =>
    rw [hb] at e
    simp only [bl, bh, beq_self_eq_true, pT]
    exact e
   | some pq =>
    obtain ⟨p, q⟩ := pq
    rw [hb] at e
    obtain ⟨hp, hq, _⟩ := hB.2 p q hb
    have pn := num_den hc hs (hI.1.2 p hp).2 hN
    have qn := num_den hc hs (hI.1.2 q hq).1 hN
    have fi3 : (0 ≤ (fh c p).1 ∧ (fh c p).1 ≤ numOf c p.1 p.2.hi) ∧ 0 < (fh c p).2 ∧ (fh c p).2 ≤ denOf p.2.hi := fracF_in pn.1 (by omega)
    have fi4 : (0 ≤ (fl c q).1 ∧ (fl c q).1 ≤ numOf c q.1 q.2.lo) ∧ 0 < (fl c q).2 ∧ (fl c q).2 ≤ denOf q.2.lo := fracF_in qn.1 (by omega)
    have fi1' : (0 ≤ (fl c pe).1 ∧ (fl c pe).1 ≤ numOf c pe.1 pe.2.lo) ∧ 0 < (fl c pe).2 ∧ (fl c pe).2 ≤ denOf pe.2.lo := fi1
    have fi2' : (0 ≤ (fh c pe).1 ∧ (fh c pe).1 ≤ numOf c pe.1 pe.2.hi) ∧ 0 < (fh c pe).2 ∧ (fh c pe).2 ≤ denOf pe.2.hi := fi2
    have m1 := mul_in (a := (fh c pe).1) (b := (fh c p).2) (x := 300000000) (y := 1000000) (by omega) (by omega) (by omega) (by omega)
    have m2 := mul_in (a := (fh c p).1) (b := (fh c pe).2) (x := 300000000) (y := 1000000) (by omega) (by omega) (by omega) (by omega)
    have m3 := mul_in (a := (fl c pe).1) (b := (fl c q).2) (x := 300000000) (y := 1000000) (by omega) (by omega) (by omega) (by omega)
    have m4 := mul_in (a := (fl c q).1) (b := (fl c pe).2) (x := 300000000) (y := 1000000) (by omega) (by omega) (by omega) (by omega)
    rw [show bl c (some (p, q)) = fh c p from rfl, show bh c (some (p, q)) = fl c q from rfl]
    rw [show ((fh c p).2 == 0) = false by rw [beq_eq_false_iff_ne]; omega, show ((fl c q).2 == 0) = false by rw [beq_eq_false_iff_ne]; omega]
    simp only [pF]
    rw [wr (n := (fh c pe).1 * (fh c p).2) (by omega), wr (n := (fh c p).1 * (fh c pe).2) (by omega), wr (n := (fl c pe).1 * (fl c q).2) (by omega), wr (n := (fl c q).1 * (fl c pe).2) (by omega)]
    cases g1 : decide ((fh c pe).1 * (fh c p).2 < (fh c p).1 * (fh c pe).2) <;> cases g2 : decide ((fl c pe).1 * (fl c q).2 > (fl c q).1 * (fl c pe).2)
    all_goals
     simp only [bNext, bl, bh, g1, g2, cond_true, cond_false] at e
     simp only [pT, pF]
     exact e
end
end Go.Sim.Le


namespace Go.Sim.Le
open Go.Proofs
def sumF (f : Nat → Int) : Nat → Int
 | 0 => 0
 | n + 1 => sumF f n + f n
theorem sumF_cong {f g : Nat → Int} : ∀ n, (∀ i, i < n → f i = g i) → sumF f n = sumF g n
 | 0, _ => rfl
 | n + 1, h => by simp only [sumF]; rw [sumF_cong n fun i hi => h i (by omega), h n (by omega)]
theorem sumF_upd (f : Nat → Int) (a : Nat) (x : Int) : ∀ n, sumF (fun i => if i = a then x else f i) n = sumF f n + (if a < n then x - f a else 0)
 | 0 => by simp [sumF]
 | n + 1 => by
  simp only [sumF]
  rw [sumF_upd f a x n]
  by_cases h : n = a
  ·subst h; rw [if_neg (by omega), if_pos rfl, if_pos (by omega)]; omega
  ·rw [if_neg h]
   by_cases h2 : a < n
   ·rw [if_pos h2, if_pos (by omega)]; omega
   ·rw [if_neg h2, if_neg (by omega)]; omega
theorem sumF_in {f : Nat → Int} {a b : Int} : ∀ n, (∀ i, i < n → a ≤ f i ∧ f i ≤ b) → a * n ≤ sumF f n ∧ sumF f n ≤ b * n
 | 0, _ => by simp [sumF]
 | n + 1, h => by
  have h1 := sumF_in n fun i hi => h i (by omega)
  have h2 := h n (by omega)
  simp only [sumF]
  have e1 : a * ((n + 1 : Nat) : Int) = a * n + a := by rw [Int.natCast_add, Int.mul_add]; simp
  have e2 : b * ((n + 1 : Nat) : Int) = b * n + b := by rw [Int.natCast_add, Int.mul_add]; simp
  omega
theorem sumF_mul (x : Int) (f : Nat → Int) : ∀ n, sumF (fun i => f i * x) n = x * sumF f n
 | 0 => by simp [sumF]
 | n + 1 => by simp only [sumF]; rw [sumF_mul x f n, Int.mul_add, Int.mul_comm x (f n)]
def tkT (c : Cav) (s : Stg) (w : Nat → Int) : Nat → Int × Int
 | 0 => (0, 0)
 | k + 1 => ((tkT c s w k).1 + min (w (pathAt s k).toNat) (c.hold - (tkT c s w k).1), (tkT c s w k).2 + min (w (pathAt s k).toNat) (c.hold - (tkT c s w k).1) * oAt c s k)
def takeN (c : Cav) (s : Stg) (w : Nat → Int) (k : Nat) : Int := min (w (pathAt s k).toNat) (c.hold - (tkT c s w k).1)
def takeRow (c : Cav) (s : Stg) (w : Nat → Int) : Nat → Nat → Int
 | 0 => fun _ => 0
 | k + 1 => fun j => if j = (pathAt s k).toNat then takeN c s w k else takeRow c s w k j
def takeSl (c : Cav) (s : Stg) (w : Nat → Int) : Sl Int := ⟨false, c.slices.len, takeRow c s w (pathN s)⟩
abbrev RatesOk (c : Cav) (w : Nat → Int) : Prop := ∀ i, i < c.slices.len → (c.slices.el i).rate.lo ≤ w i ∧ w i ≤ (c.slices.el i).rate.hi
def pathSum (c : Cav) (s : Stg) (w g : Nat → Int) : Nat → Int
 | 0 => 0
 | k + 1 => pathSum c s w g k + g (pathAt s k).toNat * takeN c s w k
theorem pathAt_inj {s : Stg} {j k : Nat} (h : pathAt s j = pathAt s k) : j = k := by
 unfold pathAt stepOf at h
 split at h <;> omega
variable (F d : Nat)
section
variable {c : Cav} (hc : CavOk c) {s : Stg} (hs : StgOk c.slices.len s) (w : Nat → Int) (hw : RatesOk c w)
include hc hs hw
theorem take_reach : ∀ k, k ≤ pathN s → Reach c s k (tkT c s w k).1 (tkT c s w k).2 := by
 intro k
 induction k with
 | zero => intro _; exact .zero
 | succ k ih =>
  intro h
  have i := ih (by omega)
  have hin := pathAt_in hs (k := k) (by omega)
  have hr : (slAt c s k).rate.lo ≤ w (pathAt s k).toNat ∧ w (pathAt s k).toNat ≤ (slAt c s k).rate.hi := hw _ (by omega)
  exact .step i (by omega) (by omega)
theorem takeN_in {k : Nat} (h : k < pathN s) : 0 ≤ takeN c s w k ∧ takeN c s w k ≤ 300 ∧ takeN c s w k ≤ c.hold - (tkT c s w k).1 := by
 have hr := rate_at hc hs h
 have hi := reach_in hc hs (take_reach hc hs w hw k (by omega)) (by omega)
 have hin := pathAt_in hs h
 have hr : (slAt c s k).rate.lo ≤ w (pathAt s k).toNat ∧ w (pathAt s k).toNat ≤ (slAt c s k).rate.hi := hw _ (by omega)
 unfold takeN
 omega
theorem takeRow_in : ∀ k, k ≤ pathN s → ∀ i, 0 ≤ takeRow c s w k i ∧ takeRow c s w k i ≤ 300 := by
 intro k
 induction k with
 | zero => intro _ i; simp [takeRow]
 | succ k ih =>
  intro h i
  have h1 := takeN_in hc hs w hw (k := k) (by omega)
  have h2 := ih (by omega) i
  simp only [takeRow]
  split <;> omega
omit hc hw in
theorem takeRow_0 : ∀ k i, k ≤ i → i < pathN s → takeRow c s w k (pathAt s i).toNat = 0 := by
 intro k
 induction k with
 | zero => intro i _ _; rfl
 | succ k ih =>
  intro i h hi
  simp only [takeRow]
  have h1 := pathAt_in hs (k := k) (by omega)
  have h2 := pathAt_in hs hi
  rw [if_neg (fun e => by have := pathAt_inj (s := s) (j := i) (k := k) (by omega); omega)]
  exact ih i (by omega) hi
omit hc hw in
theorem take_sum (g : Nat → Int) : ∀ k, k ≤ pathN s → sumF (fun i => g i * takeRow c s w k i) c.slices.len = pathSum c s w g k := by
 intro k
 induction k with
 | zero =>
  intro _
  simp only [takeRow, pathSum, Int.mul_zero]
  have := sumF_in (f := fun _ => 0) (a := 0) (b := 0) c.slices.len fun i _ => ⟨Int.le_refl _, Int.le_refl _⟩
  omega
 | succ k ih =>
  intro h
  have h1 := pathAt_in hs (k := k) (by omega)
  have e : sumF (fun i => g i * takeRow c s w (k + 1) i) c.slices.len = sumF (fun i => if i = (pathAt s k).toNat then g (pathAt s k).toNat * takeN c s w k else g i * takeRow c s w k i) c.slices.len := by
   refine sumF_cong _ fun i _ => ?_
   simp only [takeRow]
   by_cases hi : i = (pathAt s k).toNat
   ·rw [if_pos hi, if_pos hi, hi]
   ·rw [if_neg hi, if_neg hi]
  rw [e, sumF_upd, if_pos (by omega), ih (by omega), takeRow_0 hs w k k (Nat.le_refl _) (by omega), pathSum]
  omega
omit hc hs hw in
theorem pathSum_1 : ∀ k, pathSum c s w (fun _ => 1) k = (tkT c s w k).1 := by
 intro k
 induction k with
 | zero => rfl
 | succ k ih => simp only [pathSum, tkT, takeN]; rw [ih]; omega
omit hc hs hw in
theorem pathSum_o : ∀ k, pathSum c s w (fun i => (c.slices.el i).opn - (c.slices.el i).fall) k = (tkT c s w k).2 := by
 intro k
 induction k with
 | zero => rfl
 | succ k ih => simp only [pathSum, tkT, takeN]; rw [ih, Int.mul_comm]; rfl
theorem l50 (W : Sl Int) (hW : W.el = w) (hWl : W.len = c.slices.len) : ∀ j k fu, k + j = pathN s → j < fu →
  L50x0 (E F d) F c s W fu (tkT c s w k).1 false (pathN s) 1 (fun i => eInt ((pathSl s).el i)) k (fun i => eInt (takeRow c s w k i)) = some (.ret (sl eInt 1 (takeSl c s w))) := by
 intro j
 have hp := pathN_le hs
 have hl := hc.1
 have hH := hc.2.1
 induction j with
 | zero =>
  intro k fu h hf
  obtain ⟨fu, rfl⟩ : ∃ k, fu = k + 1 := ⟨fu - 1, by omega⟩
  rw [L50x0s, decide_eq_false (by omega), pF]
  simp only [Int.toNat_natCast, sl, takeSl, show k = pathN s by omega]
 | succ j ih =>
  intro k fu h hf
  obtain ⟨fu, rfl⟩ : ∃ k, fu = k + 1 := ⟨fu - 1, by omega⟩
  have hin := pathAt_in hs (k := k) (by omega)
  have hi := reach_in hc hs (take_reach hc hs w hw k (by omega)) (by omega)
  have hr := rate_at hc hs (k := k) (by omega)
  have hwr : (slAt c s k).rate.lo ≤ w (pathAt s k).toNat ∧ w (pathAt s k).toNat ≤ (slAt c s k).rate.hi := hw _ (by omega)
  have e3 := upd_int (takeRow c s w k) (pathAt s k).toNat (takeN c s w k)
  unfold takeN at e3
  rw [L50x0s]
  simp (disch := omega) only [wr, decide_eq_true, decide_true, pT, tkCons_c, tkInt_i, mnE, Int.toNat_natCast, pathSl_el, show ((1 : Nat) == 1) = true from rfl, hW]
  rw [e3]
  exact ih (k + 1) fu (by omega) (by omega)
theorem s50 (W : Sl Int) (hW : W.el = w) (hWl : W.len = c.slices.len) (hF : 400 < F) : (E F (d + 2)).pf 50 [.agg (eCav c), .agg (eStg s), sl eInt 1 W] = some (.ret (sl eInt 1 (takeSl c s w))) := by
 have hl := hc.1
 have hp := pathN_le hs
 have h := l50 F (d + 1) hc hs w hw W hW hWl (pathN s) 0 F (by omega) (by omega)
 rw [E_pf, t50]
 simp (disch := omega) only [decide_eq_true, decide_true, pT, s83 F d s hs hl.2, tkOut_ret, tkRow_r]
 exact h
theorem l71 (W : Sl Int) : ∀ j i fu, i + j = c.slices.len → j < fu →
  L71x0 (E F (d + 99)) F c s W fu false c.slices.len 1 (fun i => eInt (takeRow c s w (pathN s) i)) (s.water * sumF (takeRow c s w (pathN s)) i) (s.water * sumF (fun i => ((c.slices.el i).opn - (c.slices.el i).fall) * takeRow c s w (pathN s) i) i) i
   = some (.ret (.agg [.int .i64 (fracF (numOf c (tkT c s w (pathN s)).1 (tkT c s w (pathN s)).2) (denOf (tkT c s w (pathN s)).2)).1, .int .i64 (fracF (numOf c (tkT c s w (pathN s)).1 (tkT c s w (pathN s)).2) (denOf (tkT c s w (pathN s)).2)).2])) := by
 intro j
 have hp := pathN_le hs
 have hl := hc.1
 have hH := hc.2.1
 have hwa := hs.1
 induction j with
 | zero =>
  intro i fu h hf
  obtain ⟨fu, rfl⟩ : ∃ k, fu = k + 1 := ⟨fu - 1, by omega⟩
  have hi : i = c.slices.len := by omega
  subst hi
  have hR := take_reach hc hs w hw (pathN s) (Nat.le_refl _)
  have hri := reach_in hc hs hR (Nat.le_refl _)
  have hrn := num_den hc hs hR (Nat.le_refl _)
  have e1 := take_sum hs w (fun _ => 1) (c := c) (pathN s) (Nat.le_refl _)
  simp only [Int.one_mul] at e1
  rw [pathSum_1] at e1
  have e2 := take_sum hs w (fun i => (c.slices.el i).opn - (c.slices.el i).fall) (c := c) (pathN s) (Nat.le_refl _)
  rw [pathSum_o] at e2
  rw [L71x0s, decide_eq_false (by omega), pF]
  rw [show (takeRow c s w (pathN s)) = fun i => takeRow c s w (pathN s) i from rfl, e1, e2]
  have m1 := mul_in (a := (tkT c s w (pathN s)).1) (b := s.water) (x := 300) (y := 1000000) (by omega) (by omega) (by omega) (by omega)
  have m2 := mul_in (a := (tkT c s w (pathN s)).2) (b := s.water) (x := 900000) (y := 1000000) (by omega) (by omega) (by omega) (by omega)
  rw [Int.mul_comm] at m1 m2
  rw [Int.mul_comm (tkT c s w (pathN s)).1] at m1
  rw [Int.mul_comm (tkT c s w (pathN s)).2] at m2
  have m0 : 0 ≤ s.water * (tkT c s w (pathN s)).2 := Int.mul_nonneg (by omega) (by omega)
  have m3 := mul_in (a := s.water * (tkT c s w (pathN s)).2) (b := c.hold) (x := 900000000000) (y := 300) (by omega) (by omega) (by omega) (by omega)
  rw [Int.mul_comm (s.water * (tkT c s w (pathN s)).2)] at m3
  have en : 1000000 * (s.water * (tkT c s w (pathN s)).1) - c.hold * (s.water * (tkT c s w (pathN s)).2) = s.water * numOf c (tkT c s w (pathN s)).1 (tkT c s w (pathN s)).2 := by
   unfold numOf
   rw [Int.mul_sub, Int.mul_left_comm 1000000, Int.mul_left_comm c.hold]
  have ed : 1000000 * s.water - s.water * (tkT c s w (pathN s)).2 = s.water * denOf (tkT c s w (pathN s)).2 := by
   unfold denOf
   rw [Int.mul_sub, Int.mul_comm 1000000]
  have m4 := mul_in (a := numOf c (tkT c s w (pathN s)).1 (tkT c s w (pathN s)).2) (b := s.water) (x := 300000000) (y := 1000000) (by omega) (by omega) (by omega) (by omega)
  have m5 := mul_in (a := denOf (tkT c s w (pathN s)).2) (b := s.water) (x := 1000000) (y := 1000000) (by omega) (by omega) (by omega) (by omega)
  rw [Int.mul_comm (numOf c _ _)] at m4
  rw [Int.mul_comm (denOf _)] at m5
  have m6 : 0 ≤ s.water * numOf c (tkT c s w (pathN s)).1 (tkT c s w (pathN s)).2 := Int.mul_nonneg (by omega) hrn.1
  have m7 : 0 < s.water * denOf (tkT c s w (pathN s)).2 := Int.mul_pos (by omega) (by omega)
  rw [wr (n := 1000000 * (s.water * (tkT c s w (pathN s)).1)) (by omega), wr (n := c.hold * (s.water * (tkT c s w (pathN s)).2)) (by omega), wr (n := 1000000 * s.water) (by omega), wr (n := 1000000 * (s.water * (tkT c s w (pathN s)).1) - c.hold * (s.water * (tkT c s w (pathN s)).2)) (by omega), wr (n := 1000000 * s.water - s.water * (tkT c s w (pathN s)).2) (by omega), en, ed]
  have e9 := s100 F (d + 14) 41 (s.water * numOf c (tkT c s w (pathN s)).1 (tkT c s w (pathN s)).2) (s.water * denOf (tkT c s w (pathN s)).2) m6 m7 (by rw [show (2 : Int) ^ 41 = 2199023255552 from rfl]; omega) (by omega) (by omega)
  rw [show d + 14 + 2 * 41 + 3 = d + 99 by omega, fracF_mul (by omega) hrn.1 (by omega)] at e9
  rw [e9]
  simp only [tkOut_ret, tkAgg_a, tkCons_c, tkInt_i, tkNil_n]
 | succ j ih =>
  intro i fu h hf
  obtain ⟨fu, rfl⟩ : ∃ k, fu = k + 1 := ⟨fu - 1, by omega⟩
  have hti := takeRow_in hc hs w hw (pathN s) (Nat.le_refl _)
  have ho := hc.2.2.2 i (by omega)
  have ho1 : 1000 ≤ (c.slices.el i).opn ∧ (c.slices.el i).opn ≤ 3000 := ho.2.1
  have ho2 : 0 ≤ (c.slices.el i).fall ∧ (c.slices.el i).fall ≤ (c.slices.el i).opn - 1 := ho.2.2.1
  have s1 := sumF_in (f := takeRow c s w (pathN s)) (a := 0) (b := 300) i fun i _ => hti i
  have s2 := sumF_in (f := fun i => ((c.slices.el i).opn - (c.slices.el i).fall) * takeRow c s w (pathN s) i) (a := 0) (b := 900000) i fun k hk => by
   have ho := hc.2.2.2 k (by omega)
   have ho1 : 1000 ≤ (c.slices.el k).opn ∧ (c.slices.el k).opn ≤ 3000 := ho.2.1
   have ho2 : 0 ≤ (c.slices.el k).fall ∧ (c.slices.el k).fall ≤ (c.slices.el k).opn - 1 := ho.2.2.1
   have ht := hti k
   have := mul_in (a := (c.slices.el k).opn - (c.slices.el k).fall) (b := takeRow c s w (pathN s) k) (x := 3000) (y := 300) (by omega) (by omega) (by omega) (by omega)
   have h0 : 0 ≤ ((c.slices.el k).opn - (c.slices.el k).fall) * takeRow c s w (pathN s) k := Int.mul_nonneg (by omega) (by omega)
   exact ⟨h0, by omega⟩
  have ht := hti i
  have m1 := mul_in (a := takeRow c s w (pathN s) i) (b := s.water) (x := 300) (y := 1000000) (by omega) (by omega) (by omega) (by omega)
  have m1' : 0 ≤ takeRow c s w (pathN s) i * s.water := Int.mul_nonneg (by omega) (by omega)
  have m2 := mul_in (a := (c.slices.el i).opn - (c.slices.el i).fall) (b := takeRow c s w (pathN s) i * s.water) (x := 3000) (y := 300000000) (by omega) (by omega) (by omega) (by omega)
  have m3 := mul_in (a := sumF (takeRow c s w (pathN s)) i) (b := s.water) (x := 3000) (y := 1000000) (by omega) (by omega) (by omega) (by omega)
  rw [Int.mul_comm (sumF _ _)] at m3
  have m4 := mul_in (a := sumF (fun i => ((c.slices.el i).opn - (c.slices.el i).fall) * takeRow c s w (pathN s) i) i) (b := s.water) (x := 9000000) (y := 1000000) (by omega) (by omega) (by omega) (by omega)
  rw [Int.mul_comm (sumF _ _)] at m4
  have e := ih (i + 1) fu (by omega) (by omega)
  simp only [sumF, Int.mul_add] at e
  rw [L71x0s]
  rw [decide_eq_true (show (i : Int) < (c.slices.len : Int) by omega), pT]
  simp (disch := omega) only [decide_eq_true, decide_true, pT, tkCons_c, tkInt_i, Int.toNat_natCast, show ((1 : Nat) == 1) = true from rfl]
  rw [wr (n := takeRow c s w (pathN s) i * s.water) (by omega), wr (n := (c.slices.el i).opn - (c.slices.el i).fall) (by omega), wr (n := ((c.slices.el i).opn - (c.slices.el i).fall) * (takeRow c s w (pathN s) i * s.water)) (by omega), wr (by omega), wr (by omega), wrS (by omega)]
  rw [Int.mul_comm (takeRow c s w (pathN s) i) s.water, Int.mul_left_comm ((c.slices.el i).opn - (c.slices.el i).fall) s.water]
  exact e
theorem s71 (W : Sl Int) (hW : W.el = w) (hWl : W.len = c.slices.len) (hF : 400 < F) : (E F (d + 100)).pf 71 [.agg (eCav c), .agg (eStg s), sl eInt 1 W] = some (.ret (.agg [.int .i64 (fracF (numOf c (tkT c s w (pathN s)).1 (tkT c s w (pathN s)).2) (denOf (tkT c s w (pathN s)).2)).1, .int .i64 (fracF (numOf c (tkT c s w (pathN s)).1 (tkT c s w (pathN s)).2) (denOf (tkT c s w (pathN s)).2)).2])) := by
 have hl := hc.1
 have h := l71 F d hc hs w hw W c.slices.len 0 F (by omega) (by omega)
 simp only [sumF, Int.mul_zero] at h
 have e50 : (E F (d + 99)).pf 50 [.agg (eCav c), .agg (eStg s), sl eInt 1 W] = some (.ret (sl eInt 1 (takeSl c s w))) := s50 F (d + 97) hc hs w hw W hW hWl hF
 rw [E_pf, t71, e50]
 simp only [tkOut_ret, tkRow_r]
 exact h
end
end Go.Sim.Le


namespace Go.Sim.Le
open Go.Proofs
def endF (c : Cav) (b : Bool) (i : Nat) : Int := if b then (c.slices.el i).rate.hi else (c.slices.el i).rate.lo
abbrev endSl (c : Cav) (b : Bool) : Sl Int := tabSl (endF c b) c.slices.len
variable (F d : Nat)
theorem l72 {c : Cav} (hc : CavOk c) (b : Bool) : ∀ j k fu, k + j = c.slices.len → 1 ≤ k → j < fu →
  L72x1 (E F d) F c b fu k k k (gl eInt 0 (tabL (endF c b) k)) = some (.ret (sl eInt 1 (endSl c b))) := by
 have hl := hc.1
 intro j
 induction j with
 | zero =>
  intro k fu h hk hf
  obtain ⟨fu, rfl⟩ : ∃ k, fu = k + 1 := ⟨fu - 1, by omega⟩
  rw [L72x1s, decide_eq_false (by omega), pF, show k = c.slices.len by omega]
  rfl
 | succ j ih =>
  intro k fu h hk hf
  obtain ⟨fu, rfl⟩ : ∃ k, fu = k + 1 := ⟨fu - 1, by omega⟩
  have e := ih (k + 1) fu (by omega) (by omega) (by omega)
  rw [tabL_S, ← gl_snoc (m := endF c b k) (e := eInt) (tabL_len _ k) rfl] at e
  rw [L72x1s]
  simp (disch := omega) only [wr, decide_eq_true, decide_true, pT, Int.toNat_natCast]
  cases b
  ·rw [pF]; exact e
  ·rw [pT]; exact e
theorem s72 {c : Cav} (hc : CavOk c) (b : Bool) (hF : 400 < F) : (E F (d + 1)).pf 72 [.agg (eCav c), .bool b] = some (.ret (sl eInt 1 (endSl c b))) := by
 have hl := hc.1
 obtain ⟨F, rfl⟩ : ∃ k, F = k + 1 := ⟨F - 1, by omega⟩
 have e := l72 (F + 1) d hc b (c.slices.len - 1) 1 F (by omega) (by omega) (by omega)
 rw [show tabL (endF c b) 1 = [endF c b 0] from rfl, ← gl_one rfl] at e
 rw [E_pf, t72, L72x0s]
 simp (disch := omega) only [wr, decide_eq_true, decide_true, pT, Int.zero_add]
 cases b
 ·rw [pF]; exact e
 ·rw [pT]; exact e
theorem ends_ok {c : Cav} (hc : CavOk c) (b : Bool) : RatesOk c (endSl c b).el := by
 intro i hi
 have h := (hc.2.2.2 i hi).2.2.2.1
 unfold SpanIn at h
 rw [tabSl_el _ hi]
 unfold endF
 cases b <;> simp <;> omega
theorem ends_low {c : Cav} {s : Stg} (hs : StgOk c.slices.len s) : ∀ k, k ≤ pathN s → tkT c s (endSl c false).el k = lowT c s k := by
 intro k
 induction k with
 | zero => intro _; rfl
 | succ k ih =>
  intro h
  have hin := pathAt_in hs (k := k) (by omega)
  simp only [tkT, lowT]
  rw [ih (by omega), tabSl_el _ (by omega)]
  rfl
theorem ends_high {c : Cav} {s : Stg} (hs : StgOk c.slices.len s) : ∀ k, k ≤ pathN s → tkT c s (endSl c true).el k = highT c s k := by
 intro k
 induction k with
 | zero => intro _; rfl
 | succ k ih =>
  intro h
  have hin := pathAt_in hs (k := k) (by omega)
  simp only [tkT, highT]
  rw [ih (by omega), tabSl_el _ (by omega)]
  rfl
theorem s29 {c : Cav} (hc : CavOk c) {s : Stg} (hs : StgOk c.slices.len s) (hF : 400 < F) : (E F (d + 101)).pf 29 [.agg (eCav c), .agg (eStg s)] =
  some (.ret (.tup [.agg [.int .i64 (lowF c s).1, .int .i64 (lowF c s).2], .agg [.int .i64 (highF c s).1, .int .i64 (highF c s).2]])) := by
 have e1 := s72 F (d + 99) hc false hF
 have e2 := s72 F (d + 99) hc true hF
 have e3 := s71 F d hc hs (endSl c false).el (ends_ok hc false) (endSl c false) rfl rfl hF
 have e4 := s71 F d hc hs (endSl c true).el (ends_ok hc true) (endSl c true) rfl rfl hF
 rw [ends_low hs _ (Nat.le_refl _)] at e3
 rw [ends_high hs _ (Nat.le_refl _)] at e4
 rw [E_pf, t29]
 simp only [e1, tkOut_ret, tkRow_r]
 simp only [sl] at e3 e4
 simp only [e3, tkOut_ret, tkAgg_a, tkCons_c, tkInt_i, tkNil_n]
 simp only [e2, tkOut_ret, tkRow_r]
 simp only [e4, tkOut_ret, tkAgg_a, tkCons_c, tkInt_i, tkNil_n]
 rfl
theorem s26 (c : Cav) (s : Stg) (hB : c.slices.len < Big) (hCF : c.slices.len < F) (hF : 1000000000 < F) : (E F (d + 6)).pf 26 [.agg (eCav c), .agg (eStg s)] =
  some (.ret (.tup (if CavOk c ∧ StgOk c.slices.len s then [.agg [.int .i64 (lowF c s).1, .int .i64 (lowF c s).2], .agg [.int .i64 (highF c s).1, .int .i64 (highF c s).2], .int .i64 0] else [.agg [.int .i64 0, .int .i64 0], .agg [.int .i64 0, .int .i64 0], .int .i64 2]))) := by
 rw [E_pf, t26]
 simp only [s66 F d c hB hCF, tkOut_ret, tkBool_b]
 by_cases h1 : CavOk c
 ·by_cases h2 : StgOk c.slices.len s
  ·rw [if_pos ⟨h1, h2⟩]
   have hI : ∀ m, Inv c s (pathN s) m → L26x3 (E F (d + 5)) F c s F .i64 0 .i64 0 .i64 0 .i64 0 m.length [] (encR m) = some (.ret (.tup [.agg [.int .i64 (lowF c s).1, .int .i64 (lowF c s).2], .agg [.int .i64 (highF c s).1, .int .i64 (highF c s).2], .int .i64 0])) := fun m hm => by
    have hlen := snd_len h1 h2 (Nat.le_refl _) hm.1
    exact l26x3 F (d + 2) h1 h2 hF hm m.length [] F none (unseen_le _ _) (by omega) ⟨fun _ => rfl, fun p q h => by cases h⟩
   have e := fun b0 b1 b2 b3 b4 => l26x0 F (d + 2) h1 h2 hF b0 b1 b2 b3 b4 _ hI
   simp only [s67 F (d + 3) c s hB, s68, tkOut_ret, tkBool_b, decide_eq_true h1, decide_eq_true h2, Bool.not_true, pF, tkFn_f, tkNil_n, tkCons_c, tkPtr_p, tkInt_i, Nat.beq_refl, Bool.and_self, pT, decide_true]
   unfold stepOf at e
   by_cases hd : s.out < s.into
   ·simp only [if_pos hd] at e
    rw [decide_eq_true hd, pT]; exact e _ _ _ _ _
   ·simp only [if_neg hd] at e
    rw [decide_eq_false hd, pF]; exact e _ _ _ _ _
  ·rw [if_neg (fun h => h2 h.2)]
   simp only [s67 F (d + 3) c s hB, tkOut_ret, tkBool_b, decide_eq_true h1, decide_eq_false h2, Bool.not_true, Bool.not_false, pF, pT]
 ·rw [if_neg (fun h => h1 h.1)]
  simp only [decide_eq_false h1, Bool.not_false, pT]
end Go.Sim.Le


namespace Go.Sim.Le
open Go.Proofs
theorem rtRow_in {c : Cav} (hc : CavOk c) {s : Stg} (hs : StgOk c.slices.len s) : ∀ k, k ≤ pathN s → ∀ i, 0 ≤ (rtRow c s k i).lo ∧ (rtRow c s k i).lo ≤ (rtRow c s k i).hi ∧ (rtRow c s k i).hi ≤ 300 := by
 intro k
 induction k with
 | zero => intro _ i; simp [rtRow]
 | succ k ih =>
  intro h i
  have h1 := rate_at hc hs (k := k) (by omega)
  have h3 := sumLo_in hc hs k (by omega)
  have h2 := ih (by omega) i
  simp only [rtRow]
  split
  ·simp only [rtK]; omega
  ·exact h2
def mostG (c : Cav) (l : Nat → Stg) (i : Nat) : Nat → Int
 | 0 => 0
 | j + 1 => max (mostG c l i j) ((rtRow c (l j) (pathN (l j)) i).lo * (l j).water * (c.slices.el i).opn)
def leastR (c : Cav) (l : Sl Stg) (w : Nat → Int) : Nat → Nat → Int → Option Int
 | 0, _, out => some out
 | j + 1, k, out => if w k - (c.slices.el k).vol.lo ≤ 0 then leastR c l w j (k + 1) out else
   if mostG c l.el k l.len = 0 then none else leastR c l w j (k + 1) (max out ((w k - (c.slices.el k).vol.lo + mostG c l.el k l.len - 1) / mostG c l.el k l.len))
variable (F d : Nat)
section
variable {c : Cav} (hc : CavOk c) {l : Sl Stg} (hl : ∀ i, i < l.len → StgOk c.slices.len (l.el i))
include hc hl
theorem term_in {i j : Nat} (hi : i < c.slices.len) (hj : j < l.len) : (0 ≤ (rtRow c (l.el j) (pathN (l.el j)) i).lo * (l.el j).water ∧ (rtRow c (l.el j) (pathN (l.el j)) i).lo * (l.el j).water ≤ 300000000) ∧ 0 ≤ (rtRow c (l.el j) (pathN (l.el j)) i).lo * (l.el j).water * (c.slices.el i).opn ∧ (rtRow c (l.el j) (pathN (l.el j)) i).lo * (l.el j).water * (c.slices.el i).opn ≤ 900000000000 := by
 have hs := hl j hj
 have hr := rtRow_in hc hs (pathN (l.el j)) (Nat.le_refl _) i
 have hwa := hs.1
 have ho : 1000 ≤ (c.slices.el i).opn ∧ (c.slices.el i).opn ≤ 3000 := (hc.2.2.2 i hi).2.1
 have m1 := mul_in (a := (rtRow c (l.el j) (pathN (l.el j)) i).lo) (b := (l.el j).water) (x := 300) (y := 1000000) (by omega) (by omega) (by omega) (by omega)
 have m1' : 0 ≤ (rtRow c (l.el j) (pathN (l.el j)) i).lo * (l.el j).water := Int.mul_nonneg (by omega) (by omega)
 have m2 := mul_in (a := (rtRow c (l.el j) (pathN (l.el j)) i).lo * (l.el j).water) (b := (c.slices.el i).opn) (x := 300000000) (y := 3000) (by omega) (by omega) (by omega) (by omega)
 have m2' : 0 ≤ (rtRow c (l.el j) (pathN (l.el j)) i).lo * (l.el j).water * (c.slices.el i).opn := Int.mul_nonneg m1' (by omega)
 exact ⟨⟨m1', by omega⟩, m2', by omega⟩
theorem mostG_in {i : Nat} (hi : i < c.slices.len) : ∀ j, j ≤ l.len → 0 ≤ mostG c l.el i j ∧ mostG c l.el i j ≤ 900000000000 := by
 intro j
 induction j with
 | zero => intro _; simp [mostG]
 | succ j ih =>
  intro h
  have h1 := ih (by omega)
  have h2 := term_in hc hl hi (j := j) (by omega)
  simp only [mostG]
  omega
theorem l36x1 (w : Sl Int) (hF : 400 < F) (hL : l.len ≤ 300) (m0 i : Nat) (hi : i < c.slices.len) (out mis : Int) (hm : 0 < mis ∧ mis ≤ 10000000000000) (R : Option Out)
  (K : (if mostG c l.el i l.len = 0 then some (.ret (.tup [.int .i64 0, .int .i64 5])) else L36x0 (E F (d + 2)) F c l w m0 (max out ((mis + mostG c l.el i l.len - 1) / mostG c l.el i l.len)) ((i + 1 : Nat) : Int)) = R) :
  ∀ j k fu, k + j = l.len → j < fu →
  L36x1 (E F (d + 2)) F c l w m0 fu out i mis (mostG c l.el i k) i k (c.slices.el i).vol.lo (c.slices.el i).vol.hi (c.slices.el i).opn (c.slices.el i).fall (c.slices.el i).rate.lo (c.slices.el i).rate.hi (c.slices.el i).most = R := by
 have hcl := hc.1
 intro j
 induction j with
 | zero =>
  intro k fu h hf
  obtain ⟨fu, rfl⟩ : ∃ k, fu = k + 1 := ⟨fu - 1, by omega⟩
  have hk : k = l.len := by omega
  subst hk
  have hmg := mostG_in hc hl hi l.len (Nat.le_refl _)
  rw [L36x1s, decide_eq_false (by omega), pF]
  by_cases h0 : mostG c l.el i l.len = 0
  ·rw [if_pos h0] at K
   rw [show (mostG c l.el i l.len == 0) = true by rw [beq_iff_eq]; exact h0, pT]
   exact K
  ·rw [if_neg h0] at K
   rw [show (mostG c l.el i l.len == 0) = false by rw [beq_eq_false_iff_ne]; exact h0, pF, decide_eq_false h0, pF]
   rw [wr (n := mis + mostG c l.el i l.len) (by omega), wr (n := mis + mostG c l.el i l.len - 1) (by omega), Int.tdiv_eq_ediv_of_nonneg (by omega)]
   have hd := div_in (x := mis + mostG c l.el i l.len - 1) (g := mostG c l.el i l.len) (by omega) (by omega)
   rw [wr (n := (mis + mostG c l.el i l.len - 1) / mostG c l.el i l.len) (by omega), wrS (by omega)]
   simp only [mxE]
   exact K
 | succ j ih =>
  intro k fu h hf
  obtain ⟨fu, rfl⟩ : ∃ k, fu = k + 1 := ⟨fu - 1, by omega⟩
  have ht := term_in hc hl hi (j := k) (by omega)
  have e := s82 F d c hc (l.el k) (hl k (by omega)) (by omega)
  have e2 := ih (k + 1) fu (by omega) (by omega)
  rw [L36x1s]
  simp (disch := omega) only [decide_eq_true, decide_true, pT, Int.toNat_natCast, e, tkOut_ret, tkRow_r, show ((2 : Nat) == 2) = true from rfl, show (rateSl c (l.el k)).len = c.slices.len from rfl, tkCons_c, tkInt_i]
  rw [show (rateSl c (l.el k)).el i = rtRow c (l.el k) (pathN (l.el k)) i from rfl, wr (n := (rtRow c (l.el k) (pathN (l.el k)) i).lo * (l.el k).water) (by omega), wr (n := (rtRow c (l.el k) (pathN (l.el k)) i).lo * (l.el k).water * (c.slices.el i).opn) (by omega), wrS (by omega)]
  simp only [mxE]
  exact e2
theorem l36x0 (w : Sl Int) (hw : WantOk c w) (hF : 400 < F) (hL : l.len ≤ 300) : ∀ j k fu out, k + j = c.slices.len → j < fu →
  L36x0 (E F (d + 2)) F c l w fu out k = some (.ret (.tup (match leastR c l w.el j k out with | some n => [.int .i64 n, .int .i64 0] | none => [.int .i64 0, .int .i64 5]))) := by
 have hcl := hc.1
 intro j
 induction j with
 | zero =>
  intro k fu out h hf
  obtain ⟨fu, rfl⟩ : ∃ k, fu = k + 1 := ⟨fu - 1, by omega⟩
  rw [L36x0s, decide_eq_false (by omega), pF]
  rfl
 | succ j ih =>
  intro k fu out h hf
  obtain ⟨fu, rfl⟩ : ∃ k, fu = k + 1 := ⟨fu - 1, by omega⟩
  have hv : SpanIn (c.slices.el k).vol 0 10000000000000 := (hc.2.2.2 k (by omega)).1
  unfold SpanIn at hv
  have hwk := hw.1 k (by rw [hw.2]; omega)
  have hwl := hw.2
  rw [L36x0s]
  simp (disch := omega) only [decide_eq_true, decide_true, pT, Int.toNat_natCast, wr (n := w.el k - (c.slices.el k).vol.lo)]
  by_cases h0 : w.el k - (c.slices.el k).vol.lo ≤ 0
  ·rw [decide_eq_true h0, pT, wrS (by omega), ih (k + 1) fu out (by omega) (by omega)]
   simp only [leastR, if_pos h0]
  ·rw [decide_eq_false h0, pF]
   refine l36x1 F d hc hl w hF hL fu k (by omega) out (w.el k - (c.slices.el k).vol.lo) (by omega) _ ?_ l.len 0 F (by omega) (by omega)
   simp only [leastR, if_neg h0]
   by_cases hm : mostG c l.el k l.len = 0
   ·rw [if_pos hm, if_pos hm]
   ·rw [if_neg hm, if_neg hm]
    exact ih (k + 1) fu _ (by omega) (by omega)
theorem l37x1 (w : Sl Int) (hF : 400 < F) (hL : l.len ≤ 300) (m0 i : Nat) (hi : i < c.slices.len) (out mis : Int) (hm : 0 < mis ∧ mis ≤ 10000000000000) (R : Option Out)
  (K : (if mostG c l.el i l.len = 0 then some (.ret (.tup [.int .i64 0, .bool false])) else L37x0 (E F (d + 2)) F c l w m0 (max out ((mis + mostG c l.el i l.len - 1) / mostG c l.el i l.len)) ((i + 1 : Nat) : Int)) = R) :
  ∀ j k fu, k + j = l.len → j < fu →
  L37x1 (E F (d + 2)) F c l w m0 fu out i mis (mostG c l.el i k) k = R := by
 have hcl := hc.1
 intro j
 induction j with
 | zero =>
  intro k fu h hf
  obtain ⟨fu, rfl⟩ : ∃ k, fu = k + 1 := ⟨fu - 1, by omega⟩
  have hk : k = l.len := by omega
  subst hk
  have hmg := mostG_in hc hl hi l.len (Nat.le_refl _)
  rw [L37x1s, decide_eq_false (by omega), pF]
  by_cases h0 : mostG c l.el i l.len = 0
  ·rw [if_pos h0] at K
   rw [show (mostG c l.el i l.len == 0) = true by rw [beq_iff_eq]; exact h0, pT]
   exact K
  ·rw [if_neg h0] at K
   rw [show (mostG c l.el i l.len == 0) = false by rw [beq_eq_false_iff_ne]; exact h0, pF, decide_eq_false h0, pF]
   rw [wr (n := mis + mostG c l.el i l.len) (by omega), wr (n := mis + mostG c l.el i l.len - 1) (by omega), Int.tdiv_eq_ediv_of_nonneg (by omega)]
   have hd := div_in (x := mis + mostG c l.el i l.len - 1) (g := mostG c l.el i l.len) (by omega) (by omega)
   rw [wr (n := (mis + mostG c l.el i l.len - 1) / mostG c l.el i l.len) (by omega), wrS (by omega)]
   simp only [mxE]
   exact K
 | succ j ih =>
  intro k fu h hf
  obtain ⟨fu, rfl⟩ : ∃ k, fu = k + 1 := ⟨fu - 1, by omega⟩
  have ht := term_in hc hl hi (j := k) (by omega)
  have hwa := (hl k (by omega)).1
  have ho : 1000 ≤ (c.slices.el i).opn ∧ (c.slices.el i).opn ≤ 3000 := (hc.2.2.2 i hi).2.1
  have m1 := mul_in (a := (c.slices.el i).opn) (b := (l.el k).water) (x := 3000) (y := 1000000) (by omega) (by omega) (by omega) (by omega)
  have e := s41 F d c hc (l.el k) (hl k (by omega)) (by omega)
  have e2 := ih (k + 1) fu (by omega) (by omega)
  have ec : (c.slices.el i).opn * (l.el k).water * (rtRow c (l.el k) (pathN (l.el k)) i).lo = (rtRow c (l.el k) (pathN (l.el k)) i).lo * (l.el k).water * (c.slices.el i).opn := by
   rw [Int.mul_comm, Int.mul_comm (c.slices.el i).opn, Int.mul_assoc]
  rw [L37x1s]
  simp (disch := omega) only [decide_eq_true, decide_true, pT, Int.toNat_natCast, e, tkOut_ret, tkRow_r, show ((2 : Nat) == 2) = true from rfl, show (rateSl c (l.el k)).len = c.slices.len from rfl, tkCons_c, tkInt_i]
  rw [show (rateSl c (l.el k)).el i = rtRow c (l.el k) (pathN (l.el k)) i from rfl, wr (n := (c.slices.el i).opn * (l.el k).water) (by omega), ec, wr (n := (rtRow c (l.el k) (pathN (l.el k)) i).lo * (l.el k).water * (c.slices.el i).opn) (by omega), wrS (by omega)]
  simp only [mxE]
  exact e2
theorem l37x0 (w : Sl Int) (hw : WantOk c w) (hF : 400 < F) (hL : l.len ≤ 300) : ∀ j k fu out, k + j = c.slices.len → j < fu →
  L37x0 (E F (d + 2)) F c l w fu out k = some (.ret (.tup (match leastR c l w.el j k out with | some n => [.int .i64 n, .bool true] | none => [.int .i64 0, .bool false]))) := by
 have hcl := hc.1
 have hwl := hw.2
 intro j
 induction j with
 | zero =>
  intro k fu out h hf
  obtain ⟨fu, rfl⟩ : ∃ k, fu = k + 1 := ⟨fu - 1, by omega⟩
  rw [L37x0s, decide_eq_false (by omega), pF]
  rfl
 | succ j ih =>
  intro k fu out h hf
  obtain ⟨fu, rfl⟩ : ∃ k, fu = k + 1 := ⟨fu - 1, by omega⟩
  have hv : SpanIn (c.slices.el k).vol 0 10000000000000 := (hc.2.2.2 k (by omega)).1
  unfold SpanIn at hv
  have hwk := hw.1 k (by rw [hw.2]; omega)
  rw [L37x0s]
  simp (disch := omega) only [decide_eq_true, decide_true, pT, Int.toNat_natCast, wr (n := w.el k - (c.slices.el k).vol.lo)]
  by_cases h0 : w.el k - (c.slices.el k).vol.lo ≤ 0
  ·rw [decide_eq_true h0, pT, wrS (by omega), ih (k + 1) fu out (by omega) (by omega)]
   simp only [leastR, if_pos h0]
  ·rw [decide_eq_false h0, pF]
   refine l37x1 F d hc hl w hF hL fu k (by omega) out (w.el k - (c.slices.el k).vol.lo) (by omega) _ ?_ l.len 0 F (by omega) (by omega)
   simp only [leastR, if_neg h0]
   by_cases hm : mostG c l.el k l.len = 0
   ·rw [if_pos hm, if_pos hm]
   ·rw [if_neg hm, if_neg hm]
    exact ih (k + 1) fu _ (by omega) (by omega)
end
def leastX (c : Cav) (l : Sl Stg) (w : Sl Int) : Option Int := leastR c l w.el c.slices.len 0 0
theorem s36 (c : Cav) (l : Sl Stg) (w : Sl Int) (hC : c.slices.len < Big) (hCF : c.slices.len < F) (hB : l.len < Big) (hLF : l.len < F) (hW : w.len < Big) (hWF : w.len < F) (hF : 400 < F) :
  (E F (d + 8)).pf 36 [.agg (eCav c), sl eStg 4 l, sl eInt 1 w] = some (.ret (.tup (if errM c l w = 0 then (match leastX c l w with | some n => [.int .i64 n, .int .i64 0] | none => [.int .i64 0, .int .i64 5]) else [.int .i64 0, .int .i64 (errM c l w)]))) := by
 rw [E_pf, t36]
 simp only [s77 F d c l w hC hCF hB hLF hW hWF, tkOut_ret, tkInt_i, decide_true, pT]
 by_cases h0 : errM c l w = 0
 ·obtain ⟨h6, hc, h1, hl, hw⟩ := errM_0.1 h0
  have hcl := hc.1
  rw [h0, show ((0 : Int) != 0) = false from rfl, pF, if_pos rfl]
  exact l36x0 F (d + 5) hc hl w hw hF (by omega) c.slices.len 0 F 0 (by omega) (by omega)
 ·have e1 : (errM c l w != 0) = true := by simpa using h0
  rw [e1, pT, if_neg h0]
theorem s37 {c : Cav} (hc : CavOk c) {l : Sl Stg} (hl : ∀ i, i < l.len → StgOk c.slices.len (l.el i)) (hL : l.len ≤ 300) {w : Sl Int} (hw : WantOk c w) (hF : 400 < F) :
  (E F (d + 3)).pf 37 [.agg (eCav c), sl eStg 4 l, sl eInt 1 w] = some (.ret (.tup (match leastX c l w with | some n => [.int .i64 n, .bool true] | none => [.int .i64 0, .bool false]))) := by
 have hcl := hc.1
 have hwl := hw.2
 rw [E_pf, t37]
 exact l37x0 F d hc hl w hw hF hL c.slices.len 0 F 0 (by omega) (by omega)
end Go.Sim.Le


namespace Go.Sim.Le
open Go.Proofs
def exSl : Nat → Slc
 | 0 => ⟨⟨900000, 1000000⟩, 1200, 100, ⟨20, 40⟩, 1480000⟩
 | 1 => ⟨⟨1000000, 1000000⟩, 1100, 50, ⟨30, 50⟩, 3000000⟩
 | _ => ⟨⟨500000, 600000⟩, 1000, 0, ⟨40, 60⟩, 3000000⟩
def exC : Cav := ⟨⟨false, 3, exSl⟩, 100, 700000⟩
def exA : Stg := ⟨10, 0, 1, 2⟩
def exB : Stg := ⟨10, 2, 0, 3⟩
def exAB : Sl Stg := ⟨false, 2, fun i => if i = 0 then exA else exB⟩
def tR3 (a b c : Int) : Nat → Int
 | 0 => a
 | 1 => b
 | _ => c
def ex3 (a b c : Int) : Sl Int := ⟨false, 3, tR3 a b c⟩
def gl' (a : Int) : Nat → Int := fun j => [a].getD j ([a].getLastD 0)
theorem exOk : CavOk exC := by decide +kernel
theorem exAOk : StgOk exC.slices.len exA := by decide +kernel
theorem exBOk : StgOk exC.slices.len exB := by decide +kernel
theorem kBound : boundS exC (fun _ => exB) ⟨ex3 0 0 0, 1⟩ 1 = ⟨20000, 45000⟩ := by decide +kernel
theorem kLow : lowF exC exA = (89300, 1893) := by decide +kernel
theorem kHigh : highF exC exA = (160700, 1807) := by decide +kernel
theorem kLeast : leastX exC exAB (ex3 1400000 0 0) = some 3 := by decide +kernel
theorem kRate : SameP (rateSl exC exB) ⟨false, 3, fun i => if i = 0 then ⟨0, 30⟩ else if i = 1 then ⟨30, 50⟩ else ⟨40, 60⟩⟩ := by decide +kernel
theorem kFault : faultR exC exAB.el 2 0 = (1, 5, 0) := by decide +kernel
theorem kPlan : planX exC exAB (ex3 900000 1300000 800000) = some [1] := by decide +kernel
theorem exGet (z0 z1 z2 : Slc) : (fun u : Nat => List.take 7 (List.drop (Min.min u 2 * 7) (eSlc z0 ++ eSlc z1 ++ eSlc z2))) = fun i => eSlc (match i with | 0 => z0 | 1 => z1 | _ => z2) := by
 funext i
 match i with
 | 0 => rfl
 | 1 => rfl
 | i + 2 => simp [show Min.min (i + 2) 2 = 2 by omega]
theorem pairStg (p q : Stg) : (fun u : Nat => List.take 4 (List.drop (Min.min u 1 * 4) [V.int .i64 p.water, .int .i64 p.into, .int .i64 p.out, .int .i64 p.blanket, .int .i64 q.water, .int .i64 q.into, .int .i64 q.out, .int .i64 q.blanket])) = fun i => eStg (if i = 0 then p else q) := by
 funext i
 match i with
 | 0 => rfl
 | i + 1 => simp [show Min.min (i + 1) 1 = 1 by omega]
theorem tri3 (a b c : Int) : (fun u : Nat => List.take 1 (List.drop (Min.min u 2 * 1) [V.int .i64 a, .int .i64 b, .int .i64 c])) = fun i => eInt (tR3 a b c i) := by
 funext i
 match i with
 | 0 => rfl
 | 1 => rfl
 | i + 2 => simp [show Min.min (i + 2) 2 = 2 by omega, tR3]
def sp3 : Nat → Span := fun i => if i = 0 then ⟨0, 30⟩ else if i = 1 then ⟨30, 50⟩ else ⟨40, 60⟩
theorem span3 : (fun u : Nat => List.take 2 (List.drop (Min.min u 2 * 2) [V.int .i64 0, .int .i64 30, .int .i64 30, .int .i64 50, .int .i64 40, .int .i64 60])) = fun i => eSpan (sp3 i) := by
 funext i
 match i with
 | 0 => rfl
 | 1 => rfl
 | i + 2 => simp [show Min.min (i + 2) 2 = 2 by omega, sp3]
variable (F d : Nat)
theorem s54 : (E F (d + 1)).pf 54 [] = some (.ret (.agg (eCav exC))) := by
 rw [E_pf, t54]
 have h := exGet ⟨⟨900000, 1000000⟩, 1200, 100, ⟨20, 40⟩, 1480000⟩ ⟨⟨1000000, 1000000⟩, 1100, 50, ⟨30, 50⟩, 3000000⟩ ⟨⟨500000, 600000⟩, 1000, 0, ⟨40, 60⟩, 3000000⟩
 refine congrArg (fun g => some (Out.ret (V.agg [V.row false 3 7 g, V.int .i64 100, V.int .i64 700000]))) (h.trans ?_)
 funext i
 match i with
 | 0 => rfl
 | 1 => rfl
 | i + 2 => rfl
theorem s55 : (E F (d + 1)).pf 55 [] = some (.ret (.agg (eStg exB))) := by rw [E_pf, t55]; rfl
theorem s56 : (E F (d + 1)).pf 56 [] = some (.ret (.agg (eStg exA))) := by rw [E_pf, t56]; rfl
set_option maxRecDepth 100000 in
theorem s21 (hF : 1000000000 < F) : (E F (d + 19)).pf 21 [] = some (.ret (.bool true)) := by
 have hB3 : exC.slices.len < Big := by decide +kernel
 have hF3 : exC.slices.len < F := by show 3 < F; omega
 have q54 : (E F (d + 18)).pf 54 [] = _ := s54 F (d + 17)
 have q55 : (E F (d + 18)).pf 55 [] = _ := s55 F (d + 17)
 have q56 : (E F (d + 18)).pf 56 [] = _ := s56 F (d + 17)
 have q39 : (E F (d + 18)).pf 39 [.agg (eCav exC), .agg (eStg exB)] = _ := s39 F (d + 12) exC exB hB3 hF3 (by omega)
 rw [if_pos ⟨exOk, exBOk⟩] at q39
 have q22 : (E F (d + 18)).pf 22 [.agg (eCav exC), sl eStg 4 ⟨false, 1, fun _ => exB⟩, sl eInt 1 (ex3 0 0 0), .int .i64 1] = _ := s22 F (d + 3) exC ⟨false, 1, fun _ => exB⟩ (ex3 0 0 0) 1 hB3 hF3 (by decide +kernel) (by show 1 < F; omega) (by decide +kernel) (by show 3 < F; omega) (by omega)
 rw [if_pos (show errP exC ⟨false, 1, fun _ => exB⟩ (decide (WtOk exC (ex3 0 0 0) 1)) = 0 by decide +kernel), kBound] at q22
 have q26 : (E F (d + 18)).pf 26 [.agg (eCav exC), .agg (eStg exA)] = _ := s26 F (d + 12) exC exA hB3 hF3 hF
 rw [if_pos ⟨exOk, exAOk⟩, kLow, kHigh] at q26
 have q30 : (E F (d + 18)).pf 30 [.agg (eCav exC), sl eStg 4 exAB] = _ := s30 F d exC exAB hB3 hF3 (by decide +kernel) (by show 2 < F; omega) (by omega)
 rw [if_pos (show errP exC exAB true = 0 by decide +kernel), show exAB.len = 2 from rfl, kFault] at q30
 have q33 : (E F (d + 18)).pf 33 [.agg (eCav exC), sl eStg 4 exAB, sl eInt 1 (ex3 900000 1300000 800000)] = _ := s33 F d exC exAB (ex3 900000 1300000 800000) hB3 hF3 (by decide +kernel) (by show 2 < F; omega) (by decide +kernel) (by show 3 < F; omega) (by omega)
 rw [if_pos (show errM exC exAB (ex3 900000 1300000 800000) = 0 by decide +kernel), kPlan] at q33
 have q36 : (E F (d + 18)).pf 36 [.agg (eCav exC), sl eStg 4 exAB, sl eInt 1 (ex3 1400000 0 0)] = _ := s36 F (d + 10) exC exAB (ex3 1400000 0 0) hB3 hF3 (by decide +kernel) (by show 2 < F; omega) (by decide +kernel) (by show 3 < F; omega) (by omega)
 rw [if_pos (show errM exC exAB (ex3 1400000 0 0) = 0 by decide +kernel), kLeast] at q36
 have q40 : (E F (d + 18)).pf 40 [sl eSpan 2 (rateSl exC exB), sl eSpan 2 ⟨false, 3, sp3⟩] = _ := s40 F (d + 17) (rateSl exC exB) ⟨false, 3, sp3⟩ hB3 hF3
 rw [decide_eq_true (show SameP (rateSl exC exB) ⟨false, 3, sp3⟩ from kRate)] at q40
 have q35 : (E F (d + 18)).pf 35 [sl eInt 1 ⟨false, 1, gl' 1⟩, sl eInt 1 ⟨false, 1, fun _ => 1⟩] = _ := s35 F (d + 17) ⟨false, 1, gl' 1⟩ ⟨false, 1, fun _ => 1⟩ (by decide +kernel) (by show 1 < F; omega)
 have p39 : (E F (d + 18)).pf 39 [.agg [.row exC.slices.nl exC.slices.len 7 (fun i => eSlc (exC.slices.el i)), .int .i64 exC.hold, .int .i64 exC.oil], .agg [.int .i64 exB.water, .int .i64 exB.into, .int .i64 exB.out, .int .i64 exB.blanket]] = _ := q39
 have p22 : (E F (d + 18)).pf 22 [.agg [.row exC.slices.nl exC.slices.len 7 (fun i => eSlc (exC.slices.el i)), .int .i64 exC.hold, .int .i64 exC.oil], .row false 1 4 (fun _ => [.int .i64 exB.water, .int .i64 exB.into, .int .i64 exB.out, .int .i64 exB.blanket]), .row false 3 1 (fun i => eInt (tR3 0 0 0 i)), .int .i64 1] = _ := q22
 have p26 : (E F (d + 18)).pf 26 [.agg [.row exC.slices.nl exC.slices.len 7 (fun i => eSlc (exC.slices.el i)), .int .i64 exC.hold, .int .i64 exC.oil], .agg [.int .i64 exA.water, .int .i64 exA.into, .int .i64 exA.out, .int .i64 exA.blanket]] = _ := q26
 have p30 : (E F (d + 18)).pf 30 [.agg [.row exC.slices.nl exC.slices.len 7 (fun i => eSlc (exC.slices.el i)), .int .i64 exC.hold, .int .i64 exC.oil], .row false 2 4 (fun i => eStg (if i = 0 then exA else exB))] = _ := q30
 have p33 : (E F (d + 18)).pf 33 [.agg [.row exC.slices.nl exC.slices.len 7 (fun i => eSlc (exC.slices.el i)), .int .i64 exC.hold, .int .i64 exC.oil], .row false 2 4 (fun i => eStg (if i = 0 then exA else exB)), .row false 3 1 (fun i => eInt (tR3 900000 1300000 800000 i))] = some (.ret (.tup [.row false 1 1 (fun i => eInt (gl' 1 i)), .int .i64 0])) := q33
 have p36 : (E F (d + 18)).pf 36 [.agg [.row exC.slices.nl exC.slices.len 7 (fun i => eSlc (exC.slices.el i)), .int .i64 exC.hold, .int .i64 exC.oil], .row false 2 4 (fun i => eStg (if i = 0 then exA else exB)), .row false 3 1 (fun i => eInt (tR3 1400000 0 0 i))] = some (.ret (.tup [.int .i64 3, .int .i64 0])) := q36
 have p40 : (E F (d + 18)).pf 40 [.row (rateSl exC exB).nl (rateSl exC exB).len 2 (fun i => eSpan ((rateSl exC exB).el i)), .row false 3 2 (fun i => eSpan (sp3 i))] = _ := q40
 have p35 : (E F (d + 18)).pf 35 [.row false 1 1 (fun i => eInt (gl' 1 i)), .row false 1 1 (fun _ => [.int .i64 1])] = some (.ret (.bool true)) := by
  refine q35.trans ?_
  rw [decide_eq_true (show SameI ⟨false, 1, gl' 1⟩ ⟨false, 1, fun _ => 1⟩ from ⟨rfl, fun i hi => by
   have h0 : i = 0 := by have : i < 1 := hi; omega
   subst h0; rfl⟩)]
 have z : ∀ {α : Type} (a b : α), (bif ((0 : Int) != 0) then a else b) = b := fun a b => rfl
 rw [E_pf, t21]
 simp only [q54, q55, q56, p39, p22, p26, p30, p33, p36, tkOut_ret, tkAgg_a, tkTup_t, tkCons_c, tkInt_i, tkBool_b, tkRow_r, tkNil_n, pairStg, tri3, span3, decide_true, pT, z, p40, p35, eSpan]
 rfl
end Go.Sim.Le
