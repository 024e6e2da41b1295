import Derived.Test.YtmfgmgifbkjaoaaGreatAe
import Derived.IntWalk
set_option linter.unusedVariables false
set_option linter.unusedSimpArgs false
set_option linter.unusedSectionVars false

namespace Go.Sim.Le
open Go.Proofs
section
variable {R : Type}
theorem tkOut_ret (v : V) (f : R) (k kp : V → R) : tkOut (some (.ret v)) f k kp = k v := Eq.trans (Eq.refl _) (Eq.refl _)
theorem tkBool_b (b : Bool) (f : R) (k : Bool → R) : tkBool (.bool b) f k = k b := Eq.trans (Eq.refl _) (Eq.refl _)
theorem tkInt_i (q : IntKind) (n : Int) (f : R) (k : IntKind → Int → R) : tkInt (.int q n) f k = k q n := Eq.trans (Eq.refl _) (Eq.refl _)
theorem tkAgg_a (l : List V) (f : R) (k : List V → R) : tkAgg (.agg l) f k = k l := Eq.trans (Eq.refl _) (Eq.refl _)
theorem tkRow_r (a : Bool) (n wd : Nat) (g : Nat → List V) (f : R) (k : Bool → Nat → Nat → (Nat → List V) → R) : tkRow (.row a n wd g) f k = k a n wd g := Eq.trans (Eq.refl _) (Eq.refl _)
theorem tkCons_c (v : V) (l : List V) (f : R) (k : V → List V → R) : tkCons (v :: l) f k = k v l := Eq.trans (Eq.refl _) (Eq.refl _)
theorem tkNil_n (f k : R) : tkNil [] f k = k := Eq.trans (Eq.refl _) (Eq.refl _)
theorem tkFn_f (g : Nat) (a b : List V) (f : R) (k : Nat → List V → List V → R) : tkFn (.fn (.func g) a b) f k = k g a b := Eq.trans (Eq.refl _) (Eq.refl _)
theorem tkPtr_p (n wd : Nat) (g : Nat → List V) (i o : Nat) (f : R) (k : Nat → Nat → (Nat → List V) → Nat → Nat → R) : tkPtr (.rptr n wd g i o) f k = k n wd g i o := Eq.trans (Eq.refl _) (Eq.refl _)
theorem tkHv_h (v : V) (h : List Slot) (f : R) (k : V → List Slot → R) : tkHv (some (.ret v, h)) f k = k v h := Eq.trans (Eq.refl _) (Eq.refl _)
theorem tkSCons_c (s : Slot) (l : List Slot) (f : R) (k : Slot → List Slot → R) : tkSCons (s :: l) f k = k s l := Eq.trans (Eq.refl _) (Eq.refl _)
theorem tkSNil_n (f k : R) : tkSNil [] f k = k := Eq.trans (Eq.refl _) (Eq.refl _)
theorem tkBox_b (e : Nat) (c : List V) (w : Bool) (f : R) (k : Nat → List V → Bool → R) : tkBox (.box e c w) f k = k e c w := Eq.trans (Eq.refl _) (Eq.refl _)
theorem tkArr_a (e wd n : Nat) (g : Nat → List V) (w : Bool) (f : R) (k : Nat → Nat → Nat → (Nat → List V) → Bool → R) : tkArr (.arr e wd n g w) f k = k e wd n g w := Eq.trans (Eq.refl _) (Eq.refl _)
theorem tkMp_m (a : Bool) (ks : List KS) (es : List (V × V)) (w : Bool) (f : R) (k : Bool → List KS → List (V × V) → Bool → R) : tkMp (.mp a ks es w) f k = k a ks es w := Eq.trans (Eq.refl _) (Eq.refl _)
theorem pT (a b : R) : (bif true then a else b) = a := Eq.trans (Eq.refl _) (Eq.refl _)
theorem pF (a b : R) : (bif false then a else b) = b := Eq.trans (Eq.refl _) (Eq.refl _)
theorem tkSl_o (b lo n : Nat) (f : R) (k : Bool → Nat → Nat → (Nat → List V) → R) (k' : Nat → Nat → Nat → R) : tkSl (.osl b lo n) f k k' = k' b lo n := Eq.trans (Eq.refl _) (Eq.refl _)
end
theorem cAnd (a b : Bool) : (bif a then some (Out.ret (.bool b)) else some (.ret (.bool false))) = some (.ret (.bool (a && b))) := by cases a <;> rfl
theorem cOr (a b : Bool) : (bif a then some (Out.ret (.bool true)) else some (.ret (.bool b))) = some (.ret (.bool (a || b))) := by cases a <;> rfl
theorem wr {n : Int} (h : -9223372036854775808 ≤ n ∧ n ≤ 9223372036854775807) : IntKind.i64.wrap n = n := by rw [IntKind.wrap_i64]; omega
theorem wrS {i : Nat} (h : i < 4611686018427387904) : IntKind.i64.wrap ((i : Int) + 1) = ((i + 1 : Nat) : Int) := by rw [wr (by omega)]; omega
theorem b2 {a b : Bool} (h : a = true ↔ b = true) : a = b := by cases a <;> cases b <;> simp_all
theorem b3 {a b : Bool} (h : a = b) : some (Out.ret (.bool a)) = some (.ret (.bool b)) := by rw [h]
abbrev Big : Nat := 4611686018427387904
abbrev SpanIn (p : Span) (a b : Int) : Prop := a ≤ p.lo ∧ p.lo ≤ p.hi ∧ p.hi ≤ b
abbrev SlcOk (x : Slc) : Prop := SpanIn x.vol 0 10000000000000 ∧ (1000 ≤ x.opn ∧ x.opn ≤ 3000) ∧ (0 ≤ x.fall ∧ x.fall ≤ x.opn - 1) ∧ SpanIn x.rate 0 300 ∧ 0 ≤ x.most ∧ x.most ≤ 10000000000000
abbrev CavOk (c : Cav) : Prop := (1 ≤ c.slices.len ∧ c.slices.len ≤ 10) ∧ (1 ≤ c.hold ∧ c.hold ≤ 300) ∧ (0 ≤ c.oil ∧ c.oil ≤ 10000000000000) ∧ ∀ i, i < c.slices.len → SlcOk (c.slices.el i)
abbrev StgOk (n : Nat) (s : Stg) : Prop := (1 ≤ s.water ∧ s.water ≤ 1000000) ∧ (0 ≤ s.into ∧ s.into < n) ∧ (0 ≤ s.out ∧ s.out < n) ∧ s.into ≠ s.out ∧ 0 ≤ s.blanket ∧ s.blanket ≤ n
variable (F d : Nat)
theorem s59 (x y z : Int) : (E F (d + 1)).pf 54 [.int .i64 x, .int .i64 y, .int .i64 z] = some (.ret (.bool (decide (y ≤ x ∧ x ≤ z)))) := by
  rw [E_pf, t59]; simp only [cAnd, Bool.decide_and, ge_iff_le]
theorem s64 (x y z : Int) : (E F (d + 1)).pf 25 [.int .i64 x, .int .i64 y, .int .i64 z] = some (.ret (.bool (decide (y ≤ x ∧ x ≤ z)))) := by
  rw [E_pf, t64]; simp only [cAnd, Bool.decide_and, ge_iff_le]
theorem s98 (p : Span) (a n : Int) : (E F (d + 1)).pf 117 [.agg (eSpan p), .int .i64 a, .int .i64 n] = some (.ret (.bool (decide (SpanIn p a n)))) := by
  rw [E_pf, t98]; simp only [cAnd, Bool.decide_and, ge_iff_le]
theorem s70 (p : Span) (a n : Int) : (E F (d + 1)).pf 50 [.agg (eSpan p), .int .i64 a, .int .i64 n] = some (.ret (.bool (decide (SpanIn p a n)))) := by
  rw [E_pf, t70]; simp only [cAnd, Bool.decide_and, ge_iff_le]
theorem s97 (x : Slc) : (E F (d + 2)).pf 116 [.agg (eSlc x)] = some (.ret (.bool (!decide (SlcOk x)))) := by
  rw [E_pf, t97]; simp only [s98, s59, tkOut_ret, tkBool_b, cOr]
  refine b3 ?_
  by_cases h : 1000 ≤ x.opn ∧ x.opn ≤ 3000
  · rw [wr (by omega)]
    simp only [Bool.decide_and, Bool.not_and]
  · simp [h]
theorem s67 (c : Cav) (s : Stg) (hB : c.slices.len < Big) : (E F (d + 2)).pf 120 [.agg (eCav c), .agg (eStg s)] = some (.ret (.bool (decide (StgOk c.slices.len s)))) := by
  rw [E_pf, t67]; simp only [s59, tkOut_ret, tkBool_b, cAnd]
  have hB' : c.slices.len < 4611686018427387904 := hB
  rw [wr (by omega)]
  refine b3 (b2 ?_)
  simp only [Bool.and_eq_true, decide_eq_true_iff, bne_iff_ne, ne_eq]
  omega
theorem s28 (c : Cav) (s : Stg) (hB : c.slices.len < Big) : (E F (d + 2)).pf 51 [.agg (eCav c), .agg (eStg s)] = some (.ret (.bool (decide (StgOk c.slices.len s)))) := by
  rw [E_pf, t28]; simp only [s64, tkOut_ret, tkBool_b, cAnd]
  have hB' : c.slices.len < 4611686018427387904 := hB
  rw [wr (by omega)]
  refine b3 (b2 ?_)
  simp only [Bool.and_eq_true, decide_eq_true_iff, bne_iff_ne, ne_eq]
  omega
theorem s108 (c : Cav) (s : Stg) (hB : c.slices.len < Big) : (E F (d + 3)).pf 119 [.agg (eStg s), .rptr 1 3 (fun _ => eCav c) 0 0] = some (.ret (.bool (!decide (StgOk c.slices.len s)))) := by
  rw [E_pf, t108]; simp only [s67 F d c s hB, tkOut_ret, tkBool_b]
theorem s58 (n : Int) : (E F (d + 2)).pf 53 [.int .i64 n] = some (.ret (.bool (decide (-1000 ≤ n ∧ n ≤ 1000)))) := by
  rw [E_pf, t58]; simp only [s59, tkOut_ret, tkBool_b]
theorem s61 (n : Int) : (E F (d + 3)).pf 56 [.int .i64 n, .rptr 1 1 (fun _ => [.fn (.func 53) [] []]) 0 0] = some (.ret (.bool (!decide (-1000 ≤ n ∧ n ≤ 1000)))) := by
  rw [E_pf, t61]; simp only [s58, tkOut_ret, tkBool_b]
def ixF (p : Nat → Bool) : Nat → Nat → Int
  | 0, _ => -1
  | n + 1, i => bif p i then (i : Int) else ixF p n (i + 1)
theorem ixF_ge (p : Nat → Bool) : ∀ n i, 0 ≤ ixF p n i ↔ ∃ k, i ≤ k ∧ k < i + n ∧ p k = true := by
  intro n
  induction n with
  | zero => intro i; simp only [ixF]; constructor <;> intro h
            · omega
            · obtain ⟨k, h1, h2, _⟩ := h; omega
  | succ n ih =>
    intro i
    simp only [ixF]
    cases h : p i
    · rw [cond_false, ih]
      constructor
      · rintro ⟨k, h1, h2, h3⟩; exact ⟨k, by omega, by omega, h3⟩
      · rintro ⟨k, h1, h2, h3⟩
        refine ⟨k, ?_, by omega, h3⟩
        rcases Nat.eq_or_lt_of_le h1 with rfl | h4
        · rw [h] at h3; cases h3
        · omega
    · rw [cond_true]
      exact ⟨fun _ => ⟨i, by omega, by omega, h⟩, fun _ => by omega⟩
theorem ge0 (p : Nat → Bool) (n : Nat) : (!decide (0 ≤ ixF p n 0)) = decide (∀ i, i < n → p i = false) := by
  apply b2
  rw [Bool.not_eq_true', decide_eq_false_iff_not, decide_eq_true_iff, ixF_ge]
  constructor
  · intro h i hi
    cases hp : p i
    · rfl
    · exact (h ⟨i, by omega, by omega, hp⟩).elim
  · rintro h ⟨k, _, h2, h3⟩
    rw [h k (by omega)] at h3; cases h3
theorem l111 (l : Sl Slc) (hB : l.len < Big) : ∀ n i fu, l.len = i + n → n < fu →
    L111x0 (E F (d + 2)) F l fu (i : Int) = some (.ret (.int .i64 (ixF (fun k => !decide (SlcOk (l.el k))) n i))) := by
  intro n
  induction n with
  | zero =>
    intro i fu h hf
    obtain ⟨fu, rfl⟩ : ∃ k, fu = k + 1 := ⟨fu - 1, by omega⟩
    rw [L111x0s]
    simp only [Int.ofNat_lt, show ¬ i < l.len by omega, decide_false, cond_false, ixF]
  | succ n ih =>
    intro i fu h hf
    obtain ⟨fu, rfl⟩ : ∃ k, fu = k + 1 := ⟨fu - 1, by omega⟩
    rw [L111x0s]
    simp only [Int.ofNat_lt, show i < l.len by omega, decide_true, cond_true, Int.natCast_nonneg, Int.toNat_natCast, s97, tkOut_ret, tkBool_b, wrS (show i < Big by omega), ih (i + 1) fu (by omega) (by omega), ixF]
    cases decide (SlcOk (l.el i)) <;> rfl
theorem l114 (c : Cav) (l : Sl Stg) (hC : c.slices.len < Big) (hB : l.len < Big) : ∀ n i fu, l.len = i + n → n < fu →
    L114x0 (E F (d + 3)) F c l fu (i : Int) = some (.ret (.int .i64 (ixF (fun k => !decide (StgOk c.slices.len (l.el k))) n i))) := by
  intro n
  induction n with
  | zero =>
    intro i fu h hf
    obtain ⟨fu, rfl⟩ : ∃ k, fu = k + 1 := ⟨fu - 1, by omega⟩
    rw [L114x0s]
    simp only [Int.ofNat_lt, show ¬ i < l.len by omega, decide_false, cond_false, ixF]
  | succ n ih =>
    intro i fu h hf
    obtain ⟨fu, rfl⟩ : ∃ k, fu = k + 1 := ⟨fu - 1, by omega⟩
    rw [L114x0s]
    simp only [Int.ofNat_lt, show i < l.len by omega, decide_true, cond_true, Int.natCast_nonneg, Int.toNat_natCast, s108 F d c _ hC, tkOut_ret, tkBool_b, wrS (show i < Big by omega), ih (i + 1) fu (by omega) (by omega), ixF]
    cases decide (StgOk c.slices.len (l.el i)) <;> rfl
theorem l9161 (w : Sl Int) (hB : w.len < Big) : ∀ n i fu, w.len = i + n → n < fu →
    L9161x0 (E F (d + 3)) F w fu (i : Int) = some (.ret (.int .i64 (ixF (fun k => !decide (-1000 ≤ w.el k ∧ w.el k ≤ 1000)) n i))) := by
  intro n
  induction n with
  | zero =>
    intro i fu h hf
    obtain ⟨fu, rfl⟩ : ∃ k, fu = k + 1 := ⟨fu - 1, by omega⟩
    rw [L9161x0s]
    simp only [Int.ofNat_lt, show ¬ i < w.len by omega, decide_false, cond_false, ixF]
  | succ n ih =>
    intro i fu h hf
    obtain ⟨fu, rfl⟩ : ∃ k, fu = k + 1 := ⟨fu - 1, by omega⟩
    rw [L9161x0s]
    simp only [Int.ofNat_lt, show i < w.len by omega, decide_true, cond_true, Int.natCast_nonneg, Int.toNat_natCast, s61, tkOut_ret, tkBool_b, wrS (show i < Big by omega), ih (i + 1) fu (by omega) (by omega), ixF]
    cases decide (-1000 ≤ w.el i ∧ w.el i ≤ 1000) <;> rfl
theorem s96 (l : Sl Slc) (hB : l.len < Big) (hF : l.len < F) : (E F (d + 4)).pf 115 [sl eSlc 7 l, .fn (.func 116) [] []] = some (.ret (.bool (!decide (∀ i, i < l.len → SlcOk (l.el i))))) := by
  rw [E_pf, t96, E_pf, t111, show L111x0 (E F (d + 2)) F l F 0 = _ from l111 F d l hB l.len 0 F (by omega) hF]
  simp only [tkOut_ret, tkInt_i, decide_true, cond_true, ge_iff_le]
  refine b3 (Bool.not_inj ?_)
  rw [Bool.not_not]
  exact (ge0 _ _).trans (by simp only [Bool.not_eq_false', decide_eq_true_eq])
theorem s107 (c : Cav) (l : Sl Stg) (hC : c.slices.len < Big) (hB : l.len < Big) (hF : l.len < F) : (E F (d + 5)).pf 118 [sl eStg 4 l, .fn (.func 119) [] [.rptr 1 3 (fun _ => eCav c) 0 0]] = some (.ret (.bool (!decide (∀ i, i < l.len → StgOk c.slices.len (l.el i))))) := by
  rw [E_pf, t107, E_pf, t114, show L114x0 (E F (d + 3)) F c l F 0 = _ from l114 F d c l hC hB l.len 0 F (by omega) hF]
  simp only [tkOut_ret, tkInt_i, decide_true, cond_true, ge_iff_le]
  refine b3 (Bool.not_inj ?_)
  rw [Bool.not_not]
  exact (ge0 _ _).trans (by simp only [Bool.not_eq_false', decide_eq_true_eq])
theorem s6061 (w : Sl Int) (hB : w.len < Big) (hF : w.len < F) : (E F (d + 5)).pf 55 [sl eInt 1 w, .fn (.func 56) [] [.rptr 1 1 (fun _ => [.fn (.func 53) [] []]) 0 0]] = some (.ret (.bool (!decide (∀ i, i < w.len → -1000 ≤ w.el i ∧ w.el i ≤ 1000)))) := by
  rw [E_pf, t6061, E_pf, t9161, show L9161x0 (E F (d + 3)) F w F 0 = _ from l9161 F d w hB w.len 0 F (by omega) hF]
  simp only [tkOut_ret, tkInt_i, decide_true, cond_true, ge_iff_le]
  refine b3 (Bool.not_inj ?_)
  rw [Bool.not_not]
  exact (ge0 _ _).trans (by simp only [Bool.not_eq_false', decide_eq_true_eq])
theorem s90 (c : Cav) (l : Sl Stg) (hC : c.slices.len < Big) (hB : l.len < Big) (hF : l.len < F) : (E F (d + 6)).pf 97 [.agg (eCav c), sl eStg 4 l] = some (.ret (.bool (decide (∀ i, i < l.len → StgOk c.slices.len (l.el i))))) := by
  rw [E_pf, t90]; simp only [s107 F d c l hC hB hF, tkOut_ret, tkBool_b, Bool.not_not]
theorem s66 (c : Cav) (hB : c.slices.len < Big) (hF : c.slices.len < F) : (E F (d + 5)).pf 96 [.agg (eCav c)] = some (.ret (.bool (decide (CavOk c)))) := by
  rw [E_pf, t66]; simp only [s59, s96 F d c.slices hB hF, tkOut_ret, tkBool_b, cAnd, Bool.not_not]
  refine b3 (b2 ?_)
  have e : ((1 : Int) ≤ (c.slices.len : Int) ∧ (c.slices.len : Int) ≤ 10) ↔ (1 ≤ c.slices.len ∧ c.slices.len ≤ 10) := by omega
  simp only [Bool.and_eq_true, decide_eq_true_iff, e, CavOk]
theorem s57 (c : Cav) (l : Sl Stg) (hC : c.slices.len < Big) (hCF : c.slices.len < F) (hB : l.len < Big) (hF : l.len < F) : (E F (d + 7)).pf 52 [.agg (eCav c), sl eStg 4 l] =
    some (.ret (.int .i64 (if 8 < l.len then 3 else if CavOk c ∧ ∀ i, i < l.len → StgOk c.slices.len (l.el i) then 0 else 2))) := by
  rw [E_pf, t57]; simp only [s66 F (d + 1) c hC hCF, s90 F d c l hC hB hF, tkOut_ret, tkBool_b]
  by_cases h1 : 8 < l.len
  · simp [h1, show (8 : Int) < (l.len : Int) by omega]
  · simp only [show ¬ (8 : Int) < (l.len : Int) by omega, h1, decide_false, cond_false, if_false]
    by_cases h2 : CavOk c
    · by_cases h3 : ∀ i, i < l.len → StgOk c.slices.len (l.el i)
      · rw [if_pos ⟨h2, h3⟩, decide_eq_true h2, decide_eq_true h3]; rfl
      · rw [if_neg (fun h => h3 h.2), decide_eq_true h2, decide_eq_false h3]; rfl
    · rw [if_neg (fun h => h2 h.1), decide_eq_false h2]; rfl
end Go.Sim.Le


namespace Go.Sim.Le
open Go.Proofs
def allF (p : Nat → Bool) : Nat → Nat → Bool
  | 0, _ => true
  | n + 1, i => p i && allF p n (i + 1)
theorem allF_iff (p : Nat → Bool) : ∀ n i, allF p n i = true ↔ ∀ k, i ≤ k → k < i + n → p k = true := by
  intro n
  induction n with
  | zero => intro i; simp only [allF, true_iff]; intro k h1 h2; omega
  | succ n ih =>
    intro i
    simp only [allF, Bool.and_eq_true, ih]
    constructor
    · rintro ⟨h1, h2⟩ k h3 h4
      rcases Nat.eq_or_lt_of_le h3 with rfl | h5
      · exact h1
      · exact h2 k h5 (by omega)
    · intro h
      exact ⟨h i (Nat.le_refl _) (by omega), fun k h1 h2 => h k (by omega) (by omega)⟩
theorem allF_dec (p : Nat → Bool) (n : Nat) : allF p n 0 = decide (∀ i, i < n → p i = true) := by
  apply b2
  rw [allF_iff, decide_eq_true_iff]
  exact ⟨fun h i hi => h i (Nat.zero_le _) (by omega), fun h i _ hi => h i (by omega)⟩
theorem cStep (p a : Bool) : (bif !p then some (Out.ret (.bool false)) else some (.ret (.bool a))) = some (.ret (.bool (p && a))) := by cases p <;> rfl
variable (F d : Nat)
theorem l27 (c : Cav) (hB : c.slices.len < Big) : ∀ n i fu, c.slices.len = i + n → n < fu →
    L27x0 (E F (d + 1)) F c fu (i : Int) = some (.ret (.bool (allF (fun k => decide (SlcOk (c.slices.el k))) n i && (decide (1 ≤ c.slices.len ∧ c.slices.len ≤ 10) && (decide (1 ≤ c.hold ∧ c.hold ≤ 300) && decide (0 ≤ c.oil ∧ c.oil ≤ 10000000000000)))))) := by
  intro n
  induction n with
  | zero =>
    intro i fu h hf
    obtain ⟨fu, rfl⟩ : ∃ k, fu = k + 1 := ⟨fu - 1, by omega⟩
    rw [L27x0s]
    simp only [Int.ofNat_lt, show ¬ i < c.slices.len by omega, decide_false, cond_false, allF, s64, tkOut_ret, tkBool_b, cAnd]
    have e : ((1 : Int) ≤ (c.slices.len : Int) ∧ (c.slices.len : Int) ≤ 10) ↔ (1 ≤ c.slices.len ∧ c.slices.len ≤ 10) := by omega
    simp only [e, Bool.true_and]
  | succ n ih =>
    intro i fu h hf
    obtain ⟨fu, rfl⟩ : ∃ k, fu = k + 1 := ⟨fu - 1, by omega⟩
    rw [L27x0s]
    simp only [Int.ofNat_lt, show i < c.slices.len by omega, decide_true, cond_true, Int.natCast_nonneg, Int.toNat_natCast, s64, s70, tkOut_ret, tkBool_b, wrS (show i < Big by omega), ih (i + 1) fu (by omega) (by omega), allF, cStep]
    refine b3 ?_
    generalize (c.slices.el i) = x
    by_cases h : 1000 ≤ x.opn ∧ x.opn ≤ 3000
    · rw [wr (by omega)]
      simp only [Bool.decide_and, Bool.and_assoc]
    · simp [h]
theorem s27 (c : Cav) (hB : c.slices.len < Big) (hF : c.slices.len < F) : (E F (d + 2)).pf 22 [.agg (eCav c)] = some (.ret (.bool (decide (CavOk c)))) := by
  rw [E_pf, t27, show L27x0 (E F (d + 1)) F c F 0 = _ from l27 F d c hB c.slices.len 0 F (by omega) hF, allF_dec]
  refine b3 (b2 ?_)
  simp only [Bool.and_eq_true, decide_eq_true_iff]
  exact ⟨fun ⟨a, b, e, f⟩ => ⟨b, e, f, a⟩, fun ⟨a, b, e, f⟩ => ⟨f, a, b, e⟩⟩
theorem l63 (c : Cav) (l : Sl Stg) (hC : c.slices.len < Big) (hB : l.len < Big) : ∀ n i fu, l.len = i + n → n < fu →
    L63x0 (E F (d + 2)) F c l fu (i : Int) = some (.ret (.bool (allF (fun k => decide (StgOk c.slices.len (l.el k))) n i))) := by
  intro n
  induction n with
  | zero =>
    intro i fu h hf
    obtain ⟨fu, rfl⟩ : ∃ k, fu = k + 1 := ⟨fu - 1, by omega⟩
    rw [L63x0s]
    simp only [Int.ofNat_lt, show ¬ i < l.len by omega, decide_false, cond_false, allF]
  | succ n ih =>
    intro i fu h hf
    obtain ⟨fu, rfl⟩ : ∃ k, fu = k + 1 := ⟨fu - 1, by omega⟩
    rw [L63x0s]
    simp only [Int.ofNat_lt, show i < l.len by omega, decide_true, cond_true, Int.natCast_nonneg, Int.toNat_natCast, s28 F d c _ hC, tkOut_ret, tkBool_b, wrS (show i < Big by omega), ih (i + 1) fu (by omega) (by omega), allF, cStep]
theorem s63 (c : Cav) (l : Sl Stg) (hC : c.slices.len < Big) (hB : l.len < Big) (hF : l.len < F) : (E F (d + 3)).pf 23 [.agg (eCav c), sl eStg 4 l] = some (.ret (.bool (decide (∀ i, i < l.len → StgOk c.slices.len (l.el i))))) := by
  rw [E_pf, t63, show L63x0 (E F (d + 2)) F c l F 0 = _ from l63 F d c l hC hB l.len 0 F (by omega) hF, allF_dec]
  simp only [decide_eq_true_eq]
abbrev WtOk (c : Cav) (w : Sl Int) (m : Int) : Prop := (∀ i, i < w.len → -1000 ≤ w.el i ∧ w.el i ≤ 1000) ∧ w.len = c.slices.len ∧ (-1000 ≤ m ∧ m ≤ 1000)
def errP (c : Cav) (l : Sl Stg) (fine : Bool) : Int := if 8 < l.len then 3 else if CavOk c ∧ (∀ i, i < l.len → StgOk c.slices.len (l.el i)) ∧ fine = true then 0 else 2
theorem s57e (c : Cav) (l : Sl Stg) (hC : c.slices.len < Big) (hCF : c.slices.len < F) (hB : l.len < Big) (hF : l.len < F) : (E F (d + 7)).pf 52 [.agg (eCav c), sl eStg 4 l] = some (.ret (.int .i64 (errP c l true))) := by
  rw [s57 F d c l hC hCF hB hF]; simp [errP]
end Go.Sim.Le


namespace Go.Sim.Le
open Go.Proofs
section
variable {α : Type} (e : α → List V) (z : α)
def gl (ms : List α) : Nat → List V := fun j => e (ms.getD j (ms.getLastD z))
variable {e z}
theorem gl_one {l : List V} {m : α} (hl : l = e m) : (fun _ : Nat => l) = gl e z [m] := by
  subst hl
  funext j
  unfold gl
  cases j <;> rfl
theorem gl_snoc {l : List V} {m : α} {ms : List α} {k : Nat} (hk : ms.length = k) (hl : l = e m) : appGet k (gl e z ms) (fun _ => l) = gl e z (ms ++ [m]) := by
  subst hl hk
  funext j
  unfold appGet gl
  rw [List.getLastD_concat, List.getD_eq_getElem?_getD, List.getD_eq_getElem?_getD]
  by_cases h : j < ms.length
  · rw [if_pos h, List.getElem?_append_left h, List.getElem?_eq_getElem h]; rfl
  · rw [if_neg h, List.getElem?_append_right (by omega)]
    rcases Nat.eq_zero_or_pos (j - ms.length) with h0 | h0
    · rw [h0]; rfl
    · rw [List.getElem?_eq_none (by simp; omega)]; rfl
end
def pathN (s : Stg) : Nat := if s.out < s.into then (s.into - s.out).toNat + 1 else (s.out - s.into).toNat + 1
def stepOf (s : Stg) : Int := if s.out < s.into then -1 else 1
def pathAt (s : Stg) (k : Nat) : Int := s.into + stepOf s * (k : Int)
theorem pathAt_0 (s : Stg) : pathAt s 0 = s.into := by simp [pathAt]
theorem pathAt_last (s : Stg) : pathAt s (pathN s - 1) = s.out := by
  unfold pathAt pathN stepOf
  split
  · rw [show (((s.into - s.out).toNat + 1 - 1 : Nat) : Int) = s.into - s.out by omega]; omega
  · rw [show (((s.out - s.into).toNat + 1 - 1 : Nat) : Int) = s.out - s.into by omega]; omega
theorem pathN_pos (s : Stg) : 1 ≤ pathN s := by unfold pathN; split <;> omega
theorem pathAt_ne (s : Stg) {k : Nat} (h : k + 1 < pathN s) : pathAt s k ≠ s.out := by
  unfold pathAt stepOf
  unfold pathN at h
  split at h
  · rename_i hd; rw [if_pos hd]; omega
  · rename_i hd; rw [if_neg hd]; omega
theorem pathAt_in {n : Nat} {s : Stg} (hs : StgOk n s) {k : Nat} (h : k < pathN s) : 0 ≤ pathAt s k ∧ pathAt s k < n := by
  obtain ⟨_, h1, h2, h3, _⟩ := hs
  unfold pathAt stepOf
  unfold pathN at h
  split at h
  · rename_i hd; rw [if_pos hd]; omega
  · rename_i hd; rw [if_neg hd]; omega
theorem pathN_le {n : Nat} {s : Stg} (hs : StgOk n s) : pathN s ≤ n := by
  obtain ⟨_, h1, h2, h3, _⟩ := hs
  unfold pathN
  split <;> omega
theorem pathAt_S (s : Stg) (k : Nat) : pathAt s (k + 1) = pathAt s k + stepOf s := by
  unfold pathAt
  rw [Int.natCast_add, Int.mul_add]
  simp [Int.add_assoc]
def pathL (s : Stg) (n : Nat) : List Int := (List.range n).map (pathAt s)
theorem pathL_S (s : Stg) (n : Nat) : pathL s (n + 1) = pathL s n ++ [pathAt s n] := by
  unfold pathL; rw [List.range_succ, List.map_append]; rfl
theorem pathL_len (s : Stg) (n : Nat) : (pathL s n).length = n := by simp [pathL]
theorem pathL_get (s : Stg) {n j : Nat} (h : j < n) (z : Int) : (pathL s n).getD j z = pathAt s j := by
  unfold pathL
  rw [List.getD_eq_getElem?_getD, List.getElem?_map, List.getElem?_range h]; rfl
variable (F d : Nat)
def pathSl (s : Stg) : Sl Int := ⟨false, pathN s, fun j => (pathL s (pathN s)).getD j ((pathL s (pathN s)).getLastD 0)⟩
theorem pathSl_el (s : Stg) {j : Nat} (h : j < pathN s) : (pathSl s).el j = pathAt s j := pathL_get s h _
theorem s68 (s : Stg) : (E F (d + 1)).pf 73 [.agg (eStg s)] = some (.ret (.fn (.func 110) [] [.rptr 1 4 (fun _ => eStg s) 0 0])) := by
  rw [E_pf, t68]
end Go.Sim.Le


namespace Go.Sim.Le
open Go.Proofs
variable (F d : Nat)
def timesS (p : Span) (n : Int) : Span := if n < 0 then ⟨n * p.hi, n * p.lo⟩ else ⟨n * p.lo, n * p.hi⟩
abbrev I64 (n : Int) : Prop := -9223372036854775808 ≤ n ∧ n ≤ 9223372036854775807
theorem s86 (p : Span) (n : Int) (h1 : I64 (n * p.lo)) (h2 : I64 (n * p.hi)) : (E F (d + 1)).pf 121 [.agg (eSpan p), .int .i64 n] = some (.ret (.agg (eSpan (timesS p n)))) := by
  rw [E_pf, t86, wr h1, wr h2]
  unfold timesS
  by_cases h : n < 0
  · rw [decide_eq_true h, cond_true, if_pos h]
  · rw [decide_eq_false h, cond_false, if_neg h]
def gainI (c : Cav) (m : Mea) (i : Nat) : Int := (c.slices.el i).opn * m.weights.el i + (c.slices.el i).fall * m.sump
theorem s110 (c : Cav) (m : Mea) (n : Int) (h0 : 0 ≤ n) (h1 : n < c.slices.len) (hl : m.weights.len = c.slices.len) (hw : I64 ((c.slices.el n.toNat).opn * m.weights.el n.toNat)) (hv : I64 ((c.slices.el n.toNat).fall * m.sump)) (hg : I64 (gainI c m n.toNat)) :
    (E F (d + 1)).pf 123 [.agg (eCav c), .agg (eMea m), .int .i64 n] = some (.ret (.int .i64 (gainI c m n.toNat))) := by
  rw [E_pf, t110, wr hw, wr hv]
  simp only [h0, h1, show n < (m.weights.len : Int) by omega, decide_true, cond_true]
  unfold gainI at hg ⊢
  rw [wr hg]
end Go.Sim.Le


namespace Go.Sim.Le
open Go.Proofs
theorem mnE (a b : Int) : (if b < a then b else a) = min a b := by omega
theorem mxE (a b : Int) : (if a < b then b else a) = max a b := by omega
abbrev slAt (c : Cav) (s : Stg) (k : Nat) : Slc := c.slices.el (pathAt s k).toNat
theorem slcOk_at {c : Cav} (hc : CavOk c) {s : Stg} (hs : StgOk c.slices.len s) {k : Nat} (h : k < pathN s) : SlcOk (slAt c s k) := by
  have := pathAt_in hs h
  exact hc.2.2.2 _ (by omega)
variable (F d : Nat)
end Go.Sim.Le


namespace Go.Sim.Le
open Go.Proofs
def addS (p q : Span) : Span := ⟨p.lo + q.lo, p.hi + q.hi⟩
variable (F d : Nat)
theorem pairGet (p q : Span) : (fun u : Nat => List.take 2 (List.drop (Min.min u 1 * 2) [V.int .i64 p.lo, V.int .i64 p.hi, V.int .i64 q.lo, V.int .i64 q.hi])) = fun i => eSpan (if i = 0 then p else q) := by
  funext i
  match i with
  | 0 => rfl
  | i + 1 => simp [show Min.min (i + 1) 1 = 1 by omega]
theorem s85g (env : Env) (F : Nat) (a : Sl Span) (hl : a.len = 2) (h1 : I64 (a.el 0).lo) (h2 : I64 (a.el 0).hi) (h3 : I64 ((a.el 0).lo + (a.el 1).lo)) (h4 : I64 ((a.el 0).hi + (a.el 1).hi)) :
    evFun Tryz.prog (cfg (F + 3)) env 100 [sl eSpan 2 a] = some (.ret (.agg (eSpan (addS (a.el 0) (a.el 1))))) := by
  rw [t85, L85x0s, decide_eq_true (by omega), cond_true, decide_eq_true (by omega), cond_true, cond_true, Int.toNat_zero, Int.zero_add, Int.zero_add, Int.zero_add, wr (by decide), wr h1, wr h2]
  rw [L85x0s, decide_eq_true (by omega), cond_true, decide_eq_true (by omega), cond_true, cond_true, show (1 : Int).toNat = 1 from rfl, wr h3, wr h4, wr (by decide)]
  rw [L85x0s, decide_eq_false (by omega), cond_false]
  rfl
theorem s85 (p q : Span) (hF : 20 < F) (h1 : I64 p.lo) (h2 : I64 p.hi) (h3 : I64 (p.lo + q.lo)) (h4 : I64 (p.hi + q.hi)) :
    (E F (d + 1)).pf 100 [.row false 2 2 (fun u => List.take 2 (List.drop (Min.min u 1 * 2) [V.int .i64 p.lo, V.int .i64 p.hi, V.int .i64 q.lo, V.int .i64 q.hi]))] = some (.ret (.agg (eSpan (addS p q)))) := by
  obtain ⟨F, rfl⟩ : ∃ k, F = k + 3 := ⟨F - 3, by omega⟩
  rw [pairGet, E_pf]
  exact s85g (E (F + 3) d) F ⟨false, 2, fun i => if i = 0 then p else q⟩ rfl h1 h2 h3 h4
theorem pairGetI (a b : Int) : (fun u : Nat => List.take 1 (List.drop (Min.min u 1 * 1) [V.int .i64 a, V.int .i64 b])) = fun i => eInt (if i = 0 then a else b) := by
  funext i
  match i with
  | 0 => rfl
  | i + 1 => simp [show Min.min (i + 1) 1 = 1 by omega]
theorem s88 (a b : Int) (hF : 20 < F) (h1 : I64 a) (h3 : I64 (a + b)) :
    (E F (d + 1)).pf 74 [.row false 2 1 (fun u => List.take 1 (List.drop (Min.min u 1 * 1) [V.int .i64 a, V.int .i64 b]))] = some (.ret (.int .i64 (a + b))) := by
  obtain ⟨F, rfl⟩ : ∃ k, F = k + 3 := ⟨F - 3, by omega⟩
  rw [pairGetI, E_pf]
  refine (t88 _ _ ⟨false, 2, fun i => if i = 0 then a else b⟩).trans ?_
  rw [L88x0s]
  simp (disch := omega) only [decide_eq_true, decide_true, cond_true, Int.toNat_zero, if_true, wr]
  rw [L88x0s]
  simp (disch := omega) only [decide_eq_true, decide_true, cond_true, wr, show ((0 : Int) + 1).toNat = 1 from rfl, if_neg]
  rw [L88x0s]
  simp (disch := omega) only [decide_eq_false, decide_false, cond_false]
  rw [Int.zero_add]
abbrev MeaOk (c : Cav) (m : Mea) : Prop := m.weights.len = c.slices.len ∧ (∀ i, i < c.slices.len → -1000 ≤ m.weights.el i ∧ m.weights.el i ≤ 1000) ∧ -1000 ≤ m.sump ∧ m.sump ≤ 1000
theorem mul_in {a b x y : Int} (h1 : -x ≤ a) (h2 : a ≤ x) (h3 : 0 ≤ b) (h4 : b ≤ y) : -(x * y) ≤ a * b ∧ a * b ≤ x * y := by
  have hx : 0 ≤ x := by omega
  constructor
  · have : -a * b ≤ x * y := Int.mul_le_mul (by omega) h4 h3 hx
    rw [Int.neg_mul] at this; omega
  · exact Int.mul_le_mul h2 h4 h3 hx
def firstS (c : Cav) (m : Mea) : Nat → Span
  | 0 => ⟨0, 0⟩
  | k + 1 => addS (firstS c m k) (timesS (c.slices.el k).vol (m.weights.el k))
theorem times_in {p : Span} {n x y : Int} (h1 : -x ≤ n) (h2 : n ≤ x) (h3 : 0 ≤ p.lo) (h4 : p.lo ≤ p.hi) (h5 : p.hi ≤ y) : (-(x * y) ≤ n * p.lo ∧ n * p.lo ≤ x * y) ∧ (-(x * y) ≤ n * p.hi ∧ n * p.hi ≤ x * y) := ⟨mul_in h1 h2 h3 (by omega), mul_in h1 h2 (by omega) h5⟩
theorem timesS_in {p : Span} {n z : Int} (h : (-z ≤ n * p.lo ∧ n * p.lo ≤ z) ∧ (-z ≤ n * p.hi ∧ n * p.hi ≤ z)) : (-z ≤ (timesS p n).lo ∧ (timesS p n).lo ≤ z) ∧ (-z ≤ (timesS p n).hi ∧ (timesS p n).hi ≤ z) := by
  unfold timesS
  split
  · exact ⟨h.2, h.1⟩
  · exact h
theorem vol_in {c : Cav} (hc : CavOk c) {m : Mea} (hm : MeaOk c m) {k : Nat} (h : k < c.slices.len) : (-10000000000000000 ≤ m.weights.el k * (c.slices.el k).vol.lo ∧ m.weights.el k * (c.slices.el k).vol.lo ≤ 10000000000000000) ∧ (-10000000000000000 ≤ m.weights.el k * (c.slices.el k).vol.hi ∧ m.weights.el k * (c.slices.el k).vol.hi ≤ 10000000000000000) := by
  have h1 := (hc.2.2.2 k h).1
  have h2 := hm.2.1 k h
  exact times_in (x := 1000) (y := 10000000000000) h2.1 h2.2 h1.1 h1.2.1 h1.2.2
theorem first_in {c : Cav} (hc : CavOk c) {m : Mea} (hm : MeaOk c m) : ∀ k, k ≤ c.slices.len → (-(10000000000000000 * (k : Int)) ≤ (firstS c m k).lo ∧ (firstS c m k).lo ≤ 10000000000000000 * k) ∧ (-(10000000000000000 * (k : Int)) ≤ (firstS c m k).hi ∧ (firstS c m k).hi ≤ 10000000000000000 * k) := by
  intro k
  induction k with
  | zero => intro _; simp [firstS]
  | succ k ih =>
    intro h
    have h1 := ih (by omega)
    have h2 := timesS_in (z := 10000000000000000) (vol_in hc hm (k := k) (by omega))
    simp only [firstS, addS]
    omega
theorem l92 (c : Cav) (hc : CavOk c) (m : Mea) (hm : MeaOk c m) (hF : 20 < F) : ∀ j k fu, k + j = c.slices.len → j < fu →
    L92x0 (E F (d + 1)) F c m fu k .i64 (firstS c m k).lo .i64 (firstS c m k).hi = some (.ret (.agg (eSpan (firstS c m c.slices.len)))) := by
  intro j
  have hl := hc.1
  have hw := hm.1
  induction j with
  | zero =>
    intro k fu h hf
    obtain ⟨fu, rfl⟩ : ∃ k, fu = k + 1 := ⟨fu - 1, by omega⟩
    rw [L92x0s]
    have hk : k = c.slices.len := by omega
    subst hk
    simp (disch := omega) only [decide_eq_false, decide_false, cond_false]
  | succ j ih =>
    intro k fu h hf
    obtain ⟨fu, rfl⟩ : ∃ k, fu = k + 1 := ⟨fu - 1, by omega⟩
    have h1 := vol_in hc hm (k := k) (by omega)
    have h2 := first_in hc hm k (by omega)
    have h3 := first_in hc hm (k + 1) (by omega)
    simp only [firstS, addS] at h3
    rw [L92x0s]
    have e5 := s85 F d (firstS c m k) (timesS (c.slices.el k).vol (m.weights.el k)) hF (by omega) (by omega) (by omega) (by omega)
    simp (disch := omega) only [decide_eq_true, decide_true, cond_true, Int.toNat_natCast, s86, tkOut_ret, tkAgg_a, tkCons_c, tkInt_i, tkNil_n, e5]
    rw [wrS (by omega)]
    exact ih (k + 1) fu (by omega) (by omega)
theorem s92 (c : Cav) (hc : CavOk c) (m : Mea) (hm : MeaOk c m) (hF : 20 < F) : (E F (d + 2)).pf 99 [.agg (eCav c), .agg (eMea m)] = some (.ret (.agg (eSpan (firstS c m c.slices.len)))) := by
  rw [E_pf, t92]
  have hl := hc.1
  exact l92 F d c hc m hm hF c.slices.len 0 F (by omega) (by omega)
section
variable {κ : Type} (ek ev : κ → V)
def encM (ks : List κ) : List (V × V) := ks.map fun k => (ek k, ev k)
variable {ek ev}
theorem mget_enc [DecidableEq κ] (he : ∀ a b, keyEq (ek a) (ek b) = decide (a = b)) (k : κ) : ∀ ks, mget (encM ek ev ks) (ek k) = if k ∈ ks then some (ev k) else none := by
  intro ks
  induction ks with
  | nil => rfl
  | cons a ks ih =>
    simp only [encM, List.map, mget, he]
    by_cases h : a = k
    · subst h; simp
    · rw [decide_eq_false h, cond_false]
      have : (k ∈ a :: ks) ↔ k ∈ ks := by simp [show ¬ k = a from fun e => h e.symm]
      simp only [this]
      exact ih
theorem mput_enc [DecidableEq κ] (he : ∀ a b, keyEq (ek a) (ek b) = decide (a = b)) (k : κ) : ∀ ks, k ∉ ks → mput (encM ek ev ks) (ek k) (ev k) = encM ek ev (ks ++ [k]) := by
  intro ks
  induction ks with
  | nil => intro _; rfl
  | cons a ks ih =>
    intro h
    simp only [encM, List.map, mput, he, List.cons_append]
    rw [decide_eq_false (fun e => h (by simp [e])), cond_false]
    exact congrArg _ (ih fun e => h (by simp [e]))
theorem encM_len (ks : List κ) : (encM ek ev ks).length = ks.length := by simp [encM]
end
end Go.Sim.Le


namespace Go.Sim.Le
open Go.Proofs
def bestLo (f : Int → Int) (a : Int) : Nat → Int
  | 0 => f a
  | j + 1 => min (bestLo f a j) (f (a + ((j + 1 : Nat) : Int)))
def bestHi (f : Int → Int) (a : Int) : Nat → Int
  | 0 => f a
  | j + 1 => max (bestHi f a j) (f (a + ((j + 1 : Nat) : Int)))
def restS (c : Cav) (m : Mea) (s : Stg) : Nat → Int → Span
  | 0, _ => ⟨0, 0⟩
  | r + 1, b =>
    let x := slAt c s (pathN s - (r + 1))
    let g := gainI c m (pathAt s (pathN s - (r + 1))).toNat
    let a := min x.rate.lo b
    ⟨bestLo (fun n => (restS c m s r (b - n)).lo + n * g) a (min x.rate.hi b - a).toNat, bestHi (fun n => (restS c m s r (b - n)).hi + n * g) a (min x.rate.hi b - a).toNat⟩
theorem bestLo_in {f : Int → Int} {a L H : Int} : ∀ j : Nat, (∀ n, a ≤ n → n ≤ a + j → L ≤ f n ∧ f n ≤ H) → L ≤ bestLo f a j ∧ bestLo f a j ≤ H := by
  intro j
  induction j with
  | zero => intro h; exact h a (by omega) (by omega)
  | succ j ih =>
    intro h
    have h1 := ih fun n h1 h2 => h n h1 (by omega)
    have h2 := h (a + ((j + 1 : Nat) : Int)) (by omega) (by omega)
    simp only [bestLo]
    omega
theorem bestHi_in {f : Int → Int} {a L H : Int} : ∀ j : Nat, (∀ n, a ≤ n → n ≤ a + j → L ≤ f n ∧ f n ≤ H) → L ≤ bestHi f a j ∧ bestHi f a j ≤ H := by
  intro j
  induction j with
  | zero => intro h; exact h a (by omega) (by omega)
  | succ j ih =>
    intro h
    have h1 := ih fun n h1 h2 => h n h1 (by omega)
    have h2 := h (a + ((j + 1 : Nat) : Int)) (by omega) (by omega)
    simp only [bestHi]
    omega
theorem gain_in {c : Cav} (hc : CavOk c) {m : Mea} (hm : MeaOk c m) {k : Nat} (h : k < c.slices.len) : (-3000000 ≤ (c.slices.el k).opn * m.weights.el k ∧ (c.slices.el k).opn * m.weights.el k ≤ 3000000) ∧ (-3000000 ≤ (c.slices.el k).fall * m.sump ∧ (c.slices.el k).fall * m.sump ≤ 3000000) ∧ -6000000 ≤ gainI c m k ∧ gainI c m k ≤ 6000000 := by
  have h1 := hc.2.2.2 k h
  have h2 := hm.2.1 k h
  have h3 := hm.2.2
  obtain ⟨_, ⟨h4, h5⟩, ⟨h6, h7⟩, _⟩ := h1
  have e1 := mul_in (a := m.weights.el k) (b := (c.slices.el k).opn) (x := 1000) (y := 3000) h2.1 h2.2 (by omega) h5
  have e2 := mul_in (a := m.sump) (b := (c.slices.el k).fall) (x := 1000) (y := 3000) h3.1 h3.2 h6 (by omega)
  rw [Int.mul_comm] at e1 e2
  unfold gainI
  rw [Int.mul_comm] at e1 e2
  rw [Int.mul_comm (c.slices.el k).opn, Int.mul_comm (c.slices.el k).fall]
  omega
theorem mulg {n g z : Int} (h0 : 0 ≤ n) (h1 : -z ≤ g) (h2 : g ≤ z) : -(z * n) ≤ n * g ∧ n * g ≤ z * n := by
  have a := Int.mul_le_mul_of_nonneg_left h1 h0
  have b := Int.mul_le_mul_of_nonneg_left h2 h0
  rw [Int.mul_neg] at a
  rw [Int.mul_comm z n]
  omega
theorem rest_in {c : Cav} (hc : CavOk c) {m : Mea} (hm : MeaOk c m) {s : Stg} (hs : StgOk c.slices.len s) : ∀ r, r ≤ pathN s → ∀ b, 0 ≤ b → (-(6000000 * b) ≤ (restS c m s r b).lo ∧ (restS c m s r b).lo ≤ 6000000 * b) ∧ (-(6000000 * b) ≤ (restS c m s r b).hi ∧ (restS c m s r b).hi ≤ 6000000 * b) := by
  intro r
  induction r with
  | zero => intro _ b h; simp only [restS]; omega
  | succ r ih =>
    intro h b hb
    have hk := pathAt_in hs (k := pathN s - (r + 1)) (by omega)
    have hg := (gain_in hc hm (k := (pathAt s (pathN s - (r + 1))).toNat) (by omega)).2.2
    have ho : SpanIn (slAt c s (pathN s - (r + 1))).rate 0 300 := (slcOk_at hc hs (k := pathN s - (r + 1)) (by omega)).2.2.2.1
    unfold SpanIn at ho
    simp only [restS]
    generalize (slAt c s (pathN s - (r + 1))).rate.lo = lo at ho ⊢
    generalize (slAt c s (pathN s - (r + 1))).rate.hi = hi at ho ⊢
    generalize gainI c m (pathAt s (pathN s - (r + 1))).toNat = g at hg ⊢
    constructor
    · refine bestLo_in _ fun n h1 h2 => ?_
      have h3 := (ih (by omega) (b - n) (by omega)).1
      have h4 := mulg (n := n) (by omega) hg.1 hg.2
      omega
    · refine bestHi_in _ fun n h1 h2 => ?_
      have h3 := (ih (by omega) (b - n) (by omega)).2
      have h4 := mulg (n := n) (by omega) hg.1 hg.2
      omega
section
variable (c : Cav) (m : Mea) (s : Stg)
def mK (p : Nat × Int) : V := .agg [.int .i64 p.1, .int .i64 p.2]
def mV (p : Nat × Int) : V := .agg (eSpan (restS c m s (pathN s - p.1) p.2))
abbrev Mem (ks : List (Nat × Int)) : Prop := ks.Nodup ∧ ∀ p ∈ ks, p.1 < 10 ∧ 0 ≤ p.2 ∧ p.2 ≤ 300
theorem mK_eq (p q : Nat × Int) : keyEq (mK p) (mK q) = decide (p = q) := by
  obtain ⟨a, b⟩ := p
  obtain ⟨a', b'⟩ := q
  apply b2
  simp [mK, keyEq, keysEq, keyEq1]
  omega
theorem mem_len {ks : List (Nat × Int)} (h : Mem ks) : ks.length ≤ 3010 := by
  have h1 : ks ⊆ (List.range 10).flatMap fun i => (List.range 301).map fun j => (i, ((j : Nat) : Int)) := by
    intro p hp
    obtain ⟨a1, a2, a3⟩ := h.2 p hp
    simp only [List.mem_flatMap, List.mem_range, List.mem_map]
    refine ⟨p.1, a1, p.2.toNat, by omega, ?_⟩
    rw [Int.toNat_of_nonneg a2]
  have h2 := h.1.length_le_of_subset h1
  rw [show ((List.range 10).flatMap fun i => (List.range 301).map fun j => (i, ((j : Nat) : Int))).length = 3010 by decide +kernel] at h2
  exact h2
abbrev memH (N : Nat) (es : List (V × V)) : List Slot := [.box 26 [.osl 5 0 N] true, .box 191 [.mapr 6] true, .box 132 (eCav c) true, .box 138 (eMea m) true, .box 192 [.fn (.func 122) [] [.optr 0 0 0, .optr 1 0 0, .optr 2 0 0, .optr 3 0 0, .optr 4 0 0]] true, .arr 3 1 N (fun i => eInt ((pathSl s).el i)) true, .mp true [.int .i64, .int .i64] es true]
end
theorem p63 : (2 : Int) ^ 63 = 9223372036854775808 := rfl
theorem samO (N : Nat) : sameV 8 (.osl 5 0 N) (.osl 5 0 N) = true := by simp only [sameV, Nat.beq_refl, Bool.and_self]
theorem samM : sameV 8 (.mapr 6) (.mapr 6) = true := rfl
theorem samF : sameV 8 (.fn (.func 122) [] [.optr 0 0 0, .optr 1 0 0, .optr 2 0 0, .optr 3 0 0, .optr 4 0 0]) (.fn (.func 122) [] [.optr 0 0 0, .optr 1 0 0, .optr 2 0 0, .optr 3 0 0, .optr 4 0 0]) = true := rfl
theorem ks2 : ksEq [.int .i64, .int .i64] [.int .i64, .int .i64] = true := rfl
variable (F d : Nat)
theorem mput_mem {κ : Type} [DecidableEq κ] {ek ev : κ → V} (he : ∀ a b, keyEq (ek a) (ek b) = decide (a = b)) (k : κ) : ∀ ks, k ∈ ks → mput (encM ek ev ks) (ek k) (ev k) = encM ek ev ks := by
  intro ks
  induction ks with
  | nil => intro h; simp at h
  | cons a ks ih =>
    intro h
    simp only [encM, List.map, mput, he]
    by_cases e : a = k
    · rw [decide_eq_true e, cond_true, e]
    · rw [decide_eq_false e, cond_false]
      refine congrArg _ (ih ?_)
      rcases List.mem_cons.1 h with h | h
      · exact (e h.symm).elim
      · exact h
theorem mput_some {κ : Type} [DecidableEq κ] {ek ev : κ → V} (he : ∀ a b, keyEq (ek a) (ek b) = decide (a = b)) {P : κ → Prop} (k : κ) (hk : P k) {ks : List κ} (h : ks.Nodup ∧ ∀ p ∈ ks, P p) :
    ∃ ks', (ks'.Nodup ∧ ∀ p ∈ ks', P p) ∧ mput (encM ek ev ks) (ek k) (ev k) = encM ek ev ks' := by
  by_cases hm : k ∈ ks
  · exact ⟨ks, h, mput_mem he k ks hm⟩
  · refine ⟨ks ++ [k], ⟨?_, ?_⟩, mput_enc he k ks hm⟩
    · rw [List.nodup_append]
      exact ⟨h.1, by simp, fun a ha b hb e => hm (by rw [List.mem_singleton] at hb; rw [← hb, ← e]; exact ha)⟩
    · intro p hp
      rcases List.mem_append.1 hp with hp | hp
      · exact h.2 p hp
      · rw [List.mem_singleton] at hp; rw [hp]; exact hk
end Go.Sim.Le


namespace Go.Sim.Le
open Go.Proofs
variable (F d : Nat)
theorem l109 {c : Cav} (hc : CavOk c) {m : Mea} (hm : MeaOk c m) {s : Stg} (hs : StgOk c.slices.len s) (D r k : Nat) (hk : k + (r + 1) = pathN s) (b : Int) (hb : 0 ≤ b ∧ b ≤ 300) (es : List (V × V))
    (IH : ∀ b ks, 0 ≤ b → b ≤ 300 → Mem ks → ∃ ks', Mem ks' ∧ (E F D).hv 122 [.agg [.int .i64 ((k + 1 : Nat) : Int), .int .i64 b], .optr 0 0 0, .optr 1 0 0, .optr 2 0 0, .optr 3 0 0, .optr 4 0 0] (memH c m s (pathN s) (encM mK (mV c m s) ks)) = some (.ret (.agg (eSpan (restS c m s r b))), memH c m s (pathN s) (encM mK (mV c m s) ks'))) :
    let x := slAt c s k
    let g := gainI c m (pathAt s k).toNat
    let a := min x.rate.lo b
    let fl := fun n => (restS c m s r (b - n)).lo + n * g
    let fh := fun n => (restS c m s r (b - n)).hi + n * g
    ∀ j t fu ks, t + j = (min x.rate.hi b - a).toNat → j < fu → Mem ks → ∃ ks', Mem ks' ∧
      L109x0 (E F D) F c m k b (pathN s) (pathSl s).el es fu .i64 g (a + ((t + 1 : Nat) : Int)) .i64 (bestLo fl a t) .i64 (bestHi fh a t) c.slices.nl c.slices.len 7 (fun u => eSlc (c.slices.el u)) .i64 c.hold .i64 c.oil m.weights.nl m.weights.len 1 (fun u => [.int .i64 (m.weights.el u)]) .i64 m.sump (fun u => [.int .i64 ((pathSl s).el u)]) (encM mK (mV c m s) ks)
        = some (.ret (.agg (eSpan (restS c m s (r + 1) b))), memH c m s (pathN s) (encM mK (mV c m s) ks')) := by
  intro x g a fl fh
  have hp := pathN_le hs
  have hin := pathAt_in hs (k := k) (by omega)
  have hl := hc.1
  have hg : -6000000 ≤ g ∧ g ≤ 6000000 := (gain_in hc hm (k := (pathAt s k).toNat) (by omega)).2.2
  have ho : SpanIn (c.slices.el (pathAt s k).toNat).rate 0 300 := (slcOk_at hc hs (k := k) (by omega)).2.2.2.1
  unfold SpanIn at ho
  have hkN : pathN s - (r + 1) = k := by omega
  have hR := fun b h => rest_in hc hm hs r (by omega) b h
  have ha : a = min (c.slices.el (pathAt s k).toNat).rate.lo b := rfl
  have hx : x.rate.hi = (c.slices.el (pathAt s k).toNat).rate.hi := rfl
  have hE : restS c m s (r + 1) b = ⟨bestLo fl a (min x.rate.hi b - a).toNat, bestHi fh a (min x.rate.hi b - a).toNat⟩ := by
    rw [restS, hkN]
  intro j
  induction j with
  | zero =>
    intro t fu ks h hf hM
    obtain ⟨fu, rfl⟩ : ∃ k, fu = k + 1 := ⟨fu - 1, by omega⟩
    have hlen := mem_len hM
    obtain ⟨ks', hM', e'⟩ := mput_some (ev := mV c m s) mK_eq (P := fun p => p.1 < 10 ∧ 0 ≤ p.2 ∧ p.2 ≤ 300) (k, b) ⟨by omega, hb.1, hb.2⟩ hM
    refine ⟨ks', hM', ?_⟩
    rw [L109x0s]
    simp (disch := omega) only [Int.toNat_natCast, pathSl_el, mnE]
    rw [decide_eq_false (by omega), cond_false]
    simp (disch := omega) only [p63, decide_eq_true, decide_true, Bool.and_self, cond_true, encM_len]
    have ht : t = (min x.rate.hi b - a).toNat := by omega
    have e2 : (V.agg [.int .i64 (bestLo fl a t), .int .i64 (bestHi fh a t)]) = mV c m s (k, b) := by
      simp only [mV]
      rw [show pathN s - k = r + 1 by omega, hE, ht]
    have e3 : (V.agg [.int .i64 ((k : Nat) : Int), .int .i64 b]) = mK (k, b) := rfl
    rw [e2, e3, e', hE, ← ht, ← e2]
  | succ j ih =>
    intro t fu ks h hf hM
    obtain ⟨fu, rfl⟩ : ∃ k, fu = k + 1 := ⟨fu - 1, by omega⟩
    obtain ⟨ks1, hM1, e1⟩ := IH (b - (a + ((t + 1 : Nat) : Int))) ks (by omega) (by omega) hM
    obtain ⟨ks', hM', e'⟩ := ih (t + 1) fu ks1 (by omega) (by omega) hM1
    refine ⟨ks', hM', ?_⟩
    have hr := hR (b - (a + ((t + 1 : Nat) : Int))) (by omega)
    have hng := mulg (n := a + ((t + 1 : Nat) : Int)) (by omega) hg.1 hg.2
    rw [L109x0s]
    simp (disch := omega) only [Int.toNat_natCast, pathSl_el, mnE]
    rw [decide_eq_true (by omega), cond_true, wrS (by omega), wr (show _ ∧ _ by omega)]
    simp only [memH, eInt] at e1
    simp only [e1, tkHv_h, tkAgg_a, tkCons_c, tkInt_i, tkNil_n, tkSCons_c, tkBox_b, Nat.beq_refl, Bool.and_self, beq_self_eq_true, cond_true, samO, samM, samF, ks2, tkRow_r, tkArr_a, tkMp_m, tkSNil_n, decide_true]
    rw [show (a + ((t + 1 : Nat) : Int) == min (c.slices.el (pathAt s k).toNat).rate.lo b) = false by rw [beq_eq_false_iff_ne]; omega, cond_false]
    rw [wr (n := a + ((t + 1 : Nat) : Int) + 1) (show _ ∧ _ by omega), wr (n := (a + ((t + 1 : Nat) : Int)) * g) (show _ ∧ _ by omega), wr (show _ ∧ _ by omega), wr (show _ ∧ _ by omega)]
    simp only [mnE, mxE]
    rw [show a + ((t + 1 : Nat) : Int) + 1 = a + ((t + 1 + 1 : Nat) : Int) by omega]
    exact e'
theorem s109 {c : Cav} (hc : CavOk c) {m : Mea} (hm : MeaOk c m) {s : Stg} (hs : StgOk c.slices.len s) (hF : 400 < F) : ∀ r k D, k + r = pathN s → ∀ b ks, 0 ≤ b → b ≤ 300 → Mem ks → ∃ ks', Mem ks' ∧
    (E F (D + r + 2)).hv 122 [.agg [.int .i64 ((k : Nat) : Int), .int .i64 b], .optr 0 0 0, .optr 1 0 0, .optr 2 0 0, .optr 3 0 0, .optr 4 0 0] (memH c m s (pathN s) (encM mK (mV c m s) ks)) = some (.ret (.agg (eSpan (restS c m s r b))), memH c m s (pathN s) (encM mK (mV c m s) ks')) := by
  intro r
  induction r with
  | zero =>
    intro k D hk b ks h0 h1 hM
    refine ⟨ks, hM, ?_⟩
    rw [E_hv, t109]
    rw [show ((k : Int) == (pathN s : Int)) = true by rw [beq_iff_eq]; omega, cond_true]
    rfl
  | succ r ih =>
    intro k D hk b ks h0 h1 hM
    have hp := pathN_le hs
    have hin := pathAt_in hs (k := k) (by omega)
    have hl := hc.1
    have hG := gain_in hc hm (k := (pathAt s k).toNat) (by omega)
    have hg := hG.2.2
    have ho : SpanIn (c.slices.el (pathAt s k).toNat).rate 0 300 := (slcOk_at hc hs (k := k) (by omega)).2.2.2.1
    unfold SpanIn at ho
    rw [show D + (r + 1) + 2 = (D + r + 2) + 1 by omega, E_hv, t109]
    rw [show ((k : Int) == (pathN s : Int)) = false by rw [beq_eq_false_iff_ne]; omega, cond_false]
    simp (disch := omega) only [p63, decide_eq_true, decide_true, Bool.and_self, cond_true, Int.toNat_natCast, pathSl_el]
    rw [show (V.agg [.int .i64 ((k : Nat) : Int), .int .i64 b]) = mK (k, b) from rfl, mget_enc mK_eq]
    by_cases hmem : (k, b) ∈ ks
    · rw [if_pos hmem]
      refine ⟨ks, hM, ?_⟩
      simp only [tkOpt, mV, tkAgg_a, tkCons_c, tkInt_i, tkNil_n]
      rw [show pathN s - k = r + 1 by omega]
    · rw [if_neg hmem]
      have IH := fun b ks => ih (k + 1) D (by omega) b ks
      obtain ⟨ks1, hM1, e1⟩ := IH (b - min (c.slices.el (pathAt s k).toNat).rate.lo b) ks (by omega) (by omega) hM
      obtain ⟨ks', hM', e'⟩ := l109 F hc hm hs (D + r + 2) r k hk b ⟨h0, h1⟩ (encM mK (mV c m s) ks) IH (min (c.slices.el (pathAt s k).toNat).rate.hi b - min (c.slices.el (pathAt s k).toNat).rate.lo b).toNat 0 (F - 1) ks1 (by simp [slAt]) (by omega) hM1
      refine ⟨ks', hM', ?_⟩
      have hr := rest_in hc hm hs r (by omega) (b - min (c.slices.el (pathAt s k).toNat).rate.lo b) (by omega)
      have hng := mulg (n := min (c.slices.el (pathAt s k).toNat).rate.lo b) (by omega) hg.1 hg.2
      have e110 := s110 F (D + r + 1) c m (pathAt s k) hin.1 hin.2 hm.1 (by omega) (by omega) (by omega)
      simp only [tkOpt]
      rw [e110]
      simp only [tkOut_ret, tkInt_i]
      obtain ⟨F, rfl⟩ : ∃ k, F = k + 1 := ⟨F - 1, by omega⟩
      rw [L109x0s]
      simp (disch := omega) only [Int.toNat_natCast, pathSl_el, mnE]
      rw [decide_eq_true (by omega), cond_true, wrS (by omega), wr (show _ ∧ _ by omega)]
      simp only [memH, eInt] at e1
      simp only [e1, tkHv_h, tkAgg_a, tkCons_c, tkInt_i, tkNil_n, tkSCons_c, tkBox_b, Nat.beq_refl, Bool.and_self, beq_self_eq_true, cond_true, samO, samM, samF, ks2, tkRow_r, tkArr_a, tkMp_m, tkSNil_n, decide_true]
      rw [wr (n := min (c.slices.el (pathAt s k).toNat).rate.lo b + 1) (show _ ∧ _ by omega), wr (n := (min (c.slices.el (pathAt s k).toNat).rate.lo b) * gainI c m (pathAt s k).toNat) (show _ ∧ _ by omega), wr (show _ ∧ _ by omega), wr (show _ ∧ _ by omega)]
      simp only [mnE, mxE, Int.min_self, Int.max_self]
      exact e'
end Go.Sim.Le


namespace Go.Sim.Le
open Go.Proofs
variable (F d : Nat)
def grownS (c : Cav) (m : Mea) (s : Stg) : Span := timesS (restS c m s (pathN s) c.hold) s.water
theorem grown_in {c : Cav} (hc : CavOk c) {m : Mea} (hm : MeaOk c m) {s : Stg} (hs : StgOk c.slices.len s) : ((-1800000000000000 ≤ s.water * (restS c m s (pathN s) c.hold).lo ∧ s.water * (restS c m s (pathN s) c.hold).lo ≤ 1800000000000000) ∧ -1800000000000000 ≤ s.water * (restS c m s (pathN s) c.hold).hi ∧ s.water * (restS c m s (pathN s) c.hold).hi ≤ 1800000000000000) ∧
    (-1800000000000000 ≤ (grownS c m s).lo ∧ (grownS c m s).lo ≤ 1800000000000000) ∧ -1800000000000000 ≤ (grownS c m s).hi ∧ (grownS c m s).hi ≤ 1800000000000000 := by
  have h1 := rest_in hc hm hs (pathN s) (Nat.le_refl _) c.hold (by have := hc.2.1; omega)
  have h2 := hc.2.1
  have h3 := hs.1
  have e1 := mul_in (a := (restS c m s (pathN s) c.hold).lo) (b := s.water) (x := 1800000000) (y := 1000000) (by omega) (by omega) (by omega) (by omega)
  have e2 := mul_in (a := (restS c m s (pathN s) c.hold).hi) (b := s.water) (x := 1800000000) (y := 1000000) (by omega) (by omega) (by omega) (by omega)
  rw [Int.mul_comm (restS c m s (pathN s) c.hold).lo] at e1
  rw [Int.mul_comm (restS c m s (pathN s) c.hold).hi] at e2
  have e3 : (-1800000000000000 ≤ s.water * (restS c m s (pathN s) c.hold).lo ∧ s.water * (restS c m s (pathN s) c.hold).lo ≤ 1800000000000000) ∧ -1800000000000000 ≤ s.water * (restS c m s (pathN s) c.hold).hi ∧ s.water * (restS c m s (pathN s) c.hold).hi ≤ 1800000000000000 := ⟨by omega, by omega⟩
  exact ⟨e3, timesS_in e3⟩
theorem l93 {c : Cav} (hc : CavOk c) {m : Mea} (hm : MeaOk c m) {s : Stg} (hs : StgOk c.slices.len s) (hF : 400 < F) : ∀ j k fu, k + 1 + j = pathN s → 1 ≤ k → j < fu →
    L93x1 (E F (d + 12)) F c s m fu (fun _ => eStg s) (stepOf s) .i64 (pathAt s k) k k (gl eInt 0 (pathL s k)) (fun _ => eStg s) = some (.ret (.agg (eSpan (grownS c m s)))) := by
  intro j
  have hp := pathN_le hs
  have hl := hc.1
  have hH := hc.2.1
  induction j with
  | zero =>
    intro k fu h hk hf
    obtain ⟨fu, rfl⟩ : ∃ k, fu = k + 1 := ⟨fu - 1, by omega⟩
    have hk' : k = pathN s - 1 := by omega
    have e1 : pathAt s k = s.out := by rw [hk', pathAt_last]
    have e2 : k + 1 = pathN s := by omega
    have hg := grown_in hc hm hs
    obtain ⟨ks', _, e9⟩ := s109 F hc hm hs hF (pathN s) 0 (d + 10 - pathN s) (by omega) c.hold [] (by omega) (by omega) ⟨List.nodup_nil, by simp⟩
    rw [show d + 10 - pathN s + pathN s + 2 = d + 12 by omega] at e9
    have e3 : appGet k (gl eInt 0 (pathL s k)) (fun _ => [.int .i64 (pathAt s k)]) = fun i => eInt ((pathSl s).el i) := by
      refine (gl_snoc (m := pathAt s k) (e := eInt) (pathL_len s k) rfl).trans ?_
      rw [← pathL_S, e2]; rfl
    rw [L93x1s, e3, e2]
    simp (disch := omega) only [decide_eq_true, decide_true, pT, List.drop, tkCons_c, tkInt_i, show (pathAt s k != s.out) = false by simp [e1], pF]
    simp only [memH, eInt, encM, List.map, Int.natCast_zero] at e9
    simp only [e9, tkHv_h, tkAgg_a, tkCons_c, tkInt_i, tkNil_n, tkSCons_c, tkBox_b, Nat.beq_refl, Bool.and_self, beq_self_eq_true, pT, samO, samM, samF, ks2, tkRow_r, tkArr_a, tkMp_m, tkSNil_n, decide_true]
    rw [s86 F (d + 11) (restS c m s (pathN s) c.hold) s.water (by omega) (by omega)]
    simp only [tkOut_ret, tkAgg_a, tkCons_c, tkInt_i, tkNil_n]
    rfl
  | succ j ih =>
    intro k fu h hk hf
    obtain ⟨fu, rfl⟩ : ∃ k, fu = k + 1 := ⟨fu - 1, by omega⟩
    have hne : (pathAt s k != s.out) = true := by
      have := pathAt_ne s (k := k) (by omega)
      simpa using this
    have hS : pathAt s k + stepOf s = pathAt s (k + 1) := by rw [← pathAt_S]
    have hin2 := pathAt_in hs (k := k + 1) (by omega)
    rw [L93x1s]
    simp (disch := omega) only [wr, decide_eq_true, decide_true, pT, List.drop, tkCons_c, tkInt_i, hne, hS]
    have e3 : appGet k (gl eInt 0 (pathL s k)) (fun _ => [.int .i64 (pathAt s k)]) = gl eInt 0 (pathL s (k + 1)) := by
      refine (gl_snoc (m := pathAt s k) (e := eInt) (pathL_len s k) rfl).trans ?_
      rw [← pathL_S]
    rw [e3]
    exact ih (k + 1) fu (by omega) (by omega) (by omega)
theorem s93 {c : Cav} (hc : CavOk c) {m : Mea} (hm : MeaOk c m) {s : Stg} (hs : StgOk c.slices.len s) (hF : 400 < F) : (E F (d + 13)).pf 101 [.agg (eCav c), .agg (eStg s), .agg (eMea m)] = some (.ret (.agg (eSpan (grownS c m s)))) := by
  have hl := hc.1
  have hp := pathN_le hs
  have hne : 2 ≤ pathN s := by
    have := hs.2.2.2.1
    unfold pathN; split <;> omega
  have hne2 : (s.into != s.out) = true := by have := hs.2.2.2.1; simpa using this
  obtain ⟨F, rfl⟩ : ∃ k, F = k + 1 := ⟨F - 1, by omega⟩
  have h := l93 (F + 1) d hc hm hs hF (pathN s - 2) 1 F (by omega) (by omega) (by omega)
  have hin2 := pathAt_in hs (k := 1) (by omega)
  have hS : s.into + stepOf s = pathAt s 1 := by rw [← pathAt_0 s, ← pathAt_S]
  have h1 : (fun _ : Nat => [V.int .i64 s.into]) = gl eInt 0 (pathL s 1) := by
    rw [show pathL s 1 = [s.into] by simp [pathL, pathAt_0]]
    exact gl_one rfl
  rw [E_pf, t93]
  simp (disch := omega) only [decide_eq_true, decide_true, pT, s68, tkOut_ret, tkFn_f, tkNil_n, tkCons_c, tkPtr_p, tkInt_i, Nat.beq_refl, Bool.and_self]
  unfold stepOf at h hS
  by_cases hd : s.out < s.into
  · rw [if_pos hd] at h hS
    rw [decide_eq_true hd, pT, L93x0s]
    simp (disch := omega) only [wr, decide_true, pT, List.drop, tkCons_c, tkInt_i, hne2, hS, h1]
    exact h
  · rw [if_neg hd] at h hS
    rw [decide_eq_false hd, pF, L93x0s]
    simp (disch := omega) only [wr, decide_true, pT, List.drop, tkCons_c, tkInt_i, hne2, hS, h1]
    exact h
def boundS (c : Cav) (l : Nat → Stg) (m : Mea) : Nat → Span
  | 0 => firstS c m c.slices.len
  | k + 1 => addS (boundS c l m k) (grownS c m (l k))
theorem bound_in {c : Cav} (hc : CavOk c) {m : Mea} (hm : MeaOk c m) {n : Nat} {l : Nat → Stg} (hl : ∀ i, i < n → StgOk c.slices.len (l i)) : ∀ k, k ≤ n → (-(100000000000000000 + 1800000000000000 * (k : Int)) ≤ (boundS c l m k).lo ∧ (boundS c l m k).lo ≤ 100000000000000000 + 1800000000000000 * (k : Int)) ∧ (-(100000000000000000 + 1800000000000000 * (k : Int)) ≤ (boundS c l m k).hi ∧ (boundS c l m k).hi ≤ 100000000000000000 + 1800000000000000 * (k : Int)) := by
  intro k
  induction k with
  | zero =>
    intro _
    have h1 := first_in hc hm c.slices.len (Nat.le_refl _)
    have h2 := hc.1
    simp only [boundS]
    omega
  | succ k ih =>
    intro h
    have h1 := ih (by omega)
    have h2 := (grown_in hc hm (hl k (by omega))).2
    simp only [boundS, addS]
    omega
theorem l62 {c : Cav} (hc : CavOk c) {m : Mea} (hm : MeaOk c m) (l : Sl Stg) (hn : l.len ≤ 1000) (hl : ∀ i, i < l.len → StgOk c.slices.len (l.el i)) (hF : 400 < F) : ∀ j k fu, k + j = l.len → j < fu →
    L62x0 (E F (d + 13)) F c l m fu k .i64 (boundS c l.el m k).lo .i64 (boundS c l.el m k).hi = some (.ret (.agg (eSpan (boundS c l.el m l.len)))) := by
  intro j
  induction j with
  | zero =>
    intro k fu h hf
    obtain ⟨fu, rfl⟩ : ∃ k, fu = k + 1 := ⟨fu - 1, by omega⟩
    rw [L62x0s]
    have hk : k = l.len := by omega
    rw [hk]
    simp (disch := omega) only [decide_eq_false, decide_false, pF]
  | succ j ih =>
    intro k fu h hf
    obtain ⟨fu, rfl⟩ : ∃ k, fu = k + 1 := ⟨fu - 1, by omega⟩
    have h2 := bound_in hc hm hl k (by omega)
    have h3 := bound_in hc hm hl (k + 1) (by omega)
    simp only [boundS, addS] at h3
    have e5 := s85 F (d + 12) (boundS c l.el m k) (grownS c m (l.el k)) (by omega) (by omega) (by omega) (by omega) (by omega)
    have e6 := s93 F d hc hm (hl k (by omega)) hF
    rw [L62x0s]
    simp (disch := omega) only [decide_eq_true, decide_true, pT, Int.toNat_natCast, tkOut_ret, tkAgg_a, tkCons_c, tkInt_i, tkNil_n, e5, e6]
    rw [wrS (by omega)]
    exact ih (k + 1) fu (by omega) (by omega)
theorem s62 {c : Cav} (hc : CavOk c) {m : Mea} (hm : MeaOk c m) (l : Sl Stg) (hn : l.len ≤ 300) (hl : ∀ i, i < l.len → StgOk c.slices.len (l.el i)) (hF : 400 < F) :
    (E F (d + 14)).pf 57 [.agg (eCav c), sl eStg 4 l, .agg (eMea m)] = some (.ret (.agg (eSpan (boundS c l.el m l.len)))) := by
  rw [E_pf, t62]
  simp only [s92 F (d + 11) c hc m hm (by omega), tkOut_ret, tkAgg_a, tkCons_c, tkInt_i, tkNil_n]
  exact l62 F d hc hm l (by omega) hl hF l.len 0 F (by omega) (by omega)
end Go.Sim.Le


namespace Go.Sim.Le
open Go.Proofs
theorem upd_int (r : Nat → Int) (n : Nat) (p : Int) : updGet (fun j => eInt (r j)) n 0 (eInt p) = fun j => eInt (if j = n then p else r j) := by
  funext j
  unfold updGet
  by_cases h : j = n
  · rw [if_pos h, if_pos h]; rfl
  · rw [if_neg h, if_neg h]
variable (F d : Nat)
section
variable {c : Cav} (hc : CavOk c) {m : Mea} (hm : MeaOk c m) {s : Stg} (hs : StgOk c.slices.len s) (w : Sl Int) (hwl : w.len = c.slices.len) (hw : ∀ i, i < c.slices.len → w.el i = gainI c m i)
include hc hm hs hwl hw
end
end Go.Sim.Le


namespace Go.Sim.Le
open Go.Proofs
variable (F d : Nat)
theorem s22 (c : Cav) (l : Sl Stg) (w : Sl Int) (n : Int) (hC : c.slices.len < Big) (hCF : c.slices.len < F) (hB : l.len < Big) (hLF : l.len < F) (hW : w.len < Big) (hWF : w.len < F) (hF : 400 < F) :
    (E F (d + 15)).pf 24 [.agg (eCav c), sl eStg 4 l, sl eInt 1 w, .int .i64 n] =
    some (.ret (.tup (if errP c l (decide (WtOk c w n)) = 0 then [.agg (eSpan (boundS c l.el ⟨w, n⟩ l.len)), .int .i64 0] else [.agg [.int .i64 0, .int .i64 0], .int .i64 (errP c l (decide (WtOk c w n)))]))) := by
  rw [E_pf, t22]
  simp only [s57e F (d + 7) c l hC hCF hB hLF, tkOut_ret, tkInt_i, decide_true, pT]
  by_cases h0 : errP c l true = 0
  · have h0' : 8 ≥ l.len ∧ CavOk c ∧ ∀ i, i < l.len → StgOk c.slices.len (l.el i) := by
      unfold errP at h0
      split at h0
      · omega
      · rename_i h8
        split at h0
        · rename_i h9; exact ⟨by omega, h9.1, h9.2.1⟩
        · omega
    obtain ⟨h8, hc, hl⟩ := h0'
    rw [h0, show ((0 : Int) != 0) = false from rfl, pF]
    by_cases hw : w.len = c.slices.len
    · have e1 : ((w.len : Int) != (c.slices.len : Int)) = false := by rw [hw]; simp
      rw [e1, pF, s58 F (d + 12)]
      simp only [tkOut_ret, tkBool_b]
      by_cases hn : -1000 ≤ n ∧ n ≤ 1000
      · rw [decide_eq_true hn, Bool.not_true, pF, s6061 F (d + 9) w hW hWF]
        simp only [tkOut_ret, tkBool_b]
        by_cases ha : ∀ i, i < w.len → -1000 ≤ w.el i ∧ w.el i ≤ 1000
        · have hm : MeaOk c ⟨w, n⟩ := ⟨hw, fun i hi => ha i (by omega), hn.1, hn.2⟩
          have hk : WtOk c w n := ⟨ha, hw, hn⟩
          rw [decide_eq_true ha, Bool.not_true, pF]
          have e2 := s62 F d hc hm l (by omega) hl hF
          simp only [eMea] at e2
          rw [e2]
          simp only [tkOut_ret, tkAgg_a, tkCons_c, tkInt_i, tkNil_n]
          rw [decide_eq_true hk, h0, if_pos rfl]
        · have hk : ¬ WtOk c w n := fun h => ha h.1
          rw [decide_eq_false ha, Bool.not_false, pT]
          have e3 : errP c l (decide (WtOk c w n)) = 2 := by rw [decide_eq_false hk]; unfold errP; rw [if_neg (by omega), if_neg (fun h => by cases h.2.2)]
          rw [e3]; rfl
      · have hk : ¬ WtOk c w n := fun h => hn h.2.2
        rw [decide_eq_false hn, Bool.not_false, pT]
        have e3 : errP c l (decide (WtOk c w n)) = 2 := by rw [decide_eq_false hk]; unfold errP; rw [if_neg (by omega), if_neg (fun h => by cases h.2.2)]
        rw [e3]; rfl
    · have e1 : ((w.len : Int) != (c.slices.len : Int)) = true := by simp; omega
      have hk : ¬ WtOk c w n := fun h => hw h.2.1
      rw [e1, pT]
      have e3 : errP c l (decide (WtOk c w n)) = 2 := by rw [decide_eq_false hk]; unfold errP; rw [if_neg (by omega), if_neg (fun h => by cases h.2.2)]
      rw [e3]; rfl
  · have e1 : (errP c l true != 0) = true := by simpa using h0
    have e3 : errP c l (decide (WtOk c w n)) = errP c l true := by
      unfold errP at h0 ⊢
      split
      · rfl
      · rename_i h8
        rw [if_neg h8] at h0
        split
        · rename_i h9
          rw [if_pos ⟨h9.1, h9.2.1, rfl⟩] at h0
          exact (h0 rfl).elim
        · rename_i h9
          split
          · rename_i h10
            rw [if_pos h10] at h0
            exact (h0 rfl).elim
          · rfl
    rw [e1, pT, e3, if_neg h0]
end Go.Sim.Le


namespace Go.Sim.Le
open Go.Proofs
variable (F d : Nat)
theorem errP_0 {c : Cav} {l : Sl Stg} {b : Bool} : errP c l b = 0 ↔ l.len ≤ 8 ∧ CavOk c ∧ (∀ i, i < l.len → StgOk c.slices.len (l.el i)) ∧ b = true := by
  unfold errP
  split
  · constructor
    · intro h; omega
    · intro h; omega
  · split
    · rename_i h1 h2
      exact ⟨fun _ => ⟨by omega, h2⟩, fun _ => rfl⟩
    · rename_i h1 h2
      exact ⟨fun h => by omega, fun h => (h2 h.2).elim⟩
end Go.Sim.Le


namespace Go.Sim.Le
open Go.Proofs
def z0 : Stg := ⟨0, 0, 0, 0⟩
variable (F d : Nat)
section
variable {c : Cav} (hc : CavOk c) {l : Sl Stg} (hL : l.len ≤ 300) (hl : ∀ i, i < l.len → StgOk c.slices.len (l.el i)) (hF : 100000 < F) (w : Sl Int) (hw : w.len ≤ c.slices.len)
include hc hL hl hF hw
end
end Go.Sim.Le


namespace Go.Sim.Le
open Go.Proofs
def gcdI (a b : Int) : Int := ((Nat.gcd a.toNat b.toNat : Nat) : Int)
def fracF (x y : Int) : Int × Int := (x / gcdI x y, y / gcdI x y)
variable (F d : Nat)
end Go.Sim.Le


namespace Go.Sim.Le
open Go.Proofs
def oAt (c : Cav) (s : Stg) (k : Nat) : Int := (slAt c s k).opn - (slAt c s k).fall
inductive Reach (c : Cav) (s : Stg) : Nat → Int → Int → Prop where
  | zero : Reach c s 0 0 0
  | step {k h r n} : Reach c s k h r → min (slAt c s k).rate.lo (c.hold - h) ≤ n → n ≤ min (slAt c s k).rate.hi (c.hold - h) → Reach c s (k + 1) (h + n) (r + n * oAt c s k)
def numOf (c : Cav) (h r : Int) : Int := 1000000 * h - c.hold * r
def denOf (r : Int) : Int := 1000000 - r
section
variable {c : Cav} (hc : CavOk c) {s : Stg} (hs : StgOk c.slices.len s)
include hc hs
theorem rate_at {k : Nat} (h : k < pathN s) : 0 ≤ (slAt c s k).rate.lo ∧ (slAt c s k).rate.lo ≤ (slAt c s k).rate.hi ∧ (slAt c s k).rate.hi ≤ 300 ∧ 1 ≤ oAt c s k ∧ oAt c s k ≤ 3000 := by
  obtain ⟨_, h1, h2, h3, _⟩ := slcOk_at hc hs h
  unfold SpanIn at h3
  unfold oAt
  omega
theorem mulo {k : Nat} (h : k < pathN s) {n : Int} (hn : 0 ≤ n) : n ≤ n * oAt c s k ∧ n * oAt c s k ≤ 3000 * n := by
  have ho := rate_at hc hs h
  have h1 := Int.mul_le_mul_of_nonneg_left ho.2.2.2.1 hn
  have h2 := Int.mul_le_mul_of_nonneg_left ho.2.2.2.2 hn
  omega
theorem reach_in {k : Nat} {h r : Int} (H : Reach c s k h r) : k ≤ pathN s → 0 ≤ h ∧ h ≤ c.hold ∧ 0 ≤ r ∧ r ≤ 3000 * h := by
  induction H with
  | zero => intro _; have := hc.2.1; omega
  | @step k h r n H h1 h2 ih =>
    intro hk
    have i := ih (by omega)
    have ho := rate_at hc hs (k := k) (by omega)
    have hm := mulo hc hs (k := k) (by omega) (n := n) (by omega)
    omega
omit hs in
omit hs in
omit hs in
end
end Go.Sim.Le


namespace Go.Sim.Le
open Go.Proofs
abbrev Rm := List (Int × Span)
variable (F d : Nat)
section
variable {c : Cav} (hc : CavOk c) {s : Stg} (hs : StgOk c.slices.len s) (hF : 1000000000 < F) (b0 b1 b2 b3 b4 : Bool)
include hc hs hF
end
end Go.Sim.Le


namespace Go.Sim.Le
open Go.Proofs
variable (F d : Nat)
def fh (c : Cav) (p : Int × Span) : Int × Int := fracF (numOf c p.1 p.2.hi) (denOf p.2.hi)
def fl (c : Cav) (p : Int × Span) : Int × Int := fracF (numOf c p.1 p.2.lo) (denOf p.2.lo)
section
variable {c : Cav} (hc : CavOk c) {s : Stg} (hs : StgOk c.slices.len s)
include hc hs
end
end Go.Sim.Le


namespace Go.Sim.Le
open Go.Proofs
def sumF (f : Nat → Int) : Nat → Int
  | 0 => 0
  | n + 1 => sumF f n + f n
theorem sumF_cong {f g : Nat → Int} : ∀ n, (∀ i, i < n → f i = g i) → sumF f n = sumF g n
  | 0, _ => rfl
  | n + 1, h => by simp only [sumF]; rw [sumF_cong n fun i hi => h i (by omega), h n (by omega)]
theorem sumF_upd (f : Nat → Int) (a : Nat) (x : Int) : ∀ n, sumF (fun i => if i = a then x else f i) n = sumF f n + (if a < n then x - f a else 0)
  | 0 => by simp [sumF]
  | n + 1 => by
    simp only [sumF]
    rw [sumF_upd f a x n]
    by_cases h : n = a
    · subst h; rw [if_neg (by omega), if_pos rfl, if_pos (by omega)]; omega
    · rw [if_neg h]
      by_cases h2 : a < n
      · rw [if_pos h2, if_pos (by omega)]; omega
      · rw [if_neg h2, if_neg (by omega)]; omega
theorem sumF_in {f : Nat → Int} {a b : Int} : ∀ n, (∀ i, i < n → a ≤ f i ∧ f i ≤ b) → a * n ≤ sumF f n ∧ sumF f n ≤ b * n
  | 0, _ => by simp [sumF]
  | n + 1, h => by
    have h1 := sumF_in n fun i hi => h i (by omega)
    have h2 := h n (by omega)
    simp only [sumF]
    have e1 : a * ((n + 1 : Nat) : Int) = a * n + a := by rw [Int.natCast_add, Int.mul_add]; simp
    have e2 : b * ((n + 1 : Nat) : Int) = b * n + b := by rw [Int.natCast_add, Int.mul_add]; simp
    omega
theorem sumF_mul (x : Int) (f : Nat → Int) : ∀ n, sumF (fun i => f i * x) n = x * sumF f n
  | 0 => by simp [sumF]
  | n + 1 => by simp only [sumF]; rw [sumF_mul x f n, Int.mul_add, Int.mul_comm x (f n)]
def tkT (c : Cav) (s : Stg) (w : Nat → Int) : Nat → Int × Int
  | 0 => (0, 0)
  | k + 1 => ((tkT c s w k).1 + min (w (pathAt s k).toNat) (c.hold - (tkT c s w k).1), (tkT c s w k).2 + min (w (pathAt s k).toNat) (c.hold - (tkT c s w k).1) * oAt c s k)
def takeN (c : Cav) (s : Stg) (w : Nat → Int) (k : Nat) : Int := min (w (pathAt s k).toNat) (c.hold - (tkT c s w k).1)
def takeRow (c : Cav) (s : Stg) (w : Nat → Int) : Nat → Nat → Int
  | 0 => fun _ => 0
  | k + 1 => fun j => if j = (pathAt s k).toNat then takeN c s w k else takeRow c s w k j
abbrev RatesOk (c : Cav) (w : Nat → Int) : Prop := ∀ i, i < c.slices.len → (c.slices.el i).rate.lo ≤ w i ∧ w i ≤ (c.slices.el i).rate.hi
def pathSum (c : Cav) (s : Stg) (w g : Nat → Int) : Nat → Int
  | 0 => 0
  | k + 1 => pathSum c s w g k + g (pathAt s k).toNat * takeN c s w k
theorem pathAt_inj {s : Stg} {j k : Nat} (h : pathAt s j = pathAt s k) : j = k := by
  unfold pathAt stepOf at h
  split at h <;> omega
variable (F d : Nat)
section
variable {c : Cav} (hc : CavOk c) {s : Stg} (hs : StgOk c.slices.len s) (w : Nat → Int) (hw : RatesOk c w)
include hc hs hw
theorem take_reach : ∀ k, k ≤ pathN s → Reach c s k (tkT c s w k).1 (tkT c s w k).2 := by
  intro k
  induction k with
  | zero => intro _; exact .zero
  | succ k ih =>
    intro h
    have i := ih (by omega)
    have hin := pathAt_in hs (k := k) (by omega)
    have hr : (slAt c s k).rate.lo ≤ w (pathAt s k).toNat ∧ w (pathAt s k).toNat ≤ (slAt c s k).rate.hi := hw _ (by omega)
    exact .step i (by omega) (by omega)
theorem takeN_in {k : Nat} (h : k < pathN s) : 0 ≤ takeN c s w k ∧ takeN c s w k ≤ 300 ∧ takeN c s w k ≤ c.hold - (tkT c s w k).1 := by
  have hr := rate_at hc hs h
  have hi := reach_in hc hs (take_reach hc hs w hw k (by omega)) (by omega)
  have hin := pathAt_in hs h
  have hr : (slAt c s k).rate.lo ≤ w (pathAt s k).toNat ∧ w (pathAt s k).toNat ≤ (slAt c s k).rate.hi := hw _ (by omega)
  unfold takeN
  omega
theorem takeRow_in : ∀ k, k ≤ pathN s → ∀ i, 0 ≤ takeRow c s w k i ∧ takeRow c s w k i ≤ 300 := by
  intro k
  induction k with
  | zero => intro _ i; simp [takeRow]
  | succ k ih =>
    intro h i
    have h1 := takeN_in hc hs w hw (k := k) (by omega)
    have h2 := ih (by omega) i
    simp only [takeRow]
    split <;> omega
omit hc hw in
theorem takeRow_0 : ∀ k i, k ≤ i → i < pathN s → takeRow c s w k (pathAt s i).toNat = 0 := by
  intro k
  induction k with
  | zero => intro i _ _; rfl
  | succ k ih =>
    intro i h hi
    simp only [takeRow]
    have h1 := pathAt_in hs (k := k) (by omega)
    have h2 := pathAt_in hs hi
    rw [if_neg (fun e => by have := pathAt_inj (s := s) (j := i) (k := k) (by omega); omega)]
    exact ih i (by omega) hi
omit hc hw in
theorem take_sum (g : Nat → Int) : ∀ k, k ≤ pathN s → sumF (fun i => g i * takeRow c s w k i) c.slices.len = pathSum c s w g k := by
  intro k
  induction k with
  | zero =>
    intro _
    simp only [takeRow, pathSum, Int.mul_zero]
    have := sumF_in (f := fun _ => 0) (a := 0) (b := 0) c.slices.len fun i _ => ⟨Int.le_refl _, Int.le_refl _⟩
    omega
  | succ k ih =>
    intro h
    have h1 := pathAt_in hs (k := k) (by omega)
    have e : sumF (fun i => g i * takeRow c s w (k + 1) i) c.slices.len = sumF (fun i => if i = (pathAt s k).toNat then g (pathAt s k).toNat * takeN c s w k else g i * takeRow c s w k i) c.slices.len := by
      refine sumF_cong _ fun i _ => ?_
      simp only [takeRow]
      by_cases hi : i = (pathAt s k).toNat
      · rw [if_pos hi, if_pos hi, hi]
      · rw [if_neg hi, if_neg hi]
    rw [e, sumF_upd, if_pos (by omega), ih (by omega), takeRow_0 hs w k k (Nat.le_refl _) (by omega), pathSum]
    omega
omit hc hs hw in
omit hc hs hw in
end
end Go.Sim.Le


namespace Go.Sim.Le
open Go.Proofs
def exSl : Nat → Slc
  | 0 => ⟨⟨900000, 1000000⟩, 1200, 100, ⟨20, 40⟩, 1480000⟩
  | 1 => ⟨⟨1000000, 1000000⟩, 1100, 50, ⟨30, 50⟩, 3000000⟩
  | _ => ⟨⟨500000, 600000⟩, 1000, 0, ⟨40, 60⟩, 3000000⟩
def exC : Cav := ⟨⟨false, 3, exSl⟩, 100, 700000⟩
def exB : Stg := ⟨10, 2, 0, 3⟩
def tR3 (a b c : Int) : Nat → Int
  | 0 => a
  | 1 => b
  | _ => c
def ex3 (a b c : Int) : Sl Int := ⟨false, 3, tR3 a b c⟩
theorem kBound : boundS exC (fun _ => exB) ⟨ex3 0 0 0, 1⟩ 1 = ⟨20000, 45000⟩ := by decide +kernel
theorem exGet (z0 z1 z2 : Slc) : (fun u : Nat => List.take 7 (List.drop (Min.min u 2 * 7) (eSlc z0 ++ eSlc z1 ++ eSlc z2))) = fun i => eSlc (match i with | 0 => z0 | 1 => z1 | _ => z2) := by
  funext i
  match i with
  | 0 => rfl
  | 1 => rfl
  | i + 2 => simp [show Min.min (i + 2) 2 = 2 by omega]
variable (F d : Nat)
theorem s54 : (E F (d + 1)).pf 26 [] = some (.ret (.agg (eCav exC))) := by
  rw [E_pf, t54]
  have h := exGet ⟨⟨900000, 1000000⟩, 1200, 100, ⟨20, 40⟩, 1480000⟩ ⟨⟨1000000, 1000000⟩, 1100, 50, ⟨30, 50⟩, 3000000⟩ ⟨⟨500000, 600000⟩, 1000, 0, ⟨40, 60⟩, 3000000⟩
  refine congrArg (fun g => some (Out.ret (V.agg [V.row false 3 7 g, V.int .i64 100, V.int .i64 700000]))) (h.trans ?_)
  funext i
  match i with
  | 0 => rfl
  | 1 => rfl
  | i + 2 => rfl
theorem s55 : (E F (d + 1)).pf 27 [] = some (.ret (.agg (eStg exB))) := by rw [E_pf, t55]; rfl
end Go.Sim.Le


namespace Go.Sim.Le
open Go.Proofs
abbrev TruthOk (c : Cav) (n : Nat) (t : Truth) : Prop := t.vols.len = c.slices.len ∧ t.rates.len = n ∧ (∀ i, i < t.vols.len → (c.slices.el i).vol.lo ≤ t.vols.el i ∧ t.vols.el i ≤ (c.slices.el i).vol.hi) ∧
  ∀ k, k < t.rates.len → (t.rates.el k).len = c.slices.len ∧ ∀ i, i < c.slices.len → (c.slices.el i).rate.lo ≤ (t.rates.el k).el i ∧ (t.rates.el k).el i ≤ (c.slices.el i).rate.hi
variable (F d : Nat)
section
variable (c : Cav) (l : Sl Stg) (t : Truth) (hcl : c.slices.len < Big) (htl : t.rates.len < Big) (hCF : c.slices.len < F) (hTF : t.rates.len < F)
def rateB (k i : Nat) : Bool := decide ((c.slices.el i).rate.lo ≤ (t.rates.el k).el i ∧ (t.rates.el k).el i ≤ (c.slices.el i).rate.hi)
def rowB (k : Nat) : Bool := decide ((t.rates.el k).len = c.slices.len) && allF (rateB c t k) c.slices.len 0
theorem rowB_iff (k : Nat) : rowB c t k = true ↔ ((t.rates.el k).len = c.slices.len ∧ ∀ i, i < c.slices.len → (c.slices.el i).rate.lo ≤ (t.rates.el k).el i ∧ (t.rates.el k).el i ≤ (c.slices.el i).rate.hi) := by
  unfold rowB
  rw [allF_dec]
  simp only [Bool.and_eq_true, decide_eq_true_eq, rateB]
include hcl htl hCF hTF
theorem l87x2 (m0 k : Nat) (hk : (t.rates.el k).len = c.slices.len) (R : Option Out) : ∀ j i fu, i + j = c.slices.len → j < fu →
    (bif allF (rateB c t k) j i then L87x1 (E F (d + 1)) F c l t m0 (IntKind.i64.wrap ((k : Int) + 1)) else some (.ret (.bool false))) = R →
    L87x2 (E F (d + 1)) F c l t m0 fu k (t.rates.el k).nl (t.rates.el k).len (fun u => [.int .i64 ((t.rates.el k).el u)]) (t.rates.el k).len i = R := by
  have hB : c.slices.len < 4611686018427387904 := hcl
  intro j
  induction j with
  | zero =>
    intro i fu h hf K
    obtain ⟨fu, rfl⟩ : ∃ k, fu = k + 1 := ⟨fu - 1, by omega⟩
    rw [L87x2s, decide_eq_false (by omega), pF]
    simp only [allF, cond_true] at K
    exact K
  | succ j ih =>
    intro i fu h hf K
    obtain ⟨fu, rfl⟩ : ∃ k, fu = k + 1 := ⟨fu - 1, by omega⟩
    rw [L87x2s]
    simp (disch := omega) only [decide_eq_true, decide_true, pT, Int.toNat_natCast, tkCons_c, tkInt_i, s59, tkOut_ret, tkBool_b]
    simp only [allF] at K
    by_cases hr : (c.slices.el i).rate.lo ≤ (t.rates.el k).el i ∧ (t.rates.el k).el i ≤ (c.slices.el i).rate.hi
    · rw [show rateB c t k i = true from decide_eq_true hr, Bool.true_and] at K
      rw [decide_eq_true hr, Bool.not_true, pF, wrS (by omega)]
      exact ih (i + 1) fu (by omega) (by omega) K
    · rw [show rateB c t k i = false from decide_eq_false hr, Bool.false_and, cond_false] at K
      rw [decide_eq_false hr, Bool.not_false, pT]
      exact K
theorem l87x1 : ∀ j k fu, k + j = t.rates.len → j < fu → L87x1 (E F (d + 1)) F c l t fu k = some (.ret (.bool (allF (rowB c t) j k))) := by
  have hB : c.slices.len < 4611686018427387904 := hcl
  have hT : t.rates.len < 4611686018427387904 := htl
  intro j
  induction j with
  | zero =>
    intro k fu h hf
    obtain ⟨fu, rfl⟩ : ∃ k, fu = k + 1 := ⟨fu - 1, by omega⟩
    rw [L87x1s, decide_eq_false (by omega), pF]
    rfl
  | succ j ih =>
    intro k fu h hf
    obtain ⟨fu, rfl⟩ : ∃ k, fu = k + 1 := ⟨fu - 1, by omega⟩
    rw [L87x1s]
    simp (disch := omega) only [decide_eq_true, decide_true, pT, Int.toNat_natCast]
    by_cases hk : (t.rates.el k).len = c.slices.len
    · rw [show (((t.rates.el k).len : Int) != (c.slices.len : Int)) = false by rw [hk]; simp, pF]
      refine l87x2 F d c l t hcl htl hCF hTF fu k hk _ c.slices.len 0 F (by omega) (by omega) ?_
      simp only [allF, rowB, decide_eq_true hk, Bool.true_and]
      rw [wrS (by omega)]
      cases allF (rateB c t k) c.slices.len 0 with
      | true => rw [cond_true, Bool.true_and]; exact ih (k + 1) fu (by omega) (by omega)
      | false => rw [cond_false, Bool.false_and]
    · rw [show (((t.rates.el k).len : Int) != (c.slices.len : Int)) = true by simp; omega, pT]
      simp only [allF, rowB, decide_eq_false hk, Bool.false_and]
theorem l87x0 (hv : t.vols.len = c.slices.len) : ∀ j i fu, i + j = t.vols.len → j < fu → L87x0 (E F (d + 1)) F c l t fu i = some (.ret (.bool (allF (fun i => decide ((c.slices.el i).vol.lo ≤ t.vols.el i ∧ t.vols.el i ≤ (c.slices.el i).vol.hi)) j i && allF (rowB c t) t.rates.len 0))) := by
  have hB : c.slices.len < 4611686018427387904 := hcl
  intro j
  induction j with
  | zero =>
    intro i fu h hf
    obtain ⟨fu, rfl⟩ : ∃ k, fu = k + 1 := ⟨fu - 1, by omega⟩
    rw [L87x0s, decide_eq_false (by omega), pF]
    exact l87x1 F d c l t hcl htl hCF hTF t.rates.len 0 F (by omega) (by omega)
  | succ j ih =>
    intro i fu h hf
    obtain ⟨fu, rfl⟩ : ∃ k, fu = k + 1 := ⟨fu - 1, by omega⟩
    rw [L87x0s]
    simp (disch := omega) only [decide_eq_true (show (i : Int) < (t.vols.len : Int) by omega), decide_eq_true (show (i : Int) < (c.slices.len : Int) by omega), decide_eq_true (show (0 : Int) ≤ (i : Int) by omega), pT, Int.toNat_natCast, s59, tkOut_ret, tkBool_b]
    simp only [allF]
    cases decide ((c.slices.el i).vol.lo ≤ t.vols.el i ∧ t.vols.el i ≤ (c.slices.el i).vol.hi) with
    | true => rw [Bool.not_true, pF, wrS (by omega), Bool.true_and]; exact ih (i + 1) fu (by omega) (by omega)
    | false => rw [Bool.not_false, pT]; rfl
theorem s87 : (E F (d + 2)).pf 71 [.agg (eCav c), sl eStg 4 l, .agg (eTruth t)] = some (.ret (.bool (decide (TruthOk c l.len t)))) := by
  rw [E_pf, t87]
  by_cases hv : t.vols.len = c.slices.len
  · rw [show ((t.vols.len : Int) != (c.slices.len : Int)) = false by rw [hv]; simp, pF]
    by_cases hr : t.rates.len = l.len
    · rw [show ((t.rates.len : Int) != (l.len : Int)) = false by rw [hr]; simp, pF]
      refine (l87x0 F d c l t hcl htl hCF hTF hv t.vols.len 0 F (by omega) (by omega)).trans (b3 (b2 ?_))
      rw [allF_dec, allF_dec]
      simp only [Bool.and_eq_true, decide_eq_true_eq, rowB_iff]
      exact ⟨fun h => ⟨hv, hr, h.1, h.2⟩, fun h => ⟨h.2.2.1, h.2.2.2⟩⟩
    · rw [show ((t.rates.len : Int) != (l.len : Int)) = true by simp; omega, pT]
      exact b3 (Eq.symm (decide_eq_false fun h => hr h.2.1))
  · rw [show ((t.vols.len : Int) != (c.slices.len : Int)) = true by simp; omega, pT]
    exact b3 (Eq.symm (decide_eq_false fun h => hv h.1))
theorem l47x2 (m0 k : Nat) (hkr : k < t.rates.len) (hk : (t.rates.el k).len = c.slices.len) (R : Option Out) : ∀ j i fu, i + j = c.slices.len → j < fu →
    (bif allF (rateB c t k) j i then L47x1 (E F (d + 1)) F c l t m0 (IntKind.i64.wrap ((k : Int) + 1)) else some (.ret (.bool false))) = R →
    L47x2 (E F (d + 1)) F c l t m0 fu k i = R := by
  have hB : c.slices.len < 4611686018427387904 := hcl
  intro j
  induction j with
  | zero =>
    intro i fu h hf K
    obtain ⟨fu, rfl⟩ : ∃ k, fu = k + 1 := ⟨fu - 1, by omega⟩
    rw [L47x2s, decide_eq_false (by omega), pF]
    simp only [allF, cond_true] at K
    exact K
  | succ j ih =>
    intro i fu h hf K
    obtain ⟨fu, rfl⟩ : ∃ k, fu = k + 1 := ⟨fu - 1, by omega⟩
    rw [L47x2s]
    simp (disch := omega) only [decide_eq_true, decide_true, pT, Int.toNat_natCast, s64, tkOut_ret, tkBool_b]
    simp only [allF] at K
    by_cases hr : (c.slices.el i).rate.lo ≤ (t.rates.el k).el i ∧ (t.rates.el k).el i ≤ (c.slices.el i).rate.hi
    · rw [show rateB c t k i = true from decide_eq_true hr, Bool.true_and] at K
      rw [decide_eq_true hr, Bool.not_true, pF, wrS (by omega)]
      exact ih (i + 1) fu (by omega) (by omega) K
    · rw [show rateB c t k i = false from decide_eq_false hr, Bool.false_and, cond_false] at K
      rw [decide_eq_false hr, Bool.not_false, pT]
      exact K
theorem l47x1 : ∀ j k fu, k + j = t.rates.len → j < fu → L47x1 (E F (d + 1)) F c l t fu k = some (.ret (.bool (allF (rowB c t) j k))) := by
  have hB : c.slices.len < 4611686018427387904 := hcl
  have hT : t.rates.len < 4611686018427387904 := htl
  intro j
  induction j with
  | zero =>
    intro k fu h hf
    obtain ⟨fu, rfl⟩ : ∃ k, fu = k + 1 := ⟨fu - 1, by omega⟩
    rw [L47x1s, decide_eq_false (by omega), pF]
    rfl
  | succ j ih =>
    intro k fu h hf
    obtain ⟨fu, rfl⟩ : ∃ k, fu = k + 1 := ⟨fu - 1, by omega⟩
    rw [L47x1s]
    simp (disch := omega) only [decide_eq_true, decide_true, pT, Int.toNat_natCast]
    by_cases hk : (t.rates.el k).len = c.slices.len
    · rw [show (((t.rates.el k).len : Int) != (c.slices.len : Int)) = false by rw [hk]; simp, pF]
      refine l47x2 F d c l t hcl htl hCF hTF fu k (by omega) hk _ c.slices.len 0 F (by omega) (by omega) ?_
      simp only [allF, rowB, decide_eq_true hk, Bool.true_and]
      rw [wrS (by omega)]
      cases allF (rateB c t k) c.slices.len 0 with
      | true => rw [cond_true, Bool.true_and]; exact ih (k + 1) fu (by omega) (by omega)
      | false => rw [cond_false, Bool.false_and]
    · rw [show (((t.rates.el k).len : Int) != (c.slices.len : Int)) = true by simp; omega, pT]
      simp only [allF, rowB, decide_eq_false hk, Bool.false_and]
theorem l47x0 (hv : t.vols.len = c.slices.len) : ∀ j i fu, i + j = t.vols.len → j < fu → L47x0 (E F (d + 1)) F c l t fu i = some (.ret (.bool (allF (fun i => decide ((c.slices.el i).vol.lo ≤ t.vols.el i ∧ t.vols.el i ≤ (c.slices.el i).vol.hi)) j i && allF (rowB c t) t.rates.len 0))) := by
  have hB : c.slices.len < 4611686018427387904 := hcl
  intro j
  induction j with
  | zero =>
    intro i fu h hf
    obtain ⟨fu, rfl⟩ : ∃ k, fu = k + 1 := ⟨fu - 1, by omega⟩
    rw [L47x0s, decide_eq_false (by omega), pF]
    exact l47x1 F d c l t hcl htl hCF hTF t.rates.len 0 F (by omega) (by omega)
  | succ j ih =>
    intro i fu h hf
    obtain ⟨fu, rfl⟩ : ∃ k, fu = k + 1 := ⟨fu - 1, by omega⟩
    rw [L47x0s]
    simp (disch := omega) only [decide_eq_true (show (i : Int) < (t.vols.len : Int) by omega), decide_eq_true (show (i : Int) < (c.slices.len : Int) by omega), decide_eq_true (show (0 : Int) ≤ (i : Int) by omega), pT, Int.toNat_natCast, s64, tkOut_ret, tkBool_b]
    simp only [allF]
    cases decide ((c.slices.el i).vol.lo ≤ t.vols.el i ∧ t.vols.el i ≤ (c.slices.el i).vol.hi) with
    | true => rw [Bool.not_true, pF, wrS (by omega), Bool.true_and]; exact ih (i + 1) fu (by omega) (by omega)
    | false => rw [Bool.not_false, pT]; rfl
theorem s47 : (E F (d + 2)).pf 5 [.agg (eCav c), sl eStg 4 l, .agg (eTruth t)] = some (.ret (.bool (decide (TruthOk c l.len t)))) := by
  rw [E_pf, t47]
  by_cases hv : t.vols.len = c.slices.len
  · rw [show ((t.vols.len : Int) != (c.slices.len : Int)) = false by rw [hv]; simp, pF]
    by_cases hr : t.rates.len = l.len
    · rw [show ((t.rates.len : Int) != (l.len : Int)) = false by rw [hr]; simp, pF]
      refine (l47x0 F d c l t hcl htl hCF hTF hv t.vols.len 0 F (by omega) (by omega)).trans (b3 (b2 ?_))
      rw [allF_dec, allF_dec]
      simp only [Bool.and_eq_true, decide_eq_true_eq, rowB_iff]
      exact ⟨fun h => ⟨hv, hr, h.1, h.2⟩, fun h => ⟨h.2.2.1, h.2.2.2⟩⟩
    · rw [show ((t.rates.len : Int) != (l.len : Int)) = true by simp; omega, pT]
      exact b3 (Eq.symm (decide_eq_false fun h => hr h.2.1))
  · rw [show ((t.vols.len : Int) != (c.slices.len : Int)) = true by simp; omega, pT]
    exact b3 (Eq.symm (decide_eq_false fun h => hv h.1))
end
end Go.Sim.Le


namespace Go.Sim.Le
open Go.Proofs
abbrev wK (t : Truth) (j : Nat) : Nat → Int := (t.rates.el j).el
abbrev opnF (c : Cav) (i : Nat) : Int := (c.slices.el i).opn
abbrev fallF (c : Cav) (i : Nat) : Int := (c.slices.el i).fall
def volS (c : Cav) (l : Nat → Stg) (t : Truth) : Nat → Nat → Int
  | 0 => t.vols.el
  | j + 1 => fun i => volS c l t j i + opnF c i * (takeRow c (l j) (wK t j) (pathN (l j)) i * (l j).water)
def tkE (c : Cav) (l : Nat → Stg) (t : Truth) (j : Nat) : Int × Int := tkT c (l j) (wK t j) (pathN (l j))
def saltP (c : Cav) (l : Nat → Stg) (t : Truth) : Nat → Int
  | 0 => 0
  | j + 1 => saltP c l t j + (l j).water * (tkE c l t j).1
def sumpS (c : Cav) (l : Nat → Stg) (t : Truth) : Nat → Int
  | 0 => 0
  | j + 1 => sumpS c l t j + (l j).water * pathSum c (l j) (wK t j) (fallF c) (pathN (l j))
def brineS (c : Cav) (l : Nat → Stg) (t : Truth) : Nat → Int
  | 0 => 0
  | j + 1 => brineS c l t j + (1000000 * (l j).water - (l j).water * (tkE c l t j).2)
def outS (c : Cav) (l : Nat → Stg) (t : Truth) : Nat → Int
  | 0 => 0
  | j + 1 => outS c l t j + (1000000 * ((l j).water * (tkE c l t j).1) - c.hold * ((l j).water * (tkE c l t j).2))
def endV (c : Cav) (l : Nat → Stg) (t : Truth) (n : Nat) : List V := [sl eInt 1 ⟨false, c.slices.len, volS c l t n⟩, .int .i64 (sumpS c l t n), .int .i64 (saltP c l t n), .int .i64 (brineS c l t n), .int .i64 (outS c l t n)]
section
variable {c : Cav} (hc : CavOk c) {s : Stg} (hs : StgOk c.slices.len s) (w : Nat → Int) (hw : RatesOk c w)
include hc hs hw
theorem pathSum_in (g : Nat → Int) (hg : ∀ i, i < c.slices.len → 0 ≤ g i ∧ g i ≤ 3000) : ∀ k, k ≤ pathN s → 0 ≤ pathSum c s w g k ∧ pathSum c s w g k ≤ 3000 * (tkT c s w k).1 := by
  intro k
  induction k with
  | zero => intro _; simp [pathSum, tkT]
  | succ k ih =>
    intro h
    have i := ih (by omega)
    have hin := pathAt_in hs (k := k) (by omega)
    have hn := takeN_in hc hs w hw (k := k) (by omega)
    have hgi := hg (pathAt s k).toNat (by omega)
    have m1 : 0 ≤ g (pathAt s k).toNat * takeN c s w k := Int.mul_nonneg hgi.1 hn.1
    have m2 : g (pathAt s k).toNat * takeN c s w k ≤ 3000 * takeN c s w k := Int.mul_le_mul_of_nonneg_right hgi.2 hn.1
    simp only [pathSum, tkT]
    unfold takeN at *
    omega
omit hc hs hw in
theorem pathSum_sub : ∀ k, pathSum c s w (opnF c) k - pathSum c s w (fallF c) k = (tkT c s w k).2 := by
  intro k
  induction k with
  | zero => rfl
  | succ k ih =>
    simp only [pathSum, tkT]
    rw [← ih]
    have : (opnF c (pathAt s k).toNat) * takeN c s w k - (fallF c (pathAt s k).toNat) * takeN c s w k = min (w (pathAt s k).toNat) (c.hold - (tkT c s w k).1) * oAt c s k := by
      rw [← Int.sub_mul, Int.mul_comm]; rfl
    omega
end
theorem opn_in {c : Cav} (hc : CavOk c) : ∀ i, i < c.slices.len → 0 ≤ opnF c i ∧ opnF c i ≤ 3000 := fun i hi => by
  have : 1000 ≤ (c.slices.el i).opn ∧ (c.slices.el i).opn ≤ 3000 := (hc.2.2.2 i hi).2.1
  exact ⟨by show 0 ≤ (c.slices.el i).opn; omega, this.2⟩
theorem fall_in {c : Cav} (hc : CavOk c) : ∀ i, i < c.slices.len → 0 ≤ fallF c i ∧ fallF c i ≤ 3000 := fun i hi => by
  have h1 : 1000 ≤ (c.slices.el i).opn ∧ (c.slices.el i).opn ≤ 3000 := (hc.2.2.2 i hi).2.1
  have h2 : 0 ≤ (c.slices.el i).fall ∧ (c.slices.el i).fall ≤ (c.slices.el i).opn - 1 := (hc.2.2.2 i hi).2.2.1
  exact ⟨h2.1, by show (c.slices.el i).fall ≤ 3000; omega⟩
theorem truth_rates {c : Cav} {n : Nat} {t : Truth} (ht : TruthOk c n t) {j : Nat} (hj : j < n) : RatesOk c (wK t j) := fun i hi => (ht.2.2.2 j (by rw [ht.2.1]; exact hj)).2 i hi
theorem mulnn {a b x y : Int} (h1 : 0 ≤ a) (h2 : a ≤ x) (h3 : 0 ≤ b) (h4 : b ≤ y) : 0 ≤ a * b ∧ a * b ≤ x * y := ⟨Int.mul_nonneg h1 h3, Int.mul_le_mul h2 h4 h3 (by omega)⟩
section
variable {c : Cav} (hc : CavOk c) {n : Nat} {l : Nat → Stg} (hl : ∀ i, i < n → StgOk c.slices.len (l i)) {t : Truth} (ht : TruthOk c n t)
include hc hl ht
theorem vol_bd {i : Nat} (hi : i < c.slices.len) : ∀ j, j ≤ n → 0 ≤ volS c l t j i ∧ volS c l t j i ≤ 10000000000000 + 900000000000 * j := by
  intro j
  induction j with
  | zero =>
    intro _
    have h1 := ht.2.2.1 i (by rw [ht.1]; exact hi)
    have h2 : SpanIn (c.slices.el i).vol 0 10000000000000 := (hc.2.2.2 i hi).1
    unfold SpanIn at h2
    simp only [volS]
    omega
  | succ j ih =>
    intro h
    have i1 := ih (by omega)
    have hs := hl j (by omega)
    have h1 := takeRow_in hc hs (wK t j) (truth_rates ht (by omega)) (pathN (l j)) (Nat.le_refl _) i
    have hwa := hs.1
    have ho := opn_in hc i hi
    have m1 := mulnn (a := takeRow c (l j) (wK t j) (pathN (l j)) i) (b := (l j).water) (x := 300) (y := 1000000) h1.1 h1.2 (by omega) (by omega)
    have m2 := mulnn (a := opnF c i) (b := takeRow c (l j) (wK t j) (pathN (l j)) i * (l j).water) (x := 3000) (y := 300000000) ho.1 ho.2 m1.1 (by omega)
    simp only [volS]
    omega
theorem tkE_in {j : Nat} (hj : j < n) : (0 ≤ (tkE c l t j).1 ∧ (tkE c l t j).1 ≤ 300) ∧ (0 ≤ (tkE c l t j).2 ∧ (tkE c l t j).2 ≤ 900000) ∧ (0 ≤ (l j).water * (tkE c l t j).1 ∧ (l j).water * (tkE c l t j).1 ≤ 300000000) ∧ 0 ≤ (l j).water * (tkE c l t j).2 ∧ (l j).water * (tkE c l t j).2 ≤ 900000000000 := by
  have hs := hl j hj
  have hr := reach_in hc hs (take_reach hc hs (wK t j) (truth_rates ht hj) (pathN (l j)) (Nat.le_refl _)) (Nat.le_refl _)
  have hH := hc.2.1
  have hwa := hs.1
  unfold tkE
  have m1 := mulnn (a := (l j).water) (b := (tkT c (l j) (wK t j) (pathN (l j))).1) (x := 1000000) (y := 300) (by omega) (by omega) (by omega) (by omega)
  have m2 := mulnn (a := (l j).water) (b := (tkT c (l j) (wK t j) (pathN (l j))).2) (x := 1000000) (y := 900000) (by omega) (by omega) (by omega) (by omega)
  exact ⟨by omega, by omega, by omega, by omega⟩
theorem sums_in : ∀ j, j ≤ n → (0 ≤ saltP c l t j ∧ saltP c l t j ≤ 300000000 * j) ∧ (0 ≤ sumpS c l t j ∧ sumpS c l t j ≤ 900000000000 * j) ∧ (0 ≤ brineS c l t j ∧ brineS c l t j ≤ 1000000000000 * j) ∧ (-(270000000000000 * j) ≤ outS c l t j ∧ outS c l t j ≤ 300000000000000 * j) := by
  intro j
  induction j with
  | zero => intro _; simp [saltP, sumpS, brineS, outS]
  | succ j ih =>
    intro h
    have i := ih (by omega)
    have hs := hl j (by omega)
    have hwa := hs.1
    have hH := hc.2.1
    have ht1 := tkE_in hc hl ht (j := j) (by omega)
    have hps := pathSum_in hc hs (wK t j) (truth_rates ht (by omega)) (fallF c) (fall_in hc) (pathN (l j)) (Nat.le_refl _)
    have he : (tkT c (l j) (wK t j) (pathN (l j))).1 = (tkE c l t j).1 := rfl
    rw [he] at hps
    have m1 := mulnn (a := (l j).water) (b := pathSum c (l j) (wK t j) (fallF c) (pathN (l j))) (x := 1000000) (y := 900000) (by omega) (by omega) (by omega) (by omega)
    have m2 := mulnn (a := c.hold) (b := (l j).water * (tkE c l t j).2) (x := 300) (y := 900000000000) (by omega) (by omega) (by omega) (by omega)
    have m3 : (l j).water * (tkE c l t j).2 ≤ (l j).water * 900000 := Int.mul_le_mul_of_nonneg_left (by omega) (by omega)
    simp only [saltP, sumpS, brineS, outS]
    omega
end
variable (F d : Nat)
theorem s88g (a b : Int) (hF : 20 < F) (h1 : I64 a) (h3 : I64 (a + b)) :
    (E F (d + 3)).pf 74 [.row false 2 1 (fun u => List.take 1 (List.drop (Min.min u 1 * 1) [V.int .i64 a, V.int .i64 b]))] = some (.ret (.int .i64 (a + b))) := s88 F (d + 2) a b hF h1 h3
section
variable {c : Cav} (hc : CavOk c) {l : Sl Stg} (hL : l.len ≤ 300) (hl : ∀ i, i < l.len → StgOk c.slices.len (l.el i)) {t : Truth} (ht : TruthOk c l.len t) (hF : 400 < F)
include hc hL hl ht hF
theorem l44x3 (m0 jj : Nat) (hj : jj < l.len) (b0 : Bool) (y1 : Int) (y2 : Nat) (y3 y4 y5 y6 y7 y8 y9 y10 : Int) : ∀ j k fu, k + 1 + j = pathN (l.el jj) → j < fu →
    L44x3 (E F (d + 3)) F c l t m0 fu (fun _ => eStg (l.el jj)) (stepOf (l.el jj)) .i64 (pathAt (l.el jj) k) c.slices.len (sumpS c l.el t jj) (saltP c l.el t jj) (brineS c l.el t jj) (outS c l.el t jj) jj (l.el jj).water (l.el jj).into (l.el jj).out (l.el jj).blanket
      (c.hold - (tkT c (l.el jj) (wK t jj) k).1) .i64 ((l.el jj).water * pathSum c (l.el jj) (wK t jj) (opnF c) k) .i64 ((l.el jj).water * pathSum c (l.el jj) (wK t jj) (fallF c) k) .i64 ((l.el jj).water * (tkT c (l.el jj) (wK t jj) k).1) c.slices.len
      (fun i => eInt (volS c l.el t jj i + opnF c i * (takeRow c (l.el jj) (wK t jj) k i * (l.el jj).water))) jj b0 y1 y2 y3 y4 y5 y6 y7 y8 y9 y10 (fun _ => eStg (l.el jj))
    = L44x1 (E F (d + 3)) F c l t m0 ((jj + 1 : Nat) : Int) c.slices.len (sumpS c l.el t (jj + 1)) (saltP c l.el t (jj + 1)) (brineS c l.el t (jj + 1)) (outS c l.el t (jj + 1)) c.slices.len (fun i => eInt (volS c l.el t (jj + 1) i)) := by
  have hs := hl jj hj
  have hw := truth_rates ht hj
  have hp := pathN_le hs
  have hcl := hc.1
  have hH := hc.2.1
  have hwa := hs.1
  have htr := ht.2.2.2 jj (by rw [ht.2.1]; exact hj)
  have htl := ht.2.1
  have hsum := sums_in hc hl ht jj (by omega)
  have hsum' := sums_in hc hl ht (jj + 1) (by omega)
  have htr1 := htr.1
  intro j
  induction j with
  | zero =>
    intro k fu h hf
    obtain ⟨fu, rfl⟩ : ∃ k, fu = k + 1 := ⟨fu - 1, by omega⟩
    have hin := pathAt_in hs (k := k) (by omega)
    have hr := reach_in hc hs (take_reach hc hs (wK t jj) hw k (by omega)) (by omega)
    have hr' := reach_in hc hs (take_reach hc hs (wK t jj) hw (k + 1) (by omega)) (by omega)
    have hn := takeN_in hc hs (wK t jj) hw (k := k) (by omega)
    have hno : min ((t.rates.el jj).el (pathAt (l.el jj) k).toNat) (c.hold - (tkT c (l.el jj) (wK t jj) k).1) = takeN c (l.el jj) (wK t jj) k := rfl
    have hv := vol_bd hc hl ht (i := (pathAt (l.el jj) k).toNat) (by omega) jj (by omega)
    have ho : 0 ≤ (c.slices.el (pathAt (l.el jj) k).toNat).opn ∧ (c.slices.el (pathAt (l.el jj) k).toNat).opn ≤ 3000 := opn_in hc (pathAt (l.el jj) k).toNat (by omega)
    have hfa : 0 ≤ (c.slices.el (pathAt (l.el jj) k).toNat).fall ∧ (c.slices.el (pathAt (l.el jj) k).toNat).fall ≤ 3000 := fall_in hc (pathAt (l.el jj) k).toNat (by omega)
    have p1 := pathSum_in hc hs (wK t jj) hw (opnF c) (opn_in hc) k (by omega)
    have p2 := pathSum_in hc hs (wK t jj) hw (fallF c) (fall_in hc) k (by omega)
    have p1' := pathSum_in hc hs (wK t jj) hw (opnF c) (opn_in hc) (k + 1) (by omega)
    have p2' := pathSum_in hc hs (wK t jj) hw (fallF c) (fall_in hc) (k + 1) (by omega)
    have ht0 : takeRow c (l.el jj) (wK t jj) k (pathAt (l.el jj) k).toNat = 0 := takeRow_0 hs (wK t jj) k k (Nat.le_refl _) (by omega)
    have q1 := mulnn (a := takeN c (l.el jj) (wK t jj) k) (b := (l.el jj).water) (x := 300) (y := 1000000) hn.1 hn.2.1 (by omega) (by omega)
    have q2 := mulnn (a := takeN c (l.el jj) (wK t jj) k * (l.el jj).water) (b := (c.slices.el (pathAt (l.el jj) k).toNat).opn) (x := 300000000) (y := 3000) q1.1 (by omega) ho.1 ho.2
    have q3 := mulnn (a := takeN c (l.el jj) (wK t jj) k * (l.el jj).water) (b := (c.slices.el (pathAt (l.el jj) k).toNat).fall) (x := 300000000) (y := 3000) q1.1 (by omega) hfa.1 hfa.2
    have r1 := mulnn (a := (l.el jj).water) (b := (tkT c (l.el jj) (wK t jj) k).1) (x := 1000000) (y := 300) (by omega) (by omega) (by omega) (by omega)
    have r2 := mulnn (a := (l.el jj).water) (b := pathSum c (l.el jj) (wK t jj) (opnF c) k) (x := 1000000) (y := 900000) (by omega) (by omega) (by omega) (by omega)
    have r3 := mulnn (a := (l.el jj).water) (b := pathSum c (l.el jj) (wK t jj) (fallF c) k) (x := 1000000) (y := 900000) (by omega) (by omega) (by omega) (by omega)
    have es1 : (l.el jj).water * (tkT c (l.el jj) (wK t jj) k).1 + takeN c (l.el jj) (wK t jj) k * (l.el jj).water = (l.el jj).water * (tkT c (l.el jj) (wK t jj) (k + 1)).1 := by
      show _ = (l.el jj).water * ((tkT c (l.el jj) (wK t jj) k).1 + takeN c (l.el jj) (wK t jj) k)
      rw [Int.mul_add, Int.mul_comm (takeN c (l.el jj) (wK t jj) k)]
    have es2 : (l.el jj).water * pathSum c (l.el jj) (wK t jj) (opnF c) k + takeN c (l.el jj) (wK t jj) k * (l.el jj).water * (c.slices.el (pathAt (l.el jj) k).toNat).opn = (l.el jj).water * pathSum c (l.el jj) (wK t jj) (opnF c) (k + 1) := by
      show _ = (l.el jj).water * (pathSum c (l.el jj) (wK t jj) (opnF c) k + (c.slices.el (pathAt (l.el jj) k).toNat).opn * takeN c (l.el jj) (wK t jj) k)
      rw [Int.mul_add, Int.mul_comm (takeN c (l.el jj) (wK t jj) k), Int.mul_assoc, Int.mul_comm (takeN c (l.el jj) (wK t jj) k)]
    have es3 : (l.el jj).water * pathSum c (l.el jj) (wK t jj) (fallF c) k + takeN c (l.el jj) (wK t jj) k * (l.el jj).water * (c.slices.el (pathAt (l.el jj) k).toNat).fall = (l.el jj).water * pathSum c (l.el jj) (wK t jj) (fallF c) (k + 1) := by
      show _ = (l.el jj).water * (pathSum c (l.el jj) (wK t jj) (fallF c) k + (c.slices.el (pathAt (l.el jj) k).toNat).fall * takeN c (l.el jj) (wK t jj) k)
      rw [Int.mul_add, Int.mul_comm (takeN c (l.el jj) (wK t jj) k), Int.mul_assoc, Int.mul_comm (takeN c (l.el jj) (wK t jj) k)]
    have eu : updGet (fun i => eInt (volS c l.el t jj i + opnF c i * (takeRow c (l.el jj) (wK t jj) k i * (l.el jj).water))) (pathAt (l.el jj) k).toNat 0 [V.int .i64 (volS c l.el t jj (pathAt (l.el jj) k).toNat + takeN c (l.el jj) (wK t jj) k * (l.el jj).water * (c.slices.el (pathAt (l.el jj) k).toNat).opn)] =
        fun i => eInt (volS c l.el t jj i + opnF c i * (takeRow c (l.el jj) (wK t jj) (k + 1) i * (l.el jj).water)) := by
      refine (upd_int _ _ _).trans ?_
      funext i
      refine congrArg eInt ?_
      by_cases hi : i = (pathAt (l.el jj) k).toNat
      · rw [if_pos hi, hi]
        simp only [takeRow, if_pos]
        rw [Int.mul_comm (takeN c (l.el jj) (wK t jj) k * (l.el jj).water)]
      · rw [if_neg hi]
        simp only [takeRow, if_neg hi]
    have hk' : k = pathN (l.el jj) - 1 := by omega
    have e1 : pathAt (l.el jj) k = (l.el jj).out := by rw [hk', pathAt_last]
    have e2 : k + 1 = pathN (l.el jj) := by omega
    have ebif : (pathAt (l.el jj) k != (l.el jj).out) = false := by simp [e1]
    rw [L44x3s]
    have hA : decide ((0 : Int) ≤ (jj : Int)) = true := decide_eq_true (Int.natCast_nonneg _)
    have hB : decide ((jj : Int) < (t.rates.len : Int)) = true := decide_eq_true (by rw [htl]; exact Int.ofNat_lt.2 hj)
    have hC : decide ((0 : Int) ≤ pathAt (l.el jj) k) = true := decide_eq_true hin.1
    have hD : decide (pathAt (l.el jj) k < ((t.rates.el jj).len : Int)) = true := decide_eq_true (by rw [htr1]; exact hin.2)
    have hE : decide (pathAt (l.el jj) k < (c.slices.len : Int)) = true := decide_eq_true hin.2
    have w1 : IntKind.i64.wrap (takeN c (l.el jj) (wK t jj) k * (l.el jj).water) = takeN c (l.el jj) (wK t jj) k * (l.el jj).water := wr (by omega)
    have w2 : IntKind.i64.wrap (takeN c (l.el jj) (wK t jj) k * (l.el jj).water * (c.slices.el (pathAt (l.el jj) k).toNat).opn) = takeN c (l.el jj) (wK t jj) k * (l.el jj).water * (c.slices.el (pathAt (l.el jj) k).toNat).opn := wr (by omega)
    have w3 : IntKind.i64.wrap (takeN c (l.el jj) (wK t jj) k * (l.el jj).water * (c.slices.el (pathAt (l.el jj) k).toNat).fall) = takeN c (l.el jj) (wK t jj) k * (l.el jj).water * (c.slices.el (pathAt (l.el jj) k).toNat).fall := wr (by omega)
    have w4 : IntKind.i64.wrap (volS c l.el t jj (pathAt (l.el jj) k).toNat + takeN c (l.el jj) (wK t jj) k * (l.el jj).water * (c.slices.el (pathAt (l.el jj) k).toNat).opn) = volS c l.el t jj (pathAt (l.el jj) k).toNat + takeN c (l.el jj) (wK t jj) k * (l.el jj).water * (c.slices.el (pathAt (l.el jj) k).toNat).opn := wr (by omega)
    have e88a := s88g F d ((l.el jj).water * (tkT c (l.el jj) (wK t jj) k).1) (takeN c (l.el jj) (wK t jj) k * (l.el jj).water) (by omega) (by omega) (by omega)
    have e88b := s88g F d ((l.el jj).water * pathSum c (l.el jj) (wK t jj) (opnF c) k) (takeN c (l.el jj) (wK t jj) k * (l.el jj).water * (c.slices.el (pathAt (l.el jj) k).toNat).opn) (by omega) (by omega) (by omega)
    have e88c := s88g F d ((l.el jj).water * pathSum c (l.el jj) (wK t jj) (fallF c) k) (takeN c (l.el jj) (wK t jj) k * (l.el jj).water * (c.slices.el (pathAt (l.el jj) k).toNat).fall) (by omega) (by omega) (by omega)
    simp only [hA, hB, hC, hD, hE, decide_true, pT, Int.toNat_natCast, mnE, hno, w1, w2, w3, e88a, e88b, e88c, tkOut_ret, tkInt_i, tkCons_c, List.drop, ht0, Int.zero_mul, Int.mul_zero, Int.add_zero, w4]
    rw [es1, es2, es3, eu]
    rw [ebif, pF, e2]
    rw [e2] at p1' p2' hr'
    have hT := tkE_in hc hl ht hj
    have eT1 : (tkT c (l.el jj) (wK t jj) (pathN (l.el jj))).1 = (tkE c l.el t jj).1 := rfl
    have eT2 : (tkT c (l.el jj) (wK t jj) (pathN (l.el jj))).2 = (tkE c l.el t jj).2 := rfl
    have eq3 : (l.el jj).water * pathSum c (l.el jj) (wK t jj) (opnF c) (pathN (l.el jj)) - (l.el jj).water * pathSum c (l.el jj) (wK t jj) (fallF c) (pathN (l.el jj)) = (l.el jj).water * (tkE c l.el t jj).2 := by
      rw [← Int.mul_sub, pathSum_sub]; rfl
    rw [eT1] at p1' p2' hr' ⊢
    have f2 := mulnn (a := (l.el jj).water) (b := pathSum c (l.el jj) (wK t jj) (opnF c) (pathN (l.el jj))) (x := 1000000) (y := 900000) (by omega) (by omega) (by omega) (by omega)
    have f3 := mulnn (a := (l.el jj).water) (b := pathSum c (l.el jj) (wK t jj) (fallF c) (pathN (l.el jj))) (x := 1000000) (y := 900000) (by omega) (by omega) (by omega) (by omega)
    have f4 := mulnn (a := c.hold) (b := (l.el jj).water * (tkE c l.el t jj).2) (x := 300) (y := 900000000000) (by omega) (by omega) (by omega) (by omega)
    clear q1 q2 q3 r1 r2 r3 es1 es2 es3 eu w1 w2 w3 w4 e88a e88b e88c hA hB hC hD hE hno ht0 p1 p2 hv ho hfa hn hr
    simp only [sumpS, saltP, brineS, outS] at hsum'
    generalize (l.el jj).water * pathSum c (l.el jj) (wK t jj) (opnF c) (pathN (l.el jj)) = Rm at *
    generalize hFl : (l.el jj).water * pathSum c (l.el jj) (wK t jj) (fallF c) (pathN (l.el jj)) = Fl at *
    rw [wr (n := Rm - Fl) (by omega), eq3]
    have eb : 1000000 * (l.el jj).water - Rm + Fl = 1000000 * (l.el jj).water - (l.el jj).water * (tkE c l.el t jj).2 := by omega
    rw [wr (n := 1000000 * (l.el jj).water) (by omega), wr (n := 1000000 * (l.el jj).water - Rm) (by omega), eb, wr (n := 1000000 * (l.el jj).water - (l.el jj).water * (tkE c l.el t jj).2) (by omega)]
    rw [wr (n := 1000000 * ((l.el jj).water * (tkE c l.el t jj).1)) (by omega), wr (n := c.hold * ((l.el jj).water * (tkE c l.el t jj).2)) (by omega), wr (n := 1000000 * ((l.el jj).water * (tkE c l.el t jj).1) - c.hold * ((l.el jj).water * (tkE c l.el t jj).2)) (by omega)]
    rw [wr (n := sumpS c l.el t jj + Fl) (by omega), wr (n := saltP c l.el t jj + (l.el jj).water * (tkE c l.el t jj).1) (by omega), wr (n := brineS c l.el t jj + (1000000 * (l.el jj).water - (l.el jj).water * (tkE c l.el t jj).2)) (by omega), wr (n := outS c l.el t jj + (1000000 * ((l.el jj).water * (tkE c l.el t jj).1) - c.hold * ((l.el jj).water * (tkE c l.el t jj).2))) (by omega), wrS (by omega)]
    rw [← hFl]
    rfl
  | succ j ih =>
    intro k fu h hf
    obtain ⟨fu, rfl⟩ : ∃ k, fu = k + 1 := ⟨fu - 1, by omega⟩
    have hin := pathAt_in hs (k := k) (by omega)
    have hr := reach_in hc hs (take_reach hc hs (wK t jj) hw k (by omega)) (by omega)
    have hr' := reach_in hc hs (take_reach hc hs (wK t jj) hw (k + 1) (by omega)) (by omega)
    have hn := takeN_in hc hs (wK t jj) hw (k := k) (by omega)
    have hno : min ((t.rates.el jj).el (pathAt (l.el jj) k).toNat) (c.hold - (tkT c (l.el jj) (wK t jj) k).1) = takeN c (l.el jj) (wK t jj) k := rfl
    have hv := vol_bd hc hl ht (i := (pathAt (l.el jj) k).toNat) (by omega) jj (by omega)
    have ho : 0 ≤ (c.slices.el (pathAt (l.el jj) k).toNat).opn ∧ (c.slices.el (pathAt (l.el jj) k).toNat).opn ≤ 3000 := opn_in hc (pathAt (l.el jj) k).toNat (by omega)
    have hfa : 0 ≤ (c.slices.el (pathAt (l.el jj) k).toNat).fall ∧ (c.slices.el (pathAt (l.el jj) k).toNat).fall ≤ 3000 := fall_in hc (pathAt (l.el jj) k).toNat (by omega)
    have p1 := pathSum_in hc hs (wK t jj) hw (opnF c) (opn_in hc) k (by omega)
    have p2 := pathSum_in hc hs (wK t jj) hw (fallF c) (fall_in hc) k (by omega)
    have p1' := pathSum_in hc hs (wK t jj) hw (opnF c) (opn_in hc) (k + 1) (by omega)
    have p2' := pathSum_in hc hs (wK t jj) hw (fallF c) (fall_in hc) (k + 1) (by omega)
    have ht0 : takeRow c (l.el jj) (wK t jj) k (pathAt (l.el jj) k).toNat = 0 := takeRow_0 hs (wK t jj) k k (Nat.le_refl _) (by omega)
    have q1 := mulnn (a := takeN c (l.el jj) (wK t jj) k) (b := (l.el jj).water) (x := 300) (y := 1000000) hn.1 hn.2.1 (by omega) (by omega)
    have q2 := mulnn (a := takeN c (l.el jj) (wK t jj) k * (l.el jj).water) (b := (c.slices.el (pathAt (l.el jj) k).toNat).opn) (x := 300000000) (y := 3000) q1.1 (by omega) ho.1 ho.2
    have q3 := mulnn (a := takeN c (l.el jj) (wK t jj) k * (l.el jj).water) (b := (c.slices.el (pathAt (l.el jj) k).toNat).fall) (x := 300000000) (y := 3000) q1.1 (by omega) hfa.1 hfa.2
    have r1 := mulnn (a := (l.el jj).water) (b := (tkT c (l.el jj) (wK t jj) k).1) (x := 1000000) (y := 300) (by omega) (by omega) (by omega) (by omega)
    have r2 := mulnn (a := (l.el jj).water) (b := pathSum c (l.el jj) (wK t jj) (opnF c) k) (x := 1000000) (y := 900000) (by omega) (by omega) (by omega) (by omega)
    have r3 := mulnn (a := (l.el jj).water) (b := pathSum c (l.el jj) (wK t jj) (fallF c) k) (x := 1000000) (y := 900000) (by omega) (by omega) (by omega) (by omega)
    have es1 : (l.el jj).water * (tkT c (l.el jj) (wK t jj) k).1 + takeN c (l.el jj) (wK t jj) k * (l.el jj).water = (l.el jj).water * (tkT c (l.el jj) (wK t jj) (k + 1)).1 := by
      show _ = (l.el jj).water * ((tkT c (l.el jj) (wK t jj) k).1 + takeN c (l.el jj) (wK t jj) k)
      rw [Int.mul_add, Int.mul_comm (takeN c (l.el jj) (wK t jj) k)]
    have es2 : (l.el jj).water * pathSum c (l.el jj) (wK t jj) (opnF c) k + takeN c (l.el jj) (wK t jj) k * (l.el jj).water * (c.slices.el (pathAt (l.el jj) k).toNat).opn = (l.el jj).water * pathSum c (l.el jj) (wK t jj) (opnF c) (k + 1) := by
      show _ = (l.el jj).water * (pathSum c (l.el jj) (wK t jj) (opnF c) k + (c.slices.el (pathAt (l.el jj) k).toNat).opn * takeN c (l.el jj) (wK t jj) k)
      rw [Int.mul_add, Int.mul_comm (takeN c (l.el jj) (wK t jj) k), Int.mul_assoc, Int.mul_comm (takeN c (l.el jj) (wK t jj) k)]
    have es3 : (l.el jj).water * pathSum c (l.el jj) (wK t jj) (fallF c) k + takeN c (l.el jj) (wK t jj) k * (l.el jj).water * (c.slices.el (pathAt (l.el jj) k).toNat).fall = (l.el jj).water * pathSum c (l.el jj) (wK t jj) (fallF c) (k + 1) := by
      show _ = (l.el jj).water * (pathSum c (l.el jj) (wK t jj) (fallF c) k + (c.slices.el (pathAt (l.el jj) k).toNat).fall * takeN c (l.el jj) (wK t jj) k)
      rw [Int.mul_add, Int.mul_comm (takeN c (l.el jj) (wK t jj) k), Int.mul_assoc, Int.mul_comm (takeN c (l.el jj) (wK t jj) k)]
    have eu : updGet (fun i => eInt (volS c l.el t jj i + opnF c i * (takeRow c (l.el jj) (wK t jj) k i * (l.el jj).water))) (pathAt (l.el jj) k).toNat 0 [V.int .i64 (volS c l.el t jj (pathAt (l.el jj) k).toNat + takeN c (l.el jj) (wK t jj) k * (l.el jj).water * (c.slices.el (pathAt (l.el jj) k).toNat).opn)] =
        fun i => eInt (volS c l.el t jj i + opnF c i * (takeRow c (l.el jj) (wK t jj) (k + 1) i * (l.el jj).water)) := by
      refine (upd_int _ _ _).trans ?_
      funext i
      refine congrArg eInt ?_
      by_cases hi : i = (pathAt (l.el jj) k).toNat
      · rw [if_pos hi, hi]
        simp only [takeRow, if_pos]
        rw [Int.mul_comm (takeN c (l.el jj) (wK t jj) k * (l.el jj).water)]
      · rw [if_neg hi]
        simp only [takeRow, if_neg hi]
    have hne : (pathAt (l.el jj) k != (l.el jj).out) = true := by
      have := pathAt_ne (l.el jj) (k := k) (by omega)
      simpa using this
    have hS : pathAt (l.el jj) k + stepOf (l.el jj) = pathAt (l.el jj) (k + 1) := by rw [← pathAt_S]
    have hin2 := pathAt_in hs (k := k + 1) (by omega)
    rw [L44x3s]
    have hA : decide ((0 : Int) ≤ (jj : Int)) = true := decide_eq_true (Int.natCast_nonneg _)
    have hB : decide ((jj : Int) < (t.rates.len : Int)) = true := decide_eq_true (by rw [htl]; exact Int.ofNat_lt.2 hj)
    have hC : decide ((0 : Int) ≤ pathAt (l.el jj) k) = true := decide_eq_true hin.1
    have hD : decide (pathAt (l.el jj) k < ((t.rates.el jj).len : Int)) = true := decide_eq_true (by rw [htr1]; exact hin.2)
    have hE : decide (pathAt (l.el jj) k < (c.slices.len : Int)) = true := decide_eq_true hin.2
    have w1 : IntKind.i64.wrap (takeN c (l.el jj) (wK t jj) k * (l.el jj).water) = takeN c (l.el jj) (wK t jj) k * (l.el jj).water := wr (by omega)
    have w2 : IntKind.i64.wrap (takeN c (l.el jj) (wK t jj) k * (l.el jj).water * (c.slices.el (pathAt (l.el jj) k).toNat).opn) = takeN c (l.el jj) (wK t jj) k * (l.el jj).water * (c.slices.el (pathAt (l.el jj) k).toNat).opn := wr (by omega)
    have w3 : IntKind.i64.wrap (takeN c (l.el jj) (wK t jj) k * (l.el jj).water * (c.slices.el (pathAt (l.el jj) k).toNat).fall) = takeN c (l.el jj) (wK t jj) k * (l.el jj).water * (c.slices.el (pathAt (l.el jj) k).toNat).fall := wr (by omega)
    have w4 : IntKind.i64.wrap (volS c l.el t jj (pathAt (l.el jj) k).toNat + takeN c (l.el jj) (wK t jj) k * (l.el jj).water * (c.slices.el (pathAt (l.el jj) k).toNat).opn) = volS c l.el t jj (pathAt (l.el jj) k).toNat + takeN c (l.el jj) (wK t jj) k * (l.el jj).water * (c.slices.el (pathAt (l.el jj) k).toNat).opn := wr (by omega)
    have e88a := s88g F d ((l.el jj).water * (tkT c (l.el jj) (wK t jj) k).1) (takeN c (l.el jj) (wK t jj) k * (l.el jj).water) (by omega) (by omega) (by omega)
    have e88b := s88g F d ((l.el jj).water * pathSum c (l.el jj) (wK t jj) (opnF c) k) (takeN c (l.el jj) (wK t jj) k * (l.el jj).water * (c.slices.el (pathAt (l.el jj) k).toNat).opn) (by omega) (by omega) (by omega)
    have e88c := s88g F d ((l.el jj).water * pathSum c (l.el jj) (wK t jj) (fallF c) k) (takeN c (l.el jj) (wK t jj) k * (l.el jj).water * (c.slices.el (pathAt (l.el jj) k).toNat).fall) (by omega) (by omega) (by omega)
    simp only [hA, hB, hC, hD, hE, decide_true, pT, Int.toNat_natCast, mnE, hno, w1, w2, w3, e88a, e88b, e88c, tkOut_ret, tkInt_i, tkCons_c, List.drop, ht0, Int.zero_mul, Int.mul_zero, Int.add_zero, w4]
    rw [es1, es2, es3, eu]
    rw [hne, pT, hS, wr (n := pathAt (l.el jj) (k + 1)) (by omega), wr (n := c.hold - (tkT c (l.el jj) (wK t jj) k).1 - takeN c (l.el jj) (wK t jj) k) (by omega)]
    rw [show c.hold - (tkT c (l.el jj) (wK t jj) k).1 - takeN c (l.el jj) (wK t jj) k = c.hold - (tkT c (l.el jj) (wK t jj) (k + 1)).1 by
      show _ = c.hold - ((tkT c (l.el jj) (wK t jj) k).1 + takeN c (l.el jj) (wK t jj) k); omega]
    exact ih (k + 1) fu (by omega) (by omega)
theorem l44x1 : ∀ j k fu, k + j = l.len → j < fu →
    L44x1 (E F (d + 3)) F c l t fu k c.slices.len (sumpS c l.el t k) (saltP c l.el t k) (brineS c l.el t k) (outS c l.el t k) c.slices.len (fun i => eInt (volS c l.el t k i)) = some (.ret (.tup [.agg (endV c l.el t l.len), .int .i64 0])) := by
  intro j
  induction j with
  | zero =>
    intro k fu h hf
    obtain ⟨fu, rfl⟩ : ∃ k, fu = k + 1 := ⟨fu - 1, by omega⟩
    have hk : k = l.len := by omega
    subst hk
    rw [L44x1s, decide_eq_false (by omega), pF]
    rfl
  | succ j ih =>
    intro k fu h hf
    obtain ⟨fu, rfl⟩ : ∃ k, fu = k + 1 := ⟨fu - 1, by omega⟩
    have hs := hl k (by omega)
    have hp := pathN_le hs
    have hp1 := pathN_pos (l.el k)
    have hcl := hc.1
    have hH := hc.2.1
    have e := fun b0 y1 y2 y3 y4 y5 y6 y7 y8 y9 y10 => l44x3 F d hc hL hl ht hF fu k (by omega) b0 y1 y2 y3 y4 y5 y6 y7 y8 y9 y10 (pathN (l.el k) - 1) 0 F (by omega) (by omega)
    have e2 := ih (k + 1) fu (by omega) (by omega)
    have ev : (fun i => eInt (volS c l.el t k i + opnF c i * (takeRow c (l.el k) (wK t k) 0 i * (l.el k).water))) = fun i => eInt (volS c l.el t k i) := by
      funext i
      simp only [takeRow, Int.zero_mul, Int.mul_zero, Int.add_zero]
    simp only [ev, tkT, pathSum, Int.mul_zero, Int.sub_zero, pathAt_0] at e
    have q68 : (E F (d + 3)).pf 73 [.agg (eStg (l.el k))] = _ := s68 F (d + 2) (l.el k)
    rw [L44x1s]
    simp (disch := omega) only [decide_eq_true (show (k : Int) < (l.len : Int) by omega), decide_eq_true (show (0 : Int) ≤ (k : Int) by omega), pT, Int.toNat_natCast, q68, tkOut_ret, tkFn_f, tkNil_n, tkCons_c, tkPtr_p, tkInt_i, Nat.beq_refl, Bool.and_self, decide_true]
    unfold stepOf at e
    by_cases hd : (l.el k).out < (l.el k).into
    · simp only [if_pos hd] at e
      rw [decide_eq_true hd, pT]
      exact (e _ _ _ _ _ _ _ _ _ _ _).trans e2
    · simp only [if_neg hd] at e
      rw [decide_eq_false hd, pF]
      exact (e _ _ _ _ _ _ _ _ _ _ _).trans e2
end
theorem s79w (w : Sl Int) (hnl : w.nl = false) (h0 : 0 < w.len) (h1 : w.len ≤ 300) : (E F (d + 1)).hv 72 [sl eInt 1 w] [] = some (.ret (.osl 0 0 w.len), [.arr 3 1 w.len (fun i => eInt (w.el i)) true]) := by
  rw [E_hv, t79, hnl]
  simp only [pF, Nat.zero_add]
  rw [show (w.len == 0) = false by rw [beq_eq_false_iff_ne]; omega, pF, decide_eq_true (by omega), pT]
  rfl
theorem s44 (c : Cav) (l : Sl Stg) (t : Truth) (hC : c.slices.len < Big) (hCF : c.slices.len < F) (hB : l.len < Big) (hLF : l.len < F) (hT : t.rates.len < Big) (hTF : t.rates.len < F) (hnl : t.vols.nl = true → t.vols.len = 0) (hF : 400 < F) :
    (E F (d + 8)).pf 38 [.agg (eCav c), sl eStg 4 l, .agg (eTruth t)] = some (.ret (.tup (if errP c l true = 0 ∧ TruthOk c l.len t then [.agg (endV c l.el t l.len), .int .i64 0] else [.agg [.row true 0 0 (fun _ => []), .int .i64 0, .int .i64 0, .int .i64 0, .int .i64 0], .int .i64 (if errP c l true = 0 then 2 else errP c l true)]))) := by
  have q87 : (E F (d + 7)).pf 71 [.agg (eCav c), sl eStg 4 l, .agg (eTruth t)] = _ := s87 F (d + 5) c l t hC hT hCF hTF
  rw [E_pf, t44]
  simp only [s57e F d c l hC hCF hB hLF, tkOut_ret, tkInt_i, decide_true, pT]
  by_cases h0 : errP c l true = 0
  · obtain ⟨h8, hc, hl, _⟩ := errP_0.1 h0
    rw [h0, show ((0 : Int) != 0) = false from rfl, pF, q87]
    simp only [tkOut_ret, tkBool_b]
    by_cases ht : TruthOk c l.len t
    · rw [decide_eq_true ht, Bool.not_true, pF, if_pos ⟨trivial, ht⟩]
      have hcl := hc.1
      have hvl := ht.1
      have hn : t.vols.nl = false := by
        cases h : t.vols.nl with
        | false => rfl
        | true => have := hnl h; omega
      have q79 : (E F (d + 7)).hv 72 [sl eInt 1 t.vols] [] = _ := s79w F (d + 6) t.vols hn (by omega) (by omega)
      simp only [q79, tkHv_h, tkSl_o, Nat.beq_refl, Bool.and_self, beq_self_eq_true, pT, tkSCons_c, tkSNil_n, tkArr_a]
      rw [hvl]
      exact l44x1 F (d + 4) hc (by omega) hl ht hF l.len 0 F (by omega) (by omega)
    · rw [decide_eq_false ht, Bool.not_false, pT, if_neg (fun h => ht h.2), if_pos trivial]
  · rw [show (errP c l true != 0) = true by simpa using h0, pT, if_neg (fun h => h0 h.1), if_neg h0]
end Go.Sim.Le


namespace Go.Sim.Le
open Go.Proofs
theorem sumF_add (f g : Nat → Int) : ∀ n, sumF (fun i => f i + g i) n = sumF f n + sumF g n
  | 0 => rfl
  | n + 1 => by simp only [sumF]; rw [sumF_add f g n]; omega
section
variable {c : Cav} (hc : CavOk c) {n : Nat} {l : Nat → Stg} (hl : ∀ i, i < n → StgOk c.slices.len (l i)) {t : Truth} (ht : TruthOk c n t)
include hl in
include hc hl ht
end
variable (F d : Nat)
section
variable {c : Cav} (hc : CavOk c) {l : Sl Stg} (hL : l.len ≤ 8) (hl : ∀ i, i < l.len → StgOk c.slices.len (l.el i)) {t : Truth} (ht : TruthOk c l.len t) (hF : 1000000000 < F)
include hc hL hl ht hF
end
end Go.Sim.Le


namespace Go.Sim.Le
open Go.Proofs
theorem le_bestHi {f : Int → Int} {a : Int} {n : Int} (h1 : a ≤ n) : ∀ j : Nat, n ≤ a + j → f n ≤ bestHi f a j
  | 0, h => by rw [show n = a by omega]; exact Int.le_refl _
  | j + 1, h => by
    simp only [bestHi]
    by_cases h2 : n ≤ a + j
    · have := le_bestHi h1 (f := f) j h2; omega
    · rw [show n = a + ((j + 1 : Nat) : Int) by omega]; omega
theorem bestLo_le {f : Int → Int} {a : Int} {n : Int} (h1 : a ≤ n) : ∀ j : Nat, n ≤ a + j → bestLo f a j ≤ f n
  | 0, h => by rw [show n = a by omega]; exact Int.le_refl _
  | j + 1, h => by
    simp only [bestLo]
    by_cases h2 : n ≤ a + j
    · have := bestLo_le h1 (f := f) j h2; omega
    · rw [show n = a + ((j + 1 : Nat) : Int) by omega]; omega
section
variable {c : Cav} (hc : CavOk c) {s : Stg} (hs : StgOk c.slices.len s)
include hc hs
end
end Go.Sim.Le


namespace Go.Sim.Le
open Go.Proofs
def trueM (c : Cav) (l : Nat → Stg) (t : Truth) (m : Mea) (j : Nat) : Int := sumF (fun i => m.weights.el i * volS c l t j i) c.slices.len + m.sump * sumpS c l t j
theorem timesS_mem {p : Span} {n x : Int} (h1 : p.lo ≤ x) (h2 : x ≤ p.hi) : (timesS p n).lo ≤ n * x ∧ n * x ≤ (timesS p n).hi := by
  unfold timesS
  by_cases h : n < 0
  · rw [if_pos h]
    exact ⟨Int.mul_le_mul_of_nonpos_left (by omega) h2, Int.mul_le_mul_of_nonpos_left (by omega) h1⟩
  · rw [if_neg h]
    exact ⟨Int.mul_le_mul_of_nonneg_left h1 (by omega), Int.mul_le_mul_of_nonneg_left h2 (by omega)⟩
section
variable {c : Cav} (hc : CavOk c) {s : Stg} (hs : StgOk c.slices.len s) (w : Nat → Int) (hw : RatesOk c w)
include hc hs hw
theorem play_rest (m : Mea) : ∀ r, r ≤ pathN s → (restS c m s r (c.hold - (tkT c s w (pathN s - r)).1)).lo ≤ pathSum c s w (gainI c m) (pathN s) - pathSum c s w (gainI c m) (pathN s - r) ∧ pathSum c s w (gainI c m) (pathN s) - pathSum c s w (gainI c m) (pathN s - r) ≤ (restS c m s r (c.hold - (tkT c s w (pathN s - r)).1)).hi := by
  intro r
  induction r with
  | zero => intro _; simp [restS]
  | succ r ih =>
    intro h
    have i := ih (by omega)
    have ho : SpanIn (slAt c s (pathN s - (r + 1))).rate 0 300 := (slcOk_at hc hs (k := pathN s - (r + 1)) (by omega)).2.2.2.1
    unfold SpanIn at ho
    have hin := pathAt_in hs (k := pathN s - (r + 1)) (by omega)
    have hwr : (slAt c s (pathN s - (r + 1))).rate.lo ≤ w (pathAt s (pathN s - (r + 1))).toNat ∧ w (pathAt s (pathN s - (r + 1))).toNat ≤ (slAt c s (pathN s - (r + 1))).rate.hi := hw _ (by omega)
    have hS : pathN s - r = pathN s - (r + 1) + 1 := by omega
    rw [hS] at i
    simp only [pathSum, tkT] at i
    simp only [restS]
    generalize hk : pathN s - (r + 1) = k at *
    have hn : min (w (pathAt s k).toNat) (c.hold - (tkT c s w k).1) = takeN c s w k := rfl
    rw [hn] at i
    have hn1 : min (slAt c s k).rate.lo (c.hold - (tkT c s w k).1) ≤ takeN c s w k := by unfold takeN; omega
    have hn2 : takeN c s w k ≤ min (slAt c s k).rate.hi (c.hold - (tkT c s w k).1) := by unfold takeN; omega
    generalize hg : gainI c m (pathAt s k).toNat = g at *
    rw [show c.hold - ((tkT c s w k).1 + takeN c s w k) = c.hold - (tkT c s w k).1 - takeN c s w k by omega] at i
    generalize hb : c.hold - (tkT c s w k).1 = b at *
    have e1 := le_bestHi (f := fun n => (restS c m s r (b - n)).hi + n * g) hn1 (min (slAt c s k).rate.hi b - min (slAt c s k).rate.lo b).toNat (by omega)
    have e2 := bestLo_le (f := fun n => (restS c m s r (b - n)).lo + n * g) hn1 (min (slAt c s k).rate.hi b - min (slAt c s k).rate.lo b).toNat (by omega)
    rw [Int.mul_comm g] at i
    omega
theorem play_grown (m : Mea) : (grownS c m s).lo ≤ s.water * pathSum c s w (gainI c m) (pathN s) ∧ s.water * pathSum c s w (gainI c m) (pathN s) ≤ (grownS c m s).hi := by
  have h := play_rest hc hs w hw m (pathN s) (Nat.le_refl _)
  rw [Nat.sub_self] at h
  simp only [tkT, pathSum, Int.sub_zero] at h
  unfold grownS
  exact timesS_mem h.1 h.2
end
theorem pathSum_lin {c : Cav} {s : Stg} {w : Nat → Int} (f g : Nat → Int) (x : Int) : ∀ k, pathSum c s w (fun i => f i + g i * x) k = pathSum c s w f k + x * pathSum c s w g k
  | 0 => by simp [pathSum]
  | k + 1 => by
    simp only [pathSum]
    rw [pathSum_lin f g x k, Int.add_mul, Int.mul_add]
    have : g (pathAt s k).toNat * x * takeN c s w k = x * (g (pathAt s k).toNat * takeN c s w k) := by rw [Int.mul_comm (g (pathAt s k).toNat), Int.mul_assoc]
    omega
section
variable {c : Cav} (hc : CavOk c) {n : Nat} {l : Nat → Stg} (hl : ∀ i, i < n → StgOk c.slices.len (l i)) {t : Truth} (ht : TruthOk c n t)
include hl in
theorem true_step (m : Mea) {j : Nat} (hj : j < n) : trueM c l t m (j + 1) = trueM c l t m j + (l j).water * pathSum c (l j) (wK t j) (gainI c m) (pathN (l j)) := by
  have hs := hl j hj
  have e1 : sumF (fun i => m.weights.el i * volS c l t (j + 1) i) c.slices.len = sumF (fun i => m.weights.el i * volS c l t j i) c.slices.len + (l j).water * pathSum c (l j) (wK t j) (fun i => (c.slices.el i).opn * m.weights.el i) (pathN (l j)) := by
    rw [← take_sum hs (wK t j) (fun i => (c.slices.el i).opn * m.weights.el i) (pathN (l j)) (Nat.le_refl _), ← sumF_mul, ← sumF_add]
    refine sumF_cong _ fun i _ => ?_
    simp only [volS, opnF]
    rw [Int.mul_add]
    congr 1
    rw [← Int.mul_assoc, Int.mul_comm (m.weights.el i), Int.mul_assoc]
    simp only [Int.mul_assoc]
  have e2 : pathSum c (l j) (wK t j) (gainI c m) (pathN (l j)) = pathSum c (l j) (wK t j) (fun i => (c.slices.el i).opn * m.weights.el i) (pathN (l j)) + m.sump * pathSum c (l j) (wK t j) (fallF c) (pathN (l j)) := pathSum_lin (fun i => (c.slices.el i).opn * m.weights.el i) (fallF c) m.sump _
  unfold trueM
  rw [e1, e2]
  simp only [sumpS]
  rw [Int.mul_add, Int.mul_add, Int.mul_left_comm m.sump]
  omega
include hc ht in
theorem true_first (m : Mea) : ∀ k, k ≤ c.slices.len → (firstS c m k).lo ≤ sumF (fun i => m.weights.el i * volS c l t 0 i) k ∧ sumF (fun i => m.weights.el i * volS c l t 0 i) k ≤ (firstS c m k).hi
  | 0, _ => by simp [firstS, sumF]
  | k + 1, h => by
    have i := true_first m k (by omega)
    have h1 := ht.2.2.1 k (by rw [ht.1]; omega)
    have h2 := timesS_mem (p := (c.slices.el k).vol) (n := m.weights.el k) h1.1 h1.2
    simp only [firstS, sumF, addS, volS]
    simp only [volS] at i
    omega
include hc hl ht
theorem true_in (m : Mea) : ∀ j, j ≤ n → (boundS c l m j).lo ≤ trueM c l t m j ∧ trueM c l t m j ≤ (boundS c l m j).hi
  | 0, _ => by
    have i := true_first hc ht (l := l) m c.slices.len (Nat.le_refl _)
    simp only [boundS, trueM, sumpS, Int.mul_zero, Int.add_zero]
    exact i
  | j + 1, h => by
    have i := true_in m j (by omega)
    have hg := play_grown hc (hl j (by omega)) (wK t j) (truth_rates ht (by omega)) m
    rw [true_step hl m (by omega)]
    simp only [boundS, addS]
    omega
end
section
variable {c : Cav} (hc : CavOk c) {n : Nat} {l : Nat → Stg} (hl : ∀ i, i < n → StgOk c.slices.len (l i)) {t : Truth} (ht : TruthOk c n t)
include hc hl ht
omit hc hl ht in
end
end Go.Sim.Le


namespace Go.Sim.Le
open Go.Proofs Go.Sim.Gs
variable (F d : Nat)
theorem and3 {a b c : Prop} [Decidable a] [Decidable b] [Decidable c] : (bif decide a then (bif decide b then some (Out.ret (.bool (decide c))) else some (.ret (.bool false))) else some (.ret (.bool false))) = some (.ret (.bool (decide (a ∧ b ∧ c)))) := by
  by_cases h1 : a
  · by_cases h2 : b <;> simp [h1, h2]
  · simp [h1]
theorem and2 {a b : Prop} [Decidable a] [Decidable b] : (bif decide a then some (Out.ret (.bool (decide b))) else some (.ret (.bool false))) = some (.ret (.bool (decide (a ∧ b)))) := by
  by_cases h1 : a <;> simp [h1]
theorem s7023 (x y z : Int) : (E F (d + 1)).pf 44 [.int .i64 x, .int .i64 y, .int .i64 z] = some (.ret (.bool (decide (x ≥ y ∧ x ≤ z)))) := by
  rw [E_pf, t7023, and2]
theorem s7043 (x y z : Int) : (E F (d + 1)).pf 84 [.int .i64 x, .int .i64 y, .int .i64 z] = some (.ret (.bool (decide (x ≥ y ∧ x ≤ z)))) := by
  rw [E_pf, t7043, and2]
theorem s7024 (a b x y : Int) : (E F (d + 1)).pf 45 [.agg [.int .i64 a, .int .i64 b], .int .i64 x, .int .i64 y] = some (.ret (.bool (decide (a ≥ x ∧ a ≤ b ∧ b ≤ y)))) := by
  rw [E_pf, t7024, and3]
theorem s7044 (a b x y : Int) : (E F (d + 1)).pf 85 [.agg [.int .i64 a, .int .i64 b], .int .i64 x, .int .i64 y] = some (.ret (.bool (decide (a ≥ x ∧ a ≤ b ∧ b ≤ y)))) := by
  rw [E_pf, t7044, and3]
theorem s7008 (s : Gst) : (E F (d + 2)).pf 18 [.agg (eGst s)] = some (.ret (.bool (decide (StOk s)))) := by
  rw [E_pf, t7008]
  simp only [s7024, tkOut_ret, tkBool_b]
  unfold StOk SpIn
  by_cases h1 : s.gas.lo ≥ 0 ∧ s.gas.lo ≤ s.gas.hi ∧ s.gas.hi ≤ 1000000
  · rw [decide_eq_true h1, cond_true]
    by_cases h2 : s.hyd.lo ≥ 0 ∧ s.hyd.lo ≤ s.hyd.hi ∧ s.hyd.hi ≤ 1000000
    · rw [decide_eq_true h2, cond_true]
      by_cases h3 : s.heat.lo ≥ 2000 ∧ s.heat.lo ≤ s.heat.hi ∧ s.heat.hi ≤ 5000
      · rw [decide_eq_true h3, cond_true]
        congr 3
        exact decide_eq_decide.2 ⟨fun h => ⟨h1, h2, h3, h⟩, fun h => h.2.2.2⟩
      · rw [decide_eq_false h3, cond_false, decide_eq_false (fun h => h3 h.2.2.1)]
    · rw [decide_eq_false h2, cond_false, decide_eq_false (fun h => h2 h.2.1)]
  · rw [decide_eq_false h1, cond_false, decide_eq_false (fun h => h1 h.1)]
theorem s7026 (s : Gst) : (E F (d + 2)).pf 47 [.agg (eGst s)] = some (.ret (.bool (decide (StOk s)))) := by
  rw [E_pf, t7026]
  simp only [s7044, tkOut_ret, tkBool_b]
  unfold StOk SpIn
  by_cases h1 : s.gas.lo ≥ 0 ∧ s.gas.lo ≤ s.gas.hi ∧ s.gas.hi ≤ 1000000
  · rw [decide_eq_true h1, cond_true]
    by_cases h2 : s.hyd.lo ≥ 0 ∧ s.hyd.lo ≤ s.hyd.hi ∧ s.hyd.hi ≤ 1000000
    · rw [decide_eq_true h2, cond_true]
      by_cases h3 : s.heat.lo ≥ 2000 ∧ s.heat.lo ≤ s.heat.hi ∧ s.heat.hi ≤ 5000
      · rw [decide_eq_true h3, cond_true]
        congr 3
        exact decide_eq_decide.2 ⟨fun h => ⟨h1, h2, h3, h⟩, fun h => h.2.2.2⟩
      · rw [decide_eq_false h3, cond_false, decide_eq_false (fun h => h3 h.2.2.1)]
    · rw [decide_eq_false h2, cond_false, decide_eq_false (fun h => h2 h.2.1)]
  · rw [decide_eq_false h1, cond_false, decide_eq_false (fun h => h1 h.1)]
theorem s7009 (s : Gst) (p : Gpt) : (E F (d + 2)).pf 19 [.agg (eGst s), .agg (eGpt p)] = some (.ret (.bool (decide (HasP s p)))) := by
  rw [E_pf, t7009]
  simp only [s7023, tkOut_ret, tkBool_b]
  unfold HasP
  by_cases h1 : p.gas ≥ s.gas.lo ∧ p.gas ≤ s.gas.hi
  · rw [decide_eq_true h1, cond_true]
    by_cases h2 : p.hyd ≥ s.hyd.lo ∧ p.hyd ≤ s.hyd.hi
    · rw [decide_eq_true h2, cond_true]
      by_cases h3 : p.heat ≥ s.heat.lo ∧ p.heat ≤ s.heat.hi
      · rw [decide_eq_true h3, cond_true]
        congr 3
        exact decide_eq_decide.2 ⟨fun h => ⟨h1, h2, h3, h⟩, fun h => h.2.2.2⟩
      · rw [decide_eq_false h3, cond_false, decide_eq_false (fun h => h3 h.2.2.1)]
    · rw [decide_eq_false h2, cond_false, decide_eq_false (fun h => h2 h.2.1)]
  · rw [decide_eq_false h1, cond_false, decide_eq_false (fun h => h1 h.1)]
end Go.Sim.Le


namespace Go.Sim.Le
open Go.Proofs Go.Sim.Gs
variable (F d : Nat)
theorem nn {a b : Prop} [Decidable a] [Decidable b] {x : Option Out} (h : x = some (.ret (.bool (decide b)))) : (bif (!decide a) then some (.ret (.bool false)) else x) = some (.ret (.bool (decide (a ∧ b)))) := by
  subst h; by_cases h1 : a <;> simp [h1]
theorem yy {a b : Prop} [Decidable a] [Decidable b] {x : Option Out} (h : x = some (.ret (.bool (decide b)))) : (bif decide a then x else some (.ret (.bool false))) = some (.ret (.bool (decide (a ∧ b)))) := by
  subst h; by_cases h1 : a <;> simp [h1]
theorem s7007 (g : Gas) : (E (F + 3) (d + 2)).pf 17 [.agg (eGas g)] = some (.ret (.bool (decide (GasOk g)))) := by
  rw [E_pf, t7007]
  simp only [s7023, s7024, tkOut_ret, tkBool_b]
  refine (nn (nn (nn (nn (yy (yy (yy rfl))))))).trans ?_
  congr 3
  exact decide_eq_decide.2 ⟨fun ⟨h1, h2, h3, h4, h5, h6, h7, h8⟩ => ⟨⟨h1, h2⟩, ⟨h3, h4⟩, h5, h6, h7, h8⟩, fun ⟨⟨h1, h2⟩, ⟨h3, h4⟩, h5, h6, h7, h8⟩ => ⟨h1, h2, h3, h4, h5, h6, h7, h8⟩⟩
theorem s7025 (g : Gas) : (E (F + 3) (d + 2)).pf 46 [.agg (eGas g)] = some (.ret (.bool (decide (GasOk g)))) := by
  rw [E_pf, t7025]
  simp only [s7043, s7044, tkOut_ret, tkBool_b]
  refine (nn (nn (nn (nn (yy (yy (yy rfl))))))).trans ?_
  congr 3
  exact decide_eq_decide.2 ⟨fun ⟨h1, h2, h3, h4, h5, h6, h7, h8⟩ => ⟨⟨h1, h2⟩, ⟨h3, h4⟩, h5, h6, h7, h8⟩, fun ⟨⟨h1, h2⟩, ⟨h3, h4⟩, h5, h6, h7, h8⟩ => ⟨h1, h2, h3, h4, h5, h6, h7, h8⟩⟩
section
variable {g : Gas} (hg : GasOk g)
include hg
theorem wr_force {a h t : Int} (h1 : 0 ≤ a ∧ a ≤ 1000000) (h3 : 0 ≤ h ∧ h ≤ 1000000) (h5 : 0 ≤ t ∧ t ≤ 5000) :
    IntKind.wrap .i64 ((IntKind.wrap .i64 ((IntKind.wrap .i64 ((IntKind.wrap .i64 (a * g.f0)) + (IntKind.wrap .i64 (h * g.f1)))) * t)) * (8314 : Int)) = force g a h t := by
  obtain ⟨b1, b2, b3, b4⟩ := force_big hg h1 h3 h5
  rw [wr (n := a * g.f0) (by omega), wr (n := h * g.f1) (by omega), wr (n := a * g.f0 + h * g.f1) (by omega), wr (n := (a * g.f0 + h * g.f1) * t) (by omega)]
  exact wr (by unfold force at b4; omega)
theorem s7029 (p : Gpt) (h1 : 0 ≤ p.gas ∧ p.gas ≤ 1000000) (h3 : 0 ≤ p.hyd ∧ p.hyd ≤ 1000000) (h5 : 0 ≤ p.heat ∧ p.heat ≤ 5000) : (E F (d + 1)).pf 49 [.agg (eGas g), .agg (eGpt p)] = some (.ret (.int .i64 (force g p.gas p.hyd p.heat))) := by
  rw [E_pf, t7029, wr_force hg h1 h3 h5]
theorem s7046 (p : Gpt) (n : Int) (h1 : 0 ≤ p.gas ∧ p.gas ≤ 1000000) (h3 : 0 ≤ p.hyd ∧ p.hyd ≤ 1000000) (h5 : 0 ≤ p.heat ∧ p.heat ≤ 5000) (hn : 0 ≤ n ∧ n ≤ 1000000) : (E F (d + 1)).pf 87 [.agg (eGas g), .agg (eGpt p), .int .i64 n] = some (.ret (.tup [.int .i64 (force g p.gas p.hyd p.heat), .int .i64 (n * 10000000)])) := by
  rw [E_pf, t7046, wr_force hg h1 h3 h5, wr (n := n * 10000000) (by omega)]
theorem s7012 (p : Gpt) (n : Int) (h1 : 0 ≤ p.gas ∧ p.gas ≤ 1000000) (h3 : 0 ≤ p.hyd ∧ p.hyd ≤ 1000000) (h5 : 0 ≤ p.heat ∧ p.heat ≤ 5000) (hn : 0 ≤ n ∧ n ≤ 1000000) : (E F (d + 2)).pf 21 [.agg (eGas g), .agg (eGpt p), .int .i64 n] = some (.ret (.int .i64 (keepsS g p n))) := by
  rw [E_pf, t7012]
  have q := s7029 F d hg p h1 h3 h5
  simp only [q, tkOut_ret, tkInt_i, decide_true, pT]
  have m1 := mul_mono (show 0 ≤ g.least by omega) (show g.least ≤ 100000 by omega) hn.1 hn.2
  have m2 := mul_mono (show 0 ≤ g.most by omega) (show g.most ≤ 100000 by omega) hn.1 hn.2
  have m3 := mul_mono (show 0 ≤ g.pur.lo by omega) (show g.pur.lo ≤ 1000 by omega) (show 0 ≤ p.gas + p.hyd by omega) (show p.gas + p.hyd ≤ 2000000 by omega)
  have m4 := mul_mono (show 0 ≤ g.pur.hi by omega) (show g.pur.hi ≤ 1000 by omega) (show 0 ≤ p.gas + p.hyd by omega) (show p.gas + p.hyd ≤ 2000000 by omega)
  rw [wr (n := g.least * n) (by omega), wr (n := g.least * n * 10000000) (by omega), wr (n := g.most * n) (by omega), wr (n := g.most * n * 10000000) (by omega), wr (n := 1000 * p.hyd) (by omega), wr (n := p.gas + p.hyd) (by omega), wr (n := g.pur.lo * (p.gas + p.hyd)) (by omega), wr (n := g.pur.hi * (p.gas + p.hyd)) (by omega)]
  unfold keepsS
  by_cases c1 : force g p.gas p.hyd p.heat < g.least * n * 10000000
  · rw [decide_eq_true c1, cond_true, if_pos c1]
  rw [decide_eq_false c1, cond_false, if_neg c1]
  by_cases c2 : force g p.gas p.hyd p.heat > g.most * n * 10000000
  · rw [decide_eq_true c2, cond_true, if_pos c2]
  rw [decide_eq_false c2, cond_false, if_neg c2]
  by_cases c3 : 1000 * p.hyd < g.pur.lo * (p.gas + p.hyd)
  · rw [decide_eq_true c3, cond_true, if_pos c3]
  rw [decide_eq_false c3, cond_false, if_neg c3]
  by_cases c4 : 1000 * p.hyd > g.pur.hi * (p.gas + p.hyd)
  · rw [decide_eq_true c4, cond_true, if_pos c4]
  rw [decide_eq_false c4, cond_false, if_neg c4]
end
end Go.Sim.Le


namespace Go.Sim.Le
open Go.Proofs Go.Sim.Gs
variable (F d : Nat)
theorem tkTup_t {R : Type} (l : List V) (f : R) (k : List V → R) : tkTup (.tup l) f k = k l := Eq.trans (Eq.refl _) (Eq.refl _)
theorem s7048 (x y z : Int) (h : I64 (z * y)) : (E F (d + 1)).pf 89 [.int .i64 x, .int .i64 y, .int .i64 z] = some (.ret (.bool (decide (x < z * y)))) := by
  rw [E_pf, t7048, wr h]
def loP (s : Gst) : Gpt := ⟨s.gas.lo, s.hyd.lo, s.heat.lo, s.water.lo⟩
def hiP (s : Gst) : Gpt := ⟨s.gas.hi, s.hyd.hi, s.heat.hi, s.water.hi⟩
theorem s7047 (s : Gst) : (E F (d + 1)).pf 88 [.agg (eGst s)] = some (.ret (.agg (eGpt (loP s)))) := by
  rw [E_pf, t7047]; rfl
theorem s7050 (s : Gst) : (E F (d + 1)).pf 91 [.agg (eGst s)] = some (.ret (.agg (eGpt (hiP s)))) := by
  rw [E_pf, t7050]; rfl
section
variable {g : Gas} (hg : GasOk g) {s : Gst} (hs : StOk s)
include hg hs
theorem s7045 : (E F (d + 2)).pf 86 [.rptr 1 11 (fun _ => eGas g) 0 0, .rptr 1 8 (fun _ => eGst s) 0 0] = some (.ret (.bool (decide (force g s.gas.lo s.hyd.lo s.heat.lo < g.least * (g.vol.hi * 10000000))))) := by
  have q1 := s7047 F d s
  have q2 := s7046 F d hg (loP s) g.vol.hi (by show 0 ≤ s.gas.lo ∧ _; unfold loP; simp only; omega) (by unfold loP; simp only; omega) (by unfold loP; simp only; omega) (by omega)
  have m1 := mul_mono (show 0 ≤ g.least by omega) (show g.least ≤ 100000 by omega) (show 0 ≤ g.vol.hi by omega) (show g.vol.hi ≤ 1000000 by omega)
  have q3 := s7048 F d (force g s.gas.lo s.hyd.lo s.heat.lo) (g.vol.hi * 10000000) g.least (by rw [← Int.mul_assoc]; omega)
  rw [E_pf, t7045]
  simp only [q1, tkOut_ret, tkAgg_a, tkCons_c, tkInt_i, tkNil_n]
  rw [show ([V.int .i64 (loP s).gas, V.int .i64 (loP s).hyd, V.int .i64 (loP s).heat, V.int .i64 (loP s).water] : List V) = eGpt (loP s) from rfl, q2]
  simp only [tkOut_ret, tkTup_t, tkCons_c, tkInt_i, tkNil_n]
  rw [show (loP s).gas = s.gas.lo from rfl, show (loP s).hyd = s.hyd.lo from rfl, show (loP s).heat = s.heat.lo from rfl, q3]
  simp only [tkOut_ret, tkBool_b]
theorem s7049 : (E F (d + 2)).pf 90 [.rptr 1 11 (fun _ => eGas g) 0 0, .rptr 1 8 (fun _ => eGst s) 0 0] = some (.ret (.bool (decide (-(force g s.gas.hi s.hyd.hi s.heat.hi) < -g.most * (g.vol.lo * 10000000))))) := by
  have q1 := s7050 F d s
  have q2 := s7046 F d hg (hiP s) g.vol.lo (by unfold hiP; simp only; omega) (by unfold hiP; simp only; omega) (by unfold hiP; simp only; omega) (by omega)
  have m1 := mul_mono (show 0 ≤ g.most by omega) (show g.most ≤ 100000 by omega) (show 0 ≤ g.vol.lo by omega) (show g.vol.lo ≤ 1000000 by omega)
  obtain ⟨_, _, _, b4⟩ := force_big hg (a := s.gas.hi) (h := s.hyd.hi) (t := s.heat.hi) (by omega) (by omega) (by omega)
  have q3 := s7048 F d (-force g s.gas.hi s.hyd.hi s.heat.hi) (g.vol.lo * 10000000) (-g.most) (by rw [← Int.mul_assoc, Int.neg_mul]; omega)
  rw [E_pf, t7049]
  simp only [q1, tkOut_ret, tkAgg_a, tkCons_c, tkInt_i, tkNil_n]
  rw [show ([V.int .i64 (hiP s).gas, V.int .i64 (hiP s).hyd, V.int .i64 (hiP s).heat, V.int .i64 (hiP s).water] : List V) = eGpt (hiP s) from rfl, q2]
  simp only [tkOut_ret, tkTup_t, tkCons_c, tkInt_i, tkNil_n]
  rw [show (hiP s).gas = s.gas.hi from rfl, show (hiP s).hyd = s.hyd.hi from rfl, show (hiP s).heat = s.heat.hi from rfl]
  rw [Int.zero_sub, Int.zero_sub, wr (n := -force g s.gas.hi s.hyd.hi s.heat.hi) (by omega), wr (n := -g.most) (by omega), q3]
  simp only [tkOut_ret, tkBool_b]
theorem s7052 : (E F (d + 2)).pf 93 [.agg (eGas g), .agg (eGst s)] = some (.ret (.bool (decide (1000 * s.hyd.lo < g.pur.lo * (s.gas.hi + s.hyd.lo))))) := by
  have m3 := mul_mono (show 0 ≤ g.pur.lo by omega) (show g.pur.lo ≤ 1000 by omega) (show 0 ≤ s.gas.hi + s.hyd.lo by omega) (show s.gas.hi + s.hyd.lo ≤ 2000000 by omega)
  rw [E_pf, t7052, wr (n := 1000 * s.hyd.lo) (by omega), wr (n := s.gas.hi + s.hyd.lo) (by omega), s7048 F d _ _ _ (by omega)]
  simp only [tkOut_ret, tkBool_b]
theorem s7054 : (E F (d + 2)).pf 95 [.agg (eGas g), .agg (eGst s)] = some (.ret (.bool (decide (-1000 * s.hyd.hi < -g.pur.hi * (s.gas.lo + s.hyd.hi))))) := by
  have m3 := mul_mono (show 0 ≤ g.pur.hi by omega) (show g.pur.hi ≤ 1000 by omega) (show 0 ≤ s.gas.lo + s.hyd.hi by omega) (show s.gas.lo + s.hyd.hi ≤ 2000000 by omega)
  rw [E_pf, t7054, wr (n := -1000 * s.hyd.hi) (by omega), wr (n := s.gas.lo + s.hyd.hi) (by omega), Int.zero_sub, wr (n := -g.pur.hi) (by omega), s7048 F d _ _ _ (by rw [Int.neg_mul]; omega)]
  simp only [tkOut_ret, tkBool_b]
theorem s7051 : (E F (d + 3)).pf 92 [.rptr 1 11 (fun _ => eGas g) 0 0, .rptr 1 8 (fun _ => eGst s) 0 0] = some (.ret (.bool (decide (1000 * s.hyd.lo < g.pur.lo * (s.gas.hi + s.hyd.lo))))) := by
  rw [E_pf, t7051]
  simp only [s7052 F d hg hs, tkOut_ret, tkBool_b]
theorem s7053 : (E F (d + 3)).pf 94 [.rptr 1 11 (fun _ => eGas g) 0 0, .rptr 1 8 (fun _ => eGst s) 0 0] = some (.ret (.bool (decide (-1000 * s.hyd.hi < -g.pur.hi * (s.gas.lo + s.hyd.hi))))) := by
  rw [E_pf, t7053]
  simp only [s7054 F d hg hs, tkOut_ret, tkBool_b]
theorem s7027 : (E (F + 5) (d + 4)).pf 48 [.agg (eGas g), .agg (eGst s)] = some (.ret (.int .i64 (ruleS g s))) := by
  rw [E_pf, t7027]
  simp only [s7045 (F + 5) (d + 1) hg hs, s7049 (F + 5) (d + 1) hg hs, s7051 (F + 5) d hg hs, s7053 (F + 5) d hg hs, tkOut_ret, tkBool_b]
  unfold ruleS
  by_cases c1 : force g s.gas.lo s.hyd.lo s.heat.lo < g.least * (g.vol.hi * 10000000)
  · rw [decide_eq_true c1, cond_true, if_pos c1]; rfl
  rw [decide_eq_false c1, cond_false, if_neg c1]
  by_cases c2 : -(force g s.gas.hi s.hyd.hi s.heat.hi) < -g.most * (g.vol.lo * 10000000)
  · rw [decide_eq_true c2, cond_true, if_pos c2]; rfl
  rw [decide_eq_false c2, cond_false, if_neg c2]
  by_cases c3 : 1000 * s.hyd.lo < g.pur.lo * (s.gas.hi + s.hyd.lo)
  · rw [decide_eq_true c3, cond_true, if_pos c3]; rfl
  rw [decide_eq_false c3, cond_false, if_neg c3]
  by_cases c4 : -1000 * s.hyd.hi < -g.pur.hi * (s.gas.lo + s.hyd.hi)
  · rw [decide_eq_true c4, cond_true, if_pos c4]; rfl
  rw [decide_eq_false c4, cond_false, if_neg c4]
theorem s7010 : (E (F + 5) (d + 5)).pf 20 [.agg (eGas g), .agg (eGst s)] = some (.ret (.tup [.int .i64 (ruleS g s), .int .i64 0])) := by
  have q25 := s7025 (F + 2) (d + 2) g
  have q26 := s7026 (F + 5) (d + 2) s
  have q27 := s7027 F d hg hs
  rw [E_pf, t7010]
  simp only [q25, q26, q27, tkOut_ret, tkBool_b, tkInt_i, decide_eq_true hg, decide_eq_true hs, Bool.not_true, pF]
end
end Go.Sim.Le


namespace Go.Sim.Le
open Go.Proofs
variable (F d : Nat)
def onesW (n : Nat) : Sl Int := ⟨false, n, fun _ => 1⟩
def hM (c : Cav) : Mea := ⟨onesW c.slices.len, -1⟩
def hB (c : Cav) (l : Sl Stg) : Span := boundS c l.el (hM c) l.len
abbrev HolOk (c : Cav) (l : Sl Stg) : Prop := c.slices.len ≤ 5 ∧ c.hold ≤ 60 ∧ l.len ≤ 4 ∧ CavOk c ∧ (∀ i, i < l.len → StgOk c.slices.len (l.el i)) ∧ 1000000 ≤ (hB c l).lo ∧ (hB c l).lo ≤ (hB c l).hi ∧ (hB c l).hi ≤ 999999000000
def holS (c : Cav) (l : Sl Stg) : Gs.Sp := ⟨(hB c l).lo / 1000000, ((hB c l).hi + 999999) / 1000000⟩
theorem app_one (k : Nat) : appGet k (fun _ => [V.int .i64 (1 : Int)]) (fun _ => [V.int .i64 (1 : Int)]) = fun _ => [V.int .i64 (1 : Int)] := by
  funext i
  unfold appGet
  split <;> rfl
theorem l7004 (env : Env) (c : Cav) (l : Sl Stg) (hn : c.slices.len ≤ 5) : ∀ (j k fu : Nat), k + j = c.slices.len → j < fu → L7004x1 env F c l fu k (k : Int) k (fun _ => [V.int .i64 (1 : Int)]) = L7004x1 env F c l (fu - j) c.slices.len (c.slices.len : Int) c.slices.len (fun _ => [V.int .i64 (1 : Int)])
  | 0, k, fu, h, _ => by
    obtain rfl : k = c.slices.len := by omega
    rfl
  | j + 1, k, fu, h, hf => by
    obtain ⟨fu, rfl⟩ : ∃ q, fu = q + 1 := ⟨fu - 1, by omega⟩
    rw [L7004x1s, decide_eq_true (show (k : Int) < (c.slices.len : Int) by omega), cond_true, decide_eq_true (show (k + 1) * 8 ≤ 140737488355328 by omega), cond_true, app_one, wr (n := (k : Int) + 1) (by omega)]
    have := l7004 env c l hn j (k + 1) fu (by omega) (by omega)
    rw [show ((k + 1 : Nat) : Int) = (k : Int) + 1 from rfl] at this
    rw [this, show fu + 1 - (j + 1) = fu - j by omega]
theorem s7004 (c : Cav) (l : Sl Stg) (hC : c.slices.len < Big) (hCF : c.slices.len < F) (hL : l.len < Big) (hLF : l.len < F) (hF : 400 < F) :
    (E F (d + 16)).pf 4 [.agg (eCav c), sl eStg 4 l] = some (.ret (.tup (if HolOk c l then [.agg [.int .i64 (holS c l).lo, .int .i64 (holS c l).hi], .bool true] else [.agg [.int .i64 0, .int .i64 0], .bool false]))) := by
  have q27 := s27 F (d + 13) c hC hCF
  have q63 := s63 F (d + 12) c l hC hL hLF
  rw [E_pf, t7004]
  simp only [q27, q63, tkOut_ret, tkBool_b]
  by_cases h1 : c.slices.len ≤ 5
  rotate_left
  · rw [decide_eq_true (show (c.slices.len : Int) > 5 by omega), cond_true, if_neg (fun h => h1 h.1)]
  rw [decide_eq_false (show ¬ (c.slices.len : Int) > 5 by omega), cond_false]
  by_cases h2 : c.hold ≤ 60
  rotate_left
  · rw [decide_eq_true (show c.hold > 60 by omega), cond_true, if_neg (fun h => h2 h.2.1)]
  rw [decide_eq_false (show ¬ c.hold > 60 by omega), cond_false]
  by_cases h3 : l.len ≤ 4
  rotate_left
  · rw [decide_eq_true (show (l.len : Int) > 4 by omega), cond_true, if_neg (fun h => h3 h.2.2.1)]
  rw [decide_eq_false (show ¬ (l.len : Int) > 4 by omega), cond_false]
  by_cases h4 : CavOk c
  rotate_left
  · rw [decide_eq_false h4, Bool.not_false, cond_true, if_neg (fun h => h4 h.2.2.2.1)]
  rw [decide_eq_true h4, Bool.not_true, cond_false]
  by_cases h5 : ∀ i, i < l.len → StgOk c.slices.len (l.el i)
  rotate_left
  · rw [decide_eq_false h5, Bool.not_false, cond_true, if_neg (fun h => h5 h.2.2.2.2.1)]
  rw [decide_eq_true h5, Bool.not_true, cond_false]
  obtain ⟨fu, hfu⟩ : ∃ q, F = q + 8 := ⟨F - 8, by omega⟩
  have q22 := s22 F d c l (onesW c.slices.len) (-1) hC hCF hL hLF hC hCF hF
  have herr : errP c l (decide (WtOk c (onesW c.slices.len) (-1))) = 0 := errP_0.2 ⟨by omega, h4, h5, decide_eq_true ⟨fun i _ => by show -1000 ≤ (1 : Int) ∧ (1 : Int) ≤ 1000; omega, rfl, by omega⟩⟩
  rw [herr, if_pos rfl] at q22
  have hb := bound_in h4 (m := hM c) ⟨rfl, fun i _ => by show -1000 ≤ (1 : Int) ∧ (1 : Int) ≤ 1000; omega, by show -1000 ≤ (-1 : Int); omega, by show (-1 : Int) ≤ 1000; omega⟩ h5 l.len (Nat.le_refl _)
  have hstep : L7004x0 (E F (d + 15)) F c l F = L7004x1 (E F (d + 15)) F c l (fu + 7 - (c.slices.len - 1)) c.slices.len (c.slices.len : Int) c.slices.len (fun _ => [V.int .i64 (1 : Int)]) := by
    have := L7004x0s (E F (d + 15)) F c l (fu + 7)
    rw [show fu + 7 + 1 = F by omega] at this
    rw [this, decide_eq_true (show (0 : Int) < (c.slices.len : Int) by omega), cond_true, Int.zero_add, wr (n := 1) (by omega)]
    exact l7004 F (E F (d + 15)) c l h1 (c.slices.len - 1) 1 (fu + 7) (by omega) (by omega)
  obtain ⟨q, hq⟩ : ∃ q, fu + 7 - (c.slices.len - 1) = q + 1 := ⟨fu + 6 - (c.slices.len - 1), by omega⟩
  rw [hstep, hq, L7004x1s, decide_eq_false (show ¬ (c.slices.len : Int) < (c.slices.len : Int) by omega), cond_false]
  rw [show (V.row false c.slices.len 1 fun _ => [V.int .i64 (1 : Int)]) = sl eInt 1 (onesW c.slices.len) from rfl, q22]
  simp only [tkOut_ret, tkTup_t, tkCons_c, tkAgg_a, tkInt_i, tkNil_n, decide_true, cond_true, bne_self_eq_false, pF]
  rw [show boundS c l.el ⟨onesW c.slices.len, -1⟩ l.len = hB c l from rfl]
  change (_ ≤ (hB c l).lo ∧ (hB c l).lo ≤ _) ∧ (_ ≤ (hB c l).hi ∧ (hB c l).hi ≤ _) at hb
  by_cases h6 : 1000000 ≤ (hB c l).lo
  rotate_left
  · rw [decide_eq_true (show (hB c l).lo < 1000000 by omega), cond_true, if_neg (fun h => h6 h.2.2.2.2.2.1)]
  rw [decide_eq_false (show ¬ (hB c l).lo < 1000000 by omega), cond_false]
  by_cases h7 : (hB c l).lo ≤ (hB c l).hi
  rotate_left
  · rw [decide_eq_true (show (hB c l).lo > (hB c l).hi by omega), cond_true, if_neg (fun h => h7 h.2.2.2.2.2.2.1)]
  rw [decide_eq_false (show ¬ (hB c l).lo > (hB c l).hi by omega), cond_false]
  by_cases h8 : (hB c l).hi ≤ 999999000000
  rotate_left
  · rw [decide_eq_true (show (hB c l).hi > 999999000000 by omega), cond_true, if_neg (fun h => h8 h.2.2.2.2.2.2.2)]
  rw [decide_eq_false (show ¬ (hB c l).hi > 999999000000 by omega), cond_false, if_pos ⟨h1, h2, h3, h4, h5, h6, h7, h8⟩]
  unfold holS
  rw [wr (n := (hB c l).hi + 999999) (by omega), Int.tdiv_eq_ediv_of_nonneg (by omega), Int.tdiv_eq_ediv_of_nonneg (by omega), wr (n := (hB c l).lo / 1000000) (by omega), wr (n := ((hB c l).hi + 999999) / 1000000) (by omega)]
end Go.Sim.Le


namespace Go.Sim.Le
open Go.Proofs
variable (F d : Nat)
def accT (c : Cav) (l : Sl Stg) (t : Truth) (k : Nat) : Int := 0 - sumpS c l.el t l.len + sumF (fun i => volS c l.el t l.len i) k
theorem acc_true (c : Cav) (l : Sl Stg) (t : Truth) : accT c l t c.slices.len = trueM c l.el t (hM c) l.len := by
  unfold accT trueM hM onesW
  simp only [Int.one_mul]
  omega
section
variable {c : Cav} (hc : CavOk c) {l : Sl Stg} (hL : l.len ≤ 4) (hl : ∀ i, i < l.len → StgOk c.slices.len (l.el i)) {t : Truth} (ht : TruthOk c l.len t)
include hc hL hl ht
theorem volT_in {i : Nat} (hi : i < c.slices.len) : 0 ≤ volS c l.el t l.len i ∧ volS c l.el t l.len i ≤ 13600000000000 := by
  have := vol_bd hc hl ht hi l.len (Nat.le_refl _)
  omega
theorem sumpT_in : 0 ≤ sumpS c l.el t l.len ∧ sumpS c l.el t l.len ≤ 3600000000000 := by
  have := (sums_in hc hl ht l.len (Nat.le_refl _)).2.1
  omega
theorem sumVT_in : ∀ k, k ≤ c.slices.len → 0 ≤ sumF (fun i => volS c l.el t l.len i) k ∧ sumF (fun i => volS c l.el t l.len i) k ≤ 13600000000000 * k
  | 0, _ => by simp [sumF]
  | k + 1, h => by
    have i1 := sumVT_in k (by omega)
    have i2 := volT_in hc hL hl ht (i := k) (by omega)
    simp only [sumF]
    omega
theorem l7011 (env : Env) (q7 : IntKind) (i8 : Int) (q9 : IntKind) (i10 : Int) (q11 : IntKind) (i12 : Int) (q13 : IntKind) (i14 : Int) : ∀ (j k fu : Nat), k + j = c.slices.len → j < fu →
    L7011x0 env F c l t fu .i64 (accT c l t k) (k : Int) false c.slices.len 1 (fun i => eInt (volS c l.el t l.len i)) q7 i8 q9 i10 q11 i12 q13 i14 = some (.ret (.int .i64 (accT c l t c.slices.len)))
  | 0, k, fu, h, hf => by
    obtain ⟨fu, rfl⟩ : ∃ q, fu = q + 1 := ⟨fu - 1, by omega⟩
    obtain rfl : k = c.slices.len := by omega
    rw [L7011x0s, decide_eq_false (by omega), cond_false]
  | j + 1, k, fu, h, hf => by
    obtain ⟨fu, rfl⟩ : ∃ q, fu = q + 1 := ⟨fu - 1, by omega⟩
    have hk : k < c.slices.len := by omega
    have h10 := hc.1.2
    have hv := volT_in hc hL hl ht hk
    have hs := sumpT_in hc hL hl ht
    have ha := sumVT_in hc hL hl ht k (by omega)
    rw [L7011x0s]
    simp only [decide_eq_true (show (k : Int) < (c.slices.len : Int) by omega), decide_eq_true (show (0 : Int) ≤ (k : Int) by omega), decide_eq_false (show ¬ (k : Int) > 20 by omega), decide_true, cond_true, cond_false, beq_self_eq_true, tkCons_c, tkInt_i, Int.toNat_natCast,
      decide_eq_false (show ¬ volS c l.el t l.len k < 0 by omega), decide_eq_false (show ¬ volS c l.el t l.len k > 100000000000000 by omega)]
    have e : accT c l t k + volS c l.el t l.len k = accT c l t (k + 1) := by
      unfold accT
      simp only [sumF]
      omega
    have hb : I64 (accT c l t k + volS c l.el t l.len k) := by
      unfold accT
      omega
    rw [wr hb, e, wr (n := (k : Int) + 1) (by omega)]
    exact l7011 env q7 i8 q9 i10 q11 i12 q13 i14 j (k + 1) fu (by omega) (by omega)
theorem s7011 (hC : c.slices.len < Big) (hCF : c.slices.len < F) (hLF : l.len < F) (hT : t.rates.len < Big) (hTF : t.rates.len < F) (hnl : t.vols.nl = true → t.vols.len = 0) (hF : 400 < F) :
    (E F (d + 9)).pf 9 [.agg (eCav c), sl eStg 4 l, .agg (eTruth t)] = some (.ret (.int .i64 (trueM c l.el t (hM c) l.len))) := by
  have q44 := s44 F d c l t hC hCF (by show l.len < Big; omega) hLF hT hTF hnl hF
  rw [if_pos ⟨errP_0.2 ⟨by omega, hc, hl, rfl⟩, ht⟩] at q44
  have hs := sumpT_in hc hL hl ht
  rw [E_pf, t7011, q44]
  unfold endV
  simp only [tkOut_ret, tkTup_t, tkCons_c, tkAgg_a, tkRow_r, tkInt_i, tkNil_n, decide_true, cond_true, bne_self_eq_false, pF,
    decide_eq_false (show ¬ sumpS c l.el t l.len < 0 by omega), decide_eq_false (show ¬ sumpS c l.el t l.len > 100000000000000 by omega)]
  rw [wr (n := 0 - sumpS c l.el t l.len) (by omega)]
  have h10 := hc.1.2
  have := l7011 F hc hL hl ht (E F (d + 8)) .i64 (sumpS c l.el t l.len) .i64 (saltP c l.el t l.len) .i64 (brineS c l.el t l.len) .i64 (outS c l.el t l.len) c.slices.len 0 F (by omega) (by omega)
  rw [show accT c l t 0 = 0 - sumpS c l.el t l.len by unfold accT; simp [sumF]] at this
  rw [← acc_true]
  exact this
end
end Go.Sim.Le


set_option maxRecDepth 100000
namespace Go.Sim.Le
open Go.RowKit Go.Proofs
theorem t7087 (env : Env) (F : Nat) (n0 : Nat) (n1 : Nat) (n2 : Nat) (n3 : Nat) (g0 : Nat → List V) (g1 : Nat → List V) (g2 : Nat → List V) (g3 : Nat → List V) (a : Int) (b : Int) (c : Int) (d : Int) : (evFunH Tryz.prog (cfg F) env 134 [(.optr 0 0 0), (.agg [(.int .i64 a), (.int .i64 b), (.int .i64 c), (.int .i64 d)])] [(.box 204 [(.osl 1 0 n0), (.osl 2 0 n1), (.osl 3 0 n2), (.osl 4 0 n3)] true), (.arr 3 1 n0 g0 true), (.arr 3 1 n1 g1 true), (.arr 3 1 n2 g2 true), (.arr 3 1 n3 g3 true)]) =
  (bif (decide (((n0 + 1) * 8) ≤ 140737488355328)) then (bif (decide (((n1 + 1) * 8) ≤ 140737488355328)) then (bif (decide (((n2 + 1) * 8) ≤ 140737488355328)) then (bif (decide (((n3 + 1) * 8) ≤ 140737488355328)) then some ((.ret (.tup [])), [(.box 204 [(.osl 5 0 (n0 + 1)), (.osl 6 0 (n1 + 1)), (.osl 7 0 (n2 + 1)), (.osl 8 0 (n3 + 1))] true), .dead, .dead, .dead, .dead, (.arr 3 1 (n0 + 1) (appGet n0 g0 (fun u14 => [(.int .i64 a)])) true), (.arr 3 1 (n1 + 1) (appGet n1 g1 (fun u14 => [(.int .i64 b)])) true), (.arr 3 1 (n2 + 1) (appGet n2 g2 (fun u14 => [(.int .i64 c)])) true), (.arr 3 1 (n3 + 1) (appGet n3 g3 (fun u14 => [(.int .i64 d)])) true)])
        else none)
      else none)
    else none)
  else none) := by kernel_rfl
noncomputable def quickHv (e : Env) (f : Nat) (ar : List V) (hp : List Slot) : Option (Out × List Slot) := match ar, hp with
  | [.optr 0 0 0, .agg [.int .i64 a, .int .i64 b, .int .i64 c, .int .i64 d]], [.box 204 [.osl 1 0 n0, .osl 2 0 n1, .osl 3 0 n2, .osl 4 0 n3] true, .arr 3 1 m0 g0 true, .arr 3 1 m1 g1 true, .arr 3 1 m2 g2 true, .arr 3 1 m3 g3 true] =>
      bif Nat.beq f 134 && (Nat.beq n0 m0 && (Nat.beq n1 m1 && (Nat.beq n2 m2 && (Nat.beq n3 m3 && (Nat.blt n0 1000 && (Nat.blt n1 1000 && (Nat.blt n2 1000 && Nat.blt n3 1000))))))) then
        some ((.ret (.tup [])), [(.box 204 [(.osl 5 0 (n0 + 1)), (.osl 6 0 (n1 + 1)), (.osl 7 0 (n2 + 1)), (.osl 8 0 (n3 + 1))] true), .dead, .dead, .dead, .dead, (.arr 3 1 (n0 + 1) (appGet n0 g0 (fun _ => [(.int .i64 a)])) true), (.arr 3 1 (n1 + 1) (appGet n1 g1 (fun _ => [(.int .i64 b)])) true), (.arr 3 1 (n2 + 1) (appGet n2 g2 (fun _ => [(.int .i64 c)])) true), (.arr 3 1 (n3 + 1) (appGet n3 g3 (fun _ => [(.int .i64 d)])) true)])
      else e.hv f ar hp
  | ar, hp => e.hv f ar hp
noncomputable def quick (e : Env) : Env := { e with hv := quickHv e }
theorem cond_or {α : Type} {b : Bool} {x y : α} (h : b = true → x = y) : cond b x y = y := by
  cases b
  · rfl
  · exact h rfl
theorem quick_eq (F d : Nat) : quick (E F (d + 1)) = E F (d + 1) := by
  have h : quickHv (E F (d + 1)) = (E F (d + 1)).hv := by
    funext f ar hp
    unfold quickHv
    split
    · refine cond_or fun hb => ?_
      simp only [Bool.and_eq_true, Nat.blt_eq] at hb
      obtain ⟨e0, e1, e2, e3, e4, h0, h1, h2, h3⟩ := hb
      obtain rfl := Nat.eq_of_beq_eq_true e0
      obtain rfl := Nat.eq_of_beq_eq_true e1
      obtain rfl := Nat.eq_of_beq_eq_true e2
      obtain rfl := Nat.eq_of_beq_eq_true e3
      obtain rfl := Nat.eq_of_beq_eq_true e4
      rw [E_hv, t7087]
      rw [decide_eq_true (by omega), decide_eq_true (by omega), decide_eq_true (by omega), decide_eq_true (by omega)]
      rfl
    · rfl
  unfold quick
  rw [h]
abbrev zI (n : Int) : V := .int .i64 n
abbrev S1 : V := .agg [zI 2000, zI 2100, zI 100, zI 110, zI 3000, zI 3100, zI 50000, zI 60000]
abbrev C1 : V := .agg [zI 1000, zI 1100, zI 2000, zI 9000, zI 900, zI 1000, zI 36, zI 29, zI 3200, zI 0, zI 100]
abbrev O1 : V := .agg [zI 2, zI 0, zI 0, zI 0, zI 0, zI 210, zI 0, zI 0, zI 0, zI 0]
end Go.Sim.Le


set_option maxRecDepth 100000
namespace Go.Sim.Le
open Go.RowKit Go.Proofs
theorem c82 (F d : Nat) : (E (F + 3000) (d + 12)).pf 126 [C1, S1, O1] = some (.ret (.tup [.agg [zI 1800, zI 1900, zI 90, zI 100, zI 3000, zI 3100, zI 45000, zI 54299], .agg [zI 200, zI 201, zI 9, zI 10, zI 4751, zI 6000]])) := by
  rw [E_pf, ← quick_eq]
  kernel_rfl
end Go.Sim.Le


set_option maxRecDepth 100000
namespace Go.Sim.Le
open Go.RowKit Go.Proofs
noncomputable def stepE (F : Nat) (e : Env) : Env := { pf := fun f a => evFun Tryz.prog (cfg F) e f a, hv := fun f a hp => evFunH Tryz.prog (cfg F) e f a hp }
theorem E_step (F d : Nat) : E F (d + 1) = stepE F (E F d) := by kernel_rfl
def i64s : List V → Option (List Int)
  | [] => some []
  | .int .i64 x :: r => (match i64s r with | some l => some (x :: l) | none => none)
  | _ => none
theorem i64s_eq : ∀ (l : List V) (k : List Int), i64s l = some k → l = k.map (V.int .i64)
  | [], k, h => by
    injection h with h; subst h; rfl
  | .int .i64 x :: r, k, h => by
    unfold i64s at h
    split at h
    · rename_i l e
      injection h with h; subst h
      rw [i64s_eq r l e]; rfl
    · cases h
def isInts (l : List V) (k : List Int) : Bool := match i64s l with
  | some m => m == k
  | none => false
theorem isInts_eq {l : List V} {k : List Int} (h : isInts l k = true) : l = k.map (V.int .i64) := by
  unfold isInts at h
  split at h
  · rename_i m e
    rw [i64s_eq _ _ e, eq_of_beq h]
  · cases h
abbrev L1 : V := .agg [zI 1800, zI 1900, zI 90, zI 100, zI 3000, zI 3100, zI 45000, zI 54299]
abbrev G1 : V := .agg [zI 200, zI 201, zI 9, zI 10, zI 4751, zI 6000]
noncomputable def knows82 (e : Env) (f : Nat) (a : List V) : Option Out := match a with
  | [.agg x, .agg y, .agg z] => bif f == 126 && (isInts x [1000, 1100, 2000, 9000, 900, 1000, 36, 29, 3200, 0, 100] && (isInts y [2000, 2100, 100, 110, 3000, 3100, 50000, 60000] && isInts z [2, 0, 0, 0, 0, 210, 0, 0, 0, 0])) then some (.ret (.tup [L1, G1])) else e.pf f a
  | a => e.pf f a
noncomputable def with82 (e : Env) : Env := { e with pf := knows82 e }
theorem with82xeq (F d : Nat) : with82 (E (F + 3000) (d + 12)) = E (F + 3000) (d + 12) := by
  have h : knows82 (E (F + 3000) (d + 12)) = (E (F + 3000) (d + 12)).pf := by
    funext f a
    unfold knows82
    split
    · refine cond_or fun hb => ?_
      simp only [Bool.and_eq_true] at hb
      obtain ⟨e0, e1, e2, e3⟩ := hb
      obtain rfl := eq_of_beq e0
      rw [isInts_eq e1, isInts_eq e2, isInts_eq e3]
      exact (c82 F d).symm
    · rfl
  unfold with82
  rw [h]
theorem c39 (F d : Nat) : (E (F + 3000) (d + 15)).pf 59 [C1, S1, O1] = some (.ret (.tup [L1, G1, .bool true])) := by
  rw [E_pf, E_step, E_step, ← with82xeq]
  kernel_rfl
noncomputable def knows39 (e : Env) (f : Nat) (a : List V) : Option Out := match a with
  | [.agg x, .agg y, .agg z] => bif f == 59 && (isInts x [1000, 1100, 2000, 9000, 900, 1000, 36, 29, 3200, 0, 100] && (isInts y [2000, 2100, 100, 110, 3000, 3100, 50000, 60000] && isInts z [2, 0, 0, 0, 0, 210, 0, 0, 0, 0])) then some (.ret (.tup [L1, G1, .bool true])) else e.pf f a
  | a => e.pf f a
noncomputable def with39 (e : Env) : Env := { e with pf := knows39 e }
theorem with39xeq (F d : Nat) : with39 (E (F + 3000) (d + 15)) = E (F + 3000) (d + 15) := by
  have h : knows39 (E (F + 3000) (d + 15)) = (E (F + 3000) (d + 15)).pf := by
    funext f a
    unfold knows39
    split
    · refine cond_or fun hb => ?_
      simp only [Bool.and_eq_true] at hb
      obtain ⟨e0, e1, e2, e3⟩ := hb
      obtain rfl := eq_of_beq e0
      rw [isInts_eq e1, isInts_eq e2, isInts_eq e3]
      exact (c39 F d).symm
    · rfl
  unfold with39
  rw [h]
theorem c19 (F d : Nat) : (E (F + 3000) (d + 16)).pf 28 [C1, S1, O1] = some (.ret (.tup [L1, G1, zI 0])) := by
  rw [E_pf, ← with39xeq]
  kernel_rfl
end Go.Sim.Le


namespace Go.Sim.Le
open Go.Proofs
variable (F d : Nat)
def D1 : V := .row false 2 3 (fun u201 => (List.take 3 (List.drop ((Min.min u201 1) * 3) [(.int .i64 (0 : Int)), (.bool true), (.int .i64 (2 : Int)), (.int .i64 (0 : Int)), (.bool true), (.int .i64 (2 : Int))])))
set_option maxRecDepth 100000 in
theorem c20 : (E (F + 3000) (d + 5)).pf 29 [] = some (.ret C1) := by kernel_rfl
set_option maxRecDepth 100000 in
theorem c21 : (E (F + 3000) (d + 5)).pf 30 [] = some (.ret S1) := by kernel_rfl
set_option maxRecDepth 100000 in
theorem c22 : (E (F + 3000) (d + 20)).pf 31 [D1, .int .i64 9, .int .i64 1] = some (.ret (.tup [.int .i64 1, .int .i64 0])) := by kernel_rfl
theorem zero3 : (V.row false 3 1 (fun u36 => (List.take 1 (List.drop ((Min.min u36 2) * 1) [(V.int .i64 (0 : Int)), (.int .i64 (0 : Int)), (.int .i64 (0 : Int))])))) = sl eInt 1 (ex3 0 0 0) := by
  refine congrArg (fun g => V.row false 3 1 g) ?_
  funext i
  match i with
  | 0 => rfl
  | 1 => rfl
  | i + 2 => rw [show Min.min (i + 2) 2 = 2 by omega]; rfl
set_option maxRecDepth 100000 in
theorem s7006 : (E (F + 3000) (d + 25)).pf 6 [] = some (.ret (.bool true)) := by
  have hB3 : exC.slices.len < Big := by decide +kernel
  have hF3 : exC.slices.len < F + 3000 := by show 3 < F + 3000; omega
  have q17 := s54 (F + 3000) (d + 23)
  have q18 := s55 (F + 3000) (d + 23)
  have q15 : (E (F + 3000) (d + 24)).pf 24 [.agg (eCav exC), sl eStg 4 ⟨false, 1, fun _ => exB⟩, sl eInt 1 (ex3 0 0 0), .int .i64 1] = _ := s22 (F + 3000) (d + 9) exC ⟨false, 1, fun _ => exB⟩ (ex3 0 0 0) 1 hB3 hF3 (by decide +kernel) (by show 1 < F + 3000; omega) (by decide +kernel) (by show 3 < F + 3000; omega) (by omega)
  have herr : errP exC ⟨false, 1, fun _ => exB⟩ (decide (WtOk exC (ex3 0 0 0) 1)) = 0 := by decide +kernel
  rw [herr, if_pos rfl, show boundS exC (Sl.el ⟨false, 1, fun _ => exB⟩) ⟨ex3 0 0 0, 1⟩ (Sl.len ⟨false, 1, fun _ => exB⟩) = ⟨20000, 45000⟩ from kBound] at q15
  have q20 := c20 F (d + 19)
  have q21 := c21 F (d + 19)
  have q19 : (E (F + 3000) (d + 24)).pf 28 [C1, S1, O1] = _ := c19 F (d + 8)
  have q22 := c22 F (d + 4)
  unfold D1 at q22
  rw [E_pf, t7006]
  simp only [q17, q18, tkOut_ret, tkAgg_a, tkCons_c, tkRow_r, tkInt_i, tkNil_n]
  rw [zero3]
  rw [show ([V.agg [V.row exC.slices.nl exC.slices.len 7 fun i => eSlc (exC.slices.el i), .int .i64 exC.hold, .int .i64 exC.oil], V.row false 1 4 fun _ => [V.int .i64 exB.water, .int .i64 exB.into, .int .i64 exB.out, .int .i64 exB.blanket], sl eInt 1 (ex3 0 0 0), V.int .i64 1] : List V) = [.agg (eCav exC), sl eStg 4 ⟨false, 1, fun _ => exB⟩, sl eInt 1 (ex3 0 0 0), .int .i64 1] from rfl, q15]
  simp only [q20, q21, tkOut_ret, tkTup_t, tkAgg_a, tkCons_c, tkInt_i, tkNil_n]
  rw [q19]
  simp only [tkOut_ret, tkTup_t, tkAgg_a, tkCons_c, tkInt_i, tkNil_n]
  rw [q22]
  simp only [tkOut_ret, tkTup_t, tkAgg_a, tkCons_c, tkInt_i, tkNil_n]
  rfl
end Go.Sim.Le


namespace Go.Sim.Cr
open Go.Sim.Le (cfg E E_pf E_hv)
open Go.Proofs
section
variable {R : Type}
theorem tkOut_ret (v : V) (f : R) (k kp : V → R) : tkOut (some (.ret v)) f k kp = k v := Eq.trans (Eq.refl _) (Eq.refl _)
theorem tkOut_pan (v : V) (f : R) (k kp : V → R) : tkOut (some (.pan v)) f k kp = kp v := Eq.trans (Eq.refl _) (Eq.refl _)
theorem tkBool_b (b : Bool) (f : R) (k : Bool → R) : tkBool (.bool b) f k = k b := Eq.trans (Eq.refl _) (Eq.refl _)
theorem tkInt_i (q : IntKind) (n : Int) (f : R) (k : IntKind → Int → R) : tkInt (.int q n) f k = k q n := Eq.trans (Eq.refl _) (Eq.refl _)
theorem tkAgg_a (l : List V) (f : R) (k : List V → R) : tkAgg (.agg l) f k = k l := Eq.trans (Eq.refl _) (Eq.refl _)
theorem tkTup_t (l : List V) (f : R) (k : List V → R) : tkTup (.tup l) f k = k l := Eq.trans (Eq.refl _) (Eq.refl _)
theorem tkRow_r (a : Bool) (n wd : Nat) (g : Nat → List V) (f : R) (k : Bool → Nat → Nat → (Nat → List V) → R) : tkRow (.row a n wd g) f k = k a n wd g := Eq.trans (Eq.refl _) (Eq.refl _)
theorem tkCons_c (v : V) (l : List V) (f : R) (k : V → List V → R) : tkCons (v :: l) f k = k v l := Eq.trans (Eq.refl _) (Eq.refl _)
theorem tkNil_n (f k : R) : tkNil [] f k = k := Eq.trans (Eq.refl _) (Eq.refl _)
theorem tkIfc_i (t : TypeId) (v : V) (f : R) (k : TypeId → V → R) : tkIfc (.iface t v) f k = k t v := Eq.trans (Eq.refl _) (Eq.refl _)
end
theorem cAnd (a b : Bool) : (bif a then some (Out.ret (.bool b)) else some (.ret (.bool false))) = some (.ret (.bool (a && b))) := by cases a <;> rfl
theorem cNand (a b : Bool) : (bif a then some (Out.ret (.bool false)) else some (.ret (.bool b))) = some (.ret (.bool (!a && b))) := by cases a <;> rfl
theorem cOr (a b : Bool) : (bif a then some (Out.ret (.bool true)) else some (.ret (.bool b))) = some (.ret (.bool (a || b))) := by cases a <;> rfl
theorem wr {n : Int} (h : -9223372036854775808 ≤ n ∧ n ≤ 9223372036854775807) : IntKind.i64.wrap n = n := by rw [IntKind.wrap_i64]; omega
theorem wrS {i : Nat} (h : i < 4611686018427387904) : IntKind.i64.wrap ((i : Int) + 1) = ((i + 1 : Nat) : Int) := by rw [wr (by omega)]; omega
theorem b2 {a b : Bool} (h : a = true ↔ b = true) : a = b := by cases a <;> cases b <;> simp_all
abbrev Big : Nat := 4611686018427387904
abbrev SpanIn (p : Span) (a b : Int) : Prop := a ≤ p.lo ∧ p.lo ≤ p.hi ∧ p.hi ≤ b
abbrev Place (x y : Int) : Prop := (-10000 ≤ x ∧ x ≤ 10000) ∧ -10000 ≤ y ∧ y ≤ 10000
abbrev CavOk (c : Cav) : Prop := Place c.x c.y ∧ SpanIn c.rad 0 200000 ∧ SpanIn c.vol 0 10000000 ∧ (0 ≤ c.rock ∧ c.rock ≤ 50000) ∧ (0 ≤ c.floor ∧ c.floor ≤ 10000000) ∧ SpanIn c.gate 0 50000 ∧ (0 ≤ c.change ∧ c.change ≤ 50000)
abbrev SttOk (x : Stt) : Prop := SpanIn x.rad 0 400000 ∧ SpanIn x.vol 0 10000000 ∧ SpanIn x.lost 0 1000000000
abbrev HouseOk (h : House) : Prop := Place h.x h.y ∧ 0 ≤ h.most ∧ h.most ≤ 1000000
variable (F d : Nat)
theorem s54 (x y z : Int) : (E F (d + 1)).pf 32 [.int .i64 x, .int .i64 y, .int .i64 z] = some (.ret (.bool (decide (y ≤ x ∧ x ≤ z)))) := by
  rw [E_pf, t54]; simp only [cAnd, Bool.decide_and, ge_iff_le]
theorem s72 (x y z : Int) : (E F (d + 1)).pf 63 [.int .i64 x, .int .i64 y, .int .i64 z] = some (.ret (.bool (decide (y ≤ x ∧ x ≤ z)))) := by
  rw [E_pf, t72]; simp only [cAnd, Bool.decide_and, ge_iff_le]
theorem s18 (x y : Int) : (E F (d + 2)).pf 33 [.int .i64 x, .int .i64 y] = some (.ret (.bool (decide (Place x y)))) := by
  rw [E_pf, t18]; simp only [s54, tkOut_ret, tkBool_b, cAnd, Bool.decide_and]
theorem s52 (x y : Int) : (E F (d + 2)).pf 70 [.int .i64 x, .int .i64 y] = some (.ret (.bool (decide (Place x y)))) := by
  rw [E_pf, t52]; simp only [s72, tkOut_ret, tkBool_b, cAnd, Bool.decide_and]
theorem s74 (p : Span) (n : Int) : (E F (d + 1)).pf 81 [.agg (eSpan p), .int .i64 n] = some (.ret (.bool (decide (SpanIn p 0 n)))) := by
  rw [E_pf, t74]; simp only [cAnd, Bool.decide_and, ge_iff_le]
theorem s43 (p : Span) (a n : Int) : (E F (d + 1)).pf 34 [.agg (eSpan p), .int .i64 a, .int .i64 n] = some (.ret (.bool (decide (SpanIn p a n)))) := by
  rw [E_pf, t43]; simp only [cAnd, Bool.decide_and, ge_iff_le]
theorem s55 (p q : Span) : (E F (d + 1)).pf 35 [.agg (eSpan p), .agg (eSpan q)] = some (.ret (.bool (decide (p.lo ≤ q.lo ∧ p.hi ≤ q.hi)))) := by
  rw [E_pf, t55]; simp only [cAnd, Bool.decide_and, ge_iff_le]
theorem s107 (p q : Span) : (E F (d + 1)).pf 107 [.agg (eSpan p), .agg (eSpan q)] = some (.ret (.bool (decide (q.lo ≤ p.lo ∧ q.hi ≤ p.hi)))) := by
  rw [E_pf, t107]; simp only [cAnd, Bool.decide_and, ge_iff_le]
theorem s79 (c : Cav) : (E F (d + 3)).pf 65 [.agg (eCav c)] = some (.ret (.bool (decide (CavOk c)))) := by
  rw [E_pf, t79]; simp only [s72, s52, s74, tkOut_ret, tkBool_b, cAnd, Bool.decide_and]
theorem s81 (x c : Cav) : (E F (d + 1)).pf 67 [.agg (eCav x), .rptr 1 11 (fun _ => eCav c) 0 0] = some (.ret (.bool (decide (x.x = c.x ∧ x.y = c.y)))) := by
  rw [E_pf, t81]; simp only [cAnd, Bool.decide_and, ge_iff_le]; rfl
theorem s83 (h : House) : (E F (d + 3)).pf 69 [.agg (eHouse h)] = some (.ret (.bool (!decide (HouseOk h)))) := by
  rw [E_pf, t83]; simp only [s52, s72, tkOut_ret, tkBool_b, cOr, Bool.decide_and, Bool.not_and]
theorem s86 (x : Stt) : (E F (d + 2)).pf 77 [.agg (eStt x)] = some (.ret (.bool (decide (SttOk x)))) := by
  rw [E_pf, t86]; simp only [s74, tkOut_ret, tkBool_b, cAnd, Bool.decide_and]
theorem s85 (x : Stt) : (E F (d + 3)).pf 76 [.agg (eStt x)] = some (.ret (.bool (!decide (SttOk x)))) := by
  rw [E_pf, t85]; simp only [s86, tkOut_ret, tkBool_b]
theorem s89 (p : Span) (m : Int) : (E F (d + 2)).pf 80 [.agg (eSpan p), .rptr 1 1 (fun _ => [.int .i64 m]) 0 0] = some (.ret (.bool (!decide (SpanIn p 0 m)))) := by
  rw [E_pf, t89]; simp only [s74, tkOut_ret, tkBool_b]
def ixF (p : Nat → Bool) : Nat → Nat → Int
  | 0, _ => -1
  | n + 1, i => bif p i then (i : Int) else ixF p n (i + 1)
theorem ixF_ge (p : Nat → Bool) : ∀ n i, 0 ≤ ixF p n i ↔ ∃ k, i ≤ k ∧ k < i + n ∧ p k = true := by
  intro n
  induction n with
  | zero => intro i; simp only [ixF]; constructor <;> intro h
            · omega
            · obtain ⟨k, h1, h2, _⟩ := h; omega
  | succ n ih =>
    intro i
    simp only [ixF]
    cases h : p i
    · rw [cond_false, ih]
      constructor
      · rintro ⟨k, h1, h2, h3⟩; exact ⟨k, by omega, by omega, h3⟩
      · rintro ⟨k, h1, h2, h3⟩
        refine ⟨k, ?_, by omega, h3⟩
        rcases Nat.eq_or_lt_of_le h1 with rfl | h4
        · rw [h] at h3; cases h3
        · omega
    · rw [cond_true]
      exact ⟨fun _ => ⟨i, by omega, by omega, h⟩, fun _ => by omega⟩
theorem l108 (l : Sl Cav) (c : Cav) (hB : l.len < Big) : ∀ n i fu, l.len = i + n → n < fu →
    L108x0 (E F (d + 1)) F l c fu (i : Int) = some (.ret (.int .i64 (ixF (fun k => decide ((l.el k).x = c.x ∧ (l.el k).y = c.y)) n i))) := by
  intro n
  induction n with
  | zero =>
    intro i fu h hf
    obtain ⟨fu, rfl⟩ : ∃ k, fu = k + 1 := ⟨fu - 1, by omega⟩
    rw [L108x0s]
    simp only [Int.ofNat_lt, show ¬ i < l.len by omega, decide_false, cond_false, ixF]
  | succ n ih =>
    intro i fu h hf
    obtain ⟨fu, rfl⟩ : ∃ k, fu = k + 1 := ⟨fu - 1, by omega⟩
    rw [L108x0s]
    simp only [Int.ofNat_lt, show i < l.len by omega, decide_true, cond_true, Int.natCast_nonneg, Int.toNat_natCast, s81, tkOut_ret, tkBool_b, wrS (show i < Big by omega), ih (i + 1) fu (by omega) (by omega), ixF]
    cases decide ((l.el i).x = c.x ∧ (l.el i).y = c.y) <;> rfl
end Go.Sim.Cr


namespace Go.Sim.Cr
open Go.Sim.Le (cfg E E_pf E_hv)
open Go.Proofs
variable (F d : Nat)
theorem b3 {a b : Bool} (h : a = b) : some (Out.ret (.bool a)) = some (.ret (.bool b)) := by rw [h]
theorem ge0 (p : Nat → Bool) (n : Nat) : (!decide (0 ≤ ixF p n 0)) = decide (∀ i, i < n → p i = false) := by
  apply b2
  rw [Bool.not_eq_true', decide_eq_false_iff_not, decide_eq_true_iff, ixF_ge]
  constructor
  · intro h i hi
    cases hp : p i
    · rfl
    · exact (h ⟨i, by omega, by omega, hp⟩).elim
  · rintro h ⟨k, _, h2, h3⟩
    rw [h k (by omega)] at h3; cases h3
theorem l109 (l : Sl House) (hB : l.len < Big) : ∀ n i fu, l.len = i + n → n < fu →
    L109x0 (E F (d + 3)) F l fu (i : Int) = some (.ret (.int .i64 (ixF (fun k => !decide (HouseOk (l.el k))) n i))) := by
  intro n
  induction n with
  | zero =>
    intro i fu h hf
    obtain ⟨fu, rfl⟩ : ∃ k, fu = k + 1 := ⟨fu - 1, by omega⟩
    rw [L109x0s]
    simp only [Int.ofNat_lt, show ¬ i < l.len by omega, decide_false, cond_false, ixF]
  | succ n ih =>
    intro i fu h hf
    obtain ⟨fu, rfl⟩ : ∃ k, fu = k + 1 := ⟨fu - 1, by omega⟩
    rw [L109x0s]
    simp only [Int.ofNat_lt, show i < l.len by omega, decide_true, cond_true, Int.natCast_nonneg, Int.toNat_natCast, s83, tkOut_ret, tkBool_b, wrS (show i < Big by omega), ih (i + 1) fu (by omega) (by omega), ixF]
    cases decide (HouseOk (l.el i)) <;> rfl
theorem l110 (l : Sl Stt) (hB : l.len < Big) : ∀ n i fu, l.len = i + n → n < fu →
    L110x0 (E F (d + 3)) F l fu (i : Int) = some (.ret (.int .i64 (ixF (fun k => !decide (SttOk (l.el k))) n i))) := by
  intro n
  induction n with
  | zero =>
    intro i fu h hf
    obtain ⟨fu, rfl⟩ : ∃ k, fu = k + 1 := ⟨fu - 1, by omega⟩
    rw [L110x0s]
    simp only [Int.ofNat_lt, show ¬ i < l.len by omega, decide_false, cond_false, ixF]
  | succ n ih =>
    intro i fu h hf
    obtain ⟨fu, rfl⟩ : ∃ k, fu = k + 1 := ⟨fu - 1, by omega⟩
    rw [L110x0s]
    simp only [Int.ofNat_lt, show i < l.len by omega, decide_true, cond_true, Int.natCast_nonneg, Int.toNat_natCast, s85, tkOut_ret, tkBool_b, wrS (show i < Big by omega), ih (i + 1) fu (by omega) (by omega), ixF]
    cases decide (SttOk (l.el i)) <;> rfl
theorem l111 (l : Sl Span) (m : Int) (hB : l.len < Big) : ∀ n i fu, l.len = i + n → n < fu →
    L111x0 (E F (d + 2)) F l m fu (i : Int) = some (.ret (.int .i64 (ixF (fun k => !decide (SpanIn (l.el k) 0 m)) n i))) := by
  intro n
  induction n with
  | zero =>
    intro i fu h hf
    obtain ⟨fu, rfl⟩ : ∃ k, fu = k + 1 := ⟨fu - 1, by omega⟩
    rw [L111x0s]
    simp only [Int.ofNat_lt, show ¬ i < l.len by omega, decide_false, cond_false, ixF]
  | succ n ih =>
    intro i fu h hf
    obtain ⟨fu, rfl⟩ : ∃ k, fu = k + 1 := ⟨fu - 1, by omega⟩
    rw [L111x0s]
    simp only [Int.ofNat_lt, show i < l.len by omega, decide_true, cond_true, Int.natCast_nonneg, Int.toNat_natCast, s89, tkOut_ret, tkBool_b, wrS (show i < Big by omega), ih (i + 1) fu (by omega) (by omega), ixF]
    cases decide (SpanIn (l.el i) 0 m) <;> rfl
theorem s80 (l : Sl Cav) (c : Cav) (hB : l.len < Big) (hF : l.len < F) : (E F (d + 3)).pf 66 [sl eCav 11 l, .fn (.func 67) [] [.rptr 1 11 (fun _ => eCav c) 0 0]] = some (.ret (.bool (!decide (∀ i, i < l.len → ¬ ((l.el i).x = c.x ∧ (l.el i).y = c.y))))) := by
  rw [E_pf, t80, E_pf, t108, show L108x0 (E F (d + 1)) F l c F 0 = _ from l108 F d l c hB l.len 0 F (by omega) hF]
  simp only [tkOut_ret, tkInt_i, decide_true, cond_true, ge_iff_le]
  refine b3 (Bool.not_inj ?_)
  rw [Bool.not_not]
  exact (ge0 _ _).trans (by simp only [decide_eq_false_iff_not])
theorem s82 (l : Sl House) (hB : l.len < Big) (hF : l.len < F) : (E F (d + 5)).pf 68 [sl eHouse 3 l, .fn (.func 69) [] []] = some (.ret (.bool (!decide (∀ i, i < l.len → HouseOk (l.el i))))) := by
  rw [E_pf, t82, E_pf, t109, show L109x0 (E F (d + 3)) F l F 0 = _ from l109 F d l hB l.len 0 F (by omega) hF]
  simp only [tkOut_ret, tkInt_i, decide_true, cond_true, ge_iff_le]
  refine b3 (Bool.not_inj ?_)
  rw [Bool.not_not]
  exact (ge0 _ _).trans (by simp only [Bool.not_eq_false', decide_eq_true_eq])
theorem s84 (l : Sl Stt) (hB : l.len < Big) (hF : l.len < F) : (E F (d + 5)).pf 75 [sl eStt 6 l, .fn (.func 76) [] []] = some (.ret (.bool (!decide (∀ i, i < l.len → SttOk (l.el i))))) := by
  rw [E_pf, t84, E_pf, t110, show L110x0 (E F (d + 3)) F l F 0 = _ from l110 F d l hB l.len 0 F (by omega) hF]
  simp only [tkOut_ret, tkInt_i, decide_true, cond_true, ge_iff_le]
  refine b3 (Bool.not_inj ?_)
  rw [Bool.not_not]
  exact (ge0 _ _).trans (by simp only [Bool.not_eq_false', decide_eq_true_eq])
theorem s88 (l : Sl Span) (m : Int) (hB : l.len < Big) (hF : l.len < F) : (E F (d + 4)).pf 79 [sl eSpan 2 l, .fn (.func 80) [] [.rptr 1 1 (fun _ => [.int .i64 m]) 0 0]] = some (.ret (.bool (!decide (∀ i, i < l.len → SpanIn (l.el i) 0 m)))) := by
  rw [E_pf, t88, E_pf, t111, show L111x0 (E F (d + 2)) F l m F 0 = _ from l111 F d l m hB l.len 0 F (by omega) hF]
  simp only [tkOut_ret, tkInt_i, decide_true, cond_true, ge_iff_le]
  refine b3 (Bool.not_inj ?_)
  rw [Bool.not_not]
  exact (ge0 _ _).trans (by simp only [Bool.not_eq_false', decide_eq_true_eq])
abbrev StatesOk (s : Site) (l : Sl Stt) : Prop := l.len = s.cavs.len ∧ ∀ i, i < l.len → SttOk (l.el i)
abbrev DayOk (s : Site) (d : Day) : Prop := (d.press.len = s.cavs.len ∧ ∀ i, i < d.press.len → SpanIn (d.press.el i) 0 50000) ∧ d.warm.len = s.cavs.len ∧ ∀ i, i < d.warm.len → SpanIn (d.warm.el i) 0 10000
theorem beqN (a b : Nat) : (((a : Nat) : Int) == ((b : Nat) : Int)) = decide (a = b) := by
  apply b2; simp only [beq_iff_eq, decide_eq_true_eq]; omega
theorem s49 (s : Site) (l : Sl Stt) (hB : l.len < Big) (hF : l.len < F) : (E F (d + 6)).pf 39 [.agg (eSite s), sl eStt 6 l] = some (.ret (.bool (decide (StatesOk s l)))) := by
  rw [E_pf, t49]
  simp only [s84 F _ l hB hF, tkOut_ret, tkBool_b, Bool.not_not, cAnd, beqN, Bool.decide_and]
theorem s87 (l : Sl Span) (m : Int) (s : Site) (hB : l.len < Big) (hF : l.len < F) : (E F (d + 5)).pf 78 [sl eSpan 2 l, .int .i64 m, pSite s] = some (.ret (.bool (decide (l.len = s.cavs.len ∧ ∀ i, i < l.len → SpanIn (l.el i) 0 m)))) := by
  rw [E_pf, t87]
  simp only [s88 F _ l m hB hF, tkOut_ret, tkBool_b, Bool.not_not, cAnd, beqN, Bool.decide_and]
theorem s50 (s : Site) (y : Day) (hB : y.press.len < Big) (hB' : y.warm.len < Big) (hF : y.press.len < F) (hF' : y.warm.len < F) : (E F (d + 6)).pf 40 [.agg (eSite s), .agg (eDay y)] = some (.ret (.bool (decide (DayOk s y)))) := by
  rw [E_pf, t50]
  simp only [Nat.reduceAdd, s87 F _ y.press _ s hB hF, s87 F _ y.warm _ s hB' hF', tkOut_ret, tkBool_b, cAnd, Bool.decide_and]
end Go.Sim.Cr


namespace Go.Sim.Cr
open Go.Sim.Le (cfg E E_pf E_hv)
open Go.Proofs
variable (F d : Nat)
def allF (p : Nat → Bool) (z : Bool) : Nat → Nat → Bool
  | 0, _ => z
  | n + 1, i => p i && allF p z n (i + 1)
theorem allF_eq (p : Nat → Bool) (z : Bool) : ∀ n i, allF p z n i = true ↔ (∀ k, i ≤ k → k < i + n → p k = true) ∧ z = true := by
  intro n
  induction n with
  | zero => intro i; simp only [allF]; exact ⟨fun h => ⟨fun k h1 h2 => by omega, h⟩, fun h => h.2⟩
  | succ n ih =>
    intro i
    simp only [allF, Bool.and_eq_true, ih]
    constructor
    · rintro ⟨h1, h2, h3⟩
      refine ⟨fun k h4 h5 => ?_, h3⟩
      rcases Nat.eq_or_lt_of_le h4 with rfl | h6
      · exact h1
      · exact h2 k (by omega) (by omega)
    · rintro ⟨h1, h2⟩
      exact ⟨h1 i (by omega) (by omega), fun k h3 h4 => h1 k (by omega) (by omega), h2⟩
theorem allF_0 (p : Nat → Bool) (z : Bool) (n : Nat) : allF p z n 0 = true ↔ (∀ k, k < n → p k = true) ∧ z = true := by
  rw [allF_eq]
  exact ⟨fun h => ⟨fun k hk => h.1 k (by omega) (by omega), h.2⟩, fun h => ⟨fun k _ hk => h.1 k (by omega), h.2⟩⟩
theorem l20 (s : Site) (y : Day) (hp : y.press.len = s.cavs.len) (hw : y.warm.len = s.cavs.len) (hB : s.cavs.len < Big) : ∀ n i fu, s.cavs.len = i + n → n < fu →
    L20x0 (E F (d + 1)) F s y fu (i : Int) = some (.ret (.bool (allF (fun k => decide (SpanIn (y.press.el k) 0 50000 ∧ SpanIn (y.warm.el k) 0 10000)) true n i))) := by
  intro n
  induction n with
  | zero =>
    intro i fu h hf
    obtain ⟨fu, rfl⟩ : ∃ k, fu = k + 1 := ⟨fu - 1, by omega⟩
    rw [L20x0s]
    simp only [Int.ofNat_lt, show ¬ i < s.cavs.len by omega, decide_false, cond_false, allF]
  | succ n ih =>
    intro i fu h hf
    obtain ⟨fu, rfl⟩ : ∃ k, fu = k + 1 := ⟨fu - 1, by omega⟩
    rw [L20x0s]
    simp only [Int.ofNat_lt, hp, hw, show i < s.cavs.len by omega, decide_true, cond_true, Int.natCast_nonneg, Int.toNat_natCast, s43, tkOut_ret, tkBool_b, wrS (show i < Big by omega), ih (i + 1) fu (by omega) (by omega), allF, cNand, Bool.not_not]
    refine b3 ?_
    simp only [Bool.decide_and, Bool.and_assoc]
theorem bneN (a b : Nat) : (((a : Nat) : Int) != ((b : Nat) : Int)) = !decide (a = b) := by rw [bne, beqN]
theorem s20 (s : Site) (y : Day) (hB : s.cavs.len < Big) (hF : s.cavs.len < F) : (E F (d + 2)).pf 10 [.agg (eSite s), .agg (eDay y)] = some (.ret (.bool (decide (DayOk s y)))) := by
  rw [E_pf, t20]
  by_cases hp : y.press.len = s.cavs.len
  · by_cases hw : y.warm.len = s.cavs.len
    · rw [show L20x0 (E F (d + 1)) F s y F 0 = _ from l20 F d s y hp hw hB s.cavs.len 0 F (by omega) hF]
      simp only [bneN, hp, hw, decide_true, Bool.not_true, cond_false]
      refine b3 (b2 ?_)
      rw [allF_0, decide_eq_true_iff]
      constructor
      · rintro ⟨h, _⟩
        exact ⟨⟨hp, fun i hi => (of_decide_eq_true (h i (by omega))).1⟩, hw, fun i hi => (of_decide_eq_true (h i (by omega))).2⟩
      · rintro ⟨⟨_, h1⟩, _, h2⟩
        exact ⟨fun k hk => decide_eq_true ⟨h1 k (by omega), h2 k (by omega)⟩, rfl⟩
    · simp only [bneN, hp, hw, decide_true, decide_false, Bool.not_true, Bool.not_false, cond_false, cond_true]
      exact b3 (decide_eq_false fun h => hw h.2.1).symm
  · simp only [bneN, hp, decide_false, Bool.not_false, cond_true]
    exact b3 (decide_eq_false fun h => hp h.1.1).symm
theorem beqI (a b : Int) : (a == b) = decide (a = b) := rfl
end Go.Sim.Cr


namespace Go.Sim.Cr
open Go.Sim.Le (cfg E E_pf E_hv)
open Go.Proofs
variable (F d : Nat)
theorem mulB {a b A B : Int} (ha : 0 ≤ a ∧ a ≤ A) (hb : 0 ≤ b ∧ b ≤ B) : 0 ≤ a * b ∧ a * b ≤ A * B :=
  ⟨Int.mul_nonneg ha.1 hb.1, Int.mul_le_mul ha.2 hb.2 hb.1 (Int.le_trans ha.1 ha.2)⟩
abbrev zSpan : Span := ⟨0, 0⟩
theorem mid_wr {i j : Int} (h1 : -2305843009213693952 ≤ i) (h2 : i ≤ j) (h3 : j ≤ 2305843009213693952) : IntKind.i64.wrap (i + IntKind.i64.wrap (Int.tdiv (IntKind.i64.wrap (j - i)) 2)) = i + (j - i) / 2 := by
  rw [wr (show _ ∧ j - i ≤ _ by omega), Int.tdiv_eq_ediv_of_nonneg (by omega), wr (show _ ∧ (j - i) / 2 ≤ _ by omega), wr (by omega)]
theorem firstLaw (L : Nat → Int → Int → Option Out) (p : Int → Bool) (lo hi : Int)
    (hstep : ∀ fu i j, lo ≤ i → i ≤ j → j ≤ hi → L (fu + 1) i j = bif decide (i < j) then (bif p (i + (j - i) / 2) then L fu i (i + (j - i) / 2) else L fu (i + (j - i) / 2 + 1) j) else some (.ret (.int .i64 i))) :
    ∀ k fu i j, (j - i).toNat ≤ k → k < fu → lo ≤ i → i ≤ j → j ≤ hi → ∃ r, L fu i j = some (.ret (.int .i64 r)) ∧ i ≤ r ∧ r ≤ j ∧ (r < j → p r = true) ∧ (i < r → p (r - 1) = false) := by
  intro k
  induction k with
  | zero =>
    intro fu i j h hf h1 h2 h3
    obtain ⟨fu, rfl⟩ : ∃ k, fu = k + 1 := ⟨fu - 1, by omega⟩
    refine ⟨i, ?_, by omega, by omega, fun h => by omega, fun h => by omega⟩
    rw [hstep _ _ _ h1 h2 h3, decide_eq_false (by omega), cond_false]
  | succ k ih =>
    intro fu i j h hf h1 h2 h3
    obtain ⟨fu, rfl⟩ : ∃ k, fu = k + 1 := ⟨fu - 1, by omega⟩
    by_cases hij : i < j
    · rw [hstep _ _ _ h1 h2 h3, decide_eq_true hij, cond_true]
      cases hp : p (i + (j - i) / 2)
      · rw [cond_false]
        obtain ⟨r, e, r1, r2, r3, r4⟩ := ih fu (i + (j - i) / 2 + 1) j (by omega) (by omega) (by omega) (by omega) (by omega)
        refine ⟨r, e, by omega, r2, r3, fun _ => ?_⟩
        rcases Int.lt_or_eq_of_le r1 with hlt | heq
        · exact r4 hlt
        · rw [← heq, show i + (j - i) / 2 + 1 - 1 = i + (j - i) / 2 by omega]; exact hp
      · rw [cond_true]
        obtain ⟨r, e, r1, r2, r3, r4⟩ := ih fu i (i + (j - i) / 2) (by omega) (by omega) (by omega) (by omega) (by omega)
        refine ⟨r, e, r1, by omega, fun _ => ?_, r4⟩
        rcases Int.lt_or_eq_of_le r2 with hlt | heq
        · exact r3 hlt
        · rw [heq]; exact hp
    · refine ⟨i, ?_, by omega, by omega, fun h => by omega, fun h => by omega⟩
      rw [hstep _ _ _ h1 h2 h3, decide_eq_false hij, cond_false]
end Go.Sim.Cr


namespace Go.Sim.Cr
open Go.Sim.Le (cfg E E_pf E_hv)
open Go.Proofs
variable (F d : Nat)
def rowStep (s : Site) : Nat → Bool
  | 0 => decide ((s.rows.el 0).deficit = 0)
  | j + 1 => decide ((s.rows.el j).deficit < (s.rows.el (j + 1)).deficit) && (decide ((s.rows.el j).rate.lo ≤ (s.rows.el (j + 1)).rate.lo ∧ (s.rows.el j).rate.hi ≤ (s.rows.el (j + 1)).rate.hi) &&
      decide ((s.rows.el j).spall.lo ≤ (s.rows.el (j + 1)).spall.lo ∧ (s.rows.el j).spall.hi ≤ (s.rows.el (j + 1)).spall.hi))
def rowB (s : Site) (i : Nat) : Bool := decide (0 ≤ (s.rows.el i).deficit ∧ (s.rows.el i).deficit ≤ 50000) && (decide (SpanIn (s.rows.el i).rate 0 100000) && (decide (SpanIn (s.rows.el i).spall 0 1000) && rowStep s i))
def heatStep (s : Site) : Nat → Bool
  | 0 => true
  | j + 1 => decide ((s.heats.el j).warmth < (s.heats.el (j + 1)).warmth) && decide ((s.heats.el j).factor.lo ≤ (s.heats.el (j + 1)).factor.lo ∧ (s.heats.el j).factor.hi ≤ (s.heats.el (j + 1)).factor.hi)
def heatB (s : Site) (i : Nat) : Bool := decide (0 ≤ (s.heats.el i).warmth ∧ (s.heats.el i).warmth ≤ 10000) && (decide (SpanIn (s.heats.el i).factor 0 10000) && heatStep s i)
def ringStep (s : Site) : Nat → Bool
  | 0 => true
  | j + 1 => decide ((s.rings.el j).away < (s.rings.el (j + 1)).away)
def ringB (s : Site) (i : Nat) : Bool := decide (0 ≤ (s.rings.el i).away ∧ (s.rings.el i).away ≤ 40000) && (decide (SpanIn (s.rings.el i).share 0 1000000) && ringStep s i)
def lens (s : Site) : Bool := decide ((1 ≤ s.rows.len ∧ s.rows.len ≤ 8) ∧ (1 ≤ s.heats.len ∧ s.heats.len ≤ 8) ∧ s.rings.len ≤ 8)
def tablesB (s : Site) : Bool := allF (rowB s) (allF (heatB s) (allF (ringB s) (lens s) s.rings.len 0) s.heats.len 0) s.rows.len 0
theorem wrP (j : Nat) (h : j < Big) : IntKind.i64.wrap (((j + 1 : Nat) : Int) - 1) = (j : Int) := by
  have h' : j < 4611686018427387904 := h
  rw [wr (by omega)]; omega
theorem nle (a b : Int) : (!decide (a ≤ b)) = decide (b < a) := by apply b2; simp only [Bool.not_eq_true', decide_eq_false_iff_not, decide_eq_true_iff]; omega
theorem l78x2 (s : Site) (hB : s.rings.len < Big) : ∀ n i fu, s.rings.len = i + n → n < fu →
    L78x2 (E F (d + 1)) F s fu (i : Int) = some (.ret (.bool (allF (ringB s) (lens s) n i))) := by
  intro n
  induction n with
  | zero =>
    intro i fu h hf
    obtain ⟨fu, rfl⟩ : ∃ k, fu = k + 1 := ⟨fu - 1, by omega⟩
    rw [L78x2s]
    simp only [Int.ofNat_lt, show ¬ i < s.rings.len by omega, decide_false, cond_false, allF, s72, tkOut_ret, tkBool_b, cAnd]
    refine b3 ?_
    unfold lens
    simp only [Bool.decide_and, Bool.and_assoc, show ∀ k : Nat, ((1 : Int) ≤ (k : Int)) ↔ 1 ≤ k by omega, show ∀ k : Nat, ((k : Int) ≤ 8) ↔ k ≤ 8 by omega]
  | succ n ih =>
    intro i fu h hf
    obtain ⟨fu, rfl⟩ : ∃ k, fu = k + 1 := ⟨fu - 1, by omega⟩
    rw [L78x2s]
    match i with
    | 0 =>
      simp only [Int.ofNat_lt, show 0 < s.rings.len by omega, decide_true, cond_true, Int.natCast_nonneg, Int.toNat_natCast, s72, s74, tkOut_ret, tkBool_b, wrS (show 0 < Big by omega), ih (0 + 1) fu (by omega) (by omega), allF, cNand, Bool.not_not, ringB, ringStep, gt_iff_lt, Bool.and_true, Bool.and_assoc]
      simp only [show decide ((0 : Int) < ((0 : Nat) : Int)) = false from rfl, cond_false, cNand, Bool.not_not]
    | j + 1 =>
      simp only [Int.ofNat_lt, show j + 1 < s.rings.len by omega, show j < s.rings.len by omega, decide_true, cond_true, Int.natCast_nonneg, Int.toNat_natCast, s72, s74, tkOut_ret, tkBool_b, wrS (show j + 1 < Big by omega), wrP j (by omega), ih (j + 1 + 1) fu (by omega) (by omega), allF, cNand, Bool.not_not, ringB, ringStep, gt_iff_lt, show (0 : Int) < ((j + 1 : Nat) : Int) by omega, nle, Bool.and_assoc]
theorem l78x1 (s : Site) (hB : s.heats.len < Big) (hB2 : s.rings.len < Big) (hF2 : s.rings.len < F) : ∀ n i fu, s.heats.len = i + n → n < fu →
    L78x1 (E F (d + 1)) F s fu (i : Int) = some (.ret (.bool (allF (heatB s) (allF (ringB s) (lens s) s.rings.len 0) n i))) := by
  intro n
  induction n with
  | zero =>
    intro i fu h hf
    obtain ⟨fu, rfl⟩ : ∃ k, fu = k + 1 := ⟨fu - 1, by omega⟩
    rw [L78x1s]
    simp only [Int.ofNat_lt, show ¬ i < s.heats.len by omega, decide_false, cond_false, allF]
    exact l78x2 F d s hB2 s.rings.len 0 F (by omega) hF2
  | succ n ih =>
    intro i fu h hf
    obtain ⟨fu, rfl⟩ : ∃ k, fu = k + 1 := ⟨fu - 1, by omega⟩
    rw [L78x1s]
    match i with
    | 0 =>
      simp only [Int.ofNat_lt, show 0 < s.heats.len by omega, decide_true, cond_true, Int.natCast_nonneg, Int.toNat_natCast, s72, s74, tkOut_ret, tkBool_b, wrS (show 0 < Big by omega), ih (0 + 1) fu (by omega) (by omega), allF, cNand, Bool.not_not, heatB, heatStep, gt_iff_lt, Bool.and_true, Bool.and_assoc]
      simp only [show decide ((0 : Int) < ((0 : Nat) : Int)) = false from rfl, cond_false, cNand, Bool.not_not]
    | j + 1 =>
      simp only [Int.ofNat_lt, show j + 1 < s.heats.len by omega, show j < s.heats.len by omega, decide_true, cond_true, Int.natCast_nonneg, Int.toNat_natCast, s72, s74, s107, tkOut_ret, tkBool_b, wrS (show j + 1 < Big by omega), wrP j (by omega), ih (j + 1 + 1) fu (by omega) (by omega), allF, cNand, Bool.not_not, heatB, heatStep, gt_iff_lt, show (0 : Int) < ((j + 1 : Nat) : Int) by omega, nle, Bool.and_assoc]
theorem l78x0 (s : Site) (hB0 : s.rows.len < Big) (hB : s.heats.len < Big) (hF : s.heats.len < F) (hB2 : s.rings.len < Big) (hF2 : s.rings.len < F) : ∀ n i fu, s.rows.len = i + n → n < fu →
    L78x0 (E F (d + 1)) F s fu (i : Int) = some (.ret (.bool (allF (rowB s) (allF (heatB s) (allF (ringB s) (lens s) s.rings.len 0) s.heats.len 0) n i))) := by
  intro n
  induction n with
  | zero =>
    intro i fu h hf
    obtain ⟨fu, rfl⟩ : ∃ k, fu = k + 1 := ⟨fu - 1, by omega⟩
    rw [L78x0s]
    simp only [Int.ofNat_lt, show ¬ i < s.rows.len by omega, decide_false, cond_false, allF]
    exact l78x1 F d s hB hB2 hF2 s.heats.len 0 F (by omega) hF
  | succ n ih =>
    intro i fu h hf
    obtain ⟨fu, rfl⟩ : ∃ k, fu = k + 1 := ⟨fu - 1, by omega⟩
    rw [L78x0s]
    match i with
    | 0 =>
      simp only [Int.ofNat_lt, show 0 < s.rows.len by omega, decide_true, cond_true, Int.natCast_nonneg, Int.toNat_natCast, s72, s74, tkOut_ret, tkBool_b, wrS (show 0 < Big by omega), ih (0 + 1) fu (by omega) (by omega), allF, cNand, Bool.not_not, rowB, rowStep, gt_iff_lt, Bool.and_assoc]
      simp only [show decide ((0 : Int) < ((0 : Nat) : Int)) = false from rfl, show (((0 : Nat) : Int) == 0) = true from rfl, cond_false, cond_true, cNand, Bool.not_not, bne, beqI]
    | j + 1 =>
      simp only [Int.ofNat_lt, show j + 1 < s.rows.len by omega, show j < s.rows.len by omega, decide_true, cond_true, Int.natCast_nonneg, Int.toNat_natCast, s72, s74, s107, tkOut_ret, tkBool_b, wrS (show j + 1 < Big by omega), wrP j (by omega), ih (j + 1 + 1) fu (by omega) (by omega), allF, cNand, Bool.not_not, rowB, rowStep, gt_iff_lt, show (0 : Int) < ((j + 1 : Nat) : Int) by omega, nle, Bool.and_assoc,
        show (((j + 1 : Nat) : Int) == 0) = false from beq_eq_false_iff_ne.2 (by omega), cond_false]
theorem s78 (s : Site) (hB0 : s.rows.len < Big) (hF0 : s.rows.len < F) (hB : s.heats.len < Big) (hF : s.heats.len < F) (hB2 : s.rings.len < Big) (hF2 : s.rings.len < F) :
    (E F (d + 2)).pf 64 [.agg (eSite s)] = some (.ret (.bool (tablesB s))) := by
  rw [E_pf, t78]
  exact l78x0 F d s hB0 hB hF hB2 hF2 s.rows.len 0 F (by omega) hF0
def cavB (s : Site) (i : Nat) : Bool := decide (CavOk (s.cavs.el i)) && decide (∀ k, k < i → ¬ ((s.cavs.el k).x = (s.cavs.el i).x ∧ (s.cavs.el k).y = (s.cavs.el i).y))
def housesB (s : Site) : Bool := decide (∀ i, i < s.houses.len → HouseOk (s.houses.el i))
structure Small (s : Site) (F : Nat) : Prop where
  cavs : s.cavs.len < Big
  rows : s.rows.len < Big
  heats : s.heats.len < Big
  rings : s.rings.len < Big
  houses : s.houses.len < Big
  cavsF : s.cavs.len < F
  rowsF : s.rows.len < F
  heatsF : s.heats.len < F
  ringsF : s.rings.len < F
  housesF : s.houses.len < F
def siteB (s : Site) : Bool := decide (1 ≤ s.cavs.len ∧ s.cavs.len ≤ 5) && (tablesB s && (decide (0 ≤ s.wall ∧ s.wall ≤ 1000000) && (decide (s.houses.len ≤ 5) && allF (cavB s) (housesB s) s.cavs.len 0)))
theorem l48 (s : Site) (hs : Small s F) : ∀ n i fu, s.cavs.len = i + n → n < fu →
    L48x0 (E F (d + 5)) F s fu (i : Int) = some (.ret (.bool (allF (cavB s) (housesB s) n i))) := by
  intro n
  induction n with
  | zero =>
    intro i fu h hf
    obtain ⟨fu, rfl⟩ : ∃ k, fu = k + 1 := ⟨fu - 1, by omega⟩
    rw [L48x0s]
    simp only [Int.ofNat_lt, show ¬ i < s.cavs.len by omega, decide_false, cond_false, allF, s82 F d s.houses hs.houses hs.housesF, tkOut_ret, tkBool_b, Bool.not_not, housesB]
  | succ n ih =>
    intro i fu h hf
    obtain ⟨fu, rfl⟩ : ∃ k, fu = k + 1 := ⟨fu - 1, by omega⟩
    rw [L48x0s]
    have h80 := s80 F (d + 2) ⟨s.cavs.nl, i, s.cavs.el⟩ (s.cavs.el i) (by show i < Big; have := hs.cavs; omega) (by show i < F; have := hs.cavsF; omega)
    simp only [Nat.add_assoc, Nat.reduceAdd] at h80
    have hb := hs.cavs
    simp only [Int.ofNat_lt, show i < s.cavs.len by omega, decide_true, cond_true, Int.natCast_nonneg, Int.toNat_natCast, s79, tkOut_ret, tkBool_b, wrS (show i < Big by omega), ih (i + 1) fu (by omega) (by omega), allF, cNand, Bool.not_not, Bool.true_or, Nat.zero_le, show i ≤ s.cavs.len by omega, Nat.sub_zero, h80, cavB, Bool.and_assoc]
theorem s48 (s : Site) (hs : Small s F) : (E F (d + 6)).pf 36 [.agg (eSite s)] = some (.ret (.bool (siteB s))) := by
  rw [E_pf, t48, show L48x0 (E F (d + 5)) F s F 0 = _ from l48 F d s hs s.cavs.len 0 F (by omega) hs.cavsF]
  simp only [s72, s78 F (d + 3) s hs.rows hs.rowsF hs.heats hs.heatsF hs.rings hs.ringsF, tkOut_ret, tkBool_b, cNand, Bool.not_not]
  refine b3 ?_
  simp only [siteB, Bool.and_assoc, Bool.decide_and, show ∀ k : Nat, ((1 : Int) ≤ (k : Int)) ↔ 1 ≤ k by omega, show ∀ k : Nat, ((k : Int) ≤ 5) ↔ k ≤ 5 by omega, gt_iff_lt, show ∀ k : Nat, ((5 : Int) < (k : Int)) ↔ ¬ k ≤ 5 by omega, decide_not, Bool.not_not]
end Go.Sim.Cr


namespace Go.Sim.Cr
open Go.Sim.Le (cfg E E_pf E_hv)
open Go.Proofs
variable (F d : Nat)
structure SiteF (s : Site) : Prop where
  cavs1 : 1 ≤ s.cavs.len
  cavs5 : s.cavs.len ≤ 5
  cav : ∀ i, i < s.cavs.len → CavOk (s.cavs.el i)
  apart : ∀ i k, i < s.cavs.len → k < i → ¬ ((s.cavs.el k).x = (s.cavs.el i).x ∧ (s.cavs.el k).y = (s.cavs.el i).y)
  wall : 0 ≤ s.wall ∧ s.wall ≤ 1000000
  houses5 : s.houses.len ≤ 5
  house : ∀ i, i < s.houses.len → HouseOk (s.houses.el i)
  row : ∀ i, i < s.rows.len → rowB s i = true
  heat : ∀ i, i < s.heats.len → heatB s i = true
  ring : ∀ i, i < s.rings.len → ringB s i = true
  rows1 : 1 ≤ s.rows.len
  rows8 : s.rows.len ≤ 8
  heats1 : 1 ≤ s.heats.len
  heats8 : s.heats.len ≤ 8
  rings8 : s.rings.len ≤ 8
theorem siteB_iff (s : Site) : siteB s = true ↔ SiteF s := by
  simp only [siteB, tablesB, lens, cavB, housesB, Bool.and_eq_true, allF_0, decide_eq_true_iff]
  constructor
  · rintro ⟨⟨h1, h2⟩, ⟨h3, h4, h5, ⟨h6, h7⟩, ⟨h8, h9⟩, h10⟩, h11, h12, h13, h14⟩
    exact ⟨h1, h2, fun i hi => (h13 i hi).1, fun i k hi hk => (h13 i hi).2 k hk, h11, h12, h14, h3, h4, h5, h6, h7, h8, h9, h10⟩
  · intro h
    exact ⟨⟨h.cavs1, h.cavs5⟩, ⟨h.row, h.heat, h.ring, ⟨h.rows1, h.rows8⟩, ⟨h.heats1, h.heats8⟩, h.rings8⟩, h.wall, h.houses5, fun k hk => ⟨h.cav k hk, fun j hj => h.apart k j hk hj⟩, h.house⟩
end Go.Sim.Cr


namespace Go.Sim.Cr
open Go.Sim.Le (cfg E E_pf E_hv)
open Go.Proofs
variable (F d : Nat)
abbrev Inc (num : Nat → Int) (n : Nat) : Prop := ∀ i, i + 1 < n → num i < num (i + 1)
theorem Inc.lt {num : Nat → Int} {n : Nat} (h : Inc num n) : ∀ {j i : Nat}, i < j → j < n → num i < num j := by
  intro j
  induction j with
  | zero => intro i h1; omega
  | succ j ih =>
    intro i h1 h2
    have h3 := h j h2
    by_cases h4 : i = j
    · subst h4; exact h3
    · have := @ih i (by omega) (by omega); omega
def lastIx (num : Nat → Int) (x : Int) : Nat → Nat
  | 0 => 0
  | n + 1 => bif decide (num n ≤ x) then n else lastIx num x n
def firstIx (num : Nat → Int) (x : Int) : Nat → Nat → Nat
  | 0, i => i
  | n + 1, i => bif decide (x ≤ num i) then i else firstIx num x n (i + 1)
theorem lastIx_eq {num : Nat → Int} {x : Int} : ∀ {n i : Nat}, i < n → num i ≤ x → (∀ j, i < j → j < n → x < num j) → lastIx num x n = i := by
  intro n
  induction n with
  | zero => intro i h; omega
  | succ n ih =>
    intro i h1 h2 h3
    by_cases h4 : i = n
    · subst h4; rw [lastIx, decide_eq_true h2, cond_true]
    · rw [lastIx, decide_eq_false (by have := h3 n (by omega) (by omega); omega), cond_false]
      exact ih (by omega) h2 fun j h5 h6 => h3 j h5 (by omega)
theorem lastIx_ok {num : Nat → Int} {x : Int} : ∀ {n : Nat}, 0 < n → num 0 ≤ x → lastIx num x n < n ∧ num (lastIx num x n) ≤ x ∧ ∀ j, lastIx num x n < j → j < n → x < num j := by
  intro n
  induction n with
  | zero => intro h; omega
  | succ n ih =>
    intro _ h0
    by_cases h : num n ≤ x
    · rw [lastIx, decide_eq_true h, cond_true]
      exact ⟨by omega, h, fun j h1 h2 => by omega⟩
    · rw [lastIx, decide_eq_false h, cond_false]
      have hn : 0 < n := by
        rcases Nat.eq_zero_or_pos n with rfl | h
        · exact (h h0).elim
        · exact h
      obtain ⟨h1, h2, h3⟩ := ih hn h0
      refine ⟨by omega, h2, fun j h4 h5 => ?_⟩
      by_cases h6 : j = n
      · subst h6; omega
      · exact h3 j h4 (by omega)
theorem firstIx_eq {num : Nat → Int} {x : Int} : ∀ {n i k : Nat}, i ≤ k → k < i + n → x ≤ num k → (∀ j, i ≤ j → j < k → num j < x) → firstIx num x n i = k := by
  intro n
  induction n with
  | zero => intro i k h1 h2; omega
  | succ n ih =>
    intro i k h1 h2 h3 h4
    by_cases h5 : i = k
    · subst h5; rw [firstIx, decide_eq_true h3, cond_true]
    · rw [firstIx, decide_eq_false (by have := h4 i (by omega) (by omega); omega), cond_false]
      exact ih (by omega) (by omega) h3 fun j h6 h7 => h4 j (by omega) h7
theorem firstIx_ok {num : Nat → Int} {x : Int} : ∀ {n i : Nat}, 0 < n → x ≤ num (i + n - 1) → i ≤ firstIx num x n i ∧ firstIx num x n i < i + n ∧ x ≤ num (firstIx num x n i) ∧ ∀ j, i ≤ j → j < firstIx num x n i → num j < x := by
  intro n
  induction n with
  | zero => intro i h; omega
  | succ n ih =>
    intro i _ h0
    by_cases h : x ≤ num i
    · rw [firstIx, decide_eq_true h, cond_true]
      exact ⟨by omega, by omega, h, fun j h1 h2 => by omega⟩
    · rw [firstIx, decide_eq_false h, cond_false]
      have hn : 0 < n := by
        rcases Nat.eq_zero_or_pos n with rfl | h'
        · rw [show i + (0 + 1) - 1 = i by omega] at h0; exact (h h0).elim
        · exact h'
      obtain ⟨h1, h2, h3, h4⟩ := @ih (i + 1) hn (by rw [show i + 1 + n - 1 = i + (n + 1) - 1 by omega]; exact h0)
      refine ⟨by omega, by omega, h3, fun j h5 h6 => ?_⟩
      by_cases h7 : j = i
      · subst h7; omega
      · exact h4 j (by omega) h6
def offB (num : Nat → Int) (n : Nat) (lo hi : Int) : Bool := decide (lo < num 0) || decide (num (n - 1) < hi)
abbrev rowN (s : Site) : Nat → Int := fun i => (s.rows.el i).deficit
theorem s117 (s : Site) (i : Int) (h0 : 0 ≤ i) (h1 : i < (s.rows.len : Int)) : (E F (d + 1)).pf 129 [.int .i64 i, .rptr 1 1 (fun _ => [pSite s]) 0 0] = some (.ret (.int .i64 (rowN s i.toNat))) := by
  rw [E_pf, t117, decide_eq_true h0, decide_eq_true h1]; rfl
theorem s1191 (s : Site) (i lo : Int) (h0 : 0 ≤ i) (h1 : i < (s.rows.len : Int)) : (E F (d + 2)).pf 140 [.int .i64 i, .rptr 1 1 (fun _ => [cMap 129 s]) 0 0, .rptr 1 1 (fun _ => [.int .i64 lo]) 0 0] = some (.ret (.bool (decide (lo < rowN s i.toNat)))) := by
  rw [E_pf, t1191, s117 F d s i h0 h1]; rfl
theorem s1201 (s : Site) (i hi : Int) (h0 : 0 ≤ i) (h1 : i < (s.rows.len : Int)) : (E F (d + 2)).pf 141 [.int .i64 i, .rptr 1 1 (fun _ => [cMap 129 s]) 0 0, .rptr 1 1 (fun _ => [.int .i64 hi]) 0 0] = some (.ret (.bool (decide (hi ≤ rowN s i.toNat)))) := by
  rw [E_pf, t1201, s117 F d s i h0 h1]; rfl
theorem s7621 (s : Site) (lo : Int) (h1 : 1 ≤ s.rows.len) (h8 : s.rows.len ≤ 8) (hF : 8 < F) : ∃ r, (E F (d + 3)).pf 139 [.int .i64 0, .int .i64 (s.rows.len : Int), .fn (.func 140) [] [.rptr 1 1 (fun _ => [cMap 129 s]) 0 0, .rptr 1 1 (fun _ => [.int .i64 lo]) 0 0]] = some (.ret (.int .i64 r)) ∧
    0 ≤ r ∧ r ≤ (s.rows.len : Int) ∧ (r < (s.rows.len : Int) → lo < rowN s r.toNat) ∧ (0 < r → rowN s (r - 1).toNat ≤ lo) := by
  obtain ⟨r, e, r1, r2, r3, r4⟩ := firstLaw (fun fu i j => L7621x0 (E F (d + 2)) F 0 (s.rows.len : Int) lo s fu i j) (fun x => decide (lo < rowN s x.toNat)) 0 (s.rows.len : Int) (by
    intro fu i j a1 a2 a3
    rw [L7621x0s]
    by_cases hij : i < j
    · simp only [mid_wr (show -2305843009213693952 ≤ i by omega) a2 (by omega), wr (show _ ∧ i + (j - i) / 2 + 1 ≤ _ by omega), s1191 F d s (i + (j - i) / 2) lo (by omega) (by omega), tkOut_ret, tkBool_b]
    · simp only [hij, decide_false, cond_false]) 8 F 0 (s.rows.len : Int) (by omega) (by omega) (by omega) (by omega) (by omega)
  refine ⟨r, ?_, r1, r2, fun h => of_decide_eq_true (r3 h), fun h => ?_⟩
  · rw [E_pf, t7621]; exact e
  · have := of_decide_eq_false (r4 h); omega
theorem s7631 (s : Site) (hi : Int) (h1 : 1 ≤ s.rows.len) (h8 : s.rows.len ≤ 8) (hF : 8 < F) : ∃ r, (E F (d + 3)).pf 139 [.int .i64 0, .int .i64 (s.rows.len : Int), .fn (.func 141) [] [.rptr 1 1 (fun _ => [cMap 129 s]) 0 0, .rptr 1 1 (fun _ => [.int .i64 hi]) 0 0]] = some (.ret (.int .i64 r)) ∧
    0 ≤ r ∧ r ≤ (s.rows.len : Int) ∧ (r < (s.rows.len : Int) → hi ≤ rowN s r.toNat) ∧ (0 < r → rowN s (r - 1).toNat < hi) := by
  obtain ⟨r, e, r1, r2, r3, r4⟩ := firstLaw (fun fu i j => L7631x0 (E F (d + 2)) F 0 (s.rows.len : Int) hi s fu i j) (fun x => decide (hi ≤ rowN s x.toNat)) 0 (s.rows.len : Int) (by
    intro fu i j a1 a2 a3
    rw [L7631x0s]
    by_cases hij : i < j
    · simp only [mid_wr (show -2305843009213693952 ≤ i by omega) a2 (by omega), wr (show _ ∧ i + (j - i) / 2 + 1 ≤ _ by omega), s1201 F d s (i + (j - i) / 2) hi (by omega) (by omega), tkOut_ret, tkBool_b]
    · simp only [hij, decide_false, cond_false]) 8 F 0 (s.rows.len : Int) (by omega) (by omega) (by omega) (by omega) (by omega)
  refine ⟨r, ?_, r1, r2, fun h => of_decide_eq_true (r3 h), fun h => ?_⟩
  · rw [E_pf, t7631]; exact e
  · have := of_decide_eq_false (r4 h); omega
theorem s1161 (s : Site) (lo hi : Int) (hm : Inc (rowN s) s.rows.len) (h1 : 1 ≤ s.rows.len) (h8 : s.rows.len ≤ 8) (hF : 8 < F) : (E F (d + 4)).pf 128 [.int .i64 (s.rows.len : Int), cMap 129 s, .int .i64 lo, .int .i64 hi] =
    some (bif offB (rowN s) s.rows.len lo hi then .pan (.iface 160 (.agg [.int .i64 lo])) else .ret (.tup [.int .i64 (lastIx (rowN s) lo s.rows.len : Int), .int .i64 (firstIx (rowN s) hi s.rows.len 0 : Int)])) := by
  obtain ⟨r, e, r1, r2, r3, r4⟩ := s7621 F d s lo h1 h8 hF
  obtain ⟨q, e', q1, q2, q3, q4⟩ := s7631 F d s hi h1 h8 hF
  have z1 : r = 0 ↔ lo < rowN s 0 := by
    constructor
    · intro h; have := r3 (by omega); rw [h] at this; exact this
    · intro h
      rcases Int.lt_or_eq_of_le r1 with h2 | h2
      · have h3 := r4 h2
        by_cases h4 : (r - 1).toNat = 0
        · rw [h4] at h3; omega
        · have := hm.lt (show 0 < (r - 1).toNat by omega) (by omega); omega
      · exact h2.symm
  have z2 : 0 < r → r - 1 = (lastIx (rowN s) lo s.rows.len : Int) := by
    intro h
    have := lastIx_eq (n := s.rows.len) (i := (r - 1).toNat) (by omega) (r4 h) fun j h2 h3 => by
      have h4 := r3 (by omega)
      rcases Nat.lt_or_ge r.toNat j with h5 | h5
      · have := hm.lt h5 h3; omega
      · rw [show j = r.toNat by omega]; exact h4
    omega
  have z3 : q = (s.rows.len : Int) ↔ rowN s (s.rows.len - 1) < hi := by
    constructor
    · intro h; have := q4 (by omega); rw [show (q - 1).toNat = s.rows.len - 1 by omega] at this; exact this
    · intro h
      rcases Int.lt_or_eq_of_le q2 with h2 | h2
      · have h3 := q3 h2
        by_cases h4 : q.toNat = s.rows.len - 1
        · rw [h4] at h3; omega
        · have := hm.lt (show q.toNat < s.rows.len - 1 by omega) (by omega); omega
      · exact h2
  have z4 : q < (s.rows.len : Int) → q = (firstIx (rowN s) hi s.rows.len 0 : Int) := by
    intro h
    have := firstIx_eq (n := s.rows.len) (i := 0) (k := q.toNat) (by omega) (by omega) (q3 h) fun j _ h3 => by
      have h4 := q4 (by omega)
      rcases Nat.lt_or_ge j (q - 1).toNat with h5 | h5
      · have := hm.lt h5 (by omega); omega
      · rw [show j = (q - 1).toNat by omega]; exact h4
    omega
  rw [E_pf, t1161]
  simp only [e, e', tkOut_ret, tkInt_i, decide_true, cond_true, wr (show _ ∧ r - 1 ≤ _ by omega)]
  unfold offB
  by_cases a1 : lo < rowN s 0
  · rw [decide_eq_true a1, decide_eq_true (show r - 1 < 0 by have := z1.2 a1; omega)]; rfl
  · rw [decide_eq_false a1, decide_eq_false (show ¬ r - 1 < 0 by have := mt z1.1 a1; omega), Bool.false_or, cond_false]
    by_cases a2 : rowN s (s.rows.len - 1) < hi
    · rw [decide_eq_true a2, show (q == (s.rows.len : Int)) = true from beq_iff_eq.2 (z3.2 a2)]; rfl
    · rw [decide_eq_false a2, show (q == (s.rows.len : Int)) = false from beq_eq_false_iff_ne.2 (mt z3.1 a2), z2 (by have := mt z1.1 a1; omega), ← z4 (by have := mt z3.1 a2; omega)]; rfl
abbrev heatN (s : Site) : Nat → Int := fun i => (s.heats.el i).warmth
theorem s118 (s : Site) (i : Int) (h0 : 0 ≤ i) (h1 : i < (s.heats.len : Int)) : (E F (d + 1)).pf 130 [.int .i64 i, .rptr 1 1 (fun _ => [pSite s]) 0 0] = some (.ret (.int .i64 (heatN s i.toNat))) := by
  rw [E_pf, t118, decide_eq_true h0, decide_eq_true h1]; rfl
theorem s1192 (s : Site) (i lo : Int) (h0 : 0 ≤ i) (h1 : i < (s.heats.len : Int)) : (E F (d + 2)).pf 140 [.int .i64 i, .rptr 1 1 (fun _ => [cMap 130 s]) 0 0, .rptr 1 1 (fun _ => [.int .i64 lo]) 0 0] = some (.ret (.bool (decide (lo < heatN s i.toNat)))) := by
  rw [E_pf, t1192, s118 F d s i h0 h1]; rfl
theorem s1202 (s : Site) (i hi : Int) (h0 : 0 ≤ i) (h1 : i < (s.heats.len : Int)) : (E F (d + 2)).pf 141 [.int .i64 i, .rptr 1 1 (fun _ => [cMap 130 s]) 0 0, .rptr 1 1 (fun _ => [.int .i64 hi]) 0 0] = some (.ret (.bool (decide (hi ≤ heatN s i.toNat)))) := by
  rw [E_pf, t1202, s118 F d s i h0 h1]; rfl
theorem s7622 (s : Site) (lo : Int) (h1 : 1 ≤ s.heats.len) (h8 : s.heats.len ≤ 8) (hF : 8 < F) : ∃ r, (E F (d + 3)).pf 139 [.int .i64 0, .int .i64 (s.heats.len : Int), .fn (.func 140) [] [.rptr 1 1 (fun _ => [cMap 130 s]) 0 0, .rptr 1 1 (fun _ => [.int .i64 lo]) 0 0]] = some (.ret (.int .i64 r)) ∧
    0 ≤ r ∧ r ≤ (s.heats.len : Int) ∧ (r < (s.heats.len : Int) → lo < heatN s r.toNat) ∧ (0 < r → heatN s (r - 1).toNat ≤ lo) := by
  obtain ⟨r, e, r1, r2, r3, r4⟩ := firstLaw (fun fu i j => L7622x0 (E F (d + 2)) F 0 (s.heats.len : Int) lo s fu i j) (fun x => decide (lo < heatN s x.toNat)) 0 (s.heats.len : Int) (by
    intro fu i j a1 a2 a3
    rw [L7622x0s]
    by_cases hij : i < j
    · simp only [mid_wr (show -2305843009213693952 ≤ i by omega) a2 (by omega), wr (show _ ∧ i + (j - i) / 2 + 1 ≤ _ by omega), s1192 F d s (i + (j - i) / 2) lo (by omega) (by omega), tkOut_ret, tkBool_b]
    · simp only [hij, decide_false, cond_false]) 8 F 0 (s.heats.len : Int) (by omega) (by omega) (by omega) (by omega) (by omega)
  refine ⟨r, ?_, r1, r2, fun h => of_decide_eq_true (r3 h), fun h => ?_⟩
  · rw [E_pf, t7622]; exact e
  · have := of_decide_eq_false (r4 h); omega
theorem s7632 (s : Site) (hi : Int) (h1 : 1 ≤ s.heats.len) (h8 : s.heats.len ≤ 8) (hF : 8 < F) : ∃ r, (E F (d + 3)).pf 139 [.int .i64 0, .int .i64 (s.heats.len : Int), .fn (.func 141) [] [.rptr 1 1 (fun _ => [cMap 130 s]) 0 0, .rptr 1 1 (fun _ => [.int .i64 hi]) 0 0]] = some (.ret (.int .i64 r)) ∧
    0 ≤ r ∧ r ≤ (s.heats.len : Int) ∧ (r < (s.heats.len : Int) → hi ≤ heatN s r.toNat) ∧ (0 < r → heatN s (r - 1).toNat < hi) := by
  obtain ⟨r, e, r1, r2, r3, r4⟩ := firstLaw (fun fu i j => L7632x0 (E F (d + 2)) F 0 (s.heats.len : Int) hi s fu i j) (fun x => decide (hi ≤ heatN s x.toNat)) 0 (s.heats.len : Int) (by
    intro fu i j a1 a2 a3
    rw [L7632x0s]
    by_cases hij : i < j
    · simp only [mid_wr (show -2305843009213693952 ≤ i by omega) a2 (by omega), wr (show _ ∧ i + (j - i) / 2 + 1 ≤ _ by omega), s1202 F d s (i + (j - i) / 2) hi (by omega) (by omega), tkOut_ret, tkBool_b]
    · simp only [hij, decide_false, cond_false]) 8 F 0 (s.heats.len : Int) (by omega) (by omega) (by omega) (by omega) (by omega)
  refine ⟨r, ?_, r1, r2, fun h => of_decide_eq_true (r3 h), fun h => ?_⟩
  · rw [E_pf, t7632]; exact e
  · have := of_decide_eq_false (r4 h); omega
theorem s1162 (s : Site) (lo hi : Int) (hm : Inc (heatN s) s.heats.len) (h1 : 1 ≤ s.heats.len) (h8 : s.heats.len ≤ 8) (hF : 8 < F) : (E F (d + 4)).pf 128 [.int .i64 (s.heats.len : Int), cMap 130 s, .int .i64 lo, .int .i64 hi] =
    some (bif offB (heatN s) s.heats.len lo hi then .pan (.iface 160 (.agg [.int .i64 lo])) else .ret (.tup [.int .i64 (lastIx (heatN s) lo s.heats.len : Int), .int .i64 (firstIx (heatN s) hi s.heats.len 0 : Int)])) := by
  obtain ⟨r, e, r1, r2, r3, r4⟩ := s7622 F d s lo h1 h8 hF
  obtain ⟨q, e', q1, q2, q3, q4⟩ := s7632 F d s hi h1 h8 hF
  have z1 : r = 0 ↔ lo < heatN s 0 := by
    constructor
    · intro h; have := r3 (by omega); rw [h] at this; exact this
    · intro h
      rcases Int.lt_or_eq_of_le r1 with h2 | h2
      · have h3 := r4 h2
        by_cases h4 : (r - 1).toNat = 0
        · rw [h4] at h3; omega
        · have := hm.lt (show 0 < (r - 1).toNat by omega) (by omega); omega
      · exact h2.symm
  have z2 : 0 < r → r - 1 = (lastIx (heatN s) lo s.heats.len : Int) := by
    intro h
    have := lastIx_eq (n := s.heats.len) (i := (r - 1).toNat) (by omega) (r4 h) fun j h2 h3 => by
      have h4 := r3 (by omega)
      rcases Nat.lt_or_ge r.toNat j with h5 | h5
      · have := hm.lt h5 h3; omega
      · rw [show j = r.toNat by omega]; exact h4
    omega
  have z3 : q = (s.heats.len : Int) ↔ heatN s (s.heats.len - 1) < hi := by
    constructor
    · intro h; have := q4 (by omega); rw [show (q - 1).toNat = s.heats.len - 1 by omega] at this; exact this
    · intro h
      rcases Int.lt_or_eq_of_le q2 with h2 | h2
      · have h3 := q3 h2
        by_cases h4 : q.toNat = s.heats.len - 1
        · rw [h4] at h3; omega
        · have := hm.lt (show q.toNat < s.heats.len - 1 by omega) (by omega); omega
      · exact h2
  have z4 : q < (s.heats.len : Int) → q = (firstIx (heatN s) hi s.heats.len 0 : Int) := by
    intro h
    have := firstIx_eq (n := s.heats.len) (i := 0) (k := q.toNat) (by omega) (by omega) (q3 h) fun j _ h3 => by
      have h4 := q4 (by omega)
      rcases Nat.lt_or_ge j (q - 1).toNat with h5 | h5
      · have := hm.lt h5 (by omega); omega
      · rw [show j = (q - 1).toNat by omega]; exact h4
    omega
  rw [E_pf, t1162]
  simp only [e, e', tkOut_ret, tkInt_i, decide_true, cond_true, wr (show _ ∧ r - 1 ≤ _ by omega)]
  unfold offB
  by_cases a1 : lo < heatN s 0
  · rw [decide_eq_true a1, decide_eq_true (show r - 1 < 0 by have := z1.2 a1; omega)]; rfl
  · rw [decide_eq_false a1, decide_eq_false (show ¬ r - 1 < 0 by have := mt z1.1 a1; omega), Bool.false_or, cond_false]
    by_cases a2 : heatN s (s.heats.len - 1) < hi
    · rw [decide_eq_true a2, show (q == (s.heats.len : Int)) = true from beq_iff_eq.2 (z3.2 a2)]; rfl
    · rw [decide_eq_false a2, show (q == (s.heats.len : Int)) = false from beq_eq_false_iff_ne.2 (mt z3.1 a2), z2 (by have := mt z1.1 a1; omega), ← z4 (by have := mt z3.1 a2; omega)]; rfl
end Go.Sim.Cr


namespace Go.Sim.Cr
open Go.Sim.Le (cfg E E_pf E_hv)
open Go.Proofs
variable (F d : Nat)
theorem SiteF.incRow {s : Site} (h : SiteF s) : Inc (rowN s) s.rows.len := fun i hi => by
  have := h.row (i + 1) hi
  simp only [rowB, rowStep, Bool.and_eq_true, decide_eq_true_iff] at this
  exact this.2.2.2.1
theorem SiteF.incHeat {s : Site} (h : SiteF s) : Inc (heatN s) s.heats.len := fun i hi => by
  have := h.heat (i + 1) hi
  simp only [heatB, heatStep, Bool.and_eq_true, decide_eq_true_iff] at this
  exact this.2.2.1
theorem SiteF.rowOk {s : Site} (h : SiteF s) {i : Nat} (hi : i < s.rows.len) : (0 ≤ (s.rows.el i).deficit ∧ (s.rows.el i).deficit ≤ 50000) ∧ SpanIn (s.rows.el i).rate 0 100000 ∧ SpanIn (s.rows.el i).spall 0 1000 := by
  have := h.row i hi
  simp only [rowB, Bool.and_eq_true, decide_eq_true_iff] at this
  exact ⟨this.1, this.2.1, this.2.2.1⟩
theorem SiteF.heatOk {s : Site} (h : SiteF s) {i : Nat} (hi : i < s.heats.len) : (0 ≤ (s.heats.el i).warmth ∧ (s.heats.el i).warmth ≤ 10000) ∧ SpanIn (s.heats.el i).factor 0 10000 := by
  have := h.heat i hi
  simp only [heatB, Bool.and_eq_true, decide_eq_true_iff] at this
  exact ⟨this.1, this.2.1⟩
def farB (s : Site) (c : Cav) (p q : Span) : Bool := offB (rowN s) s.rows.len (c.rock - p.hi) (c.rock - p.lo) || offB (heatN s) s.heats.len q.lo q.hi
abbrev rowLo (s : Site) (c : Cav) (p : Span) : Nat := lastIx (rowN s) (c.rock - p.hi) s.rows.len
abbrev rowHi (s : Site) (c : Cav) (p : Span) : Nat := firstIx (rowN s) (c.rock - p.lo) s.rows.len 0
abbrev heatLo (s : Site) (q : Span) : Nat := lastIx (heatN s) q.lo s.heats.len
abbrev heatHi (s : Site) (q : Span) : Nat := firstIx (heatN s) q.hi s.heats.len 0
def rateOf (s : Site) (c : Cav) (p : Span) : Span := ⟨(s.rows.el (rowLo s c p)).rate.lo, (s.rows.el (rowHi s c p)).rate.hi⟩
def fallOf (s : Site) (c : Cav) (p : Span) : Span := ⟨(s.rows.el (rowLo s c p)).spall.lo, (s.rows.el (rowHi s c p)).spall.hi⟩
def factorOf (s : Site) (q : Span) : Span := ⟨(s.heats.el (heatLo s q)).factor.lo, (s.heats.el (heatHi s q)).factor.hi⟩
theorem near {num : Nat → Int} {n : Nat} {lo hi : Int} (hn : 0 < n) (h : offB num n lo hi = false) : lastIx num lo n < n ∧ firstIx num hi n 0 < n := by
  unfold offB at h
  rw [Bool.or_eq_false_iff, decide_eq_false_iff_not, decide_eq_false_iff_not] at h
  refine ⟨(lastIx_ok hn (by omega)).1, ?_⟩
  have := (@firstIx_ok num hi n 0 hn (by rw [Nat.zero_add]; omega)).2.1
  omega
theorem far_split {s : Site} {c : Cav} {p q : Span} (h : farB s c p q = false) : offB (rowN s) s.rows.len (c.rock - p.hi) (c.rock - p.lo) = false ∧ offB (heatN s) s.heats.len q.lo q.hi = false := by
  unfold farB at h
  rwa [Bool.or_eq_false_iff] at h
abbrev eSix (s : Site) (c : Cav) (p q : Span) : List V := [.int .i64 (rateOf s c p).lo, .int .i64 (rateOf s c p).hi, .int .i64 (fallOf s c p).lo, .int .i64 (fallOf s c p).hi, .int .i64 (factorOf s q).lo, .int .i64 (factorOf s q).hi]
theorem s112 (s : Site) (c : Cav) (p q : Span) (hS : SiteF s) (hc : CavOk c) (hp : SpanIn p 0 50000) (hF : 8 < F) :
    (farB s c p q = false → (E F (d + 5)).pf 113 [pSite s, .agg (eCav c), .agg (eSpan p), .agg (eSpan q)] = some (.ret (.agg (eSix s c p q)))) ∧
    (farB s c p q = true → ∃ n, (E F (d + 5)).pf 113 [pSite s, .agg (eCav c), .agg (eSpan p), .agg (eSpan q)] = some (.pan (.iface 160 (.agg [.int .i64 n])))) := by
  have hr := hc.2.2.2.1
  have w1 : IntKind.i64.wrap (c.rock - p.hi) = c.rock - p.hi := wr (by omega)
  have w2 : IntKind.i64.wrap (c.rock - p.lo) = c.rock - p.lo := wr (by omega)
  have e1 := s1161 F d s (c.rock - p.hi) (c.rock - p.lo) hS.incRow hS.rows1 hS.rows8 hF
  have e2 := s1162 F d s q.lo q.hi hS.incHeat hS.heats1 hS.heats8 hF
  rw [E_pf, t112]
  constructor
  · intro hf
    obtain ⟨f1, f2⟩ := far_split hf
    obtain ⟨n1, n2⟩ := near hS.rows1 f1
    obtain ⟨n3, n4⟩ := near hS.heats1 f2
    rw [f1, cond_false] at e1
    rw [f2, cond_false] at e2
    simp only [w1, w2, e1, e2, tkOut_ret, tkTup_t, tkCons_c, tkInt_i, tkNil_n, Int.natCast_nonneg, Int.ofNat_lt, n1, n2, n3, n4, decide_true, cond_true, Int.toNat_natCast]
    rfl
  · intro hf
    unfold farB at hf
    cases f1 : offB (rowN s) s.rows.len (c.rock - p.hi) (c.rock - p.lo) with
    | true =>
      rw [f1, cond_true] at e1
      simp only [w1, w2, e1, tkOut_pan, tkIfc_i]
      exact ⟨_, rfl⟩
    | false =>
      rw [f1, Bool.false_or] at hf
      rw [f1, cond_false] at e1
      rw [hf, cond_true] at e2
      simp only [w1, w2, e1, e2, tkOut_ret, tkOut_pan, tkTup_t, tkCons_c, tkInt_i, tkNil_n, tkIfc_i]
      exact ⟨_, rfl⟩
def minI (a b : Int) : Int := if a < b then a else b
def shrink (v r f k : Int) : Int := minI ((v * r * f + k) / 1000000000) v
theorem prod3 {v r f : Int} (hv : 0 ≤ v ∧ v ≤ 10000000) (hr : 0 ≤ r ∧ r ≤ 100000) (hf : 0 ≤ f ∧ f ≤ 10000) : (0 ≤ v * r ∧ v * r ≤ 1000000000000) ∧ 0 ≤ v * r * f ∧ v * r * f ≤ 10000000000000000 := by
  have h1 := mulB hv hr
  have h2 := mulB (show 0 ≤ v * r ∧ v * r ≤ 1000000000000 by omega) hf
  omega
theorem s113 (v r f k : Int) (hv : 0 ≤ v ∧ v ≤ 10000000) (hr : 0 ≤ r ∧ r ≤ 100000) (hf : 0 ≤ f ∧ f ≤ 10000) (hk : 0 ≤ k ∧ k ≤ 999999999) :
    (E F (d + 1)).pf 114 [.int .i64 v, .int .i64 r, .int .i64 f, .int .i64 k] = some (.ret (.int .i64 (shrink v r f k))) := by
  obtain ⟨h1, h2⟩ := prod3 hv hr hf
  rw [E_pf, t113, wr (show _ ∧ v * r ≤ _ by omega), wr (show _ ∧ v * r * f ≤ _ by omega), wr (show _ ∧ v * r * f + k ≤ _ by omega), Int.tdiv_eq_ediv_of_nonneg (by omega), wr (show _ ∧ (v * r * f + k) / 1000000000 ≤ _ by omega)]
  rfl
theorem shrink_ok {v r f k : Int} (hv : 0 ≤ v ∧ v ≤ 10000000) (hr : 0 ≤ r ∧ r ≤ 100000) (hf : 0 ≤ f ∧ f ≤ 10000) (hk : 0 ≤ k ∧ k ≤ 999999999) : 0 ≤ shrink v r f k ∧ shrink v r f k ≤ v := by
  obtain ⟨h1, h2⟩ := prod3 hv hr hf
  unfold shrink minI
  split <;> omega
def move1 (s : Site) (c : Cav) (x : Stt) (p q : Span) : Stt where
  rad := ⟨minI (x.rad.lo + (fallOf s c p).lo) 400000, minI (x.rad.hi + (fallOf s c p).hi) 400000⟩
  vol := ⟨x.vol.lo - shrink x.vol.lo (rateOf s c p).hi (factorOf s q).hi 999999999, x.vol.hi - shrink x.vol.hi (rateOf s c p).lo (factorOf s q).lo 0⟩
  lost := ⟨minI (x.lost.lo + shrink x.vol.lo (rateOf s c p).lo (factorOf s q).lo 0) 1000000000, minI (x.lost.hi + shrink x.vol.hi (rateOf s c p).hi (factorOf s q).hi 999999999) 1000000000⟩
theorem rates_ok {s : Site} (hS : SiteF s) {c : Cav} {p q : Span} (hf : farB s c p q = false) : (0 ≤ (rateOf s c p).lo ∧ (rateOf s c p).lo ≤ 100000) ∧ (0 ≤ (rateOf s c p).hi ∧ (rateOf s c p).hi ≤ 100000) ∧
    (0 ≤ (fallOf s c p).lo ∧ (fallOf s c p).lo ≤ 1000) ∧ (0 ≤ (fallOf s c p).hi ∧ (fallOf s c p).hi ≤ 1000) ∧ (0 ≤ (factorOf s q).lo ∧ (factorOf s q).lo ≤ 10000) ∧ (0 ≤ (factorOf s q).hi ∧ (factorOf s q).hi ≤ 10000) := by
  obtain ⟨f1, f2⟩ := far_split hf
  obtain ⟨n1, n2⟩ := near hS.rows1 f1
  obtain ⟨n3, n4⟩ := near hS.heats1 f2
  have r1 := hS.rowOk (show rowLo s c p < s.rows.len from n1)
  have r2 := hS.rowOk (show rowHi s c p < s.rows.len from n2)
  have r3 := hS.heatOk (show heatLo s q < s.heats.len from n3)
  have r4 := hS.heatOk (show heatHi s q < s.heats.len from n4)
  refine ⟨?_, ?_, ?_, ?_, ?_, ?_⟩
  · show 0 ≤ (s.rows.el (rowLo s c p)).rate.lo ∧ (s.rows.el (rowLo s c p)).rate.lo ≤ 100000; omega
  · show 0 ≤ (s.rows.el (rowHi s c p)).rate.hi ∧ (s.rows.el (rowHi s c p)).rate.hi ≤ 100000; omega
  · show 0 ≤ (s.rows.el (rowLo s c p)).spall.lo ∧ (s.rows.el (rowLo s c p)).spall.lo ≤ 1000; omega
  · show 0 ≤ (s.rows.el (rowHi s c p)).spall.hi ∧ (s.rows.el (rowHi s c p)).spall.hi ≤ 1000; omega
  · show 0 ≤ (s.heats.el (heatLo s q)).factor.lo ∧ (s.heats.el (heatLo s q)).factor.lo ≤ 10000; omega
  · show 0 ≤ (s.heats.el (heatHi s q)).factor.hi ∧ (s.heats.el (heatHi s q)).factor.hi ≤ 10000; omega
theorem s91 (s : Site) (i : Nat) (x : Stt) (p q : Span) (hS : SiteF s) (hi : i < s.cavs.len) (hx : SttOk x) (hp : SpanIn p 0 50000) (hF : 8 < F) :
    (farB s (s.cavs.el i) p q = false → (E F (d + 6)).pf 83 [pSite s, .int .i64 (i : Int), .agg (eStt x), .agg (eSpan p), .agg (eSpan q)] = some (.ret (.agg (eStt (move1 s (s.cavs.el i) x p q))))) ∧
    (farB s (s.cavs.el i) p q = true → ∃ n, (E F (d + 6)).pf 83 [pSite s, .int .i64 (i : Int), .agg (eStt x), .agg (eSpan p), .agg (eSpan q)] = some (.pan (.iface 160 (.agg [.int .i64 n])))) := by
  obtain ⟨g1, g2⟩ := s112 F d s (s.cavs.el i) p q hS (hS.cav i hi) hp hF
  rw [E_pf, t91]
  constructor
  · intro hf
    obtain ⟨k1, k2, k3, k4, k5, k6⟩ := rates_ok hS hf
    have a1 := @shrink_ok x.vol.lo (rateOf s (s.cavs.el i) p).hi (factorOf s q).hi 999999999 (by omega) k2 k6 (by omega)
    have a2 := @shrink_ok x.vol.hi (rateOf s (s.cavs.el i) p).lo (factorOf s q).lo 0 (by omega) k1 k5 (by omega)
    have a3 := @shrink_ok x.vol.lo (rateOf s (s.cavs.el i) p).lo (factorOf s q).lo 0 (by omega) k1 k5 (by omega)
    have a4 := @shrink_ok x.vol.hi (rateOf s (s.cavs.el i) p).hi (factorOf s q).hi 999999999 (by omega) k2 k6 (by omega)
    simp only [Int.natCast_nonneg, Int.ofNat_lt, hi, decide_true, cond_true, Int.toNat_natCast, g1 hf, tkOut_ret, tkAgg_a, tkCons_c, tkInt_i, tkNil_n,
      s113 F (d + 4) x.vol.lo (rateOf s (s.cavs.el i) p).hi (factorOf s q).hi 999999999 (by omega) k2 k6 (by omega),
      s113 F (d + 4) x.vol.hi (rateOf s (s.cavs.el i) p).lo (factorOf s q).lo 0 (by omega) k1 k5 (by omega),
      s113 F (d + 4) x.vol.lo (rateOf s (s.cavs.el i) p).lo (factorOf s q).lo 0 (by omega) k1 k5 (by omega),
      s113 F (d + 4) x.vol.hi (rateOf s (s.cavs.el i) p).hi (factorOf s q).hi 999999999 (by omega) k2 k6 (by omega),
      wr (show _ ∧ x.rad.lo + (fallOf s (s.cavs.el i) p).lo ≤ _ by omega), wr (show _ ∧ x.rad.hi + (fallOf s (s.cavs.el i) p).hi ≤ _ by omega),
      wr (show _ ∧ x.vol.lo - shrink x.vol.lo (rateOf s (s.cavs.el i) p).hi (factorOf s q).hi 999999999 ≤ _ by omega), wr (show _ ∧ x.vol.hi - shrink x.vol.hi (rateOf s (s.cavs.el i) p).lo (factorOf s q).lo 0 ≤ _ by omega),
      wr (show _ ∧ x.lost.lo + shrink x.vol.lo (rateOf s (s.cavs.el i) p).lo (factorOf s q).lo 0 ≤ _ by omega), wr (show _ ∧ x.lost.hi + shrink x.vol.hi (rateOf s (s.cavs.el i) p).hi (factorOf s q).hi 999999999 ≤ _ by omega)]
    rfl
  · intro hf
    obtain ⟨n, e⟩ := g2 hf
    simp only [Int.natCast_nonneg, Int.ofNat_lt, hi, decide_true, cond_true, Int.toNat_natCast, e, tkOut_pan, tkIfc_i]
    exact ⟨n, rfl⟩
end Go.Sim.Cr


namespace Go.Sim.Cr
open Go.Sim.Le (cfg E E_pf E_hv)
open Go.Proofs
variable (F d : Nat)
theorem s61 (v r f : Int) (hv : 0 ≤ v ∧ v ≤ 10000000) (hr : 0 ≤ r ∧ r ≤ 100000) (hf : 0 ≤ f ∧ f ≤ 10000) : (E F (d + 1)).pf 16 [.int .i64 v, .int .i64 r, .int .i64 f] = some (.ret (.int .i64 (v * r * f / 1000000000))) := by
  obtain ⟨h1, h2⟩ := prod3 hv hr hf
  rw [E_pf, t61, wr (show _ ∧ v * r ≤ _ by omega), wr (show _ ∧ v * r * f ≤ _ by omega), Int.tdiv_eq_ediv_of_nonneg (by omega), wr (by omega)]
theorem s62 (v r f : Int) (hv : 0 ≤ v ∧ v ≤ 10000000) (hr : 0 ≤ r ∧ r ≤ 100000) (hf : 0 ≤ f ∧ f ≤ 10000) : (E F (d + 1)).pf 13 [.int .i64 v, .int .i64 r, .int .i64 f] = some (.ret (.int .i64 ((v * r * f + 999999999) / 1000000000))) := by
  obtain ⟨h1, h2⟩ := prod3 hv hr hf
  rw [E_pf, t62, wr (show _ ∧ v * r ≤ _ by omega), wr (show _ ∧ v * r * f ≤ _ by omega), wr (show _ ∧ v * r * f + 999999999 ≤ _ by omega), Int.tdiv_eq_ediv_of_nonneg (by omega), wr (by omega)]
theorem l93 (s : Site) (x : Int) (h0 : rowN s 0 ≤ x) (hB : s.rows.len < Big) : ∀ n fu, n < s.rows.len → n < fu → L93x0 (E F d) F s x fu (n : Int) = some (.ret (.agg (eRow (s.rows.el (lastIx (rowN s) x (n + 1)))))) := by
  intro n
  induction n with
  | zero =>
    intro fu h hf
    obtain ⟨fu, rfl⟩ : ∃ k, fu = k + 1 := ⟨fu - 1, by omega⟩
    rw [L93x0s]
    have e : lastIx (rowN s) x (0 + 1) = 0 := by rw [lastIx, decide_eq_true h0, cond_true]
    simp only [Int.natCast_nonneg, Int.ofNat_lt, h, decide_true, cond_true, Int.toNat_natCast, show ¬ (s.rows.el 0).deficit > x by have : (s.rows.el 0).deficit ≤ x := h0; omega, decide_false, cond_false, e]
  | succ n ih =>
    intro fu h hf
    obtain ⟨fu, rfl⟩ : ∃ k, fu = k + 1 := ⟨fu - 1, by omega⟩
    rw [L93x0s]
    simp only [Int.natCast_nonneg, Int.ofNat_lt, h, decide_true, cond_true, Int.toNat_natCast, wrP n (by omega), ih fu (by omega) (by omega)]
    by_cases hx : (s.rows.el (n + 1)).deficit ≤ x
    · rw [lastIx.eq_2 _ _ (n + 1), decide_eq_true (show rowN s (n + 1) ≤ x from hx), cond_true, decide_eq_false (by omega), cond_false]
    · rw [lastIx.eq_2 _ _ (n + 1), decide_eq_false (show ¬ rowN s (n + 1) ≤ x from hx), cond_false, decide_eq_true (by omega), cond_true]
theorem s93 (s : Site) (x : Int) (h0 : rowN s 0 ≤ x) (h1 : 1 ≤ s.rows.len) (h8 : s.rows.len ≤ 8) (hF : 8 < F) : (E F (d + 1)).pf 42 [.agg (eSite s), .int .i64 x] = some (.ret (.agg (eRow (s.rows.el (lastIx (rowN s) x s.rows.len))))) := by
  rw [E_pf, t93, wr (by omega), show (s.rows.len : Int) - 1 = ((s.rows.len - 1 : Nat) : Int) by omega, l93 F d s x h0 (show s.rows.len < 4611686018427387904 by omega) (s.rows.len - 1) F (by omega) (by omega), show s.rows.len - 1 + 1 = s.rows.len by omega]
theorem l94 (s : Site) (x : Int) (h0 : x ≤ rowN s (s.rows.len - 1)) (hB : s.rows.len < Big) : ∀ n i fu, s.rows.len = i + n → 0 < n → n < fu → L94x0 (E F d) F s x fu (i : Int) = some (.ret (.agg (eRow (s.rows.el (firstIx (rowN s) x n i))))) := by
  intro n
  induction n with
  | zero => intro i fu _ h; omega
  | succ n ih =>
    intro i fu h _ hf
    obtain ⟨fu, rfl⟩ : ∃ k, fu = k + 1 := ⟨fu - 1, by omega⟩
    rw [L94x0s]
    simp only [Int.natCast_nonneg, Int.ofNat_lt, show i < s.rows.len by omega, decide_true, cond_true, Int.toNat_natCast, wrS (show i < Big by omega)]
    by_cases hx : x ≤ (s.rows.el i).deficit
    · rw [firstIx, decide_eq_true (show x ≤ rowN s i from hx), cond_true, decide_eq_false (by omega), cond_false]
    · have hn : 0 < n := by
        rcases Nat.eq_zero_or_pos n with rfl | h'
        · rw [show s.rows.len - 1 = i by omega] at h0; exact (hx h0).elim
        · exact h'
      rw [firstIx, decide_eq_false (show ¬ x ≤ rowN s i from hx), cond_false, decide_eq_true (by omega), cond_true]
      exact ih (i + 1) fu (by omega) hn (by omega)
theorem s94 (s : Site) (x : Int) (h0 : x ≤ rowN s (s.rows.len - 1)) (h1 : 1 ≤ s.rows.len) (h8 : s.rows.len ≤ 8) (hF : 8 < F) : (E F (d + 1)).pf 43 [.agg (eSite s), .int .i64 x] = some (.ret (.agg (eRow (s.rows.el (firstIx (rowN s) x s.rows.len 0))))) := by
  rw [E_pf, t94]
  exact l94 F d s x h0 (show s.rows.len < 4611686018427387904 by omega) s.rows.len 0 F (by omega) (by omega) (by omega)
theorem not_off {num : Nat → Int} {n : Nat} {lo hi : Int} (h : offB num n lo hi = false) : num 0 ≤ lo ∧ hi ≤ num (n - 1) := by
  unfold offB at h
  rw [Bool.or_eq_false_iff, decide_eq_false_iff_not, decide_eq_false_iff_not] at h
  omega
theorem s58 (s : Site) (p : Span) (hS : SiteF s) (hf : offB (rowN s) s.rows.len p.lo p.hi = false) (hF : 8 < F) : (E F (d + 2)).pf 14 [.agg (eSite s), .agg (eSpan p)] =
    some (.ret (.agg [.int .i64 (s.rows.el (lastIx (rowN s) p.lo s.rows.len)).rate.lo, .int .i64 (s.rows.el (firstIx (rowN s) p.hi s.rows.len 0)).rate.hi])) := by
  obtain ⟨h1, h2⟩ := not_off hf
  rw [E_pf, t58]
  simp only [s93 F d s p.lo h1 hS.rows1 hS.rows8 hF, s94 F d s p.hi h2 hS.rows1 hS.rows8 hF, tkOut_ret, tkAgg_a, tkCons_c, tkInt_i, tkNil_n]
theorem l59x1 (s : Site) (p : Span) (a : Nat) (ha : a < s.heats.len) (h0 : p.hi ≤ heatN s (s.heats.len - 1)) (hB : s.heats.len < Big) : ∀ n i fu, s.heats.len = i + n → 0 < n → n < fu →
    L59x1 (E F d) F s p fu (a : Int) (i : Int) = some (.ret (.agg [.int .i64 (s.heats.el a).factor.lo, .int .i64 (s.heats.el (firstIx (heatN s) p.hi n i)).factor.hi])) := by
  intro n
  induction n with
  | zero => intro i fu _ h; omega
  | succ n ih =>
    intro i fu h _ hf
    obtain ⟨fu, rfl⟩ : ∃ k, fu = k + 1 := ⟨fu - 1, by omega⟩
    rw [L59x1s]
    simp only [Int.natCast_nonneg, Int.ofNat_lt, ha, show i < s.heats.len by omega, decide_true, cond_true, Int.toNat_natCast, wrS (show i < Big by omega)]
    by_cases hx : p.hi ≤ (s.heats.el i).warmth
    · rw [firstIx, decide_eq_true (show p.hi ≤ heatN s i from hx), cond_true, decide_eq_false (by omega), cond_false]
    · have hn : 0 < n := by
        rcases Nat.eq_zero_or_pos n with rfl | h'
        · rw [show s.heats.len - 1 = i by omega] at h0; exact (hx h0).elim
        · exact h'
      rw [firstIx, decide_eq_false (show ¬ p.hi ≤ heatN s i from hx), cond_false, decide_eq_true (by omega), cond_true]
      exact ih (i + 1) fu (by omega) hn (by omega)
theorem l59x0 (s : Site) (p : Span) (hl : heatN s 0 ≤ p.lo) (h0 : p.hi ≤ heatN s (s.heats.len - 1)) (hB : s.heats.len < Big) (hF : s.heats.len < F) : ∀ n fu, n < s.heats.len → n < fu →
    L59x0 (E F d) F s p fu (n : Int) = some (.ret (.agg [.int .i64 (s.heats.el (lastIx (heatN s) p.lo (n + 1))).factor.lo, .int .i64 (s.heats.el (firstIx (heatN s) p.hi s.heats.len 0)).factor.hi])) := by
  intro n
  induction n with
  | zero =>
    intro fu h hf
    obtain ⟨fu, rfl⟩ : ∃ k, fu = k + 1 := ⟨fu - 1, by omega⟩
    rw [L59x0s]
    have e : lastIx (heatN s) p.lo (0 + 1) = 0 := by rw [lastIx, decide_eq_true hl, cond_true]
    simp only [Int.natCast_nonneg, Int.ofNat_lt, h, decide_true, cond_true, Int.toNat_natCast, show ¬ (s.heats.el 0).warmth > p.lo by have : (s.heats.el 0).warmth ≤ p.lo := hl; omega, decide_false, cond_false, e]
    exact l59x1 F d s p 0 h h0 hB s.heats.len 0 F (by omega) (by omega) hF
  | succ n ih =>
    intro fu h hf
    obtain ⟨fu, rfl⟩ : ∃ k, fu = k + 1 := ⟨fu - 1, by omega⟩
    rw [L59x0s]
    simp only [Int.natCast_nonneg, Int.ofNat_lt, h, decide_true, cond_true, Int.toNat_natCast, wrP n (by omega), ih fu (by omega) (by omega)]
    by_cases hx : (s.heats.el (n + 1)).warmth ≤ p.lo
    · rw [lastIx.eq_2 _ _ (n + 1), decide_eq_true (show heatN s (n + 1) ≤ p.lo from hx), cond_true, decide_eq_false (by omega), cond_false]
      exact l59x1 F d s p (n + 1) h h0 hB s.heats.len 0 F (by omega) (by omega) hF
    · rw [lastIx.eq_2 _ _ (n + 1), decide_eq_false (show ¬ heatN s (n + 1) ≤ p.lo from hx), cond_false, decide_eq_true (by omega), cond_true]
theorem s59 (s : Site) (q : Span) (hS : SiteF s) (hf : offB (heatN s) s.heats.len q.lo q.hi = false) (hF : 8 < F) : (E F (d + 1)).pf 15 [.agg (eSite s), .agg (eSpan q)] = some (.ret (.agg (eSpan (factorOf s q)))) := by
  obtain ⟨h1, h2⟩ := not_off hf
  have g1 := hS.heats1
  have g8 := hS.heats8
  rw [E_pf, t59, wr (by omega), show (s.heats.len : Int) - 1 = ((s.heats.len - 1 : Nat) : Int) by omega, l59x0 F d s q h1 h2 (show s.heats.len < 4611686018427387904 by omega) (by omega) (s.heats.len - 1) F (by omega) (by omega), show s.heats.len - 1 + 1 = s.heats.len by omega]
  rfl
theorem s70 (s : Site) (i : Nat) (p : Span) (hS : SiteF s) (hi : i < s.cavs.len) (hp : SpanIn p 0 50000) : (E F (d + 1)).pf 12 [.agg (eSite s), .int .i64 (i : Int), .agg (eSpan p)] =
    some (.ret (.agg [.int .i64 ((s.cavs.el i).rock - p.hi), .int .i64 ((s.cavs.el i).rock - p.lo)])) := by
  have hr := (hS.cav i hi).2.2.2.1
  rw [E_pf, t70]
  simp only [Int.natCast_nonneg, Int.ofNat_lt, hi, decide_true, cond_true, Int.toNat_natCast, wr (show _ ∧ (s.cavs.el i).rock - p.hi ≤ _ by omega), wr (show _ ∧ (s.cavs.el i).rock - p.lo ≤ _ by omega)]
end Go.Sim.Cr


namespace Go.Sim.Cr
open Go.Sim.Le (cfg E E_pf E_hv)
open Go.Proofs
variable (F d : Nat)
def anyF (p : Nat → Bool) : Nat → Nat → Bool
  | 0, _ => false
  | n + 1, i => p i || anyF p n (i + 1)
theorem anyF_eq (p : Nat → Bool) : ∀ n i, anyF p n i = true ↔ ∃ k, i ≤ k ∧ k < i + n ∧ p k = true := by
  intro n
  induction n with
  | zero => intro i; simp only [anyF]; constructor <;> intro h
            · cases h
            · obtain ⟨k, h1, h2, _⟩ := h; omega
  | succ n ih =>
    intro i
    simp only [anyF, Bool.or_eq_true, ih]
    constructor
    · rintro (h | ⟨k, h1, h2, h3⟩)
      · exact ⟨i, Nat.le_refl _, by omega, h⟩
      · exact ⟨k, by omega, by omega, h3⟩
    · rintro ⟨k, h1, h2, h3⟩
      rcases Nat.eq_or_lt_of_le h1 with rfl | h4
      · exact .inl h3
      · exact .inr ⟨k, by omega, by omega, h3⟩
def outL {α : Type} (n : Nat) (T : Nat → α) : Sl α := ⟨false, n, fun i => T (min i (n - 1))⟩
theorem outL_el {α : Type} {n : Nat} {T : Nat → α} {i : Nat} (h : i < n) : (outL n T).el i = T i := by
  show T (min i (n - 1)) = T i
  rw [Nat.min_eq_left (by omega)]
abbrev noneRow : V := .row true 0 0 fun _ => []
theorem app_enc {α : Type} (e : α → List V) (T : Nat → α) {i : Nat} (hi : 1 ≤ i) : appGet i (fun j => e (T (min j (i - 1)))) (fun _ => e (T i)) = fun j => e (T (min j i)) := by
  funext j
  unfold appGet
  by_cases h : j < i
  · rw [if_pos h]; show e (T (min j (i - 1))) = e (T (min j i)); rw [show min j (i - 1) = min j i by omega]
  · rw [if_neg h]; show e (T i) = e (T (min j i)); rw [show min j i = i by omega]
theorem one_enc {α : Type} (e : α → List V) (T : Nat → α) : (fun _ : Nat => e (T 0)) = fun j => e (T (min j (1 - 1))) := by
  funext j
  show e (T 0) = e (T (min j 0))
  rw [Nat.min_zero]
theorem wr1 : IntKind.i64.wrap ((0 : Int) + 1) = ((1 : Nat) : Int) := by rw [wr (by omega)]; rfl
def mv (s : Site) (l : Sl Stt) (y : Day) (i : Nat) : Stt := move1 s (s.cavs.el i) (l.el i) (y.press.el i) (y.warm.el i)
def farAt (s : Site) (y : Day) (i : Nat) : Bool := farB s (s.cavs.el i) (y.press.el i) (y.warm.el i)
def farDay (s : Site) (y : Day) : Bool := anyF (farAt s y) s.cavs.len 0
abbrev moved (s : Site) (l : Sl Stt) (y : Day) : Sl Stt := outL l.len (mv s l y)
abbrev moveR (s : Site) (l : Sl Stt) (y : Day) : V := bif farDay s y then .tup [noneRow, .bool false] else .tup [sl eStt 6 (moved s l y), .bool true]
theorem l51 (s : Site) (l : Sl Stt) (y : Day) (hS : SiteF s) (hL : StatesOk s l) (hD : DayOk s y) (hF : 8 < F) : ∀ n i fu, l.len = i + n → n < fu → 1 ≤ i →
    L51x1 (E F (d + 6)) F s l y fu (i : Int) i i (fun j => eStt (mv s l y (min j (i - 1)))) = some (.ret (bif anyF (farAt s y) n i then .tup [noneRow, .bool false] else .tup [sl eStt 6 (moved s l y), .bool true])) := by
  have h5 := hS.cavs5
  have hl := hL.1
  have hp := hD.1.1
  have hw := hD.2.1
  intro n
  induction n with
  | zero =>
    intro i fu h hf hi
    obtain ⟨fu, rfl⟩ : ∃ k, fu = k + 1 := ⟨fu - 1, by omega⟩
    have e : l.len = i := by omega
    rw [L51x1s]
    simp only [Int.ofNat_lt, show ¬ i < l.len by omega, decide_false, cond_false, anyF, moved, outL]
    rw [e]
  | succ n ih =>
    intro i fu h hf hi
    obtain ⟨fu, rfl⟩ : ∃ k, fu = k + 1 := ⟨fu - 1, by omega⟩
    rw [L51x1s]
    obtain ⟨g1, g2⟩ := s91 F d s i (l.el i) (y.press.el i) (y.warm.el i) hS (by omega) (hL.2 i (by omega)) (hD.1.2 i (by omega)) hF
    simp only [Int.ofNat_lt, show i < l.len by omega, show i < y.press.len by omega, show i < y.warm.len by omega, decide_true, cond_true, Int.natCast_nonneg, Int.toNat_natCast, anyF]
    cases hf1 : farAt s y i with
    | true =>
      obtain ⟨m, e⟩ := g2 hf1
      simp only [e, tkOut_pan, tkIfc_i, Bool.true_or, cond_true]
      rfl
    | false =>
      simp only [g1 hf1, tkOut_ret, tkAgg_a, tkCons_c, tkInt_i, tkNil_n, show (i + 1) * 48 ≤ 140737488355328 by omega, decide_true, cond_true, wrS (show i < 4611686018427387904 by omega), Bool.false_or]
      exact (congrArg (L51x1 (E F (d + 6)) F s l y fu ((i + 1 : Nat) : Int) (i + 1) (i + 1)) (app_enc eStt (mv s l y) hi)).trans (ih (i + 1) fu (by omega) (by omega) (by omega))
theorem s51 (s : Site) (l : Sl Stt) (y : Day) (hS : SiteF s) (hL : StatesOk s l) (hD : DayOk s y) (hF : 8 < F) :
    (E F (d + 7)).pf 41 [pSite s, sl eStt 6 l, .agg (eDay y)] = some (.ret (moveR s l y)) := by
  have h5 := hS.cavs5
  have h1 := hS.cavs1
  have hl := hL.1
  have hp := hD.1.1
  have hw := hD.2.1
  rw [E_pf, t51]
  obtain ⟨fu, rfl⟩ : ∃ k, F = k + 1 := ⟨F - 1, by omega⟩
  rw [L51x0s]
  obtain ⟨n, hn⟩ : ∃ n, l.len = 1 + n := ⟨l.len - 1, by omega⟩
  obtain ⟨g1, g2⟩ := s91 (fu + 1) d s 0 (l.el 0) (y.press.el 0) (y.warm.el 0) hS (by omega) (hL.2 0 (by omega)) (hD.1.2 0 (by omega)) hF
  have z : ∀ m : Nat, 0 < m → decide ((0 : Int) < (m : Int)) = true := fun m hm => decide_eq_true (by omega)
  simp only [z l.len (by omega), z y.press.len (by omega), z y.warm.len (by omega), cond_true]
  have hc : s.cavs.len = n + 1 := by omega
  unfold moveR farDay
  rw [hc]
  simp only [anyF]
  cases hf1 : farAt s y 0 with
  | true =>
    obtain ⟨m, e⟩ := g2 hf1
    simp only [Int.natCast_zero] at e
    simp only [e, tkOut_pan, tkIfc_i, Bool.true_or, cond_true]
    rfl
  | false =>
    have e := g1 hf1
    simp only [Int.natCast_zero] at e
    simp only [e, tkOut_ret, tkAgg_a, tkCons_c, tkInt_i, tkNil_n, wr1, Bool.false_or]
    exact (congrArg (L51x1 (E (fu + 1) (d + 6)) (fu + 1) s l y fu ((1 : Nat) : Int) 1 1) (one_enc eStt (mv s l y))).trans (l51 (fu + 1) d s l y hS hL hD hF n 1 fu (by omega) (by omega) (by omega))
theorem s14 (s : Site) (l : Sl Stt) (y : Day) (hs : Small s F) (hB : l.len < Big) (hlF : l.len < F) (hB' : y.press.len < Big) (hB2 : y.warm.len < Big) (hF' : y.press.len < F) (hF2 : y.warm.len < F) (hF : 8 < F) :
    (E F (d + 8)).pf 11 [.agg (eSite s), sl eStt 6 l, .agg (eDay y)] = some (.ret (bif siteB s && (decide (StatesOk s l) && decide (DayOk s y)) then (bif farDay s y then .tup [noneRow, .int .i64 7] else .tup [sl eStt 6 (moved s l y), .int .i64 0]) else .tup [noneRow, .int .i64 2])) := by
  rw [E_pf, t14]
  simp only [s48 F (d + 1) s hs, tkOut_ret, tkBool_b, s49 F (d + 1) s l hB hlF, s50 F (d + 1) s y hB' hB2 hF' hF2, Nat.reduceAdd, Nat.add_assoc]
  cases h1 : siteB s
  · rfl
  · by_cases h2 : StatesOk s l
    · by_cases h3 : DayOk s y
      · simp only [decide_eq_true h2, decide_eq_true h3, Bool.not_true, cond_false, Bool.and_self, cond_true, s51 F d s l y ((siteB_iff s).1 h1) h2 h3 hF, tkOut_ret, moveR]
        cases farDay s y <;> rfl
      · simp only [decide_eq_true h2, decide_eq_false h3, Bool.not_true, Bool.not_false, cond_false, cond_true, Bool.and_false]
    · simp only [decide_eq_false h2, Bool.not_true, Bool.not_false, cond_false, cond_true, Bool.and_false, Bool.false_and]
def start (c : Cav) : Stt := ⟨c.rad, c.vol, ⟨0, 0⟩⟩
abbrev begin (s : Site) : Sl Stt := outL s.cavs.len (fun i => start (s.cavs.el i))
theorem l57 (s : Site) (h5 : s.cavs.len ≤ 5) : ∀ n i fu, s.cavs.len = i + n → n < fu → 1 ≤ i →
    L57x1 (E F d) F s fu i (i : Int) i (fun j => eStt (start (s.cavs.el (min j (i - 1))))) = some (.ret (sl eStt 6 (begin s))) := by
  intro n
  induction n with
  | zero =>
    intro i fu h hf hi
    obtain ⟨fu, rfl⟩ : ∃ k, fu = k + 1 := ⟨fu - 1, by omega⟩
    have e : s.cavs.len = i := by omega
    rw [L57x1s]
    simp only [Int.ofNat_lt, show ¬ i < s.cavs.len by omega, decide_false, cond_false, begin, outL]
    rw [e]
  | succ n ih =>
    intro i fu h hf hi
    obtain ⟨fu, rfl⟩ : ∃ k, fu = k + 1 := ⟨fu - 1, by omega⟩
    rw [L57x1s]
    simp only [Int.ofNat_lt, show i < s.cavs.len by omega, decide_true, cond_true, Int.natCast_nonneg, Int.toNat_natCast, show (i + 1) * 48 ≤ 140737488355328 by omega, wrS (show i < 4611686018427387904 by omega)]
    exact (congrArg (L57x1 (E F d) F s fu (i + 1) ((i + 1 : Nat) : Int) (i + 1)) (app_enc eStt (fun i => start (s.cavs.el i)) hi)).trans (ih (i + 1) fu (by omega) (by omega) (by omega))
theorem s57 (s : Site) (h1 : 1 ≤ s.cavs.len) (h5 : s.cavs.len ≤ 5) (hF : 8 < F) : (E F (d + 1)).pf 37 [pSite s] = some (.ret (sl eStt 6 (begin s))) := by
  rw [E_pf, t57]
  obtain ⟨fu, rfl⟩ : ∃ k, F = k + 1 := ⟨F - 1, by omega⟩
  rw [L57x0s]
  have z : ∀ m : Nat, 0 < m → decide ((0 : Int) < (m : Int)) = true := fun m hm => decide_eq_true (by omega)
  simp only [z s.cavs.len (by omega), cond_true, wr1]
  exact (congrArg (L57x1 (E (fu + 1) d) (fu + 1) s fu 1 ((1 : Nat) : Int) 1) (one_enc eStt (fun i => start (s.cavs.el i)))).trans (l57 (fu + 1) d s h5 (s.cavs.len - 1) 1 fu (by omega) (by omega) (by omega))
theorem s24 (s : Site) (hs : Small s F) (hF : 8 < F) : (E F (d + 7)).pf 8 [.agg (eSite s)] = some (.ret (bif siteB s then .tup [sl eStt 6 (begin s), .int .i64 0] else .tup [noneRow, .int .i64 2])) := by
  rw [E_pf, t24]
  simp only [s48 F d s hs, tkOut_ret, tkBool_b]
  cases h1 : siteB s
  · rfl
  · have hS := (siteB_iff s).1 h1
    simp only [s57 F (d + 5) s hS.cavs1 hS.cavs5 hF, tkOut_ret, tkRow_r]
    rfl
theorem upDown (v : Int) {r f : Int} (hv : 0 ≤ v ∧ v ≤ 10000000) (hr : 0 ≤ r ∧ r ≤ 100000) (hf : 0 ≤ f ∧ f ≤ 10000) : 0 ≤ v * r * f ∧ v * r * f ≤ v * 1000000000 := by
  have h2 := mulB hr hf
  have h3 := mulB hv (show 0 ≤ r * f ∧ r * f ≤ 1000000000 by omega)
  have h4 : v * (r * f) ≤ v * 1000000000 := Int.mul_le_mul_of_nonneg_left (by omega) hv.1
  rw [Int.mul_assoc]
  omega
end Go.Sim.Cr


namespace Go.Sim.Cr
open Go.Sim.Le (cfg E E_pf E_hv)
open Go.Proofs
variable (F d : Nat)
section
variable {α : Type} (e : α → List V) (z : α)
variable {e z}
end
theorem zlt {m : Nat} (hm : 0 < m) : decide ((0 : Int) < (m : Int)) = true := decide_eq_true (by omega)
end Go.Sim.Cr


namespace Go.Sim.Cr
open Go.Sim.Le (cfg E E_pf E_hv)
open Go.Proofs
variable (F d : Nat)
theorem k1 : IntKind.i64.wrap (2 + IntKind.i64.wrap (0 + 1)) = 3 := by rw [wr (n := 0 + 1) (by omega), wr (by omega)]; rfl
theorem k2 : IntKind.i64.wrap (2 + IntKind.i64.wrap (IntKind.i64.wrap (0 + 1) + 1)) = 4 := by rw [wr (n := 0 + 1) (by omega), wr (n := 0 + 1 + 1) (by omega), wr (by omega)]; rfl
theorem k3 : IntKind.i64.wrap (2 + IntKind.i64.wrap (IntKind.i64.wrap (IntKind.i64.wrap (0 + 1) + 1) + 1)) = 5 := by rw [wr (n := 0 + 1) (by omega), wr (n := 0 + 1 + 1) (by omega), wr (n := 0 + 1 + 1 + 1) (by omega), wr (by omega)]; rfl
theorem k4 : IntKind.i64.wrap (2 + IntKind.i64.wrap (IntKind.i64.wrap (IntKind.i64.wrap (IntKind.i64.wrap (0 + 1) + 1) + 1) + 1)) = 6 := by rw [wr (n := 0 + 1) (by omega), wr (n := 0 + 1 + 1) (by omega), wr (n := 0 + 1 + 1 + 1) (by omega), wr (n := 0 + 1 + 1 + 1 + 1) (by omega), wr (by omega)]; rfl
theorem k5 : IntKind.i64.wrap (2 + IntKind.i64.wrap (IntKind.i64.wrap (IntKind.i64.wrap (IntKind.i64.wrap (IntKind.i64.wrap (0 + 1) + 1) + 1) + 1) + 1)) = 7 := by
  rw [wr (n := 0 + 1) (by omega), wr (n := 0 + 1 + 1) (by omega), wr (n := 0 + 1 + 1 + 1) (by omega), wr (n := 0 + 1 + 1 + 1 + 1) (by omega), wr (n := 0 + 1 + 1 + 1 + 1 + 1) (by omega), wr (by omega)]; rfl
end Go.Sim.Cr
