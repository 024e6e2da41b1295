import Derived.Test.YthbpdkcfnbiejaaAe
import Derived.IntWalk
set_option linter.unusedVariables false
set_option linter.unusedSimpArgs false
set_option linter.unusedSectionVars false

namespace Go.Sim.Le
open Go.Proofs
section
variable {R : Type}
theorem tkOut_ret (v : V) (f : R) (k kp : V → R) : tkOut (some (.ret v)) f k kp = k v := Eq.trans (Eq.refl _) (Eq.refl _)
theorem tkBool_b (b : Bool) (f : R) (k : Bool → R) : tkBool (.bool b) f k = k b := Eq.trans (Eq.refl _) (Eq.refl _)
theorem tkInt_i (q : IntKind) (n : Int) (f : R) (k : IntKind → Int → R) : tkInt (.int q n) f k = k q n := Eq.trans (Eq.refl _) (Eq.refl _)
theorem tkAgg_a (l : List V) (f : R) (k : List V → R) : tkAgg (.agg l) f k = k l := Eq.trans (Eq.refl _) (Eq.refl _)
theorem tkTup_t (l : List V) (f : R) (k : List V → R) : tkTup (.tup l) f k = k l := Eq.trans (Eq.refl _) (Eq.refl _)
theorem tkRow_r (a : Bool) (n wd : Nat) (g : Nat → List V) (f : R) (k : Bool → Nat → Nat → (Nat → List V) → R) : tkRow (.row a n wd g) f k = k a n wd g := Eq.trans (Eq.refl _) (Eq.refl _)
theorem tkCons_c (v : V) (l : List V) (f : R) (k : V → List V → R) : tkCons (v :: l) f k = k v l := Eq.trans (Eq.refl _) (Eq.refl _)
theorem tkNil_n (f k : R) : tkNil [] f k = k := Eq.trans (Eq.refl _) (Eq.refl _)
theorem tkFn_f (g : Nat) (a b : List V) (f : R) (k : Nat → List V → List V → R) : tkFn (.fn (.func g) a b) f k = k g a b := Eq.trans (Eq.refl _) (Eq.refl _)
theorem tkPtr_p (n wd : Nat) (g : Nat → List V) (i o : Nat) (f : R) (k : Nat → Nat → (Nat → List V) → Nat → Nat → R) : tkPtr (.rptr n wd g i o) f k = k n wd g i o := Eq.trans (Eq.refl _) (Eq.refl _)
theorem tkHv_h (v : V) (h : List Slot) (f : R) (k : V → List Slot → R) : tkHv (some (.ret v, h)) f k = k v h := Eq.trans (Eq.refl _) (Eq.refl _)
theorem tkSCons_c (s : Slot) (l : List Slot) (f : R) (k : Slot → List Slot → R) : tkSCons (s :: l) f k = k s l := Eq.trans (Eq.refl _) (Eq.refl _)
theorem tkSNil_n (f k : R) : tkSNil [] f k = k := Eq.trans (Eq.refl _) (Eq.refl _)
theorem tkBox_b (e : Nat) (c : List V) (w : Bool) (f : R) (k : Nat → List V → Bool → R) : tkBox (.box e c w) f k = k e c w := Eq.trans (Eq.refl _) (Eq.refl _)
theorem tkArr_a (e wd n : Nat) (g : Nat → List V) (w : Bool) (f : R) (k : Nat → Nat → Nat → (Nat → List V) → Bool → R) : tkArr (.arr e wd n g w) f k = k e wd n g w := Eq.trans (Eq.refl _) (Eq.refl _)
theorem tkMp_m (a : Bool) (ks : List KS) (es : List (V × V)) (w : Bool) (f : R) (k : Bool → List KS → List (V × V) → Bool → R) : tkMp (.mp a ks es w) f k = k a ks es w := Eq.trans (Eq.refl _) (Eq.refl _)
theorem tkSl_r (a : Bool) (n wd : Nat) (g : Nat → List V) (f : R) (k : Bool → Nat → Nat → (Nat → List V) → R) (k' : Nat → Nat → Nat → R) : tkSl (.row a n wd g) f k k' = k a n wd g := Eq.trans (Eq.refl _) (Eq.refl _)
theorem pT (a b : R) : (bif true then a else b) = a := Eq.trans (Eq.refl _) (Eq.refl _)
theorem pF (a b : R) : (bif false then a else b) = b := Eq.trans (Eq.refl _) (Eq.refl _)
theorem tkSl_o (b lo n : Nat) (f : R) (k : Bool → Nat → Nat → (Nat → List V) → R) (k' : Nat → Nat → Nat → R) : tkSl (.osl b lo n) f k k' = k' b lo n := Eq.trans (Eq.refl _) (Eq.refl _)
end
theorem cAnd (a b : Bool) : (bif a then some (Out.ret (.bool b)) else some (.ret (.bool false))) = some (.ret (.bool (a && b))) := by cases a <;> rfl
theorem cOr (a b : Bool) : (bif a then some (Out.ret (.bool true)) else some (.ret (.bool b))) = some (.ret (.bool (a || b))) := by cases a <;> rfl
theorem wr {n : Int} (h : -9223372036854775808 ≤ n ∧ n ≤ 9223372036854775807) : IntKind.i64.wrap n = n := by rw [IntKind.wrap_i64]; omega
theorem wrS {i : Nat} (h : i < 4611686018427387904) : IntKind.i64.wrap ((i : Int) + 1) = ((i + 1 : Nat) : Int) := by rw [wr (by omega)]; omega
theorem b2 {a b : Bool} (h : a = true ↔ b = true) : a = b := by cases a <;> cases b <;> simp_all
theorem b3 {a b : Bool} (h : a = b) : some (Out.ret (.bool a)) = some (.ret (.bool b)) := by rw [h]
abbrev Big : Nat := 4611686018427387904
abbrev SpanIn (p : Span) (a b : Int) : Prop := a ≤ p.lo ∧ p.lo ≤ p.hi ∧ p.hi ≤ b
abbrev SlcOk (x : Slc) : Prop := SpanIn x.vol 0 10000000000000 ∧ (1000 ≤ x.opn ∧ x.opn ≤ 3000) ∧ (0 ≤ x.fall ∧ x.fall ≤ x.opn - 1) ∧ SpanIn x.rate 0 300 ∧ 0 ≤ x.most ∧ x.most ≤ 10000000000000
abbrev CavOk (c : Cav) : Prop := (1 ≤ c.slices.len ∧ c.slices.len ≤ 10) ∧ (1 ≤ c.hold ∧ c.hold ≤ 300) ∧ (0 ≤ c.oil ∧ c.oil ≤ 10000000000000) ∧ ∀ i, i < c.slices.len → SlcOk (c.slices.el i)
abbrev StgOk (n : Nat) (s : Stg) : Prop := (1 ≤ s.water ∧ s.water ≤ 1000000) ∧ (0 ≤ s.into ∧ s.into < n) ∧ (0 ≤ s.out ∧ s.out < n) ∧ s.into ≠ s.out ∧ 0 ≤ s.blanket ∧ s.blanket ≤ n
variable (F d : Nat)
theorem s59 (x y z : Int) : (E F (d + 1)).pf 59 [.int .i64 x, .int .i64 y, .int .i64 z] = some (.ret (.bool (decide (y ≤ x ∧ x ≤ z)))) := by
 rw [E_pf, t59]; simp only [cAnd, Bool.decide_and, ge_iff_le]
theorem s64 (x y z : Int) : (E F (d + 1)).pf 64 [.int .i64 x, .int .i64 y, .int .i64 z] = some (.ret (.bool (decide (y ≤ x ∧ x ≤ z)))) := by
 rw [E_pf, t64]; simp only [cAnd, Bool.decide_and, ge_iff_le]
theorem s98 (p : Span) (a n : Int) : (E F (d + 1)).pf 98 [.agg (eSpan p), .int .i64 a, .int .i64 n] = some (.ret (.bool (decide (SpanIn p a n)))) := by
 rw [E_pf, t98]; simp only [cAnd, Bool.decide_and, ge_iff_le]
theorem s70 (p : Span) (a n : Int) : (E F (d + 1)).pf 70 [.agg (eSpan p), .int .i64 a, .int .i64 n] = some (.ret (.bool (decide (SpanIn p a n)))) := by
 rw [E_pf, t70]; simp only [cAnd, Bool.decide_and, ge_iff_le]
theorem s97 (x : Slc) : (E F (d + 2)).pf 97 [.agg (eSlc x)] = some (.ret (.bool (!decide (SlcOk x)))) := by
 rw [E_pf, t97]; simp only [s98, s59, tkOut_ret, tkBool_b, cOr]
 refine b3 ?_
 by_cases h : 1000 ≤ x.opn ∧ x.opn ≤ 3000
 ·rw [wr (by omega)]
  simp only [Bool.decide_and, Bool.not_and]
 ·simp [h]
theorem s67 (c : Cav) (s : Stg) (hB : c.slices.len < Big) : (E F (d + 2)).pf 67 [.agg (eCav c), .agg (eStg s)] = some (.ret (.bool (decide (StgOk c.slices.len s)))) := by
 rw [E_pf, t67]; simp only [s59, tkOut_ret, tkBool_b, cAnd]
 have hB' : c.slices.len < 4611686018427387904 := hB
 rw [wr (by omega)]
 refine b3 (b2 ?_)
 simp only [Bool.and_eq_true, decide_eq_true_iff, bne_iff_ne, ne_eq]
 omega
theorem s28 (c : Cav) (s : Stg) (hB : c.slices.len < Big) : (E F (d + 2)).pf 28 [.agg (eCav c), .agg (eStg s)] = some (.ret (.bool (decide (StgOk c.slices.len s)))) := by
 rw [E_pf, t28]; simp only [s64, tkOut_ret, tkBool_b, cAnd]
 have hB' : c.slices.len < 4611686018427387904 := hB
 rw [wr (by omega)]
 refine b3 (b2 ?_)
 simp only [Bool.and_eq_true, decide_eq_true_iff, bne_iff_ne, ne_eq]
 omega
theorem s108 (c : Cav) (s : Stg) (hB : c.slices.len < Big) : (E F (d + 3)).pf 108 [.agg (eStg s), .rptr 1 3 (fun _ => eCav c) 0 0] = some (.ret (.bool (!decide (StgOk c.slices.len s)))) := by
 rw [E_pf, t108]; simp only [s67 F d c s hB, tkOut_ret, tkBool_b]
theorem s58 (n : Int) : (E F (d + 2)).pf 58 [.int .i64 n] = some (.ret (.bool (decide (-1000 ≤ n ∧ n ≤ 1000)))) := by
 rw [E_pf, t58]; simp only [s59, tkOut_ret, tkBool_b]
theorem s61 (n : Int) : (E F (d + 3)).pf 61 [.int .i64 n, .rptr 1 1 (fun _ => [.fn (.func 58) [] []]) 0 0] = some (.ret (.bool (!decide (-1000 ≤ n ∧ n ≤ 1000)))) := by
 rw [E_pf, t61]; simp only [s58, tkOut_ret, tkBool_b]
theorem s105 (n : Int) : (E F (d + 2)).pf 105 [.int .i64 n] = some (.ret (.bool (!decide (0 ≤ n ∧ n ≤ 10000000000000)))) := by
 rw [E_pf, t105]; simp only [s59, tkOut_ret, tkBool_b]
def ixF (p : Nat → Bool) : Nat → Nat → Int
 | 0, _ => -1
 | n + 1, i => bif p i then (i : Int) else ixF p n (i + 1)
theorem ixF_ge (p : Nat → Bool) : ∀ n i, 0 ≤ ixF p n i ↔ ∃ k, i ≤ k ∧ k < i + n ∧ p k = true := by
 intro n
 induction n with
 | zero => intro i; simp only [ixF]; constructor <;> intro h
           ·omega
           ·obtain ⟨k, h1, h2, _⟩ := h; omega
 | succ n ih =>
  intro i
  simp only [ixF]
  cases h : p i
  ·rw [cond_false, ih]
   constructor
   ·rintro ⟨k, h1, h2, h3⟩; exact ⟨k, by omega, by omega, h3⟩
   ·rintro ⟨k, h1, h2, h3⟩
    refine ⟨k, ?_, by omega, h3⟩
    rcases Nat.eq_or_lt_of_le h1 with rfl | h4
    ·rw [h] at h3; cases h3
    ·omega
  ·rw [cond_true]
   exact ⟨fun _ => ⟨i, by omega, by omega, h⟩, fun _ => by omega⟩
theorem ge0 (p : Nat → Bool) (n : Nat) : (!decide (0 ≤ ixF p n 0)) = decide (∀ i, i < n → p i = false) := by
 apply b2
 rw [Bool.not_eq_true', decide_eq_false_iff_not, decide_eq_true_iff, ixF_ge]
 constructor
 ·intro h i hi
  cases hp : p i
  ·rfl
  ·exact (h ⟨i, by omega, by omega, hp⟩).elim
 ·rintro h ⟨k, _, h2, h3⟩
  rw [h k (by omega)] at h3; cases h3
theorem l111 (l : Sl Slc) (hB : l.len < Big) : ∀ n i fu, l.len = i + n → n < fu →
  L111x0 (E F (d + 2)) F l fu (i : Int) = some (.ret (.int .i64 (ixF (fun k => !decide (SlcOk (l.el k))) n i))) := by
 intro n
 induction n with
 | zero =>
  intro i fu h hf
  obtain ⟨fu, rfl⟩ : ∃ k, fu = k + 1 := ⟨fu - 1, by omega⟩
  rw [L111x0s]
  simp only [Int.ofNat_lt, show ¬ i < l.len by omega, decide_false, cond_false, ixF]
 | succ n ih =>
  intro i fu h hf
  obtain ⟨fu, rfl⟩ : ∃ k, fu = k + 1 := ⟨fu - 1, by omega⟩
  rw [L111x0s]
  simp only [Int.ofNat_lt, show i < l.len by omega, decide_true, cond_true, Int.natCast_nonneg, Int.toNat_natCast, s97, tkOut_ret, tkBool_b, wrS (show i < Big by omega), ih (i + 1) fu (by omega) (by omega), ixF]
  cases decide (SlcOk (l.el i)) <;> rfl
theorem l114 (c : Cav) (l : Sl Stg) (hC : c.slices.len < Big) (hB : l.len < Big) : ∀ n i fu, l.len = i + n → n < fu →
  L114x0 (E F (d + 3)) F c l fu (i : Int) = some (.ret (.int .i64 (ixF (fun k => !decide (StgOk c.slices.len (l.el k))) n i))) := by
 intro n
 induction n with
 | zero =>
  intro i fu h hf
  obtain ⟨fu, rfl⟩ : ∃ k, fu = k + 1 := ⟨fu - 1, by omega⟩
  rw [L114x0s]
  simp only [Int.ofNat_lt, show ¬ i < l.len by omega, decide_false, cond_false, ixF]
 | succ n ih =>
  intro i fu h hf
  obtain ⟨fu, rfl⟩ : ∃ k, fu = k + 1 := ⟨fu - 1, by omega⟩
  rw [L114x0s]
  simp only [Int.ofNat_lt, show i < l.len by omega, decide_true, cond_true, Int.natCast_nonneg, Int.toNat_natCast, s108 F d c _ hC, tkOut_ret, tkBool_b, wrS (show i < Big by omega), ih (i + 1) fu (by omega) (by omega), ixF]
  cases decide (StgOk c.slices.len (l.el i)) <;> rfl
theorem l9161 (w : Sl Int) (hB : w.len < Big) : ∀ n i fu, w.len = i + n → n < fu →
  L9161x0 (E F (d + 3)) F w fu (i : Int) = some (.ret (.int .i64 (ixF (fun k => !decide (-1000 ≤ w.el k ∧ w.el k ≤ 1000)) n i))) := by
 intro n
 induction n with
 | zero =>
  intro i fu h hf
  obtain ⟨fu, rfl⟩ : ∃ k, fu = k + 1 := ⟨fu - 1, by omega⟩
  rw [L9161x0s]
  simp only [Int.ofNat_lt, show ¬ i < w.len by omega, decide_false, cond_false, ixF]
 | succ n ih =>
  intro i fu h hf
  obtain ⟨fu, rfl⟩ : ∃ k, fu = k + 1 := ⟨fu - 1, by omega⟩
  rw [L9161x0s]
  simp only [Int.ofNat_lt, show i < w.len by omega, decide_true, cond_true, Int.natCast_nonneg, Int.toNat_natCast, s61, tkOut_ret, tkBool_b, wrS (show i < Big by omega), ih (i + 1) fu (by omega) (by omega), ixF]
  cases decide (-1000 ≤ w.el i ∧ w.el i ≤ 1000) <;> rfl
theorem l91105 (w : Sl Int) (hB : w.len < Big) : ∀ n i fu, w.len = i + n → n < fu →
  L91105x0 (E F (d + 2)) F w fu (i : Int) = some (.ret (.int .i64 (ixF (fun k => !decide (0 ≤ w.el k ∧ w.el k ≤ 10000000000000)) n i))) := by
 intro n
 induction n with
 | zero =>
  intro i fu h hf
  obtain ⟨fu, rfl⟩ : ∃ k, fu = k + 1 := ⟨fu - 1, by omega⟩
  rw [L91105x0s]
  simp only [Int.ofNat_lt, show ¬ i < w.len by omega, decide_false, cond_false, ixF]
 | succ n ih =>
  intro i fu h hf
  obtain ⟨fu, rfl⟩ : ∃ k, fu = k + 1 := ⟨fu - 1, by omega⟩
  rw [L91105x0s]
  simp only [Int.ofNat_lt, show i < w.len by omega, decide_true, cond_true, Int.natCast_nonneg, Int.toNat_natCast, s105, tkOut_ret, tkBool_b, wrS (show i < Big by omega), ih (i + 1) fu (by omega) (by omega), ixF]
  cases decide (0 ≤ w.el i ∧ w.el i ≤ 10000000000000) <;> rfl
theorem s96 (l : Sl Slc) (hB : l.len < Big) (hF : l.len < F) : (E F (d + 4)).pf 96 [sl eSlc 7 l, .fn (.func 97) [] []] = some (.ret (.bool (!decide (∀ i, i < l.len → SlcOk (l.el i))))) := by
 rw [E_pf, t96, E_pf, t111, show L111x0 (E F (d + 2)) F l F 0 = _ from l111 F d l hB l.len 0 F (by omega) hF]
 simp only [tkOut_ret, tkInt_i, decide_true, cond_true, ge_iff_le]
 refine b3 (Bool.not_inj ?_)
 rw [Bool.not_not]
 exact (ge0 _ _).trans (by simp only [Bool.not_eq_false', decide_eq_true_eq])
theorem s107 (c : Cav) (l : Sl Stg) (hC : c.slices.len < Big) (hB : l.len < Big) (hF : l.len < F) : (E F (d + 5)).pf 107 [sl eStg 4 l, .fn (.func 108) [] [.rptr 1 3 (fun _ => eCav c) 0 0]] = some (.ret (.bool (!decide (∀ i, i < l.len → StgOk c.slices.len (l.el i))))) := by
 rw [E_pf, t107, E_pf, t114, show L114x0 (E F (d + 3)) F c l F 0 = _ from l114 F d c l hC hB l.len 0 F (by omega) hF]
 simp only [tkOut_ret, tkInt_i, decide_true, cond_true, ge_iff_le]
 refine b3 (Bool.not_inj ?_)
 rw [Bool.not_not]
 exact (ge0 _ _).trans (by simp only [Bool.not_eq_false', decide_eq_true_eq])
theorem s6061 (w : Sl Int) (hB : w.len < Big) (hF : w.len < F) : (E F (d + 5)).pf 60 [sl eInt 1 w, .fn (.func 61) [] [.rptr 1 1 (fun _ => [.fn (.func 58) [] []]) 0 0]] = some (.ret (.bool (!decide (∀ i, i < w.len → -1000 ≤ w.el i ∧ w.el i ≤ 1000)))) := by
 rw [E_pf, t6061, E_pf, t9161, show L9161x0 (E F (d + 3)) F w F 0 = _ from l9161 F d w hB w.len 0 F (by omega) hF]
 simp only [tkOut_ret, tkInt_i, decide_true, cond_true, ge_iff_le]
 refine b3 (Bool.not_inj ?_)
 rw [Bool.not_not]
 exact (ge0 _ _).trans (by simp only [Bool.not_eq_false', decide_eq_true_eq])
theorem s60105 (w : Sl Int) (hB : w.len < Big) (hF : w.len < F) : (E F (d + 4)).pf 60 [sl eInt 1 w, .fn (.func 105) [] []] = some (.ret (.bool (!decide (∀ i, i < w.len → 0 ≤ w.el i ∧ w.el i ≤ 10000000000000)))) := by
 rw [E_pf, t60105, E_pf, t91105, show L91105x0 (E F (d + 2)) F w F 0 = _ from l91105 F d w hB w.len 0 F (by omega) hF]
 simp only [tkOut_ret, tkInt_i, decide_true, cond_true, ge_iff_le]
 refine b3 (Bool.not_inj ?_)
 rw [Bool.not_not]
 exact (ge0 _ _).trans (by simp only [Bool.not_eq_false', decide_eq_true_eq])
theorem s90 (c : Cav) (l : Sl Stg) (hC : c.slices.len < Big) (hB : l.len < Big) (hF : l.len < F) : (E F (d + 6)).pf 90 [.agg (eCav c), sl eStg 4 l] = some (.ret (.bool (decide (∀ i, i < l.len → StgOk c.slices.len (l.el i))))) := by
 rw [E_pf, t90]; simp only [s107 F d c l hC hB hF, tkOut_ret, tkBool_b, Bool.not_not]
theorem s66 (c : Cav) (hB : c.slices.len < Big) (hF : c.slices.len < F) : (E F (d + 5)).pf 66 [.agg (eCav c)] = some (.ret (.bool (decide (CavOk c)))) := by
 rw [E_pf, t66]; simp only [s59, s96 F d c.slices hB hF, tkOut_ret, tkBool_b, cAnd, Bool.not_not]
 refine b3 (b2 ?_)
 have e : ((1 : Int) ≤ (c.slices.len : Int) ∧ (c.slices.len : Int) ≤ 10) ↔ (1 ≤ c.slices.len ∧ c.slices.len ≤ 10) := by omega
 simp only [Bool.and_eq_true, decide_eq_true_iff, e, CavOk]
theorem s38 (c : Cav) (hB : c.slices.len < Big) (hF : c.slices.len < F) : (E F (d + 6)).pf 38 [.agg (eCav c)] = some (.ret (.int .i64 (bif decide (CavOk c) then 0 else 2))) := by
 rw [E_pf, t38]; simp only [s66 F d c hB hF, tkOut_ret, tkBool_b]
 cases decide (CavOk c) <;> rfl
theorem s57 (c : Cav) (l : Sl Stg) (hC : c.slices.len < Big) (hCF : c.slices.len < F) (hB : l.len < Big) (hF : l.len < F) : (E F (d + 7)).pf 57 [.agg (eCav c), sl eStg 4 l] =
  some (.ret (.int .i64 (if 8 < l.len then 3 else if CavOk c ∧ ∀ i, i < l.len → StgOk c.slices.len (l.el i) then 0 else 2))) := by
 rw [E_pf, t57]; simp only [s66 F (d + 1) c hC hCF, s90 F d c l hC hB hF, tkOut_ret, tkBool_b]
 by_cases h1 : 8 < l.len
 ·simp [h1, show (8 : Int) < (l.len : Int) by omega]
 ·simp only [show ¬ (8 : Int) < (l.len : Int) by omega, h1, decide_false, cond_false, if_false]
  by_cases h2 : CavOk c
  ·by_cases h3 : ∀ i, i < l.len → StgOk c.slices.len (l.el i)
   ·rw [if_pos ⟨h2, h3⟩, decide_eq_true h2, decide_eq_true h3]; rfl
   ·rw [if_neg (fun h => h3 h.2), decide_eq_true h2, decide_eq_false h3]; rfl
  ·rw [if_neg (fun h => h2 h.1), decide_eq_false h2]; rfl
end Go.Sim.Le


namespace Go.Sim.Le
open Go.Proofs
def allF (p : Nat → Bool) : Nat → Nat → Bool
 | 0, _ => true
 | n + 1, i => p i && allF p n (i + 1)
theorem allF_iff (p : Nat → Bool) : ∀ n i, allF p n i = true ↔ ∀ k, i ≤ k → k < i + n → p k = true := by
 intro n
 induction n with
 | zero => intro i; simp only [allF, true_iff]; intro k h1 h2; omega
 | succ n ih =>
  intro i
  simp only [allF, Bool.and_eq_true, ih]
  constructor
  ·rintro ⟨h1, h2⟩ k h3 h4
   rcases Nat.eq_or_lt_of_le h3 with rfl | h5
   ·exact h1
   ·exact h2 k h5 (by omega)
  ·intro h
   exact ⟨h i (Nat.le_refl _) (by omega), fun k h1 h2 => h k (by omega) (by omega)⟩
theorem allF_dec (p : Nat → Bool) (n : Nat) : allF p n 0 = decide (∀ i, i < n → p i = true) := by
 apply b2
 rw [allF_iff, decide_eq_true_iff]
 exact ⟨fun h i hi => h i (Nat.zero_le _) (by omega), fun h i _ hi => h i (by omega)⟩
theorem cStep (p a : Bool) : (bif !p then some (Out.ret (.bool false)) else some (.ret (.bool a))) = some (.ret (.bool (p && a))) := by cases p <;> rfl
variable (F d : Nat)
theorem l27 (c : Cav) (hB : c.slices.len < Big) : ∀ n i fu, c.slices.len = i + n → n < fu →
  L27x0 (E F (d + 1)) F c fu (i : Int) = some (.ret (.bool (allF (fun k => decide (SlcOk (c.slices.el k))) n i && (decide (1 ≤ c.slices.len ∧ c.slices.len ≤ 10) && (decide (1 ≤ c.hold ∧ c.hold ≤ 300) && decide (0 ≤ c.oil ∧ c.oil ≤ 10000000000000)))))) := by
 intro n
 induction n with
 | zero =>
  intro i fu h hf
  obtain ⟨fu, rfl⟩ : ∃ k, fu = k + 1 := ⟨fu - 1, by omega⟩
  rw [L27x0s]
  simp only [Int.ofNat_lt, show ¬ i < c.slices.len by omega, decide_false, cond_false, allF, s64, tkOut_ret, tkBool_b, cAnd]
  have e : ((1 : Int) ≤ (c.slices.len : Int) ∧ (c.slices.len : Int) ≤ 10) ↔ (1 ≤ c.slices.len ∧ c.slices.len ≤ 10) := by omega
  simp only [e, Bool.true_and]
 | succ n ih =>
  intro i fu h hf
  obtain ⟨fu, rfl⟩ : ∃ k, fu = k + 1 := ⟨fu - 1, by omega⟩
  rw [L27x0s]
  simp only [Int.ofNat_lt, show i < c.slices.len by omega, decide_true, cond_true, Int.natCast_nonneg, Int.toNat_natCast, s64, s70, tkOut_ret, tkBool_b, wrS (show i < Big by omega), ih (i + 1) fu (by omega) (by omega), allF, cStep]
  refine b3 ?_
  generalize (c.slices.el i) = x
  by_cases h : 1000 ≤ x.opn ∧ x.opn ≤ 3000
  ·rw [wr (by omega)]
   simp only [Bool.decide_and, Bool.and_assoc]
  ·simp [h]
theorem s27 (c : Cav) (hB : c.slices.len < Big) (hF : c.slices.len < F) : (E F (d + 2)).pf 27 [.agg (eCav c)] = some (.ret (.bool (decide (CavOk c)))) := by
 rw [E_pf, t27, show L27x0 (E F (d + 1)) F c F 0 = _ from l27 F d c hB c.slices.len 0 F (by omega) hF, allF_dec]
 refine b3 (b2 ?_)
 simp only [Bool.and_eq_true, decide_eq_true_iff]
 exact ⟨fun ⟨a, b, e, f⟩ => ⟨b, e, f, a⟩, fun ⟨a, b, e, f⟩ => ⟨f, a, b, e⟩⟩
theorem l63 (c : Cav) (l : Sl Stg) (hC : c.slices.len < Big) (hB : l.len < Big) : ∀ n i fu, l.len = i + n → n < fu →
  L63x0 (E F (d + 2)) F c l fu (i : Int) = some (.ret (.bool (allF (fun k => decide (StgOk c.slices.len (l.el k))) n i))) := by
 intro n
 induction n with
 | zero =>
  intro i fu h hf
  obtain ⟨fu, rfl⟩ : ∃ k, fu = k + 1 := ⟨fu - 1, by omega⟩
  rw [L63x0s]
  simp only [Int.ofNat_lt, show ¬ i < l.len by omega, decide_false, cond_false, allF]
 | succ n ih =>
  intro i fu h hf
  obtain ⟨fu, rfl⟩ : ∃ k, fu = k + 1 := ⟨fu - 1, by omega⟩
  rw [L63x0s]
  simp only [Int.ofNat_lt, show i < l.len by omega, decide_true, cond_true, Int.natCast_nonneg, Int.toNat_natCast, s28 F d c _ hC, tkOut_ret, tkBool_b, wrS (show i < Big by omega), ih (i + 1) fu (by omega) (by omega), allF, cStep]
theorem s63 (c : Cav) (l : Sl Stg) (hC : c.slices.len < Big) (hB : l.len < Big) (hF : l.len < F) : (E F (d + 3)).pf 63 [.agg (eCav c), sl eStg 4 l] = some (.ret (.bool (decide (∀ i, i < l.len → StgOk c.slices.len (l.el i))))) := by
 rw [E_pf, t63, show L63x0 (E F (d + 2)) F c l F 0 = _ from l63 F d c l hC hB l.len 0 F (by omega) hF, allF_dec]
 simp only [decide_eq_true_eq]
theorem l24 (c : Cav) (w : Sl Int) (m : Int) (hC : c.slices.len < Big) (hB : w.len < Big) : ∀ n i fu, w.len = i + n → n < fu →
  L24x0 (E F (d + 1)) F c w m fu (i : Int) = some (.ret (.bool (allF (fun k => decide (-1000 ≤ w.el k ∧ w.el k ≤ 1000)) n i && (decide (w.len = c.slices.len) && decide (-1000 ≤ m ∧ m ≤ 1000))))) := by
 intro n
 induction n with
 | zero =>
  intro i fu h hf
  obtain ⟨fu, rfl⟩ : ∃ k, fu = k + 1 := ⟨fu - 1, by omega⟩
  rw [L24x0s]
  simp only [Int.ofNat_lt, show ¬ i < w.len by omega, decide_false, cond_false, allF, s64, tkOut_ret, tkBool_b, cAnd, Bool.true_and]
  have e : ((w.len : Int) == (c.slices.len : Int)) = decide (w.len = c.slices.len) := by
   apply b2; rw [beq_iff_eq, decide_eq_true_iff]; omega
  rw [e]
 | succ n ih =>
  intro i fu h hf
  obtain ⟨fu, rfl⟩ : ∃ k, fu = k + 1 := ⟨fu - 1, by omega⟩
  rw [L24x0s]
  simp only [Int.ofNat_lt, show i < w.len by omega, decide_true, cond_true, Int.natCast_nonneg, Int.toNat_natCast, s64, tkOut_ret, tkBool_b, wrS (show i < Big by omega), ih (i + 1) fu (by omega) (by omega), allF, cStep, Bool.and_assoc]
abbrev WtOk (c : Cav) (w : Sl Int) (m : Int) : Prop := (∀ i, i < w.len → -1000 ≤ w.el i ∧ w.el i ≤ 1000) ∧ w.len = c.slices.len ∧ (-1000 ≤ m ∧ m ≤ 1000)
theorem s24 (c : Cav) (w : Sl Int) (m : Int) (hC : c.slices.len < Big) (hB : w.len < Big) (hF : w.len < F) : (E F (d + 2)).pf 24 [.agg (eCav c), sl eInt 1 w, .int .i64 m] = some (.ret (.bool (decide (WtOk c w m)))) := by
 rw [E_pf, t24, show L24x0 (E F (d + 1)) F c w m F 0 = _ from l24 F d c w m hC hB w.len 0 F (by omega) hF, allF_dec]
 refine b3 (b2 ?_)
 simp only [Bool.and_eq_true, decide_eq_true_iff, WtOk]
theorem l76 (c : Cav) (w : Sl Int) (hC : c.slices.len < Big) (hB : w.len < Big) : ∀ n i fu, w.len = i + n → n < fu →
  L76x0 (E F (d + 1)) F c w fu (i : Int) = some (.ret (.bool (allF (fun k => decide (0 ≤ w.el k ∧ w.el k ≤ 10000000000000)) n i && decide (w.len = c.slices.len)))) := by
 intro n
 induction n with
 | zero =>
  intro i fu h hf
  obtain ⟨fu, rfl⟩ : ∃ k, fu = k + 1 := ⟨fu - 1, by omega⟩
  rw [L76x0s]
  have e : ((w.len : Int) == (c.slices.len : Int)) = decide (w.len = c.slices.len) := by
   apply b2; rw [beq_iff_eq, decide_eq_true_iff]; omega
  simp only [Int.ofNat_lt, show ¬ i < w.len by omega, decide_false, cond_false, allF, Bool.true_and, e]
 | succ n ih =>
  intro i fu h hf
  obtain ⟨fu, rfl⟩ : ∃ k, fu = k + 1 := ⟨fu - 1, by omega⟩
  rw [L76x0s]
  simp only [Int.ofNat_lt, show i < w.len by omega, decide_true, cond_true, Int.natCast_nonneg, Int.toNat_natCast, s64, tkOut_ret, tkBool_b, wrS (show i < Big by omega), ih (i + 1) fu (by omega) (by omega), allF, cStep, Bool.and_assoc]
abbrev WantOk (c : Cav) (w : Sl Int) : Prop := (∀ i, i < w.len → 0 ≤ w.el i ∧ w.el i ≤ 10000000000000) ∧ w.len = c.slices.len
theorem s76 (c : Cav) (w : Sl Int) (hC : c.slices.len < Big) (hB : w.len < Big) (hF : w.len < F) : (E F (d + 2)).pf 76 [.agg (eCav c), sl eInt 1 w] = some (.ret (.bool (decide (WantOk c w)))) := by
 rw [E_pf, t76, show L76x0 (E F (d + 1)) F c w F 0 = _ from l76 F d c w hC hB w.len 0 F (by omega) hF, allF_dec]
 refine b3 (b2 ?_)
 simp only [Bool.and_eq_true, decide_eq_true_iff, WantOk]
abbrev SameI (a b : Sl Int) : Prop := a.len = b.len ∧ ∀ i, i < a.len → a.el i = b.el i
abbrev SameP (a b : Sl Span) : Prop := a.len = b.len ∧ ∀ i, i < a.len → a.el i = b.el i
theorem l35 (a b : Sl Int) (hB : a.len < Big) (hl : a.len = b.len) : ∀ n i fu, a.len = i + n → n < fu →
  L35x0 (E F d) F a b fu (i : Int) = some (.ret (.bool (allF (fun k => a.el k == b.el k) n i))) := by
 intro n
 induction n with
 | zero =>
  intro i fu h hf
  obtain ⟨fu, rfl⟩ : ∃ k, fu = k + 1 := ⟨fu - 1, by omega⟩
  rw [L35x0s]
  simp only [Int.ofNat_lt, show ¬ i < a.len by omega, decide_false, cond_false, allF]
 | succ n ih =>
  intro i fu h hf
  obtain ⟨fu, rfl⟩ : ∃ k, fu = k + 1 := ⟨fu - 1, by omega⟩
  rw [L35x0s]
  simp only [Int.ofNat_lt, show i < a.len by omega, show i < b.len by omega, decide_true, cond_true, Int.natCast_nonneg, Int.toNat_natCast, wrS (show i < Big by omega), ih (i + 1) fu (by omega) (by omega), allF, bne, cStep]
theorem s35 (a b : Sl Int) (hB : a.len < Big) (hF : a.len < F) : (E F (d + 1)).pf 35 [sl eInt 1 a, sl eInt 1 b] = some (.ret (.bool (decide (SameI a b)))) := by
 rw [E_pf, t35]
 by_cases h : a.len = b.len
 ·rw [show L35x0 (E F d) F a b F 0 = _ from l35 F d a b hB h a.len 0 F (by omega) hF, allF_dec]
  rw [show ((a.len : Int) != (b.len : Int)) = false by rw [h]; simp, cond_false]
  refine b3 (b2 ?_)
  simp only [decide_eq_true_iff, beq_iff_eq]
  exact ⟨fun g => ⟨h, g⟩, fun g => g.2⟩
 ·rw [show ((a.len : Int) != (b.len : Int)) = true by simp; omega, cond_true]
  exact b3 (Eq.symm (decide_eq_false fun g => h g.1))
theorem spanEq (p q : Span) : ((p.lo == q.lo) && ((p.hi == q.hi) && true)) = decide (p = q) := by
 apply b2
 simp only [Bool.and_eq_true, beq_iff_eq, decide_eq_true_iff, Bool.and_true]
 cases p; cases q; simp
theorem l40 (a b : Sl Span) (hB : a.len < Big) (hl : a.len = b.len) : ∀ n i fu, a.len = i + n → n < fu →
  L40x0 (E F d) F a b fu (i : Int) = some (.ret (.bool (allF (fun k => decide (a.el k = b.el k)) n i))) := by
 intro n
 induction n with
 | zero =>
  intro i fu h hf
  obtain ⟨fu, rfl⟩ : ∃ k, fu = k + 1 := ⟨fu - 1, by omega⟩
  rw [L40x0s]
  simp only [Int.ofNat_lt, show ¬ i < a.len by omega, decide_false, cond_false, allF]
 | succ n ih =>
  intro i fu h hf
  obtain ⟨fu, rfl⟩ : ∃ k, fu = k + 1 := ⟨fu - 1, by omega⟩
  rw [L40x0s]
  simp only [Int.ofNat_lt, show i < a.len by omega, show i < b.len by omega, decide_true, cond_true, Int.natCast_nonneg, Int.toNat_natCast, wrS (show i < Big by omega), ih (i + 1) fu (by omega) (by omega), allF, spanEq, cStep]
theorem s40 (a b : Sl Span) (hB : a.len < Big) (hF : a.len < F) : (E F (d + 1)).pf 40 [sl eSpan 2 a, sl eSpan 2 b] = some (.ret (.bool (decide (SameP a b)))) := by
 rw [E_pf, t40]
 by_cases h : a.len = b.len
 ·rw [show L40x0 (E F d) F a b F 0 = _ from l40 F d a b hB h a.len 0 F (by omega) hF, allF_dec]
  rw [show ((a.len : Int) != (b.len : Int)) = false by rw [h]; simp, cond_false]
  refine b3 (b2 ?_)
  simp only [decide_eq_true_iff]
  exact ⟨fun g => ⟨h, g⟩, fun g => g.2⟩
 ·rw [show ((a.len : Int) != (b.len : Int)) = true by simp; omega, cond_true]
  exact b3 (Eq.symm (decide_eq_false fun g => h g.1))
def errP (c : Cav) (l : Sl Stg) (fine : Bool) : Int := if 8 < l.len then 3 else if CavOk c ∧ (∀ i, i < l.len → StgOk c.slices.len (l.el i)) ∧ fine = true then 0 else 2
theorem s23 (c : Cav) (l : Sl Stg) (b : Bool) (hC : c.slices.len < Big) (hCF : c.slices.len < F) (hB : l.len < Big) (hF : l.len < F) : (E F (d + 4)).pf 23 [.agg (eCav c), sl eStg 4 l, .bool b] = some (.ret (.int .i64 (errP c l b))) := by
 rw [E_pf, t23]; simp only [s27 F (d + 1) c hC hCF, s63 F d c l hC hB hF, tkOut_ret, tkBool_b, errP]
 by_cases h1 : 8 < l.len
 ·simp [h1, show (8 : Int) < (l.len : Int) by omega]
 ·simp only [show ¬ ((l.len : Int) > 8) by omega, h1, decide_false, cond_false, if_false]
  by_cases h2 : CavOk c
  ·by_cases h3 : ∀ i, i < l.len → StgOk c.slices.len (l.el i)
   ·cases b
    ·rw [if_neg (fun h => by cases h.2.2), decide_eq_true h2, decide_eq_true h3]; rfl
    ·rw [if_pos ⟨h2, h3, rfl⟩, decide_eq_true h2, decide_eq_true h3]; rfl
   ·rw [if_neg (fun h => h3 h.2.1), decide_eq_true h2, decide_eq_false h3]; rfl
  ·rw [if_neg (fun h => h2 h.1), decide_eq_false h2]; rfl
theorem s57e (c : Cav) (l : Sl Stg) (hC : c.slices.len < Big) (hCF : c.slices.len < F) (hB : l.len < Big) (hF : l.len < F) : (E F (d + 7)).pf 57 [.agg (eCav c), sl eStg 4 l] = some (.ret (.int .i64 (errP c l true))) := by
 rw [s57 F d c l hC hCF hB hF]; simp [errP]
def errM (c : Cav) (l : Sl Stg) (w : Sl Int) : Int := if 6 < l.len then 3 else if CavOk c ∧ l.len ≠ 0 ∧ (∀ i, i < l.len → StgOk c.slices.len (l.el i)) ∧ WantOk c w then 0 else 2
theorem s32 (c : Cav) (l : Sl Stg) (w : Sl Int) (hC : c.slices.len < Big) (hCF : c.slices.len < F) (hB : l.len < Big) (hF : l.len < F) (hW : w.len < Big) (hWF : w.len < F) : (E F (d + 4)).pf 32 [.agg (eCav c), sl eStg 4 l, sl eInt 1 w] = some (.ret (.int .i64 (errM c l w))) := by
 rw [E_pf, t32]; simp only [s27 F (d + 1) c hC hCF, s63 F d c l hC hB hF, s76 F (d + 1) c w hC hW hWF, tkOut_ret, tkBool_b, errM]
 have e : ((l.len : Int) == 0) = decide (l.len = 0) := by apply b2; rw [beq_iff_eq, decide_eq_true_iff]; omega
 by_cases h1 : 6 < l.len
 ·simp [h1, show (6 : Int) < (l.len : Int) by omega]
 ·simp only [show ¬ ((l.len : Int) > 6) by omega, h1, decide_false, cond_false, if_false, e]
  by_cases h2 : CavOk c
  ·by_cases h0 : l.len = 0
   ·rw [if_neg (fun h => h.2.1 h0), decide_eq_true h2, decide_eq_true h0]; rfl
   by_cases h3 : ∀ i, i < l.len → StgOk c.slices.len (l.el i)
   ·by_cases h4 : WantOk c w
    ·rw [if_pos ⟨h2, h0, h3, h4⟩, decide_eq_true h2, decide_eq_true h3, decide_eq_true h4, decide_eq_false h0]; rfl
    ·rw [if_neg (fun h => h4 h.2.2.2), decide_eq_true h2, decide_eq_true h3, decide_eq_false h4, decide_eq_false h0]; rfl
   ·rw [if_neg (fun h => h3 h.2.2.1), decide_eq_true h2, decide_eq_false h3, decide_eq_false h0]; rfl
  ·rw [if_neg (fun h => h2 h.1), decide_eq_false h2]; rfl
theorem s77 (c : Cav) (l : Sl Stg) (w : Sl Int) (hC : c.slices.len < Big) (hCF : c.slices.len < F) (hB : l.len < Big) (hF : l.len < F) (hW : w.len < Big) (hWF : w.len < F) : (E F (d + 7)).pf 77 [.agg (eCav c), sl eStg 4 l, sl eInt 1 w] = some (.ret (.int .i64 (errM c l w))) := by
 rw [E_pf, t77]; simp only [s66 F (d + 1) c hC hCF, s90 F d c l hC hB hF, s60105 F (d + 2) w hW hWF, tkOut_ret, tkBool_b, errM]
 have e : ((l.len : Int) == 0) = decide (l.len = 0) := by apply b2; rw [beq_iff_eq, decide_eq_true_iff]; omega
 have e' : ((w.len : Int) != (c.slices.len : Int)) = !decide (w.len = c.slices.len) := by apply b2; simp; omega
 by_cases h1 : 6 < l.len
 ·simp [h1, show (6 : Int) < (l.len : Int) by omega]
 ·simp only [show ¬ ((l.len : Int) > 6) by omega, h1, decide_false, cond_false, if_false, e, e']
  by_cases h2 : CavOk c
  ·by_cases h0 : l.len = 0
   ·rw [if_neg (fun h => h.2.1 h0), decide_eq_true h2, decide_eq_true h0]; rfl
   by_cases h3 : ∀ i, i < l.len → StgOk c.slices.len (l.el i)
   ·by_cases h4 : w.len = c.slices.len
    ·by_cases h5 : ∀ i, i < w.len → 0 ≤ w.el i ∧ w.el i ≤ 10000000000000
     ·rw [if_pos ⟨h2, h0, h3, h5, h4⟩, decide_eq_true h2, decide_eq_true h3, decide_eq_true h4, decide_eq_true h5, decide_eq_false h0]; rfl
     ·rw [if_neg (fun h => h5 h.2.2.2.1), decide_eq_true h2, decide_eq_true h3, decide_eq_true h4, decide_eq_false h5, decide_eq_false h0]; rfl
    ·rw [if_neg (fun h => h4 h.2.2.2.2), decide_eq_true h2, decide_eq_true h3, decide_eq_false h4, decide_eq_false h0]; rfl
   ·rw [if_neg (fun h => h3 h.2.2.1), decide_eq_true h2, decide_eq_false h3, decide_eq_false h0]; rfl
  ·rw [if_neg (fun h => h2 h.1), decide_eq_false h2]; rfl
end Go.Sim.Le


namespace Go.Sim.Le
open Go.Proofs
section
variable {α : Type} (e : α → List V) (z : α)
def gl (ms : List α) : Nat → List V := fun j => e (ms.getD j (ms.getLastD z))
variable {e z}
theorem gl_one {l : List V} {m : α} (hl : l = e m) : (fun _ : Nat => l) = gl e z [m] := by
 subst hl
 funext j
 unfold gl
 cases j <;> rfl
theorem gl_snoc {l : List V} {m : α} {ms : List α} {k : Nat} (hk : ms.length = k) (hl : l = e m) : appGet k (gl e z ms) (fun _ => l) = gl e z (ms ++ [m]) := by
 subst hl hk
 funext j
 unfold appGet gl
 rw [List.getLastD_concat, List.getD_eq_getElem?_getD, List.getD_eq_getElem?_getD]
 by_cases h : j < ms.length
 ·rw [if_pos h, List.getElem?_append_left h, List.getElem?_eq_getElem h]; rfl
 ·rw [if_neg h, List.getElem?_append_right (by omega)]
  rcases Nat.eq_zero_or_pos (j - ms.length) with h0 | h0
  ·rw [h0]; rfl
  ·rw [List.getElem?_eq_none (by simp; omega)]; rfl
end
def pathN (s : Stg) : Nat := if s.out < s.into then (s.into - s.out).toNat + 1 else (s.out - s.into).toNat + 1
def stepOf (s : Stg) : Int := if s.out < s.into then -1 else 1
def pathAt (s : Stg) (k : Nat) : Int := s.into + stepOf s * (k : Int)
theorem pathAt_0 (s : Stg) : pathAt s 0 = s.into := by simp [pathAt]
theorem pathAt_last (s : Stg) : pathAt s (pathN s - 1) = s.out := by
 unfold pathAt pathN stepOf
 split
 ·rw [show (((s.into - s.out).toNat + 1 - 1 : Nat) : Int) = s.into - s.out by omega]; omega
 ·rw [show (((s.out - s.into).toNat + 1 - 1 : Nat) : Int) = s.out - s.into by omega]; omega
theorem pathN_pos (s : Stg) : 1 ≤ pathN s := by unfold pathN; split <;> omega
theorem pathAt_ne (s : Stg) {k : Nat} (h : k + 1 < pathN s) : pathAt s k ≠ s.out := by
 unfold pathAt stepOf
 unfold pathN at h
 split at h
 ·rename_i hd; rw [if_pos hd]; omega
 ·rename_i hd; rw [if_neg hd]; omega
theorem pathAt_in {n : Nat} {s : Stg} (hs : StgOk n s) {k : Nat} (h : k < pathN s) : 0 ≤ pathAt s k ∧ pathAt s k < n := by
 obtain ⟨_, h1, h2, h3, _⟩ := hs
 unfold pathAt stepOf
 unfold pathN at h
 split at h
 ·rename_i hd; rw [if_pos hd]; omega
 ·rename_i hd; rw [if_neg hd]; omega
theorem pathN_le {n : Nat} {s : Stg} (hs : StgOk n s) : pathN s ≤ n := by
 obtain ⟨_, h1, h2, h3, _⟩ := hs
 unfold pathN
 split <;> omega
theorem pathAt_S (s : Stg) (k : Nat) : pathAt s (k + 1) = pathAt s k + stepOf s := by
 unfold pathAt
 rw [Int.natCast_add, Int.mul_add]
 simp [Int.add_assoc]
def pathL (s : Stg) (n : Nat) : List Int := (List.range n).map (pathAt s)
theorem pathL_S (s : Stg) (n : Nat) : pathL s (n + 1) = pathL s n ++ [pathAt s n] := by
 unfold pathL; rw [List.range_succ, List.map_append]; rfl
theorem pathL_len (s : Stg) (n : Nat) : (pathL s n).length = n := by simp [pathL]
theorem pathL_get (s : Stg) {n j : Nat} (h : j < n) (z : Int) : (pathL s n).getD j z = pathAt s j := by
 unfold pathL
 rw [List.getD_eq_getElem?_getD, List.getElem?_map, List.getElem?_range h]; rfl
variable (F d : Nat)
def pathSl (s : Stg) : Sl Int := ⟨false, pathN s, fun j => (pathL s (pathN s)).getD j ((pathL s (pathN s)).getLastD 0)⟩
theorem pathSl_el (s : Stg) {j : Nat} (h : j < pathN s) : (pathSl s).el j = pathAt s j := pathL_get s h _
theorem gl_at (s : Stg) {k j : Nat} (h : j < k) : gl eInt 0 (pathL s k) j = [.int .i64 (pathAt s j)] := by
 unfold gl; rw [pathL_get s h]
theorem l83 {n : Nat} (s : Stg) (hs : StgOk n s) (hn : n ≤ 10) : ∀ j k fu, k + j = pathN s → 1 ≤ k → j < fu → L83x0 (E F d) F s fu (stepOf s) k k (gl eInt 0 (pathL s k)) = some (.ret (sl eInt 1 (pathSl s))) := by
 intro j
 have hp := pathN_le hs
 induction j with
 | zero =>
  intro k fu h hk hf
  obtain ⟨fu, rfl⟩ : ∃ k, fu = k + 1 := ⟨fu - 1, by omega⟩
  have hk' : k = pathN s := by omega
  subst hk'
  rw [L83x0s, wr (by omega)]
  simp only [show (0 : Int) ≤ (pathN s : Int) - 1 by omega, show (pathN s : Int) - 1 < (pathN s : Int) by omega, decide_true, cond_true, show ((pathN s : Int) - 1).toNat = pathN s - 1 by omega, gl_at s (show pathN s - 1 < pathN s by omega), tkCons_c, tkInt_i, pathAt_last,
   bne_self_eq_false, cond_false]
  rfl
 | succ j ih =>
  intro k fu h hk hf
  obtain ⟨fu, rfl⟩ : ∃ k, fu = k + 1 := ⟨fu - 1, by omega⟩
  have hne : (pathAt s (k - 1) != s.out) = true := by
   have := pathAt_ne s (k := k - 1) (by omega)
   simpa using this
  have hin := pathAt_in hs (k := k - 1) (by omega)
  have hS : pathAt s (k - 1) + stepOf s = pathAt s k := by rw [← pathAt_S, show k - 1 + 1 = k by omega]
  have hin2 := pathAt_in hs (k := k) (by omega)
  rw [L83x0s, wr (by omega)]
  simp only [show (0 : Int) ≤ (k : Int) - 1 by omega, show (k : Int) - 1 < (k : Int) by omega, decide_true, cond_true, show ((k : Int) - 1).toNat = k - 1 by omega, gl_at s (show k - 1 < k by omega), tkCons_c, tkInt_i, hne, show (k + 1) * 8 ≤ 140737488355328 by omega, hS]
  rw [wr (by omega)]
  refine (congrArg (L83x0 (E F d) F s fu (stepOf s) (k + 1) (k + 1)) (gl_snoc (pathL_len s k) rfl)).trans ?_
  rw [← pathL_S]
  exact ih (k + 1) fu (by omega) (by omega) (by omega)
theorem s83 {n : Nat} (s : Stg) (hs : StgOk n s) (hn : n ≤ 10) (hF : 10 < F) : (E F (d + 1)).pf 83 [.agg (eStg s)] = some (.ret (sl eInt 1 (pathSl s))) := by
 have hp := pathN_le hs
 have hp1 := pathN_pos s
 have h1 : (fun _ : Nat => [V.int .i64 s.into]) = gl eInt 0 (pathL s 1) := by
  rw [show pathL s 1 = [s.into] by simp [pathL, pathAt_0]]
  exact gl_one rfl
 have h2 := l83 F d s hs hn (pathN s - 1) 1 F (by omega) (by omega) (by omega)
 rw [← h1] at h2
 rw [E_pf, t83]
 unfold stepOf at h2
 by_cases h : s.out < s.into
 ·rw [if_pos h] at h2
  rw [decide_eq_true h, cond_true]; exact h2
 ·rw [if_neg h] at h2
  rw [decide_eq_false h, cond_false]; exact h2
theorem s68 (s : Stg) : (E F (d + 1)).pf 68 [.agg (eStg s)] = some (.ret (.fn (.func 99) [] [.rptr 1 4 (fun _ => eStg s) 0 0])) := by
 rw [E_pf, t68]
end Go.Sim.Le


namespace Go.Sim.Le
open Go.Proofs
variable (F d : Nat)
def timesS (p : Span) (n : Int) : Span := if n < 0 then ⟨n * p.hi, n * p.lo⟩ else ⟨n * p.lo, n * p.hi⟩
abbrev I64 (n : Int) : Prop := -9223372036854775808 ≤ n ∧ n ≤ 9223372036854775807
theorem s86 (p : Span) (n : Int) (h1 : I64 (n * p.lo)) (h2 : I64 (n * p.hi)) : (E F (d + 1)).pf 86 [.agg (eSpan p), .int .i64 n] = some (.ret (.agg (eSpan (timesS p n)))) := by
 rw [E_pf, t86, wr h1, wr h2]
 unfold timesS
 by_cases h : n < 0
 ·rw [decide_eq_true h, cond_true, if_pos h]
 ·rw [decide_eq_false h, cond_false, if_neg h]
def gainI (c : Cav) (m : Mea) (i : Nat) : Int := (c.slices.el i).opn * m.weights.el i + (c.slices.el i).fall * m.sump
theorem s110 (c : Cav) (m : Mea) (n : Int) (h0 : 0 ≤ n) (h1 : n < c.slices.len) (hl : m.weights.len = c.slices.len) (hw : I64 ((c.slices.el n.toNat).opn * m.weights.el n.toNat)) (hv : I64 ((c.slices.el n.toNat).fall * m.sump)) (hg : I64 (gainI c m n.toNat)) :
  (E F (d + 1)).pf 110 [.agg (eCav c), .agg (eMea m), .int .i64 n] = some (.ret (.int .i64 (gainI c m n.toNat))) := by
 rw [E_pf, t110, wr hw, wr hv]
 simp only [h0, h1, show n < (m.weights.len : Int) by omega, decide_true, cond_true]
 unfold gainI at hg ⊢
 rw [wr hg]
end Go.Sim.Le


namespace Go.Sim.Le
open Go.Proofs
theorem mnE (a b : Int) : (if b < a then b else a) = min a b := by omega
theorem mxE (a b : Int) : (if a < b then b else a) = max a b := by omega
abbrev slAt (c : Cav) (s : Stg) (k : Nat) : Slc := c.slices.el (pathAt s k).toNat
def sumLo (c : Cav) (s : Stg) : Nat → Int
 | 0 => 0
 | k + 1 => sumLo c s k + (slAt c s k).rate.lo
def sumHi (c : Cav) (s : Stg) : Nat → Int
 | 0 => 0
 | k + 1 => sumHi c s k + (slAt c s k).rate.hi
def rtK (c : Cav) (s : Stg) (k : Nat) : Span := ⟨min (slAt c s k).rate.lo (max 0 (c.hold - sumHi c s k)), min (slAt c s k).rate.hi (max 0 (c.hold - sumLo c s k))⟩
def rtRow (c : Cav) (s : Stg) : Nat → Nat → Span
 | 0 => fun _ => ⟨0, 0⟩
 | k + 1 => fun j => if j = (pathAt s k).toNat then rtK c s k else rtRow c s k j
def rateSl (c : Cav) (s : Stg) : Sl Span := ⟨false, c.slices.len, rtRow c s (pathN s)⟩
theorem slcOk_at {c : Cav} (hc : CavOk c) {s : Stg} (hs : StgOk c.slices.len s) {k : Nat} (h : k < pathN s) : SlcOk (slAt c s k) := by
 have := pathAt_in hs h
 exact hc.2.2.2 _ (by omega)
theorem sumLo_in {c : Cav} (hc : CavOk c) {s : Stg} (hs : StgOk c.slices.len s) : ∀ k, k ≤ pathN s → 0 ≤ sumLo c s k ∧ sumLo c s k ≤ sumHi c s k ∧ sumHi c s k ≤ 300 * k := by
 intro k
 induction k with
 | zero => intro _; simp [sumLo, sumHi]
 | succ k ih =>
  intro h
  have h1 := ih (by omega)
  have h2 := (slcOk_at hc hs (k := k) (by omega)).2.2.2.1
  unfold SpanIn at h2
  simp only [sumLo, sumHi]
  omega
theorem upd_span (r : Nat → Span) (n : Nat) (p : Span) : updGet (fun j => eSpan (r j)) n 0 (eSpan p) = fun j => eSpan (if j = n then p else r j) := by
 funext j
 unfold updGet
 by_cases h : j = n
 ·rw [if_pos h, if_pos h]; rfl
 ·rw [if_neg h, if_neg h]
variable (F d : Nat)
theorem l82 (c : Cav) (hc : CavOk c) (s : Stg) (hs : StgOk c.slices.len s) : ∀ j k fu, k + 1 + j = pathN s → j < fu →
  L82x0 (E F d) F c s fu (fun _ => eStg s) (stepOf s) .i64 (pathAt s k) (min c.hold (sumLo c s k)) (min c.hold (sumHi c s k)) (fun i => eSpan (rtRow c s k i)) (fun _ => eStg s) = some (.ret (sl eSpan 2 (rateSl c s))) := by
 intro j
 have hp := pathN_le hs
 have hl := hc.1
 have hH := hc.2.1
 induction j with
 | zero =>
  intro k fu h hf
  obtain ⟨fu, rfl⟩ : ∃ k, fu = k + 1 := ⟨fu - 1, by omega⟩
  have hin := pathAt_in hs (k := k) (by omega)
  have hsm := sumLo_in hc hs k (by omega)
  have hk' : k = pathN s - 1 := by omega
  have e1 : pathAt s k = s.out := by rw [hk', pathAt_last]
  rw [L82x0s]
  simp (disch := omega) only [wr, decide_eq_true, decide_true, cond_true, List.drop, tkCons_c, tkInt_i, show (pathAt s k != s.out) = false by simp [e1], cond_false, mnE, Int.toNat_natCast]
  have e2 : pathN s = k + 1 := by omega
  simp only [sl, rateSl]
  rw [e2]
  have := upd_span (rtRow c s k) (pathAt s k).toNat (rtK c s k)
  refine congrArg (fun g => some (Out.ret (V.row false c.slices.len 2 g))) ?_
  refine Eq.trans ?_ this
  unfold rtK
  rw [show c.hold - min c.hold (sumHi c s k) = max 0 (c.hold - sumHi c s k) by omega, show c.hold - min c.hold (sumLo c s k) = max 0 (c.hold - sumLo c s k) by omega]
 | succ j ih =>
  intro k fu h hf
  obtain ⟨fu, rfl⟩ : ∃ k, fu = k + 1 := ⟨fu - 1, by omega⟩
  have hin := pathAt_in hs (k := k) (by omega)
  have hsm := sumLo_in hc hs k (by omega)
  have hok : SpanIn (c.slices.el (pathAt s k).toNat).rate 0 300 := (slcOk_at hc hs (k := k) (by omega)).2.2.2.1
  unfold SpanIn at hok
  have hne : (pathAt s k != s.out) = true := by
   have := pathAt_ne s (k := k) (by omega)
   simpa using this
  have hS : pathAt s k + stepOf s = pathAt s (k + 1) := by rw [← pathAt_S]
  have hin2 := pathAt_in hs (k := k + 1) (by omega)
  rw [L82x0s]
  simp (disch := omega) only [wr, decide_eq_true, decide_true, cond_true, List.drop, tkCons_c, tkInt_i, hne, hS, mnE, Int.toNat_natCast]
  have e3 := upd_span (rtRow c s k) (pathAt s k).toNat (rtK c s k)
  unfold rtK at e3
  rw [show c.hold - min c.hold (sumHi c s k) = max 0 (c.hold - sumHi c s k) by omega, show c.hold - min c.hold (sumLo c s k) = max 0 (c.hold - sumLo c s k) by omega, e3]
  have e4 := ih (k + 1) fu (by omega) (by omega)
  simp only [sumLo, sumHi] at e4
  rw [show min c.hold (min c.hold (sumLo c s k) + (c.slices.el (pathAt s k).toNat).rate.lo) = min c.hold (sumLo c s k + (slAt c s k).rate.lo) by unfold slAt; omega, show min c.hold (min c.hold (sumHi c s k) + (c.slices.el (pathAt s k).toNat).rate.hi) = min c.hold (sumHi c s k + (slAt c s k).rate.hi) by unfold slAt; omega]
  exact e4
theorem s82 (c : Cav) (hc : CavOk c) (s : Stg) (hs : StgOk c.slices.len s) (hF : 20 < F) : (E F (d + 2)).pf 82 [.agg (eCav c), .agg (eStg s)] = some (.ret (sl eSpan 2 (rateSl c s))) := by
 have hl := hc.1
 have hp := pathN_le hs
 have hp1 := pathN_pos s
 have h := l82 F (d + 1) c hc s hs (pathN s - 1) 0 F (by omega) (by omega)
 rw [pathAt_0] at h
 simp only [sumLo, sumHi, rtRow, show min c.hold 0 = 0 by have := hc.2.1; omega] at h
 rw [E_pf, t82]
 simp (disch := omega) only [decide_eq_true, decide_true, cond_true, s68, tkOut_ret, tkFn_f, tkNil_n, tkCons_c, tkPtr_p, tkInt_i, Nat.beq_refl, Bool.and_self]
 unfold stepOf at h
 by_cases hd : s.out < s.into
 ·rw [if_pos hd] at h
  rw [decide_eq_true hd, cond_true]; exact h
 ·rw [if_neg hd] at h
  rw [decide_eq_false hd, cond_false]; exact h
theorem l41 (c : Cav) (hc : CavOk c) (s : Stg) (hs : StgOk c.slices.len s) : ∀ j k fu, k + j = pathN s → j < fu →
  L41x0 (E F d) F c s fu false (pathN s) 1 (fun i => eInt ((pathSl s).el i)) (sumLo c s k) (sumHi c s k) k (fun i => eSpan (rtRow c s k i)) = some (.ret (sl eSpan 2 (rateSl c s))) := by
 intro j
 have hp := pathN_le hs
 have hl := hc.1
 have hH := hc.2.1
 induction j with
 | zero =>
  intro k fu h hf
  obtain ⟨fu, rfl⟩ : ∃ k, fu = k + 1 := ⟨fu - 1, by omega⟩
  rw [L41x0s]
  simp (disch := omega) only [decide_eq_false, cond_false, Int.toNat_natCast, sl, rateSl, show k = pathN s by omega]
 | succ j ih =>
  intro k fu h hf
  obtain ⟨fu, rfl⟩ : ∃ k, fu = k + 1 := ⟨fu - 1, by omega⟩
  have hin := pathAt_in hs (k := k) (by omega)
  have hsm := sumLo_in hc hs k (by omega)
  have hok : SpanIn (c.slices.el (pathAt s k).toNat).rate 0 300 := (slcOk_at hc hs (k := k) (by omega)).2.2.2.1
  unfold SpanIn at hok
  rw [L41x0s]
  simp (disch := omega) only [wr, decide_eq_true, decide_true, cond_true, tkCons_c, tkInt_i, mnE, mxE, Int.toNat_natCast, pathSl_el, show ((1 : Nat) == 1) = true from rfl]
  have e3 := upd_span (rtRow c s k) (pathAt s k).toNat (rtK c s k)
  unfold rtK at e3
  rw [e3]
  exact ih (k + 1) fu (by omega) (by omega)
theorem s41 (c : Cav) (hc : CavOk c) (s : Stg) (hs : StgOk c.slices.len s) (hF : 20 < F) : (E F (d + 2)).pf 41 [.agg (eCav c), .agg (eStg s)] = some (.ret (sl eSpan 2 (rateSl c s))) := by
 have hl := hc.1
 have hp := pathN_le hs
 have h := l41 F (d + 1) c hc s hs (pathN s) 0 F (by omega) (by omega)
 simp only [sumLo, sumHi, rtRow] at h
 rw [E_pf, t41]
 simp (disch := omega) only [decide_eq_true, decide_true, cond_true, s83 F d s hs hl.2, tkOut_ret, tkRow_r]
 exact h
theorem s39 (c : Cav) (s : Stg) (hB : c.slices.len < Big) (hF : c.slices.len < F) (hF2 : 20 < F) : (E F (d + 6)).pf 39 [.agg (eCav c), .agg (eStg s)] =
  (if CavOk c ∧ StgOk c.slices.len s then some (.ret (.tup [sl eSpan 2 (rateSl c s), i64 0])) else some (.ret (.tup [.row true 0 0 fun _ => [], i64 2]))) := by
 rw [E_pf, t39]
 by_cases h1 : CavOk c
 ·by_cases h2 : StgOk c.slices.len s
  ·rw [if_pos ⟨h1, h2⟩]
   simp (disch := omega) only [s66 F d c hB hF, s67 F (d + 3) c s hB, tkOut_ret, tkBool_b, decide_eq_true h1, decide_eq_true h2, Bool.not_true, cond_false, s82 F (d + 3) c h1 s h2, tkRow_r]
  ·rw [if_neg (fun h => h2 h.2)]
   simp (disch := omega) only [s66 F d c hB hF, s67 F (d + 3) c s hB, tkOut_ret, tkBool_b, decide_eq_true h1, decide_eq_false h2, Bool.not_true, Bool.not_false, cond_false, cond_true]
 ·rw [if_neg (fun h => h1 h.1)]
  simp (disch := omega) only [s66 F d c hB hF, tkOut_ret, tkBool_b, decide_eq_false h1, Bool.not_false, cond_true]
end Go.Sim.Le


namespace Go.Sim.Le
open Go.Proofs
def addS (p q : Span) : Span := ⟨p.lo + q.lo, p.hi + q.hi⟩
variable (F d : Nat)
theorem pairGet (p q : Span) : (fun u : Nat => List.take 2 (List.drop (Min.min u 1 * 2) [V.int .i64 p.lo, V.int .i64 p.hi, V.int .i64 q.lo, V.int .i64 q.hi])) = fun i => eSpan (if i = 0 then p else q) := by
 funext i
 match i with
 | 0 => rfl
 | i + 1 => simp [show Min.min (i + 1) 1 = 1 by omega]
theorem s85 (p q : Span) (hF : 20 < F) (h1 : I64 p.lo) (h2 : I64 p.hi) (h3 : I64 (p.lo + q.lo)) (h4 : I64 (p.hi + q.hi)) :
  (E F (d + 1)).pf 85 [.row false 2 2 (fun u => List.take 2 (List.drop (Min.min u 1 * 2) [V.int .i64 p.lo, V.int .i64 p.hi, V.int .i64 q.lo, V.int .i64 q.hi]))] = some (.ret (.agg (eSpan (addS p q)))) := by
 obtain ⟨F, rfl⟩ : ∃ k, F = k + 3 := ⟨F - 3, by omega⟩
 rw [pairGet, E_pf]
 refine (t85 _ _ ⟨false, 2, fun i => if i = 0 then p else q⟩).trans ?_
 rw [L85x0s]
 simp (disch := omega) only [decide_eq_true, decide_true, cond_true, Int.toNat_zero, if_true, wr]
 rw [L85x0s]
 simp (disch := omega) only [decide_eq_true, decide_true, cond_true, wr, show ((0 : Int) + 1).toNat = 1 from rfl, if_neg]
 rw [L85x0s]
 simp (disch := omega) only [decide_eq_false, decide_false, cond_false]
 unfold addS
 rw [Int.zero_add, Int.zero_add]
theorem pairGetI (a b : Int) : (fun u : Nat => List.take 1 (List.drop (Min.min u 1 * 1) [V.int .i64 a, V.int .i64 b])) = fun i => eInt (if i = 0 then a else b) := by
 funext i
 match i with
 | 0 => rfl
 | i + 1 => simp [show Min.min (i + 1) 1 = 1 by omega]
theorem s88 (a b : Int) (hF : 20 < F) (h1 : I64 a) (h3 : I64 (a + b)) :
  (E F (d + 1)).pf 88 [.row false 2 1 (fun u => List.take 1 (List.drop (Min.min u 1 * 1) [V.int .i64 a, V.int .i64 b]))] = some (.ret (.int .i64 (a + b))) := by
 obtain ⟨F, rfl⟩ : ∃ k, F = k + 3 := ⟨F - 3, by omega⟩
 rw [pairGetI, E_pf]
 refine (t88 _ _ ⟨false, 2, fun i => if i = 0 then a else b⟩).trans ?_
 rw [L88x0s]
 simp (disch := omega) only [decide_eq_true, decide_true, cond_true, Int.toNat_zero, if_true, wr]
 rw [L88x0s]
 simp (disch := omega) only [decide_eq_true, decide_true, cond_true, wr, show ((0 : Int) + 1).toNat = 1 from rfl, if_neg]
 rw [L88x0s]
 simp (disch := omega) only [decide_eq_false, decide_false, cond_false]
 rw [Int.zero_add]
abbrev MeaOk (c : Cav) (m : Mea) : Prop := m.weights.len = c.slices.len ∧ (∀ i, i < c.slices.len → -1000 ≤ m.weights.el i ∧ m.weights.el i ≤ 1000) ∧ -1000 ≤ m.sump ∧ m.sump ≤ 1000
theorem mul_in {a b x y : Int} (h1 : -x ≤ a) (h2 : a ≤ x) (h3 : 0 ≤ b) (h4 : b ≤ y) : -(x * y) ≤ a * b ∧ a * b ≤ x * y := by
 have hx : 0 ≤ x := by omega
 constructor
 ·have : -a * b ≤ x * y := Int.mul_le_mul (by omega) h4 h3 hx
  rw [Int.neg_mul] at this; omega
 ·exact Int.mul_le_mul h2 h4 h3 hx
def firstS (c : Cav) (m : Mea) : Nat → Span
 | 0 => ⟨0, 0⟩
 | k + 1 => addS (firstS c m k) (timesS (c.slices.el k).vol (m.weights.el k))
theorem times_in {p : Span} {n x y : Int} (h1 : -x ≤ n) (h2 : n ≤ x) (h3 : 0 ≤ p.lo) (h4 : p.lo ≤ p.hi) (h5 : p.hi ≤ y) : (-(x * y) ≤ n * p.lo ∧ n * p.lo ≤ x * y) ∧ (-(x * y) ≤ n * p.hi ∧ n * p.hi ≤ x * y) := ⟨mul_in h1 h2 h3 (by omega), mul_in h1 h2 (by omega) h5⟩
theorem timesS_in {p : Span} {n z : Int} (h : (-z ≤ n * p.lo ∧ n * p.lo ≤ z) ∧ (-z ≤ n * p.hi ∧ n * p.hi ≤ z)) : (-z ≤ (timesS p n).lo ∧ (timesS p n).lo ≤ z) ∧ (-z ≤ (timesS p n).hi ∧ (timesS p n).hi ≤ z) := by
 unfold timesS
 split
 ·exact ⟨h.2, h.1⟩
 ·exact h
theorem vol_in {c : Cav} (hc : CavOk c) {m : Mea} (hm : MeaOk c m) {k : Nat} (h : k < c.slices.len) : (-10000000000000000 ≤ m.weights.el k * (c.slices.el k).vol.lo ∧ m.weights.el k * (c.slices.el k).vol.lo ≤ 10000000000000000) ∧ (-10000000000000000 ≤ m.weights.el k * (c.slices.el k).vol.hi ∧ m.weights.el k * (c.slices.el k).vol.hi ≤ 10000000000000000) := by
 have h1 := (hc.2.2.2 k h).1
 have h2 := hm.2.1 k h
 exact times_in (x := 1000) (y := 10000000000000) h2.1 h2.2 h1.1 h1.2.1 h1.2.2
theorem first_in {c : Cav} (hc : CavOk c) {m : Mea} (hm : MeaOk c m) : ∀ k, k ≤ c.slices.len → (-(10000000000000000 * (k : Int)) ≤ (firstS c m k).lo ∧ (firstS c m k).lo ≤ 10000000000000000 * k) ∧ (-(10000000000000000 * (k : Int)) ≤ (firstS c m k).hi ∧ (firstS c m k).hi ≤ 10000000000000000 * k) := by
 intro k
 induction k with
 | zero => intro _; simp [firstS]
 | succ k ih =>
  intro h
  have h1 := ih (by omega)
  have h2 := timesS_in (z := 10000000000000000) (vol_in hc hm (k := k) (by omega))
  simp only [firstS, addS]
  omega
theorem l92 (c : Cav) (hc : CavOk c) (m : Mea) (hm : MeaOk c m) (hF : 20 < F) : ∀ j k fu, k + j = c.slices.len → j < fu →
  L92x0 (E F (d + 1)) F c m fu k .i64 (firstS c m k).lo .i64 (firstS c m k).hi = some (.ret (.agg (eSpan (firstS c m c.slices.len)))) := by
 intro j
 have hl := hc.1
 have hw := hm.1
 induction j with
 | zero =>
  intro k fu h hf
  obtain ⟨fu, rfl⟩ : ∃ k, fu = k + 1 := ⟨fu - 1, by omega⟩
  rw [L92x0s]
  have hk : k = c.slices.len := by omega
  subst hk
  simp (disch := omega) only [decide_eq_false, decide_false, cond_false]
 | succ j ih =>
  intro k fu h hf
  obtain ⟨fu, rfl⟩ : ∃ k, fu = k + 1 := ⟨fu - 1, by omega⟩
  have h1 := vol_in hc hm (k := k) (by omega)
  have h2 := first_in hc hm k (by omega)
  have h3 := first_in hc hm (k + 1) (by omega)
  simp only [firstS, addS] at h3
  rw [L92x0s]
  have e5 := s85 F d (firstS c m k) (timesS (c.slices.el k).vol (m.weights.el k)) hF (by omega) (by omega) (by omega) (by omega)
  simp (disch := omega) only [decide_eq_true, decide_true, cond_true, Int.toNat_natCast, s86, tkOut_ret, tkAgg_a, tkCons_c, tkInt_i, tkNil_n, e5]
  rw [wrS (by omega)]
  exact ih (k + 1) fu (by omega) (by omega)
theorem s92 (c : Cav) (hc : CavOk c) (m : Mea) (hm : MeaOk c m) (hF : 20 < F) : (E F (d + 2)).pf 92 [.agg (eCav c), .agg (eMea m)] = some (.ret (.agg (eSpan (firstS c m c.slices.len)))) := by
 rw [E_pf, t92]
 have hl := hc.1
 exact l92 F d c hc m hm hF c.slices.len 0 F (by omega) (by omega)
section
variable {κ : Type} (ek ev : κ → V)
def encM (ks : List κ) : List (V × V) := ks.map fun k => (ek k, ev k)
variable {ek ev}
theorem mget_enc [DecidableEq κ] (he : ∀ a b, keyEq (ek a) (ek b) = decide (a = b)) (k : κ) : ∀ ks, mget (encM ek ev ks) (ek k) = if k ∈ ks then some (ev k) else none := by
 intro ks
 induction ks with
 | nil => rfl
 | cons a ks ih =>
  simp only [encM, List.map, mget, he]
  by_cases h : a = k
  ·subst h; simp
  ·rw [decide_eq_false h, cond_false]
   have : (k ∈ a :: ks) ↔ k ∈ ks := by simp [show ¬ k = a from fun e => h e.symm]
   simp only [this]
   exact ih
theorem mput_enc [DecidableEq κ] (he : ∀ a b, keyEq (ek a) (ek b) = decide (a = b)) (k : κ) : ∀ ks, k ∉ ks → mput (encM ek ev ks) (ek k) (ev k) = encM ek ev (ks ++ [k]) := by
 intro ks
 induction ks with
 | nil => intro _; rfl
 | cons a ks ih =>
  intro h
  simp only [encM, List.map, mput, he, List.cons_append]
  rw [decide_eq_false (fun e => h (by simp [e])), cond_false]
  exact congrArg _ (ih fun e => h (by simp [e]))
theorem encM_len (ks : List κ) : (encM ek ev ks).length = ks.length := by simp [encM]
end
end Go.Sim.Le


namespace Go.Sim.Le
open Go.Proofs
def bestLo (f : Int → Int) (a : Int) : Nat → Int
 | 0 => f a
 | j + 1 => min (bestLo f a j) (f (a + ((j + 1 : Nat) : Int)))
def bestHi (f : Int → Int) (a : Int) : Nat → Int
 | 0 => f a
 | j + 1 => max (bestHi f a j) (f (a + ((j + 1 : Nat) : Int)))
def restS (c : Cav) (m : Mea) (s : Stg) : Nat → Int → Span
 | 0, _ => ⟨0, 0⟩
 | r + 1, b =>
  let x := slAt c s (pathN s - (r + 1))
  let g := gainI c m (pathAt s (pathN s - (r + 1))).toNat
  let a := min x.rate.lo b
  ⟨bestLo (fun n => (restS c m s r (b - n)).lo + n * g) a (min x.rate.hi b - a).toNat, bestHi (fun n => (restS c m s r (b - n)).hi + n * g) a (min x.rate.hi b - a).toNat⟩
theorem bestLo_in {f : Int → Int} {a L H : Int} : ∀ j : Nat, (∀ n, a ≤ n → n ≤ a + j → L ≤ f n ∧ f n ≤ H) → L ≤ bestLo f a j ∧ bestLo f a j ≤ H := by
 intro j
 induction j with
 | zero => intro h; exact h a (by omega) (by omega)
 | succ j ih =>
  intro h
  have h1 := ih fun n h1 h2 => h n h1 (by omega)
  have h2 := h (a + ((j + 1 : Nat) : Int)) (by omega) (by omega)
  simp only [bestLo]
  omega
theorem bestHi_in {f : Int → Int} {a L H : Int} : ∀ j : Nat, (∀ n, a ≤ n → n ≤ a + j → L ≤ f n ∧ f n ≤ H) → L ≤ bestHi f a j ∧ bestHi f a j ≤ H := by
 intro j
 induction j with
 | zero => intro h; exact h a (by omega) (by omega)
 | succ j ih =>
  intro h
  have h1 := ih fun n h1 h2 => h n h1 (by omega)
  have h2 := h (a + ((j + 1 : Nat) : Int)) (by omega) (by omega)
  simp only [bestHi]
  omega
theorem gain_in {c : Cav} (hc : CavOk c) {m : Mea} (hm : MeaOk c m) {k : Nat} (h : k < c.slices.len) : (-3000000 ≤ (c.slices.el k).opn * m.weights.el k ∧ (c.slices.el k).opn * m.weights.el k ≤ 3000000) ∧ (-3000000 ≤ (c.slices.el k).fall * m.sump ∧ (c.slices.el k).fall * m.sump ≤ 3000000) ∧ -6000000 ≤ gainI c m k ∧ gainI c m k ≤ 6000000 := by
 have h1 := hc.2.2.2 k h
 have h2 := hm.2.1 k h
 have h3 := hm.2.2
 obtain ⟨_, ⟨h4, h5⟩, ⟨h6, h7⟩, _⟩ := h1
 have e1 := mul_in (a := m.weights.el k) (b := (c.slices.el k).opn) (x := 1000) (y := 3000) h2.1 h2.2 (by omega) h5
 have e2 := mul_in (a := m.sump) (b := (c.slices.el k).fall) (x := 1000) (y := 3000) h3.1 h3.2 h6 (by omega)
 rw [Int.mul_comm] at e1 e2
 unfold gainI
 rw [Int.mul_comm] at e1 e2
 rw [Int.mul_comm (c.slices.el k).opn, Int.mul_comm (c.slices.el k).fall]
 omega
theorem mulg {n g z : Int} (h0 : 0 ≤ n) (h1 : -z ≤ g) (h2 : g ≤ z) : -(z * n) ≤ n * g ∧ n * g ≤ z * n := by
 have a := Int.mul_le_mul_of_nonneg_left h1 h0
 have b := Int.mul_le_mul_of_nonneg_left h2 h0
 rw [Int.mul_neg] at a
 rw [Int.mul_comm z n]
 omega
theorem rest_in {c : Cav} (hc : CavOk c) {m : Mea} (hm : MeaOk c m) {s : Stg} (hs : StgOk c.slices.len s) : ∀ r, r ≤ pathN s → ∀ b, 0 ≤ b → (-(6000000 * b) ≤ (restS c m s r b).lo ∧ (restS c m s r b).lo ≤ 6000000 * b) ∧ (-(6000000 * b) ≤ (restS c m s r b).hi ∧ (restS c m s r b).hi ≤ 6000000 * b) := by
 intro r
 induction r with
 | zero => intro _ b h; simp only [restS]; omega
 | succ r ih =>
  intro h b hb
  have hk := pathAt_in hs (k := pathN s - (r + 1)) (by omega)
  have hg := (gain_in hc hm (k := (pathAt s (pathN s - (r + 1))).toNat) (by omega)).2.2
  have ho : SpanIn (slAt c s (pathN s - (r + 1))).rate 0 300 := (slcOk_at hc hs (k := pathN s - (r + 1)) (by omega)).2.2.2.1
  unfold SpanIn at ho
  simp only [restS]
  generalize (slAt c s (pathN s - (r + 1))).rate.lo = lo at ho ⊢
  generalize (slAt c s (pathN s - (r + 1))).rate.hi = hi at ho ⊢
  generalize gainI c m (pathAt s (pathN s - (r + 1))).toNat = g at hg ⊢
  constructor
  ·refine bestLo_in _ fun n h1 h2 => ?_
   have h3 := (ih (by omega) (b - n) (by omega)).1
   have h4 := mulg (n := n) (by omega) hg.1 hg.2
   omega
  ·refine bestHi_in _ fun n h1 h2 => ?_
   have h3 := (ih (by omega) (b - n) (by omega)).2
   have h4 := mulg (n := n) (by omega) hg.1 hg.2
   omega
section
variable (c : Cav) (m : Mea) (s : Stg)
def mK (p : Nat × Int) : V := .agg [.int .i64 p.1, .int .i64 p.2]
def mV (p : Nat × Int) : V := .agg (eSpan (restS c m s (pathN s - p.1) p.2))
abbrev Mem (ks : List (Nat × Int)) : Prop := ks.Nodup ∧ ∀ p ∈ ks, p.1 < 10 ∧ 0 ≤ p.2 ∧ p.2 ≤ 300
theorem mK_eq (p q : Nat × Int) : keyEq (mK p) (mK q) = decide (p = q) := by
 obtain ⟨a, b⟩ := p
 obtain ⟨a', b'⟩ := q
 apply b2
 simp [mK, keyEq, keysEq, keyEq1]
 omega
theorem mem_len {ks : List (Nat × Int)} (h : Mem ks) : ks.length ≤ 3010 := by
 have h1 : ks ⊆ (List.range 10).flatMap fun i => (List.range 301).map fun j => (i, ((j : Nat) : Int)) := by
  intro p hp
  obtain ⟨a1, a2, a3⟩ := h.2 p hp
  simp only [List.mem_flatMap, List.mem_range, List.mem_map]
  refine ⟨p.1, a1, p.2.toNat, by omega, ?_⟩
  rw [Int.toNat_of_nonneg a2]
 have h2 := h.1.length_le_of_subset h1
 rw [show ((List.range 10).flatMap fun i => (List.range 301).map fun j => (i, ((j : Nat) : Int))).length = 3010 by decide +kernel] at h2
 exact h2
abbrev memH (N : Nat) (es : List (V × V)) : List Slot := [.box 26 [.osl 5 0 N] true, .box 155 [.mapr 6] true, .box 103 (eCav c) true, .box 110 (eMea m) true, .box 156 [.fn (.func 109) [] [.optr 0 0 0, .optr 1 0 0, .optr 2 0 0, .optr 3 0 0, .optr 4 0 0]] true, .arr 3 1 N (fun i => eInt ((pathSl s).el i)) true, .mp true [.int .i64, .int .i64] es true]
end
theorem p63 : (2 : Int) ^ 63 = 9223372036854775808 := rfl
theorem samO (N : Nat) : sameV 8 (.osl 5 0 N) (.osl 5 0 N) = true := by simp only [sameV, Nat.beq_refl, Bool.and_self]
theorem samM : sameV 8 (.mapr 6) (.mapr 6) = true := rfl
theorem samF : sameV 8 (.fn (.func 109) [] [.optr 0 0 0, .optr 1 0 0, .optr 2 0 0, .optr 3 0 0, .optr 4 0 0]) (.fn (.func 109) [] [.optr 0 0 0, .optr 1 0 0, .optr 2 0 0, .optr 3 0 0, .optr 4 0 0]) = true := rfl
theorem ks2 : ksEq [.int .i64, .int .i64] [.int .i64, .int .i64] = true := rfl
variable (F d : Nat)
theorem mput_mem {κ : Type} [DecidableEq κ] {ek ev : κ → V} (he : ∀ a b, keyEq (ek a) (ek b) = decide (a = b)) (k : κ) : ∀ ks, k ∈ ks → mput (encM ek ev ks) (ek k) (ev k) = encM ek ev ks := by
 intro ks
 induction ks with
 | nil => intro h; simp at h
 | cons a ks ih =>
  intro h
  simp only [encM, List.map, mput, he]
  by_cases e : a = k
  ·rw [decide_eq_true e, cond_true, e]
  ·rw [decide_eq_false e, cond_false]
   refine congrArg _ (ih ?_)
   rcases List.mem_cons.1 h with h | h
   ·exact (e h.symm).elim
   ·exact h
theorem mput_some {κ : Type} [DecidableEq κ] {ek ev : κ → V} (he : ∀ a b, keyEq (ek a) (ek b) = decide (a = b)) {P : κ → Prop} (k : κ) (hk : P k) {ks : List κ} (h : ks.Nodup ∧ ∀ p ∈ ks, P p) :
  ∃ ks', (ks'.Nodup ∧ ∀ p ∈ ks', P p) ∧ mput (encM ek ev ks) (ek k) (ev k) = encM ek ev ks' := by
 by_cases hm : k ∈ ks
 ·exact ⟨ks, h, mput_mem he k ks hm⟩
 ·refine ⟨ks ++ [k], ⟨?_, ?_⟩, mput_enc he k ks hm⟩
  ·rw [List.nodup_append]
   exact ⟨h.1, by simp, fun a ha b hb e => hm (by rw [List.mem_singleton] at hb; rw [← hb, ← e]; exact ha)⟩
  ·intro p hp
   rcases List.mem_append.1 hp with hp | hp
   ·exact h.2 p hp
   ·rw [List.mem_singleton] at hp; rw [hp]; exact hk
end Go.Sim.Le


namespace Go.Sim.Le
open Go.Proofs
variable (F d : Nat)
theorem l109 {c : Cav} (hc : CavOk c) {m : Mea} (hm : MeaOk c m) {s : Stg} (hs : StgOk c.slices.len s) (D r k : Nat) (hk : k + (r + 1) = pathN s) (b : Int) (hb : 0 ≤ b ∧ b ≤ 300) (es : List (V × V))
  (IH : ∀ b ks, 0 ≤ b → b ≤ 300 → Mem ks → ∃ ks', Mem ks' ∧ (E F D).hv 109 [.agg [.int .i64 ((k + 1 : Nat) : Int), .int .i64 b], .optr 0 0 0, .optr 1 0 0, .optr 2 0 0, .optr 3 0 0, .optr 4 0 0] (memH c m s (pathN s) (encM mK (mV c m s) ks)) = some (.ret (.agg (eSpan (restS c m s r b))), memH c m s (pathN s) (encM mK (mV c m s) ks'))) :
  let x := slAt c s k
  let g := gainI c m (pathAt s k).toNat
  let a := min x.rate.lo b
  let fl := fun n => (restS c m s r (b - n)).lo + n * g
  let fh := fun n => (restS c m s r (b - n)).hi + n * g
  ∀ j t fu ks, t + j = (min x.rate.hi b - a).toNat → j < fu → Mem ks → ∃ ks', Mem ks' ∧
   L109x0 (E F D) F c m k b (pathN s) (pathSl s).el es fu .i64 g (a + ((t + 1 : Nat) : Int)) .i64 (bestLo fl a t) .i64 (bestHi fh a t) c.slices.nl c.slices.len 7 (fun u => eSlc (c.slices.el u)) .i64 c.hold .i64 c.oil m.weights.nl m.weights.len 1 (fun u => [.int .i64 (m.weights.el u)]) .i64 m.sump (fun u => [.int .i64 ((pathSl s).el u)]) (encM mK (mV c m s) ks)
    = some (.ret (.agg (eSpan (restS c m s (r + 1) b))), memH c m s (pathN s) (encM mK (mV c m s) ks')) := by
 intro x g a fl fh
 have hp := pathN_le hs
 have hin := pathAt_in hs (k := k) (by omega)
 have hl := hc.1
 have hg : -6000000 ≤ g ∧ g ≤ 6000000 := (gain_in hc hm (k := (pathAt s k).toNat) (by omega)).2.2
 have ho : SpanIn (c.slices.el (pathAt s k).toNat).rate 0 300 := (slcOk_at hc hs (k := k) (by omega)).2.2.2.1
 unfold SpanIn at ho
 have hkN : pathN s - (r + 1) = k := by omega
 have hR := fun b h => rest_in hc hm hs r (by omega) b h
 have ha : a = min (c.slices.el (pathAt s k).toNat).rate.lo b := rfl
 have hx : x.rate.hi = (c.slices.el (pathAt s k).toNat).rate.hi := rfl
 have hE : restS c m s (r + 1) b = ⟨bestLo fl a (min x.rate.hi b - a).toNat, bestHi fh a (min x.rate.hi b - a).toNat⟩ := by
  rw [restS, hkN]
 intro j
 induction j with
 | zero =>
  intro t fu ks h hf hM
  obtain ⟨fu, rfl⟩ : ∃ k, fu = k + 1 := ⟨fu - 1, by omega⟩
  have hlen := mem_len hM
  obtain ⟨ks', hM', e'⟩ := mput_some (ev := mV c m s) mK_eq (P := fun p => p.1 < 10 ∧ 0 ≤ p.2 ∧ p.2 ≤ 300) (k, b) ⟨by omega, hb.1, hb.2⟩ hM
  refine ⟨ks', hM', ?_⟩
  rw [L109x0s]
  simp (disch := omega) only [Int.toNat_natCast, pathSl_el, mnE]
  rw [decide_eq_false (by omega), cond_false]
  simp (disch := omega) only [p63, decide_eq_true, decide_true, Bool.and_self, cond_true, encM_len]
  have ht : t = (min x.rate.hi b - a).toNat := by omega
  have e2 : (V.agg [.int .i64 (bestLo fl a t), .int .i64 (bestHi fh a t)]) = mV c m s (k, b) := by
   simp only [mV]
   rw [show pathN s - k = r + 1 by omega, hE, ht]
  have e3 : (V.agg [.int .i64 ((k : Nat) : Int), .int .i64 b]) = mK (k, b) := rfl
  rw [e2, e3, e', hE, ← ht, ← e2]
 | succ j ih =>
  intro t fu ks h hf hM
  obtain ⟨fu, rfl⟩ : ∃ k, fu = k + 1 := ⟨fu - 1, by omega⟩
  obtain ⟨ks1, hM1, e1⟩ := IH (b - (a + ((t + 1 : Nat) : Int))) ks (by omega) (by omega) hM
  obtain ⟨ks', hM', e'⟩ := ih (t + 1) fu ks1 (by omega) (by omega) hM1
  refine ⟨ks', hM', ?_⟩
  have hr := hR (b - (a + ((t + 1 : Nat) : Int))) (by omega)
  have hng := mulg (n := a + ((t + 1 : Nat) : Int)) (by omega) hg.1 hg.2
  rw [L109x0s]
  simp (disch := omega) only [Int.toNat_natCast, pathSl_el, mnE]
  rw [decide_eq_true (by omega), cond_true, wrS (by omega), wr (show _ ∧ _ by omega)]
  simp only [memH, eInt] at e1
  simp only [e1, tkHv_h, tkAgg_a, tkCons_c, tkInt_i, tkNil_n, tkSCons_c, tkBox_b, Nat.beq_refl, Bool.and_self, beq_self_eq_true, cond_true, samO, samM, samF, ks2, tkRow_r, tkArr_a, tkMp_m, tkSNil_n, decide_true]
  rw [show (a + ((t + 1 : Nat) : Int) == min (c.slices.el (pathAt s k).toNat).rate.lo b) = false by rw [beq_eq_false_iff_ne]; omega, cond_false]
  rw [wr (n := a + ((t + 1 : Nat) : Int) + 1) (show _ ∧ _ by omega), wr (n := (a + ((t + 1 : Nat) : Int)) * g) (show _ ∧ _ by omega), wr (show _ ∧ _ by omega), wr (show _ ∧ _ by omega)]
  simp only [mnE, mxE]
  rw [show a + ((t + 1 : Nat) : Int) + 1 = a + ((t + 1 + 1 : Nat) : Int) by omega]
  exact e'
theorem s109 {c : Cav} (hc : CavOk c) {m : Mea} (hm : MeaOk c m) {s : Stg} (hs : StgOk c.slices.len s) (hF : 400 < F) : ∀ r k D, k + r = pathN s → ∀ b ks, 0 ≤ b → b ≤ 300 → Mem ks → ∃ ks', Mem ks' ∧
  (E F (D + r + 2)).hv 109 [.agg [.int .i64 ((k : Nat) : Int), .int .i64 b], .optr 0 0 0, .optr 1 0 0, .optr 2 0 0, .optr 3 0 0, .optr 4 0 0] (memH c m s (pathN s) (encM mK (mV c m s) ks)) = some (.ret (.agg (eSpan (restS c m s r b))), memH c m s (pathN s) (encM mK (mV c m s) ks')) := by
 intro r
 induction r with
 | zero =>
  intro k D hk b ks h0 h1 hM
  refine ⟨ks, hM, ?_⟩
  rw [E_hv, t109]
  rw [show ((k : Int) == (pathN s : Int)) = true by rw [beq_iff_eq]; omega, cond_true]
  rfl
 | succ r ih =>
  intro k D hk b ks h0 h1 hM
  have hp := pathN_le hs
  have hin := pathAt_in hs (k := k) (by omega)
  have hl := hc.1
  have hG := gain_in hc hm (k := (pathAt s k).toNat) (by omega)
  have hg := hG.2.2
  have ho : SpanIn (c.slices.el (pathAt s k).toNat).rate 0 300 := (slcOk_at hc hs (k := k) (by omega)).2.2.2.1
  unfold SpanIn at ho
  rw [show D + (r + 1) + 2 = (D + r + 2) + 1 by omega, E_hv, t109]
  rw [show ((k : Int) == (pathN s : Int)) = false by rw [beq_eq_false_iff_ne]; omega, cond_false]
  simp (disch := omega) only [p63, decide_eq_true, decide_true, Bool.and_self, cond_true, Int.toNat_natCast, pathSl_el]
  rw [show (V.agg [.int .i64 ((k : Nat) : Int), .int .i64 b]) = mK (k, b) from rfl, mget_enc mK_eq]
  by_cases hmem : (k, b) ∈ ks
  ·rw [if_pos hmem]
   refine ⟨ks, hM, ?_⟩
   simp only [tkOpt, mV, tkAgg_a, tkCons_c, tkInt_i, tkNil_n]
   rw [show pathN s - k = r + 1 by omega]
  ·rw [if_neg hmem]
   have IH := fun b ks => ih (k + 1) D (by omega) b ks
   obtain ⟨ks1, hM1, e1⟩ := IH (b - min (c.slices.el (pathAt s k).toNat).rate.lo b) ks (by omega) (by omega) hM
   obtain ⟨ks', hM', e'⟩ := l109 F hc hm hs (D + r + 2) r k hk b ⟨h0, h1⟩ (encM mK (mV c m s) ks) IH (min (c.slices.el (pathAt s k).toNat).rate.hi b - min (c.slices.el (pathAt s k).toNat).rate.lo b).toNat 0 (F - 1) ks1 (by simp [slAt]) (by omega) hM1
   refine ⟨ks', hM', ?_⟩
   have hr := rest_in hc hm hs r (by omega) (b - min (c.slices.el (pathAt s k).toNat).rate.lo b) (by omega)
   have hng := mulg (n := min (c.slices.el (pathAt s k).toNat).rate.lo b) (by omega) hg.1 hg.2
   have e110 := s110 F (D + r + 1) c m (pathAt s k) hin.1 hin.2 hm.1 (by omega) (by omega) (by omega)
   simp only [tkOpt]
   rw [e110]
   simp only [tkOut_ret, tkInt_i]
   obtain ⟨F, rfl⟩ : ∃ k, F = k + 1 := ⟨F - 1, by omega⟩
   rw [L109x0s]
   simp (disch := omega) only [Int.toNat_natCast, pathSl_el, mnE]
   rw [decide_eq_true (by omega), cond_true, wrS (by omega), wr (show _ ∧ _ by omega)]
   simp only [memH, eInt] at e1
   simp only [e1, tkHv_h, tkAgg_a, tkCons_c, tkInt_i, tkNil_n, tkSCons_c, tkBox_b, Nat.beq_refl, Bool.and_self, beq_self_eq_true, cond_true, samO, samM, samF, ks2, tkRow_r, tkArr_a, tkMp_m, tkSNil_n, decide_true]
   rw [wr (n := min (c.slices.el (pathAt s k).toNat).rate.lo b + 1) (show _ ∧ _ by omega), wr (n := (min (c.slices.el (pathAt s k).toNat).rate.lo b) * gainI c m (pathAt s k).toNat) (show _ ∧ _ by omega), wr (show _ ∧ _ by omega), wr (show _ ∧ _ by omega)]
   simp only [mnE, mxE, Int.min_self, Int.max_self]
   exact e'
end Go.Sim.Le


namespace Go.Sim.Le
open Go.Proofs
variable (F d : Nat)
def grownS (c : Cav) (m : Mea) (s : Stg) : Span := timesS (restS c m s (pathN s) c.hold) s.water
theorem grown_in {c : Cav} (hc : CavOk c) {m : Mea} (hm : MeaOk c m) {s : Stg} (hs : StgOk c.slices.len s) : ((-1800000000000000 ≤ s.water * (restS c m s (pathN s) c.hold).lo ∧ s.water * (restS c m s (pathN s) c.hold).lo ≤ 1800000000000000) ∧ -1800000000000000 ≤ s.water * (restS c m s (pathN s) c.hold).hi ∧ s.water * (restS c m s (pathN s) c.hold).hi ≤ 1800000000000000) ∧
  (-1800000000000000 ≤ (grownS c m s).lo ∧ (grownS c m s).lo ≤ 1800000000000000) ∧ -1800000000000000 ≤ (grownS c m s).hi ∧ (grownS c m s).hi ≤ 1800000000000000 := by
 have h1 := rest_in hc hm hs (pathN s) (Nat.le_refl _) c.hold (by have := hc.2.1; omega)
 have h2 := hc.2.1
 have h3 := hs.1
 have e1 := mul_in (a := (restS c m s (pathN s) c.hold).lo) (b := s.water) (x := 1800000000) (y := 1000000) (by omega) (by omega) (by omega) (by omega)
 have e2 := mul_in (a := (restS c m s (pathN s) c.hold).hi) (b := s.water) (x := 1800000000) (y := 1000000) (by omega) (by omega) (by omega) (by omega)
 rw [Int.mul_comm (restS c m s (pathN s) c.hold).lo] at e1
 rw [Int.mul_comm (restS c m s (pathN s) c.hold).hi] at e2
 have e3 : (-1800000000000000 ≤ s.water * (restS c m s (pathN s) c.hold).lo ∧ s.water * (restS c m s (pathN s) c.hold).lo ≤ 1800000000000000) ∧ -1800000000000000 ≤ s.water * (restS c m s (pathN s) c.hold).hi ∧ s.water * (restS c m s (pathN s) c.hold).hi ≤ 1800000000000000 := ⟨by omega, by omega⟩
 exact ⟨e3, timesS_in e3⟩
theorem l93 {c : Cav} (hc : CavOk c) {m : Mea} (hm : MeaOk c m) {s : Stg} (hs : StgOk c.slices.len s) (hF : 400 < F) : ∀ j k fu, k + 1 + j = pathN s → 1 ≤ k → j < fu →
  L93x1 (E F (d + 12)) F c s m fu (fun _ => eStg s) (stepOf s) .i64 (pathAt s k) k k (gl eInt 0 (pathL s k)) (fun _ => eStg s) = some (.ret (.agg (eSpan (grownS c m s)))) := by
 intro j
 have hp := pathN_le hs
 have hl := hc.1
 have hH := hc.2.1
 induction j with
 | zero =>
  intro k fu h hk hf
  obtain ⟨fu, rfl⟩ : ∃ k, fu = k + 1 := ⟨fu - 1, by omega⟩
  have hk' : k = pathN s - 1 := by omega
  have e1 : pathAt s k = s.out := by rw [hk', pathAt_last]
  have e2 : k + 1 = pathN s := by omega
  have hg := grown_in hc hm hs
  obtain ⟨ks', _, e9⟩ := s109 F hc hm hs hF (pathN s) 0 (d + 10 - pathN s) (by omega) c.hold [] (by omega) (by omega) ⟨List.nodup_nil, by simp⟩
  rw [show d + 10 - pathN s + pathN s + 2 = d + 12 by omega] at e9
  have e3 : appGet k (gl eInt 0 (pathL s k)) (fun _ => [.int .i64 (pathAt s k)]) = fun i => eInt ((pathSl s).el i) := by
   refine (gl_snoc (m := pathAt s k) (e := eInt) (pathL_len s k) rfl).trans ?_
   rw [← pathL_S, e2]; rfl
  rw [L93x1s, e3, e2]
  simp (disch := omega) only [decide_eq_true, decide_true, pT, List.drop, tkCons_c, tkInt_i, show (pathAt s k != s.out) = false by simp [e1], pF]
  simp only [memH, eInt, encM, List.map, Int.natCast_zero] at e9
  simp only [e9, tkHv_h, tkAgg_a, tkCons_c, tkInt_i, tkNil_n, tkSCons_c, tkBox_b, Nat.beq_refl, Bool.and_self, beq_self_eq_true, pT, samO, samM, samF, ks2, tkRow_r, tkArr_a, tkMp_m, tkSNil_n, decide_true]
  rw [s86 F (d + 11) (restS c m s (pathN s) c.hold) s.water (by omega) (by omega)]
  simp only [tkOut_ret, tkAgg_a, tkCons_c, tkInt_i, tkNil_n]
  rfl
 | succ j ih =>
  intro k fu h hk hf
  obtain ⟨fu, rfl⟩ : ∃ k, fu = k + 1 := ⟨fu - 1, by omega⟩
  have hne : (pathAt s k != s.out) = true := by
   have := pathAt_ne s (k := k) (by omega)
   simpa using this
  have hS : pathAt s k + stepOf s = pathAt s (k + 1) := by rw [← pathAt_S]
  have hin2 := pathAt_in hs (k := k + 1) (by omega)
  rw [L93x1s]
  simp (disch := omega) only [wr, decide_eq_true, decide_true, pT, List.drop, tkCons_c, tkInt_i, hne, hS]
  have e3 : appGet k (gl eInt 0 (pathL s k)) (fun _ => [.int .i64 (pathAt s k)]) = gl eInt 0 (pathL s (k + 1)) := by
   refine (gl_snoc (m := pathAt s k) (e := eInt) (pathL_len s k) rfl).trans ?_
   rw [← pathL_S]
  rw [e3]
  exact ih (k + 1) fu (by omega) (by omega) (by omega)
theorem s93 {c : Cav} (hc : CavOk c) {m : Mea} (hm : MeaOk c m) {s : Stg} (hs : StgOk c.slices.len s) (hF : 400 < F) : (E F (d + 13)).pf 93 [.agg (eCav c), .agg (eStg s), .agg (eMea m)] = some (.ret (.agg (eSpan (grownS c m s)))) := by
 have hl := hc.1
 have hp := pathN_le hs
 have hne : 2 ≤ pathN s := by
  have := hs.2.2.2.1
  unfold pathN; split <;> omega
 have hne2 : (s.into != s.out) = true := by have := hs.2.2.2.1; simpa using this
 obtain ⟨F, rfl⟩ : ∃ k, F = k + 1 := ⟨F - 1, by omega⟩
 have h := l93 (F + 1) d hc hm hs hF (pathN s - 2) 1 F (by omega) (by omega) (by omega)
 have hin2 := pathAt_in hs (k := 1) (by omega)
 have hS : s.into + stepOf s = pathAt s 1 := by rw [← pathAt_0 s, ← pathAt_S]
 have h1 : (fun _ : Nat => [V.int .i64 s.into]) = gl eInt 0 (pathL s 1) := by
  rw [show pathL s 1 = [s.into] by simp [pathL, pathAt_0]]
  exact gl_one rfl
 rw [E_pf, t93]
 simp (disch := omega) only [decide_eq_true, decide_true, pT, s68, tkOut_ret, tkFn_f, tkNil_n, tkCons_c, tkPtr_p, tkInt_i, Nat.beq_refl, Bool.and_self]
 unfold stepOf at h hS
 by_cases hd : s.out < s.into
 ·rw [if_pos hd] at h hS
  rw [decide_eq_true hd, pT, L93x0s]
  simp (disch := omega) only [wr, decide_true, pT, List.drop, tkCons_c, tkInt_i, hne2, hS, h1]
  exact h
 ·rw [if_neg hd] at h hS
  rw [decide_eq_false hd, pF, L93x0s]
  simp (disch := omega) only [wr, decide_true, pT, List.drop, tkCons_c, tkInt_i, hne2, hS, h1]
  exact h
def boundS (c : Cav) (l : Nat → Stg) (m : Mea) : Nat → Span
 | 0 => firstS c m c.slices.len
 | k + 1 => addS (boundS c l m k) (grownS c m (l k))
theorem bound_in {c : Cav} (hc : CavOk c) {m : Mea} (hm : MeaOk c m) {n : Nat} {l : Nat → Stg} (hl : ∀ i, i < n → StgOk c.slices.len (l i)) : ∀ k, k ≤ n → (-(100000000000000000 + 1800000000000000 * (k : Int)) ≤ (boundS c l m k).lo ∧ (boundS c l m k).lo ≤ 100000000000000000 + 1800000000000000 * (k : Int)) ∧ (-(100000000000000000 + 1800000000000000 * (k : Int)) ≤ (boundS c l m k).hi ∧ (boundS c l m k).hi ≤ 100000000000000000 + 1800000000000000 * (k : Int)) := by
 intro k
 induction k with
 | zero =>
  intro _
  have h1 := first_in hc hm c.slices.len (Nat.le_refl _)
  have h2 := hc.1
  simp only [boundS]
  omega
 | succ k ih =>
  intro h
  have h1 := ih (by omega)
  have h2 := (grown_in hc hm (hl k (by omega))).2
  simp only [boundS, addS]
  omega
theorem l62 {c : Cav} (hc : CavOk c) {m : Mea} (hm : MeaOk c m) (l : Sl Stg) (hn : l.len ≤ 1000) (hl : ∀ i, i < l.len → StgOk c.slices.len (l.el i)) (hF : 400 < F) : ∀ j k fu, k + j = l.len → j < fu →
  L62x0 (E F (d + 13)) F c l m fu k .i64 (boundS c l.el m k).lo .i64 (boundS c l.el m k).hi = some (.ret (.agg (eSpan (boundS c l.el m l.len)))) := by
 intro j
 induction j with
 | zero =>
  intro k fu h hf
  obtain ⟨fu, rfl⟩ : ∃ k, fu = k + 1 := ⟨fu - 1, by omega⟩
  rw [L62x0s]
  have hk : k = l.len := by omega
  rw [hk]
  simp (disch := omega) only [decide_eq_false, decide_false, pF]
 | succ j ih =>
  intro k fu h hf
  obtain ⟨fu, rfl⟩ : ∃ k, fu = k + 1 := ⟨fu - 1, by omega⟩
  have h2 := bound_in hc hm hl k (by omega)
  have h3 := bound_in hc hm hl (k + 1) (by omega)
  simp only [boundS, addS] at h3
  have e5 := s85 F (d + 12) (boundS c l.el m k) (grownS c m (l.el k)) (by omega) (by omega) (by omega) (by omega) (by omega)
  have e6 := s93 F d hc hm (hl k (by omega)) hF
  rw [L62x0s]
  simp (disch := omega) only [decide_eq_true, decide_true, pT, Int.toNat_natCast, tkOut_ret, tkAgg_a, tkCons_c, tkInt_i, tkNil_n, e5, e6]
  rw [wrS (by omega)]
  exact ih (k + 1) fu (by omega) (by omega)
theorem s62 {c : Cav} (hc : CavOk c) {m : Mea} (hm : MeaOk c m) (l : Sl Stg) (hn : l.len ≤ 300) (hl : ∀ i, i < l.len → StgOk c.slices.len (l.el i)) (hF : 400 < F) :
  (E F (d + 14)).pf 62 [.agg (eCav c), sl eStg 4 l, .agg (eMea m)] = some (.ret (.agg (eSpan (boundS c l.el m l.len)))) := by
 rw [E_pf, t62]
 simp only [s92 F (d + 11) c hc m hm (by omega), tkOut_ret, tkAgg_a, tkCons_c, tkInt_i, tkNil_n]
 exact l62 F d hc hm l (by omega) hl hF l.len 0 F (by omega) (by omega)
end Go.Sim.Le


namespace Go.Sim.Le
open Go.Proofs
def tabL {α : Type} (f : Nat → α) (n : Nat) : List α := (List.range n).map f
theorem tabL_S {α : Type} (f : Nat → α) (n : Nat) : tabL f (n + 1) = tabL f n ++ [f n] := by
 unfold tabL; rw [List.range_succ, List.map_append]; rfl
theorem tabL_len {α : Type} (f : Nat → α) (n : Nat) : (tabL f n).length = n := by simp [tabL]
theorem tabL_get {α : Type} (f : Nat → α) {n j : Nat} (h : j < n) (z : α) : (tabL f n).getD j z = f j := by
 unfold tabL
 rw [List.getD_eq_getElem?_getD, List.getElem?_map, List.getElem?_range h]; rfl
def tabSl (f : Nat → Int) (n : Nat) : Sl Int := ⟨false, n, fun j => (tabL f n).getD j ((tabL f n).getLastD 0)⟩
theorem tabSl_el (f : Nat → Int) {n j : Nat} (h : j < n) : (tabSl f n).el j = f j := tabL_get f h _
def tabP (f : Nat → Span) (n : Nat) : Sl Span := ⟨false, n, fun j => (tabL f n).getD j ((tabL f n).getLastD ⟨0, 0⟩)⟩
theorem tabP_el (f : Nat → Span) {n j : Nat} (h : j < n) : (tabP f n).el j = f j := tabL_get f h _
theorem upd_int (r : Nat → Int) (n : Nat) (p : Int) : updGet (fun j => eInt (r j)) n 0 (eInt p) = fun j => eInt (if j = n then p else r j) := by
 funext j
 unfold updGet
 by_cases h : j = n
 ·rw [if_pos h, if_pos h]; rfl
 ·rw [if_neg h, if_neg h]
def tabR (c : Cav) (m : Mea) (s : Stg) (r q u : Nat) : Int := if u < q then (restS c m s r (c.hold - u)).hi else 0
theorem tabR_lt {c : Cav} {m : Mea} {s : Stg} {r q u : Nat} (h : u < q) : tabR c m s r q u = (restS c m s r (c.hold - u)).hi := if_pos h
variable (F d : Nat)
section
variable {c : Cav} (hc : CavOk c) {m : Mea} (hm : MeaOk c m) {s : Stg} (hs : StgOk c.slices.len s) (w : Sl Int) (hwl : w.len = c.slices.len) (hw : ∀ i, i < c.slices.len → w.el i = gainI c m i)
include hc hm hs hwl hw
theorem l94x2 (m0 m1 r k q : Nat) (hk : k + (r + 1) = pathN s) (hq : (q : Int) ≤ c.hold) :
  let x := slAt c s k
  let g := gainI c m (pathAt s k).toNat
  let b := c.hold - q
  let a := min x.rate.lo b
  let fh := fun n => (restS c m s r (b - n)).hi + n * g
  ∀ j t fu, t + j = (min x.rate.hi b - a).toNat → j < fu →
  L94x2 (E F d) F c s w m0 m1 fu false (pathN s) 1 (fun i => eInt ((pathSl s).el i)) k q true (a + ((t + 1 : Nat) : Int)) (fun u => eInt (tabR c m s r (c.hold.toNat + 1) u)) x.rate.lo x.rate.hi (fun u => eInt (if u = q then bestHi fh a t else tabR c m s (r + 1) q u))
   = L94x1 (E F d) F c s w m0 m1 false (pathN s) 1 (fun i => eInt ((pathSl s).el i)) k ((q + 1 : Nat) : Int) (fun u => eInt (tabR c m s r (c.hold.toNat + 1) u)) x.rate.lo x.rate.hi (fun u => eInt (tabR c m s (r + 1) (q + 1) u)) := by
 intro x g b a fh
 have hH := hc.2.1
 have hp := pathN_le hs
 have hl := hc.1
 have hin := pathAt_in hs (k := k) (by omega)
 have hg : -6000000 ≤ g ∧ g ≤ 6000000 := (gain_in hc hm (k := (pathAt s k).toNat) (by omega)).2.2
 have hg' : w.el (pathAt s k).toNat = g := hw _ (by omega)
 have ho : SpanIn x.rate 0 300 := (slcOk_at hc hs (k := k) (by omega)).2.2.2.1
 unfold SpanIn at ho
 have hkN : pathN s - (r + 1) = k := by omega
 have hR := fun b h => rest_in hc hm hs r (by omega) b h
 have ha : a = min x.rate.lo b := rfl
 have hb : b = c.hold - q := rfl
 have hE : (restS c m s (r + 1) b).hi = bestHi fh a (min x.rate.hi b - a).toNat := by rw [restS, hkN]
 have hfin : ∀ t, -6000000 * c.hold ≤ bestHi fh a t → True := fun _ _ => trivial
 intro j
 induction j with
 | zero =>
  intro t fu h hf
  obtain ⟨fu, rfl⟩ : ∃ k, fu = k + 1 := ⟨fu - 1, by omega⟩
  rw [L94x2s]
  rw [wr (n := c.hold - q) (by omega)]
  simp only [mnE]
  rw [decide_eq_false (by omega), pF, wrS (by omega)]
  congr 1
  funext u
  refine congrArg eInt ?_
  unfold tabR
  by_cases h1 : u = q
  ·subst h1
   rw [if_pos rfl, if_pos (by omega), ← hb, hE, show t = (min x.rate.hi b - a).toNat by omega]
  ·rw [if_neg h1]
   by_cases h2 : u < q
   ·rw [if_pos h2, if_pos (by omega)]
   ·rw [if_neg h2, if_neg (by omega)]
 | succ j ih =>
  intro t fu h hf
  obtain ⟨fu, rfl⟩ : ∃ k, fu = k + 1 := ⟨fu - 1, by omega⟩
  have hr := (hR (b - (a + ((t + 1 : Nat) : Int))) (by omega)).2
  have hng := mulg (n := a + ((t + 1 : Nat) : Int)) (by omega) hg.1 hg.2
  rw [Int.mul_comm (a + ((t + 1 : Nat) : Int))] at hng
  have e1 : tabR c m s r (c.hold.toNat + 1) ((q : Int) + (a + ((t + 1 : Nat) : Int))).toNat = (restS c m s r (b - (a + ((t + 1 : Nat) : Int)))).hi := by
   rw [tabR_lt (by omega)]
   congr 2
   omega
  have e2 := ih (t + 1) fu (by omega) (by omega)
  rw [L94x2s]
  simp (disch := omega) only [wr, mnE, Int.toNat_natCast, decide_eq_true, decide_true, pT, tkCons_c, tkInt_i, pathSl_el, show ((1 : Nat) == 1) = true from rfl, hg', e1, Bool.not_true, pF, if_true]
  have e3 : g * (a + ((t + 1 : Nat) : Int)) + (restS c m s r (b - (a + ((t + 1 : Nat) : Int)))).hi = fh (a + ((t + 1 : Nat) : Int)) := by
   show _ = (restS c m s r (b - (a + ((t + 1 : Nat) : Int)))).hi + (a + ((t + 1 : Nat) : Int)) * g
   rw [Int.mul_comm g]; omega
  rw [e3]
  rw [show a + ((t + 1 : Nat) : Int) + 1 = a + ((t + 1 + 1 : Nat) : Int) by omega]
  have e4 : (fun u => eInt (if u = q then (if fh (a + ((t + 1 : Nat) : Int)) > bestHi fh a t then fh (a + ((t + 1 : Nat) : Int)) else bestHi fh a t) else tabR c m s (r + 1) q u)) = fun u => eInt (if u = q then bestHi fh a (t + 1) else tabR c m s (r + 1) q u) := by
   funext u
   refine congrArg eInt ?_
   by_cases h1 : u = q
   ·rw [if_pos h1, if_pos h1]
    simp only [bestHi]
    split <;> omega
   ·rw [if_neg h1, if_neg h1]
  rw [← e4] at e2
  by_cases hgt : fh (a + ((t + 1 : Nat) : Int)) > bestHi fh a t
  ·rw [decide_eq_true hgt, pT]
   simp only [if_pos hgt] at e2
   have e5 := upd_int (fun u => if u = q then bestHi fh a t else tabR c m s (r + 1) q u) q (fh (a + ((t + 1 : Nat) : Int)))
   have e6 : (fun u => eInt (if u = q then fh (a + ((t + 1 : Nat) : Int)) else if u = q then bestHi fh a t else tabR c m s (r + 1) q u)) = fun u => eInt (if u = q then fh (a + ((t + 1 : Nat) : Int)) else tabR c m s (r + 1) q u) := by
    funext u
    by_cases h1 : u = q
    ·rw [if_pos h1, if_pos h1]
    ·rw [if_neg h1, if_neg h1, if_neg h1]
   rw [e6] at e5
   rw [← e5] at e2
   exact e2
  ·rw [decide_eq_false hgt, pF]
   simp only [if_neg hgt] at e2
   exact e2
end
end Go.Sim.Le


namespace Go.Sim.Le
open Go.Proofs
variable (F d : Nat)
section
variable {c : Cav} (hc : CavOk c) {m : Mea} (hm : MeaOk c m) {s : Stg} (hs : StgOk c.slices.len s) (w : Sl Int) (hwl : w.len = c.slices.len) (hw : ∀ i, i < c.slices.len → w.el i = gainI c m i)
include hc hm hs hwl hw
theorem l94x1 (hF : 400 < F) (m0 r k : Nat) (hk : k + (r + 1) = pathN s) : ∀ j q fu, q + j = c.hold.toNat + 1 → j < fu →
  L94x1 (E F d) F c s w m0 fu false (pathN s) 1 (fun i => eInt ((pathSl s).el i)) k q (fun u => eInt (tabR c m s r (c.hold.toNat + 1) u)) (slAt c s k).rate.lo (slAt c s k).rate.hi (fun u => eInt (tabR c m s (r + 1) q u))
   = L94x0 (E F d) F c s w m0 false (pathN s) 1 (fun i => eInt ((pathSl s).el i)) ((k : Int) - 1) (fun u => eInt (tabR c m s (r + 1) (c.hold.toNat + 1) u)) := by
 have hH := hc.2.1
 have hp := pathN_le hs
 have hl := hc.1
 have hin := pathAt_in hs (k := k) (by omega)
 have hg : -6000000 ≤ gainI c m (pathAt s k).toNat ∧ gainI c m (pathAt s k).toNat ≤ 6000000 := (gain_in hc hm (k := (pathAt s k).toNat) (by omega)).2.2
 have hg' : w.el (pathAt s k).toNat = gainI c m (pathAt s k).toNat := hw _ (by omega)
 have ho : SpanIn (slAt c s k).rate 0 300 := (slcOk_at hc hs (k := k) (by omega)).2.2.2.1
 unfold SpanIn at ho
 intro j
 induction j with
 | zero =>
  intro q fu h hf
  obtain ⟨fu, rfl⟩ : ∃ k, fu = k + 1 := ⟨fu - 1, by omega⟩
  rw [L94x1s, decide_eq_false (by omega), pF, wr (by omega), show q = c.hold.toNat + 1 by omega]
 | succ j ih =>
  intro q fu h hf
  obtain ⟨fu, rfl⟩ : ∃ k, fu = k + 1 := ⟨fu - 1, by omega⟩
  obtain ⟨F, rfl⟩ : ∃ k, F = k + 1 := ⟨F - 1, by omega⟩
  have hr := (rest_in hc hm hs r (by omega) (c.hold - q - min (slAt c s k).rate.lo (c.hold - q)) (by omega)).2
  have hng := mulg (n := min (slAt c s k).rate.lo (c.hold - q)) (by omega) hg.1 hg.2
  rw [Int.mul_comm (min (slAt c s k).rate.lo (c.hold - q))] at hng
  have e1 : tabR c m s r (c.hold.toNat + 1) ((q : Int) + min (slAt c s k).rate.lo (c.hold - q)).toNat = (restS c m s r (c.hold - q - min (slAt c s k).rate.lo (c.hold - q))).hi := by
   rw [tabR_lt (by omega)]
   congr 2
   omega
  have e2 := l94x2 (F + 1) d hc hm hs w hwl hw m0 fu r k q hk (by omega) (min (slAt c s k).rate.hi (c.hold - q) - min (slAt c s k).rate.lo (c.hold - q)).toNat 0 F (by omega) (by omega)
  rw [L94x1s, decide_eq_true (by omega), pT, wr (by omega), L94x2s]
  simp (disch := omega) only [wr, mnE, Int.toNat_natCast, decide_eq_true, decide_true, pT, tkCons_c, tkInt_i, pathSl_el, show ((1 : Nat) == 1) = true from rfl, hg', e1, Bool.not_false]
  have e3 := upd_int (tabR c m s (r + 1) q) q (gainI c m (pathAt s k).toNat * min (slAt c s k).rate.lo (c.hold - q) + (restS c m s r (c.hold - q - min (slAt c s k).rate.lo (c.hold - q))).hi)
  rw [e3, ← ih (q + 1) fu (by omega) (by omega), ← e2]
  simp only [bestHi, Int.natCast_one, Int.zero_add, Nat.zero_add]
  rw [Int.add_comm (restS c m s r _).hi, Int.mul_comm (min (slAt c s k).rate.lo (c.hold - q)) (gainI _ _ _)]
theorem l94x0 (hF : 400 < F) : ∀ k r fu, k + r = pathN s → k < fu →
  L94x0 (E F d) F c s w fu false (pathN s) 1 (fun i => eInt ((pathSl s).el i)) ((k : Int) - 1) (fun u => eInt (tabR c m s r (c.hold.toNat + 1) u)) = some (.ret (.int .i64 (restS c m s (pathN s) c.hold).hi)) := by
 have hH := hc.2.1
 have hp := pathN_le hs
 have hl := hc.1
 intro k
 induction k with
 | zero =>
  intro r fu h hf
  obtain ⟨fu, rfl⟩ : ∃ k, fu = k + 1 := ⟨fu - 1, by omega⟩
  rw [L94x0s]
  rw [decide_eq_false (by omega), pF, wr (by omega), decide_eq_true (by omega), pT, tkCons_c, tkInt_i, tabR_lt (by omega), show r = pathN s by omega]
  simp
 | succ k ih =>
  intro r fu h hf
  obtain ⟨fu, rfl⟩ : ∃ k, fu = k + 1 := ⟨fu - 1, by omega⟩
  have hin := pathAt_in hs (k := k) (by omega)
  have e2 := l94x1 F d hc hm hs w hwl hw hF fu r k (by omega) (c.hold.toNat + 1) 0 F (by omega) (by omega)
  rw [ih (r + 1) fu (by omega) (by omega)] at e2
  rw [L94x0s, show (((k + 1 : Nat) : Int) - 1) = (k : Int) by omega]
  simp (disch := omega) only [wr, Int.toNat_natCast, decide_eq_true, decide_true, pT, tkCons_c, tkInt_i, pathSl_el, show ((1 : Nat) == 1) = true from rfl]
  refine Eq.trans ?_ e2
  congr 1
theorem s94 (hF : 400 < F) : (E F (d + 2)).pf 94 [.agg (eCav c), .agg (eStg s), sl eInt 1 w] = some (.ret (.int .i64 (restS c m s (pathN s) c.hold).hi)) := by
 have hH := hc.2.1
 have hp := pathN_le hs
 have hl := hc.1
 have e2 := l94x0 F (d + 1) hc hm hs w hwl hw hF (pathN s) 0 F (by omega) (by omega)
 rw [E_pf, t94]
 simp (disch := omega) only [s83 F d s hs hl.2, tkOut_ret, tkRow_r, wr, decide_eq_true, decide_true, pT, show (pathSl s).len = pathN s from rfl, show (pathSl s).nl = false from rfl]
 have e0 : (fun u => eInt (tabR c m s 0 (c.hold.toNat + 1) u)) = fun _ => [V.int .i64 0] := by
  funext u
  simp only [tabR, restS, ite_self]
 rw [e0] at e2
 exact e2
end
abbrev meaSl (c : Cav) (m : Mea) : Sl Int := tabSl (gainI c m) c.slices.len
theorem l95 {c : Cav} (hc : CavOk c) {m : Mea} (hm : MeaOk c m) : ∀ j k fu, k + j = c.slices.len → 1 ≤ k → j < fu →
  L95x1 (E F d) F c m.weights m.sump fu k k k (gl eInt 0 (tabL (gainI c m) k)) = some (.ret (sl eInt 1 (meaSl c m))) := by
 have hl := hc.1
 have hw := hm.1
 intro j
 induction j with
 | zero =>
  intro k fu h hk hf
  obtain ⟨fu, rfl⟩ : ∃ k, fu = k + 1 := ⟨fu - 1, by omega⟩
  rw [L95x1s, decide_eq_false (by omega), pF]
  have : k = c.slices.len := by omega
  rw [this]
  rfl
 | succ j ih =>
  intro k fu h hk hf
  obtain ⟨fu, rfl⟩ : ∃ k, fu = k + 1 := ⟨fu - 1, by omega⟩
  have hG := gain_in hc hm (k := k) (by omega)
  have hG2 := hG.2.2
  unfold gainI at hG2
  rw [Int.mul_comm (c.slices.el k).opn, Int.mul_comm (c.slices.el k).fall] at hG hG2
  have hG1 := hG.1
  have hG3 := hG.2.1
  rw [L95x1s]
  simp (disch := omega) only [wr, decide_eq_true, decide_true, pT, Int.toNat_natCast]
  rw [show m.weights.el k * (c.slices.el k).opn + m.sump * (c.slices.el k).fall = gainI c m k by unfold gainI; rw [Int.mul_comm (c.slices.el k).opn, Int.mul_comm (c.slices.el k).fall]]
  have e3 : appGet k (gl eInt 0 (tabL (gainI c m) k)) (fun _ => [.int .i64 (gainI c m k)]) = gl eInt 0 (tabL (gainI c m) (k + 1)) := by
   refine (gl_snoc (m := gainI c m k) (e := eInt) (tabL_len _ k) rfl).trans ?_
   rw [← tabL_S]
  rw [e3]
  exact ih (k + 1) fu (by omega) (by omega) (by omega)
theorem s95 {c : Cav} (hc : CavOk c) {m : Mea} (hm : MeaOk c m) (hF : 400 < F) : (E F (d + 1)).pf 95 [.agg (eCav c), sl eInt 1 m.weights, .int .i64 m.sump] = some (.ret (sl eInt 1 (meaSl c m))) := by
 have hl := hc.1
 have hw := hm.1
 obtain ⟨F, rfl⟩ : ∃ k, F = k + 1 := ⟨F - 1, by omega⟩
 have hG := gain_in hc hm (k := 0) (by omega)
 have hG2 := hG.2.2
 unfold gainI at hG2
 rw [Int.mul_comm (c.slices.el 0).opn, Int.mul_comm (c.slices.el 0).fall] at hG hG2
 have hG1 := hG.1
 have hG3 := hG.2.1
 have e := l95 (F + 1) d hc hm (c.slices.len - 1) 1 F (by omega) (by omega) (by omega)
 rw [E_pf, t95, L95x0s]
 simp (disch := omega) only [wr, decide_eq_true, decide_true, pT]
 rw [show m.weights.el 0 * (c.slices.el 0).opn + m.sump * (c.slices.el 0).fall = gainI c m 0 by unfold gainI; rw [Int.mul_comm (c.slices.el 0).opn, Int.mul_comm (c.slices.el 0).fall]]
 rw [show tabL (gainI c m) 1 = [gainI c m 0] from rfl, ← gl_one rfl] at e
 exact e
theorem times_hi {p : Span} (h : p.lo ≤ p.hi) (n : Int) : max (n * p.lo) (n * p.hi) = (timesS p n).hi := by
 unfold timesS
 by_cases hn : n < 0
 ·rw [if_pos hn]
  have := Int.mul_le_mul_of_nonneg_left (c := -n) h (by omega)
  rw [Int.neg_mul, Int.neg_mul] at this
  show max (n * p.lo) (n * p.hi) = n * p.lo
  omega
 ·rw [if_neg hn]
  have := Int.mul_le_mul_of_nonneg_left (c := n) h (by omega)
  show max (n * p.lo) (n * p.hi) = n * p.hi
  omega
theorem l65x1 {c : Cav} (hc : CavOk c) {m : Mea} (hm : MeaOk c m) (l : Sl Stg) (hn : l.len ≤ 300) (hl : ∀ i, i < l.len → StgOk c.slices.len (l.el i)) (hF : 400 < F) : ∀ j k fu, k + j = l.len → j < fu →
  L65x1 (E F (d + 3)) F c l m.weights m.sump fu (boundS c l.el m k).hi k = some (.ret (.int .i64 (boundS c l.el m l.len).hi)) := by
 intro j
 induction j with
 | zero =>
  intro k fu h hf
  obtain ⟨fu, rfl⟩ : ∃ k, fu = k + 1 := ⟨fu - 1, by omega⟩
  rw [L65x1s, decide_eq_false (by omega), pF, show k = l.len by omega]
 | succ j ih =>
  intro k fu h hf
  obtain ⟨fu, rfl⟩ : ∃ k, fu = k + 1 := ⟨fu - 1, by omega⟩
  have h2 := bound_in hc hm hl k (by omega)
  have h3 := grown_in hc hm (hl k (by omega))
  have hg : (grownS c m (l.el k)).hi = (l.el k).water * (restS c m (l.el k) (pathN (l.el k)) c.hold).hi := by
   unfold grownS timesS
   have := (hl k (by omega)).1
   rw [if_neg (by omega)]
  rw [L65x1s]
  simp (disch := omega) only [wr, decide_eq_true, decide_true, pT, Int.toNat_natCast, s95 F (d + 2) hc hm hF, tkOut_ret, tkRow_r]
  rw [show V.row (meaSl c m).nl (meaSl c m).len 1 (fun i => eInt ((meaSl c m).el i)) = sl eInt 1 (meaSl c m) from rfl, s94 F (d + 1) hc hm (hl k (by omega)) (meaSl c m) rfl (fun i hi => tabSl_el _ hi) hF]
  simp (disch := omega) only [wr, tkOut_ret, tkInt_i, decide_true, pT]
  have e := ih (k + 1) fu (by omega) (by omega)
  simp only [boundS, addS, hg] at e
  exact e
theorem l65x0 {c : Cav} (hc : CavOk c) {m : Mea} (hm : MeaOk c m) (l : Sl Stg) (hn : l.len ≤ 300) (hl : ∀ i, i < l.len → StgOk c.slices.len (l.el i)) (hF : 400 < F) : ∀ j k fu, k + j = c.slices.len → j < fu →
  L65x0 (E F (d + 3)) F c l m.weights m.sump fu (firstS c m k).hi k = some (.ret (.int .i64 (boundS c l.el m l.len).hi)) := by
 have hcl := hc.1
 have hml := hm.1
 intro j
 induction j with
 | zero =>
  intro k fu h hf
  obtain ⟨fu, rfl⟩ : ∃ k, fu = k + 1 := ⟨fu - 1, by omega⟩
  rw [L65x0s, decide_eq_false (by omega), pF, show k = c.slices.len by omega]
  exact l65x1 F d hc hm l hn hl hF l.len 0 F (by omega) (by omega)
 | succ j ih =>
  intro k fu h hf
  obtain ⟨fu, rfl⟩ : ∃ k, fu = k + 1 := ⟨fu - 1, by omega⟩
  have h1 := vol_in hc hm (k := k) (by omega)
  have h2 := first_in hc hm k (by omega)
  have h3 := first_in hc hm (k + 1) (by omega)
  have h4 := (hc.2.2.2 k (by omega)).1.2.1
  simp only [firstS, addS] at h3
  rw [L65x0s]
  simp (disch := omega) only [wr, decide_eq_true, decide_true, pT, Int.toNat_natCast, mxE, times_hi h4]
  have e := ih (k + 1) fu (by omega) (by omega)
  exact e
theorem s65 {c : Cav} (hc : CavOk c) {m : Mea} (hm : MeaOk c m) (l : Sl Stg) (hn : l.len ≤ 300) (hl : ∀ i, i < l.len → StgOk c.slices.len (l.el i)) (hF : 400 < F) :
  (E F (d + 4)).pf 65 [.agg (eCav c), sl eStg 4 l, sl eInt 1 m.weights, .int .i64 m.sump] = some (.ret (.int .i64 (boundS c l.el m l.len).hi)) := by
 have hcl := hc.1
 rw [E_pf, t65]
 exact l65x0 F d hc hm l hn hl hF c.slices.len 0 F (by omega) (by omega)
end Go.Sim.Le


namespace Go.Sim.Le
open Go.Proofs
theorem bestHi_neg {f g : Int → Int} {a : Int} : ∀ j : Nat, (∀ n, a ≤ n → n ≤ a + j → g n = -f n) → bestHi g a j = -bestLo f a j ∧ bestLo g a j = -bestHi f a j := by
 intro j
 induction j with
 | zero => intro h; exact ⟨h a (by omega) (by omega), h a (by omega) (by omega)⟩
 | succ j ih =>
  intro h
  have h1 := ih fun n h1 h2 => h n h1 (by omega)
  have h2 := h (a + ((j + 1 : Nat) : Int)) (by omega) (by omega)
  simp only [bestHi, bestLo]
  omega
theorem rest_neg {c : Cav} (hc : CavOk c) {m m' : Mea} {s : Stg} (hs : StgOk c.slices.len s) (hg : ∀ i, i < c.slices.len → gainI c m' i = -gainI c m i) : ∀ r, r ≤ pathN s → ∀ b, 0 ≤ b → restS c m' s r b = ⟨-(restS c m s r b).hi, -(restS c m s r b).lo⟩ := by
 intro r
 induction r with
 | zero => intro _ b _; simp [restS]
 | succ r ih =>
  intro h b hb
  have hin := pathAt_in hs (k := pathN s - (r + 1)) (by omega)
  have ho : SpanIn (slAt c s (pathN s - (r + 1))).rate 0 300 := (slcOk_at hc hs (k := pathN s - (r + 1)) (by omega)).2.2.2.1
  unfold SpanIn at ho
  simp only [restS]
  rw [hg _ (by omega)]
  generalize (slAt c s (pathN s - (r + 1))).rate.lo = lo at ho ⊢
  generalize (slAt c s (pathN s - (r + 1))).rate.hi = hi at ho ⊢
  generalize gainI c m (pathAt s (pathN s - (r + 1))).toNat = g
  have e1 := bestHi_neg (f := fun n => (restS c m s r (b - n)).hi + n * g) (g := fun n => (restS c m' s r (b - n)).lo + n * -g) (a := min lo b) (min hi b - min lo b).toNat (by
   intro n h1 h2
   show (restS c m' s r (b - n)).lo + n * -g = -((restS c m s r (b - n)).hi + n * g)
   rw [ih (by omega) (b - n) (by omega), Int.mul_neg]
   simp only
   omega)
  have e2 := bestHi_neg (f := fun n => (restS c m s r (b - n)).lo + n * g) (g := fun n => (restS c m' s r (b - n)).hi + n * -g) (a := min lo b) (min hi b - min lo b).toNat (by
   intro n h1 h2
   show (restS c m' s r (b - n)).hi + n * -g = -((restS c m s r (b - n)).lo + n * g)
   rw [ih (by omega) (b - n) (by omega), Int.mul_neg]
   simp only
   omega)
  rw [e1.2, e2.1]
theorem rest_cong {c : Cav} (hc : CavOk c) {m m' : Mea} {s : Stg} (hs : StgOk c.slices.len s) (hg : ∀ i, i < c.slices.len → gainI c m' i = gainI c m i) : ∀ r, r ≤ pathN s → ∀ b, 0 ≤ b → restS c m' s r b = restS c m s r b := by
 intro r h b hb
 have h1 := rest_neg hc (m := m) (m' := ⟨⟨false, 0, fun i => -m.weights.el i⟩, -m.sump⟩) hs (fun i hi => by simp only [gainI, Int.mul_neg]; omega) r h b hb
 have h2 := rest_neg hc (m := ⟨⟨false, 0, fun i => -m.weights.el i⟩, -m.sump⟩) (m' := m') hs (fun i hi => by rw [hg i hi]; simp only [gainI, Int.mul_neg]; omega) r h b hb
 rw [h2, h1]
 simp
theorem timesS_neg {p : Span} (h : p.lo ≤ p.hi) (n : Int) : timesS p (-n) = ⟨-(timesS p n).hi, -(timesS p n).lo⟩ := by
 unfold timesS
 by_cases h0 : n = 0
 ·subst h0; simp
 ·by_cases h1 : n < 0
  ·rw [if_neg (by omega), if_pos h1]; simp [Int.neg_mul]
  ·rw [if_pos (by omega), if_neg h1]; simp [Int.neg_mul]
theorem first_neg {c : Cav} (hc : CavOk c) {m m' : Mea} (hw : ∀ i, i < c.slices.len → m'.weights.el i = -m.weights.el i) : ∀ k, k ≤ c.slices.len → firstS c m' k = ⟨-(firstS c m k).hi, -(firstS c m k).lo⟩ := by
 intro k
 induction k with
 | zero => intro _; simp [firstS]
 | succ k ih =>
  intro h
  simp only [firstS, addS]
  rw [ih (by omega), hw k (by omega), timesS_neg (hc.2.2.2 k (by omega)).1.2.1]
  simp only
  rw [Int.neg_add, Int.neg_add]
theorem bound_neg {c : Cav} (hc : CavOk c) {m m' : Mea} {n : Nat} {l : Nat → Stg} (hl : ∀ i, i < n → StgOk c.slices.len (l i)) (hw : ∀ i, i < c.slices.len → m'.weights.el i = -m.weights.el i) (hv : m'.sump = -m.sump) : ∀ k, k ≤ n → boundS c l m' k = ⟨-(boundS c l m k).hi, -(boundS c l m k).lo⟩ := by
 intro k
 induction k with
 | zero => intro _; exact first_neg hc hw _ (Nat.le_refl _)
 | succ k ih =>
  intro h
  have hk := hl k (by omega)
  have hH := hc.2.1
  simp only [boundS, addS, grownS]
  rw [ih (by omega), rest_neg hc hk (m := m) (fun i hi => by simp only [gainI, hw i hi, hv, Int.mul_neg]; omega) _ (Nat.le_refl _) _ (by omega)]
  have : ¬ (l k).water < 0 := by have := hk.1; omega
  simp only [timesS, if_neg this, Int.mul_neg, Int.neg_add]
theorem first_cong {c : Cav} {m m' : Mea} (hw : ∀ i, i < c.slices.len → m'.weights.el i = m.weights.el i) : ∀ k, k ≤ c.slices.len → firstS c m' k = firstS c m k := by
 intro k
 induction k with
 | zero => intro _; rfl
 | succ k ih =>
  intro h
  simp only [firstS]
  rw [ih (by omega), hw k (by omega)]
theorem grown_cong {c : Cav} (hc : CavOk c) {m m' : Mea} {s : Stg} (hs : StgOk c.slices.len s) (hw : ∀ i, i < c.slices.len → m'.weights.el i = m.weights.el i) (hv : m'.sump = m.sump) : grownS c m' s = grownS c m s := by
 have hH := hc.2.1
 unfold grownS
 rw [rest_cong hc hs (m := m) (fun i hi => by simp only [gainI, hw i hi, hv]) _ (Nat.le_refl _) _ (by omega)]
theorem bound_cong {c : Cav} (hc : CavOk c) {m m' : Mea} {n : Nat} {l : Nat → Stg} (hl : ∀ i, i < n → StgOk c.slices.len (l i)) (hw : ∀ i, i < c.slices.len → m'.weights.el i = m.weights.el i) (hv : m'.sump = m.sump) : ∀ k, k ≤ n → boundS c l m' k = boundS c l m k := by
 intro k
 induction k with
 | zero => intro _; exact first_cong hw _ (Nat.le_refl _)
 | succ k ih =>
  intro h
  simp only [boundS]
  rw [ih (by omega), grown_cong hc (hl k (by omega)) hw hv]
variable (F d : Nat)
def negR (w : Sl Int) (q u : Nat) : Int := if u < q then -w.el u else 0
theorem l25 {c : Cav} (hc : CavOk c) {m : Mea} (hm : MeaOk c m) (l : Sl Stg) (hn : l.len ≤ 300) (hl : ∀ i, i < l.len → StgOk c.slices.len (l.el i)) (hF : 400 < F) : ∀ j k fu, k + j = m.weights.len → j < fu →
  L25x0 (E F (d + 4)) F c l m.weights m.sump fu k (fun u => eInt (negR m.weights k u)) = some (.ret (.agg (eSpan (boundS c l.el m l.len)))) := by
 have hcl := hc.1
 have hml := hm.1
 intro j
 induction j with
 | zero =>
  intro k fu h hf
  obtain ⟨fu, rfl⟩ : ∃ k, fu = k + 1 := ⟨fu - 1, by omega⟩
  have hk : k = m.weights.len := by omega
  have hm' : MeaOk c ⟨⟨false, m.weights.len, negR m.weights m.weights.len⟩, -m.sump⟩ := ⟨hm.1, fun i hi => by
   have := hm.2.1 i hi
   simp only [negR]
   rw [if_pos (by omega)]; omega, by have := hm.2.2; show -1000 ≤ -m.sump; omega, by have := hm.2.2; show -m.sump ≤ 1000; omega⟩
  have e1 := s65 F d hc hm' l hn hl hF
  have e2 := s65 F d hc hm l hn hl hF
  have e3 := bound_neg hc (m := m) (m' := ⟨⟨false, m.weights.len, negR m.weights m.weights.len⟩, -m.sump⟩) hl (fun i hi => by simp only [negR]; rw [if_pos (by omega)]) rfl l.len (Nat.le_refl _)
  have h2 := bound_in hc hm hl l.len (Nat.le_refl _)
  have h3 := hm.2.2
  rw [L25x0s, hk]
  simp only [sl] at e1
  simp (disch := omega) only [decide_eq_false, pF, wr, Int.toNat_natCast, Int.zero_sub]
  rw [e1, e2, e3]
  simp (disch := omega) only [tkOut_ret, tkInt_i, wr, Int.neg_neg]
 | succ j ih =>
  intro k fu h hf
  obtain ⟨fu, rfl⟩ : ∃ k, fu = k + 1 := ⟨fu - 1, by omega⟩
  have h1 := hm.2.1 k (by omega)
  have e3 := upd_int (negR m.weights k) k (-m.weights.el k)
  have e4 : (fun u => eInt (if u = k then -m.weights.el k else negR m.weights k u)) = fun u => eInt (negR m.weights (k + 1) u) := by
   funext u
   refine congrArg eInt ?_
   unfold negR
   by_cases h2 : u = k
   ·subst h2; rw [if_pos rfl, if_pos (by omega)]
   ·rw [if_neg h2]
    by_cases h3 : u < k
    ·rw [if_pos h3, if_pos (by omega)]
    ·rw [if_neg h3, if_neg (by omega)]
  rw [e4] at e3
  rw [L25x0s]
  simp (disch := omega) only [decide_eq_true, decide_true, pT, wr, Int.toNat_natCast, Int.zero_sub]
  rw [e3]
  exact ih (k + 1) fu (by omega) (by omega)
theorem s25 {c : Cav} (hc : CavOk c) {m : Mea} (hm : MeaOk c m) (l : Sl Stg) (hn : l.len ≤ 300) (hl : ∀ i, i < l.len → StgOk c.slices.len (l.el i)) (hF : 400 < F) :
  (E F (d + 5)).pf 25 [.agg (eCav c), sl eStg 4 l, sl eInt 1 m.weights, .int .i64 m.sump] = some (.ret (.agg (eSpan (boundS c l.el m l.len)))) := by
 have hcl := hc.1
 have hml := hm.1
 have e := l25 F d hc hm l hn hl hF m.weights.len 0 F (by omega) (by omega)
 rw [E_pf, t25]
 simp (disch := omega) only [decide_eq_true, decide_true, pT]
 exact e
theorem s22 (c : Cav) (l : Sl Stg) (w : Sl Int) (n : Int) (hC : c.slices.len < Big) (hCF : c.slices.len < F) (hB : l.len < Big) (hLF : l.len < F) (hW : w.len < Big) (hWF : w.len < F) (hF : 400 < F) :
  (E F (d + 15)).pf 22 [.agg (eCav c), sl eStg 4 l, sl eInt 1 w, .int .i64 n] =
  some (.ret (.tup (if errP c l (decide (WtOk c w n)) = 0 then [.agg (eSpan (boundS c l.el ⟨w, n⟩ l.len)), .int .i64 0] else [.agg [.int .i64 0, .int .i64 0], .int .i64 (errP c l (decide (WtOk c w n)))]))) := by
 rw [E_pf, t22]
 simp only [s57e F (d + 7) c l hC hCF hB hLF, tkOut_ret, tkInt_i, decide_true, pT]
 by_cases h0 : errP c l true = 0
 ·have h0' : 8 ≥ l.len ∧ CavOk c ∧ ∀ i, i < l.len → StgOk c.slices.len (l.el i) := by
   unfold errP at h0
   split at h0
   ·omega
   ·rename_i h8
    split at h0
    ·rename_i h9; exact ⟨by omega, h9.1, h9.2.1⟩
    ·omega
  obtain ⟨h8, hc, hl⟩ := h0'
  rw [h0, show ((0 : Int) != 0) = false from rfl, pF]
  by_cases hw : w.len = c.slices.len
  ·have e1 : ((w.len : Int) != (c.slices.len : Int)) = false := by rw [hw]; simp
   rw [e1, pF, s58 F (d + 12)]
   simp only [tkOut_ret, tkBool_b]
   by_cases hn : -1000 ≤ n ∧ n ≤ 1000
   ·rw [decide_eq_true hn, Bool.not_true, pF, s6061 F (d + 9) w hW hWF]
    simp only [tkOut_ret, tkBool_b]
    by_cases ha : ∀ i, i < w.len → -1000 ≤ w.el i ∧ w.el i ≤ 1000
    ·have hm : MeaOk c ⟨w, n⟩ := ⟨hw, fun i hi => ha i (by omega), hn.1, hn.2⟩
     have hk : WtOk c w n := ⟨ha, hw, hn⟩
     rw [decide_eq_true ha, Bool.not_true, pF]
     have e2 := s62 F d hc hm l (by omega) hl hF
     simp only [eMea] at e2
     rw [e2]
     simp only [tkOut_ret, tkAgg_a, tkCons_c, tkInt_i, tkNil_n]
     rw [decide_eq_true hk, h0, if_pos rfl]
    ·have hk : ¬ WtOk c w n := fun h => ha h.1
     rw [decide_eq_false ha, Bool.not_false, pT]
     have e3 : errP c l (decide (WtOk c w n)) = 2 := by rw [decide_eq_false hk]; unfold errP; rw [if_neg (by omega), if_neg (fun h => by cases h.2.2)]
     rw [e3]; rfl
   ·have hk : ¬ WtOk c w n := fun h => hn h.2.2
    rw [decide_eq_false hn, Bool.not_false, pT]
    have e3 : errP c l (decide (WtOk c w n)) = 2 := by rw [decide_eq_false hk]; unfold errP; rw [if_neg (by omega), if_neg (fun h => by cases h.2.2)]
    rw [e3]; rfl
  ·have e1 : ((w.len : Int) != (c.slices.len : Int)) = true := by simp; omega
   have hk : ¬ WtOk c w n := fun h => hw h.2.1
   rw [e1, pT]
   have e3 : errP c l (decide (WtOk c w n)) = 2 := by rw [decide_eq_false hk]; unfold errP; rw [if_neg (by omega), if_neg (fun h => by cases h.2.2)]
   rw [e3]; rfl
 ·have e1 : (errP c l true != 0) = true := by simpa using h0
  have e3 : errP c l (decide (WtOk c w n)) = errP c l true := by
   unfold errP at h0 ⊢
   split
   ·rfl
   ·rename_i h8
    rw [if_neg h8] at h0
    split
    ·rename_i h9
     rw [if_pos ⟨h9.1, h9.2.1, rfl⟩] at h0
     exact (h0 rfl).elim
    ·rename_i h9
     split
     ·rename_i h10
      rw [if_pos h10] at h0
      exact (h0 rfl).elim
     ·rfl
  rw [e1, pT, e3, if_neg h0]
end Go.Sim.Le


namespace Go.Sim.Le
open Go.Proofs
def wv (x y : Int) (u : Nat) : Int := if x = 0 ∧ (u : Int) ≤ y then -1 else if (x = 1 ∧ y ≤ u) ∨ (x = 2 ∧ (u : Int) = y) then 1 else 0
def meaW (x y : Int) (q u : Nat) : Int := if u < q then wv x y u else 0
def meaS (c : Cav) (x y : Int) : Mea := ⟨⟨false, c.slices.len, meaW x y c.slices.len⟩, if x = 0 then 1 else 0⟩
theorem wv_in (x y : Int) (u : Nat) : -1 ≤ wv x y u ∧ wv x y u ≤ 1 := by
 unfold wv; split
 ·omega
 ·split <;> omega
theorem meaOk (c : Cav) (x y : Int) : MeaOk c (meaS c x y) := ⟨rfl, fun i hi => by
 have := wv_in x y i
 simp only [meaS, meaW]
 rw [if_pos hi]; omega, by show -1000 ≤ (if x = 0 then (1 : Int) else 0); split <;> omega, by show (if x = 0 then (1 : Int) else 0) ≤ 1000; split <;> omega⟩
variable (F d : Nat)
theorem meaW_upd (x y : Int) (k : Nat) : updGet (fun u => eInt (meaW x y k u)) k 0 [.int .i64 (wv x y k)] = fun u => eInt (meaW x y (k + 1) u) := by
 have e3 := upd_int (meaW x y k) k (wv x y k)
 refine e3.trans ?_
 funext u
 refine congrArg eInt ?_
 unfold meaW
 by_cases h2 : u = k
 ·subst h2; rw [if_pos rfl, if_pos (by omega)]
 ·rw [if_neg h2]
  by_cases h3 : u < k
  ·rw [if_pos h3, if_pos (by omega)]
  ·rw [if_neg h3, if_neg (by omega)]
theorem meaW_same (x y : Int) (k : Nat) (h : wv x y k = 0) : (fun u => eInt (meaW x y k u)) = fun u => eInt (meaW x y (k + 1) u) := by
 funext u
 refine congrArg eInt ?_
 unfold meaW
 by_cases h2 : u = k
 ·subst h2; rw [if_neg (by omega), if_pos (by omega), h]
 ·by_cases h3 : u < k
  ·rw [if_pos h3, if_pos (by omega)]
  ·rw [if_neg h3, if_neg (by omega)]
theorem l113 (c : Cav) (hB : c.slices.len < Big) (x y : Int) (hx : 0 ≤ x ∧ x ≤ 2) : ∀ j k fu, k + j = c.slices.len → j < fu →
  L113x0 (E F d) F c x y fu k (fun u => eInt (meaW x y k u)) = some (.ret (.agg (eMea (meaS c x y)))) := by
 have hB' : c.slices.len < 4611686018427387904 := hB
 have hx' : x = 0 ∨ x = 1 ∨ x = 2 := by omega
 intro j
 induction j with
 | zero =>
  intro k fu h hf
  obtain ⟨fu, rfl⟩ : ∃ k, fu = k + 1 := ⟨fu - 1, by omega⟩
  have hk : k = c.slices.len := by omega
  subst hk
  rw [L113x0s, Int.toNat_natCast]
  rw [decide_eq_false (by omega), pF]
  rcases hx' with rfl | rfl | rfl <;> rfl
 | succ j ih =>
  intro k fu h hf
  obtain ⟨fu, rfl⟩ : ∃ k, fu = k + 1 := ⟨fu - 1, by omega⟩
  have e := ih (k + 1) fu (by omega) (by omega)
  have hS : IntKind.i64.wrap ((k : Int) + 1) = ((k + 1 : Nat) : Int) := wrS (by omega)
  rw [L113x0s, Int.toNat_natCast]
  rw [decide_eq_true (show (k : Int) < c.slices.len by omega), pT, hS]
  rcases hx' with rfl | rfl | rfl
  ·by_cases h1 : (k : Int) ≤ y
   ·have hw : wv 0 y k = -1 := by unfold wv; rw [if_pos ⟨rfl, h1⟩]
    have e2 := meaW_upd 0 y k
    rw [hw] at e2
    rw [← e2] at e
    simp (disch := omega) only [beq_self_eq_true, pT, decide_eq_true, decide_true, Int.toNat_natCast]
    exact e
   ·have hw : wv 0 y k = 0 := by unfold wv; rw [if_neg (fun h => h1 h.2), if_neg (by omega)]
    rw [← meaW_same 0 y k hw] at e
    simp (disch := omega) only [beq_self_eq_true, pT, pF, decide_eq_false, show ((0 : Int) == 1) = false from rfl, show ((0 : Int) == 2) = false from rfl]
    exact e
  ·by_cases h1 : (k : Int) ≥ y
   ·have hw : wv 1 y k = 1 := by unfold wv; rw [if_neg (by omega), if_pos (.inl ⟨rfl, h1⟩)]
    have e2 := meaW_upd 1 y k
    rw [hw] at e2
    rw [← e2] at e
    simp (disch := omega) only [beq_self_eq_true, pT, pF, decide_eq_true, decide_true, Int.toNat_natCast, show ((1 : Int) == 0) = false from rfl]
    exact e
   ·have hw : wv 1 y k = 0 := by unfold wv; rw [if_neg (by omega), if_neg (by omega)]
    rw [← meaW_same 1 y k hw] at e
    simp (disch := omega) only [beq_self_eq_true, pT, pF, decide_eq_false, show ((1 : Int) == 0) = false from rfl, show ((1 : Int) == 2) = false from rfl]
    exact e
  ·by_cases h1 : (k : Int) = y
   ·have hw : wv 2 y k = 1 := by unfold wv; rw [if_neg (by omega), if_pos (.inr ⟨rfl, h1⟩)]
    have e2 := meaW_upd 2 y k
    rw [hw] at e2
    rw [← e2] at e
    have h2 : ((k : Int) == y) = true := by rw [beq_iff_eq]; exact h1
    simp (disch := omega) only [beq_self_eq_true, pT, pF, decide_eq_true, decide_true, Int.toNat_natCast, show ((2 : Int) == 0) = false from rfl, show ((2 : Int) == 1) = false from rfl, h2]
    exact e
   ·have hw : wv 2 y k = 0 := by unfold wv; rw [if_neg (by omega), if_neg (by omega)]
    rw [← meaW_same 2 y k hw] at e
    have h2 : ((k : Int) == y) = false := by rw [beq_eq_false_iff_ne]; exact h1
    simp (disch := omega) only [beq_self_eq_true, pT, pF, show ((2 : Int) == 0) = false from rfl, show ((2 : Int) == 1) = false from rfl, h2]
    exact e
theorem s113 (c : Cav) (hl : c.slices.len ≤ 300) (x y : Int) (hx : 0 ≤ x ∧ x ≤ 2) (hF : 400 < F) : (E F (d + 1)).pf 113 [.agg (eCav c), .agg [.int .i64 x, .int .i64 y]] = some (.ret (.agg (eMea (meaS c x y)))) := by
 have e := l113 F d c (show c.slices.len < 4611686018427387904 by omega) x y hx c.slices.len 0 F (by omega) (by omega)
 have e0 : (fun u => eInt (meaW x y 0 u)) = fun _ => [V.int .i64 0] := by
  funext u
  simp only [meaW, Nat.not_lt_zero, if_false]
 rw [e0] at e
 rw [E_pf, t113]
 simp (disch := omega) only [decide_eq_true, decide_true, pT]
 exact e
abbrev GKey : Type := Stg × Int × Int
def gK (p : GKey) : V := .agg [.int .i64 p.1.water, .int .i64 p.1.into, .int .i64 p.1.out, .int .i64 p.1.blanket, .int .i64 p.2.1, .int .i64 p.2.2]
def gV (c : Cav) (p : GKey) : V := .agg (eSpan (grownS c (meaS c p.2.1 p.2.2) p.1))
abbrev GOk (L : List Stg) (p : GKey) : Prop := p.1 ∈ L ∧ (0 ≤ p.2.1 ∧ p.2.1 ≤ 2) ∧ 0 ≤ p.2.2 ∧ p.2.2 ≤ 10
abbrev Gs (L : List Stg) (ks : List GKey) : Prop := ks.Nodup ∧ ∀ p ∈ ks, GOk L p
theorem gK_eq (p q : GKey) : keyEq (gK p) (gK q) = decide (p = q) := by
 obtain ⟨⟨a1, a2, a3, a4⟩, a5, a6⟩ := p
 obtain ⟨⟨b1, b2, b3, b4⟩, b5, b6⟩ := q
 apply Go.Sim.Le.b2
 simp [gK, keyEq, keysEq, keyEq1, and_assoc]
theorem gs_len {L : List Stg} {ks : List GKey} (h : Gs L ks) (hL : L.length ≤ 1000) : ks.length ≤ 33000 := by
 have h1 : ks ⊆ L.flatMap fun s => (List.range 33).map fun j => (s, ((j / 11 : Nat) : Int), ((j % 11 : Nat) : Int)) := by
  intro p hp
  obtain ⟨a1, a2, a3⟩ := h.2 p hp
  simp only [List.mem_flatMap, List.mem_range, List.mem_map]
  refine ⟨p.1, a1, p.2.1.toNat * 11 + p.2.2.toNat, by omega, ?_⟩
  obtain ⟨s, x, y⟩ := p
  simp only at a2 a3 ⊢
  have e1 : (((x.toNat * 11 + y.toNat) / 11 : Nat) : Int) = x := by omega
  have e2 : (((x.toNat * 11 + y.toNat) % 11 : Nat) : Int) = y := by omega
  rw [e1, e2]
 have h2 := h.1.length_le_of_subset h1
 have h3 : ∀ L : List Stg, (L.flatMap fun s => (List.range 33).map fun j => (s, ((j / 11 : Nat) : Int), ((j % 11 : Nat) : Int))).length = L.length * 33 := by
  intro L
  induction L with
  | nil => rfl
  | cons a L ih => rw [List.flatMap_cons, List.length_append, ih, List.length_map, List.length_range, List.length_cons]; omega
 rw [h3] at h2
 omega
theorem ks6 : ksEq [.int .i64, .int .i64, .int .i64, .int .i64, .int .i64, .int .i64] [.int .i64, .int .i64, .int .i64, .int .i64, .int .i64, .int .i64] = true := rfl
theorem samM1 : sameV 8 (.mapr 1) (.mapr 1) = true := rfl
theorem samM2 : sameV 8 (.mapr 2) (.mapr 2) = true := rfl
theorem samO1 (N : Nat) : sameV 8 (.osl 1 0 N) (.osl 1 0 N) = true := by simp only [sameV, Nat.beq_refl, Bool.and_self]
theorem tkSame_s {R : Type} (a : Slot) (f k : R) : tkSame a a f k = k := by unfold tkSame; rw [if_pos rfl]
abbrev K6 : List KS := [.int .i64, .int .i64, .int .i64, .int .i64, .int .i64, .int .i64]
abbrev PA (c : Cav) (l : Sl Stg) (p : Int) (es : List (V × V)) : List Slot := [.box 124 [sl eSlc 7 c.slices, .int .i64 c.hold, .int .i64 c.oil, sl eStg 4 l, .int .i64 p, .mapr 1] true, .mp true K6 es true]
abbrev PB (c : Cav) (k : Nat) (h : Nat → Stg) (p : Int) (es : List (V × V)) : List Slot := [.box 124 [sl eSlc 7 c.slices, .int .i64 c.hold, .int .i64 c.oil, .osl 1 0 k, .int .i64 p, .mapr 2] true, .arr 40 4 k (fun i => eStg (h i)) true, .mp true K6 es true]
end Go.Sim.Le


namespace Go.Sim.Le
open Go.Proofs
variable (F d : Nat)
theorem l1061 {c : Cav} (hc : CavOk c) {L : List Stg} (hL : L.length ≤ 1000) (l : Sl Stg) (p : Int) (es : List (V × V)) (n : Nat) (hn : n ≤ l.len) (hn2 : n ≤ 300) (hl : ∀ i, i < n → StgOk c.slices.len (l.el i) ∧ l.el i ∈ L) (x y : Int) (hx : 0 ≤ x ∧ x ≤ 2) (hy : 0 ≤ y ∧ y ≤ 10) (hF : 400 < F) :
  ∀ j k fu ks, k + j = n → j < fu → Gs L ks → ∃ ks', Gs L ks' ∧
   L1061x0 (E F (d + 14)) F c l p es n x y fu k .i64 (boundS c l.el (meaS c x y) k).lo .i64 (boundS c l.el (meaS c x y) k).hi (encM gK (gV c) ks) = some (.ret (.agg (eSpan (boundS c l.el (meaS c x y) n))), PA c l p (encM gK (gV c) ks')) := by
 intro j
 induction j with
 | zero =>
  intro k fu ks h hf hG
  obtain ⟨fu, rfl⟩ : ∃ k, fu = k + 1 := ⟨fu - 1, by omega⟩
  refine ⟨ks, hG, ?_⟩
  have hk : k = n := by omega
  subst hk
  rw [L1061x0s, Int.toNat_natCast, Nat.sub_zero, decide_eq_false (by omega), pF]
 | succ j ih =>
  intro k fu ks h hf hG
  obtain ⟨fu, rfl⟩ : ∃ k, fu = k + 1 := ⟨fu - 1, by omega⟩
  have hlk := hl k (by omega)
  obtain ⟨hs, hsL⟩ := hlk
  have hcl := hc.1
  have hm := meaOk c x y
  have h2 := bound_in hc hm (n := n) (l := l.el) (fun i hi => (hl i hi).1) k (by omega)
  have h3 := bound_in hc hm (n := n) (l := l.el) (fun i hi => (hl i hi).1) (k + 1) (by omega)
  simp only [boundS, addS] at h3
  have e5 := s85 F (d + 13) (boundS c l.el (meaS c x y) k) (grownS c (meaS c x y) (l.el k)) (by omega) (by omega) (by omega) (by omega) (by omega)
  have e6 : (E F (d + 14)).pf 93 [.agg (eCav c), .agg (eStg (l.el k)), .agg (eMea (meaS c x y))] = _ := s93 F (d + 1) hc hm hs hF
  have e7 := s113 F (d + 13) c (by omega) x y hx hF
  have hlen := gs_len hG hL
  have eK : (V.agg [.int .i64 (l.el k).water, .int .i64 (l.el k).into, .int .i64 (l.el k).out, .int .i64 (l.el k).blanket, .int .i64 x, .int .i64 y]) = gK (l.el k, x, y) := rfl
  have eV : (V.agg [.int .i64 (grownS c (meaS c x y) (l.el k)).lo, .int .i64 (grownS c (meaS c x y) (l.el k)).hi]) = gV c (l.el k, x, y) := rfl
  have hS : IntKind.i64.wrap ((k : Int) + 1) = ((k + 1 : Nat) : Int) := wrS (by omega)
  obtain ⟨hw1, hw2, hw3, hw4, hw5⟩ := hs
  simp only [eMea] at e6 e7
  rw [L1061x0s, Int.toNat_natCast, Nat.sub_zero]
  simp (disch := omega) only [p63, decide_eq_true, decide_true, pT, Bool.and_self, Int.toNat_natCast, hS]
  rw [eK, mget_enc gK_eq]
  by_cases hmem : (l.el k, x, y) ∈ ks
  ·rw [if_pos hmem]
   obtain ⟨ks', hG', e'⟩ := ih (k + 1) fu ks (by omega) (by omega) hG
   refine ⟨ks', hG', ?_⟩
   simp only [tkOpt, gV, tkAgg_a, tkCons_c, tkInt_i, tkNil_n, e5, tkOut_ret]
   exact e'
  ·rw [if_neg hmem]
   obtain ⟨ks1, hG1, e1⟩ := mput_some (ev := gV c) gK_eq (P := GOk L) (l.el k, x, y) ⟨hsL, hx, hy⟩ hG
   obtain ⟨ks', hG', e'⟩ := ih (k + 1) fu ks1 (by omega) (by omega) hG1
   refine ⟨ks', hG', ?_⟩
   simp only [tkOpt, tkAgg_a, tkCons_c, tkInt_i, tkRow_r, tkNil_n, e7, e6, tkOut_ret, encM_len]
   rw [decide_eq_true (show ks.length < 1000000000000 by omega), pT]
   simp only [e5, tkOut_ret, tkAgg_a, tkCons_c, tkInt_i, tkNil_n]
   rw [eV, e1]
   exact e'
theorem s1061 {c : Cav} (hc : CavOk c) {L : List Stg} (hL : L.length ≤ 1000) (l : Sl Stg) (p : Int) (n : Nat) (hn : n ≤ l.len) (hn2 : n ≤ 300) (hl : ∀ i, i < n → StgOk c.slices.len (l.el i) ∧ l.el i ∈ L) (x y : Int) (hx : 0 ≤ x ∧ x ≤ 2) (hy : 0 ≤ y ∧ y ≤ 10) (hF : 400 < F) (ks : List GKey) (hG : Gs L ks) :
  ∃ ks', Gs L ks' ∧ (E F (d + 15)).hv 106 [.optr 0 0 0, .int .i64 n, .agg [.int .i64 x, .int .i64 y]] (PA c l p (encM gK (gV c) ks)) = some (.ret (.agg (eSpan (boundS c l.el (meaS c x y) n))), PA c l p (encM gK (gV c) ks')) := by
 have hcl := hc.1
 obtain ⟨ks', hG', e⟩ := l1061 F d hc hL l p (encM gK (gV c) ks) n hn hn2 hl x y hx hy hF n 0 F ks (by omega) (by omega) hG
 refine ⟨ks', hG', ?_⟩
 have e7 := s113 F (d + 13) c (by omega) x y hx hF
 have e8 := s92 F (d + 12) c hc (meaS c x y) (meaOk c x y) (by omega)
 simp only [eMea] at e7 e8
 rw [E_hv, t1061]
 simp (disch := omega) only [e7, e8, tkOut_ret, tkAgg_a, tkCons_c, tkInt_i, tkRow_r, tkNil_n, Bool.true_or, pT, decide_eq_true, decide_true, Int.toNat_natCast]
 exact e
theorem l1062 {c : Cav} (hc : CavOk c) {L : List Stg} (hL : L.length ≤ 1000) (k0 : Nat) (h0 : Nat → Stg) (p : Int) (es : List (V × V)) (n : Nat) (hn : n ≤ k0) (hn2 : n ≤ 300) (hl : ∀ i, i < n → StgOk c.slices.len (h0 i) ∧ h0 i ∈ L) (x y : Int) (hx : 0 ≤ x ∧ x ≤ 2) (hy : 0 ≤ y ∧ y ≤ 10) (hF : 400 < F) :
  ∀ j k fu ks, k + j = n → j < fu → Gs L ks → ∃ ks', Gs L ks' ∧
   L1062x0 (E F (d + 14)) F c k0 h0 p es n x y fu k .i64 (boundS c h0 (meaS c x y) k).lo .i64 (boundS c h0 (meaS c x y) k).hi (encM gK (gV c) ks) = some (.ret (.agg (eSpan (boundS c h0 (meaS c x y) n))), PB c k0 h0 p (encM gK (gV c) ks')) := by
 intro j
 induction j with
 | zero =>
  intro k fu ks h hf hG
  obtain ⟨fu, rfl⟩ : ∃ k, fu = k + 1 := ⟨fu - 1, by omega⟩
  refine ⟨ks, hG, ?_⟩
  have hk : k = n := by omega
  subst hk
  rw [L1062x0s, Int.toNat_natCast, decide_eq_false (by omega), pF]
 | succ j ih =>
  intro k fu ks h hf hG
  obtain ⟨fu, rfl⟩ : ∃ k, fu = k + 1 := ⟨fu - 1, by omega⟩
  have hlk := hl k (by omega)
  obtain ⟨hs, hsL⟩ := hlk
  have hcl := hc.1
  have hm := meaOk c x y
  have h2 := bound_in hc hm (n := n) (l := h0) (fun i hi => (hl i hi).1) k (by omega)
  have h3 := bound_in hc hm (n := n) (l := h0) (fun i hi => (hl i hi).1) (k + 1) (by omega)
  simp only [boundS, addS] at h3
  have e5 := s85 F (d + 13) (boundS c h0 (meaS c x y) k) (grownS c (meaS c x y) (h0 k)) (by omega) (by omega) (by omega) (by omega) (by omega)
  have e6 : (E F (d + 14)).pf 93 [.agg (eCav c), .agg (eStg (h0 k)), .agg (eMea (meaS c x y))] = _ := s93 F (d + 1) hc hm hs hF
  have e7 := s113 F (d + 13) c (by omega) x y hx hF
  have hlen := gs_len hG hL
  have eK : (V.agg [.int .i64 (h0 k).water, .int .i64 (h0 k).into, .int .i64 (h0 k).out, .int .i64 (h0 k).blanket, .int .i64 x, .int .i64 y]) = gK (h0 k, x, y) := rfl
  have eV : (V.agg [.int .i64 (grownS c (meaS c x y) (h0 k)).lo, .int .i64 (grownS c (meaS c x y) (h0 k)).hi]) = gV c (h0 k, x, y) := rfl
  have hS : IntKind.i64.wrap ((k : Int) + 1) = ((k + 1 : Nat) : Int) := wrS (by omega)
  obtain ⟨hw1, hw2, hw3, hw4, hw5⟩ := hs
  simp only [eMea] at e6 e7
  rw [L1062x0s, Int.toNat_natCast]
  simp (disch := omega) only [p63, decide_eq_true, decide_true, pT, Bool.and_self, Int.toNat_natCast, hS]
  rw [eK, mget_enc gK_eq]
  by_cases hmem : (h0 k, x, y) ∈ ks
  ·rw [if_pos hmem]
   obtain ⟨ks', hG', e'⟩ := ih (k + 1) fu ks (by omega) (by omega) hG
   refine ⟨ks', hG', ?_⟩
   simp only [tkOpt, gV, tkAgg_a, tkCons_c, tkInt_i, tkNil_n, e5, tkOut_ret]
   exact e'
  ·rw [if_neg hmem]
   obtain ⟨ks1, hG1, e1⟩ := mput_some (ev := gV c) gK_eq (P := GOk L) (h0 k, x, y) ⟨hsL, hx, hy⟩ hG
   obtain ⟨ks', hG', e'⟩ := ih (k + 1) fu ks1 (by omega) (by omega) hG1
   refine ⟨ks', hG', ?_⟩
   simp only [tkOpt, tkAgg_a, tkCons_c, tkInt_i, tkRow_r, tkNil_n, e7, e6, tkOut_ret, encM_len]
   rw [decide_eq_true (show ks.length < 1000000000000 by omega), pT]
   simp only [e5, tkOut_ret, tkAgg_a, tkCons_c, tkInt_i, tkNil_n]
   rw [eV, e1]
   exact e'
theorem s1062 {c : Cav} (hc : CavOk c) {L : List Stg} (hL : L.length ≤ 1000) (k0 : Nat) (h0 : Nat → Stg) (p : Int) (n : Nat) (hn : n ≤ k0) (hn2 : n ≤ 300) (hl : ∀ i, i < n → StgOk c.slices.len (h0 i) ∧ h0 i ∈ L) (x y : Int) (hx : 0 ≤ x ∧ x ≤ 2) (hy : 0 ≤ y ∧ y ≤ 10) (hF : 400 < F) (ks : List GKey) (hG : Gs L ks) :
  ∃ ks', Gs L ks' ∧ (E F (d + 15)).hv 106 [.optr 0 0 0, .int .i64 n, .agg [.int .i64 x, .int .i64 y]] (PB c k0 h0 p (encM gK (gV c) ks)) = some (.ret (.agg (eSpan (boundS c h0 (meaS c x y) n))), PB c k0 h0 p (encM gK (gV c) ks')) := by
 have hcl := hc.1
 obtain ⟨ks', hG', e⟩ := l1062 F d hc hL k0 h0 p (encM gK (gV c) ks) n hn hn2 hl x y hx hy hF n 0 F ks (by omega) (by omega) hG
 refine ⟨ks', hG', ?_⟩
 have e7 := s113 F (d + 13) c (by omega) x y hx hF
 have e8 := s92 F (d + 12) c hc (meaS c x y) (meaOk c x y) (by omega)
 simp only [eMea] at e7 e8
 rw [E_hv, t1062]
 simp (disch := omega) only [e7, e8, tkOut_ret, tkAgg_a, tkCons_c, tkInt_i, tkRow_r, tkNil_n, Bool.true_or, pT, decide_eq_true, decide_true, Int.toNat_natCast]
 exact e
end Go.Sim.Le


namespace Go.Sim.Le
open Go.Proofs
def topOf (s : Stg) : Int := max s.into s.out
def lowOf (s : Stg) : Int := min s.into s.out
def buriedB (c : Cav) (l : Nat → Stg) (k : Nat) : Bool := decide (max (boundS c l (meaS c 0 (min (l k).into (l k).out)) k).hi (boundS c l (meaS c 0 (min (l k).into (l k).out)) (k + 1)).hi > 0)
def oiledB (c : Cav) (l : Nat → Stg) (k : Nat) : Bool := decide ((boundS c l (meaS c 1 (l k).blanket) k).hi > c.oil)
def wideR (c : Cav) (l : Nat → Stg) (k : Nat) : Nat → Nat → Int × Bool
 | 0, _ => (0, false)
 | j + 1, i => bif decide ((boundS c l (meaS c 2 (i : Int)) (k + 1)).hi > (c.slices.el i).most) then ((i : Int), true) else wideR c l k j (i + 1)
def faultR (c : Cav) (l : Nat → Stg) : Nat → Nat → Int × Int × Int
 | 0, _ => (-1, 1, 0)
 | j + 1, k => bif decide (topOf (l k) ≥ (l k).blanket) then ((k : Int), 2, topOf (l k)) else bif buriedB c l k then ((k : Int), 3, lowOf (l k)) else
   bif oiledB c l k then ((k : Int), 4, (l k).blanket) else bif (wideR c l k c.slices.len 0).2 then ((k : Int), 5, (wideR c l k c.slices.len 0).1) else faultR c l j (k + 1)
variable (F d : Nat)
theorem s1011 (c : Cav) (l : Sl Stg) (k : Nat) (hk : k < l.len) (es : List (V × V)) : (E F (d + 1)).hv 101 [.optr 0 0 0] (PA c l k es) = some (.ret (.tup [.int .i64 (topOf (l.el k)), .bool (decide (topOf (l.el k) ≥ (l.el k).blanket))]), (PA c l k es)) := by
 rw [E_hv, t1011]
 simp (disch := omega) only [decide_eq_true, decide_true, pT, Int.toNat_natCast, mxE, topOf]
 rfl
theorem s1021 {c : Cav} (hc : CavOk c) {L : List Stg} (hL : L.length ≤ 1000) (l : Sl Stg) (k : Nat) (hk : k < l.len) (hn2 : l.len ≤ 300) (hl : ∀ i, i < l.len → StgOk c.slices.len (l.el i) ∧ l.el i ∈ L) (hF : 400 < F) (ks : List GKey) (hG : Gs L ks) : ∃ ks', Gs L ks' ∧
  (E F (d + 16)).hv 102 [.optr 0 0 0] (PA c l k (encM gK (gV c) ks)) = some (.ret (.tup [.int .i64 (lowOf (l.el k)), .bool (buriedB c l.el k)]), (PA c l k (encM gK (gV c) ks'))) := by
 have hs := (hl k hk).1
 have hcl := hc.1
 obtain ⟨hw1, hw2, hw3, hw4, hw5⟩ := hs
 obtain ⟨ks1, hG1, e1⟩ := s1061 F d hc hL l k k (by omega) (by omega) (fun i hi => hl i (by omega)) 0 (min (l.el k).into (l.el k).out) (by omega) (by omega) hF ks hG
 obtain ⟨ks2, hG2, e2⟩ := s1061 F d hc hL l k (k + 1) (by omega) (by omega) (fun i hi => hl i (by omega)) 0 (min (l.el k).into (l.el k).out) (by omega) (by omega) hF ks1 hG1
 refine ⟨ks2, hG2, ?_⟩
 have hS : IntKind.i64.wrap ((k : Int) + 1) = ((k + 1 : Nat) : Int) := wrS (by omega)
 rw [E_hv, t1021]
 simp (disch := omega) only [decide_eq_true, decide_true, pT, Int.toNat_natCast, mnE, hS]
 simp only [e1, tkHv_h, tkAgg_a, tkTup_t, tkCons_c, tkInt_i, tkBool_b, tkNil_n, tkSCons_c, tkBox_b, Nat.beq_refl, Bool.and_self, beq_self_eq_true, pT, samM1, ks6, tkRow_r, tkMp_m, tkSNil_n, tkSame_s, decide_true]
 simp only [e2, tkHv_h, tkAgg_a, tkTup_t, tkCons_c, tkInt_i, tkBool_b, tkNil_n, tkSCons_c, tkBox_b, Nat.beq_refl, Bool.and_self, beq_self_eq_true, pT, samM1, ks6, tkRow_r, tkMp_m, tkSNil_n, tkSame_s, decide_true]
 simp only [mxE, lowOf, buriedB]
theorem s1031 {c : Cav} (hc : CavOk c) {L : List Stg} (hL : L.length ≤ 1000) (l : Sl Stg) (k : Nat) (hk : k < l.len) (hn2 : l.len ≤ 300) (hl : ∀ i, i < l.len → StgOk c.slices.len (l.el i) ∧ l.el i ∈ L) (hF : 400 < F) (ks : List GKey) (hG : Gs L ks) : ∃ ks', Gs L ks' ∧
  (E F (d + 16)).hv 103 [.optr 0 0 0] (PA c l k (encM gK (gV c) ks)) = some (.ret (.tup [.int .i64 (l.el k).blanket, .bool (oiledB c l.el k)]), (PA c l k (encM gK (gV c) ks'))) := by
 have hs := (hl k hk).1
 have hcl := hc.1
 obtain ⟨hw1, hw2, hw3, hw4, hw5⟩ := hs
 obtain ⟨ks1, hG1, e1⟩ := s1061 F d hc hL l k k (by omega) (by omega) (fun i hi => hl i (by omega)) 1 (l.el k).blanket (by omega) (by omega) hF ks hG
 refine ⟨ks1, hG1, ?_⟩
 rw [E_hv, t1031]
 simp (disch := omega) only [decide_eq_true, decide_true, pT, Int.toNat_natCast]
 simp only [e1, tkHv_h, tkAgg_a, tkTup_t, tkCons_c, tkInt_i, tkBool_b, tkNil_n, tkSCons_c, tkBox_b, Nat.beq_refl, Bool.and_self, beq_self_eq_true, pT, samM1, ks6, tkRow_r, tkMp_m, tkSNil_n, tkSame_s, decide_true]
 rfl
theorem l1041 {c : Cav} (hc : CavOk c) {L : List Stg} (hL : L.length ≤ 1000) (l : Sl Stg) (k : Nat) (hk : k < l.len) (hn2 : l.len ≤ 300) (hl : ∀ i, i < l.len → StgOk c.slices.len (l.el i) ∧ l.el i ∈ L) (hF : 400 < F) (es : List (V × V)) : ∀ j i fu ks, i + j = c.slices.len → j < fu → Gs L ks → ∃ ks', Gs L ks' ∧
  L1041x0 (E F (d + 15)) F c l k es fu i (encM gK (gV c) ks) = some (.ret (.tup [.int .i64 (wideR c l.el k j i).1, .bool (wideR c l.el k j i).2]), (PA c l k (encM gK (gV c) ks'))) := by
 have hcl := hc.1
 intro j
 induction j with
 | zero =>
  intro i fu ks h hf hG
  obtain ⟨fu, rfl⟩ : ∃ k, fu = k + 1 := ⟨fu - 1, by omega⟩
  refine ⟨ks, hG, ?_⟩
  rw [L1041x0s, decide_eq_false (by omega), pF]
  rfl
 | succ j ih =>
  intro i fu ks h hf hG
  obtain ⟨fu, rfl⟩ : ∃ k, fu = k + 1 := ⟨fu - 1, by omega⟩
  obtain ⟨ks1, hG1, e1⟩ := s1061 F d hc hL l k (k + 1) (by omega) (by omega) (fun i hi => hl i (by omega)) 2 i (by omega) (by omega) hF ks hG
  obtain ⟨ks2, hG2, e2⟩ := ih (i + 1) fu ks1 (by omega) (by omega) hG1
  have hS : IntKind.i64.wrap ((k : Int) + 1) = ((k + 1 : Nat) : Int) := wrS (by omega)
  have hS2 : IntKind.i64.wrap ((i : Int) + 1) = ((i + 1 : Nat) : Int) := wrS (by omega)
  by_cases hw : (boundS c l.el (meaS c 2 i) (k + 1)).hi > (c.slices.el i).most
  ·refine ⟨ks1, hG1, ?_⟩
   rw [L1041x0s]
   simp (disch := omega) only [decide_eq_true, decide_true, pT, Int.toNat_natCast, hS, hS2]
   simp only [e1, tkHv_h, tkAgg_a, tkTup_t, tkCons_c, tkInt_i, tkBool_b, tkNil_n, tkSCons_c, tkBox_b, Nat.beq_refl, Bool.and_self, beq_self_eq_true, pT, samM1, ks6, tkRow_r, tkMp_m, tkSNil_n, tkSame_s, decide_true]
   rw [decide_eq_true hw, pT]
   simp only [wideR, decide_eq_true hw, cond_true]
  ·refine ⟨ks2, hG2, ?_⟩
   rw [L1041x0s]
   simp (disch := omega) only [decide_eq_true, decide_true, pT, Int.toNat_natCast, hS, hS2]
   simp only [e1, tkHv_h, tkAgg_a, tkTup_t, tkCons_c, tkInt_i, tkBool_b, tkNil_n, tkSCons_c, tkBox_b, Nat.beq_refl, Bool.and_self, beq_self_eq_true, pT, samM1, ks6, tkRow_r, tkMp_m, tkSNil_n, tkSame_s, decide_true]
   rw [decide_eq_false hw, pF]
   simp only [wideR, decide_eq_false hw, cond_false]
   exact e2
theorem s1041 {c : Cav} (hc : CavOk c) {L : List Stg} (hL : L.length ≤ 1000) (l : Sl Stg) (k : Nat) (hk : k < l.len) (hn2 : l.len ≤ 300) (hl : ∀ i, i < l.len → StgOk c.slices.len (l.el i) ∧ l.el i ∈ L) (hF : 400 < F) (ks : List GKey) (hG : Gs L ks) : ∃ ks', Gs L ks' ∧
  (E F (d + 16)).hv 104 [.optr 0 0 0] (PA c l k (encM gK (gV c) ks)) = some (.ret (.tup [.int .i64 (wideR c l.el k c.slices.len 0).1, .bool (wideR c l.el k c.slices.len 0).2]), (PA c l k (encM gK (gV c) ks'))) := by
 have hcl := hc.1
 obtain ⟨ks', hG', e⟩ := l1041 F d hc hL l k hk hn2 hl hF (encM gK (gV c) ks) c.slices.len 0 F ks (by omega) (by omega) hG
 refine ⟨ks', hG', ?_⟩
 rw [E_hv, t1041]
 exact e
theorem l731 {c : Cav} (hc : CavOk c) {L : List Stg} (hL : L.length ≤ 1000) (l : Sl Stg) (hn2 : l.len ≤ 300) (hl : ∀ i, i < l.len → StgOk c.slices.len (l.el i) ∧ l.el i ∈ L) (hF : 400 < F) (p : Int) (n : Int) (es : List (V × V)) : ∀ j k fu ks, k + j = l.len → j < fu → Gs L ks → ∃ (p' : Int) (ks' : List GKey), Gs L ks' ∧
  L731x0 (E F (d + 16)) F c l p es n fu k (encM gK (gV c) ks) = some (.ret (.tup [.int .i64 (faultR c l.el j k).1, .int .i64 (faultR c l.el j k).2.1, .int .i64 (faultR c l.el j k).2.2]), (PA c l p' (encM gK (gV c) ks'))) := by
 intro j
 induction j with
 | zero =>
  intro k fu ks h hf hG
  obtain ⟨fu, rfl⟩ : ∃ k, fu = k + 1 := ⟨fu - 1, by omega⟩
  refine ⟨k, ks, hG, ?_⟩
  rw [L731x0s, decide_eq_false (by omega), pF]
  rfl
 | succ j ih =>
  intro k fu ks h hf hG
  obtain ⟨fu, rfl⟩ : ∃ k, fu = k + 1 := ⟨fu - 1, by omega⟩
  have e1 := s1011 F (d + 15) c l k (by omega) (encM gK (gV c) ks)
  obtain ⟨ks2, hG2, e2⟩ := s1021 F d hc hL l k (by omega) hn2 hl hF ks hG
  obtain ⟨ks3, hG3, e3⟩ := s1031 F d hc hL l k (by omega) hn2 hl hF ks2 hG2
  obtain ⟨ks4, hG4, e4⟩ := s1041 F d hc hL l k (by omega) hn2 hl hF ks3 hG3
  obtain ⟨p', ks5, hG5, e5⟩ := ih (k + 1) fu ks4 (by omega) (by omega) hG4
  have hS : IntKind.i64.wrap ((k : Int) + 1) = ((k + 1 : Nat) : Int) := wrS (by omega)
  have w0 : IntKind.i64.wrap (2 + 0) = 2 := by rw [wr (by omega)]; rfl
  have w1 : IntKind.i64.wrap (0 + 1) = 1 := by rw [wr (by omega)]; rfl
  have w2 : IntKind.i64.wrap (2 + 1) = 3 := by rw [wr (by omega)]; rfl
  have w3 : IntKind.i64.wrap (1 + 1) = 2 := by rw [wr (by omega)]; rfl
  have w4 : IntKind.i64.wrap (2 + 2) = 4 := by rw [wr (by omega)]; rfl
  have w5 : IntKind.i64.wrap (2 + 3) = 5 := by rw [wr (by omega)]; rfl
  have hlt : decide ((k : Int) < (l.len : Nat)) = true := decide_eq_true (by omega)
  by_cases h1 : topOf (l.el k) ≥ (l.el k).blanket
  ·refine ⟨k, ks, hG, ?_⟩
   rw [L731x0s, hlt, pT]
   simp only [e1, tkHv_h, tkAgg_a, tkTup_t, tkCons_c, tkInt_i, tkBool_b, tkNil_n, tkSCons_c, tkBox_b, Nat.beq_refl, Bool.and_self, beq_self_eq_true, pT, samM1, ks6, tkRow_r, tkMp_m, tkSNil_n, tkSame_s, decide_true]
   rw [decide_eq_true h1, pT, w0]
   simp only [faultR, decide_eq_true h1, cond_true]
  ·cases h2 : buriedB c l.el k with
   | true =>
    refine ⟨k, ks2, hG2, ?_⟩
    rw [L731x0s, hlt, pT]
    simp only [e1, tkHv_h, tkAgg_a, tkTup_t, tkCons_c, tkInt_i, tkBool_b, tkNil_n, tkSCons_c, tkBox_b, Nat.beq_refl, Bool.and_self, beq_self_eq_true, pT, samM1, ks6, tkRow_r, tkMp_m, tkSNil_n, tkSame_s, decide_true]
    rw [decide_eq_false h1, pF]
    simp only [e2, tkHv_h, tkAgg_a, tkTup_t, tkCons_c, tkInt_i, tkBool_b, tkNil_n, tkSCons_c, tkBox_b, Nat.beq_refl, Bool.and_self, beq_self_eq_true, pT, samM1, ks6, tkRow_r, tkMp_m, tkSNil_n, tkSame_s, decide_true]
    rw [h2, pT, w1, w2]
    simp only [faultR, decide_eq_false h1, cond_false, h2, cond_true]
   | false =>
    cases h3 : oiledB c l.el k with
    | true =>
     refine ⟨k, ks3, hG3, ?_⟩
     rw [L731x0s, hlt, pT]
     simp only [e1, tkHv_h, tkAgg_a, tkTup_t, tkCons_c, tkInt_i, tkBool_b, tkNil_n, tkSCons_c, tkBox_b, Nat.beq_refl, Bool.and_self, beq_self_eq_true, pT, samM1, ks6, tkRow_r, tkMp_m, tkSNil_n, tkSame_s, decide_true]
     rw [decide_eq_false h1, pF]
     simp only [e2, tkHv_h, tkAgg_a, tkTup_t, tkCons_c, tkInt_i, tkBool_b, tkNil_n, tkSCons_c, tkBox_b, Nat.beq_refl, Bool.and_self, beq_self_eq_true, pT, samM1, ks6, tkRow_r, tkMp_m, tkSNil_n, tkSame_s, decide_true]
     rw [h2, pF]
     simp only [e3, tkHv_h, tkAgg_a, tkTup_t, tkCons_c, tkInt_i, tkBool_b, tkNil_n, tkSCons_c, tkBox_b, Nat.beq_refl, Bool.and_self, beq_self_eq_true, pT, samM1, ks6, tkRow_r, tkMp_m, tkSNil_n, tkSame_s, decide_true]
     rw [h3, pT, w1, w3, w4]
     simp only [faultR, decide_eq_false h1, cond_false, h2, h3, cond_true]
    | false =>
     cases h4 : (wideR c l.el k c.slices.len 0).2 with
     | true =>
      refine ⟨k, ks4, hG4, ?_⟩
      rw [L731x0s, hlt, pT]
      simp only [e1, tkHv_h, tkAgg_a, tkTup_t, tkCons_c, tkInt_i, tkBool_b, tkNil_n, tkSCons_c, tkBox_b, Nat.beq_refl, Bool.and_self, beq_self_eq_true, pT, samM1, ks6, tkRow_r, tkMp_m, tkSNil_n, tkSame_s, decide_true]
      rw [decide_eq_false h1, pF]
      simp only [e2, tkHv_h, tkAgg_a, tkTup_t, tkCons_c, tkInt_i, tkBool_b, tkNil_n, tkSCons_c, tkBox_b, Nat.beq_refl, Bool.and_self, beq_self_eq_true, pT, samM1, ks6, tkRow_r, tkMp_m, tkSNil_n, tkSame_s, decide_true]
      rw [h2, pF]
      simp only [e3, tkHv_h, tkAgg_a, tkTup_t, tkCons_c, tkInt_i, tkBool_b, tkNil_n, tkSCons_c, tkBox_b, Nat.beq_refl, Bool.and_self, beq_self_eq_true, pT, samM1, ks6, tkRow_r, tkMp_m, tkSNil_n, tkSame_s, decide_true]
      rw [h3, pF]
      simp only [e4, tkHv_h, tkAgg_a, tkTup_t, tkCons_c, tkInt_i, tkBool_b, tkNil_n, tkSCons_c, tkBox_b, Nat.beq_refl, Bool.and_self, beq_self_eq_true, pT, samM1, ks6, tkRow_r, tkMp_m, tkSNil_n, tkSame_s, decide_true]
      rw [h4, pT, w1, w3, wr (n := 2 + 1) (by omega)]
      rw [show (2 : Int) + 1 = 3 from rfl, w5]
      simp only [faultR, decide_eq_false h1, cond_false, h2, h3, h4, cond_true]
     | false =>
      refine ⟨p', ks5, hG5, ?_⟩
      rw [L731x0s, hlt, pT]
      simp only [e1, tkHv_h, tkAgg_a, tkTup_t, tkCons_c, tkInt_i, tkBool_b, tkNil_n, tkSCons_c, tkBox_b, Nat.beq_refl, Bool.and_self, beq_self_eq_true, pT, samM1, ks6, tkRow_r, tkMp_m, tkSNil_n, tkSame_s, decide_true]
      rw [decide_eq_false h1, pF]
      simp only [e2, tkHv_h, tkAgg_a, tkTup_t, tkCons_c, tkInt_i, tkBool_b, tkNil_n, tkSCons_c, tkBox_b, Nat.beq_refl, Bool.and_self, beq_self_eq_true, pT, samM1, ks6, tkRow_r, tkMp_m, tkSNil_n, tkSame_s, decide_true]
      rw [h2, pF]
      simp only [e3, tkHv_h, tkAgg_a, tkTup_t, tkCons_c, tkInt_i, tkBool_b, tkNil_n, tkSCons_c, tkBox_b, Nat.beq_refl, Bool.and_self, beq_self_eq_true, pT, samM1, ks6, tkRow_r, tkMp_m, tkSNil_n, tkSame_s, decide_true]
      rw [h3, pF]
      simp only [e4, tkHv_h, tkAgg_a, tkTup_t, tkCons_c, tkInt_i, tkBool_b, tkNil_n, tkSCons_c, tkBox_b, Nat.beq_refl, Bool.and_self, beq_self_eq_true, pT, samM1, ks6, tkRow_r, tkMp_m, tkSNil_n, tkSame_s, decide_true]
      rw [h4, pF, hS]
      simp only [faultR, decide_eq_false h1, cond_false, h2, h3, h4]
      exact e5
theorem s731 {c : Cav} (hc : CavOk c) {L : List Stg} (hL : L.length ≤ 1000) (l : Sl Stg) (hn2 : l.len ≤ 300) (hl : ∀ i, i < l.len → StgOk c.slices.len (l.el i) ∧ l.el i ∈ L) (hF : 400 < F) (p : Int) (n : Nat) (hn : n ≤ l.len) (ks : List GKey) (hG : Gs L ks) : ∃ (p' : Int) (ks' : List GKey), Gs L ks' ∧
  (E F (d + 17)).hv 73 [.optr 0 0 0, .int .i64 n] (PA c l p (encM gK (gV c) ks)) = some (.ret (.tup [.int .i64 (faultR c l.el (l.len - n) n).1, .int .i64 (faultR c l.el (l.len - n) n).2.1, .int .i64 (faultR c l.el (l.len - n) n).2.2]), (PA c l p' (encM gK (gV c) ks'))) := by
 obtain ⟨p', ks', hG', e⟩ := l731 F d hc hL l hn2 hl hF p n (encM gK (gV c) ks) (l.len - n) n F ks (by omega) (by omega) hG
 refine ⟨p', ks', hG', ?_⟩
 rw [E_hv, t731]
 exact e
theorem s1012 (c : Cav) (k0 : Nat) (h0 : Nat → Stg) (k : Nat) (hk : k < k0) (es : List (V × V)) : (E F (d + 1)).hv 101 [.optr 0 0 0] (PB c k0 h0 k es) = some (.ret (.tup [.int .i64 (topOf (h0 k)), .bool (decide (topOf (h0 k) ≥ (h0 k).blanket))]), (PB c k0 h0 k es)) := by
 rw [E_hv, t1012]
 simp (disch := omega) only [decide_eq_true, decide_true, pT, Int.toNat_natCast, mxE, topOf]
 rfl
theorem s1022 {c : Cav} (hc : CavOk c) {L : List Stg} (hL : L.length ≤ 1000) (k0 : Nat) (h0 : Nat → Stg) (k : Nat) (hk : k < k0) (hn2 : k0 ≤ 300) (hl : ∀ i, i < k0 → StgOk c.slices.len (h0 i) ∧ h0 i ∈ L) (hF : 400 < F) (ks : List GKey) (hG : Gs L ks) : ∃ ks', Gs L ks' ∧
  (E F (d + 16)).hv 102 [.optr 0 0 0] (PB c k0 h0 k (encM gK (gV c) ks)) = some (.ret (.tup [.int .i64 (lowOf (h0 k)), .bool (buriedB c h0 k)]), (PB c k0 h0 k (encM gK (gV c) ks'))) := by
 have hs := (hl k hk).1
 have hcl := hc.1
 obtain ⟨hw1, hw2, hw3, hw4, hw5⟩ := hs
 obtain ⟨ks1, hG1, e1⟩ := s1062 F d hc hL k0 h0 k k (by omega) (by omega) (fun i hi => hl i (by omega)) 0 (min (h0 k).into (h0 k).out) (by omega) (by omega) hF ks hG
 obtain ⟨ks2, hG2, e2⟩ := s1062 F d hc hL k0 h0 k (k + 1) (by omega) (by omega) (fun i hi => hl i (by omega)) 0 (min (h0 k).into (h0 k).out) (by omega) (by omega) hF ks1 hG1
 refine ⟨ks2, hG2, ?_⟩
 have hS : IntKind.i64.wrap ((k : Int) + 1) = ((k + 1 : Nat) : Int) := wrS (by omega)
 rw [E_hv, t1022]
 simp (disch := omega) only [decide_eq_true, decide_true, pT, Int.toNat_natCast, mnE, hS]
 simp only [e1, tkHv_h, tkAgg_a, tkTup_t, tkCons_c, tkInt_i, tkBool_b, tkNil_n, tkSCons_c, tkBox_b, Nat.beq_refl, Bool.and_self, beq_self_eq_true, pT, samM2, samO1, tkArr_a, ks6, tkRow_r, tkMp_m, tkSNil_n, tkSame_s, decide_true]
 simp only [e2, tkHv_h, tkAgg_a, tkTup_t, tkCons_c, tkInt_i, tkBool_b, tkNil_n, tkSCons_c, tkBox_b, Nat.beq_refl, Bool.and_self, beq_self_eq_true, pT, samM2, samO1, tkArr_a, ks6, tkRow_r, tkMp_m, tkSNil_n, tkSame_s, decide_true]
 simp only [mxE, lowOf, buriedB]
theorem s1032 {c : Cav} (hc : CavOk c) {L : List Stg} (hL : L.length ≤ 1000) (k0 : Nat) (h0 : Nat → Stg) (k : Nat) (hk : k < k0) (hn2 : k0 ≤ 300) (hl : ∀ i, i < k0 → StgOk c.slices.len (h0 i) ∧ h0 i ∈ L) (hF : 400 < F) (ks : List GKey) (hG : Gs L ks) : ∃ ks', Gs L ks' ∧
  (E F (d + 16)).hv 103 [.optr 0 0 0] (PB c k0 h0 k (encM gK (gV c) ks)) = some (.ret (.tup [.int .i64 (h0 k).blanket, .bool (oiledB c h0 k)]), (PB c k0 h0 k (encM gK (gV c) ks'))) := by
 have hs := (hl k hk).1
 have hcl := hc.1
 obtain ⟨hw1, hw2, hw3, hw4, hw5⟩ := hs
 obtain ⟨ks1, hG1, e1⟩ := s1062 F d hc hL k0 h0 k k (by omega) (by omega) (fun i hi => hl i (by omega)) 1 (h0 k).blanket (by omega) (by omega) hF ks hG
 refine ⟨ks1, hG1, ?_⟩
 rw [E_hv, t1032]
 simp (disch := omega) only [decide_eq_true, decide_true, pT, Int.toNat_natCast]
 simp only [e1, tkHv_h, tkAgg_a, tkTup_t, tkCons_c, tkInt_i, tkBool_b, tkNil_n, tkSCons_c, tkBox_b, Nat.beq_refl, Bool.and_self, beq_self_eq_true, pT, samM2, samO1, tkArr_a, ks6, tkRow_r, tkMp_m, tkSNil_n, tkSame_s, decide_true]
 rfl
theorem l1042 {c : Cav} (hc : CavOk c) {L : List Stg} (hL : L.length ≤ 1000) (k0 : Nat) (h0 : Nat → Stg) (k : Nat) (hk : k < k0) (hn2 : k0 ≤ 300) (hl : ∀ i, i < k0 → StgOk c.slices.len (h0 i) ∧ h0 i ∈ L) (hF : 400 < F) (es : List (V × V)) : ∀ j i fu ks, i + j = c.slices.len → j < fu → Gs L ks → ∃ ks', Gs L ks' ∧
  L1042x0 (E F (d + 15)) F c k0 h0 k es fu i (fun i => eStg (h0 i)) (encM gK (gV c) ks) = some (.ret (.tup [.int .i64 (wideR c h0 k j i).1, .bool (wideR c h0 k j i).2]), (PB c k0 h0 k (encM gK (gV c) ks'))) := by
 have hcl := hc.1
 intro j
 induction j with
 | zero =>
  intro i fu ks h hf hG
  obtain ⟨fu, rfl⟩ : ∃ k, fu = k + 1 := ⟨fu - 1, by omega⟩
  refine ⟨ks, hG, ?_⟩
  rw [L1042x0s, decide_eq_false (by omega), pF]
  rfl
 | succ j ih =>
  intro i fu ks h hf hG
  obtain ⟨fu, rfl⟩ : ∃ k, fu = k + 1 := ⟨fu - 1, by omega⟩
  obtain ⟨ks1, hG1, e1⟩ := s1062 F d hc hL k0 h0 k (k + 1) (by omega) (by omega) (fun i hi => hl i (by omega)) 2 i (by omega) (by omega) hF ks hG
  obtain ⟨ks2, hG2, e2⟩ := ih (i + 1) fu ks1 (by omega) (by omega) hG1
  have hS : IntKind.i64.wrap ((k : Int) + 1) = ((k + 1 : Nat) : Int) := wrS (by omega)
  have hS2 : IntKind.i64.wrap ((i : Int) + 1) = ((i + 1 : Nat) : Int) := wrS (by omega)
  by_cases hw : (boundS c h0 (meaS c 2 i) (k + 1)).hi > (c.slices.el i).most
  ·refine ⟨ks1, hG1, ?_⟩
   rw [L1042x0s]
   simp (disch := omega) only [decide_eq_true, decide_true, pT, Int.toNat_natCast, hS, hS2]
   simp only [e1, tkHv_h, tkAgg_a, tkTup_t, tkCons_c, tkInt_i, tkBool_b, tkNil_n, tkSCons_c, tkBox_b, Nat.beq_refl, Bool.and_self, beq_self_eq_true, pT, samM2, samO1, tkArr_a, ks6, tkRow_r, tkMp_m, tkSNil_n, tkSame_s, decide_true]
   rw [decide_eq_true hw, pT]
   simp only [wideR, decide_eq_true hw, cond_true]
  ·refine ⟨ks2, hG2, ?_⟩
   rw [L1042x0s]
   simp (disch := omega) only [decide_eq_true, decide_true, pT, Int.toNat_natCast, hS, hS2]
   simp only [e1, tkHv_h, tkAgg_a, tkTup_t, tkCons_c, tkInt_i, tkBool_b, tkNil_n, tkSCons_c, tkBox_b, Nat.beq_refl, Bool.and_self, beq_self_eq_true, pT, samM2, samO1, tkArr_a, ks6, tkRow_r, tkMp_m, tkSNil_n, tkSame_s, decide_true]
   rw [decide_eq_false hw, pF]
   simp only [wideR, decide_eq_false hw, cond_false]
   exact e2
theorem s1042 {c : Cav} (hc : CavOk c) {L : List Stg} (hL : L.length ≤ 1000) (k0 : Nat) (h0 : Nat → Stg) (k : Nat) (hk : k < k0) (hn2 : k0 ≤ 300) (hl : ∀ i, i < k0 → StgOk c.slices.len (h0 i) ∧ h0 i ∈ L) (hF : 400 < F) (ks : List GKey) (hG : Gs L ks) : ∃ ks', Gs L ks' ∧
  (E F (d + 16)).hv 104 [.optr 0 0 0] (PB c k0 h0 k (encM gK (gV c) ks)) = some (.ret (.tup [.int .i64 (wideR c h0 k c.slices.len 0).1, .bool (wideR c h0 k c.slices.len 0).2]), (PB c k0 h0 k (encM gK (gV c) ks'))) := by
 have hcl := hc.1
 obtain ⟨ks', hG', e⟩ := l1042 F d hc hL k0 h0 k hk hn2 hl hF (encM gK (gV c) ks) c.slices.len 0 F ks (by omega) (by omega) hG
 refine ⟨ks', hG', ?_⟩
 rw [E_hv, t1042]
 exact e
theorem l732 {c : Cav} (hc : CavOk c) {L : List Stg} (hL : L.length ≤ 1000) (k0 : Nat) (h0 : Nat → Stg) (hn2 : k0 ≤ 300) (hl : ∀ i, i < k0 → StgOk c.slices.len (h0 i) ∧ h0 i ∈ L) (hF : 400 < F) (p : Int) (n : Int) (es : List (V × V)) : ∀ j k fu ks, k + j = k0 → j < fu → Gs L ks → ∃ (p' : Int) (ks' : List GKey), Gs L ks' ∧
  L732x0 (E F (d + 16)) F c k0 h0 p es n fu k (fun i => eStg (h0 i)) (encM gK (gV c) ks) = some (.ret (.tup [.int .i64 (faultR c h0 j k).1, .int .i64 (faultR c h0 j k).2.1, .int .i64 (faultR c h0 j k).2.2]), (PB c k0 h0 p' (encM gK (gV c) ks'))) := by
 intro j
 induction j with
 | zero =>
  intro k fu ks h hf hG
  obtain ⟨fu, rfl⟩ : ∃ k, fu = k + 1 := ⟨fu - 1, by omega⟩
  refine ⟨k, ks, hG, ?_⟩
  rw [L732x0s, decide_eq_false (by omega), pF]
  rfl
 | succ j ih =>
  intro k fu ks h hf hG
  obtain ⟨fu, rfl⟩ : ∃ k, fu = k + 1 := ⟨fu - 1, by omega⟩
  have e1 := s1012 F (d + 15) c k0 h0 k (by omega) (encM gK (gV c) ks)
  obtain ⟨ks2, hG2, e2⟩ := s1022 F d hc hL k0 h0 k (by omega) hn2 hl hF ks hG
  obtain ⟨ks3, hG3, e3⟩ := s1032 F d hc hL k0 h0 k (by omega) hn2 hl hF ks2 hG2
  obtain ⟨ks4, hG4, e4⟩ := s1042 F d hc hL k0 h0 k (by omega) hn2 hl hF ks3 hG3
  obtain ⟨p', ks5, hG5, e5⟩ := ih (k + 1) fu ks4 (by omega) (by omega) hG4
  have hS : IntKind.i64.wrap ((k : Int) + 1) = ((k + 1 : Nat) : Int) := wrS (by omega)
  have w0 : IntKind.i64.wrap (2 + 0) = 2 := by rw [wr (by omega)]; rfl
  have w1 : IntKind.i64.wrap (0 + 1) = 1 := by rw [wr (by omega)]; rfl
  have w2 : IntKind.i64.wrap (2 + 1) = 3 := by rw [wr (by omega)]; rfl
  have w3 : IntKind.i64.wrap (1 + 1) = 2 := by rw [wr (by omega)]; rfl
  have w4 : IntKind.i64.wrap (2 + 2) = 4 := by rw [wr (by omega)]; rfl
  have w5 : IntKind.i64.wrap (2 + 3) = 5 := by rw [wr (by omega)]; rfl
  have hlt : decide ((k : Int) < (k0 : Nat)) = true := decide_eq_true (by omega)
  by_cases h1 : topOf (h0 k) ≥ (h0 k).blanket
  ·refine ⟨k, ks, hG, ?_⟩
   rw [L732x0s, hlt, pT]
   simp only [e1, tkHv_h, tkAgg_a, tkTup_t, tkCons_c, tkInt_i, tkBool_b, tkNil_n, tkSCons_c, tkBox_b, Nat.beq_refl, Bool.and_self, beq_self_eq_true, pT, samM2, samO1, tkArr_a, ks6, tkRow_r, tkMp_m, tkSNil_n, tkSame_s, decide_true]
   rw [decide_eq_true h1, pT, w0]
   simp only [faultR, decide_eq_true h1, cond_true]
  ·cases h2 : buriedB c h0 k with
   | true =>
    refine ⟨k, ks2, hG2, ?_⟩
    rw [L732x0s, hlt, pT]
    simp only [e1, tkHv_h, tkAgg_a, tkTup_t, tkCons_c, tkInt_i, tkBool_b, tkNil_n, tkSCons_c, tkBox_b, Nat.beq_refl, Bool.and_self, beq_self_eq_true, pT, samM2, samO1, tkArr_a, ks6, tkRow_r, tkMp_m, tkSNil_n, tkSame_s, decide_true]
    rw [decide_eq_false h1, pF]
    simp only [e2, tkHv_h, tkAgg_a, tkTup_t, tkCons_c, tkInt_i, tkBool_b, tkNil_n, tkSCons_c, tkBox_b, Nat.beq_refl, Bool.and_self, beq_self_eq_true, pT, samM2, samO1, tkArr_a, ks6, tkRow_r, tkMp_m, tkSNil_n, tkSame_s, decide_true]
    rw [h2, pT, w1, w2]
    simp only [faultR, decide_eq_false h1, cond_false, h2, cond_true]
   | false =>
    cases h3 : oiledB c h0 k with
    | true =>
     refine ⟨k, ks3, hG3, ?_⟩
     rw [L732x0s, hlt, pT]
     simp only [e1, tkHv_h, tkAgg_a, tkTup_t, tkCons_c, tkInt_i, tkBool_b, tkNil_n, tkSCons_c, tkBox_b, Nat.beq_refl, Bool.and_self, beq_self_eq_true, pT, samM2, samO1, tkArr_a, ks6, tkRow_r, tkMp_m, tkSNil_n, tkSame_s, decide_true]
     rw [decide_eq_false h1, pF]
     simp only [e2, tkHv_h, tkAgg_a, tkTup_t, tkCons_c, tkInt_i, tkBool_b, tkNil_n, tkSCons_c, tkBox_b, Nat.beq_refl, Bool.and_self, beq_self_eq_true, pT, samM2, samO1, tkArr_a, ks6, tkRow_r, tkMp_m, tkSNil_n, tkSame_s, decide_true]
     rw [h2, pF]
     simp only [e3, tkHv_h, tkAgg_a, tkTup_t, tkCons_c, tkInt_i, tkBool_b, tkNil_n, tkSCons_c, tkBox_b, Nat.beq_refl, Bool.and_self, beq_self_eq_true, pT, samM2, samO1, tkArr_a, ks6, tkRow_r, tkMp_m, tkSNil_n, tkSame_s, decide_true]
     rw [h3, pT, w1, w3, w4]
     simp only [faultR, decide_eq_false h1, cond_false, h2, h3, cond_true]
    | false =>
     cases h4 : (wideR c h0 k c.slices.len 0).2 with
     | true =>
      refine ⟨k, ks4, hG4, ?_⟩
      rw [L732x0s, hlt, pT]
      simp only [e1, tkHv_h, tkAgg_a, tkTup_t, tkCons_c, tkInt_i, tkBool_b, tkNil_n, tkSCons_c, tkBox_b, Nat.beq_refl, Bool.and_self, beq_self_eq_true, pT, samM2, samO1, tkArr_a, ks6, tkRow_r, tkMp_m, tkSNil_n, tkSame_s, decide_true]
      rw [decide_eq_false h1, pF]
      simp only [e2, tkHv_h, tkAgg_a, tkTup_t, tkCons_c, tkInt_i, tkBool_b, tkNil_n, tkSCons_c, tkBox_b, Nat.beq_refl, Bool.and_self, beq_self_eq_true, pT, samM2, samO1, tkArr_a, ks6, tkRow_r, tkMp_m, tkSNil_n, tkSame_s, decide_true]
      rw [h2, pF]
      simp only [e3, tkHv_h, tkAgg_a, tkTup_t, tkCons_c, tkInt_i, tkBool_b, tkNil_n, tkSCons_c, tkBox_b, Nat.beq_refl, Bool.and_self, beq_self_eq_true, pT, samM2, samO1, tkArr_a, ks6, tkRow_r, tkMp_m, tkSNil_n, tkSame_s, decide_true]
      rw [h3, pF]
      simp only [e4, tkHv_h, tkAgg_a, tkTup_t, tkCons_c, tkInt_i, tkBool_b, tkNil_n, tkSCons_c, tkBox_b, Nat.beq_refl, Bool.and_self, beq_self_eq_true, pT, samM2, samO1, tkArr_a, ks6, tkRow_r, tkMp_m, tkSNil_n, tkSame_s, decide_true]
      rw [h4, pT, w1, w3, wr (n := 2 + 1) (by omega)]
      rw [show (2 : Int) + 1 = 3 from rfl, w5]
      simp only [faultR, decide_eq_false h1, cond_false, h2, h3, h4, cond_true]
     | false =>
      refine ⟨p', ks5, hG5, ?_⟩
      rw [L732x0s, hlt, pT]
      simp only [e1, tkHv_h, tkAgg_a, tkTup_t, tkCons_c, tkInt_i, tkBool_b, tkNil_n, tkSCons_c, tkBox_b, Nat.beq_refl, Bool.and_self, beq_self_eq_true, pT, samM2, samO1, tkArr_a, ks6, tkRow_r, tkMp_m, tkSNil_n, tkSame_s, decide_true]
      rw [decide_eq_false h1, pF]
      simp only [e2, tkHv_h, tkAgg_a, tkTup_t, tkCons_c, tkInt_i, tkBool_b, tkNil_n, tkSCons_c, tkBox_b, Nat.beq_refl, Bool.and_self, beq_self_eq_true, pT, samM2, samO1, tkArr_a, ks6, tkRow_r, tkMp_m, tkSNil_n, tkSame_s, decide_true]
      rw [h2, pF]
      simp only [e3, tkHv_h, tkAgg_a, tkTup_t, tkCons_c, tkInt_i, tkBool_b, tkNil_n, tkSCons_c, tkBox_b, Nat.beq_refl, Bool.and_self, beq_self_eq_true, pT, samM2, samO1, tkArr_a, ks6, tkRow_r, tkMp_m, tkSNil_n, tkSame_s, decide_true]
      rw [h3, pF]
      simp only [e4, tkHv_h, tkAgg_a, tkTup_t, tkCons_c, tkInt_i, tkBool_b, tkNil_n, tkSCons_c, tkBox_b, Nat.beq_refl, Bool.and_self, beq_self_eq_true, pT, samM2, samO1, tkArr_a, ks6, tkRow_r, tkMp_m, tkSNil_n, tkSame_s, decide_true]
      rw [h4, pF, hS]
      simp only [faultR, decide_eq_false h1, cond_false, h2, h3, h4]
      exact e5
theorem s732 {c : Cav} (hc : CavOk c) {L : List Stg} (hL : L.length ≤ 1000) (k0 : Nat) (h0 : Nat → Stg) (hn2 : k0 ≤ 300) (hl : ∀ i, i < k0 → StgOk c.slices.len (h0 i) ∧ h0 i ∈ L) (hF : 400 < F) (p : Int) (n : Nat) (hn : n ≤ k0) (ks : List GKey) (hG : Gs L ks) : ∃ (p' : Int) (ks' : List GKey), Gs L ks' ∧
  (E F (d + 17)).hv 73 [.optr 0 0 0, .int .i64 n] (PB c k0 h0 p (encM gK (gV c) ks)) = some (.ret (.tup [.int .i64 (faultR c h0 (k0 - n) n).1, .int .i64 (faultR c h0 (k0 - n) n).2.1, .int .i64 (faultR c h0 (k0 - n) n).2.2]), (PB c k0 h0 p' (encM gK (gV c) ks'))) := by
 obtain ⟨p', ks', hG', e⟩ := l732 F d hc hL k0 h0 hn2 hl hF p n (encM gK (gV c) ks) (k0 - n) n F ks (by omega) (by omega) hG
 refine ⟨p', ks', hG', ?_⟩
 rw [E_hv, t732]
 exact e
theorem l782 {c : Cav} (hc : CavOk c) {L : List Stg} (hL : L.length ≤ 1000) (k0 : Nat) (h0 : Nat → Stg) (hn2 : k0 ≤ 300) (hl : ∀ i, i < k0 → StgOk c.slices.len (h0 i) ∧ h0 i ∈ L) (hF : 400 < F) (p : Int) (w : Sl Int) (hw : w.len ≤ c.slices.len) (es : List (V × V)) : ∀ j i fu ks, i + j = w.len → j < fu → Gs L ks → ∃ ks', Gs L ks' ∧
  L782x0 (E F (d + 15)) F c k0 h0 p es w fu i (fun i => eStg (h0 i)) (encM gK (gV c) ks) = some (.ret (.bool (allF (fun i => decide (w.el i ≤ (boundS c h0 (meaS c 2 i) k0).lo)) j i)), (PB c k0 h0 p (encM gK (gV c) ks'))) := by
 have hcl := hc.1
 intro j
 induction j with
 | zero =>
  intro i fu ks h hf hG
  obtain ⟨fu, rfl⟩ : ∃ k, fu = k + 1 := ⟨fu - 1, by omega⟩
  refine ⟨ks, hG, ?_⟩
  rw [L782x0s, decide_eq_false (by omega), pF]
  rfl
 | succ j ih =>
  intro i fu ks h hf hG
  obtain ⟨fu, rfl⟩ : ∃ k, fu = k + 1 := ⟨fu - 1, by omega⟩
  obtain ⟨ks1, hG1, e1⟩ := s1062 F d hc hL k0 h0 p k0 (by omega) (by omega) hl 2 i (by omega) (by omega) hF ks hG
  obtain ⟨ks2, hG2, e2⟩ := ih (i + 1) fu ks1 (by omega) (by omega) hG1
  have hS2 : IntKind.i64.wrap ((i : Int) + 1) = ((i + 1 : Nat) : Int) := wrS (by omega)
  by_cases hw : (boundS c h0 (meaS c 2 i) k0).lo < w.el i
  ·refine ⟨ks1, hG1, ?_⟩
   rw [L782x0s]
   simp (disch := omega) only [decide_eq_true, decide_true, pT, Int.toNat_natCast, hS2]
   simp only [e1, tkHv_h, tkAgg_a, tkTup_t, tkCons_c, tkInt_i, tkBool_b, tkNil_n, tkSCons_c, tkBox_b, Nat.beq_refl, Bool.and_self, beq_self_eq_true, pT, samM2, samO1, tkArr_a, ks6, tkRow_r, tkMp_m, tkSNil_n, tkSame_s, decide_true]
   rw [decide_eq_true hw, pT]
   simp only [allF, decide_eq_false (show ¬ w.el i ≤ _ from Int.not_le.2 hw), Bool.false_and]
  ·refine ⟨ks2, hG2, ?_⟩
   rw [L782x0s]
   simp (disch := omega) only [decide_eq_true, decide_true, pT, Int.toNat_natCast, hS2]
   simp only [e1, tkHv_h, tkAgg_a, tkTup_t, tkCons_c, tkInt_i, tkBool_b, tkNil_n, tkSCons_c, tkBox_b, Nat.beq_refl, Bool.and_self, beq_self_eq_true, pT, samM2, samO1, tkArr_a, ks6, tkRow_r, tkMp_m, tkSNil_n, tkSame_s, decide_true]
   rw [decide_eq_false hw, pF]
   simp only [allF, decide_eq_true (Int.not_lt.1 hw), Bool.true_and]
   exact e2
theorem s782 {c : Cav} (hc : CavOk c) {L : List Stg} (hL : L.length ≤ 1000) (k0 : Nat) (h0 : Nat → Stg) (hn2 : k0 ≤ 300) (hl : ∀ i, i < k0 → StgOk c.slices.len (h0 i) ∧ h0 i ∈ L) (hF : 400 < F) (p : Int) (w : Sl Int) (hw : w.len ≤ c.slices.len) (ks : List GKey) (hG : Gs L ks) : ∃ ks', Gs L ks' ∧
  (E F (d + 16)).hv 78 [.optr 0 0 0, sl eInt 1 w] (PB c k0 h0 p (encM gK (gV c) ks)) = some (.ret (.bool (allF (fun i => decide (w.el i ≤ (boundS c h0 (meaS c 2 i) k0).lo)) w.len 0)), (PB c k0 h0 p (encM gK (gV c) ks'))) := by
 have hcl := hc.1
 obtain ⟨ks', hG', e⟩ := l782 F d hc hL k0 h0 hn2 hl hF p w hw (encM gK (gV c) ks) w.len 0 F ks (by omega) (by omega) hG
 refine ⟨ks', hG', ?_⟩
 rw [E_hv, t782]
 exact e
end Go.Sim.Le


namespace Go.Sim.Le
open Go.Proofs
variable (F d : Nat)
theorem errP_0 {c : Cav} {l : Sl Stg} {b : Bool} : errP c l b = 0 ↔ l.len ≤ 8 ∧ CavOk c ∧ (∀ i, i < l.len → StgOk c.slices.len (l.el i)) ∧ b = true := by
 unfold errP
 split
 ·constructor
  ·intro h; omega
  ·intro h; omega
 ·split
  ·rename_i h1 h2
   exact ⟨fun _ => ⟨by omega, h2⟩, fun _ => rfl⟩
  ·rename_i h1 h2
   exact ⟨fun h => by omega, fun h => (h2 h.2).elim⟩
def lst (l : Nat → Stg) (n : Nat) : List Stg := (List.range n).map l
theorem lst_mem (l : Nat → Stg) {n i : Nat} (h : i < n) : l i ∈ lst l n := List.mem_map.2 ⟨i, List.mem_range.2 h, rfl⟩
theorem lst_len (l : Nat → Stg) (n : Nat) : (lst l n).length = n := by simp [lst]
theorem s30 (c : Cav) (l : Sl Stg) (hC : c.slices.len < Big) (hCF : c.slices.len < F) (hB : l.len < Big) (hLF : l.len < F) (hF : 400 < F) :
  (E F (d + 18)).pf 30 [.agg (eCav c), sl eStg 4 l] = some (.ret (.tup (if errP c l true = 0 then [.int .i64 (faultR c l.el l.len 0).1, .int .i64 (faultR c l.el l.len 0).2.1, .int .i64 (faultR c l.el l.len 0).2.2, .int .i64 0] else [.int .i64 0, .int .i64 0, .int .i64 0, .int .i64 (errP c l true)]))) := by
 rw [E_pf, t30]
 simp only [s57e F (d + 10) c l hC hCF hB hLF, tkOut_ret, tkInt_i, decide_true, pT]
 by_cases h0 : errP c l true = 0
 ·rw [h0, show ((0 : Int) != 0) = false from rfl, pF]
  obtain ⟨h8, hc, hl, _⟩ := errP_0.1 h0
  obtain ⟨p', ks', _, e⟩ := s731 F d hc (L := lst l.el l.len) (by rw [lst_len]; omega) l (by omega) (fun i hi => ⟨hl i hi, lst_mem _ hi⟩) hF 0 0 (by omega) [] ⟨List.nodup_nil, by simp⟩
  simp only [PA, encM, List.map, Int.natCast_zero, Nat.sub_zero] at e
  simp only [e, tkHv_h, tkTup_t, tkCons_c, tkInt_i, tkNil_n, tkSCons_c, tkBox_b, Nat.beq_refl, Bool.and_self, beq_self_eq_true, pT, samM1, ks6, tkRow_r, tkMp_m, tkSNil_n]
  rw [if_pos trivial]
 ·have e1 : (errP c l true != 0) = true := by simpa using h0
  rw [e1, pT, if_neg h0]
end Go.Sim.Le


namespace Go.Sim.Le
open Go.Proofs
def z0 : Stg := ⟨0, 0, 0, 0⟩
def stgF (ms : List Stg) : Nat → Stg := fun j => ms.getD j (ms.getLastD z0)
theorem glS (ms : List Stg) : gl eStg z0 ms = fun i => eStg (stgF ms i) := rfl
def msOf (l : Nat → Stg) (r : List Int) : List Stg := r.map fun i => l i.toNat
theorem msOf_snoc (l : Nat → Stg) (r : List Int) (i : Int) : msOf l (r ++ [i]) = msOf l r ++ [l i.toNat] := by simp [msOf]
theorem msOf_len (l : Nat → Stg) (r : List Int) : (msOf l r).length = r.length := by simp [msOf]
def rb (r : List Int) : Bool := match r with | [] => true | _ => false
def rwd (r : List Int) : Nat := match r with | [] => 0 | _ => 1
def rg (r : List Int) : Nat → List V := match r with | [] => fun _ => [] | _ => gl eInt 0 r
theorem rb_own {r : List Int} (h : r ≠ []) : rb r = false := by cases r with | nil => exact (h rfl).elim | cons => rfl
theorem rw_own {r : List Int} (h : r ≠ []) : rwd r = 1 := by cases r with | nil => exact (h rfl).elim | cons => rfl
theorem rg_own {r : List Int} (h : r ≠ []) : rg r = gl eInt 0 r := by cases r with | nil => exact (h rfl).elim | cons => rfl
def rowE (r : List Int) : List V := [.row (rb r) r.length (rwd r) (rg r)]
def rowG (PL : List (List Int)) : Nat → List V := gl rowE [] PL
theorem rowG_at {PL pre rest : List (List Int)} {r : List Int} (h : PL = pre ++ r :: rest) : rowG PL pre.length = rowE r := by
 subst h
 unfold rowG gl
 rw [List.getD_eq_getElem?_getD, List.getElem?_append_right (Nat.le_refl _), Nat.sub_self]; rfl
theorem gl_int {r : List Int} {k : Nat} (h : k < r.length) : gl eInt 0 r k = [.int .i64 (r.getD k 0)] := by
 unfold gl
 rw [List.getD_eq_getElem?_getD, List.getElem?_eq_getElem h, List.getD_eq_getElem?_getD, List.getElem?_eq_getElem h]; rfl
abbrev RowOk (l : Sl Stg) (n : Nat) (r : List Int) : Prop := r.length = n ∧ ∀ i ∈ r, 0 ≤ i ∧ i < l.len
theorem rowOk_at {l : Sl Stg} {n : Nat} {r : List Int} (h : RowOk l n r) {k : Nat} (hk : k < r.length) : 0 ≤ r.getD k 0 ∧ r.getD k 0 < l.len := by
 rw [List.getD_eq_getElem?_getD, List.getElem?_eq_getElem hk]
 exact h.2 _ (List.getElem_mem hk)
theorem stgF_ok {c : Cav} {l : Sl Stg} (hl : ∀ i, i < l.len → StgOk c.slices.len (l.el i)) {r : List Int} (h : ∀ i ∈ r, 0 ≤ i ∧ i < (l.len : Int)) {i : Nat} (hi : i < r.length) : StgOk c.slices.len (stgF (msOf l.el r) i) ∧ stgF (msOf l.el r) i ∈ lst l.el l.len := by
 have h1 : stgF (msOf l.el r) i = l.el (r.getD i 0).toNat := by
  unfold stgF msOf
  rw [List.getD_eq_getElem?_getD, List.getElem?_map, List.getElem?_eq_getElem hi, List.getD_eq_getElem?_getD, List.getElem?_eq_getElem hi]; rfl
 have h2 : 0 ≤ r.getD i 0 ∧ r.getD i 0 < l.len := by
  rw [List.getD_eq_getElem?_getD, List.getElem?_eq_getElem hi]
  exact h _ (List.getElem_mem hi)
 rw [h1]
 exact ⟨hl _ (by omega), lst_mem _ (by omega)⟩
def makesB (c : Cav) (l : Nat → Stg) (w : Sl Int) (r : List Int) : Bool := allF (fun i => decide (w.el i ≤ (boundS c (stgF (msOf l r)) (meaS c 2 i) r.length).lo)) w.len 0
def fineB (c : Cav) (l : Nat → Stg) (n : Nat) (r : List Int) : Bool := decide ((faultR c (stgF (msOf l r)) (r.length - n) n).1 < 0)
def watS (l : Nat → Stg) (r : List Int) : Int := (r.map fun i => (l i.toNat).water).sum
theorem watS_snoc (l : Nat → Stg) (r : List Int) (i : Int) : watS l (r ++ [i]) = watS l r + (l i.toNat).water := by simp [watS]
theorem watS_in {c : Cav} {l : Sl Stg} (hl : ∀ i, i < l.len → StgOk c.slices.len (l.el i)) : ∀ r : List Int, (∀ i ∈ r, 0 ≤ i ∧ i < (l.len : Int)) → 0 ≤ watS l.el r ∧ watS l.el r ≤ 1000000 * r.length := by
 intro r
 induction r with
 | nil => intro _; simp [watS]
 | cons i r ih =>
  intro h
  have h1 := ih fun i hi => h i (List.mem_cons_of_mem _ hi)
  have h2 := h i (List.mem_cons_self ..)
  have h3 := (hl i.toNat (by omega)).1
  have e : watS l.el (i :: r) = (l.el i.toNat).water + watS l.el r := by simp [watS]
  rw [e, List.length_cons]
  omega
def bestA (c : Cav) (l : Nat → Stg) (w : Sl Int) (acc : Option (List Int × Int)) (r : List Int) : Option (List Int × Int) :=
 bif makesB c l w r then (match acc with | none => some (r, watS l r) | some (b, a) => bif decide (watS l r < a) then some (r, watS l r) else some (b, a)) else acc
def aR (acc : Option (List Int × Int)) : List Int := match acc with | none => [] | some (b, _) => b
def aL (acc : Option (List Int × Int)) : Int := match acc with | none => -1 | some (_, a) => a
def planOut : Option (List Int) → Out
 | none => .ret (.tup [.row true 0 0 (fun _ => []), .int .i64 5])
 | some r => .ret (.tup [.row (rb r) r.length (rwd r) (rg r), .int .i64 0])
variable (F d : Nat)
theorem s78p {c : Cav} (hc : CavOk c) {l : Sl Stg} (hL : l.len ≤ 300) (hl : ∀ i, i < l.len → StgOk c.slices.len (l.el i)) (hF : 400 < F) (p : Int) (w : Sl Int) (hw : w.len ≤ c.slices.len) (r : List Int) (hn : r.length ≤ 300) (hr : ∀ i ∈ r, 0 ≤ i ∧ i < (l.len : Int)) (ks : List GKey) (hG : Gs (lst l.el l.len) ks) : ∃ ks', Gs (lst l.el l.len) ks' ∧
  (E F (d + 17)).hv 78 [.optr 0 0 0, sl eInt 1 w] (PB c r.length (stgF (msOf l.el r)) p (encM gK (gV c) ks)) = some (.ret (.bool (makesB c l.el w r)), (PB c r.length (stgF (msOf l.el r)) p (encM gK (gV c) ks'))) :=
 s782 F (d + 1) hc (by rw [lst_len]; omega) r.length (stgF (msOf l.el r)) hn (fun i hi => stgF_ok hl hr hi) hF p w hw ks hG
theorem s73p {c : Cav} (hc : CavOk c) {l : Sl Stg} (hL : l.len ≤ 300) (hl : ∀ i, i < l.len → StgOk c.slices.len (l.el i)) (hF : 400 < F) (p : Int) (n : Nat) (r : List Int) (hn1 : n ≤ r.length) (hn : r.length ≤ 300) (hr : ∀ i ∈ r, 0 ≤ i ∧ i < (l.len : Int)) (ks : List GKey) (hG : Gs (lst l.el l.len) ks) : ∃ (p' : Int) (ks' : List GKey) (x y z : Int), Gs (lst l.el l.len) ks' ∧ fineB c l.el n r = decide (x < 0) ∧
  (E F (d + 17)).hv 73 [.optr 0 0 0, .int .i64 n] (PB c r.length (stgF (msOf l.el r)) p (encM gK (gV c) ks)) = some (.ret (.tup [.int .i64 x, .int .i64 y, .int .i64 z]), (PB c r.length (stgF (msOf l.el r)) p' (encM gK (gV c) ks'))) := by
 obtain ⟨p', ks', hG', e⟩ := s732 F d hc (L := lst l.el l.len) (by rw [lst_len]; omega) r.length (stgF (msOf l.el r)) hn (fun i hi => stgF_ok hl hr hi) hF p n hn1 ks hG
 exact ⟨p', ks', _, _, _, hG', rfl, e⟩
theorem s79n : (E F (d + 17)).hv 79 [.row true 0 0 (fun _ => [])] [] = some (.ret (.row true 0 0 fun _ => []), []) := by
 rw [show d + 17 = (d + 16) + 1 from rfl, E_hv]
 kernel_rfl
theorem s79o (r : List Int) (h : r ≠ []) (hl : r.length ≤ 300) : (E F (d + 17)).hv 79 [.row false r.length 1 (gl eInt 0 r)] [] = some (.ret (.osl 0 0 r.length), [.arr 3 1 r.length (gl eInt 0 r) true]) := by
 have hr : 0 < r.length := List.length_pos_iff.2 h
 rw [show d + 17 = (d + 16) + 1 from rfl, E_hv]
 refine (t79 _ _ ⟨false, r.length, fun j => r.getD j (r.getLastD 0)⟩).trans ?_
 simp only [Nat.zero_add, pF]
 rw [show (r.length == 0) = false by rw [beq_eq_false_iff_ne]; omega, pF, decide_eq_true (by omega), pT]
 rfl
section
variable {c : Cav} (hc : CavOk c) {l : Sl Stg} (hL : l.len ≤ 300) (hl : ∀ i, i < l.len → StgOk c.slices.len (l.el i)) (hF : 100000 < F) (w : Sl Int) (hw : w.len ≤ c.slices.len)
include hc hL hl hF hw
theorem l33x20 (m0 m1 n : Nat) (hn : 1 ≤ n ∧ n ≤ 100) (PLn : Nat) (PG : Nat → List V) (acc : Option (List Int × Int)) (r : List Int) (hr : RowOk l n r) (ix : Nat) (hix : ix < 100000) (p : Int) (R : Option Out)
  (K : ∀ (p : Int) (ks : List GKey), Gs (lst l.el l.len) ks → L33x17 (E F (d + 17)) F c l w m0 m1 PLn n (rb (aR (bestA c l.el w acc r))) (aR (bestA c l.el w acc r)).length (rwd (aR (bestA c l.el w acc r))) (rg (aR (bestA c l.el w acc r))) (aL (bestA c l.el w acc r)) PLn PLn ((ix + 1 : Nat) : Int) c.slices.nl c.slices.len 7 (fun u => eSlc (c.slices.el u)) .i64 c.hold .i64 c.oil r.length .i64 p PLn PG r.length (fun i => eStg (stgF (msOf l.el r) i)) (encM gK (gV c) ks) = R) (hacc : ∀ b a, acc = some (b, a) → 0 ≤ a) :
  ∀ j i fu ks, i + j = n → 1 ≤ i → j < fu → Gs (lst l.el l.len) ks →
  L33x20 (E F (d + 17)) F c l w m0 m1 fu PLn n (rb (aR acc)) (aR acc).length (rwd (aR acc)) (rg (aR acc)) (aL acc) false n 1 (gl eInt 0 r) (watS l.el (r.take i)) PLn PLn ix false n 1 (gl eInt 0 r) n i c.slices.nl c.slices.len 7 (fun u => eSlc (c.slices.el u)) .i64 c.hold .i64 c.oil i .i64 p PLn PG i (gl eStg z0 (msOf l.el (r.take i))) (encM gK (gV c) ks) = R := by
 intro j
 induction j with
 | zero =>
  intro i fu ks h h1 hf hG
  obtain ⟨fu, rfl⟩ : ∃ k, fu = k + 1 := ⟨fu - 1, by omega⟩
  have hi : i = n := by omega
  subst hi
  have hne : r ≠ [] := fun e => by rw [e] at hr; have := hr.1; simp at this; omega
  obtain ⟨ks', hG', e⟩ := s78p F d hc hL hl (by omega) p w hw r (by rw [hr.1]; omega) hr.2 ks hG
  have k1 := K p ks' hG'
  have hS2 : IntKind.i64.wrap ((ix : Int) + 1) = ((ix + 1 : Nat) : Int) := wrS (by omega)
  rw [hr.1] at e k1
  rw [show r.take i = r by rw [← hr.1, List.take_length], L33x20s, decide_eq_false (by omega), pF, glS]
  simp only [e, tkHv_h, tkBool_b, tkCons_c, tkInt_i, tkNil_n, tkSCons_c, tkBox_b, Nat.beq_refl, Bool.and_self, beq_self_eq_true, pT, samM2, samO1, tkArr_a, ks6, tkRow_r, tkMp_m, tkSNil_n, tkSame_s, hS2]
  cases hmk : makesB c l.el w r with
  | false =>
   have hb : bestA c l.el w acc r = acc := by unfold bestA; rw [hmk, cond_false]
   rw [hb] at k1
   rw [Bool.not_false, pT]
   exact k1
  | true =>
   rw [Bool.not_true, pF]
   have hro : ∀ a, bestA c l.el w acc r = some (r, a) → rb (aR (bestA c l.el w acc r)) = false ∧ (aR (bestA c l.el w acc r)).length = i ∧ rwd (aR (bestA c l.el w acc r)) = 1 ∧ rg (aR (bestA c l.el w acc r)) = gl eInt 0 r ∧ aL (bestA c l.el w acc r) = a := by
    intro a ha
    rw [ha]
    exact ⟨rb_own hne, hr.1, rw_own hne, rg_own hne, rfl⟩
   cases hac : acc with
   | none =>
    have hb : bestA c l.el w acc r = some (r, watS l.el r) := by unfold bestA; rw [hmk, cond_true, hac]
    obtain ⟨q1, q2, q3, q4, q5⟩ := hro _ hb
    rw [q1, q2, q3, q4, q5] at k1
    rw [show aL none = -1 from rfl, decide_eq_true (by omega), pT]
    exact k1
   | some ba =>
    obtain ⟨b, a⟩ := ba
    have ha := hacc b a hac
    rw [show aL (some (b, a)) = a from rfl, decide_eq_false (by omega), pF]
    by_cases hlt : watS l.el r < a
    ·have hb : bestA c l.el w acc r = some (r, watS l.el r) := by unfold bestA; rw [hmk, cond_true, hac]; show (bif _ then _ else _) = _; rw [decide_eq_true hlt, cond_true]
     obtain ⟨q1, q2, q3, q4, q5⟩ := hro _ hb
     rw [q1, q2, q3, q4, q5] at k1
     rw [decide_eq_true hlt, pT]
     exact k1
    ·have hb : bestA c l.el w acc r = acc := by unfold bestA; rw [hmk, cond_true, hac]; show (bif _ then _ else _) = _; rw [decide_eq_false hlt, cond_false]
     rw [hb, hac] at k1
     rw [decide_eq_false hlt, pF]
     exact k1
 | succ j ih =>
  intro i fu ks h h1 hf hG
  obtain ⟨fu, rfl⟩ : ∃ k, fu = k + 1 := ⟨fu - 1, by omega⟩
  have hir : i < r.length := by rw [hr.1]; omega
  have hi2 := rowOk_at hr hir
  have hwt := watS_in hl (r.take i) fun x hx => hr.2 x (List.mem_of_mem_take hx)
  have hwl : (r.take i).length = i := by rw [List.length_take]; omega
  have hws := (hl (r.getD i 0).toNat (by omega)).1
  have hS2 : IntKind.i64.wrap ((i : Int) + 1) = ((i + 1 : Nat) : Int) := wrS (by omega)
  have htk : r.take (i + 1) = r.take i ++ [r.getD i 0] := by
   rw [List.take_add_one, List.getElem?_eq_getElem hir, List.getD_eq_getElem?_getD, List.getElem?_eq_getElem hir]; rfl
  have e := ih (i + 1) fu ks (by omega) (by omega) (by omega) hG
  rw [htk, watS_snoc, msOf_snoc] at e
  rw [hwl] at hwt
  rw [L33x20s]
  simp (disch := omega) only [decide_eq_true, decide_true, pT, Int.toNat_natCast, show ((1 : Nat) == 1) = true from rfl, gl_int hir, tkCons_c, tkInt_i, hS2, wr]
  rw [← gl_snoc (e := eStg) (z := z0) (m := l.el (r.getD i 0).toNat) (ms := msOf l.el (r.take i)) (k := i) (by rw [msOf_len, hwl]) rfl] at e
  exact e
end
end Go.Sim.Le


namespace Go.Sim.Le
open Go.Proofs
variable (F d : Nat)
def nxtE (c : Cav) (l : Nat → Stg) (n : Nat) (r : List Int) : Nat → Nat → List (List Int)
 | 0, _ => []
 | j + 1, i => (bif fineB c l n (r ++ [(i : Int)]) then [r ++ [(i : Int)]] else []) ++ nxtE c l n r j (i + 1)
def nextP (c : Cav) (l : Sl Stg) (n : Nat) (PL : List (List Int)) : List (List Int) := PL.flatMap fun r => nxtE c l.el n r l.len 0
def planF (c : Cav) (l : Sl Stg) (w : Sl Int) : Nat → Nat → List (List Int) → Option (List Int)
 | 0, _, PL => (match PL.foldl (bestA c l.el w) none with | some (b, _) => some b | none => none)
 | t + 1, n, PL => (match PL.foldl (bestA c l.el w) none with | some (b, _) => some b | none => planF c l w t (n + 1) (nextP c l n PL))
theorem nxtE_len (c : Cav) (l : Nat → Stg) (n : Nat) (r : List Int) : ∀ j i, (nxtE c l n r j i).length ≤ j := by
 intro j
 induction j with
 | zero => intro i; simp [nxtE]
 | succ j ih =>
  intro i
  have := ih (i + 1)
  simp only [nxtE, List.length_append]
  cases fineB c l n (r ++ [(i : Int)]) <;> simp <;> omega
theorem nxtE_ok {c : Cav} {l : Sl Stg} {n : Nat} {r : List Int} (hr : RowOk l n r) : ∀ j i, i + j = l.len → ∀ q ∈ nxtE c l.el n r j i, RowOk l (n + 1) q := by
 intro j
 induction j with
 | zero => intro i _ q hq; simp [nxtE] at hq
 | succ j ih =>
  intro i h q hq
  simp only [nxtE, List.mem_append] at hq
  rcases hq with hq | hq
  ·cases hf : fineB c l.el n (r ++ [(i : Int)]) with
   | false => rw [hf] at hq; simp at hq
   | true =>
    rw [hf] at hq
    simp at hq
    subst hq
    refine ⟨by simp [hr.1], fun x hx => ?_⟩
    rcases List.mem_append.1 hx with hx | hx
    ·exact hr.2 x hx
    ·rw [List.mem_singleton] at hx; omega
  ·exact ih (i + 1) (by omega) q hq
theorem nextP_ok {c : Cav} {l : Sl Stg} {n : Nat} {PL : List (List Int)} (h : ∀ r ∈ PL, RowOk l n r) : ∀ q ∈ nextP c l n PL, RowOk l (n + 1) q := by
 intro q hq
 obtain ⟨r, h1, h2⟩ := List.mem_flatMap.1 hq
 exact nxtE_ok (h r h1) _ _ (by omega) q h2
theorem nextP_len (c : Cav) (l : Sl Stg) (n : Nat) : ∀ PL : List (List Int), (nextP c l n PL).length ≤ PL.length * l.len := by
 intro PL
 induction PL with
 | nil => simp [nextP]
 | cons r PL ih =>
  have h1 := nxtE_len c l.el n r l.len 0
  have e : nextP c l n (r :: PL) = nxtE c l.el n r l.len 0 ++ nextP c l n PL := rfl
  rw [e, List.length_append, List.length_cons, Nat.add_mul]
  omega
noncomputable def EL (env : Env) (F : Nat) (c : Cav) (l : Sl Stg) (w : Sl Int) (m0 m1 fu n : Nat) (r : List Int) (PLn : Nat) (PG : Nat → List V) (ix mi : Nat) (NP : List (List Int)) (sk sa : Nat) (sg : Nat → List V) (p : Int) (es : List (V × V)) : Option Out :=
 match NP with
 | [] => L33x9 env F c l w m0 m1 fu n (rb r) r.length (rwd r) (rg r) PLn PLn ix mi c.slices.nl c.slices.len 7 (fun u => eSlc (c.slices.el u)) .i64 c.hold .i64 c.oil sk .i64 p PLn PG sa sg es
 | _ => L33x8 env F c l w m0 m1 fu n NP.length (rb r) r.length (rwd r) (rg r) PLn PLn ix mi c.slices.nl c.slices.len 7 (fun u => eSlc (c.slices.el u)) .i64 c.hold .i64 c.oil sk .i64 p NP.length (rowG NP) PLn PG sa sg es
noncomputable def DL (env : Env) (F : Nat) (c : Cav) (l : Sl Stg) (w : Sl Int) (m0 fu n PLn : Nat) (PG : Nat → List V) (ix : Nat) (NP : List (List Int)) (sk sa : Nat) (sg : Nat → List V) (p : Int) (es : List (V × V)) : Option Out :=
 match NP with
 | [] => L33x13 env F c l w m0 fu n PLn PLn ix c.slices.nl c.slices.len 7 (fun u => eSlc (c.slices.el u)) .i64 c.hold .i64 c.oil sk .i64 p PLn PG sa sg es
 | _ => L33x12 env F c l w m0 fu n NP.length PLn PLn ix c.slices.nl c.slices.len 7 (fun u => eSlc (c.slices.el u)) .i64 c.hold .i64 c.oil sk .i64 p NP.length (rowG NP) PLn PG sa sg es
noncomputable def AL (env : Env) (F : Nat) (c : Cav) (l : Sl Stg) (w : Sl Int) (fu n : Nat) (NP : List (List Int)) (sk sa : Nat) (sg : Nat → List V) (p : Int) (es : List (V × V)) : Option Out :=
 match NP with
 | [] => L33x16 env F c l w fu n c.slices.nl c.slices.len 7 (fun u => eSlc (c.slices.el u)) .i64 c.hold .i64 c.oil sk .i64 p sa sg es
 | _ => L33x15 env F c l w fu NP.length n c.slices.nl c.slices.len 7 (fun u => eSlc (c.slices.el u)) .i64 c.hold .i64 c.oil sk .i64 p NP.length (rowG NP) sa sg es
theorem EL_own {env : Env} {F : Nat} {c : Cav} {l : Sl Stg} {w : Sl Int} {m0 m1 fu n : Nat} {r : List Int} {PLn : Nat} {PG : Nat → List V} {ix mi : Nat} {NP : List (List Int)} {sk sa : Nat} {sg : Nat → List V} {p : Int} {es : List (V × V)} (h : NP ≠ []) :
  EL env F c l w m0 m1 fu n r PLn PG ix mi NP sk sa sg p es = L33x8 env F c l w m0 m1 fu n NP.length (rb r) r.length (rwd r) (rg r) PLn PLn ix mi c.slices.nl c.slices.len 7 (fun u => eSlc (c.slices.el u)) .i64 c.hold .i64 c.oil sk .i64 p NP.length (rowG NP) PLn PG sa sg es := by
 cases NP with | nil => exact (h rfl).elim | cons => rfl
theorem DL_own {env : Env} {F : Nat} {c : Cav} {l : Sl Stg} {w : Sl Int} {m0 fu n PLn : Nat} {PG : Nat → List V} {ix : Nat} {NP : List (List Int)} {sk sa : Nat} {sg : Nat → List V} {p : Int} {es : List (V × V)} (h : NP ≠ []) :
  DL env F c l w m0 fu n PLn PG ix NP sk sa sg p es = L33x12 env F c l w m0 fu n NP.length PLn PLn ix c.slices.nl c.slices.len 7 (fun u => eSlc (c.slices.el u)) .i64 c.hold .i64 c.oil sk .i64 p NP.length (rowG NP) PLn PG sa sg es := by
 cases NP with | nil => exact (h rfl).elim | cons => rfl
theorem AL_own {env : Env} {F : Nat} {c : Cav} {l : Sl Stg} {w : Sl Int} {fu n : Nat} {NP : List (List Int)} {sk sa : Nat} {sg : Nat → List V} {p : Int} {es : List (V × V)} (h : NP ≠ []) :
  AL env F c l w fu n NP sk sa sg p es = L33x15 env F c l w fu NP.length n c.slices.nl c.slices.len 7 (fun u => eSlc (c.slices.el u)) .i64 c.hold .i64 c.oil sk .i64 p NP.length (rowG NP) sa sg es := by
 cases NP with | nil => exact (h rfl).elim | cons => rfl
theorem take1 {q : List Int} (h : 0 < q.length) : q.take 1 = [q.getD 0 0] := by
 cases q with
 | nil => simp at h
 | cons a q => rfl
theorem rowG_one (r : List Int) (h : r ≠ []) : (fun _ : Nat => [V.row false r.length 1 (gl eInt 0 r)]) = rowG [r] := by
 refine gl_one ?_
 unfold rowE
 rw [rb_own h, rw_own h, rg_own h]
theorem rowG_snoc (NP : List (List Int)) (r : List Int) (h : r ≠ []) : appGet NP.length (rowG NP) (fun _ => [V.row false r.length 1 (gl eInt 0 r)]) = rowG (NP ++ [r]) := by
 refine gl_snoc (m := r) (e := rowE) rfl ?_
 unfold rowE
 rw [rb_own h, rw_own h, rg_own h]
section
variable {c : Cav} (hc : CavOk c) {l : Sl Stg} (hL : l.len ≤ 6) (hl : ∀ i, i < l.len → StgOk c.slices.len (l.el i)) (hF : 100000 < F) (w : Sl Int) (hw : w.len ≤ c.slices.len)
include hc hL hl hF hw
theorem l33x6 (m0 m1 m2 n : Nat) (hn : n ≤ 100) (r : List Int) (PLn : Nat) (PG : Nat → List V) (ix mi : Nat) (hmi : mi < 100000) (q : List Int) (hq : RowOk l (n + 1) q) (R : Option Out)
  (K : ∀ (sk sa : Nat) (sg : Nat → List V) (p : Int) (ks : List GKey), Gs (lst l.el l.len) ks → EL (E F (d + 17)) F c l w m0 m1 m2 n r PLn PG ix (mi + 1) ([] ++ (bif fineB c l.el n q then [q] else [])) sk sa sg p (encM gK (gV c) ks) = R) (p : Int) :
  ∀ j i fu ks, i + j = q.length → 1 ≤ i → j < fu → Gs (lst l.el l.len) ks → L33x6 (E F (d + 17)) F c l w m0 m1 m2 fu n (rb r) r.length (rwd r) (rg r) q.length PLn PLn ix mi q.length q.length i c.slices.nl c.slices.len 7 (fun u => eSlc (c.slices.el u)) .i64 c.hold .i64 c.oil i .i64 p q.length (gl eInt 0 q) PLn PG i (gl eStg z0 (msOf l.el (q.take i))) (encM gK (gV c) ks) = R := by
 intro j
 induction j with
 | zero =>
  intro i fu ks h h1 hf hG
  obtain ⟨fu, rfl⟩ : ∃ k, fu = k + 1 := ⟨fu - 1, by omega⟩
  have hi : i = q.length := by omega
  subst hi
  have hq1 := hq.1
  have hne : q ≠ [] := fun e => by rw [e] at hq1; simp at hq1
  obtain ⟨p', ks', x, y, z, hG', hx, e⟩ := s73p F d hc (by omega) hl (by omega) p n q (by omega) (by omega) hq.2 ks hG
  have k1 := K q.length q.length (fun i => eStg (stgF (msOf l.el q) i)) p' ks' hG'
  have hS2 : IntKind.i64.wrap ((mi : Int) + 1) = ((mi + 1 : Nat) : Int) := wrS (by omega)
  rw [show q.take q.length = q from List.take_length, L33x6s, decide_eq_false (by omega), pF, glS]
  simp only [e, tkHv_h, tkTup_t, tkCons_c, tkInt_i, tkNil_n, tkSCons_c, tkBox_b, Nat.beq_refl, Bool.and_self, beq_self_eq_true, pT, samM2, samO1, tkArr_a, ks6, tkRow_r, tkMp_m, tkSNil_n, decide_true, hS2]
  cases hfn : fineB c l.el n q with
  | true =>
    rw [hfn] at k1 hx
    rw [← hx, pT]
    rw [cond_true] at k1
    rw [EL_own (by simp), List.nil_append, List.length_singleton, ← rowG_one q hne] at k1
    exact k1
  | false =>
    rw [hfn] at k1 hx
    rw [← hx, pF]
    rw [cond_false] at k1
    exact k1
 | succ j ih =>
  intro i fu ks h h1 hf hG
  obtain ⟨fu, rfl⟩ : ∃ k, fu = k + 1 := ⟨fu - 1, by omega⟩
  have hq1 := hq.1
  have hir : i < q.length := by omega
  have hi2 := rowOk_at hq hir
  have hwl : (q.take i).length = i := by rw [List.length_take]; omega
  have hS2 : IntKind.i64.wrap ((i : Int) + 1) = ((i + 1 : Nat) : Int) := wrS (by omega)
  have htk : q.take (i + 1) = q.take i ++ [q.getD i 0] := by
   rw [List.take_add_one, List.getElem?_eq_getElem hir, List.getD_eq_getElem?_getD, List.getElem?_eq_getElem hir]; rfl
  have e := ih (i + 1) fu ks (by omega) (by omega) (by omega) hG
  rw [htk, msOf_snoc, ← gl_snoc (e := eStg) (z := z0) (m := l.el (q.getD i 0).toNat) (ms := msOf l.el (q.take i)) (k := i) (by rw [msOf_len, hwl]) rfl] at e
  rw [L33x6s]
  simp (disch := omega) only [decide_eq_true, decide_true, pT, Int.toNat_natCast, gl_int hir, tkCons_c, tkInt_i, hS2]
  exact e
theorem l33x5 (m0 m1 m2 n : Nat) (hn : n ≤ 100) (r : List Int) (PLn : Nat) (PG : Nat → List V) (ix mi : Nat) (hmi : mi < 100000) (q : List Int) (hq : RowOk l (n + 1) q) (R : Option Out)
  (K : ∀ (sk sa : Nat) (sg : Nat → List V) (p : Int) (ks : List GKey), Gs (lst l.el l.len) ks → EL (E F (d + 17)) F c l w m0 m1 m2 n r PLn PG ix (mi + 1) ([] ++ (bif fineB c l.el n q then [q] else [])) sk sa sg p (encM gK (gV c) ks) = R) (p : Int) :
  ∀ fu ks, q.length < fu → Gs (lst l.el l.len) ks → L33x5 (E F (d + 17)) F c l w m0 m1 m2 fu n (rb r) r.length (rwd r) (rg r) q.length PLn PLn ix mi q.length q.length c.slices.nl c.slices.len 7 (fun u => eSlc (c.slices.el u)) .i64 c.hold .i64 c.oil .i64 p q.length (gl eInt 0 q) PLn PG (encM gK (gV c) ks) = R := by
 intro fu ks hf hG
 obtain ⟨fu, rfl⟩ : ∃ k, fu = k + 1 := ⟨fu - 1, by omega⟩
 have hq1 := hq.1
 have hi2 := rowOk_at hq (k := 0) (by omega)
 have e := l33x6 F d hc hL hl hF w hw m0 m1 m2 n hn r PLn PG ix mi hmi q hq R K p (q.length - 1) 1 fu ks (by omega) (by omega) (by omega) hG
 rw [take1 (show 0 < q.length by omega), show msOf l.el [q.getD 0 0] = [l.el (q.getD 0 0).toNat] from rfl, ← gl_one rfl] at e
 rw [L33x5s]
 simp (disch := omega) only [decide_eq_true, decide_true, pT, gl_int (show 0 < q.length by omega), tkCons_c, tkInt_i, wr (n := 0 + 1), Int.zero_add]
 exact e
theorem l33x14 (m0 m1 m2 n : Nat) (hn : n ≤ 100) (r : List Int) (PLn : Nat) (PG : Nat → List V) (ix mi : Nat) (hmi : mi < 100000) (NP : List (List Int)) (hNP : NP ≠ []) (hNPl : NP.length ≤ 1000000) (q : List Int) (hq : RowOk l (n + 1) q) (R : Option Out)
  (K : ∀ (sk sa : Nat) (sg : Nat → List V) (p : Int) (ks : List GKey), Gs (lst l.el l.len) ks → EL (E F (d + 17)) F c l w m0 m1 m2 n r PLn PG ix (mi + 1) (NP ++ (bif fineB c l.el n q then [q] else [])) sk sa sg p (encM gK (gV c) ks) = R) (p : Int) :
  ∀ j i fu ks, i + j = q.length → 1 ≤ i → j < fu → Gs (lst l.el l.len) ks → L33x14 (E F (d + 17)) F c l w m0 m1 m2 fu n NP.length (rb r) r.length (rwd r) (rg r) q.length PLn PLn ix mi q.length q.length i c.slices.nl c.slices.len 7 (fun u => eSlc (c.slices.el u)) .i64 c.hold .i64 c.oil i .i64 p NP.length (rowG NP) q.length (gl eInt 0 q) PLn PG i (gl eStg z0 (msOf l.el (q.take i))) (encM gK (gV c) ks) = R := by
 intro j
 induction j with
 | zero =>
  intro i fu ks h h1 hf hG
  obtain ⟨fu, rfl⟩ : ∃ k, fu = k + 1 := ⟨fu - 1, by omega⟩
  have hi : i = q.length := by omega
  subst hi
  have hq1 := hq.1
  have hne : q ≠ [] := fun e => by rw [e] at hq1; simp at hq1
  obtain ⟨p', ks', x, y, z, hG', hx, e⟩ := s73p F d hc (by omega) hl (by omega) p n q (by omega) (by omega) hq.2 ks hG
  have k1 := K q.length q.length (fun i => eStg (stgF (msOf l.el q) i)) p' ks' hG'
  have hS2 : IntKind.i64.wrap ((mi : Int) + 1) = ((mi + 1 : Nat) : Int) := wrS (by omega)
  rw [show q.take q.length = q from List.take_length, L33x14s, decide_eq_false (by omega), pF, glS]
  simp only [e, tkHv_h, tkTup_t, tkCons_c, tkInt_i, tkNil_n, tkSCons_c, tkBox_b, Nat.beq_refl, Bool.and_self, beq_self_eq_true, pT, samM2, samO1, tkArr_a, ks6, tkRow_r, tkMp_m, tkSNil_n, decide_true, hS2]
  cases hfn : fineB c l.el n q with
  | true =>
    rw [hfn] at k1 hx
    rw [← hx, pT]
    rw [cond_true] at k1
    rw [EL_own (by simp)] at k1
    have e3 := rowG_snoc NP q hne
    rw [List.length_append, List.length_singleton] at k1
    rw [← e3] at k1
    rw [decide_eq_true (show (NP.length + 1) * 24 ≤ 140737488355328 by omega), pT]
    exact k1
  | false =>
    rw [hfn] at k1 hx
    rw [← hx, pF]
    rw [cond_false] at k1
    rw [EL_own (by simpa using hNP), List.append_nil] at k1
    exact k1
 | succ j ih =>
  intro i fu ks h h1 hf hG
  obtain ⟨fu, rfl⟩ : ∃ k, fu = k + 1 := ⟨fu - 1, by omega⟩
  have hq1 := hq.1
  have hir : i < q.length := by omega
  have hi2 := rowOk_at hq hir
  have hwl : (q.take i).length = i := by rw [List.length_take]; omega
  have hS2 : IntKind.i64.wrap ((i : Int) + 1) = ((i + 1 : Nat) : Int) := wrS (by omega)
  have htk : q.take (i + 1) = q.take i ++ [q.getD i 0] := by
   rw [List.take_add_one, List.getElem?_eq_getElem hir, List.getD_eq_getElem?_getD, List.getElem?_eq_getElem hir]; rfl
  have e := ih (i + 1) fu ks (by omega) (by omega) (by omega) hG
  rw [htk, msOf_snoc, ← gl_snoc (e := eStg) (z := z0) (m := l.el (q.getD i 0).toNat) (ms := msOf l.el (q.take i)) (k := i) (by rw [msOf_len, hwl]) rfl] at e
  rw [L33x14s]
  simp (disch := omega) only [decide_eq_true, decide_true, pT, Int.toNat_natCast, gl_int hir, tkCons_c, tkInt_i, hS2]
  exact e
theorem l33x10 (m0 m1 m2 n : Nat) (hn : n ≤ 100) (r : List Int) (PLn : Nat) (PG : Nat → List V) (ix mi : Nat) (hmi : mi < 100000) (NP : List (List Int)) (hNP : NP ≠ []) (hNPl : NP.length ≤ 1000000) (q : List Int) (hq : RowOk l (n + 1) q) (R : Option Out)
  (K : ∀ (sk sa : Nat) (sg : Nat → List V) (p : Int) (ks : List GKey), Gs (lst l.el l.len) ks → EL (E F (d + 17)) F c l w m0 m1 m2 n r PLn PG ix (mi + 1) (NP ++ (bif fineB c l.el n q then [q] else [])) sk sa sg p (encM gK (gV c) ks) = R) (p : Int) :
  ∀ fu ks, q.length < fu → Gs (lst l.el l.len) ks → L33x10 (E F (d + 17)) F c l w m0 m1 m2 fu n NP.length (rb r) r.length (rwd r) (rg r) q.length PLn PLn ix mi q.length q.length c.slices.nl c.slices.len 7 (fun u => eSlc (c.slices.el u)) .i64 c.hold .i64 c.oil .i64 p NP.length (rowG NP) q.length (gl eInt 0 q) PLn PG (encM gK (gV c) ks) = R := by
 intro fu ks hf hG
 obtain ⟨fu, rfl⟩ : ∃ k, fu = k + 1 := ⟨fu - 1, by omega⟩
 have hq1 := hq.1
 have hi2 := rowOk_at hq (k := 0) (by omega)
 have e := l33x14 F d hc hL hl hF w hw m0 m1 m2 n hn r PLn PG ix mi hmi NP hNP hNPl q hq R K p (q.length - 1) 1 fu ks (by omega) (by omega) (by omega) hG
 rw [take1 (show 0 < q.length by omega), show msOf l.el [q.getD 0 0] = [l.el (q.getD 0 0).toNat] from rfl, ← gl_one rfl] at e
 rw [L33x10s]
 simp (disch := omega) only [decide_eq_true, decide_true, pT, gl_int (show 0 < q.length by omega), tkCons_c, tkInt_i, wr (n := 0 + 1), Int.zero_add]
 exact e
theorem l33xE (m0 m1 n : Nat) (hn : n ≤ 10) (r : List Int) (hr : RowOk l n r) (PLn : Nat) (PG : Nat → List V) (ix : Nat) (hix : ix < 100000) (R : Option Out) :
  ∀ j mi fu NP sk sa sg p ks, mi + j = l.len → j < fu → NP.length + j ≤ 1000000 → Gs (lst l.el l.len) ks →
  (∀ (sk sa : Nat) (sg : Nat → List V) (p : Int) (ks : List GKey), Gs (lst l.el l.len) ks → DL (E F (d + 17)) F c l w m0 m1 n PLn PG (ix + 1) (NP ++ nxtE c l.el n r j mi) sk sa sg p (encM gK (gV c) ks) = R) →
  EL (E F (d + 17)) F c l w m0 m1 fu n r PLn PG ix mi NP sk sa sg p (encM gK (gV c) ks) = R := by
 intro j
 induction j with
 | zero =>
  intro mi fu NP sk sa sg p ks h hf hNPl hG K
  obtain ⟨fu, rfl⟩ : ∃ k, fu = k + 1 := ⟨fu - 1, by omega⟩
  have k1 := K sk sa sg p ks hG
  have hS2 : IntKind.i64.wrap ((ix : Int) + 1) = ((ix + 1 : Nat) : Int) := wrS (by omega)
  simp only [nxtE, List.append_nil] at k1
  cases NP with
  | nil =>
   show L33x9 (E F (d + 17)) F c l w m0 m1 (fu + 1) n (rb r) r.length (rwd r) (rg r) PLn PLn ix mi c.slices.nl c.slices.len 7 (fun u => eSlc (c.slices.el u)) .i64 c.hold .i64 c.oil sk .i64 p PLn PG sa sg (encM gK (gV c) ks) = R
   rw [L33x9s, decide_eq_false (by omega), pF, hS2]
   exact k1
  | cons a NP =>
   rw [EL_own (by simp), L33x8s, decide_eq_false (by omega), pF, hS2]
   rw [DL_own (by simp)] at k1
   exact k1
 | succ j ih =>
  intro mi fu NP sk sa sg p ks h hf hNPl hG K
  obtain ⟨fu, rfl⟩ : ∃ k, fu = k + 1 := ⟨fu - 1, by omega⟩
  have hq : RowOk l (n + 1) (r ++ [(mi : Int)]) := ⟨by simp [hr.1], fun x hx => by
   rcases List.mem_append.1 hx with hx | hx
   ·exact hr.2 x hx
   ·rw [List.mem_singleton] at hx; omega⟩
  have K5 : ∀ (sk sa : Nat) (sg : Nat → List V) (p : Int) (ks : List GKey), Gs (lst l.el l.len) ks → EL (E F (d + 17)) F c l w m0 m1 fu n r PLn PG ix (mi + 1) (NP ++ (bif fineB c l.el n (r ++ [(mi : Int)]) then [r ++ [(mi : Int)]] else [])) sk sa sg p (encM gK (gV c) ks) = R := by
   intro sk sa sg p ks hG
   refine ih (mi + 1) fu _ sk sa sg p ks (by omega) (by omega) ?_ hG ?_
   ·rw [List.length_append]
    cases fineB c l.el n (r ++ [(mi : Int)]) <;> simp <;> omega
   ·intro sk sa sg p ks hG
    have := K sk sa sg p ks hG
    rw [nxtE, ← List.append_assoc] at this
    exact this
  cases NP with
   | nil =>
    show L33x9 (E F (d + 17)) F c l w m0 m1 (fu + 1) n (rb r) r.length (rwd r) (rg r) PLn PLn ix mi c.slices.nl c.slices.len 7 (fun u => eSlc (c.slices.el u)) .i64 c.hold .i64 c.oil sk .i64 p PLn PG sa sg (encM gK (gV c) ks) = R
    rw [L33x9s, decide_eq_true (by omega), pT]
    have e5 := l33x5 F d hc hL hl hF w hw m0 m1 fu n (by omega) r PLn PG ix mi (by omega) (r ++ [(mi : Int)]) hq R K5 p F ks (by rw [hq.1]; omega) hG
    cases hr0 : r with
    | nil =>
     rw [hr0] at e5
     simp only [s79n, rb, rwd, rg, List.length_nil, tkHv_h, tkSl_r, Nat.beq_refl, Bool.and_self, pT, tkSNil_n]
     rw [show gl eInt 0 ([] ++ [(mi : Int)]) = fun _ => [V.int .i64 (mi : Int)] from (gl_one rfl).symm] at e5
     exact e5
    | cons b r0 =>
     have hne : r ≠ [] := by rw [hr0]; simp
     rw [← hr0, rb_own hne, rw_own hne, rg_own hne]
     rw [rb_own hne, rw_own hne, rg_own hne, ← gl_snoc (e := eInt) (z := 0) (m := (mi : Int)) (ms := r) (k := r.length) rfl rfl, List.length_append, List.length_singleton] at e5
     simp only [s79o F d r hne (by rw [hr.1]; omega), tkHv_h, tkSl_o, Nat.beq_refl, Bool.and_self, beq_self_eq_true, pT, tkSCons_c, tkSNil_n, tkArr_a]
     rw [decide_eq_true (show (r.length + 1) * 8 ≤ 140737488355328 by rw [hr.1]; omega), pT]
     exact e5
   | cons a NP0 =>
    generalize hN : a :: NP0 = NP at *
    have hNP : NP ≠ [] := by rw [← hN]; simp
    rw [EL_own hNP, L33x8s, decide_eq_true (by omega), pT]
    have e5 := l33x10 F d hc hL hl hF w hw m0 m1 fu n (by omega) r PLn PG ix mi (by omega) NP hNP (by omega) (r ++ [(mi : Int)]) hq R K5 p F ks (by rw [hq.1]; omega) hG
    cases hr0 : r with
    | nil =>
     rw [hr0] at e5
     simp only [s79n, rb, rwd, rg, List.length_nil, tkHv_h, tkSl_r, Nat.beq_refl, Bool.and_self, pT, tkSNil_n]
     rw [show gl eInt 0 ([] ++ [(mi : Int)]) = fun _ => [V.int .i64 (mi : Int)] from (gl_one rfl).symm] at e5
     exact e5
    | cons b r0 =>
     have hne : r ≠ [] := by rw [hr0]; simp
     rw [← hr0, rb_own hne, rw_own hne, rg_own hne]
     rw [rb_own hne, rw_own hne, rg_own hne, ← gl_snoc (e := eInt) (z := 0) (m := (mi : Int)) (ms := r) (k := r.length) rfl rfl, List.length_append, List.length_singleton] at e5
     simp only [s79o F d r hne (by rw [hr.1]; omega), tkHv_h, tkSl_o, Nat.beq_refl, Bool.and_self, beq_self_eq_true, pT, tkSCons_c, tkSNil_n, tkArr_a]
     rw [decide_eq_true (show (r.length + 1) * 8 ≤ 140737488355328 by rw [hr.1]; omega), pT]
     exact e5
theorem l33xD (m0 n : Nat) (hn : n ≤ 10) (PL : List (List Int)) (hPL : ∀ r ∈ PL, RowOk l n r) (hPLl : PL.length ≤ 10000) (R : Option Out) :
  ∀ rest pre fu NP sk sa sg p ks, PL = pre ++ rest → rest.length < fu → NP.length + rest.length * 6 ≤ 1000000 → Gs (lst l.el l.len) ks →
  (∀ (sk sa : Nat) (sg : Nat → List V) (p : Int) (ks : List GKey), Gs (lst l.el l.len) ks → AL (E F (d + 17)) F c l w m0 (n + 1) (NP ++ nextP c l n rest) sk sa sg p (encM gK (gV c) ks) = R) →
  DL (E F (d + 17)) F c l w m0 fu n PL.length (rowG PL) pre.length NP sk sa sg p (encM gK (gV c) ks) = R := by
 intro rest
 induction rest with
 | nil =>
  intro pre fu NP sk sa sg p ks h hf hNPl hG K
  obtain ⟨fu, rfl⟩ : ∃ k, fu = k + 1 := ⟨fu - 1, by omega⟩
  have k1 := K sk sa sg p ks hG
  have hS2 : IntKind.i64.wrap ((n : Int) + 1) = ((n + 1 : Nat) : Int) := wrS (by omega)
  rw [List.append_nil] at h
  subst h
  simp only [nextP, List.flatMap_nil, List.append_nil] at k1
  cases NP with
  | nil =>
   show L33x13 (E F (d + 17)) F c l w m0 (fu + 1) n PL.length PL.length PL.length c.slices.nl c.slices.len 7 (fun u => eSlc (c.slices.el u)) .i64 c.hold .i64 c.oil sk .i64 p PL.length (rowG PL) sa sg (encM gK (gV c) ks) = R
   rw [L33x13s, decide_eq_false (by omega), pF, hS2]
   exact k1
  | cons a NP =>
   rw [DL_own (by simp), L33x12s, decide_eq_false (by omega), pF, hS2]
   rw [AL_own (by simp)] at k1
   exact k1
 | cons r rest ih =>
  intro pre fu NP sk sa sg p ks h hf hNPl hG K
  obtain ⟨fu, rfl⟩ : ∃ k, fu = k + 1 := ⟨fu - 1, by omega⟩
  have hrow := rowG_at h
  have hr : RowOk l n r := hPL r (by rw [h]; simp)
  have hplen : PL.length = pre.length + (rest.length + 1) := by rw [h]; simp
  have k1 : EL (E F (d + 17)) F c l w m0 fu F n r PL.length (rowG PL) pre.length 0 NP sk sa sg p (encM gK (gV c) ks) = R := by
   refine l33xE F d hc hL hl hF w hw m0 fu n hn r hr PL.length (rowG PL) pre.length (by omega) R l.len 0 F NP sk sa sg p ks (by omega) (by omega) (by simp at hNPl; omega) hG ?_
   intro sk sa sg p ks hG
   have e := ih (pre ++ [r]) fu (NP ++ nxtE c l.el n r l.len 0) sk sa sg p ks (by rw [h]; simp) (by simpa using hf) ?_ hG ?_
   ·rw [List.length_append, List.length_singleton] at e
    exact e
   ·have := nxtE_len c l.el n r l.len 0
    rw [List.length_append]
    simp at hNPl
    omega
   ·intro sk sa sg p ks hG
    have := K sk sa sg p ks hG
    rw [show nextP c l n (r :: rest) = nxtE c l.el n r l.len 0 ++ nextP c l n rest from rfl, ← List.append_assoc] at this
    exact this
  cases NP with
  | nil =>
   show L33x13 (E F (d + 17)) F c l w m0 (fu + 1) n PL.length PL.length pre.length c.slices.nl c.slices.len 7 (fun u => eSlc (c.slices.el u)) .i64 c.hold .i64 c.oil sk .i64 p PL.length (rowG PL) sa sg (encM gK (gV c) ks) = R
   rw [L33x13s]
   simp (disch := omega) only [decide_eq_true, decide_true, pT, Int.toNat_natCast, hrow, rowE, tkCons_c, tkRow_r]
   exact k1
  | cons a NP =>
   rw [EL_own (by simp)] at k1
   rw [DL_own (by simp), L33x12s]
   simp (disch := omega) only [decide_eq_true, decide_true, pT, Int.toNat_natCast, hrow, rowE, tkCons_c, tkRow_r]
   exact k1
end
end Go.Sim.Le


namespace Go.Sim.Le
open Go.Proofs
variable (F d : Nat)
abbrev PN (c : Cav) (p : Int) (es : List (V × V)) : List Slot := [.box 124 [sl eSlc 7 c.slices, .int .i64 c.hold, .int .i64 c.oil, .row true 0 0 (fun _ => []), .int .i64 p, .mapr 1] true, .mp true K6 es true]
theorem s1063 {c : Cav} (hc : CavOk c) (p : Int) (es : List (V × V)) (x y : Int) (hx : 0 ≤ x ∧ x ≤ 2) (hF : 400 < F) :
  (E F (d + 15)).hv 106 [.optr 0 0 0, .int .i64 ((0 : Nat) : Int), .agg [.int .i64 x, .int .i64 y]] (PN c p es) = some (.ret (.agg (eSpan (firstS c (meaS c x y) c.slices.len))), PN c p es) := by
 have hcl := hc.1
 obtain ⟨F, rfl⟩ : ∃ k, F = k + 1 := ⟨F - 1, by omega⟩
 have e7 := s113 (F + 1) (d + 13) c (by omega) x y hx hF
 have e8 := s92 (F + 1) (d + 12) c hc (meaS c x y) (meaOk c x y) (by omega)
 simp only [eMea] at e7 e8
 rw [E_hv, t1063]
 simp (disch := omega) only [e7, e8, tkOut_ret, tkAgg_a, tkCons_c, tkInt_i, tkRow_r, tkNil_n, pT, decide_eq_true, decide_true, Int.toNat_natCast]
 rw [L1063x0s, decide_eq_false (by simp), pF]
theorem l783 {c : Cav} (hc : CavOk c) (l : Nat → Stg) (p : Int) (w : Sl Int) (hw : w.len ≤ c.slices.len) (hF : 400 < F) (es0 : List (V × V)) (es : List (V × V)) : ∀ j i fu, i + j = w.len → j < fu →
  L783x0 (E F (d + 15)) F c p es0 w fu i es = some (.ret (.bool (allF (fun i => decide (w.el i ≤ (boundS c l (meaS c 2 i) 0).lo)) j i)), PN c p es) := by
 have hcl := hc.1
 intro j
 induction j with
 | zero =>
  intro i fu h hf
  obtain ⟨fu, rfl⟩ : ∃ k, fu = k + 1 := ⟨fu - 1, by omega⟩
  rw [L783x0s, decide_eq_false (by omega), pF]
  rfl
 | succ j ih =>
  intro i fu h hf
  obtain ⟨fu, rfl⟩ : ∃ k, fu = k + 1 := ⟨fu - 1, by omega⟩
  have e1 := s1063 F d hc p es 2 i (by omega) hF
  have e2 := ih (i + 1) fu (by omega) (by omega)
  have hS2 : IntKind.i64.wrap ((i : Int) + 1) = ((i + 1 : Nat) : Int) := wrS (by omega)
  rw [L783x0s]
  simp (disch := omega) only [decide_eq_true, decide_true, pT, Int.toNat_natCast, hS2]
  simp only [e1, tkHv_h, tkAgg_a, tkTup_t, tkCons_c, tkInt_i, tkBool_b, tkNil_n, tkSCons_c, tkBox_b, Nat.beq_refl, Bool.and_self, beq_self_eq_true, pT, samM1, ks6, tkRow_r, tkMp_m, tkSNil_n, tkSame_s, decide_true]
  by_cases hw : (boundS c l (meaS c 2 i) 0).lo < w.el i
  ·rw [decide_eq_true (show (firstS c (meaS c 2 i) c.slices.len).lo < w.el i from hw), pT]
   simp only [allF, decide_eq_false (show ¬ w.el i ≤ _ from Int.not_le.2 hw), Bool.false_and]
  ·rw [decide_eq_false (show ¬ (firstS c (meaS c 2 i) c.slices.len).lo < w.el i from hw), pF]
   simp only [allF, decide_eq_true (Int.not_lt.1 hw), Bool.true_and]
   exact e2
theorem s783 {c : Cav} (hc : CavOk c) (l : Nat → Stg) (p : Int) (w : Sl Int) (hw : w.len ≤ c.slices.len) (hF : 400 < F) (es : List (V × V)) :
  (E F (d + 17)).hv 78 [.optr 0 0 0, sl eInt 1 w] (PN c p es) = some (.ret (.bool (makesB c l w [])), PN c p es) := by
 have hcl := hc.1
 have e := l783 F (d + 1) hc (stgF (msOf l [])) p w hw hF es es w.len 0 F (by omega) (by omega)
 rw [show d + 17 = (d + 16) + 1 from rfl, E_hv, t783]
 exact e
section
variable {c : Cav} (hc : CavOk c) {l : Sl Stg} (hL : l.len ≤ 6) (hl : ∀ i, i < l.len → StgOk c.slices.len (l.el i)) (hF : 100000 < F) (w : Sl Int) (hw : w.len ≤ c.slices.len)
include hc hL hl hF hw
theorem l33x17 (n : Nat) (hn : 1 ≤ n ∧ n ≤ 5) (PL : List (List Int)) (hPL : ∀ r ∈ PL, RowOk l n r) (hPLl : PL.length ≤ 10000) (m0 : Nat) (Rn : Out) (h5 : n = 5 → Rn = planOut none) :
  ∀ rest pre acc fu sk sa sg p ks, PL = pre ++ rest → rest.length < fu → Gs (lst l.el l.len) ks → (∀ b a, acc = some (b, a) → 0 ≤ a) →
  (rest.foldl (bestA c l.el w) acc = none → n ≠ 5 → ∀ (sk sa : Nat) (sg : Nat → List V) (p : Int) (ks : List GKey), Gs (lst l.el l.len) ks → L33x13 (E F (d + 17)) F c l w m0 F n PL.length PL.length 0 c.slices.nl c.slices.len 7 (fun u => eSlc (c.slices.el u)) .i64 c.hold .i64 c.oil sk .i64 p PL.length (rowG PL) sa sg (encM gK (gV c) ks) = some Rn) →
  L33x17 (E F (d + 17)) F c l w m0 fu PL.length n (rb (aR acc)) (aR acc).length (rwd (aR acc)) (rg (aR acc)) (aL acc) PL.length PL.length pre.length c.slices.nl c.slices.len 7 (fun u => eSlc (c.slices.el u)) .i64 c.hold .i64 c.oil sk .i64 p PL.length (rowG PL) sa sg (encM gK (gV c) ks)
   = some (match rest.foldl (bestA c l.el w) acc with | some (b, _) => planOut (some b) | none => Rn) := by
 intro rest
 induction rest with
 | nil =>
  intro pre acc fu sk sa sg p ks h hf hG hacc K
  obtain ⟨fu, rfl⟩ : ∃ k, fu = k + 1 := ⟨fu - 1, by omega⟩
  rw [List.append_nil] at h
  subst h
  rw [L33x17s, decide_eq_false (by omega), pF]
  cases hac : acc with
  | some ba =>
   obtain ⟨b, a⟩ := ba
   rw [show aL (some (b, a)) = a from rfl, decide_eq_true (hacc b a hac), pT]
   rfl
  | none =>
   rw [show aL none = -1 from rfl, decide_eq_false (by omega), pF]
   by_cases hn5 : n = 5
   ·rw [show ((n : Int) == 5) = true by rw [beq_iff_eq]; omega, pT]
    show _ = some Rn
    rw [h5 hn5]; rfl
   ·rw [show ((n : Int) == 5) = false by rw [beq_eq_false_iff_ne]; omega, pF]
    exact K (by rw [hac]; rfl) hn5 sk sa sg p ks hG
 | cons r rest ih =>
  intro pre acc fu sk sa sg p ks h hf hG hacc K
  obtain ⟨fu, rfl⟩ : ∃ k, fu = k + 1 := ⟨fu - 1, by omega⟩
  have hrow := rowG_at h
  have hr : RowOk l n r := hPL r (by rw [h]; simp)
  have hplen : PL.length = pre.length + (rest.length + 1) := by rw [h]; simp
  have hr1 := hr.1
  have hne : r ≠ [] := fun e => by rw [e] at hr1; simp at hr1; omega
  have hir : 0 < r.length := by omega
  have hi2 := rowOk_at hr hir
  have hws := (hl (r.getD 0 0).toNat (by omega)).1
  have hacc' : ∀ b a, bestA c l.el w acc r = some (b, a) → 0 ≤ a := by
   intro b a hb
   have hwt := (watS_in hl r hr.2).1
   unfold bestA at hb
   cases hmk : makesB c l.el w r with
   | false => rw [hmk, cond_false] at hb; exact hacc b a hb
   | true =>
    rw [hmk, cond_true] at hb
    cases hac : acc with
    | none => rw [hac] at hb; injection hb with hb; injection hb with _ hb; omega
    | some ba =>
     obtain ⟨b', a'⟩ := ba
     rw [hac] at hb
     have hb' : (bif decide (watS l.el r < a') then some (r, watS l.el r) else some (b', a')) = some (b, a) := hb
     cases hd : decide (watS l.el r < a') with
     | true => rw [hd, cond_true] at hb'; injection hb' with hb'; injection hb' with _ hb'; omega
     | false => rw [hd, cond_false] at hb'; injection hb' with hb'; injection hb' with _ hb'; have := hacc b' a' hac; omega
  obtain ⟨F, rfl⟩ : ∃ k, F = k + 1 := ⟨F - 1, by omega⟩
  have e := l33x20 (F + 1) d hc (by omega) hl hF w hw m0 fu n (by omega) PL.length (rowG PL) acc r hr pre.length (by omega) p (some (match (r :: rest).foldl (bestA c l.el w) acc with | some (b, _) => planOut (some b) | none => Rn)) (fun p ks hG => by
   have := ih (pre ++ [r]) (bestA c l.el w acc r) fu r.length r.length (fun i => eStg (stgF (msOf l.el r) i)) p ks (by rw [h]; simp) (by simpa using hf) hG hacc' K
   rw [List.length_append, List.length_singleton] at this
   exact this) hacc (n - 1) 1 F ks (by omega) (by omega) (by omega) hG
  rw [take1 hir, show msOf l.el [r.getD 0 0] = [l.el (r.getD 0 0).toNat] from rfl, ← gl_one rfl, show watS l.el [r.getD 0 0] = (l.el (r.getD 0 0).toNat).water by simp [watS]] at e
  rw [L33x17s]
  simp (disch := omega) only [decide_eq_true, decide_true, pT, Int.toNat_natCast, hrow, rowE, tkCons_c, tkRow_r]
  rw [rb_own hne, rw_own hne, rg_own hne, L33x2s]
  simp (disch := omega) only [decide_eq_true, decide_true, pT, Int.toNat_natCast, show ((1 : Nat) == 1) = true from rfl, gl_int hir, tkCons_c, tkInt_i, Int.zero_add, wr]
  rw [hr1]
  exact e
theorem nextP_pow {n : Nat} {PL : List (List Int)} (h : PL.length ≤ 6 ^ n) : (nextP c l n PL).length ≤ 6 ^ (n + 1) := by
 have h1 := nextP_len c l n PL
 have h2 : PL.length * l.len ≤ 6 ^ n * 6 := Nat.mul_le_mul h hL
 rw [Nat.pow_succ]
 omega
theorem l33xA : ∀ t n fu NP sk sa sg p ks, n + t = 5 → 1 ≤ n → t < fu → NP.length ≤ 6 ^ n → (∀ r ∈ NP, RowOk l n r) → Gs (lst l.el l.len) ks →
  AL (E F (d + 17)) F c l w fu n NP sk sa sg p (encM gK (gV c) ks) = some (planOut (planF c l w t n NP)) := by
 intro t
 induction t with
 | zero =>
  intro n fu NP sk sa sg p ks h h1 hf hlen hPL hG
  obtain ⟨fu, rfl⟩ : ∃ k, fu = k + 1 := ⟨fu - 1, by omega⟩
  have hn : n = 5 := by omega
  subst hn
  cases NP with
  | nil =>
   show L33x16 (E F (d + 17)) F c l w (fu + 1) (5 : Nat) c.slices.nl c.slices.len 7 (fun u => eSlc (c.slices.el u)) .i64 c.hold .i64 c.oil sk .i64 p sa sg (encM gK (gV c) ks) = _
   obtain ⟨F, rfl⟩ : ∃ k, F = k + 1 := ⟨F - 1, by omega⟩
   rw [L33x16s, L33x18s]
   rfl
  | cons a NP =>
   rw [AL_own (by simp), L33x15s]
   generalize a :: NP = PL at *
   have e := l33x17 F d hc hL hl hF w hw 5 (by omega) PL hPL (by omega) fu (planOut none) (fun _ => rfl) PL [] none F sk sa sg p ks rfl (by omega) hG (fun _ _ h => by cases h) (fun _ h => (h rfl).elim)
   refine Eq.trans e ?_
   unfold planF
   cases PL.foldl (bestA c l.el w) none with
   | none => rfl
   | some ba => rfl
 | succ t ih =>
  intro n fu NP sk sa sg p ks h h1 hf hlen hPL hG
  obtain ⟨fu, rfl⟩ : ∃ k, fu = k + 1 := ⟨fu - 1, by omega⟩
  have hpow : 6 ^ n ≤ 6 ^ 4 := Nat.pow_le_pow_right (by omega) (by omega)
  have hpow' : (6 : Nat) ^ 4 = 1296 := rfl
  cases hNP : NP with
  | nil =>
   show L33x16 (E F (d + 17)) F c l w (fu + 1) n c.slices.nl c.slices.len 7 (fun u => eSlc (c.slices.el u)) .i64 c.hold .i64 c.oil sk .i64 p sa sg (encM gK (gV c) ks) = _
   have e := ih (n + 1) fu [] sk sa sg p ks (by omega) (by omega) (by omega) (by simp) (by simp) hG
   have hS2 : IntKind.i64.wrap ((n : Int) + 1) = ((n + 1 : Nat) : Int) := wrS (by omega)
   obtain ⟨F, rfl⟩ : ∃ k, F = k + 1 := ⟨F - 1, by omega⟩
   rw [L33x16s, L33x18s, show ((n : Int) == 5) = false by rw [beq_eq_false_iff_ne]; omega, pF, L33x19s, hS2]
   exact e
  | cons a NP0 =>
   rw [AL_own (by simp), L33x15s]
   rw [← hNP]
   have e := l33x17 F d hc hL hl hF w hw n (by omega) NP hPL (by omega) fu (planOut (planF c l w t (n + 1) (nextP c l n NP))) (fun h => by omega) NP [] none F sk sa sg p ks rfl (by omega) hG (fun _ _ h => by cases h) (fun _ _ sk sa sg p ks hG => by
    have eD := l33xD F d hc hL hl hF w hw fu n (by omega) NP hPL (by omega) (some (planOut (planF c l w t (n + 1) (nextP c l n NP)))) NP [] F [] sk sa sg p ks rfl (by omega) (by simp; omega) hG (fun sk sa sg p ks hG => by
     rw [List.nil_append]
     exact ih (n + 1) fu (nextP c l n NP) sk sa sg p ks (by omega) (by omega) (by omega) (nextP_pow F hc hL hl hF w hw hlen) (nextP_ok hPL) hG)
    exact eD)
   refine Eq.trans e ?_
   rw [show planF c l w (t + 1) n NP = (match NP.foldl (bestA c l.el w) none with | some (b, _) => some b | none => planF c l w t (n + 1) (nextP c l n NP)) from rfl]
   cases NP.foldl (bestA c l.el w) none with
   | none => rfl
   | some ba => rfl
def planX (c : Cav) (l : Sl Stg) (w : Sl Int) : Option (List Int) := planF c l w 5 0 [[]]
theorem l33x0 (hl0 : 1 ≤ l.len) : L33x0 (E F (d + 17)) F c l w F 1 0 c.slices.nl c.slices.len 7 (fun u => eSlc (c.slices.el u)) .i64 c.hold .i64 c.oil true 0 0 (fun _ => []) .i64 0 1 (fun _ => [.row true 0 0 (fun _ => [])]) [] = some (planOut (planX c l w)) := by
 obtain ⟨F, rfl⟩ : ∃ k, F = k + 1 := ⟨F - 1, by omega⟩
 have hG0 : Gs (lst l.el l.len) [] := ⟨List.nodup_nil, by simp⟩
 have e78 := s783 (F + 1) d hc l.el 0 w hw (by omega) []
 have hfold : [[]].foldl (bestA c l.el w) none = bif makesB c l.el w [] then some ([], 0) else none := by
  show bestA c l.el w none [] = _
  unfold bestA
  cases makesB c l.el w [] <;> rfl
 have hplan : planX c l w = bif makesB c l.el w [] then some [] else planF c l w 4 1 (nextP c l 0 [[]]) := by
  show (match [[]].foldl (bestA c l.el w) none with | some (b, _) => some b | none => planF c l w 4 1 (nextP c l 0 [[]])) = _
  rw [hfold]
  cases makesB c l.el w [] <;> rfl
 rw [hplan]
 obtain ⟨F, rfl⟩ : ∃ k, F = k + 1 := ⟨F - 1, by omega⟩
 rw [L33x0s, L33x1s]
 simp (disch := omega) only [decide_eq_true, decide_true, pT, tkCons_c, tkRow_r]
 rw [L33x2s, decide_eq_false (by omega), pF]
 simp only [PN] at e78
 simp only [e78, tkHv_h, tkAgg_a, tkTup_t, tkCons_c, tkInt_i, tkBool_b, tkNil_n, tkSCons_c, tkBox_b, Nat.beq_refl, Bool.and_self, beq_self_eq_true, pT, samM1, ks6, tkRow_r, tkMp_m, tkSNil_n, tkSame_s, decide_true, samM1]
 cases hmk : makesB c l.el w [] with
 | true =>
  rw [Bool.not_true, pF, decide_eq_true (by omega), pT, L33x1s, decide_eq_false (by rw [wr (by omega)]; omega), pF, decide_eq_true (by omega), pT]
  rfl
 | false =>
  rw [Bool.not_false, pT, L33x1s, decide_eq_false (by rw [wr (by omega)]; omega), pF, decide_eq_false (by omega), pF, show ((0 : Int) == 5) = false from rfl, pF, L33x3s]
  simp (disch := omega) only [decide_eq_true, decide_true, pT, tkCons_c, tkRow_r]
  rw [L33x4s, decide_eq_true (by omega), pT]
  simp only [s79n, tkHv_h, tkSl_r, Nat.beq_refl, Bool.and_self, pT, tkSNil_n]
  have hq : RowOk l (0 + 1) ([(0 : Int)]) := ⟨rfl, fun x hx => by rw [List.mem_singleton] at hx; omega⟩
  have hr0 : RowOk l 0 [] := ⟨rfl, by simp⟩
  have hPL0 : ∀ r ∈ ([[]] : List (List Int)), RowOk l 0 r := fun r hr => by rw [List.mem_singleton] at hr; rw [hr]; exact hr0
  have e5 := l33x5 (F + 1 + 1) d hc hL hl hF w hw (F + 1) (F + 1) (F + 1) 0 (by omega) [] 1 (rowG [[]]) 0 0 (by omega) [(0 : Int)] hq (some (planOut (planF c l w 4 1 (nextP c l 0 [[]])))) (fun sk sa sg p ks hG => by
   refine l33xE (F + 1 + 1) d hc hL hl hF w hw (F + 1) (F + 1) 0 (by omega) [] hr0 1 (rowG [[]]) 0 (by omega) _ (l.len - 1) 1 (F + 1) _ sk sa sg p ks (by omega) (by omega) ?_ hG ?_
   ·cases fineB c l.el 0 [(0 : Int)] <;> simp <;> omega
   ·intro sk sa sg p ks hG
    have hnx : ([] ++ (bif fineB c l.el 0 [(0 : Int)] then [[(0 : Int)]] else [])) ++ nxtE c l.el 0 [] (l.len - 1) 1 = nextP c l 0 [[]] := by
     obtain ⟨m, hm⟩ : ∃ m, l.len = m + 1 := ⟨l.len - 1, by omega⟩
     unfold nextP
     rw [List.flatMap_cons, List.flatMap_nil, List.append_nil, hm]
     rfl
    have eD := l33xD (F + 1 + 1) d hc hL hl hF w hw (F + 1) 0 (by omega) [[]] hPL0 (by simp) (some (planOut (planF c l w 4 1 (nextP c l 0 [[]])))) [] [[]] (F + 1) (nextP c l 0 [[]]) sk sa sg p ks rfl (by simp) ?_ hG (fun sk sa sg p ks hG => by
     rw [show nextP c l 0 [] = [] from rfl, List.append_nil]
     refine l33xA (F + 1 + 1) d hc hL hl hF w hw 4 1 (F + 1) (nextP c l 0 [[]]) sk sa sg p ks (by omega) (by omega) (by omega) ?_ (nextP_ok hPL0) hG
     have := nextP_len c l 0 [[]]
     simp at this
     simp
     omega)
    ·rw [hnx]
     exact eD
    ·have := nextP_len c l 0 [[]]
     simp at this
     simp
     omega) 0 (F + 1 + 1) [] (by simp) hG0
  simp only [rb, rwd, rg, List.length_nil, List.length_singleton, encM, List.map, show gl eInt 0 [(0 : Int)] = fun _ => [V.int .i64 (0 : Int)] from (gl_one rfl).symm, show rowG [[]] = fun _ => [V.row true 0 0 fun _ => []] from (gl_one rfl).symm] at e5
  exact e5
end
theorem errM_0 {c : Cav} {l : Sl Stg} {w : Sl Int} : errM c l w = 0 ↔ l.len ≤ 6 ∧ CavOk c ∧ 1 ≤ l.len ∧ (∀ i, i < l.len → StgOk c.slices.len (l.el i)) ∧ WantOk c w := by
 unfold errM
 split
 ·exact ⟨fun h => by omega, fun h => by omega⟩
 ·split
  ·rename_i h1 h2
   exact ⟨fun _ => ⟨by omega, h2.1, by omega, h2.2.2.1, h2.2.2.2⟩, fun _ => rfl⟩
  ·rename_i h1 h2
   exact ⟨fun h => by omega, fun h => (h2 ⟨h.2.1, by omega, h.2.2.2.1, h.2.2.2.2⟩).elim⟩
theorem s33 (c : Cav) (l : Sl Stg) (w : Sl Int) (hC : c.slices.len < Big) (hCF : c.slices.len < F) (hB : l.len < Big) (hLF : l.len < F) (hW : w.len < Big) (hWF : w.len < F) (hF : 100000 < F) :
  (E F (d + 18)).pf 33 [.agg (eCav c), sl eStg 4 l, sl eInt 1 w] = some (if errM c l w = 0 then planOut (planX c l w) else .ret (.tup [.row true 0 0 (fun _ => []), .int .i64 (errM c l w)])) := by
 rw [E_pf, t33]
 simp only [s77 F (d + 10) c l w hC hCF hB hLF hW hWF, tkOut_ret, tkInt_i, decide_true, pT]
 by_cases h0 : errM c l w = 0
 ·rw [h0, show ((0 : Int) != 0) = false from rfl, pF]
  obtain ⟨h6, hc, h1, hl, hw⟩ := errM_0.1 h0
  rw [if_pos rfl]
  exact l33x0 F d hc h6 hl hF w (by rw [hw.2]; exact Nat.le_refl _) h1
 ·have e1 : (errM c l w != 0) = true := by simpa using h0
  rw [e1, pT, if_neg h0]
end Go.Sim.Le


namespace Go.Sim.Le
open Go.Proofs
def gcdI (a b : Int) : Int := ((Nat.gcd a.toNat b.toNat : Nat) : Int)
theorem gcdI_zero {a : Int} (h : 0 ≤ a) : gcdI a 0 = a := by
 unfold gcdI
 rw [Int.toNat_zero, Nat.gcd_zero_right]
 omega
theorem gcdI_comm (a b : Int) : gcdI a b = gcdI b a := by unfold gcdI; rw [Nat.gcd_comm]
theorem gcdI_mod {a b : Int} (ha : 0 ≤ a) (hb : 0 ≤ b) : gcdI a b = gcdI b (a % b) := by
 unfold gcdI
 rw [Int.toNat_emod ha hb, Nat.gcd_comm, Nat.gcd_rec, Nat.gcd_comm]
theorem gcdI_pos {a b : Int} (h : 0 < b) : 0 < gcdI a b := by
 unfold gcdI
 have := Nat.gcd_pos_of_pos_right a.toNat (n := b.toNat) (by omega)
 omega
theorem gcdI_dvd {a b : Int} (ha : 0 ≤ a) (hb : 0 ≤ b) : gcdI a b ∣ a ∧ gcdI a b ∣ b := by
 unfold gcdI
 have h1 := Int.ofNat_dvd.2 (Nat.gcd_dvd_left a.toNat b.toNat)
 have h2 := Int.ofNat_dvd.2 (Nat.gcd_dvd_right a.toNat b.toNat)
 rw [Int.toNat_of_nonneg ha] at h1
 rw [Int.toNat_of_nonneg hb] at h2
 exact ⟨h1, h2⟩
theorem gcdI_mul {w a b : Int} (hw : 0 ≤ w) (ha : 0 ≤ a) (hb : 0 ≤ b) : gcdI (w * a) (w * b) = w * gcdI a b := by
 unfold gcdI
 rw [Int.toNat_mul hw ha, Int.toNat_mul hw hb, Nat.gcd_mul_left]
 rw [Int.natCast_mul, Int.toNat_of_nonneg hw]
def fracF (x y : Int) : Int × Int := (x / gcdI x y, y / gcdI x y)
theorem fracF_mul {w a b : Int} (hw : 0 < w) (ha : 0 ≤ a) (hb : 0 < b) : fracF (w * a) (w * b) = fracF a b := by
 unfold fracF
 rw [gcdI_mul (by omega) ha (by omega), Int.mul_ediv_mul_of_pos _ _ hw, Int.mul_ediv_mul_of_pos _ _ hw]
theorem div_in {x g : Int} (hx : 0 ≤ x) (hg : 0 < g) : 0 ≤ x / g ∧ x / g ≤ x := ⟨Int.ediv_nonneg hx (by omega), Int.ediv_le_self g hx⟩
theorem fracF_eq {a b x y : Int} (ha : 0 ≤ a) (hb : 0 < b) (hx : 0 ≤ x) (hy : 0 < y) (h : a * y = x * b) : fracF a b = fracF x y := by
 rw [← fracF_mul hy ha hb, ← fracF_mul hb hx hy, Int.mul_comm y a, h, Int.mul_comm y b, Int.mul_comm b x]
theorem fracF_le {a b x y : Int} (ha : 0 ≤ a) (hb : 0 < b) (hx : 0 ≤ x) (hy : 0 < y) : (fracF a b).1 * (fracF x y).2 ≤ (fracF x y).1 * (fracF a b).2 ↔ a * y ≤ x * b := by
 obtain ⟨⟨a', e1⟩, b', e2⟩ := gcdI_dvd ha (by omega : 0 ≤ b)
 obtain ⟨⟨x', e3⟩, y', e4⟩ := gcdI_dvd hx (by omega : 0 ≤ y)
 have g1 := gcdI_pos (a := a) hb
 have g2 := gcdI_pos (a := x) hy
 unfold fracF
 generalize gcdI a b = g at *
 generalize gcdI x y = k at *
 simp only
 have f1 : a / g = a' := by rw [e1]; exact Int.mul_ediv_cancel_left _ (by omega)
 have f2 : b / g = b' := by rw [e2]; exact Int.mul_ediv_cancel_left _ (by omega)
 have f3 : x / k = x' := by rw [e3]; exact Int.mul_ediv_cancel_left _ (by omega)
 have f4 : y / k = y' := by rw [e4]; exact Int.mul_ediv_cancel_left _ (by omega)
 rw [f1, f2, f3, f4]
 have e5 : a * y = (g * k) * (a' * y') := by rw [e1, e4, Int.mul_assoc, Int.mul_assoc, Int.mul_left_comm a' k y']
 have e6 : x * b = (g * k) * (x' * b') := by rw [e2, e3, Int.mul_comm g k, Int.mul_assoc, Int.mul_assoc, Int.mul_left_comm x' g b']
 rw [e5, e6]
 exact (Int.mul_le_mul_left (Int.mul_pos g1 g2)).symm
variable (F d : Nat)
theorem s112 (d : Nat) : ∀ (n : Nat) (a b : Int), 0 ≤ a → 0 ≤ b → b < 2 ^ n → (E F (d + 2 * n + 2)).pf 112 [.int .i64 a, .int .i64 b] = some (.ret (.int .i64 (gcdI a b))) := by
 intro n
 induction n with
 | zero =>
  intro a b ha hb hlt
  have hb0 : b = 0 := by simp at hlt; omega
  subst hb0
  rw [E_pf, t112, gcdI_zero ha]; rfl
 | succ n ih =>
  intro a b ha hb hlt
  by_cases hb0 : b = 0
  ·subst hb0
   rw [show d + 2 * (n + 1) + 2 = (d + 2 * n + 3) + 1 by omega, E_pf, t112, gcdI_zero ha]; rfl
  ·have hr0 : 0 ≤ a % b := Int.emod_nonneg a hb0
   have hr1 : a % b < b := Int.emod_lt_of_pos a (by omega)
   rw [show d + 2 * (n + 1) + 2 = (d + 2 * n + 3) + 1 by omega, E_pf, t112]
   rw [show (b == 0) = false by rw [beq_eq_false_iff_ne]; exact hb0, pF, decide_eq_false hb0, pF, Int.tmod_eq_emod_of_nonneg ha]
   have key : (E F (d + 2 * n + 3)).pf 112 [.int .i64 b, .int .i64 (a % b)] = some (.ret (.int .i64 (gcdI b (a % b)))) := by
    by_cases hr : a % b = 0
    ·rw [hr, show d + 2 * n + 3 = (d + 2 * n + 2) + 1 by omega, E_pf, t112, gcdI_zero hb]; rfl
    ·have hs0 : 0 ≤ b % (a % b) := Int.emod_nonneg b hr
     have hs1 : b % (a % b) < a % b := Int.emod_lt_of_pos b (by omega)
     have hs2 : 2 * (b % (a % b)) < b + 1 := by
      have h1 := Int.emod_add_mul_ediv b (a % b)
      have h2 : 1 ≤ b / (a % b) := by
       exact Int.le_ediv_of_mul_le (by omega) (by omega)
      have h3 : (a % b) * 1 ≤ (a % b) * (b / (a % b)) := Int.mul_le_mul_of_nonneg_left h2 hr0
      omega
     have e := ih (a % b) (b % (a % b)) hr0 hs0 (by rw [Int.pow_succ] at hlt; omega)
     rw [show d + 2 * n + 3 = (d + 2 * n + 2) + 1 by omega, E_pf, t112]
     rw [show (a % b == 0) = false by rw [beq_eq_false_iff_ne]; exact hr, pF, decide_eq_false hr, pF, Int.tmod_eq_emod_of_nonneg hb, e]
     simp only [tkOut_ret, tkInt_i]
     rw [← gcdI_mod hb hr0]
   rw [key]
   simp only [tkOut_ret, tkInt_i]
   rw [← gcdI_mod ha hb]
theorem s100 (d n : Nat) (x y : Int) (hx : 0 ≤ x) (hy : 0 < y) (hn : y < 2 ^ n) (hx2 : x ≤ 9223372036854775807) (hy2 : y ≤ 9223372036854775807) : (E F (d + 2 * n + 3)).pf 100 [.int .i64 x, .int .i64 y] = some (.ret (.agg [.int .i64 (fracF x y).1, .int .i64 (fracF x y).2])) := by
 have hg := gcdI_pos (a := x) hy
 have h1 := div_in hx hg
 have h2 := div_in (Int.le_of_lt hy) hg
 rw [show d + 2 * n + 3 = (d + 2 * n + 2) + 1 from rfl, E_pf, t100, s112 F d n x y hx (by omega) hn]
 simp only [tkOut_ret, tkInt_i, decide_true, pT]
 rw [decide_eq_false (by omega), pF, pF, Int.tdiv_eq_ediv_of_nonneg hx, Int.tdiv_eq_ediv_of_nonneg (by omega), wr (by omega), wr (by omega)]
 rfl
theorem l69 (x y : Int) (hx : 0 ≤ x) (hy : 0 < y) (hx2 : x ≤ 9223372036854775807) (hy2 : y ≤ 9223372036854775807) : ∀ (fu : Nat) (a b : Int), 0 ≤ a → 0 ≤ b → b < fu → gcdI a b = gcdI x y →
  L69x0 (E F d) F x y fu a b = some (.ret (.agg [.int .i64 (fracF x y).1, .int .i64 (fracF x y).2])) := by
 intro fu
 induction fu with
 | zero => intro a b ha hb h; omega
 | succ fu ih =>
  intro a b ha hb h hg
  rw [L69x0s]
  by_cases hb0 : b = 0
  ·subst hb0
   rw [gcdI_zero ha] at hg
   have hgp := gcdI_pos (a := x) hy
   have h1 := div_in hx hgp
   have h2 := div_in (Int.le_of_lt hy) hgp
   rw [show ((0 : Int) != 0) = false from rfl, pF, decide_eq_false (by omega), pF, pF, Int.tdiv_eq_ediv_of_nonneg hx, Int.tdiv_eq_ediv_of_nonneg (by omega), hg, wr (by omega), wr (by omega)]
   rfl
  ·have hr0 : 0 ≤ a % b := Int.emod_nonneg a hb0
   have hr1 : a % b < b := Int.emod_lt_of_pos a (by omega)
   rw [show (b != 0) = true by simpa using hb0, pT, decide_eq_false hb0, pF, Int.tmod_eq_emod_of_nonneg ha]
   exact ih b (a % b) hb hr0 (by omega) (by rw [← gcdI_mod ha hb]; exact hg)
theorem s69 (d : Nat) (x y : Int) (hx : 0 ≤ x) (hy : 0 < y) (hF : x < F) (hx2 : x ≤ 9223372036854775807) (hy2 : y ≤ 9223372036854775807) : (E F (d + 1)).pf 69 [.int .i64 x, .int .i64 y] = some (.ret (.agg [.int .i64 (fracF x y).1, .int .i64 (fracF x y).2])) := by
 rw [E_pf, t69]
 exact l69 F d x y hx hy hx2 hy2 F y x (by omega) hx hF (gcdI_comm _ _)
end Go.Sim.Le


namespace Go.Sim.Le
open Go.Proofs
def oAt (c : Cav) (s : Stg) (k : Nat) : Int := (slAt c s k).opn - (slAt c s k).fall
inductive Reach (c : Cav) (s : Stg) : Nat → Int → Int → Prop where
 | zero : Reach c s 0 0 0
 | step {k h r n} : Reach c s k h r → min (slAt c s k).rate.lo (c.hold - h) ≤ n → n ≤ min (slAt c s k).rate.hi (c.hold - h) → Reach c s (k + 1) (h + n) (r + n * oAt c s k)
def lowT (c : Cav) (s : Stg) : Nat → Int × Int
 | 0 => (0, 0)
 | k + 1 => ((lowT c s k).1 + min (slAt c s k).rate.lo (c.hold - (lowT c s k).1), (lowT c s k).2 + min (slAt c s k).rate.lo (c.hold - (lowT c s k).1) * oAt c s k)
def highT (c : Cav) (s : Stg) : Nat → Int × Int
 | 0 => (0, 0)
 | k + 1 => ((highT c s k).1 + min (slAt c s k).rate.hi (c.hold - (highT c s k).1), (highT c s k).2 + min (slAt c s k).rate.hi (c.hold - (highT c s k).1) * oAt c s k)
def numOf (c : Cav) (h r : Int) : Int := 1000000 * h - c.hold * r
def denOf (r : Int) : Int := 1000000 - r
section
variable {c : Cav} (hc : CavOk c) {s : Stg} (hs : StgOk c.slices.len s)
include hc hs
theorem rate_at {k : Nat} (h : k < pathN s) : 0 ≤ (slAt c s k).rate.lo ∧ (slAt c s k).rate.lo ≤ (slAt c s k).rate.hi ∧ (slAt c s k).rate.hi ≤ 300 ∧ 1 ≤ oAt c s k ∧ oAt c s k ≤ 3000 := by
 obtain ⟨_, h1, h2, h3, _⟩ := slcOk_at hc hs h
 unfold SpanIn at h3
 unfold oAt
 omega
theorem mulo {k : Nat} (h : k < pathN s) {n : Int} (hn : 0 ≤ n) : n ≤ n * oAt c s k ∧ n * oAt c s k ≤ 3000 * n := by
 have ho := rate_at hc hs h
 have h1 := Int.mul_le_mul_of_nonneg_left ho.2.2.2.1 hn
 have h2 := Int.mul_le_mul_of_nonneg_left ho.2.2.2.2 hn
 omega
theorem reach_in {k : Nat} {h r : Int} (H : Reach c s k h r) : k ≤ pathN s → 0 ≤ h ∧ h ≤ c.hold ∧ 0 ≤ r ∧ r ≤ 3000 * h := by
 induction H with
 | zero => intro _; have := hc.2.1; omega
 | @step k h r n H h1 h2 ih =>
  intro hk
  have i := ih (by omega)
  have ho := rate_at hc hs (k := k) (by omega)
  have hm := mulo hc hs (k := k) (by omega) (n := n) (by omega)
  omega
theorem low_reach : ∀ k, k ≤ pathN s → Reach c s k (lowT c s k).1 (lowT c s k).2 := by
 intro k
 induction k with
 | zero => intro _; exact .zero
 | succ k ih =>
  intro h
  have i := ih (by omega)
  have ho := rate_at hc hs (k := k) (by omega)
  exact .step i (by omega) (by omega)
theorem high_reach : ∀ k, k ≤ pathN s → Reach c s k (highT c s k).1 (highT c s k).2 := by
 intro k
 induction k with
 | zero => intro _; exact .zero
 | succ k ih =>
  intro h
  have i := ih (by omega)
  have ho := rate_at hc hs (k := k) (by omega)
  exact .step i (by omega) (by omega)
theorem low_least {k : Nat} {h r : Int} (H : Reach c s k h r) : k ≤ pathN s → h < c.hold → (lowT c s k).1 ≤ h ∧ (lowT c s k).2 ≤ r ∧ r - (lowT c s k).2 ≤ 3000 * (h - (lowT c s k).1) := by
 induction H with
 | zero => intro _ _; simp [lowT]
 | @step k h r n H h1 h2 ih =>
  intro hk hlt
  have hin := reach_in hc hs H (by omega)
  have hL := reach_in hc hs (low_reach hc hs k (by omega)) (by omega)
  have ho := rate_at hc hs (k := k) (by omega)
  have i := ih (by omega) (by omega)
  have hm := mulo hc hs (k := k) (by omega) (n := n - min (slAt c s k).rate.lo (c.hold - (lowT c s k).1)) (by omega)
  rw [Int.sub_mul] at hm
  simp only [lowT]
  omega
theorem high_most {k : Nat} {h r : Int} (H : Reach c s k h r) : k ≤ pathN s → (highT c s k).1 < c.hold → h ≤ (highT c s k).1 ∧ r ≤ (highT c s k).2 ∧ (highT c s k).2 - r ≤ 3000 * ((highT c s k).1 - h) := by
 induction H with
 | zero => intro _ _; simp [highT]
 | @step k h r n H h1 h2 ih =>
  intro hk hlt
  simp only [highT] at hlt
  have hin := reach_in hc hs H (by omega)
  have hL := reach_in hc hs (high_reach hc hs k (by omega)) (by omega)
  have ho := rate_at hc hs (k := k) (by omega)
  have i := ih (by omega) (by omega)
  have hm := mulo hc hs (k := k) (by omega) (n := min (slAt c s k).rate.hi (c.hold - (highT c s k).1) - n) (by omega)
  rw [Int.sub_mul] at hm
  simp only [highT]
  omega
omit hs in
theorem more_strong {h r h' r' : Int} (h1 : h ≤ h') (h2 : h' ≤ c.hold) (h3 : r' - r ≤ 3000 * (h' - h)) (h5 : r' ≤ 3000 * h') : (c.hold - h') * denOf r ≤ (c.hold - h) * denOf r' := by
 have hH := hc.2.1
 unfold denOf
 have e1 : (c.hold - h) * (1000000 - r') - (c.hold - h') * (1000000 - r) = (h' - h) * (1000000 - r') - (c.hold - h') * (r' - r) := by
  simp only [Int.sub_mul, Int.mul_sub]; omega
 have e2 : (c.hold - h') * (r' - r) ≤ (c.hold - h') * (3000 * (h' - h)) := Int.mul_le_mul_of_nonneg_left h3 (by omega)
 have e3 : (c.hold - h') * (3000 * (h' - h)) = (h' - h) * (3000 * (c.hold - h')) := by simp only [Int.mul_comm, Int.mul_left_comm]
 have e4 : (h' - h) * (3000 * (c.hold - h')) ≤ (h' - h) * (1000000 - r') := Int.mul_le_mul_of_nonneg_left (by omega) (by omega)
 omega
omit hs in
theorem num_le (h r h' r' : Int) : numOf c h r * denOf r' ≤ numOf c h' r' * denOf r ↔ (c.hold - h') * denOf r ≤ (c.hold - h) * denOf r' := by
 have e1 : numOf c h r = c.hold * denOf r - 1000000 * (c.hold - h) := by unfold numOf denOf; rw [Int.mul_sub]; omega
 have e2 : numOf c h' r' = c.hold * denOf r' - 1000000 * (c.hold - h') := by unfold numOf denOf; rw [Int.mul_sub]; omega
 rw [e1, e2, Int.sub_mul, Int.sub_mul, Int.mul_right_comm c.hold (denOf r) (denOf r'), Int.mul_assoc 1000000, Int.mul_assoc 1000000]
 omega
theorem num_den {k : Nat} {h r : Int} (H : Reach c s k h r) (hk : k ≤ pathN s) : 0 ≤ numOf c h r ∧ numOf c h r ≤ 300000000 ∧ 100000 ≤ denOf r ∧ denOf r ≤ 1000000 := by
 have hi := reach_in hc hs H hk
 have hH := hc.2.1
 have h1 : c.hold * r ≤ 300 * r := Int.mul_le_mul_of_nonneg_right hH.2 hi.2.2.1
 have h2 : 0 ≤ c.hold * r := Int.mul_nonneg (by omega) hi.2.2.1
 unfold numOf denOf
 omega
theorem low_weak {h r : Int} (H : Reach c s (pathN s) h r) : numOf c (lowT c s (pathN s)).1 (lowT c s (pathN s)).2 * denOf r ≤ numOf c h r * denOf (lowT c s (pathN s)).2 := by
 rw [num_le hc]
 have hi := reach_in hc hs H (Nat.le_refl _)
 have hL := reach_in hc hs (low_reach hc hs (pathN s) (Nat.le_refl _)) (Nat.le_refl _)
 rcases Int.lt_or_eq_of_le hi.2.1 with hlt | heq
 ·obtain ⟨h1, h2, h3⟩ := low_least hc hs H (Nat.le_refl _) hlt
  exact more_strong hc h1 hi.2.1 h3 hi.2.2.2
 ·rw [heq, Int.sub_self, Int.zero_mul]
  have hH := hc.2.1
  exact Int.mul_nonneg (by omega) (by unfold denOf; omega)
theorem high_strong {h r : Int} (H : Reach c s (pathN s) h r) : numOf c h r * denOf (highT c s (pathN s)).2 ≤ numOf c (highT c s (pathN s)).1 (highT c s (pathN s)).2 * denOf r := by
 rw [num_le hc]
 have hi := reach_in hc hs H (Nat.le_refl _)
 have hL := reach_in hc hs (high_reach hc hs (pathN s) (Nat.le_refl _)) (Nat.le_refl _)
 rcases Int.lt_or_eq_of_le hL.2.1 with hlt | heq
 ·obtain ⟨h1, h2, h3⟩ := high_most hc hs H (Nat.le_refl _) hlt
  exact more_strong hc h1 hL.2.1 h3 hL.2.2.2
 ·rw [heq, Int.sub_self, Int.zero_mul]
  have hH := hc.2.1
  exact Int.mul_nonneg (by omega) (by unfold denOf; omega)
omit hs in
theorem room_weak {h r r' : Int} (hh : h ≤ c.hold) (hr : r ≤ r') : numOf c h r' * denOf r ≤ numOf c h r * denOf r' := by
 rw [num_le hc]
 exact Int.mul_le_mul_of_nonneg_left (by unfold denOf; omega) (by omega)
end
end Go.Sim.Le
