import Derived.Test.YtpgpaficdabmkaaAd
import Derived.IntWalk
import Derived.Test.YtpgpaficdabmkaaRows
set_option linter.unusedVariables false
set_option linter.unusedSimpArgs false
set_option linter.unusedSectionVars false
/-
  What the small functions of the specification and of the program compute, in plain terms.
-/
namespace Go.Sim.Cr
open Go.Proofs

section
variable {R : Type}
theorem tkOut_ret (v : V) (f : R) (k kp : V → R) : tkOut (some (.ret v)) f k kp = k v := rfl
theorem tkOut_pan (v : V) (f : R) (k kp : V → R) : tkOut (some (.pan v)) f k kp = kp v := rfl
theorem tkBool_b (b : Bool) (f : R) (k : Bool → R) : tkBool (.bool b) f k = k b := rfl
theorem tkInt_i (q : IntKind) (n : Int) (f : R) (k : IntKind → Int → R) : tkInt (.int q n) f k = k q n := rfl
theorem tkAgg_a (l : List V) (f : R) (k : List V → R) : tkAgg (.agg l) f k = k l := rfl
theorem tkTup_t (l : List V) (f : R) (k : List V → R) : tkTup (.tup l) f k = k l := rfl
theorem tkRow_r (a : Bool) (n wd : Nat) (g : Nat → List V) (f : R) (k : Bool → Nat → Nat → (Nat → List V) → R) : tkRow (.row a n wd g) f k = k a n wd g := rfl
theorem tkCons_c (v : V) (l : List V) (f : R) (k : V → List V → R) : tkCons (v :: l) f k = k v l := rfl
theorem tkNil_n (f k : R) : tkNil [] f k = k := rfl
theorem tkIfc_i (t : TypeId) (v : V) (f : R) (k : TypeId → V → R) : tkIfc (.iface t v) f k = k t v := rfl
end
theorem cAnd (a b : Bool) : (bif a then some (Out.ret (.bool b)) else some (.ret (.bool false))) = some (.ret (.bool (a && b))) := by cases a <;> rfl
theorem cNand (a b : Bool) : (bif a then some (Out.ret (.bool false)) else some (.ret (.bool b))) = some (.ret (.bool (!a && b))) := by cases a <;> rfl
theorem cOr (a b : Bool) : (bif a then some (Out.ret (.bool true)) else some (.ret (.bool b))) = some (.ret (.bool (a || b))) := by cases a <;> rfl
theorem wr {n : Int} (h : -9223372036854775808 ≤ n ∧ n ≤ 9223372036854775807) : IntKind.i64.wrap n = n := by rw [IntKind.wrap_i64]; omega
theorem wrS {i : Nat} (h : i < 4611686018427387904) : IntKind.i64.wrap ((i : Int) + 1) = ((i + 1 : Nat) : Int) := by rw [wr (by omega)]; omega
theorem b2 {a b : Bool} (h : a = true ↔ b = true) : a = b := by cases a <;> cases b <;> simp_all
/-- More than any list that the laws look into. -/
abbrev Big : Nat := 4611686018427387904

abbrev SpanIn (p : Span) (a b : Int) : Prop := a ≤ p.lo ∧ p.lo ≤ p.hi ∧ p.hi ≤ b
abbrev Place (x y : Int) : Prop := (-10000 ≤ x ∧ x ≤ 10000) ∧ -10000 ≤ y ∧ y ≤ 10000
abbrev CavOk (c : Cav) : Prop := Place c.x c.y ∧ SpanIn c.rad 0 200000 ∧ SpanIn c.vol 0 10000000 ∧ (0 ≤ c.rock ∧ c.rock ≤ 50000) ∧ (0 ≤ c.floor ∧ c.floor ≤ 10000000) ∧ SpanIn c.gate 0 50000 ∧ (0 ≤ c.change ∧ c.change ≤ 50000)
abbrev SttOk (x : Stt) : Prop := SpanIn x.rad 0 400000 ∧ SpanIn x.vol 0 10000000 ∧ SpanIn x.lost 0 1000000000
abbrev HouseOk (h : House) : Prop := Place h.x h.y ∧ 0 ≤ h.most ∧ h.most ≤ 1000000

variable (F d : Nat)
theorem s54 (x y z : Int) : E F (d + 1) 54 [.int .i64 x, .int .i64 y, .int .i64 z] = some (.ret (.bool (decide (y ≤ x ∧ x ≤ z)))) := by
  rw [E_succ, t54]; simp only [cAnd, Bool.decide_and, ge_iff_le]
theorem s72 (x y z : Int) : E F (d + 1) 72 [.int .i64 x, .int .i64 y, .int .i64 z] = some (.ret (.bool (decide (y ≤ x ∧ x ≤ z)))) := by
  rw [E_succ, t72]; simp only [cAnd, Bool.decide_and, ge_iff_le]
theorem s18 (x y : Int) : E F (d + 2) 18 [.int .i64 x, .int .i64 y] = some (.ret (.bool (decide (Place x y)))) := by
  rw [E_succ, t18]; simp only [s54, tkOut_ret, tkBool_b, cAnd, Bool.decide_and]
theorem s52 (x y : Int) : E F (d + 2) 52 [.int .i64 x, .int .i64 y] = some (.ret (.bool (decide (Place x y)))) := by
  rw [E_succ, t52]; simp only [s72, tkOut_ret, tkBool_b, cAnd, Bool.decide_and]
theorem s74 (p : Span) (n : Int) : E F (d + 1) 74 [.agg (eSpan p), .int .i64 n] = some (.ret (.bool (decide (SpanIn p 0 n)))) := by
  rw [E_succ, t74]; simp only [cAnd, Bool.decide_and, ge_iff_le]
theorem s43 (p : Span) (a n : Int) : E F (d + 1) 43 [.agg (eSpan p), .int .i64 a, .int .i64 n] = some (.ret (.bool (decide (SpanIn p a n)))) := by
  rw [E_succ, t43]; simp only [cAnd, Bool.decide_and, ge_iff_le]
theorem s28 (n : Int) (p : Span) : E F (d + 1) 28 [.int .i64 n, .agg (eSpan p)] = some (.ret (.bool (decide (p.lo ≤ n ∧ n ≤ p.hi)))) := by
  rw [E_succ, t28]; simp only [cAnd, Bool.decide_and, ge_iff_le]
theorem s35 (p q : Span) : E F (d + 1) 35 [.agg (eSpan p), .agg (eSpan q)] = some (.ret (.bool (decide (q.lo ≤ p.lo ∧ p.hi ≤ q.hi)))) := by
  rw [E_succ, t35]; simp only [cAnd, Bool.decide_and, ge_iff_le]
theorem s55 (p q : Span) : E F (d + 1) 55 [.agg (eSpan p), .agg (eSpan q)] = some (.ret (.bool (decide (p.lo ≤ q.lo ∧ p.hi ≤ q.hi)))) := by
  rw [E_succ, t55]; simp only [cAnd, Bool.decide_and, ge_iff_le]
theorem s107 (p q : Span) : E F (d + 1) 107 [.agg (eSpan p), .agg (eSpan q)] = some (.ret (.bool (decide (q.lo ≤ p.lo ∧ q.hi ≤ p.hi)))) := by
  rw [E_succ, t107]; simp only [cAnd, Bool.decide_and, ge_iff_le]
theorem s79 (c : Cav) : E F (d + 3) 79 [.agg (eCav c)] = some (.ret (.bool (decide (CavOk c)))) := by
  rw [E_succ, t79]; simp only [s72, s52, s74, tkOut_ret, tkBool_b, cAnd, Bool.decide_and]
theorem s81 (x c : Cav) : E F (d + 1) 81 [.agg (eCav x), .rptr 1 11 (fun _ => eCav c) 0 0] = some (.ret (.bool (decide (x.x = c.x ∧ x.y = c.y)))) := by
  rw [E_succ, t81]; simp only [cAnd, Bool.decide_and, ge_iff_le]; rfl
theorem s83 (h : House) : E F (d + 3) 83 [.agg (eHouse h)] = some (.ret (.bool (!decide (HouseOk h)))) := by
  rw [E_succ, t83]; simp only [s52, s72, tkOut_ret, tkBool_b, cOr, Bool.decide_and, Bool.not_and]
theorem s86 (x : Stt) : E F (d + 2) 86 [.agg (eStt x)] = some (.ret (.bool (decide (SttOk x)))) := by
  rw [E_succ, t86]; simp only [s74, tkOut_ret, tkBool_b, cAnd, Bool.decide_and]
theorem s85 (x : Stt) : E F (d + 3) 85 [.agg (eStt x)] = some (.ret (.bool (!decide (SttOk x)))) := by
  rw [E_succ, t85]; simp only [s86, tkOut_ret, tkBool_b]
theorem s89 (p : Span) (m : Int) : E F (d + 2) 89 [.agg (eSpan p), .rptr 1 1 (fun _ => [.int .i64 m]) 0 0] = some (.ret (.bool (!decide (SpanIn p 0 m)))) := by
  rw [E_succ, t89]; simp only [s74, tkOut_ret, tkBool_b]

/-- The first index from 'i' on, of so many, of which something holds; -1, if there is none. -/
def ixF (p : Nat → Bool) : Nat → Nat → Int
  | 0, _ => -1
  | n + 1, i => bif p i then (i : Int) else ixF p n (i + 1)
theorem ixF_ge (p : Nat → Bool) : ∀ n i, 0 ≤ ixF p n i ↔ ∃ k, i ≤ k ∧ k < i + n ∧ p k = true := by
  intro n
  induction n with
  | zero => intro i; simp only [ixF]; constructor <;> intro h
            · omega
            · obtain ⟨k, h1, h2, _⟩ := h; omega
  | succ n ih =>
    intro i
    simp only [ixF]
    cases h : p i
    · rw [cond_false, ih]
      constructor
      · rintro ⟨k, h1, h2, h3⟩; exact ⟨k, by omega, by omega, h3⟩
      · rintro ⟨k, h1, h2, h3⟩
        refine ⟨k, ?_, by omega, h3⟩
        rcases Nat.eq_or_lt_of_le h1 with rfl | h4
        · rw [h] at h3; cases h3
        · omega
    · rw [cond_true]
      exact ⟨fun _ => ⟨i, by omega, by omega, h⟩, fun _ => by omega⟩
theorem l108 (l : Sl Cav) (c : Cav) (hB : l.len < Big) : ∀ n i fu, l.len = i + n → n < fu →
    L108x0 (E F (d + 1)) F l c fu (i : Int) = some (.ret (.int .i64 (ixF (fun k => decide ((l.el k).x = c.x ∧ (l.el k).y = c.y)) n i))) := by
  intro n
  induction n with
  | zero =>
    intro i fu h hf
    obtain ⟨fu, rfl⟩ : ∃ k, fu = k + 1 := ⟨fu - 1, by omega⟩
    rw [L108x0s]
    simp only [Int.ofNat_lt, show ¬ i < l.len by omega, decide_false, cond_false, ixF]
  | succ n ih =>
    intro i fu h hf
    obtain ⟨fu, rfl⟩ : ∃ k, fu = k + 1 := ⟨fu - 1, by omega⟩
    rw [L108x0s]
    simp only [Int.ofNat_lt, show i < l.len by omega, decide_true, cond_true, Int.natCast_nonneg, Int.toNat_natCast, s81, tkOut_ret, tkBool_b, wrS (show i < Big by omega), ih (i + 1) fu (by omega) (by omega), ixF]
    cases decide ((l.el i).x = c.x ∧ (l.el i).y = c.y) <;> rfl
end Go.Sim.Cr

/-
  What the functions that look through lists compute, in plain terms.
-/
namespace Go.Sim.Cr
open Go.Proofs
variable (F d : Nat)
theorem b3 {a b : Bool} (h : a = b) : some (Out.ret (.bool a)) = some (.ret (.bool b)) := by rw [h]
theorem ge0 (p : Nat → Bool) (n : Nat) : (!decide (0 ≤ ixF p n 0)) = decide (∀ i, i < n → p i = false) := by
  apply b2
  rw [Bool.not_eq_true', decide_eq_false_iff_not, decide_eq_true_iff, ixF_ge]
  constructor
  · intro h i hi
    cases hp : p i
    · rfl
    · exact (h ⟨i, by omega, by omega, hp⟩).elim
  · rintro h ⟨k, _, h2, h3⟩
    rw [h k (by omega)] at h3; cases h3
theorem l109 (l : Sl House) (hB : l.len < Big) : ∀ n i fu, l.len = i + n → n < fu →
    L109x0 (E F (d + 3)) F l fu (i : Int) = some (.ret (.int .i64 (ixF (fun k => !decide (HouseOk (l.el k))) n i))) := by
  intro n
  induction n with
  | zero =>
    intro i fu h hf
    obtain ⟨fu, rfl⟩ : ∃ k, fu = k + 1 := ⟨fu - 1, by omega⟩
    rw [L109x0s]
    simp only [Int.ofNat_lt, show ¬ i < l.len by omega, decide_false, cond_false, ixF]
  | succ n ih =>
    intro i fu h hf
    obtain ⟨fu, rfl⟩ : ∃ k, fu = k + 1 := ⟨fu - 1, by omega⟩
    rw [L109x0s]
    simp only [Int.ofNat_lt, show i < l.len by omega, decide_true, cond_true, Int.natCast_nonneg, Int.toNat_natCast, s83, tkOut_ret, tkBool_b, wrS (show i < Big by omega), ih (i + 1) fu (by omega) (by omega), ixF]
    cases decide (HouseOk (l.el i)) <;> rfl
theorem l110 (l : Sl Stt) (hB : l.len < Big) : ∀ n i fu, l.len = i + n → n < fu →
    L110x0 (E F (d + 3)) F l fu (i : Int) = some (.ret (.int .i64 (ixF (fun k => !decide (SttOk (l.el k))) n i))) := by
  intro n
  induction n with
  | zero =>
    intro i fu h hf
    obtain ⟨fu, rfl⟩ : ∃ k, fu = k + 1 := ⟨fu - 1, by omega⟩
    rw [L110x0s]
    simp only [Int.ofNat_lt, show ¬ i < l.len by omega, decide_false, cond_false, ixF]
  | succ n ih =>
    intro i fu h hf
    obtain ⟨fu, rfl⟩ : ∃ k, fu = k + 1 := ⟨fu - 1, by omega⟩
    rw [L110x0s]
    simp only [Int.ofNat_lt, show i < l.len by omega, decide_true, cond_true, Int.natCast_nonneg, Int.toNat_natCast, s85, tkOut_ret, tkBool_b, wrS (show i < Big by omega), ih (i + 1) fu (by omega) (by omega), ixF]
    cases decide (SttOk (l.el i)) <;> rfl
theorem l111 (l : Sl Span) (m : Int) (hB : l.len < Big) : ∀ n i fu, l.len = i + n → n < fu →
    L111x0 (E F (d + 2)) F l m fu (i : Int) = some (.ret (.int .i64 (ixF (fun k => !decide (SpanIn (l.el k) 0 m)) n i))) := by
  intro n
  induction n with
  | zero =>
    intro i fu h hf
    obtain ⟨fu, rfl⟩ : ∃ k, fu = k + 1 := ⟨fu - 1, by omega⟩
    rw [L111x0s]
    simp only [Int.ofNat_lt, show ¬ i < l.len by omega, decide_false, cond_false, ixF]
  | succ n ih =>
    intro i fu h hf
    obtain ⟨fu, rfl⟩ : ∃ k, fu = k + 1 := ⟨fu - 1, by omega⟩
    rw [L111x0s]
    simp only [Int.ofNat_lt, show i < l.len by omega, decide_true, cond_true, Int.natCast_nonneg, Int.toNat_natCast, s89, tkOut_ret, tkBool_b, wrS (show i < Big by omega), ih (i + 1) fu (by omega) (by omega), ixF]
    cases decide (SpanIn (l.el i) 0 m) <;> rfl

theorem s80 (l : Sl Cav) (c : Cav) (hB : l.len < Big) (hF : l.len < F) : E F (d + 3) 80 [sl eCav 11 l, .fn (.func 81) [] [.rptr 1 11 (fun _ => eCav c) 0 0]] = some (.ret (.bool (!decide (∀ i, i < l.len → ¬ ((l.el i).x = c.x ∧ (l.el i).y = c.y))))) := by
  rw [E_succ, t80, E_succ, t108, show L108x0 (E F (d + 1)) F l c F 0 = _ from l108 F d l c hB l.len 0 F (by omega) hF]
  simp only [tkOut_ret, tkInt_i, decide_true, cond_true, ge_iff_le]
  refine b3 (Bool.not_inj ?_)
  rw [Bool.not_not]
  exact (ge0 _ _).trans (by simp only [decide_eq_false_iff_not])
theorem s82 (l : Sl House) (hB : l.len < Big) (hF : l.len < F) : E F (d + 5) 82 [sl eHouse 3 l, .fn (.func 83) [] []] = some (.ret (.bool (!decide (∀ i, i < l.len → HouseOk (l.el i))))) := by
  rw [E_succ, t82, E_succ, t109, show L109x0 (E F (d + 3)) F l F 0 = _ from l109 F d l hB l.len 0 F (by omega) hF]
  simp only [tkOut_ret, tkInt_i, decide_true, cond_true, ge_iff_le]
  refine b3 (Bool.not_inj ?_)
  rw [Bool.not_not]
  exact (ge0 _ _).trans (by simp only [Bool.not_eq_false', decide_eq_true_eq])
theorem s84 (l : Sl Stt) (hB : l.len < Big) (hF : l.len < F) : E F (d + 5) 84 [sl eStt 6 l, .fn (.func 85) [] []] = some (.ret (.bool (!decide (∀ i, i < l.len → SttOk (l.el i))))) := by
  rw [E_succ, t84, E_succ, t110, show L110x0 (E F (d + 3)) F l F 0 = _ from l110 F d l hB l.len 0 F (by omega) hF]
  simp only [tkOut_ret, tkInt_i, decide_true, cond_true, ge_iff_le]
  refine b3 (Bool.not_inj ?_)
  rw [Bool.not_not]
  exact (ge0 _ _).trans (by simp only [Bool.not_eq_false', decide_eq_true_eq])
theorem s88 (l : Sl Span) (m : Int) (hB : l.len < Big) (hF : l.len < F) : E F (d + 4) 88 [sl eSpan 2 l, .fn (.func 89) [] [.rptr 1 1 (fun _ => [.int .i64 m]) 0 0]] = some (.ret (.bool (!decide (∀ i, i < l.len → SpanIn (l.el i) 0 m)))) := by
  rw [E_succ, t88, E_succ, t111, show L111x0 (E F (d + 2)) F l m F 0 = _ from l111 F d l m hB l.len 0 F (by omega) hF]
  simp only [tkOut_ret, tkInt_i, decide_true, cond_true, ge_iff_le]
  refine b3 (Bool.not_inj ?_)
  rw [Bool.not_not]
  exact (ge0 _ _).trans (by simp only [Bool.not_eq_false', decide_eq_true_eq])

abbrev StatesOk (s : Site) (l : Sl Stt) : Prop := l.len = s.cavs.len ∧ ∀ i, i < l.len → SttOk (l.el i)
abbrev DayOk (s : Site) (d : Day) : Prop := (d.press.len = s.cavs.len ∧ ∀ i, i < d.press.len → SpanIn (d.press.el i) 0 50000) ∧ d.warm.len = s.cavs.len ∧ ∀ i, i < d.warm.len → SpanIn (d.warm.el i) 0 10000
theorem beqN (a b : Nat) : (((a : Nat) : Int) == ((b : Nat) : Int)) = decide (a = b) := by
  apply b2; simp only [beq_iff_eq, decide_eq_true_eq]; omega
theorem s49 (s : Site) (l : Sl Stt) (hB : l.len < Big) (hF : l.len < F) : E F (d + 6) 49 [.agg (eSite s), sl eStt 6 l] = some (.ret (.bool (decide (StatesOk s l)))) := by
  rw [E_succ, t49]
  simp only [s84 F _ l hB hF, tkOut_ret, tkBool_b, Bool.not_not, cAnd, beqN, Bool.decide_and]
theorem s87 (l : Sl Span) (m : Int) (s : Site) (hB : l.len < Big) (hF : l.len < F) : E F (d + 5) 87 [sl eSpan 2 l, .int .i64 m, pSite s] = some (.ret (.bool (decide (l.len = s.cavs.len ∧ ∀ i, i < l.len → SpanIn (l.el i) 0 m)))) := by
  rw [E_succ, t87]
  simp only [s88 F _ l m hB hF, tkOut_ret, tkBool_b, Bool.not_not, cAnd, beqN, Bool.decide_and]
theorem s50 (s : Site) (y : Day) (hB : y.press.len < Big) (hB' : y.warm.len < Big) (hF : y.press.len < F) (hF' : y.warm.len < F) : E F (d + 6) 50 [.agg (eSite s), .agg (eDay y)] = some (.ret (.bool (decide (DayOk s y)))) := by
  rw [E_succ, t50]
  simp only [Nat.reduceAdd, s87 F _ y.press _ s hB hF, s87 F _ y.warm _ s hB' hF', tkOut_ret, tkBool_b, cAnd, Bool.decide_and]
end Go.Sim.Cr

/-
  What the loops over lists compute, in plain terms: of days, states and what is seen of a place.
-/
namespace Go.Sim.Cr
open Go.Proofs
variable (F d : Nat)
def allF (p : Nat → Bool) (z : Bool) : Nat → Nat → Bool
  | 0, _ => z
  | n + 1, i => p i && allF p z n (i + 1)
theorem allF_eq (p : Nat → Bool) (z : Bool) : ∀ n i, allF p z n i = true ↔ (∀ k, i ≤ k → k < i + n → p k = true) ∧ z = true := by
  intro n
  induction n with
  | zero => intro i; simp only [allF]; exact ⟨fun h => ⟨fun k h1 h2 => by omega, h⟩, fun h => h.2⟩
  | succ n ih =>
    intro i
    simp only [allF, Bool.and_eq_true, ih]
    constructor
    · rintro ⟨h1, h2, h3⟩
      refine ⟨fun k h4 h5 => ?_, h3⟩
      rcases Nat.eq_or_lt_of_le h4 with rfl | h6
      · exact h1
      · exact h2 k (by omega) (by omega)
    · rintro ⟨h1, h2⟩
      exact ⟨h1 i (by omega) (by omega), fun k h3 h4 => h1 k (by omega) (by omega), h2⟩
theorem allF_0 (p : Nat → Bool) (z : Bool) (n : Nat) : allF p z n 0 = true ↔ (∀ k, k < n → p k = true) ∧ z = true := by
  rw [allF_eq]
  exact ⟨fun h => ⟨fun k hk => h.1 k (by omega) (by omega), h.2⟩, fun h => ⟨fun k _ hk => h.1 k (by omega), h.2⟩⟩

theorem l17 (s : Site) (l : Sl Stt) (hB : l.len < Big) : ∀ n i fu, l.len = i + n → n < fu →
    L17x0 (E F (d + 1)) F s l fu (i : Int) = some (.ret (.bool (allF (fun k => decide (SttOk (l.el k))) (decide (l.len = s.cavs.len)) n i))) := by
  intro n
  induction n with
  | zero =>
    intro i fu h hf
    obtain ⟨fu, rfl⟩ : ∃ k, fu = k + 1 := ⟨fu - 1, by omega⟩
    rw [L17x0s]
    simp only [Int.ofNat_lt, show ¬ i < l.len by omega, decide_false, cond_false, allF, beqN]
  | succ n ih =>
    intro i fu h hf
    obtain ⟨fu, rfl⟩ : ∃ k, fu = k + 1 := ⟨fu - 1, by omega⟩
    rw [L17x0s]
    simp only [Int.ofNat_lt, show i < l.len by omega, decide_true, cond_true, Int.natCast_nonneg, Int.toNat_natCast, s43, tkOut_ret, tkBool_b, wrS (show i < Big by omega), ih (i + 1) fu (by omega) (by omega), allF, cNand, Bool.not_not]
    refine b3 ?_
    simp only [Bool.decide_and, Bool.and_assoc]
theorem s17 (s : Site) (l : Sl Stt) (hB : l.len < Big) (hF : l.len < F) : E F (d + 2) 17 [.agg (eSite s), sl eStt 6 l] = some (.ret (.bool (decide (StatesOk s l)))) := by
  rw [E_succ, t17, show L17x0 (E F (d + 1)) F s l F 0 = _ from l17 F d s l hB l.len 0 F (by omega) hF]
  refine b3 (b2 ?_)
  rw [allF_0, decide_eq_true_iff, decide_eq_true_iff]
  exact ⟨fun h => ⟨h.2, fun i hi => of_decide_eq_true (h.1 i hi)⟩, fun h => ⟨fun i hi => decide_eq_true (h.2 i hi), h.1⟩⟩

theorem l12 (l : Sl Day) (m : Int) (hB : l.len < Big) : ∀ n i fu, l.len = i + n → n < fu →
    L12x0 (E F d) F l m fu (i : Int) = some (.ret (.bool (allF (fun k => decide ((l.el k).press.len ≤ 10 ∧ (l.el k).warm.len ≤ 10)) (decide ((l.len : Int) ≤ m ∨ 60 < l.len ∧ l.len ≤ 65)) n i))) := by
  intro n
  induction n with
  | zero =>
    intro i fu h hf
    obtain ⟨fu, rfl⟩ : ∃ k, fu = k + 1 := ⟨fu - 1, by omega⟩
    rw [L12x0s]
    simp only [Int.ofNat_lt, show ¬ i < l.len by omega, decide_false, cond_false, allF, cAnd, cOr]
    refine b3 ?_
    simp only [Bool.decide_or, Bool.decide_and, gt_iff_lt, show ((60 : Int) < (l.len : Int)) ↔ 60 < l.len by omega, show ((l.len : Int) ≤ 65) ↔ l.len ≤ 65 by omega]
  | succ n ih =>
    intro i fu h hf
    obtain ⟨fu, rfl⟩ : ∃ k, fu = k + 1 := ⟨fu - 1, by omega⟩
    rw [L12x0s]
    simp only [Int.ofNat_lt, show i < l.len by omega, decide_true, cond_true, Int.natCast_nonneg, Int.toNat_natCast, wrS (show i < Big by omega), ih (i + 1) fu (by omega) (by omega), allF, cNand]
    refine b3 ?_
    simp only [gt_iff_lt, show ∀ k : Nat, ((10 : Int) < (k : Int)) ↔ ¬ k ≤ 10 by omega, decide_not, Bool.not_not, Bool.decide_and, Bool.and_assoc]
abbrev Few (l : Sl Day) (m : Int) : Prop := (∀ k, k < l.len → (l.el k).press.len ≤ 10 ∧ (l.el k).warm.len ≤ 10) ∧ ((l.len : Int) ≤ m ∨ 60 < l.len ∧ l.len ≤ 65)
theorem s12 (l : Sl Day) (m : Int) (hB : l.len < Big) (hF : l.len < F) : E F (d + 1) 12 [sl eDay 2 l, .int .i64 m] = some (.ret (.bool (decide (Few l m)))) := by
  rw [E_succ, t12, show L12x0 (E F d) F l m F 0 = _ from l12 F d l m hB l.len 0 F (by omega) hF]
  refine b3 (b2 ?_)
  rw [allF_0, decide_eq_true_iff, decide_eq_true_iff]
  exact ⟨fun h => ⟨fun i hi => of_decide_eq_true (h.1 i hi), h.2⟩, fun h => ⟨fun i hi => decide_eq_true (h.1 i hi), h.2⟩⟩
theorem s11 (s : Site) : E F (d + 1) 11 [.agg (eSite s)] = some (.ret (.bool (decide (s.cavs.len ≤ 10 ∧ s.rows.len ≤ 12 ∧ s.heats.len ≤ 12 ∧ s.rings.len ≤ 12 ∧ s.houses.len ≤ 10)))) := by
  rw [E_succ, t11]
  simp only [cAnd, Bool.decide_and, show ∀ k : Nat, ((k : Int) ≤ 10) ↔ k ≤ 10 by omega, show ∀ k : Nat, ((k : Int) ≤ 12) ↔ k ≤ 12 by omega]

theorem l20 (s : Site) (y : Day) (hp : y.press.len = s.cavs.len) (hw : y.warm.len = s.cavs.len) (hB : s.cavs.len < Big) : ∀ n i fu, s.cavs.len = i + n → n < fu →
    L20x0 (E F (d + 1)) F s y fu (i : Int) = some (.ret (.bool (allF (fun k => decide (SpanIn (y.press.el k) 0 50000 ∧ SpanIn (y.warm.el k) 0 10000)) true n i))) := by
  intro n
  induction n with
  | zero =>
    intro i fu h hf
    obtain ⟨fu, rfl⟩ : ∃ k, fu = k + 1 := ⟨fu - 1, by omega⟩
    rw [L20x0s]
    simp only [Int.ofNat_lt, show ¬ i < s.cavs.len by omega, decide_false, cond_false, allF]
  | succ n ih =>
    intro i fu h hf
    obtain ⟨fu, rfl⟩ : ∃ k, fu = k + 1 := ⟨fu - 1, by omega⟩
    rw [L20x0s]
    simp only [Int.ofNat_lt, hp, hw, show i < s.cavs.len by omega, decide_true, cond_true, Int.natCast_nonneg, Int.toNat_natCast, s43, tkOut_ret, tkBool_b, wrS (show i < Big by omega), ih (i + 1) fu (by omega) (by omega), allF, cNand, Bool.not_not]
    refine b3 ?_
    simp only [Bool.decide_and, Bool.and_assoc]
theorem bneN (a b : Nat) : (((a : Nat) : Int) != ((b : Nat) : Int)) = !decide (a = b) := by rw [bne, beqN]
theorem s20 (s : Site) (y : Day) (hB : s.cavs.len < Big) (hF : s.cavs.len < F) : E F (d + 2) 20 [.agg (eSite s), .agg (eDay y)] = some (.ret (.bool (decide (DayOk s y)))) := by
  rw [E_succ, t20]
  by_cases hp : y.press.len = s.cavs.len
  · by_cases hw : y.warm.len = s.cavs.len
    · rw [show L20x0 (E F (d + 1)) F s y F 0 = _ from l20 F d s y hp hw hB s.cavs.len 0 F (by omega) hF]
      simp only [bneN, hp, hw, decide_true, Bool.not_true, cond_false]
      refine b3 (b2 ?_)
      rw [allF_0, decide_eq_true_iff]
      constructor
      · rintro ⟨h, _⟩
        exact ⟨⟨hp, fun i hi => (of_decide_eq_true (h i (by omega))).1⟩, hw, fun i hi => (of_decide_eq_true (h i (by omega))).2⟩
      · rintro ⟨⟨_, h1⟩, _, h2⟩
        exact ⟨fun k hk => decide_eq_true ⟨h1 k (by omega), h2 k (by omega)⟩, rfl⟩
    · simp only [bneN, hp, hw, decide_true, decide_false, Bool.not_true, Bool.not_false, cond_false, cond_true]
      exact b3 (decide_eq_false fun h => hw h.2.1).symm
  · simp only [bneN, hp, decide_false, Bool.not_false, cond_true]
    exact b3 (decide_eq_false fun h => hp h.1.1).symm

/-- Two states are the same. -/
abbrev SameStt (a b : Stt) : Prop := a.rad.lo = b.rad.lo ∧ a.rad.hi = b.rad.hi ∧ a.vol.lo = b.vol.lo ∧ a.vol.hi = b.vol.hi ∧ a.lost.lo = b.lost.lo ∧ a.lost.hi = b.lost.hi
theorem beqI (a b : Int) : (a == b) = decide (a = b) := rfl
theorem sameStt (a b : Stt) : ((a.rad.lo == b.rad.lo) && ((a.rad.hi == b.rad.hi) && ((a.vol.lo == b.vol.lo) && ((a.vol.hi == b.vol.hi) && ((a.lost.lo == b.lost.lo) && ((a.lost.hi == b.lost.hi) && true)))))) = decide (SameStt a b) := by
  simp only [beqI, Bool.and_true, Bool.decide_and]
theorem l22 (a b : Sl Stt) (hl : a.len = b.len) (hB : a.len < Big) : ∀ n i fu, a.len = i + n → n < fu →
    L22x0 (E F d) F a b fu (i : Int) = some (.ret (.bool (allF (fun k => decide (SameStt (a.el k) (b.el k))) true n i))) := by
  intro n
  induction n with
  | zero =>
    intro i fu h hf
    obtain ⟨fu, rfl⟩ : ∃ k, fu = k + 1 := ⟨fu - 1, by omega⟩
    rw [L22x0s]
    simp only [Int.ofNat_lt, show ¬ i < a.len by omega, decide_false, cond_false, allF]
  | succ n ih =>
    intro i fu h hf
    obtain ⟨fu, rfl⟩ : ∃ k, fu = k + 1 := ⟨fu - 1, by omega⟩
    rw [L22x0s]
    simp only [Int.ofNat_lt, ← hl, show i < a.len by omega, decide_true, cond_true, Int.natCast_nonneg, Int.toNat_natCast, wrS (show i < Big by omega), ih (i + 1) fu (by omega) (by omega), allF, cNand, Bool.not_not, sameStt]
theorem s22 (a b : Sl Stt) (hB : a.len < Big) (hF : a.len < F) : E F (d + 1) 22 [sl eStt 6 a, sl eStt 6 b] = some (.ret (.bool (decide (a.len = b.len ∧ ∀ i, i < a.len → SameStt (a.el i) (b.el i))))) := by
  rw [E_succ, t22]
  by_cases hl : a.len = b.len
  · rw [show L22x0 (E F d) F a b F 0 = _ from l22 F d a b hl hB a.len 0 F (by omega) hF]
    simp only [bneN, hl, decide_true, Bool.not_true, cond_false, true_and]
    refine b3 (b2 ?_)
    rw [allF_0, decide_eq_true_iff]
    exact ⟨fun h i hi => of_decide_eq_true (h.1 i hi), fun h => ⟨fun i hi => decide_eq_true (h i hi), rfl⟩⟩
  · simp only [bneN, hl, decide_false, Bool.not_false, cond_true, false_and]
end Go.Sim.Cr

/-
  Rings, subsidence, searches by halves, square roots and walls, in plain terms.
-/
namespace Go.Sim.Cr
open Go.Proofs
variable (F d : Nat)
theorem mulB {a b A B : Int} (ha : 0 ≤ a ∧ a ≤ A) (hb : 0 ≤ b ∧ b ≤ B) : 0 ≤ a * b ∧ a * b ≤ A * B :=
  ⟨Int.mul_nonneg ha.1 hb.1, Int.mul_le_mul ha.2 hb.2 hb.1 (Int.le_trans ha.1 ha.2)⟩
theorem sqB {u A : Int} (h : -A ≤ u ∧ u ≤ A) : 0 ≤ u * u ∧ u * u ≤ A * A := by
  rcases Int.le_total 0 u with h0 | h0
  · exact mulB ⟨h0, h.2⟩ ⟨h0, h.2⟩
  · have := @mulB (-u) (-u) A A ⟨by omega, by omega⟩ ⟨by omega, by omega⟩
    rwa [Int.neg_mul_neg] at this

/-! ### rings -/
def dist2 (c : Cav) (x y : Int) : Int := (c.x - x) * (c.x - x) + (c.y - y) * (c.y - y)
def ringFrom (s : Site) (c : Cav) (x y : Int) : Nat → Nat → Option Span
  | 0, _ => none
  | n + 1, i => bif decide (dist2 c x y ≤ (s.rings.el i).away * (s.rings.el i).away) then some (s.rings.el i).share else ringFrom s c x y n (i + 1)
/-- The share of a cavern at a place. -/
def ringOf (s : Site) (c : Cav) (x y : Int) : Option Span := ringFrom s c x y s.rings.len 0
abbrev AwayOk (s : Site) : Prop := ∀ i, i < s.rings.len → 0 ≤ (s.rings.el i).away ∧ (s.rings.el i).away ≤ 40000
abbrev zSpan : Span := ⟨0, 0⟩
theorem dist_wr (c : Cav) (x y : Int) (hc : Place c.x c.y) (hp : Place x y) :
    IntKind.i64.wrap (c.x - x) = c.x - x ∧ IntKind.i64.wrap (c.y - y) = c.y - y ∧ IntKind.i64.wrap ((c.x - x) * (c.x - x)) = (c.x - x) * (c.x - x) ∧ IntKind.i64.wrap ((c.y - y) * (c.y - y)) = (c.y - y) * (c.y - y) ∧
    IntKind.i64.wrap ((c.x - x) * (c.x - x) + (c.y - y) * (c.y - y)) = dist2 c x y := by
  have h1 := @sqB (c.x - x) 20000 (by omega)
  have h2 := @sqB (c.y - y) 20000 (by omega)
  exact ⟨wr (by omega), wr (by omega), wr (by omega), wr (by omega), wr (by omega)⟩
theorem l29 (s : Site) (c : Nat) (x y : Int) (ha : AwayOk s) (hc : Place (s.cavs.el c).x (s.cavs.el c).y) (hp : Place x y) (hB : s.rings.len < Big) : ∀ n i fu, s.rings.len = i + n → n < fu →
    L29x0 (E F d) F s (c : Int) x y fu (i : Int) = some (.ret (match ringFrom s (s.cavs.el c) x y n i with
      | some q => .tup [.agg (eSpan q), .bool true]
      | none => .tup [.agg [.int .i64 0, .int .i64 0], .bool false])) := by
  obtain ⟨w1, w2, w3, w4, w5⟩ := dist_wr _ _ _ hc hp
  intro n
  induction n with
  | zero =>
    intro i fu h hf
    obtain ⟨fu, rfl⟩ : ∃ k, fu = k + 1 := ⟨fu - 1, by omega⟩
    rw [L29x0s]
    simp only [Int.ofNat_lt, show ¬ i < s.rings.len by omega, decide_false, cond_false, ringFrom]
  | succ n ih =>
    intro i fu h hf
    obtain ⟨fu, rfl⟩ : ∃ k, fu = k + 1 := ⟨fu - 1, by omega⟩
    rw [L29x0s]
    have h1 := @sqB (s.rings.el i).away 40000 (by have := ha i (by omega); omega)
    simp only [Int.toNat_natCast, w1, w2, w3, w4, w5, Int.ofNat_lt, show i < s.rings.len by omega, decide_true, cond_true, Int.natCast_nonneg, wr (show _ ∧ (s.rings.el i).away * (s.rings.el i).away ≤ _ by omega), wrS (show i < Big by omega), ih (i + 1) fu (by omega) (by omega), ringFrom, ge_iff_le]
    cases decide (dist2 (s.cavs.el c) x y ≤ (s.rings.el i).away * (s.rings.el i).away) <;> rfl
theorem s29 (s : Site) (c : Nat) (x y : Int) (ha : AwayOk s) (hlt : c < s.cavs.len) (hc : Place (s.cavs.el c).x (s.cavs.el c).y) (hp : Place x y) (hB : s.rings.len < Big) (hF : s.rings.len < F) :
    E F (d + 1) 29 [.agg (eSite s), .int .i64 (c : Int), .int .i64 x, .int .i64 y] = some (.ret (match ringOf s (s.cavs.el c) x y with
      | some q => .tup [.agg (eSpan q), .bool true]
      | none => .tup [.agg [.int .i64 0, .int .i64 0], .bool false])) := by
  rw [E_succ, t29, show L29x0 (E F d) F s (c : Int) x y F 0 = _ from l29 F d s c x y ha hc hp hB s.rings.len 0 F (by omega) hF]
  simp only [Int.natCast_nonneg, Int.ofNat_lt, hlt, decide_true, cond_true]
  rfl
theorem l92 (s : Site) (c : Cav) (x y : Int) (ha : AwayOk s) (hc : Place c.x c.y) (hp : Place x y) (hB : s.rings.len < Big) : ∀ n i fu, s.rings.len = i + n → n < fu →
    L92x0 (E F d) F s c x y fu (i : Int) = some (.ret (.agg (eSpan ((ringFrom s c x y n i).getD zSpan)))) := by
  obtain ⟨w1, w2, w3, w4, w5⟩ := dist_wr _ _ _ hc hp
  intro n
  induction n with
  | zero =>
    intro i fu h hf
    obtain ⟨fu, rfl⟩ : ∃ k, fu = k + 1 := ⟨fu - 1, by omega⟩
    rw [L92x0s]
    simp only [Int.ofNat_lt, show ¬ i < s.rings.len by omega, decide_false, cond_false, ringFrom]
    rfl
  | succ n ih =>
    intro i fu h hf
    obtain ⟨fu, rfl⟩ : ∃ k, fu = k + 1 := ⟨fu - 1, by omega⟩
    rw [L92x0s]
    have h1 := @sqB (s.rings.el i).away 40000 (by have := ha i (by omega); omega)
    simp only [Int.toNat_natCast, w1, w2, w3, w4, w5, Int.ofNat_lt, show i < s.rings.len by omega, decide_true, cond_true, Int.natCast_nonneg, wr (show _ ∧ (s.rings.el i).away * (s.rings.el i).away ≤ _ by omega), wrS (show i < Big by omega), ih (i + 1) fu (by omega) (by omega), ringFrom, ge_iff_le]
    cases decide (dist2 c x y ≤ (s.rings.el i).away * (s.rings.el i).away) <;> rfl
theorem s92 (s : Site) (c : Cav) (x y : Int) (ha : AwayOk s) (hc : Place c.x c.y) (hp : Place x y) (hB : s.rings.len < Big) (hF : s.rings.len < F) :
    E F (d + 1) 92 [pSite s, .agg (eCav c), .int .i64 x, .int .i64 y] = some (.ret (.agg (eSpan ((ringOf s c x y).getD zSpan)))) := by
  rw [E_succ, t92, show L92x0 (E F d) F s c x y F 0 = _ from l92 F d s c x y ha hc hp hB s.rings.len 0 F (by omega) hF]
  rfl
/-! ### searches by halves -/
theorem mid_wr {i j : Int} (h1 : -2305843009213693952 ≤ i) (h2 : i ≤ j) (h3 : j ≤ 2305843009213693952) : IntKind.i64.wrap (i + IntKind.i64.wrap (Int.tdiv (IntKind.i64.wrap (j - i)) 2)) = i + (j - i) / 2 := by
  rw [wr (show _ ∧ j - i ≤ _ by omega), Int.tdiv_eq_ediv_of_nonneg (by omega), wr (show _ ∧ (j - i) / 2 ≤ _ by omega), wr (by omega)]
theorem firstLaw (L : Nat → Int → Int → Option Out) (p : Int → Bool) (lo hi : Int)
    (hstep : ∀ fu i j, lo ≤ i → i ≤ j → j ≤ hi → L (fu + 1) i j = bif decide (i < j) then (bif p (i + (j - i) / 2) then L fu i (i + (j - i) / 2) else L fu (i + (j - i) / 2 + 1) j) else some (.ret (.int .i64 i))) :
    ∀ k fu i j, (j - i).toNat ≤ k → k < fu → lo ≤ i → i ≤ j → j ≤ hi → ∃ r, L fu i j = some (.ret (.int .i64 r)) ∧ i ≤ r ∧ r ≤ j ∧ (r < j → p r = true) ∧ (i < r → p (r - 1) = false) := by
  intro k
  induction k with
  | zero =>
    intro fu i j h hf h1 h2 h3
    obtain ⟨fu, rfl⟩ : ∃ k, fu = k + 1 := ⟨fu - 1, by omega⟩
    refine ⟨i, ?_, by omega, by omega, fun h => by omega, fun h => by omega⟩
    rw [hstep _ _ _ h1 h2 h3, decide_eq_false (by omega), cond_false]
  | succ k ih =>
    intro fu i j h hf h1 h2 h3
    obtain ⟨fu, rfl⟩ : ∃ k, fu = k + 1 := ⟨fu - 1, by omega⟩
    by_cases hij : i < j
    · rw [hstep _ _ _ h1 h2 h3, decide_eq_true hij, cond_true]
      cases hp : p (i + (j - i) / 2)
      · rw [cond_false]
        obtain ⟨r, e, r1, r2, r3, r4⟩ := ih fu (i + (j - i) / 2 + 1) j (by omega) (by omega) (by omega) (by omega) (by omega)
        refine ⟨r, e, by omega, r2, r3, fun _ => ?_⟩
        rcases Int.lt_or_eq_of_le r1 with hlt | heq
        · exact r4 hlt
        · rw [← heq, show i + (j - i) / 2 + 1 - 1 = i + (j - i) / 2 by omega]; exact hp
      · rw [cond_true]
        obtain ⟨r, e, r1, r2, r3, r4⟩ := ih fu i (i + (j - i) / 2) (by omega) (by omega) (by omega) (by omega) (by omega)
        refine ⟨r, e, r1, by omega, fun _ => ?_, r4⟩
        rcases Int.lt_or_eq_of_le r2 with hlt | heq
        · exact r3 hlt
        · rw [heq]; exact hp
    · refine ⟨i, ?_, by omega, by omega, fun h => by omega, fun h => by omega⟩
      rw [hstep _ _ _ h1 h2 h3, decide_eq_false hij, cond_false]
/-! ### roots -/
abbrev IsRoot (n r : Int) : Prop := 0 ≤ r ∧ r * r ≤ n ∧ n < (r + 1) * (r + 1)
theorem isRoot_uniq {n r q : Int} (h : IsRoot n r) (g : IsRoot n q) : r = q := by
  have key : ∀ {a b : Int}, IsRoot n a → IsRoot n b → ¬ a < b := by
    intro a b h g hlt
    have := Int.mul_le_mul (show a + 1 ≤ b by omega) (show a + 1 ≤ b by omega) (by omega) (by omega)
    omega
  have h1 := key h g
  have h2 := key g h
  omega
def rootGo (n : Int) : Nat → Int → Int
  | 0, r => r
  | k + 1, r => bif decide ((r + ((2 ^ k : Nat) : Int)) * (r + ((2 ^ k : Nat) : Int)) ≤ n) then rootGo n k (r + ((2 ^ k : Nat) : Int)) else rootGo n k r
theorem rootGo_ok {n : Int} : ∀ {k : Nat} {r : Int}, 0 ≤ r → r * r ≤ n → n < (r + ((2 ^ k : Nat) : Int)) * (r + ((2 ^ k : Nat) : Int)) → IsRoot n (rootGo n k r) := by
  intro k
  induction k with
  | zero => intro r h0 h1 h2; exact ⟨h0, h1, h2⟩
  | succ k ih =>
    intro r h0 h1 h2
    unfold rootGo
    by_cases h : (r + ((2 ^ k : Nat) : Int)) * (r + ((2 ^ k : Nat) : Int)) ≤ n
    · rw [decide_eq_true h, cond_true]
      have hp : (0 : Int) ≤ ((2 ^ k : Nat) : Int) := Int.natCast_nonneg _
      refine ih (Int.add_nonneg h0 hp) h ?_
      rw [show r + ((2 ^ k : Nat) : Int) + ((2 ^ k : Nat) : Int) = r + ((2 ^ (k + 1) : Nat) : Int) by rw [Nat.pow_succ]; omega]
      exact h2
    · rw [decide_eq_false h, cond_false]
      exact ih h0 h1 (by omega)
/-- The greatest number whose square is at most a number (that is less than 2^80). -/
def rootI (n : Int) : Int := rootGo n 40 0
theorem rootI_eq {n r : Int} (h : IsRoot n r) (hr : r < 1099511627776) : rootI n = r := by
  have h2 := Int.mul_le_mul (show r + 1 ≤ 1099511627776 by omega) (show r + 1 ≤ 1099511627776 by omega) (by omega) (by omega)
  have h3 := Int.mul_nonneg h.1 h.1
  refine isRoot_uniq (rootGo_ok (k := 40) (r := 0) (Int.le_refl 0) (by omega) ?_) h
  rw [show (0 : Int) + ((2 ^ 40 : Nat) : Int) = 1099511627776 by decide]
  omega
theorem s115 (x n : Int) (hx : 0 ≤ x ∧ x ≤ 67108864) : E F (d + 1) 115 [.int .i64 x, .rptr 1 1 (fun _ => [.int .i64 n]) 0 0] = some (.ret (.bool (decide (n < x * x)))) := by
  have h := mulB hx hx
  rw [E_succ, t115, wr (by omega)]
theorem s105 (n : Int) (h0 : 0 ≤ n) (h1 : n < 67108863 * 67108863) (hF : 67108864 < F) : E F (d + 3) 105 [.int .i64 n] = some (.ret (.int .i64 (rootI n))) ∧ IsRoot n (rootI n) := by
  obtain ⟨r, e, r1, r2, r3, r4⟩ := firstLaw (fun fu i j => L7601x0 (E F (d + 1)) F 1 67108864 n fu i j) (fun x => decide (n < x * x)) 1 67108864 (by
    intro fu i j a1 a2 a3
    rw [L7601x0s]
    by_cases hij : i < j
    · simp only [mid_wr (show -2305843009213693952 ≤ i by omega) a2 (by omega), wr (show _ ∧ i + (j - i) / 2 + 1 ≤ _ by omega), s115 F d _ n (show 0 ≤ i + (j - i) / 2 ∧ _ by omega), tkOut_ret, tkBool_b]
    · simp only [hij, decide_false, cond_false]) 67108863 F 1 67108864 (by omega) (by omega) (by omega) (by omega) (by omega)
  have hr : IsRoot n (r - 1) := by
    refine ⟨by omega, ?_, ?_⟩
    · by_cases h : 1 < r
      · have := of_decide_eq_false (r4 h); omega
      · have : r - 1 = 0 := by omega
        rw [this]; omega
    · rw [show r - 1 + 1 = r by omega]
      by_cases h : r < 67108864
      · exact of_decide_eq_true (r3 h)
      · have : r = 67108864 := by omega
        rw [this]; omega
  refine ⟨?_, rootI_eq hr (by omega) ▸ hr⟩
  have e' : L7601x0 (E F (d + 1)) F 1 67108864 n F 1 67108864 = _ := e
  rw [E_succ, t105, E_succ, t7601, e']
  simp only [tkOut_ret, tkInt_i, decide_true, cond_true]
  rw [wr (by omega), rootI_eq hr (by omega)]
theorem l104 (n : Int) (h0 : 0 ≤ n) (h1 : n < 2147483648 * 2147483648) : ∀ k fu i j, (j - i).toNat ≤ k → k < fu → 0 ≤ i → i ≤ j → j ≤ 2147483648 → i * i ≤ n → n < (j + 1) * (j + 1) →
    L104x0 (E F d) F n fu i j = some (.ret (.int .i64 (rootI n))) ∧ IsRoot n (rootI n) := by
  intro k
  induction k with
  | zero =>
    intro fu i j h hf g0 g1 g2 g3 g4
    obtain ⟨fu, rfl⟩ : ∃ k, fu = k + 1 := ⟨fu - 1, by omega⟩
    have : j = i := by omega
    subst this
    have hr : IsRoot n j := ⟨g0, g3, g4⟩
    rw [L104x0s, rootI_eq hr (by omega), decide_eq_false (by omega), cond_false]
    exact ⟨rfl, hr⟩
  | succ k ih =>
    intro fu i j h hf g0 g1 g2 g3 g4
    obtain ⟨fu, rfl⟩ : ∃ k, fu = k + 1 := ⟨fu - 1, by omega⟩
    rw [L104x0s]
    by_cases hij : i < j
    · have hm : IntKind.i64.wrap (Int.tdiv (IntKind.i64.wrap (IntKind.i64.wrap (i + j) + 1)) 2) = (i + j + 1) / 2 := by
        rw [wr (show _ ∧ i + j ≤ _ by omega), wr (show _ ∧ i + j + 1 ≤ _ by omega), Int.tdiv_eq_ediv_of_nonneg (by omega), wr (by omega)]
      have hmm := @mulB ((i + j + 1) / 2) ((i + j + 1) / 2) 2147483648 2147483648 (by omega) (by omega)
      rw [hm, wr (show _ ∧ (i + j + 1) / 2 * ((i + j + 1) / 2) ≤ _ by omega), wr (show _ ∧ (i + j + 1) / 2 - 1 ≤ _ by omega), decide_eq_true hij, cond_true]
      by_cases hc : (i + j + 1) / 2 * ((i + j + 1) / 2) ≤ n
      · rw [decide_eq_true hc, cond_true]
        exact ih fu _ _ (by omega) (by omega) (by omega) (by omega) (by omega) hc g4
      · rw [decide_eq_false hc, cond_false]
        refine ih fu _ _ (by omega) (by omega) (by omega) (by omega) (by omega) g3 ?_
        rw [show (i + j + 1) / 2 - 1 + 1 = (i + j + 1) / 2 by omega]; omega
    · have : j = i := by omega
      subst this
      have hr : IsRoot n j := ⟨g0, g3, g4⟩
      rw [rootI_eq hr (by omega), decide_eq_false (by omega), cond_false]
      exact ⟨rfl, hr⟩
theorem s104 (n : Int) (h0 : 0 ≤ n) (h1 : n < 2147483648 * 2147483648) (hF : 2147483648 < F) : E F (d + 1) 104 [.int .i64 n] = some (.ret (.int .i64 (rootI n))) := by
  rw [E_succ, t104]
  exact (l104 F d n h0 h1 2147483648 F 0 2147483648 (by omega) hF (by omega) (by omega) (by omega) (by omega) (by omega)).1
/-! ### walls -/
/-- The distance of two caverns, in millimetres. -/
def distI (a b : Cav) : Int := rootI (1000 * (a.x - b.x) * (1000 * (a.x - b.x)) + 1000 * (a.y - b.y) * (1000 * (a.y - b.y)))
theorem wall_wr (a b : Cav) (ha : Place a.x a.y) (hb : Place b.x b.y) :
    IntKind.i64.wrap (a.x - b.x) = a.x - b.x ∧ IntKind.i64.wrap (a.y - b.y) = a.y - b.y ∧ IntKind.i64.wrap (1000 * (a.x - b.x)) = 1000 * (a.x - b.x) ∧ IntKind.i64.wrap (1000 * (a.y - b.y)) = 1000 * (a.y - b.y) ∧
    IntKind.i64.wrap (1000 * (a.x - b.x) * (1000 * (a.x - b.x))) = 1000 * (a.x - b.x) * (1000 * (a.x - b.x)) ∧ IntKind.i64.wrap (1000 * (a.y - b.y) * (1000 * (a.y - b.y))) = 1000 * (a.y - b.y) * (1000 * (a.y - b.y)) ∧
    IntKind.i64.wrap (1000 * (a.x - b.x) * (1000 * (a.x - b.x)) + 1000 * (a.y - b.y) * (1000 * (a.y - b.y))) = 1000 * (a.x - b.x) * (1000 * (a.x - b.x)) + 1000 * (a.y - b.y) * (1000 * (a.y - b.y)) ∧
    0 ≤ 1000 * (a.x - b.x) * (1000 * (a.x - b.x)) + 1000 * (a.y - b.y) * (1000 * (a.y - b.y)) ∧ 1000 * (a.x - b.x) * (1000 * (a.x - b.x)) + 1000 * (a.y - b.y) * (1000 * (a.y - b.y)) < 67108863 * 67108863 := by
  have h1 := @sqB (1000 * (a.x - b.x)) 20000000 (by omega)
  have h2 := @sqB (1000 * (a.y - b.y)) 20000000 (by omega)
  exact ⟨wr (by omega), wr (by omega), wr (by omega), wr (by omega), wr (by omega), wr (by omega), wr (by omega), by omega, by omega⟩
theorem distI_le (a b : Cav) (ha : Place a.x a.y) (hb : Place b.x b.y) : 0 ≤ distI a b ∧ distI a b < 67108863 := by
  obtain ⟨_, _, _, _, _, _, _, w8, w9⟩ := wall_wr a b ha hb
  obtain ⟨_, h1, h2, h3⟩ := s105 67108865 0 _ w8 w9 (by omega)
  refine ⟨h1, Int.not_le.1 fun h => ?_⟩
  have := Int.mul_le_mul h h (by omega) h1
  unfold distI at this
  omega
theorem s73 (s : Site) (i j : Nat) (a b : Int) (hi : i < s.cavs.len) (hj : j < s.cavs.len) (pi : Place (s.cavs.el i).x (s.cavs.el i).y) (pj : Place (s.cavs.el j).x (s.cavs.el j).y)
    (ha : 0 ≤ a ∧ a ≤ 1000000) (hb : 0 ≤ b ∧ b ≤ 1000000) (hF : 67108864 < F) :
    E F (d + 4) 73 [pSite s, .int .i64 (i : Int), .int .i64 (j : Int), .int .i64 a, .int .i64 b] = some (.ret (.int .i64 (distI (s.cavs.el i) (s.cavs.el j) - a - b))) := by
  obtain ⟨w1, w2, w3, w4, w5, w6, w7, w8, w9⟩ := wall_wr _ _ pi pj
  have hd := distI_le _ _ pi pj
  rw [E_succ, t73]
  simp only [Int.natCast_nonneg, Int.ofNat_lt, hi, hj, decide_true, cond_true, Int.toNat_natCast, w1, w2, w3, w4, w5, w6, w7, (s105 F d _ w8 w9 hF).1, tkOut_ret, tkInt_i]
  refine congrArg (fun x => some (Out.ret (.int .i64 x))) ?_
  unfold distI at hd ⊢
  rw [wr (show _ ∧ rootI _ - a ≤ _ by omega), wr (by omega)]
theorem s71 (s : Site) (i j : Nat) (hi : i < s.cavs.len) (hj : j < s.cavs.len) (pi : Place (s.cavs.el i).x (s.cavs.el i).y) (pj : Place (s.cavs.el j).x (s.cavs.el j).y) (hF : 2147483648 < F) :
    E F (d + 2) 71 [.agg (eSite s), .int .i64 (i : Int), .int .i64 (j : Int)] = some (.ret (.int .i64 (distI (s.cavs.el i) (s.cavs.el j)))) := by
  obtain ⟨w1, w2, w3, w4, w5, w6, w7, w8, w9⟩ := wall_wr _ _ pi pj
  rw [E_succ, t71]
  simp only [Int.natCast_nonneg, Int.ofNat_lt, hi, hj, decide_true, cond_true, Int.toNat_natCast, w1, w2, w3, w4, w5, w6, w7, s104 F d _ w8 (by omega) hF, tkOut_ret, tkInt_i]
  rfl
theorem s40 (s : Site) (i j : Nat) (p q : Span) (hi : i < s.cavs.len) (hj : j < s.cavs.len) (pi : Place (s.cavs.el i).x (s.cavs.el i).y) (pj : Place (s.cavs.el j).x (s.cavs.el j).y)
    (hp : SpanIn p 0 1000000) (hq : SpanIn q 0 1000000) (hF : 2147483648 < F) :
    E F (d + 3) 40 [.agg (eSite s), .int .i64 (i : Int), .int .i64 (j : Int), .agg (eSpan p), .agg (eSpan q)] =
      some (.ret (.agg [.int .i64 (distI (s.cavs.el i) (s.cavs.el j) - p.hi - q.hi), .int .i64 (distI (s.cavs.el i) (s.cavs.el j) - p.lo - q.lo)])) := by
  have hd := distI_le _ _ pi pj
  rw [E_succ, t40]
  simp only [s71 F d s i j hi hj pi pj hF, tkOut_ret, tkInt_i, decide_true, cond_true]
  rw [wr (show _ ∧ distI (s.cavs.el i) (s.cavs.el j) - p.hi ≤ _ by omega), wr (show _ ∧ distI (s.cavs.el i) (s.cavs.el j) - p.lo ≤ _ by omega), wr (show _ ∧ distI (s.cavs.el i) (s.cavs.el j) - p.hi - q.hi ≤ _ by omega), wr (show _ ∧ distI (s.cavs.el i) (s.cavs.el j) - p.lo - q.lo ≤ _ by omega)]
end Go.Sim.Cr

/-
  Which sites are as defined, in plain terms: what the program says of it.
-/
namespace Go.Sim.Cr
open Go.Proofs
variable (F d : Nat)
def rowStep (s : Site) : Nat → Bool
  | 0 => decide ((s.rows.el 0).deficit = 0)
  | j + 1 => decide ((s.rows.el j).deficit < (s.rows.el (j + 1)).deficit) && (decide ((s.rows.el j).rate.lo ≤ (s.rows.el (j + 1)).rate.lo ∧ (s.rows.el j).rate.hi ≤ (s.rows.el (j + 1)).rate.hi) &&
      decide ((s.rows.el j).spall.lo ≤ (s.rows.el (j + 1)).spall.lo ∧ (s.rows.el j).spall.hi ≤ (s.rows.el (j + 1)).spall.hi))
def rowB (s : Site) (i : Nat) : Bool := decide (0 ≤ (s.rows.el i).deficit ∧ (s.rows.el i).deficit ≤ 50000) && (decide (SpanIn (s.rows.el i).rate 0 100000) && (decide (SpanIn (s.rows.el i).spall 0 1000) && rowStep s i))
def heatStep (s : Site) : Nat → Bool
  | 0 => true
  | j + 1 => decide ((s.heats.el j).warmth < (s.heats.el (j + 1)).warmth) && decide ((s.heats.el j).factor.lo ≤ (s.heats.el (j + 1)).factor.lo ∧ (s.heats.el j).factor.hi ≤ (s.heats.el (j + 1)).factor.hi)
def heatB (s : Site) (i : Nat) : Bool := decide (0 ≤ (s.heats.el i).warmth ∧ (s.heats.el i).warmth ≤ 10000) && (decide (SpanIn (s.heats.el i).factor 0 10000) && heatStep s i)
def ringStep (s : Site) : Nat → Bool
  | 0 => true
  | j + 1 => decide ((s.rings.el j).away < (s.rings.el (j + 1)).away)
def ringB (s : Site) (i : Nat) : Bool := decide (0 ≤ (s.rings.el i).away ∧ (s.rings.el i).away ≤ 40000) && (decide (SpanIn (s.rings.el i).share 0 1000000) && ringStep s i)
def lens (s : Site) : Bool := decide ((1 ≤ s.rows.len ∧ s.rows.len ≤ 8) ∧ (1 ≤ s.heats.len ∧ s.heats.len ≤ 8) ∧ s.rings.len ≤ 8)
def tablesB (s : Site) : Bool := allF (rowB s) (allF (heatB s) (allF (ringB s) (lens s) s.rings.len 0) s.heats.len 0) s.rows.len 0
theorem wrP (j : Nat) (h : j < Big) : IntKind.i64.wrap (((j + 1 : Nat) : Int) - 1) = (j : Int) := by
  have h' : j < 4611686018427387904 := h
  rw [wr (by omega)]; omega
theorem cNandL (a : Bool) {x : Option Out} {b : Bool} (h : x = some (.ret (.bool b))) : (bif a then some (Out.ret (.bool false)) else x) = some (.ret (.bool (!a && b))) := by subst h; exact cNand a b
theorem nle (a b : Int) : (!decide (a ≤ b)) = decide (b < a) := by apply b2; simp only [Bool.not_eq_true', decide_eq_false_iff_not, decide_eq_true_iff]; omega

theorem l78x2 (s : Site) (hB : s.rings.len < Big) : ∀ n i fu, s.rings.len = i + n → n < fu →
    L78x2 (E F (d + 1)) F s fu (i : Int) = some (.ret (.bool (allF (ringB s) (lens s) n i))) := by
  intro n
  induction n with
  | zero =>
    intro i fu h hf
    obtain ⟨fu, rfl⟩ : ∃ k, fu = k + 1 := ⟨fu - 1, by omega⟩
    rw [L78x2s]
    simp only [Int.ofNat_lt, show ¬ i < s.rings.len by omega, decide_false, cond_false, allF, s72, tkOut_ret, tkBool_b, cAnd]
    refine b3 ?_
    unfold lens
    simp only [Bool.decide_and, Bool.and_assoc, show ∀ k : Nat, ((1 : Int) ≤ (k : Int)) ↔ 1 ≤ k by omega, show ∀ k : Nat, ((k : Int) ≤ 8) ↔ k ≤ 8 by omega]
  | succ n ih =>
    intro i fu h hf
    obtain ⟨fu, rfl⟩ : ∃ k, fu = k + 1 := ⟨fu - 1, by omega⟩
    rw [L78x2s]
    match i with
    | 0 =>
      simp only [Int.ofNat_lt, show 0 < s.rings.len by omega, decide_true, cond_true, Int.natCast_nonneg, Int.toNat_natCast, s72, s74, tkOut_ret, tkBool_b, wrS (show 0 < Big by omega), ih (0 + 1) fu (by omega) (by omega), allF, cNand, Bool.not_not, ringB, ringStep, gt_iff_lt, Bool.and_true, Bool.and_assoc]
      simp only [show decide ((0 : Int) < ((0 : Nat) : Int)) = false from rfl, cond_false, cNand, Bool.not_not]
    | j + 1 =>
      simp only [Int.ofNat_lt, show j + 1 < s.rings.len by omega, show j < s.rings.len by omega, decide_true, cond_true, Int.natCast_nonneg, Int.toNat_natCast, s72, s74, tkOut_ret, tkBool_b, wrS (show j + 1 < Big by omega), wrP j (by omega), ih (j + 1 + 1) fu (by omega) (by omega), allF, cNand, Bool.not_not, ringB, ringStep, gt_iff_lt, show (0 : Int) < ((j + 1 : Nat) : Int) by omega, nle, Bool.and_assoc]
theorem l78x1 (s : Site) (hB : s.heats.len < Big) (hB2 : s.rings.len < Big) (hF2 : s.rings.len < F) : ∀ n i fu, s.heats.len = i + n → n < fu →
    L78x1 (E F (d + 1)) F s fu (i : Int) = some (.ret (.bool (allF (heatB s) (allF (ringB s) (lens s) s.rings.len 0) n i))) := by
  intro n
  induction n with
  | zero =>
    intro i fu h hf
    obtain ⟨fu, rfl⟩ : ∃ k, fu = k + 1 := ⟨fu - 1, by omega⟩
    rw [L78x1s]
    simp only [Int.ofNat_lt, show ¬ i < s.heats.len by omega, decide_false, cond_false, allF]
    exact l78x2 F d s hB2 s.rings.len 0 F (by omega) hF2
  | succ n ih =>
    intro i fu h hf
    obtain ⟨fu, rfl⟩ : ∃ k, fu = k + 1 := ⟨fu - 1, by omega⟩
    rw [L78x1s]
    match i with
    | 0 =>
      simp only [Int.ofNat_lt, show 0 < s.heats.len by omega, decide_true, cond_true, Int.natCast_nonneg, Int.toNat_natCast, s72, s74, tkOut_ret, tkBool_b, wrS (show 0 < Big by omega), ih (0 + 1) fu (by omega) (by omega), allF, cNand, Bool.not_not, heatB, heatStep, gt_iff_lt, Bool.and_true, Bool.and_assoc]
      simp only [show decide ((0 : Int) < ((0 : Nat) : Int)) = false from rfl, cond_false, cNand, Bool.not_not]
    | j + 1 =>
      simp only [Int.ofNat_lt, show j + 1 < s.heats.len by omega, show j < s.heats.len by omega, decide_true, cond_true, Int.natCast_nonneg, Int.toNat_natCast, s72, s74, s107, tkOut_ret, tkBool_b, wrS (show j + 1 < Big by omega), wrP j (by omega), ih (j + 1 + 1) fu (by omega) (by omega), allF, cNand, Bool.not_not, heatB, heatStep, gt_iff_lt, show (0 : Int) < ((j + 1 : Nat) : Int) by omega, nle, Bool.and_assoc]
theorem l78x0 (s : Site) (hB0 : s.rows.len < Big) (hB : s.heats.len < Big) (hF : s.heats.len < F) (hB2 : s.rings.len < Big) (hF2 : s.rings.len < F) : ∀ n i fu, s.rows.len = i + n → n < fu →
    L78x0 (E F (d + 1)) F s fu (i : Int) = some (.ret (.bool (allF (rowB s) (allF (heatB s) (allF (ringB s) (lens s) s.rings.len 0) s.heats.len 0) n i))) := by
  intro n
  induction n with
  | zero =>
    intro i fu h hf
    obtain ⟨fu, rfl⟩ : ∃ k, fu = k + 1 := ⟨fu - 1, by omega⟩
    rw [L78x0s]
    simp only [Int.ofNat_lt, show ¬ i < s.rows.len by omega, decide_false, cond_false, allF]
    exact l78x1 F d s hB hB2 hF2 s.heats.len 0 F (by omega) hF
  | succ n ih =>
    intro i fu h hf
    obtain ⟨fu, rfl⟩ : ∃ k, fu = k + 1 := ⟨fu - 1, by omega⟩
    rw [L78x0s]
    match i with
    | 0 =>
      simp only [Int.ofNat_lt, show 0 < s.rows.len by omega, decide_true, cond_true, Int.natCast_nonneg, Int.toNat_natCast, s72, s74, tkOut_ret, tkBool_b, wrS (show 0 < Big by omega), ih (0 + 1) fu (by omega) (by omega), allF, cNand, Bool.not_not, rowB, rowStep, gt_iff_lt, Bool.and_assoc]
      simp only [show decide ((0 : Int) < ((0 : Nat) : Int)) = false from rfl, show (((0 : Nat) : Int) == 0) = true from rfl, cond_false, cond_true, cNand, Bool.not_not, bne, beqI]
    | j + 1 =>
      simp only [Int.ofNat_lt, show j + 1 < s.rows.len by omega, show j < s.rows.len by omega, decide_true, cond_true, Int.natCast_nonneg, Int.toNat_natCast, s72, s74, s107, tkOut_ret, tkBool_b, wrS (show j + 1 < Big by omega), wrP j (by omega), ih (j + 1 + 1) fu (by omega) (by omega), allF, cNand, Bool.not_not, rowB, rowStep, gt_iff_lt, show (0 : Int) < ((j + 1 : Nat) : Int) by omega, nle, Bool.and_assoc,
        show (((j + 1 : Nat) : Int) == 0) = false from beq_eq_false_iff_ne.2 (by omega), cond_false]
theorem s78 (s : Site) (hB0 : s.rows.len < Big) (hF0 : s.rows.len < F) (hB : s.heats.len < Big) (hF : s.heats.len < F) (hB2 : s.rings.len < Big) (hF2 : s.rings.len < F) :
    E F (d + 2) 78 [.agg (eSite s)] = some (.ret (.bool (tablesB s))) := by
  rw [E_succ, t78]
  exact l78x0 F d s hB0 hB hF hB2 hF2 s.rows.len 0 F (by omega) hF0

def cavB (s : Site) (i : Nat) : Bool := decide (CavOk (s.cavs.el i)) && decide (∀ k, k < i → ¬ ((s.cavs.el k).x = (s.cavs.el i).x ∧ (s.cavs.el k).y = (s.cavs.el i).y))
def housesB (s : Site) : Bool := decide (∀ i, i < s.houses.len → HouseOk (s.houses.el i))
/-- All lists are short enough to be counted. -/
structure Small (s : Site) (F : Nat) : Prop where
  cavs : s.cavs.len < Big
  rows : s.rows.len < Big
  heats : s.heats.len < Big
  rings : s.rings.len < Big
  houses : s.houses.len < Big
  cavsF : s.cavs.len < F
  rowsF : s.rows.len < F
  heatsF : s.heats.len < F
  ringsF : s.rings.len < F
  housesF : s.houses.len < F
def siteB (s : Site) : Bool := decide (1 ≤ s.cavs.len ∧ s.cavs.len ≤ 5) && (tablesB s && (decide (0 ≤ s.wall ∧ s.wall ≤ 1000000) && (decide (s.houses.len ≤ 5) && allF (cavB s) (housesB s) s.cavs.len 0)))
theorem l48 (s : Site) (hs : Small s F) : ∀ n i fu, s.cavs.len = i + n → n < fu →
    L48x0 (E F (d + 5)) F s fu (i : Int) = some (.ret (.bool (allF (cavB s) (housesB s) n i))) := by
  intro n
  induction n with
  | zero =>
    intro i fu h hf
    obtain ⟨fu, rfl⟩ : ∃ k, fu = k + 1 := ⟨fu - 1, by omega⟩
    rw [L48x0s]
    simp only [Int.ofNat_lt, show ¬ i < s.cavs.len by omega, decide_false, cond_false, allF, s82 F d s.houses hs.houses hs.housesF, tkOut_ret, tkBool_b, Bool.not_not, housesB]
  | succ n ih =>
    intro i fu h hf
    obtain ⟨fu, rfl⟩ : ∃ k, fu = k + 1 := ⟨fu - 1, by omega⟩
    rw [L48x0s]
    have h80 := s80 F (d + 2) ⟨s.cavs.nl, i, s.cavs.el⟩ (s.cavs.el i) (by show i < Big; have := hs.cavs; omega) (by show i < F; have := hs.cavsF; omega)
    simp only [Nat.add_assoc, Nat.reduceAdd] at h80
    have hb := hs.cavs
    simp only [Int.ofNat_lt, show i < s.cavs.len by omega, decide_true, cond_true, Int.natCast_nonneg, Int.toNat_natCast, s79, tkOut_ret, tkBool_b, wrS (show i < Big by omega), ih (i + 1) fu (by omega) (by omega), allF, cNand, Bool.not_not, Bool.true_or, Nat.zero_le, show i ≤ s.cavs.len by omega, Nat.sub_zero, h80, cavB, Bool.and_assoc]
theorem s48 (s : Site) (hs : Small s F) : E F (d + 6) 48 [.agg (eSite s)] = some (.ret (.bool (siteB s))) := by
  rw [E_succ, t48, show L48x0 (E F (d + 5)) F s F 0 = _ from l48 F d s hs s.cavs.len 0 F (by omega) hs.cavsF]
  simp only [s72, s78 F (d + 3) s hs.rows hs.rowsF hs.heats hs.heatsF hs.rings hs.ringsF, tkOut_ret, tkBool_b, cNand, Bool.not_not]
  refine b3 ?_
  simp only [siteB, Bool.and_assoc, Bool.decide_and, show ∀ k : Nat, ((1 : Int) ≤ (k : Int)) ↔ 1 ≤ k by omega, show ∀ k : Nat, ((k : Int) ≤ 5) ↔ k ≤ 5 by omega, gt_iff_lt, show ∀ k : Nat, ((5 : Int) < (k : Int)) ↔ ¬ k ≤ 5 by omega, decide_not, Bool.not_not]
end Go.Sim.Cr

/-
  Facts of a site that is as defined; the subsidence at a place, in plain terms.
-/
namespace Go.Sim.Cr
open Go.Proofs
variable (F d : Nat)
structure SiteF (s : Site) : Prop where
  cavs1 : 1 ≤ s.cavs.len
  cavs5 : s.cavs.len ≤ 5
  cav : ∀ i, i < s.cavs.len → CavOk (s.cavs.el i)
  apart : ∀ i k, i < s.cavs.len → k < i → ¬ ((s.cavs.el k).x = (s.cavs.el i).x ∧ (s.cavs.el k).y = (s.cavs.el i).y)
  wall : 0 ≤ s.wall ∧ s.wall ≤ 1000000
  houses5 : s.houses.len ≤ 5
  house : ∀ i, i < s.houses.len → HouseOk (s.houses.el i)
  row : ∀ i, i < s.rows.len → rowB s i = true
  heat : ∀ i, i < s.heats.len → heatB s i = true
  ring : ∀ i, i < s.rings.len → ringB s i = true
  rows1 : 1 ≤ s.rows.len
  rows8 : s.rows.len ≤ 8
  heats1 : 1 ≤ s.heats.len
  heats8 : s.heats.len ≤ 8
  rings8 : s.rings.len ≤ 8
theorem siteB_iff (s : Site) : siteB s = true ↔ SiteF s := by
  simp only [siteB, tablesB, lens, cavB, housesB, Bool.and_eq_true, allF_0, decide_eq_true_iff]
  constructor
  · rintro ⟨⟨h1, h2⟩, ⟨h3, h4, h5, ⟨h6, h7⟩, ⟨h8, h9⟩, h10⟩, h11, h12, h13, h14⟩
    exact ⟨h1, h2, fun i hi => (h13 i hi).1, fun i k hi hk => (h13 i hi).2 k hk, h11, h12, h14, h3, h4, h5, h6, h7, h8, h9, h10⟩
  · intro h
    exact ⟨⟨h.cavs1, h.cavs5⟩, ⟨h.row, h.heat, h.ring, ⟨h.rows1, h.rows8⟩, ⟨h.heats1, h.heats8⟩, h.rings8⟩, h.wall, h.houses5, fun k hk => ⟨h.cav k hk, fun j hj => h.apart k j hk hj⟩, h.house⟩
theorem SiteF.away {s : Site} (h : SiteF s) : AwayOk s := fun i hi => by
  have := h.ring i hi
  simp only [ringB, Bool.and_eq_true, decide_eq_true_iff] at this
  exact this.1
theorem SiteF.share {s : Site} (h : SiteF s) (i : Nat) (hi : i < s.rings.len) : SpanIn (s.rings.el i).share 0 1000000 := by
  have := h.ring i hi
  simp only [ringB, Bool.and_eq_true, decide_eq_true_iff] at this
  exact this.2.1
theorem ringFrom_ok {s : Site} (h : SiteF s) (c : Cav) (x y : Int) : ∀ n i, s.rings.len = i + n → SpanIn ((ringFrom s c x y n i).getD zSpan) 0 1000000 := by
  intro n
  induction n with
  | zero => intro i _; exact (by decide : SpanIn zSpan 0 1000000)
  | succ n ih =>
    intro i hi
    simp only [ringFrom]
    cases decide (dist2 c x y ≤ (s.rings.el i).away * (s.rings.el i).away)
    · exact ih (i + 1) (by omega)
    · exact h.share i (by omega)
/-- The share of a cavern at a place; nothing, if it is too far away. -/
abbrev shareOf (s : Site) (c : Cav) (x y : Int) : Span := (ringOf s c x y).getD zSpan
theorem shareOf_ok {s : Site} (h : SiteF s) (c : Cav) (x y : Int) : SpanIn (shareOf s c x y) 0 1000000 := ringFrom_ok h c x y s.rings.len 0 (by omega)

def sunkFrom (s : Site) (l : Sl Stt) (x y : Int) : Nat → Nat → Int → Int → Span
  | 0, _, a, b => ⟨a, b⟩
  | n + 1, i, a, b => sunkFrom s l x y n (i + 1) (a + (l.el i).lost.lo * (shareOf s (s.cavs.el i) x y).lo / 1000000) (b + ((l.el i).lost.hi * (shareOf s (s.cavs.el i) x y).hi + 999999) / 1000000)
/-- The bounds of the subsidence at a place. -/
def sunk (s : Site) (l : Sl Stt) (x y : Int) : Span := sunkFrom s l x y l.len 0 0 0
theorem lowW {v q a : Int} (hv : 0 ≤ v ∧ v ≤ 1000000000) (hq : 0 ≤ q ∧ q ≤ 1000000) (ha : 0 ≤ a ∧ a ≤ 1000000000000) : IntKind.i64.wrap (a + IntKind.i64.wrap (Int.tdiv (IntKind.i64.wrap (v * q)) 1000000)) = a + v * q / 1000000 := by
  have h := mulB hv hq
  rw [wr (show _ ∧ v * q ≤ _ by omega), Int.tdiv_eq_ediv_of_nonneg (by omega), wr (show _ ∧ v * q / 1000000 ≤ _ by omega), wr (by omega)]
theorem highW {v q a : Int} (hv : 0 ≤ v ∧ v ≤ 1000000000) (hq : 0 ≤ q ∧ q ≤ 1000000) (ha : 0 ≤ a ∧ a ≤ 1000000000000) : IntKind.i64.wrap (a + IntKind.i64.wrap (Int.tdiv (IntKind.i64.wrap (IntKind.i64.wrap (v * q) + 999999)) 1000000)) = a + (v * q + 999999) / 1000000 := by
  have h := mulB hv hq
  rw [wr (show _ ∧ v * q ≤ _ by omega), wr (show _ ∧ v * q + 999999 ≤ _ by omega), Int.tdiv_eq_ediv_of_nonneg (by omega), wr (show _ ∧ (v * q + 999999) / 1000000 ≤ _ by omega), wr (by omega)]
theorem div_ok {v q r : Int} (hv : 0 ≤ v ∧ v ≤ 1000000000) (hq : 0 ≤ q ∧ q ≤ 1000000) (hr : 0 ≤ r ∧ r ≤ 999999) : 0 ≤ (v * q + r) / 1000000 ∧ (v * q + r) / 1000000 ≤ 1000000000 := by
  have h := mulB hv hq
  omega
theorem l53 (s : Site) (l : Sl Stt) (x y : Int) (hS : SiteF s) (hl : l.len = s.cavs.len) (hb : ∀ i, i < l.len → SttOk (l.el i)) (hp : Place x y) (hF : s.rings.len < F) : ∀ n i fu a b, l.len = i + n → n < fu →
    0 ≤ a ∧ a ≤ (i : Int) * 1000000000 → 0 ≤ b ∧ b ≤ (i : Int) * 1000000000 →
    L53x0 (E F (d + 1)) F s l x y fu (i : Int) a b = some (.ret (.agg (eSpan (sunkFrom s l x y n i a b)))) := by
  have h5 := hS.cavs5
  have h8 := hS.rings8
  intro n
  induction n with
  | zero =>
    intro i fu a b h hf ha hb
    obtain ⟨fu, rfl⟩ : ∃ k, fu = k + 1 := ⟨fu - 1, by omega⟩
    rw [L53x0s]
    simp only [Int.ofNat_lt, show ¬ i < l.len by omega, decide_false, cond_false, sunkFrom]
  | succ n ih =>
    intro i fu a b h hf ha hb'
    obtain ⟨fu, rfl⟩ : ∃ k, fu = k + 1 := ⟨fu - 1, by omega⟩
    rw [L53x0s]
    have hq := shareOf_ok hS (s.cavs.el i) x y
    have hv := (hb i (by omega)).2.2
    have hi5 : (i : Int) ≤ 5 := by omega
    have d0 := @div_ok (l.el i).lost.lo (shareOf s (s.cavs.el i) x y).lo 0 (by omega) (by omega) (by omega)
    have d1 := @div_ok (l.el i).lost.hi (shareOf s (s.cavs.el i) x y).hi 999999 (by omega) (by omega) (by omega)
    rw [Int.add_zero] at d0
    simp only [Int.ofNat_lt, show i < l.len by omega, show i < s.cavs.len by omega, decide_true, cond_true, Int.natCast_nonneg, Int.toNat_natCast,
      s92 F d s (s.cavs.el i) x y hS.away (hS.cav i (by omega)).1 hp (show s.rings.len < 4611686018427387904 by omega) hF, tkOut_ret, tkAgg_a, tkCons_c, tkInt_i, tkNil_n,
      wrS (show i < 4611686018427387904 by omega), @lowW (l.el i).lost.lo (shareOf s (s.cavs.el i) x y).lo a (by omega) (by omega) (by omega), @highW (l.el i).lost.hi (shareOf s (s.cavs.el i) x y).hi b (by omega) (by omega) (by omega), sunkFrom]
    exact ih (i + 1) fu _ _ (by omega) (by omega) (by omega) (by omega)
theorem s53 (s : Site) (l : Sl Stt) (x y : Int) (hS : SiteF s) (hL : StatesOk s l) (hp : Place x y) (hF : 8 < F) :
    E F (d + 2) 53 [pSite s, sl eStt 6 l, .int .i64 x, .int .i64 y] = some (.ret (.agg (eSpan (sunk s l x y)))) := by
  have h5 := hS.cavs5
  have h8 := hS.rings8
  have hl := hL.1
  rw [E_succ, t53]
  exact l53 F d s l x y hS hL.1 hL.2 hp (by omega) l.len 0 F 0 0 (by omega) (by omega) (by omega) (by omega)
theorem l19 (s : Site) (l : Sl Stt) (x y : Int) (hS : SiteF s) (hl : l.len = s.cavs.len) (hb : ∀ i, i < l.len → SttOk (l.el i)) (hp : Place x y) (hF : s.rings.len < F) : ∀ n i fu a b, l.len = i + n → n < fu →
    0 ≤ a ∧ a ≤ (i : Int) * 1000000000 → 0 ≤ b ∧ b ≤ (i : Int) * 1000000000 →
    L19x0 (E F (d + 1)) F s l x y fu (i : Int) a b = some (.ret (.agg (eSpan (sunkFrom s l x y n i a b)))) := by
  have h5 := hS.cavs5
  have h8 := hS.rings8
  intro n
  induction n with
  | zero =>
    intro i fu a b h hf ha hb
    obtain ⟨fu, rfl⟩ : ∃ k, fu = k + 1 := ⟨fu - 1, by omega⟩
    rw [L19x0s]
    simp only [Int.ofNat_lt, show ¬ i < l.len by omega, decide_false, cond_false, sunkFrom]
  | succ n ih =>
    intro i fu a b h hf ha hb'
    obtain ⟨fu, rfl⟩ : ∃ k, fu = k + 1 := ⟨fu - 1, by omega⟩
    rw [L19x0s]
    have hq := shareOf_ok hS (s.cavs.el i) x y
    have hv := (hb i (by omega)).2.2
    have hi5 : (i : Int) ≤ 5 := by omega
    simp only [Int.ofNat_lt, show i < l.len by omega, decide_true, cond_true, Int.natCast_nonneg, Int.toNat_natCast,
      s29 F d s i x y hS.away (by omega) (hS.cav i (by omega)).1 hp (show s.rings.len < 4611686018427387904 by omega) hF, tkOut_ret, sunkFrom]
    have d0 := @div_ok (l.el i).lost.lo (shareOf s (s.cavs.el i) x y).lo 0 (by omega) (by omega) (by omega)
    have d1 := @div_ok (l.el i).lost.hi (shareOf s (s.cavs.el i) x y).hi 999999 (by omega) (by omega) (by omega)
    rw [Int.add_zero] at d0
    have e0 := @lowW (l.el i).lost.lo (shareOf s (s.cavs.el i) x y).lo a (by omega) (by omega) (by omega)
    have e1 := @highW (l.el i).lost.hi (shareOf s (s.cavs.el i) x y).hi b (by omega) (by omega) (by omega)
    have next := ih (i + 1) fu _ _ (by omega) (by omega) (show 0 ≤ a + (l.el i).lost.lo * (shareOf s (s.cavs.el i) x y).lo / 1000000 ∧ _ by omega) (show 0 ≤ b + ((l.el i).lost.hi * (shareOf s (s.cavs.el i) x y).hi + 999999) / 1000000 ∧ _ by omega)
    unfold shareOf at next e0 e1 ⊢
    cases hr : ringOf s (s.cavs.el i) x y with
    | none =>
      rw [hr] at next
      simp only [tkTup_t, tkCons_c, tkAgg_a, tkInt_i, tkNil_n, tkBool_b, cond_false, wrS (show i < 4611686018427387904 by omega)]
      simpa using next
    | some q =>
      rw [hr] at next e0 e1
      simp only [Option.getD_some] at e0 e1 next
      simp only [tkTup_t, tkCons_c, tkAgg_a, tkInt_i, tkNil_n, tkBool_b, cond_true, decide_true, wrS (show i < 4611686018427387904 by omega), e0, e1, Option.getD_some]
      exact next
theorem s19 (s : Site) (l : Sl Stt) (x y : Int) (hS : SiteF s) (hL : StatesOk s l) (hp : Place x y) (hF : 8 < F) :
    E F (d + 2) 19 [.agg (eSite s), sl eStt 6 l, .int .i64 x, .int .i64 y] = some (.ret (.agg (eSpan (sunk s l x y)))) := by
  have h5 := hS.cavs5
  have h8 := hS.rings8
  have hl := hL.1
  rw [E_succ, t19]
  exact l19 F d s l x y hS hL.1 hL.2 hp (by omega) l.len 0 F 0 0 (by omega) (by omega) (by omega) (by omega)
/-- What 'Sunk' answers. -/
theorem s15 (s : Site) (l : Sl Stt) (x y : Int) (hs : Small s F) (hB : l.len < Big) (hlF : l.len < F) (hF : 8 < F) :
    E F (d + 7) 15 [.agg (eSite s), sl eStt 6 l, .int .i64 x, .int .i64 y] = some (.ret (bif siteB s && (decide (StatesOk s l) && decide (Place x y)) then .tup [.agg (eSpan (sunk s l x y)), .int .i64 0] else .tup [.agg (eSpan zSpan), .int .i64 2])) := by
  rw [E_succ, t15]
  simp only [s48 F d s hs, tkOut_ret, tkBool_b, s49 F d s l hB hlF, s52, Nat.reduceAdd]
  cases h1 : siteB s
  · rfl
  · by_cases h2 : StatesOk s l
    · by_cases h3 : Place x y
      · simp only [decide_eq_true h2, decide_eq_true h3, Bool.not_true, cond_false, Bool.and_self, cond_true, s53 F (d + 4) s l x y ((siteB_iff s).1 h1) h2 h3 hF, tkOut_ret, tkAgg_a, tkCons_c, tkInt_i, tkNil_n]
      · simp only [decide_eq_true h2, decide_eq_false h3, Bool.not_true, Bool.not_false, cond_false, cond_true, Bool.and_false]
    · simp only [decide_eq_false h2, Bool.not_true, Bool.not_false, cond_false, cond_true, Bool.and_false, Bool.false_and]
end Go.Sim.Cr

/-
  Looking up numbers in tables, in plain terms.
-/
namespace Go.Sim.Cr
open Go.Proofs
variable (F d : Nat)
/-- Ever greater numbers. -/
abbrev Inc (num : Nat → Int) (n : Nat) : Prop := ∀ i, i + 1 < n → num i < num (i + 1)
theorem Inc.lt {num : Nat → Int} {n : Nat} (h : Inc num n) : ∀ {j i : Nat}, i < j → j < n → num i < num j := by
  intro j
  induction j with
  | zero => intro i h1; omega
  | succ j ih =>
    intro i h1 h2
    have h3 := h j h2
    by_cases h4 : i = j
    · subst h4; exact h3
    · have := @ih i (by omega) (by omega); omega
/-- The last index whose number is at most one. -/
def lastIx (num : Nat → Int) (x : Int) : Nat → Nat
  | 0 => 0
  | n + 1 => bif decide (num n ≤ x) then n else lastIx num x n
/-- The first index whose number is at least one, of so many from one on. -/
def firstIx (num : Nat → Int) (x : Int) : Nat → Nat → Nat
  | 0, i => i
  | n + 1, i => bif decide (x ≤ num i) then i else firstIx num x n (i + 1)
theorem lastIx_eq {num : Nat → Int} {x : Int} : ∀ {n i : Nat}, i < n → num i ≤ x → (∀ j, i < j → j < n → x < num j) → lastIx num x n = i := by
  intro n
  induction n with
  | zero => intro i h; omega
  | succ n ih =>
    intro i h1 h2 h3
    by_cases h4 : i = n
    · subst h4; rw [lastIx, decide_eq_true h2, cond_true]
    · rw [lastIx, decide_eq_false (by have := h3 n (by omega) (by omega); omega), cond_false]
      exact ih (by omega) h2 fun j h5 h6 => h3 j h5 (by omega)
theorem lastIx_ok {num : Nat → Int} {x : Int} : ∀ {n : Nat}, 0 < n → num 0 ≤ x → lastIx num x n < n ∧ num (lastIx num x n) ≤ x ∧ ∀ j, lastIx num x n < j → j < n → x < num j := by
  intro n
  induction n with
  | zero => intro h; omega
  | succ n ih =>
    intro _ h0
    by_cases h : num n ≤ x
    · rw [lastIx, decide_eq_true h, cond_true]
      exact ⟨by omega, h, fun j h1 h2 => by omega⟩
    · rw [lastIx, decide_eq_false h, cond_false]
      have hn : 0 < n := by
        rcases Nat.eq_zero_or_pos n with rfl | h
        · exact (h h0).elim
        · exact h
      obtain ⟨h1, h2, h3⟩ := ih hn h0
      refine ⟨by omega, h2, fun j h4 h5 => ?_⟩
      by_cases h6 : j = n
      · subst h6; omega
      · exact h3 j h4 (by omega)
theorem firstIx_eq {num : Nat → Int} {x : Int} : ∀ {n i k : Nat}, i ≤ k → k < i + n → x ≤ num k → (∀ j, i ≤ j → j < k → num j < x) → firstIx num x n i = k := by
  intro n
  induction n with
  | zero => intro i k h1 h2; omega
  | succ n ih =>
    intro i k h1 h2 h3 h4
    by_cases h5 : i = k
    · subst h5; rw [firstIx, decide_eq_true h3, cond_true]
    · rw [firstIx, decide_eq_false (by have := h4 i (by omega) (by omega); omega), cond_false]
      exact ih (by omega) (by omega) h3 fun j h6 h7 => h4 j (by omega) h7
theorem firstIx_ok {num : Nat → Int} {x : Int} : ∀ {n i : Nat}, 0 < n → x ≤ num (i + n - 1) → i ≤ firstIx num x n i ∧ firstIx num x n i < i + n ∧ x ≤ num (firstIx num x n i) ∧ ∀ j, i ≤ j → j < firstIx num x n i → num j < x := by
  intro n
  induction n with
  | zero => intro i h; omega
  | succ n ih =>
    intro i _ h0
    by_cases h : x ≤ num i
    · rw [firstIx, decide_eq_true h, cond_true]
      exact ⟨by omega, by omega, h, fun j h1 h2 => by omega⟩
    · rw [firstIx, decide_eq_false h, cond_false]
      have hn : 0 < n := by
        rcases Nat.eq_zero_or_pos n with rfl | h'
        · rw [show i + (0 + 1) - 1 = i by omega] at h0; exact (h h0).elim
        · exact h'
      obtain ⟨h1, h2, h3, h4⟩ := @ih (i + 1) hn (by rw [show i + 1 + n - 1 = i + (n + 1) - 1 by omega]; exact h0)
      refine ⟨by omega, by omega, h3, fun j h5 h6 => ?_⟩
      by_cases h7 : j = i
      · subst h7; omega
      · exact h4 j (by omega) h6
/-- Is a span beyond a table? -/
def offB (num : Nat → Int) (n : Nat) (lo hi : Int) : Bool := decide (lo < num 0) || decide (num (n - 1) < hi)

abbrev rowN (s : Site) : Nat → Int := fun i => (s.rows.el i).deficit
theorem s117 (s : Site) (i : Int) (h0 : 0 ≤ i) (h1 : i < (s.rows.len : Int)) : E F (d + 1) 117 [.int .i64 i, .rptr 1 1 (fun _ => [pSite s]) 0 0] = some (.ret (.int .i64 (rowN s i.toNat))) := by
  rw [E_succ, t117, decide_eq_true h0, decide_eq_true h1]; rfl
theorem s1191 (s : Site) (i lo : Int) (h0 : 0 ≤ i) (h1 : i < (s.rows.len : Int)) : E F (d + 2) 119 [.int .i64 i, .rptr 1 1 (fun _ => [cMap 117 s]) 0 0, .rptr 1 1 (fun _ => [.int .i64 lo]) 0 0] = some (.ret (.bool (decide (lo < rowN s i.toNat)))) := by
  rw [E_succ, t1191, s117 F d s i h0 h1]; rfl
theorem s1201 (s : Site) (i hi : Int) (h0 : 0 ≤ i) (h1 : i < (s.rows.len : Int)) : E F (d + 2) 120 [.int .i64 i, .rptr 1 1 (fun _ => [cMap 117 s]) 0 0, .rptr 1 1 (fun _ => [.int .i64 hi]) 0 0] = some (.ret (.bool (decide (hi ≤ rowN s i.toNat)))) := by
  rw [E_succ, t1201, s117 F d s i h0 h1]; rfl
theorem s7621 (s : Site) (lo : Int) (h1 : 1 ≤ s.rows.len) (h8 : s.rows.len ≤ 8) (hF : 8 < F) : ∃ r, E F (d + 3) 76 [.int .i64 0, .int .i64 (s.rows.len : Int), .fn (.func 119) [] [.rptr 1 1 (fun _ => [cMap 117 s]) 0 0, .rptr 1 1 (fun _ => [.int .i64 lo]) 0 0]] = some (.ret (.int .i64 r)) ∧
    0 ≤ r ∧ r ≤ (s.rows.len : Int) ∧ (r < (s.rows.len : Int) → lo < rowN s r.toNat) ∧ (0 < r → rowN s (r - 1).toNat ≤ lo) := by
  obtain ⟨r, e, r1, r2, r3, r4⟩ := firstLaw (fun fu i j => L7621x0 (E F (d + 2)) F 0 (s.rows.len : Int) lo s fu i j) (fun x => decide (lo < rowN s x.toNat)) 0 (s.rows.len : Int) (by
    intro fu i j a1 a2 a3
    rw [L7621x0s]
    by_cases hij : i < j
    · simp only [mid_wr (show -2305843009213693952 ≤ i by omega) a2 (by omega), wr (show _ ∧ i + (j - i) / 2 + 1 ≤ _ by omega), s1191 F d s (i + (j - i) / 2) lo (by omega) (by omega), tkOut_ret, tkBool_b]
    · simp only [hij, decide_false, cond_false]) 8 F 0 (s.rows.len : Int) (by omega) (by omega) (by omega) (by omega) (by omega)
  refine ⟨r, ?_, r1, r2, fun h => of_decide_eq_true (r3 h), fun h => ?_⟩
  · rw [E_succ, t7621]; exact e
  · have := of_decide_eq_false (r4 h); omega
theorem s7631 (s : Site) (hi : Int) (h1 : 1 ≤ s.rows.len) (h8 : s.rows.len ≤ 8) (hF : 8 < F) : ∃ r, E F (d + 3) 76 [.int .i64 0, .int .i64 (s.rows.len : Int), .fn (.func 120) [] [.rptr 1 1 (fun _ => [cMap 117 s]) 0 0, .rptr 1 1 (fun _ => [.int .i64 hi]) 0 0]] = some (.ret (.int .i64 r)) ∧
    0 ≤ r ∧ r ≤ (s.rows.len : Int) ∧ (r < (s.rows.len : Int) → hi ≤ rowN s r.toNat) ∧ (0 < r → rowN s (r - 1).toNat < hi) := by
  obtain ⟨r, e, r1, r2, r3, r4⟩ := firstLaw (fun fu i j => L7631x0 (E F (d + 2)) F 0 (s.rows.len : Int) hi s fu i j) (fun x => decide (hi ≤ rowN s x.toNat)) 0 (s.rows.len : Int) (by
    intro fu i j a1 a2 a3
    rw [L7631x0s]
    by_cases hij : i < j
    · simp only [mid_wr (show -2305843009213693952 ≤ i by omega) a2 (by omega), wr (show _ ∧ i + (j - i) / 2 + 1 ≤ _ by omega), s1201 F d s (i + (j - i) / 2) hi (by omega) (by omega), tkOut_ret, tkBool_b]
    · simp only [hij, decide_false, cond_false]) 8 F 0 (s.rows.len : Int) (by omega) (by omega) (by omega) (by omega) (by omega)
  refine ⟨r, ?_, r1, r2, fun h => of_decide_eq_true (r3 h), fun h => ?_⟩
  · rw [E_succ, t7631]; exact e
  · have := of_decide_eq_false (r4 h); omega
/-- What 'between' answers. -/
theorem s1161 (s : Site) (lo hi : Int) (hm : Inc (rowN s) s.rows.len) (h1 : 1 ≤ s.rows.len) (h8 : s.rows.len ≤ 8) (hF : 8 < F) : E F (d + 4) 116 [.int .i64 (s.rows.len : Int), cMap 117 s, .int .i64 lo, .int .i64 hi] =
    some (bif offB (rowN s) s.rows.len lo hi then .pan (.iface 146 (.agg [.int .i64 lo])) else .ret (.tup [.int .i64 (lastIx (rowN s) lo s.rows.len : Int), .int .i64 (firstIx (rowN s) hi s.rows.len 0 : Int)])) := by
  obtain ⟨r, e, r1, r2, r3, r4⟩ := s7621 F d s lo h1 h8 hF
  obtain ⟨q, e', q1, q2, q3, q4⟩ := s7631 F d s hi h1 h8 hF
  have z1 : r = 0 ↔ lo < rowN s 0 := by
    constructor
    · intro h; have := r3 (by omega); rw [h] at this; exact this
    · intro h
      rcases Int.lt_or_eq_of_le r1 with h2 | h2
      · have h3 := r4 h2
        by_cases h4 : (r - 1).toNat = 0
        · rw [h4] at h3; omega
        · have := hm.lt (show 0 < (r - 1).toNat by omega) (by omega); omega
      · exact h2.symm
  have z2 : 0 < r → r - 1 = (lastIx (rowN s) lo s.rows.len : Int) := by
    intro h
    have := lastIx_eq (n := s.rows.len) (i := (r - 1).toNat) (by omega) (r4 h) fun j h2 h3 => by
      have h4 := r3 (by omega)
      rcases Nat.lt_or_ge r.toNat j with h5 | h5
      · have := hm.lt h5 h3; omega
      · rw [show j = r.toNat by omega]; exact h4
    omega
  have z3 : q = (s.rows.len : Int) ↔ rowN s (s.rows.len - 1) < hi := by
    constructor
    · intro h; have := q4 (by omega); rw [show (q - 1).toNat = s.rows.len - 1 by omega] at this; exact this
    · intro h
      rcases Int.lt_or_eq_of_le q2 with h2 | h2
      · have h3 := q3 h2
        by_cases h4 : q.toNat = s.rows.len - 1
        · rw [h4] at h3; omega
        · have := hm.lt (show q.toNat < s.rows.len - 1 by omega) (by omega); omega
      · exact h2
  have z4 : q < (s.rows.len : Int) → q = (firstIx (rowN s) hi s.rows.len 0 : Int) := by
    intro h
    have := firstIx_eq (n := s.rows.len) (i := 0) (k := q.toNat) (by omega) (by omega) (q3 h) fun j _ h3 => by
      have h4 := q4 (by omega)
      rcases Nat.lt_or_ge j (q - 1).toNat with h5 | h5
      · have := hm.lt h5 (by omega); omega
      · rw [show j = (q - 1).toNat by omega]; exact h4
    omega
  rw [E_succ, t1161]
  simp only [e, e', tkOut_ret, tkInt_i, decide_true, cond_true, wr (show _ ∧ r - 1 ≤ _ by omega)]
  unfold offB
  by_cases a1 : lo < rowN s 0
  · rw [decide_eq_true a1, decide_eq_true (show r - 1 < 0 by have := z1.2 a1; omega)]; rfl
  · rw [decide_eq_false a1, decide_eq_false (show ¬ r - 1 < 0 by have := mt z1.1 a1; omega), Bool.false_or, cond_false]
    by_cases a2 : rowN s (s.rows.len - 1) < hi
    · rw [decide_eq_true a2, show (q == (s.rows.len : Int)) = true from beq_iff_eq.2 (z3.2 a2)]; rfl
    · rw [decide_eq_false a2, show (q == (s.rows.len : Int)) = false from beq_eq_false_iff_ne.2 (mt z3.1 a2), z2 (by have := mt z1.1 a1; omega), ← z4 (by have := mt z3.1 a2; omega)]; rfl

abbrev heatN (s : Site) : Nat → Int := fun i => (s.heats.el i).warmth
theorem s118 (s : Site) (i : Int) (h0 : 0 ≤ i) (h1 : i < (s.heats.len : Int)) : E F (d + 1) 118 [.int .i64 i, .rptr 1 1 (fun _ => [pSite s]) 0 0] = some (.ret (.int .i64 (heatN s i.toNat))) := by
  rw [E_succ, t118, decide_eq_true h0, decide_eq_true h1]; rfl
theorem s1192 (s : Site) (i lo : Int) (h0 : 0 ≤ i) (h1 : i < (s.heats.len : Int)) : E F (d + 2) 119 [.int .i64 i, .rptr 1 1 (fun _ => [cMap 118 s]) 0 0, .rptr 1 1 (fun _ => [.int .i64 lo]) 0 0] = some (.ret (.bool (decide (lo < heatN s i.toNat)))) := by
  rw [E_succ, t1192, s118 F d s i h0 h1]; rfl
theorem s1202 (s : Site) (i hi : Int) (h0 : 0 ≤ i) (h1 : i < (s.heats.len : Int)) : E F (d + 2) 120 [.int .i64 i, .rptr 1 1 (fun _ => [cMap 118 s]) 0 0, .rptr 1 1 (fun _ => [.int .i64 hi]) 0 0] = some (.ret (.bool (decide (hi ≤ heatN s i.toNat)))) := by
  rw [E_succ, t1202, s118 F d s i h0 h1]; rfl
theorem s7622 (s : Site) (lo : Int) (h1 : 1 ≤ s.heats.len) (h8 : s.heats.len ≤ 8) (hF : 8 < F) : ∃ r, E F (d + 3) 76 [.int .i64 0, .int .i64 (s.heats.len : Int), .fn (.func 119) [] [.rptr 1 1 (fun _ => [cMap 118 s]) 0 0, .rptr 1 1 (fun _ => [.int .i64 lo]) 0 0]] = some (.ret (.int .i64 r)) ∧
    0 ≤ r ∧ r ≤ (s.heats.len : Int) ∧ (r < (s.heats.len : Int) → lo < heatN s r.toNat) ∧ (0 < r → heatN s (r - 1).toNat ≤ lo) := by
  obtain ⟨r, e, r1, r2, r3, r4⟩ := firstLaw (fun fu i j => L7622x0 (E F (d + 2)) F 0 (s.heats.len : Int) lo s fu i j) (fun x => decide (lo < heatN s x.toNat)) 0 (s.heats.len : Int) (by
    intro fu i j a1 a2 a3
    rw [L7622x0s]
    by_cases hij : i < j
    · simp only [mid_wr (show -2305843009213693952 ≤ i by omega) a2 (by omega), wr (show _ ∧ i + (j - i) / 2 + 1 ≤ _ by omega), s1192 F d s (i + (j - i) / 2) lo (by omega) (by omega), tkOut_ret, tkBool_b]
    · simp only [hij, decide_false, cond_false]) 8 F 0 (s.heats.len : Int) (by omega) (by omega) (by omega) (by omega) (by omega)
  refine ⟨r, ?_, r1, r2, fun h => of_decide_eq_true (r3 h), fun h => ?_⟩
  · rw [E_succ, t7622]; exact e
  · have := of_decide_eq_false (r4 h); omega
theorem s7632 (s : Site) (hi : Int) (h1 : 1 ≤ s.heats.len) (h8 : s.heats.len ≤ 8) (hF : 8 < F) : ∃ r, E F (d + 3) 76 [.int .i64 0, .int .i64 (s.heats.len : Int), .fn (.func 120) [] [.rptr 1 1 (fun _ => [cMap 118 s]) 0 0, .rptr 1 1 (fun _ => [.int .i64 hi]) 0 0]] = some (.ret (.int .i64 r)) ∧
    0 ≤ r ∧ r ≤ (s.heats.len : Int) ∧ (r < (s.heats.len : Int) → hi ≤ heatN s r.toNat) ∧ (0 < r → heatN s (r - 1).toNat < hi) := by
  obtain ⟨r, e, r1, r2, r3, r4⟩ := firstLaw (fun fu i j => L7632x0 (E F (d + 2)) F 0 (s.heats.len : Int) hi s fu i j) (fun x => decide (hi ≤ heatN s x.toNat)) 0 (s.heats.len : Int) (by
    intro fu i j a1 a2 a3
    rw [L7632x0s]
    by_cases hij : i < j
    · simp only [mid_wr (show -2305843009213693952 ≤ i by omega) a2 (by omega), wr (show _ ∧ i + (j - i) / 2 + 1 ≤ _ by omega), s1202 F d s (i + (j - i) / 2) hi (by omega) (by omega), tkOut_ret, tkBool_b]
    · simp only [hij, decide_false, cond_false]) 8 F 0 (s.heats.len : Int) (by omega) (by omega) (by omega) (by omega) (by omega)
  refine ⟨r, ?_, r1, r2, fun h => of_decide_eq_true (r3 h), fun h => ?_⟩
  · rw [E_succ, t7632]; exact e
  · have := of_decide_eq_false (r4 h); omega
/-- What 'between' answers. -/
theorem s1162 (s : Site) (lo hi : Int) (hm : Inc (heatN s) s.heats.len) (h1 : 1 ≤ s.heats.len) (h8 : s.heats.len ≤ 8) (hF : 8 < F) : E F (d + 4) 116 [.int .i64 (s.heats.len : Int), cMap 118 s, .int .i64 lo, .int .i64 hi] =
    some (bif offB (heatN s) s.heats.len lo hi then .pan (.iface 146 (.agg [.int .i64 lo])) else .ret (.tup [.int .i64 (lastIx (heatN s) lo s.heats.len : Int), .int .i64 (firstIx (heatN s) hi s.heats.len 0 : Int)])) := by
  obtain ⟨r, e, r1, r2, r3, r4⟩ := s7622 F d s lo h1 h8 hF
  obtain ⟨q, e', q1, q2, q3, q4⟩ := s7632 F d s hi h1 h8 hF
  have z1 : r = 0 ↔ lo < heatN s 0 := by
    constructor
    · intro h; have := r3 (by omega); rw [h] at this; exact this
    · intro h
      rcases Int.lt_or_eq_of_le r1 with h2 | h2
      · have h3 := r4 h2
        by_cases h4 : (r - 1).toNat = 0
        · rw [h4] at h3; omega
        · have := hm.lt (show 0 < (r - 1).toNat by omega) (by omega); omega
      · exact h2.symm
  have z2 : 0 < r → r - 1 = (lastIx (heatN s) lo s.heats.len : Int) := by
    intro h
    have := lastIx_eq (n := s.heats.len) (i := (r - 1).toNat) (by omega) (r4 h) fun j h2 h3 => by
      have h4 := r3 (by omega)
      rcases Nat.lt_or_ge r.toNat j with h5 | h5
      · have := hm.lt h5 h3; omega
      · rw [show j = r.toNat by omega]; exact h4
    omega
  have z3 : q = (s.heats.len : Int) ↔ heatN s (s.heats.len - 1) < hi := by
    constructor
    · intro h; have := q4 (by omega); rw [show (q - 1).toNat = s.heats.len - 1 by omega] at this; exact this
    · intro h
      rcases Int.lt_or_eq_of_le q2 with h2 | h2
      · have h3 := q3 h2
        by_cases h4 : q.toNat = s.heats.len - 1
        · rw [h4] at h3; omega
        · have := hm.lt (show q.toNat < s.heats.len - 1 by omega) (by omega); omega
      · exact h2
  have z4 : q < (s.heats.len : Int) → q = (firstIx (heatN s) hi s.heats.len 0 : Int) := by
    intro h
    have := firstIx_eq (n := s.heats.len) (i := 0) (k := q.toNat) (by omega) (by omega) (q3 h) fun j _ h3 => by
      have h4 := q4 (by omega)
      rcases Nat.lt_or_ge j (q - 1).toNat with h5 | h5
      · have := hm.lt h5 (by omega); omega
      · rw [show j = (q - 1).toNat by omega]; exact h4
    omega
  rw [E_succ, t1162]
  simp only [e, e', tkOut_ret, tkInt_i, decide_true, cond_true, wr (show _ ∧ r - 1 ≤ _ by omega)]
  unfold offB
  by_cases a1 : lo < heatN s 0
  · rw [decide_eq_true a1, decide_eq_true (show r - 1 < 0 by have := z1.2 a1; omega)]; rfl
  · rw [decide_eq_false a1, decide_eq_false (show ¬ r - 1 < 0 by have := mt z1.1 a1; omega), Bool.false_or, cond_false]
    by_cases a2 : heatN s (s.heats.len - 1) < hi
    · rw [decide_eq_true a2, show (q == (s.heats.len : Int)) = true from beq_iff_eq.2 (z3.2 a2)]; rfl
    · rw [decide_eq_false a2, show (q == (s.heats.len : Int)) = false from beq_eq_false_iff_ne.2 (mt z3.1 a2), z2 (by have := mt z1.1 a1; omega), ← z4 (by have := mt z3.1 a2; omega)]; rfl
end Go.Sim.Cr

/-
  What a day does to a cavern: what the program says of it, in plain terms.
-/
namespace Go.Sim.Cr
open Go.Proofs
variable (F d : Nat)
theorem SiteF.incRow {s : Site} (h : SiteF s) : Inc (rowN s) s.rows.len := fun i hi => by
  have := h.row (i + 1) hi
  simp only [rowB, rowStep, Bool.and_eq_true, decide_eq_true_iff] at this
  exact this.2.2.2.1
theorem SiteF.incHeat {s : Site} (h : SiteF s) : Inc (heatN s) s.heats.len := fun i hi => by
  have := h.heat (i + 1) hi
  simp only [heatB, heatStep, Bool.and_eq_true, decide_eq_true_iff] at this
  exact this.2.2.1
theorem SiteF.rowOk {s : Site} (h : SiteF s) {i : Nat} (hi : i < s.rows.len) : (0 ≤ (s.rows.el i).deficit ∧ (s.rows.el i).deficit ≤ 50000) ∧ SpanIn (s.rows.el i).rate 0 100000 ∧ SpanIn (s.rows.el i).spall 0 1000 := by
  have := h.row i hi
  simp only [rowB, Bool.and_eq_true, decide_eq_true_iff] at this
  exact ⟨this.1, this.2.1, this.2.2.1⟩
theorem SiteF.heatOk {s : Site} (h : SiteF s) {i : Nat} (hi : i < s.heats.len) : (0 ≤ (s.heats.el i).warmth ∧ (s.heats.el i).warmth ≤ 10000) ∧ SpanIn (s.heats.el i).factor 0 10000 := by
  have := h.heat i hi
  simp only [heatB, Bool.and_eq_true, decide_eq_true_iff] at this
  exact ⟨this.1, this.2.1⟩
/-- Is something beyond the tables? -/
def farB (s : Site) (c : Cav) (p q : Span) : Bool := offB (rowN s) s.rows.len (c.rock - p.hi) (c.rock - p.lo) || offB (heatN s) s.heats.len q.lo q.hi
abbrev rowLo (s : Site) (c : Cav) (p : Span) : Nat := lastIx (rowN s) (c.rock - p.hi) s.rows.len
abbrev rowHi (s : Site) (c : Cav) (p : Span) : Nat := firstIx (rowN s) (c.rock - p.lo) s.rows.len 0
abbrev heatLo (s : Site) (q : Span) : Nat := lastIx (heatN s) q.lo s.heats.len
abbrev heatHi (s : Site) (q : Span) : Nat := firstIx (heatN s) q.hi s.heats.len 0
def rateOf (s : Site) (c : Cav) (p : Span) : Span := ⟨(s.rows.el (rowLo s c p)).rate.lo, (s.rows.el (rowHi s c p)).rate.hi⟩
def fallOf (s : Site) (c : Cav) (p : Span) : Span := ⟨(s.rows.el (rowLo s c p)).spall.lo, (s.rows.el (rowHi s c p)).spall.hi⟩
def factorOf (s : Site) (q : Span) : Span := ⟨(s.heats.el (heatLo s q)).factor.lo, (s.heats.el (heatHi s q)).factor.hi⟩
theorem near {num : Nat → Int} {n : Nat} {lo hi : Int} (hn : 0 < n) (h : offB num n lo hi = false) : lastIx num lo n < n ∧ firstIx num hi n 0 < n := by
  unfold offB at h
  rw [Bool.or_eq_false_iff, decide_eq_false_iff_not, decide_eq_false_iff_not] at h
  refine ⟨(lastIx_ok hn (by omega)).1, ?_⟩
  have := (@firstIx_ok num hi n 0 hn (by rw [Nat.zero_add]; omega)).2.1
  omega
theorem far_split {s : Site} {c : Cav} {p q : Span} (h : farB s c p q = false) : offB (rowN s) s.rows.len (c.rock - p.hi) (c.rock - p.lo) = false ∧ offB (heatN s) s.heats.len q.lo q.hi = false := by
  unfold farB at h
  rwa [Bool.or_eq_false_iff] at h
abbrev eSix (s : Site) (c : Cav) (p q : Span) : List V := [.int .i64 (rateOf s c p).lo, .int .i64 (rateOf s c p).hi, .int .i64 (fallOf s c p).lo, .int .i64 (fallOf s c p).hi, .int .i64 (factorOf s q).lo, .int .i64 (factorOf s q).hi]
theorem s112 (s : Site) (c : Cav) (p q : Span) (hS : SiteF s) (hc : CavOk c) (hp : SpanIn p 0 50000) (hF : 8 < F) :
    (farB s c p q = false → E F (d + 5) 112 [pSite s, .agg (eCav c), .agg (eSpan p), .agg (eSpan q)] = some (.ret (.agg (eSix s c p q)))) ∧
    (farB s c p q = true → ∃ n, E F (d + 5) 112 [pSite s, .agg (eCav c), .agg (eSpan p), .agg (eSpan q)] = some (.pan (.iface 146 (.agg [.int .i64 n])))) := by
  have hr := hc.2.2.2.1
  have w1 : IntKind.i64.wrap (c.rock - p.hi) = c.rock - p.hi := wr (by omega)
  have w2 : IntKind.i64.wrap (c.rock - p.lo) = c.rock - p.lo := wr (by omega)
  have e1 := s1161 F d s (c.rock - p.hi) (c.rock - p.lo) hS.incRow hS.rows1 hS.rows8 hF
  have e2 := s1162 F d s q.lo q.hi hS.incHeat hS.heats1 hS.heats8 hF
  rw [E_succ, t112]
  constructor
  · intro hf
    obtain ⟨f1, f2⟩ := far_split hf
    obtain ⟨n1, n2⟩ := near hS.rows1 f1
    obtain ⟨n3, n4⟩ := near hS.heats1 f2
    rw [f1, cond_false] at e1
    rw [f2, cond_false] at e2
    simp only [w1, w2, e1, e2, tkOut_ret, tkTup_t, tkCons_c, tkInt_i, tkNil_n, Int.natCast_nonneg, Int.ofNat_lt, n1, n2, n3, n4, decide_true, cond_true, Int.toNat_natCast]
    rfl
  · intro hf
    unfold farB at hf
    cases f1 : offB (rowN s) s.rows.len (c.rock - p.hi) (c.rock - p.lo) with
    | true =>
      rw [f1, cond_true] at e1
      simp only [w1, w2, e1, tkOut_pan, tkIfc_i]
      exact ⟨_, rfl⟩
    | false =>
      rw [f1, Bool.false_or] at hf
      rw [f1, cond_false] at e1
      rw [hf, cond_true] at e2
      simp only [w1, w2, e1, e2, tkOut_ret, tkOut_pan, tkTup_t, tkCons_c, tkInt_i, tkNil_n, tkIfc_i]
      exact ⟨_, rfl⟩
def minI (a b : Int) : Int := if a < b then a else b
/-- What a volume loses, rounded with 'k', no more than it is. -/
def shrink (v r f k : Int) : Int := minI ((v * r * f + k) / 1000000000) v
theorem prod3 {v r f : Int} (hv : 0 ≤ v ∧ v ≤ 10000000) (hr : 0 ≤ r ∧ r ≤ 100000) (hf : 0 ≤ f ∧ f ≤ 10000) : (0 ≤ v * r ∧ v * r ≤ 1000000000000) ∧ 0 ≤ v * r * f ∧ v * r * f ≤ 10000000000000000 := by
  have h1 := mulB hv hr
  have h2 := mulB (show 0 ≤ v * r ∧ v * r ≤ 1000000000000 by omega) hf
  omega
theorem s113 (v r f k : Int) (hv : 0 ≤ v ∧ v ≤ 10000000) (hr : 0 ≤ r ∧ r ≤ 100000) (hf : 0 ≤ f ∧ f ≤ 10000) (hk : 0 ≤ k ∧ k ≤ 999999999) :
    E F (d + 1) 113 [.int .i64 v, .int .i64 r, .int .i64 f, .int .i64 k] = some (.ret (.int .i64 (shrink v r f k))) := by
  obtain ⟨h1, h2⟩ := prod3 hv hr hf
  rw [E_succ, t113, wr (show _ ∧ v * r ≤ _ by omega), wr (show _ ∧ v * r * f ≤ _ by omega), wr (show _ ∧ v * r * f + k ≤ _ by omega), Int.tdiv_eq_ediv_of_nonneg (by omega), wr (show _ ∧ (v * r * f + k) / 1000000000 ≤ _ by omega)]
  rfl
theorem shrink_ok {v r f k : Int} (hv : 0 ≤ v ∧ v ≤ 10000000) (hr : 0 ≤ r ∧ r ≤ 100000) (hf : 0 ≤ f ∧ f ≤ 10000) (hk : 0 ≤ k ∧ k ≤ 999999999) : 0 ≤ shrink v r f k ∧ shrink v r f k ≤ v := by
  obtain ⟨h1, h2⟩ := prod3 hv hr hf
  unfold shrink minI
  split <;> omega
/-- The state of a cavern after a day that is not beyond the tables. -/
def move1 (s : Site) (c : Cav) (x : Stt) (p q : Span) : Stt where
  rad := ⟨minI (x.rad.lo + (fallOf s c p).lo) 400000, minI (x.rad.hi + (fallOf s c p).hi) 400000⟩
  vol := ⟨x.vol.lo - shrink x.vol.lo (rateOf s c p).hi (factorOf s q).hi 999999999, x.vol.hi - shrink x.vol.hi (rateOf s c p).lo (factorOf s q).lo 0⟩
  lost := ⟨minI (x.lost.lo + shrink x.vol.lo (rateOf s c p).lo (factorOf s q).lo 0) 1000000000, minI (x.lost.hi + shrink x.vol.hi (rateOf s c p).hi (factorOf s q).hi 999999999) 1000000000⟩
theorem rates_ok {s : Site} (hS : SiteF s) {c : Cav} {p q : Span} (hf : farB s c p q = false) : (0 ≤ (rateOf s c p).lo ∧ (rateOf s c p).lo ≤ 100000) ∧ (0 ≤ (rateOf s c p).hi ∧ (rateOf s c p).hi ≤ 100000) ∧
    (0 ≤ (fallOf s c p).lo ∧ (fallOf s c p).lo ≤ 1000) ∧ (0 ≤ (fallOf s c p).hi ∧ (fallOf s c p).hi ≤ 1000) ∧ (0 ≤ (factorOf s q).lo ∧ (factorOf s q).lo ≤ 10000) ∧ (0 ≤ (factorOf s q).hi ∧ (factorOf s q).hi ≤ 10000) := by
  obtain ⟨f1, f2⟩ := far_split hf
  obtain ⟨n1, n2⟩ := near hS.rows1 f1
  obtain ⟨n3, n4⟩ := near hS.heats1 f2
  have r1 := hS.rowOk (show rowLo s c p < s.rows.len from n1)
  have r2 := hS.rowOk (show rowHi s c p < s.rows.len from n2)
  have r3 := hS.heatOk (show heatLo s q < s.heats.len from n3)
  have r4 := hS.heatOk (show heatHi s q < s.heats.len from n4)
  refine ⟨?_, ?_, ?_, ?_, ?_, ?_⟩
  · show 0 ≤ (s.rows.el (rowLo s c p)).rate.lo ∧ (s.rows.el (rowLo s c p)).rate.lo ≤ 100000; omega
  · show 0 ≤ (s.rows.el (rowHi s c p)).rate.hi ∧ (s.rows.el (rowHi s c p)).rate.hi ≤ 100000; omega
  · show 0 ≤ (s.rows.el (rowLo s c p)).spall.lo ∧ (s.rows.el (rowLo s c p)).spall.lo ≤ 1000; omega
  · show 0 ≤ (s.rows.el (rowHi s c p)).spall.hi ∧ (s.rows.el (rowHi s c p)).spall.hi ≤ 1000; omega
  · show 0 ≤ (s.heats.el (heatLo s q)).factor.lo ∧ (s.heats.el (heatLo s q)).factor.lo ≤ 10000; omega
  · show 0 ≤ (s.heats.el (heatHi s q)).factor.hi ∧ (s.heats.el (heatHi s q)).factor.hi ≤ 10000; omega
theorem s91 (s : Site) (i : Nat) (x : Stt) (p q : Span) (hS : SiteF s) (hi : i < s.cavs.len) (hx : SttOk x) (hp : SpanIn p 0 50000) (hF : 8 < F) :
    (farB s (s.cavs.el i) p q = false → E F (d + 6) 91 [pSite s, .int .i64 (i : Int), .agg (eStt x), .agg (eSpan p), .agg (eSpan q)] = some (.ret (.agg (eStt (move1 s (s.cavs.el i) x p q))))) ∧
    (farB s (s.cavs.el i) p q = true → ∃ n, E F (d + 6) 91 [pSite s, .int .i64 (i : Int), .agg (eStt x), .agg (eSpan p), .agg (eSpan q)] = some (.pan (.iface 146 (.agg [.int .i64 n])))) := by
  obtain ⟨g1, g2⟩ := s112 F d s (s.cavs.el i) p q hS (hS.cav i hi) hp hF
  rw [E_succ, t91]
  constructor
  · intro hf
    obtain ⟨k1, k2, k3, k4, k5, k6⟩ := rates_ok hS hf
    have a1 := @shrink_ok x.vol.lo (rateOf s (s.cavs.el i) p).hi (factorOf s q).hi 999999999 (by omega) k2 k6 (by omega)
    have a2 := @shrink_ok x.vol.hi (rateOf s (s.cavs.el i) p).lo (factorOf s q).lo 0 (by omega) k1 k5 (by omega)
    have a3 := @shrink_ok x.vol.lo (rateOf s (s.cavs.el i) p).lo (factorOf s q).lo 0 (by omega) k1 k5 (by omega)
    have a4 := @shrink_ok x.vol.hi (rateOf s (s.cavs.el i) p).hi (factorOf s q).hi 999999999 (by omega) k2 k6 (by omega)
    simp only [Int.natCast_nonneg, Int.ofNat_lt, hi, decide_true, cond_true, Int.toNat_natCast, g1 hf, tkOut_ret, tkAgg_a, tkCons_c, tkInt_i, tkNil_n,
      s113 F (d + 4) x.vol.lo (rateOf s (s.cavs.el i) p).hi (factorOf s q).hi 999999999 (by omega) k2 k6 (by omega),
      s113 F (d + 4) x.vol.hi (rateOf s (s.cavs.el i) p).lo (factorOf s q).lo 0 (by omega) k1 k5 (by omega),
      s113 F (d + 4) x.vol.lo (rateOf s (s.cavs.el i) p).lo (factorOf s q).lo 0 (by omega) k1 k5 (by omega),
      s113 F (d + 4) x.vol.hi (rateOf s (s.cavs.el i) p).hi (factorOf s q).hi 999999999 (by omega) k2 k6 (by omega),
      wr (show _ ∧ x.rad.lo + (fallOf s (s.cavs.el i) p).lo ≤ _ by omega), wr (show _ ∧ x.rad.hi + (fallOf s (s.cavs.el i) p).hi ≤ _ by omega),
      wr (show _ ∧ x.vol.lo - shrink x.vol.lo (rateOf s (s.cavs.el i) p).hi (factorOf s q).hi 999999999 ≤ _ by omega), wr (show _ ∧ x.vol.hi - shrink x.vol.hi (rateOf s (s.cavs.el i) p).lo (factorOf s q).lo 0 ≤ _ by omega),
      wr (show _ ∧ x.lost.lo + shrink x.vol.lo (rateOf s (s.cavs.el i) p).lo (factorOf s q).lo 0 ≤ _ by omega), wr (show _ ∧ x.lost.hi + shrink x.vol.hi (rateOf s (s.cavs.el i) p).hi (factorOf s q).hi 999999999 ≤ _ by omega)]
    rfl
  · intro hf
    obtain ⟨n, e⟩ := g2 hf
    simp only [Int.natCast_nonneg, Int.ofNat_lt, hi, decide_true, cond_true, Int.toNat_natCast, e, tkOut_pan, tkIfc_i]
    exact ⟨n, rfl⟩
end Go.Sim.Cr

/-
  The specification's own looking up in tables: the same as the program's, in plain terms.
-/
namespace Go.Sim.Cr
open Go.Proofs
variable (F d : Nat)
theorem s61 (v r f : Int) (hv : 0 ≤ v ∧ v ≤ 10000000) (hr : 0 ≤ r ∧ r ≤ 100000) (hf : 0 ≤ f ∧ f ≤ 10000) : E F (d + 1) 61 [.int .i64 v, .int .i64 r, .int .i64 f] = some (.ret (.int .i64 (v * r * f / 1000000000))) := by
  obtain ⟨h1, h2⟩ := prod3 hv hr hf
  rw [E_succ, t61, wr (show _ ∧ v * r ≤ _ by omega), wr (show _ ∧ v * r * f ≤ _ by omega), Int.tdiv_eq_ediv_of_nonneg (by omega), wr (by omega)]
theorem s62 (v r f : Int) (hv : 0 ≤ v ∧ v ≤ 10000000) (hr : 0 ≤ r ∧ r ≤ 100000) (hf : 0 ≤ f ∧ f ≤ 10000) : E F (d + 1) 62 [.int .i64 v, .int .i64 r, .int .i64 f] = some (.ret (.int .i64 ((v * r * f + 999999999) / 1000000000))) := by
  obtain ⟨h1, h2⟩ := prod3 hv hr hf
  rw [E_succ, t62, wr (show _ ∧ v * r ≤ _ by omega), wr (show _ ∧ v * r * f ≤ _ by omega), wr (show _ ∧ v * r * f + 999999999 ≤ _ by omega), Int.tdiv_eq_ediv_of_nonneg (by omega), wr (by omega)]
theorem l93 (s : Site) (x : Int) (h0 : rowN s 0 ≤ x) (hB : s.rows.len < Big) : ∀ n fu, n < s.rows.len → n < fu → L93x0 (E F d) F s x fu (n : Int) = some (.ret (.agg (eRow (s.rows.el (lastIx (rowN s) x (n + 1)))))) := by
  intro n
  induction n with
  | zero =>
    intro fu h hf
    obtain ⟨fu, rfl⟩ : ∃ k, fu = k + 1 := ⟨fu - 1, by omega⟩
    rw [L93x0s]
    have e : lastIx (rowN s) x (0 + 1) = 0 := by rw [lastIx, decide_eq_true h0, cond_true]
    simp only [Int.natCast_nonneg, Int.ofNat_lt, h, decide_true, cond_true, Int.toNat_natCast, show ¬ (s.rows.el 0).deficit > x by have : (s.rows.el 0).deficit ≤ x := h0; omega, decide_false, cond_false, e]
  | succ n ih =>
    intro fu h hf
    obtain ⟨fu, rfl⟩ : ∃ k, fu = k + 1 := ⟨fu - 1, by omega⟩
    rw [L93x0s]
    simp only [Int.natCast_nonneg, Int.ofNat_lt, h, decide_true, cond_true, Int.toNat_natCast, wrP n (by omega), ih fu (by omega) (by omega)]
    by_cases hx : (s.rows.el (n + 1)).deficit ≤ x
    · rw [lastIx.eq_2 _ _ (n + 1), decide_eq_true (show rowN s (n + 1) ≤ x from hx), cond_true, decide_eq_false (by omega), cond_false]
    · rw [lastIx.eq_2 _ _ (n + 1), decide_eq_false (show ¬ rowN s (n + 1) ≤ x from hx), cond_false, decide_eq_true (by omega), cond_true]
theorem s93 (s : Site) (x : Int) (h0 : rowN s 0 ≤ x) (h1 : 1 ≤ s.rows.len) (h8 : s.rows.len ≤ 8) (hF : 8 < F) : E F (d + 1) 93 [.agg (eSite s), .int .i64 x] = some (.ret (.agg (eRow (s.rows.el (lastIx (rowN s) x s.rows.len))))) := by
  rw [E_succ, t93, wr (by omega), show (s.rows.len : Int) - 1 = ((s.rows.len - 1 : Nat) : Int) by omega, l93 F d s x h0 (show s.rows.len < 4611686018427387904 by omega) (s.rows.len - 1) F (by omega) (by omega), show s.rows.len - 1 + 1 = s.rows.len by omega]
theorem l94 (s : Site) (x : Int) (h0 : x ≤ rowN s (s.rows.len - 1)) (hB : s.rows.len < Big) : ∀ n i fu, s.rows.len = i + n → 0 < n → n < fu → L94x0 (E F d) F s x fu (i : Int) = some (.ret (.agg (eRow (s.rows.el (firstIx (rowN s) x n i))))) := by
  intro n
  induction n with
  | zero => intro i fu _ h; omega
  | succ n ih =>
    intro i fu h _ hf
    obtain ⟨fu, rfl⟩ : ∃ k, fu = k + 1 := ⟨fu - 1, by omega⟩
    rw [L94x0s]
    simp only [Int.natCast_nonneg, Int.ofNat_lt, show i < s.rows.len by omega, decide_true, cond_true, Int.toNat_natCast, wrS (show i < Big by omega)]
    by_cases hx : x ≤ (s.rows.el i).deficit
    · rw [firstIx, decide_eq_true (show x ≤ rowN s i from hx), cond_true, decide_eq_false (by omega), cond_false]
    · have hn : 0 < n := by
        rcases Nat.eq_zero_or_pos n with rfl | h'
        · rw [show s.rows.len - 1 = i by omega] at h0; exact (hx h0).elim
        · exact h'
      rw [firstIx, decide_eq_false (show ¬ x ≤ rowN s i from hx), cond_false, decide_eq_true (by omega), cond_true]
      exact ih (i + 1) fu (by omega) hn (by omega)
theorem s94 (s : Site) (x : Int) (h0 : x ≤ rowN s (s.rows.len - 1)) (h1 : 1 ≤ s.rows.len) (h8 : s.rows.len ≤ 8) (hF : 8 < F) : E F (d + 1) 94 [.agg (eSite s), .int .i64 x] = some (.ret (.agg (eRow (s.rows.el (firstIx (rowN s) x s.rows.len 0))))) := by
  rw [E_succ, t94]
  exact l94 F d s x h0 (show s.rows.len < 4611686018427387904 by omega) s.rows.len 0 F (by omega) (by omega) (by omega)
theorem not_off {num : Nat → Int} {n : Nat} {lo hi : Int} (h : offB num n lo hi = false) : num 0 ≤ lo ∧ hi ≤ num (n - 1) := by
  unfold offB at h
  rw [Bool.or_eq_false_iff, decide_eq_false_iff_not, decide_eq_false_iff_not] at h
  omega
theorem s58 (s : Site) (p : Span) (hS : SiteF s) (hf : offB (rowN s) s.rows.len p.lo p.hi = false) (hF : 8 < F) : E F (d + 2) 58 [.agg (eSite s), .agg (eSpan p)] =
    some (.ret (.agg [.int .i64 (s.rows.el (lastIx (rowN s) p.lo s.rows.len)).rate.lo, .int .i64 (s.rows.el (firstIx (rowN s) p.hi s.rows.len 0)).rate.hi])) := by
  obtain ⟨h1, h2⟩ := not_off hf
  rw [E_succ, t58]
  simp only [s93 F d s p.lo h1 hS.rows1 hS.rows8 hF, s94 F d s p.hi h2 hS.rows1 hS.rows8 hF, tkOut_ret, tkAgg_a, tkCons_c, tkInt_i, tkNil_n]
theorem s60 (s : Site) (p : Span) (hS : SiteF s) (hf : offB (rowN s) s.rows.len p.lo p.hi = false) (hF : 8 < F) : E F (d + 2) 60 [.agg (eSite s), .agg (eSpan p)] =
    some (.ret (.agg [.int .i64 (s.rows.el (lastIx (rowN s) p.lo s.rows.len)).spall.lo, .int .i64 (s.rows.el (firstIx (rowN s) p.hi s.rows.len 0)).spall.hi])) := by
  obtain ⟨h1, h2⟩ := not_off hf
  rw [E_succ, t60]
  simp only [s93 F d s p.lo h1 hS.rows1 hS.rows8 hF, s94 F d s p.hi h2 hS.rows1 hS.rows8 hF, tkOut_ret, tkAgg_a, tkCons_c, tkInt_i, tkNil_n]
theorem l59x1 (s : Site) (p : Span) (a : Nat) (ha : a < s.heats.len) (h0 : p.hi ≤ heatN s (s.heats.len - 1)) (hB : s.heats.len < Big) : ∀ n i fu, s.heats.len = i + n → 0 < n → n < fu →
    L59x1 (E F d) F s p fu (a : Int) (i : Int) = some (.ret (.agg [.int .i64 (s.heats.el a).factor.lo, .int .i64 (s.heats.el (firstIx (heatN s) p.hi n i)).factor.hi])) := by
  intro n
  induction n with
  | zero => intro i fu _ h; omega
  | succ n ih =>
    intro i fu h _ hf
    obtain ⟨fu, rfl⟩ : ∃ k, fu = k + 1 := ⟨fu - 1, by omega⟩
    rw [L59x1s]
    simp only [Int.natCast_nonneg, Int.ofNat_lt, ha, show i < s.heats.len by omega, decide_true, cond_true, Int.toNat_natCast, wrS (show i < Big by omega)]
    by_cases hx : p.hi ≤ (s.heats.el i).warmth
    · rw [firstIx, decide_eq_true (show p.hi ≤ heatN s i from hx), cond_true, decide_eq_false (by omega), cond_false]
    · have hn : 0 < n := by
        rcases Nat.eq_zero_or_pos n with rfl | h'
        · rw [show s.heats.len - 1 = i by omega] at h0; exact (hx h0).elim
        · exact h'
      rw [firstIx, decide_eq_false (show ¬ p.hi ≤ heatN s i from hx), cond_false, decide_eq_true (by omega), cond_true]
      exact ih (i + 1) fu (by omega) hn (by omega)
theorem l59x0 (s : Site) (p : Span) (hl : heatN s 0 ≤ p.lo) (h0 : p.hi ≤ heatN s (s.heats.len - 1)) (hB : s.heats.len < Big) (hF : s.heats.len < F) : ∀ n fu, n < s.heats.len → n < fu →
    L59x0 (E F d) F s p fu (n : Int) = some (.ret (.agg [.int .i64 (s.heats.el (lastIx (heatN s) p.lo (n + 1))).factor.lo, .int .i64 (s.heats.el (firstIx (heatN s) p.hi s.heats.len 0)).factor.hi])) := by
  intro n
  induction n with
  | zero =>
    intro fu h hf
    obtain ⟨fu, rfl⟩ : ∃ k, fu = k + 1 := ⟨fu - 1, by omega⟩
    rw [L59x0s]
    have e : lastIx (heatN s) p.lo (0 + 1) = 0 := by rw [lastIx, decide_eq_true hl, cond_true]
    simp only [Int.natCast_nonneg, Int.ofNat_lt, h, decide_true, cond_true, Int.toNat_natCast, show ¬ (s.heats.el 0).warmth > p.lo by have : (s.heats.el 0).warmth ≤ p.lo := hl; omega, decide_false, cond_false, e]
    exact l59x1 F d s p 0 h h0 hB s.heats.len 0 F (by omega) (by omega) hF
  | succ n ih =>
    intro fu h hf
    obtain ⟨fu, rfl⟩ : ∃ k, fu = k + 1 := ⟨fu - 1, by omega⟩
    rw [L59x0s]
    simp only [Int.natCast_nonneg, Int.ofNat_lt, h, decide_true, cond_true, Int.toNat_natCast, wrP n (by omega), ih fu (by omega) (by omega)]
    by_cases hx : (s.heats.el (n + 1)).warmth ≤ p.lo
    · rw [lastIx.eq_2 _ _ (n + 1), decide_eq_true (show heatN s (n + 1) ≤ p.lo from hx), cond_true, decide_eq_false (by omega), cond_false]
      exact l59x1 F d s p (n + 1) h h0 hB s.heats.len 0 F (by omega) (by omega) hF
    · rw [lastIx.eq_2 _ _ (n + 1), decide_eq_false (show ¬ heatN s (n + 1) ≤ p.lo from hx), cond_false, decide_eq_true (by omega), cond_true]
theorem s59 (s : Site) (q : Span) (hS : SiteF s) (hf : offB (heatN s) s.heats.len q.lo q.hi = false) (hF : 8 < F) : E F (d + 1) 59 [.agg (eSite s), .agg (eSpan q)] = some (.ret (.agg (eSpan (factorOf s q)))) := by
  obtain ⟨h1, h2⟩ := not_off hf
  have g1 := hS.heats1
  have g8 := hS.heats8
  rw [E_succ, t59, wr (by omega), show (s.heats.len : Int) - 1 = ((s.heats.len - 1 : Nat) : Int) by omega, l59x0 F d s q h1 h2 (show s.heats.len < 4611686018427387904 by omega) (by omega) (s.heats.len - 1) F (by omega) (by omega), show s.heats.len - 1 + 1 = s.heats.len by omega]
  rfl
theorem s70 (s : Site) (i : Nat) (p : Span) (hS : SiteF s) (hi : i < s.cavs.len) (hp : SpanIn p 0 50000) : E F (d + 1) 70 [.agg (eSite s), .int .i64 (i : Int), .agg (eSpan p)] =
    some (.ret (.agg [.int .i64 ((s.cavs.el i).rock - p.hi), .int .i64 ((s.cavs.el i).rock - p.lo)])) := by
  have hr := (hS.cav i hi).2.2.2.1
  rw [E_succ, t70]
  simp only [Int.natCast_nonneg, Int.ofNat_lt, hi, decide_true, cond_true, Int.toNat_natCast, wr (show _ ∧ (s.cavs.el i).rock - p.hi ≤ _ by omega), wr (show _ ∧ (s.cavs.el i).rock - p.lo ≤ _ by omega)]
theorem s32 (s : Site) (i : Nat) (p q : Span) (hS : SiteF s) (hi : i < s.cavs.len) (hp : SpanIn p 0 50000) : E F (d + 2) 32 [.agg (eSite s), .int .i64 (i : Int), .agg (eSpan p), .agg (eSpan q)] = some (.ret (.bool (farB s (s.cavs.el i) p q))) := by
  have h0 : rowN s 0 = 0 := by
    have := hS.row 0 (by have := hS.rows1; omega)
    simp only [rowB, rowStep, Bool.and_eq_true, decide_eq_true_iff] at this
    exact this.2.2.2
  have r1 := hS.rows1
  have r8 := hS.rows8
  have g1 := hS.heats1
  have g8 := hS.heats8
  rw [E_succ, t32]
  simp only [s70 F d s i p hS hi hp, tkOut_ret, tkAgg_a, tkCons_c, tkInt_i, tkNil_n, decide_true, cond_true, wr (show _ ∧ (s.rows.len : Int) - 1 ≤ _ by omega), wr (show _ ∧ (s.heats.len : Int) - 1 ≤ _ by omega),
    show (0 : Int) ≤ (s.rows.len : Int) - 1 by omega, show (s.rows.len : Int) - 1 < (s.rows.len : Int) by omega, show (0 : Int) ≤ (s.heats.len : Int) - 1 by omega, show (s.heats.len : Int) - 1 < (s.heats.len : Int) by omega,
    show (0 : Int) < (s.heats.len : Int) by omega, show ((s.rows.len : Int) - 1).toNat = s.rows.len - 1 by omega, show ((s.heats.len : Int) - 1).toNat = s.heats.len - 1 by omega, cOr]
  refine b3 ?_
  simp only [farB, offB, h0, Bool.or_assoc, gt_iff_lt]
end Go.Sim.Cr

/-
  Days: what 'move', 'Move', 'Begin' and their specifications answer.
-/
namespace Go.Sim.Cr
open Go.Proofs
variable (F d : Nat)
/-- Does something hold of one of so many, from one on? -/
def anyF (p : Nat → Bool) : Nat → Nat → Bool
  | 0, _ => false
  | n + 1, i => p i || anyF p n (i + 1)
theorem anyF_eq (p : Nat → Bool) : ∀ n i, anyF p n i = true ↔ ∃ k, i ≤ k ∧ k < i + n ∧ p k = true := by
  intro n
  induction n with
  | zero => intro i; simp only [anyF]; constructor <;> intro h
            · cases h
            · obtain ⟨k, h1, h2, _⟩ := h; omega
  | succ n ih =>
    intro i
    simp only [anyF, Bool.or_eq_true, ih]
    constructor
    · rintro (h | ⟨k, h1, h2, h3⟩)
      · exact ⟨i, Nat.le_refl _, by omega, h⟩
      · exact ⟨k, by omega, by omega, h3⟩
    · rintro ⟨k, h1, h2, h3⟩
      rcases Nat.eq_or_lt_of_le h1 with rfl | h4
      · exact .inl h3
      · exact .inr ⟨k, by omega, by omega, h3⟩
/-- A list that was made by appending. -/
def outL {α : Type} (n : Nat) (T : Nat → α) : Sl α := ⟨false, n, fun i => T (min i (n - 1))⟩
theorem outL_el {α : Type} {n : Nat} {T : Nat → α} {i : Nat} (h : i < n) : (outL n T).el i = T i := by
  show T (min i (n - 1)) = T i
  rw [Nat.min_eq_left (by omega)]
theorem outL_len {α : Type} {n : Nat} {T : Nat → α} : (outL n T).len = n := rfl
abbrev noneRow : V := .row true 0 0 fun _ => []
theorem app_enc {α : Type} (e : α → List V) (T : Nat → α) {i : Nat} (hi : 1 ≤ i) : appGet i (fun j => e (T (min j (i - 1)))) (fun _ => e (T i)) = fun j => e (T (min j i)) := by
  funext j
  unfold appGet
  by_cases h : j < i
  · rw [if_pos h]; show e (T (min j (i - 1))) = e (T (min j i)); rw [show min j (i - 1) = min j i by omega]
  · rw [if_neg h]; show e (T i) = e (T (min j i)); rw [show min j i = i by omega]
theorem one_enc {α : Type} (e : α → List V) (T : Nat → α) : (fun _ : Nat => e (T 0)) = fun j => e (T (min j (1 - 1))) := by
  funext j
  show e (T 0) = e (T (min j 0))
  rw [Nat.min_zero]
theorem wr1 : IntKind.i64.wrap ((0 : Int) + 1) = ((1 : Nat) : Int) := by rw [wr (by omega)]; rfl
/-- The states after a day, one by one. -/
def mv (s : Site) (l : Sl Stt) (y : Day) (i : Nat) : Stt := move1 s (s.cavs.el i) (l.el i) (y.press.el i) (y.warm.el i)
def farAt (s : Site) (y : Day) (i : Nat) : Bool := farB s (s.cavs.el i) (y.press.el i) (y.warm.el i)
def farDay (s : Site) (y : Day) : Bool := anyF (farAt s y) s.cavs.len 0
abbrev moved (s : Site) (l : Sl Stt) (y : Day) : Sl Stt := outL l.len (mv s l y)
abbrev moveR (s : Site) (l : Sl Stt) (y : Day) : V := bif farDay s y then .tup [noneRow, .bool false] else .tup [sl eStt 6 (moved s l y), .bool true]

theorem l51 (s : Site) (l : Sl Stt) (y : Day) (hS : SiteF s) (hL : StatesOk s l) (hD : DayOk s y) (hF : 8 < F) : ∀ n i fu, l.len = i + n → n < fu → 1 ≤ i →
    L51x1 (E F (d + 6)) F s l y fu (i : Int) i i (fun j => eStt (mv s l y (min j (i - 1)))) = some (.ret (bif anyF (farAt s y) n i then .tup [noneRow, .bool false] else .tup [sl eStt 6 (moved s l y), .bool true])) := by
  have h5 := hS.cavs5
  have hl := hL.1
  have hp := hD.1.1
  have hw := hD.2.1
  intro n
  induction n with
  | zero =>
    intro i fu h hf hi
    obtain ⟨fu, rfl⟩ : ∃ k, fu = k + 1 := ⟨fu - 1, by omega⟩
    have e : l.len = i := by omega
    rw [L51x1s]
    simp only [Int.ofNat_lt, show ¬ i < l.len by omega, decide_false, cond_false, anyF, moved, outL]
    rw [e]
  | succ n ih =>
    intro i fu h hf hi
    obtain ⟨fu, rfl⟩ : ∃ k, fu = k + 1 := ⟨fu - 1, by omega⟩
    rw [L51x1s]
    obtain ⟨g1, g2⟩ := s91 F d s i (l.el i) (y.press.el i) (y.warm.el i) hS (by omega) (hL.2 i (by omega)) (hD.1.2 i (by omega)) hF
    simp only [Int.ofNat_lt, show i < l.len by omega, show i < y.press.len by omega, show i < y.warm.len by omega, decide_true, cond_true, Int.natCast_nonneg, Int.toNat_natCast, anyF]
    cases hf1 : farAt s y i with
    | true =>
      obtain ⟨m, e⟩ := g2 hf1
      simp only [e, tkOut_pan, tkIfc_i, Bool.true_or, cond_true]
      rfl
    | false =>
      simp only [g1 hf1, tkOut_ret, tkAgg_a, tkCons_c, tkInt_i, tkNil_n, show (i + 1) * 48 ≤ 140737488355328 by omega, decide_true, cond_true, wrS (show i < 4611686018427387904 by omega), Bool.false_or]
      exact (congrArg (L51x1 (E F (d + 6)) F s l y fu ((i + 1 : Nat) : Int) (i + 1) (i + 1)) (app_enc eStt (mv s l y) hi)).trans (ih (i + 1) fu (by omega) (by omega) (by omega))
theorem s51 (s : Site) (l : Sl Stt) (y : Day) (hS : SiteF s) (hL : StatesOk s l) (hD : DayOk s y) (hF : 8 < F) :
    E F (d + 7) 51 [pSite s, sl eStt 6 l, .agg (eDay y)] = some (.ret (moveR s l y)) := by
  have h5 := hS.cavs5
  have h1 := hS.cavs1
  have hl := hL.1
  have hp := hD.1.1
  have hw := hD.2.1
  rw [E_succ, t51]
  obtain ⟨fu, rfl⟩ : ∃ k, F = k + 1 := ⟨F - 1, by omega⟩
  rw [L51x0s]
  obtain ⟨n, hn⟩ : ∃ n, l.len = 1 + n := ⟨l.len - 1, by omega⟩
  obtain ⟨g1, g2⟩ := s91 (fu + 1) d s 0 (l.el 0) (y.press.el 0) (y.warm.el 0) hS (by omega) (hL.2 0 (by omega)) (hD.1.2 0 (by omega)) hF
  have z : ∀ m : Nat, 0 < m → decide ((0 : Int) < (m : Int)) = true := fun m hm => decide_eq_true (by omega)
  simp only [z l.len (by omega), z y.press.len (by omega), z y.warm.len (by omega), cond_true]
  have hc : s.cavs.len = n + 1 := by omega
  unfold moveR farDay
  rw [hc]
  simp only [anyF]
  cases hf1 : farAt s y 0 with
  | true =>
    obtain ⟨m, e⟩ := g2 hf1
    simp only [Int.natCast_zero] at e
    simp only [e, tkOut_pan, tkIfc_i, Bool.true_or, cond_true]
    rfl
  | false =>
    have e := g1 hf1
    simp only [Int.natCast_zero] at e
    simp only [e, tkOut_ret, tkAgg_a, tkCons_c, tkInt_i, tkNil_n, wr1, Bool.false_or]
    exact (congrArg (L51x1 (E (fu + 1) (d + 6)) (fu + 1) s l y fu ((1 : Nat) : Int) 1 1) (one_enc eStt (mv s l y))).trans (l51 (fu + 1) d s l y hS hL hD hF n 1 fu (by omega) (by omega) (by omega))
/-- What 'Move' answers. -/
theorem s14 (s : Site) (l : Sl Stt) (y : Day) (hs : Small s F) (hB : l.len < Big) (hlF : l.len < F) (hB' : y.press.len < Big) (hB2 : y.warm.len < Big) (hF' : y.press.len < F) (hF2 : y.warm.len < F) (hF : 8 < F) :
    E F (d + 8) 14 [.agg (eSite s), sl eStt 6 l, .agg (eDay y)] = some (.ret (bif siteB s && (decide (StatesOk s l) && decide (DayOk s y)) then (bif farDay s y then .tup [noneRow, .int .i64 7] else .tup [sl eStt 6 (moved s l y), .int .i64 0]) else .tup [noneRow, .int .i64 2])) := by
  rw [E_succ, t14]
  simp only [s48 F (d + 1) s hs, tkOut_ret, tkBool_b, s49 F (d + 1) s l hB hlF, s50 F (d + 1) s y hB' hB2 hF' hF2, Nat.reduceAdd, Nat.add_assoc]
  cases h1 : siteB s
  · rfl
  · by_cases h2 : StatesOk s l
    · by_cases h3 : DayOk s y
      · simp only [decide_eq_true h2, decide_eq_true h3, Bool.not_true, cond_false, Bool.and_self, cond_true, s51 F d s l y ((siteB_iff s).1 h1) h2 h3 hF, tkOut_ret, moveR]
        cases farDay s y <;> rfl
      · simp only [decide_eq_true h2, decide_eq_false h3, Bool.not_true, Bool.not_false, cond_false, cond_true, Bool.and_false]
    · simp only [decide_eq_false h2, Bool.not_true, Bool.not_false, cond_false, cond_true, Bool.and_false, Bool.false_and]
/-- The states at first. -/
def start (c : Cav) : Stt := ⟨c.rad, c.vol, ⟨0, 0⟩⟩
abbrev begin (s : Site) : Sl Stt := outL s.cavs.len (fun i => start (s.cavs.el i))
theorem l57 (s : Site) (h5 : s.cavs.len ≤ 5) : ∀ n i fu, s.cavs.len = i + n → n < fu → 1 ≤ i →
    L57x1 (E F d) F s fu i (i : Int) i (fun j => eStt (start (s.cavs.el (min j (i - 1))))) = some (.ret (sl eStt 6 (begin s))) := by
  intro n
  induction n with
  | zero =>
    intro i fu h hf hi
    obtain ⟨fu, rfl⟩ : ∃ k, fu = k + 1 := ⟨fu - 1, by omega⟩
    have e : s.cavs.len = i := by omega
    rw [L57x1s]
    simp only [Int.ofNat_lt, show ¬ i < s.cavs.len by omega, decide_false, cond_false, begin, outL]
    rw [e]
  | succ n ih =>
    intro i fu h hf hi
    obtain ⟨fu, rfl⟩ : ∃ k, fu = k + 1 := ⟨fu - 1, by omega⟩
    rw [L57x1s]
    simp only [Int.ofNat_lt, show i < s.cavs.len by omega, decide_true, cond_true, Int.natCast_nonneg, Int.toNat_natCast, show (i + 1) * 48 ≤ 140737488355328 by omega, wrS (show i < 4611686018427387904 by omega)]
    exact (congrArg (L57x1 (E F d) F s fu (i + 1) ((i + 1 : Nat) : Int) (i + 1)) (app_enc eStt (fun i => start (s.cavs.el i)) hi)).trans (ih (i + 1) fu (by omega) (by omega) (by omega))
theorem s57 (s : Site) (h1 : 1 ≤ s.cavs.len) (h5 : s.cavs.len ≤ 5) (hF : 8 < F) : E F (d + 1) 57 [pSite s] = some (.ret (sl eStt 6 (begin s))) := by
  rw [E_succ, t57]
  obtain ⟨fu, rfl⟩ : ∃ k, F = k + 1 := ⟨F - 1, by omega⟩
  rw [L57x0s]
  have z : ∀ m : Nat, 0 < m → decide ((0 : Int) < (m : Int)) = true := fun m hm => decide_eq_true (by omega)
  simp only [z s.cavs.len (by omega), cond_true, wr1]
  exact (congrArg (L57x1 (E (fu + 1) d) (fu + 1) s fu 1 ((1 : Nat) : Int) 1) (one_enc eStt (fun i => start (s.cavs.el i)))).trans (l57 (fu + 1) d s h5 (s.cavs.len - 1) 1 fu (by omega) (by omega) (by omega))
/-- What 'Begin' answers. -/
theorem s24 (s : Site) (hs : Small s F) (hF : 8 < F) : E F (d + 7) 24 [.agg (eSite s)] = some (.ret (bif siteB s then .tup [sl eStt 6 (begin s), .int .i64 0] else .tup [noneRow, .int .i64 2])) := by
  rw [E_succ, t24]
  simp only [s48 F d s hs, tkOut_ret, tkBool_b]
  cases h1 : siteB s
  · rfl
  · have hS := (siteB_iff s).1 h1
    simp only [s57 F (d + 5) s hS.cavs1 hS.cavs5 hF, tkOut_ret, tkRow_r]
    rfl
theorem l38 (s : Site) (h5 : s.cavs.len ≤ 5) : ∀ n i fu, s.cavs.len = i + n → n < fu → 1 ≤ i →
    L38x1 (E F d) F s fu i (i : Int) i (fun j => eStt (start (s.cavs.el (min j (i - 1))))) = some (.ret (sl eStt 6 (begin s))) := by
  intro n
  induction n with
  | zero =>
    intro i fu h hf hi
    obtain ⟨fu, rfl⟩ : ∃ k, fu = k + 1 := ⟨fu - 1, by omega⟩
    have e : s.cavs.len = i := by omega
    rw [L38x1s]
    simp only [Int.ofNat_lt, show ¬ i < s.cavs.len by omega, decide_false, cond_false, begin, outL]
    rw [e]
  | succ n ih =>
    intro i fu h hf hi
    obtain ⟨fu, rfl⟩ : ∃ k, fu = k + 1 := ⟨fu - 1, by omega⟩
    rw [L38x1s]
    simp only [Int.ofNat_lt, show i < s.cavs.len by omega, decide_true, cond_true, Int.natCast_nonneg, Int.toNat_natCast, show (i + 1) * 48 ≤ 140737488355328 by omega, show (decide (1 < 19) && decide (17 < 19)) = true from rfl, wrS (show i < 4611686018427387904 by omega)]
    exact (congrArg (L38x1 (E F d) F s fu (i + 1) ((i + 1 : Nat) : Int) (i + 1)) (app_enc eStt (fun i => start (s.cavs.el i)) hi)).trans (ih (i + 1) fu (by omega) (by omega) (by omega))
theorem s38 (s : Site) (h1 : 1 ≤ s.cavs.len) (h5 : s.cavs.len ≤ 5) (hF : 8 < F) : E F (d + 1) 38 [.agg (eSite s)] = some (.ret (sl eStt 6 (begin s))) := by
  rw [E_succ, t38]
  obtain ⟨fu, rfl⟩ : ∃ k, F = k + 1 := ⟨F - 1, by omega⟩
  rw [L38x0s]
  have z : ∀ m : Nat, 0 < m → decide ((0 : Int) < (m : Int)) = true := fun m hm => decide_eq_true (by omega)
  simp only [z s.cavs.len (by omega), cond_true, wr1, show (decide (17 < 19) && true) = true from rfl, show (decide (1 < 19) && true) = true from rfl]
  exact (congrArg (L38x1 (E (fu + 1) d) (fu + 1) s fu 1 ((1 : Nat) : Int) 1) (one_enc eStt (fun i => start (s.cavs.el i)))).trans (l38 (fu + 1) d s h5 (s.cavs.len - 1) 1 fu (by omega) (by omega) (by omega))
theorem upDown (v : Int) {r f : Int} (hv : 0 ≤ v ∧ v ≤ 10000000) (hr : 0 ≤ r ∧ r ≤ 100000) (hf : 0 ≤ f ∧ f ≤ 10000) : 0 ≤ v * r * f ∧ v * r * f ≤ v * 1000000000 := by
  have h2 := mulB hr hf
  have h3 := mulB hv (show 0 ≤ r * f ∧ r * f ≤ 1000000000 by omega)
  have h4 : v * (r * f) ≤ v * 1000000000 := Int.mul_le_mul_of_nonneg_left (by omega) hv.1
  rw [Int.mul_assoc]
  omega
theorem stt_eq {a b c d e f : Int} {x : Stt} (h1 : a = x.rad.lo) (h2 : b = x.rad.hi) (h3 : c = x.vol.lo) (h4 : d = x.vol.hi) (h5 : e = x.lost.lo) (h6 : f = x.lost.hi) : [V.int .i64 a, .int .i64 b, .int .i64 c, .int .i64 d, .int .i64 e, .int .i64 f] = eStt x := by
  subst h1 h2 h3 h4 h5 h6; rfl
/-- The specification's 'Move1' is the program's. -/
theorem s56 (s : Site) (i : Nat) (x : Stt) (p q : Span) (hS : SiteF s) (hi : i < s.cavs.len) (hx : SttOk x) (hp : SpanIn p 0 50000) (hf : farB s (s.cavs.el i) p q = false) (hF : 8 < F) :
    E F (d + 3) 56 [.agg (eSite s), .int .i64 (i : Int), .agg (eStt x), .agg (eSpan p), .agg (eSpan q)] = some (.ret (.agg (eStt (move1 s (s.cavs.el i) x p q)))) := by
  obtain ⟨f1, f2⟩ := far_split hf
  obtain ⟨k1, k2, k3, k4, k5, k6⟩ := rates_ok hS hf
  have e58 : E F (d + 2) 58 [.agg (eSite s), .agg [.int .i64 ((s.cavs.el i).rock - p.hi), .int .i64 ((s.cavs.el i).rock - p.lo)]] = some (.ret (.agg [.int .i64 (rateOf s (s.cavs.el i) p).lo, .int .i64 (rateOf s (s.cavs.el i) p).hi])) := s58 F d s ⟨_, _⟩ hS f1 hF
  have e60 : E F (d + 2) 60 [.agg (eSite s), .agg [.int .i64 ((s.cavs.el i).rock - p.hi), .int .i64 ((s.cavs.el i).rock - p.lo)]] = some (.ret (.agg [.int .i64 (fallOf s (s.cavs.el i) p).lo, .int .i64 (fallOf s (s.cavs.el i) p).hi])) := s60 F d s ⟨_, _⟩ hS f1 hF
  have a1 := upDown x.vol.lo (show 0 ≤ x.vol.lo ∧ x.vol.lo ≤ 10000000 by omega) k2 k6
  have a2 := upDown x.vol.hi (show 0 ≤ x.vol.hi ∧ x.vol.hi ≤ 10000000 by omega) k1 k5
  have a3 := upDown x.vol.lo (show 0 ≤ x.vol.lo ∧ x.vol.lo ≤ 10000000 by omega) k1 k5
  have a4 := upDown x.vol.hi (show 0 ≤ x.vol.hi ∧ x.vol.hi ≤ 10000000 by omega) k2 k6
  rw [E_succ, t56]
  simp only [s70 F (d + 1) s i p hS hi hp, e58, e60, s59 F (d + 1) s q hS f2 hF, tkOut_ret, tkAgg_a, tkCons_c, tkInt_i, tkNil_n, decide_true, cond_true,
    s62 F (d + 1) x.vol.lo (rateOf s (s.cavs.el i) p).hi (factorOf s q).hi (by omega) k2 k6, s61 F (d + 1) x.vol.hi (rateOf s (s.cavs.el i) p).lo (factorOf s q).lo (by omega) k1 k5,
    s61 F (d + 1) x.vol.lo (rateOf s (s.cavs.el i) p).lo (factorOf s q).lo (by omega) k1 k5, s62 F (d + 1) x.vol.hi (rateOf s (s.cavs.el i) p).hi (factorOf s q).hi (by omega) k2 k6]
  refine congrArg (fun l => some (Out.ret (V.agg l))) ?_
  refine stt_eq ?_ ?_ ?_ ?_ ?_ ?_
  · rw [wr (by omega)]; rfl
  · rw [wr (by omega)]; rfl
  · rw [wr (by omega)]; show _ = x.vol.lo - shrink _ _ _ _; unfold shrink minI; split <;> split <;> omega
  · rw [wr (by omega)]; show _ = x.vol.hi - shrink _ _ _ _; unfold shrink minI; split <;> split <;> omega
  · rw [wr (by omega)]; show _ = minI (x.lost.lo + shrink _ _ _ _) _; unfold shrink minI; split <;> split <;> split <;> omega
  · rw [wr (by split <;> omega)]; rfl
end Go.Sim.Cr

/-
  The specification's 'Move'; 'Thick'.
-/
namespace Go.Sim.Cr
open Go.Proofs
variable (F d : Nat)
theorem l21 (s : Site) (l : Sl Stt) (y : Day) (hS : SiteF s) (hL : StatesOk s l) (hD : DayOk s y) (hF : 8 < F) : ∀ n i fu, l.len = i + n → n < fu → 1 ≤ i →
    L21x1 (E F (d + 3)) F s l y fu i (i : Int) i (fun j => eStt (mv s l y (min j (i - 1)))) = some (.ret (bif anyF (farAt s y) n i then .tup [noneRow, .bool false] else .tup [sl eStt 6 (moved s l y), .bool true])) := by
  have h5 := hS.cavs5
  have hl := hL.1
  have hp := hD.1.1
  have hw := hD.2.1
  intro n
  induction n with
  | zero =>
    intro i fu h hf hi
    obtain ⟨fu, rfl⟩ : ∃ k, fu = k + 1 := ⟨fu - 1, by omega⟩
    have e : l.len = i := by omega
    rw [L21x1s]
    simp only [Int.ofNat_lt, show ¬ i < l.len by omega, decide_false, cond_false, anyF, moved, outL]
    rw [e]
  | succ n ih =>
    intro i fu h hf hi
    obtain ⟨fu, rfl⟩ : ∃ k, fu = k + 1 := ⟨fu - 1, by omega⟩
    rw [L21x1s]
    have g := s32 F (d + 1) s i (y.press.el i) (y.warm.el i) hS (by omega) (hD.1.2 i (by omega))
    simp only [Int.ofNat_lt, show i < l.len by omega, show i < y.press.len by omega, show i < y.warm.len by omega, decide_true, cond_true, Int.natCast_nonneg, Int.toNat_natCast, anyF, g, tkOut_ret, tkBool_b]
    cases hf1 : farAt s y i with
    | true =>
      simp only [show farB s (s.cavs.el i) (y.press.el i) (y.warm.el i) = true from hf1, cond_true, Bool.true_or]
    | false =>
      simp only [show farB s (s.cavs.el i) (y.press.el i) (y.warm.el i) = false from hf1, cond_false, s56 F d s i (l.el i) (y.press.el i) (y.warm.el i) hS (by omega) (hL.2 i (by omega)) (hD.1.2 i (by omega)) hf1 hF,
        tkOut_ret, tkAgg_a, tkCons_c, tkInt_i, tkNil_n, show (i + 1) * 48 ≤ 140737488355328 by omega, decide_true, cond_true, wrS (show i < 4611686018427387904 by omega), Bool.false_or]
      exact (congrArg (L21x1 (E F (d + 3)) F s l y fu (i + 1) ((i + 1 : Nat) : Int) (i + 1)) (app_enc eStt (mv s l y) hi)).trans (ih (i + 1) fu (by omega) (by omega) (by omega))
/-- The specification's states after a day are the program's. -/
theorem s21 (s : Site) (l : Sl Stt) (y : Day) (hS : SiteF s) (hL : StatesOk s l) (hD : DayOk s y) (hF : 8 < F) :
    E F (d + 4) 21 [.agg (eSite s), sl eStt 6 l, .agg (eDay y)] = some (.ret (moveR s l y)) := by
  have h5 := hS.cavs5
  have h1 := hS.cavs1
  have hl := hL.1
  have hp := hD.1.1
  have hw := hD.2.1
  rw [E_succ, t21]
  obtain ⟨fu, rfl⟩ : ∃ k, F = k + 1 := ⟨F - 1, by omega⟩
  rw [L21x0s]
  obtain ⟨n, hn⟩ : ∃ n, l.len = 1 + n := ⟨l.len - 1, by omega⟩
  have g : E (fu + 1) (d + 3) 32 [.agg (eSite s), .int .i64 0, .agg (eSpan (y.press.el 0)), .agg (eSpan (y.warm.el 0))] = _ := s32 (fu + 1) (d + 1) s 0 (y.press.el 0) (y.warm.el 0) hS (by omega) (hD.1.2 0 (by omega))
  have z : ∀ m : Nat, 0 < m → decide ((0 : Int) < (m : Int)) = true := fun m hm => decide_eq_true (by omega)
  simp only [z l.len (by omega), z y.press.len (by omega), z y.warm.len (by omega), cond_true, g, tkOut_ret, tkBool_b]
  have hc : s.cavs.len = n + 1 := by omega
  unfold moveR farDay
  rw [hc]
  simp only [anyF]
  cases hf1 : farAt s y 0 with
  | true =>
    simp only [show farB s (s.cavs.el 0) (y.press.el 0) (y.warm.el 0) = true from hf1, cond_true, Bool.true_or]
  | false =>
    have e : E (fu + 1) (d + 3) 56 [.agg (eSite s), .int .i64 0, .agg (eStt (l.el 0)), .agg (eSpan (y.press.el 0)), .agg (eSpan (y.warm.el 0))] = _ := s56 (fu + 1) d s 0 (l.el 0) (y.press.el 0) (y.warm.el 0) hS (by omega) (hL.2 0 (by omega)) (hD.1.2 0 (by omega)) hf1 hF
    simp only [show farB s (s.cavs.el 0) (y.press.el 0) (y.warm.el 0) = false from hf1, cond_false, e, tkOut_ret, tkAgg_a, tkCons_c, tkInt_i, tkNil_n, wr1, Bool.false_or]
    exact (congrArg (L21x1 (E (fu + 1) (d + 3)) (fu + 1) s l y fu 1 ((1 : Nat) : Int) 1) (one_enc eStt (mv s l y))).trans (l21 (fu + 1) d s l y hS hL hD hF n 1 fu (by omega) (by omega) (by omega))
end Go.Sim.Cr

/-
  Marks of a day: what the rules of the program answer, in plain terms.
-/
namespace Go.Sim.Cr
open Go.Proofs
variable (F d : Nat)
section
variable {α : Type} (e : α → List V) (z : α)
/-- The elements of a list; beyond its end the last one. -/
def gl (ms : List α) : Nat → List V := fun j => e (ms.getD j (ms.getLastD z))
/-- A list as a slice; the empty one is nil. -/
abbrev rowL (wd : Nat) (ms : List α) : V := .row ms.isEmpty ms.length (bif ms.isEmpty then 0 else wd) (bif ms.isEmpty then (fun _ => []) else gl e z ms)
theorem rowL_ne {wd : Nat} {ms : List α} {n : Nat} (hn : ms.length = n) (h : 1 ≤ n) : rowL e z wd ms = .row false n wd (gl e z ms) := by
  subst hn
  cases ms with
  | nil => simp at h
  | cons m ms => rfl
variable {e z}
theorem gl_one {l : List V} {m : α} (hl : l = e m) : (fun _ : Nat => l) = gl e z [m] := by
  subst hl
  funext j
  unfold gl
  cases j <;> rfl
theorem gl_snoc {l : List V} {m : α} {ms : List α} {k : Nat} (hk : ms.length = k) (hl : l = e m) : appGet k (gl e z ms) (fun _ => l) = gl e z (ms ++ [m]) := by
  subst hl hk
  funext j
  unfold appGet gl
  rw [List.getLastD_concat, List.getD_eq_getElem?_getD, List.getD_eq_getElem?_getD]
  by_cases h : j < ms.length
  · rw [if_pos h, List.getElem?_append_left h, List.getElem?_eq_getElem h]; rfl
  · rw [if_neg h, List.getElem?_append_right (by omega)]
    rcases Nat.eq_zero_or_pos (j - ms.length) with h0 | h0
    · rw [h0]; rfl
    · rw [List.getElem?_eq_none (by simp; omega)]; rfl
end
abbrev zMark : Mark := ⟨0, 0, false, false⟩
abbrev rowM (ms : List Mark) : V := rowL eMark zMark 4 ms
/-- The first index of a mark of which something holds. -/
def ixM (is : Mark → Bool) (ms : List Mark) : Int := ixF (fun j => is (ms.getD j (ms.getLastD zMark))) ms.length 0
theorem ixF_find (is : Mark → Bool) (ms : List Mark) (z : Mark) : ∀ n i, ms.length = i + n → ((ms.drop i).find? is = none ∧ ixF (fun j => is (ms.getD j z)) n i = -1) ∨
    ∃ (j : Nat) (m : Mark), (ms.drop i).find? is = some m ∧ ixF (fun j => is (ms.getD j z)) n i = (j : Int) ∧ j < ms.length ∧ ms.getD j z = m := by
  intro n
  induction n with
  | zero => intro i h; left; rw [List.drop_of_length_le (by omega)]; exact ⟨rfl, rfl⟩
  | succ n ih =>
    intro i h
    rw [List.drop_eq_getElem_cons (show i < ms.length by omega)]
    have hg : ms.getD i z = ms[i] := by rw [List.getD_eq_getElem?_getD, List.getElem?_eq_getElem (by omega)]; rfl
    simp only [ixF, hg, List.find?_cons]
    cases hi : is ms[i] with
    | true => right; exact ⟨i, ms[i], rfl, by rw [cond_true], by omega, hg⟩
    | false =>
      rcases ih (i + 1) (by omega) with ⟨h1, h2⟩ | ⟨j, m, h1, h2, h3, h4⟩
      · left; exact ⟨h1, by rw [cond_false]; exact h2⟩
      · right; exact ⟨j, m, h1, by rw [cond_false]; exact h2, h3, h4⟩
theorem ixM_find (is : Mark → Bool) (ms : List Mark) : (ms.find? is = none ∧ ixM is ms = -1) ∨
    ∃ (j : Nat) (m : Mark), ms.find? is = some m ∧ ixM is ms = (j : Int) ∧ j < ms.length ∧ ms.getD j (ms.getLastD zMark) = m :=
  ixF_find is ms (ms.getLastD zMark) ms.length 0 (by omega)

theorem s66 (m : Mark) : E F (d + 1) 66 [.agg (eMark m)] = some (.ret (.bool m.possible)) := by rw [E_succ, t66]
theorem s67 (m : Mark) : E F (d + 1) 67 [.agg (eMark m)] = some (.ret (.bool m.certain)) := by rw [E_succ, t67]
theorem l1021 (l : Sl Mark) (hB : l.len < Big) : ∀ n i fu, l.len = i + n → n < fu → L1021x0 (E F (d + 1)) F l fu (i : Int) = some (.ret (.int .i64 (ixF (fun j => (l.el j).possible) n i))) := by
  intro n
  induction n with
  | zero =>
    intro i fu h hf
    obtain ⟨fu, rfl⟩ : ∃ k, fu = k + 1 := ⟨fu - 1, by omega⟩
    rw [L1021x0s]
    simp only [Int.ofNat_lt, show ¬ i < l.len by omega, decide_false, cond_false, ixF]
  | succ n ih =>
    intro i fu h hf
    obtain ⟨fu, rfl⟩ : ∃ k, fu = k + 1 := ⟨fu - 1, by omega⟩
    rw [L1021x0s]
    simp only [Int.ofNat_lt, show i < l.len by omega, decide_true, cond_true, Int.natCast_nonneg, Int.toNat_natCast, s66, tkOut_ret, tkBool_b, ixF, wrS (show i < Big by omega), ih (i + 1) fu (by omega) (by omega)]
    cases (l.el i).possible <;> rfl
theorem l1022 (l : Sl Mark) (hB : l.len < Big) : ∀ n i fu, l.len = i + n → n < fu → L1022x0 (E F (d + 1)) F l fu (i : Int) = some (.ret (.int .i64 (ixF (fun j => (l.el j).certain) n i))) := by
  intro n
  induction n with
  | zero =>
    intro i fu h hf
    obtain ⟨fu, rfl⟩ : ∃ k, fu = k + 1 := ⟨fu - 1, by omega⟩
    rw [L1022x0s]
    simp only [Int.ofNat_lt, show ¬ i < l.len by omega, decide_false, cond_false, ixF]
  | succ n ih =>
    intro i fu h hf
    obtain ⟨fu, rfl⟩ : ∃ k, fu = k + 1 := ⟨fu - 1, by omega⟩
    rw [L1022x0s]
    simp only [Int.ofNat_lt, show i < l.len by omega, decide_true, cond_true, Int.natCast_nonneg, Int.toNat_natCast, s67, tkOut_ret, tkBool_b, ixF, wrS (show i < Big by omega), ih (i + 1) fu (by omega) (by omega)]
    cases (l.el i).certain <;> rfl
/-- 'IndexFunc' of marks: fn 66 looks at what is possible, fn 67 at what is certain. -/
theorem s102a (ms : List Mark) (hB : ms.length < Big) (hF : ms.length < F) : E F (d + 2) 102 [rowM ms, .fn (.func 66) [] []] = some (.ret (.int .i64 (ixM Mark.possible ms))) := by
  rw [E_succ]
  cases ms with
  | nil =>
    refine (t1023 (E F (d + 1)) F).trans ?_
    obtain ⟨fu, rfl⟩ : ∃ k, F = k + 1 := ⟨F - 1, by simp at hF; omega⟩
    rw [L1023x0s]; rfl
  | cons m ms =>
    refine (t1021 (E F (d + 1)) F ⟨false, (m :: ms).length, fun j => (m :: ms).getD j ((m :: ms).getLastD zMark)⟩).trans ?_
    exact l1021 F d ⟨false, (m :: ms).length, fun j => (m :: ms).getD j ((m :: ms).getLastD zMark)⟩ hB (m :: ms).length 0 F (by simp) hF
theorem s102b (ms : List Mark) (hB : ms.length < Big) (hF : ms.length < F) : E F (d + 2) 102 [rowM ms, .fn (.func 67) [] []] = some (.ret (.int .i64 (ixM Mark.certain ms))) := by
  rw [E_succ]
  cases ms with
  | nil =>
    refine (t1024 (E F (d + 1)) F).trans ?_
    obtain ⟨fu, rfl⟩ : ∃ k, F = k + 1 := ⟨F - 1, by simp at hF; omega⟩
    rw [L1024x0s]; rfl
  | cons m ms =>
    refine (t1022 (E F (d + 1)) F ⟨false, (m :: ms).length, fun j => (m :: ms).getD j ((m :: ms).getLastD zMark)⟩).trans ?_
    exact l1022 F d ⟨false, (m :: ms).length, fun j => (m :: ms).getD j ((m :: ms).getLastD zMark)⟩ hB (m :: ms).length 0 F (by simp) hF
abbrev pTod (s : Site) (y : Day) (B C : V) : V := .rptr 1 5 (fun _ => [pSite s, sl eSpan 2 y.press, sl eSpan 2 y.warm, B, C]) 0 0
theorem zlt {m : Nat} (hm : 0 < m) : decide ((0 : Int) < (m : Int)) = true := decide_eq_true (by omega)

def gateM (s : Site) (y : Day) (i : Nat) : Mark :=
  ⟨i, 0, decide ((y.press.el i).lo < (s.cavs.el i).gate.lo) || decide ((y.press.el i).hi > (s.cavs.el i).gate.hi), decide ((y.press.el i).hi < (s.cavs.el i).gate.lo) || decide ((y.press.el i).lo > (s.cavs.el i).gate.hi)⟩
theorem l97 (s : Site) (y : Day) (B C : V) (h5 : s.cavs.len ≤ 5) (hp : y.press.len = s.cavs.len) : ∀ n i fu (acc : List Mark), s.cavs.len = i + n → n < fu → acc.length = i → 1 ≤ i →
    L97x1 (E F d) F s y B C fu i (i : Int) i (gl eMark zMark acc) = some (.ret (rowM (acc ++ (List.range' i n).map (gateM s y)))) := by
  intro n
  induction n with
  | zero =>
    intro i fu acc h hf ha hi
    obtain ⟨fu, rfl⟩ : ∃ k, fu = k + 1 := ⟨fu - 1, by omega⟩
    rw [L97x1s]
    simp only [Int.ofNat_lt, show ¬ i < s.cavs.len by omega, decide_false, cond_false, List.range'_zero, List.map_nil, List.append_nil]
    rw [rowM, rowL_ne eMark zMark ha hi]
  | succ n ih =>
    intro i fu acc h hf ha hi
    obtain ⟨fu, rfl⟩ : ∃ k, fu = k + 1 := ⟨fu - 1, by omega⟩
    rw [L97x1s]
    simp only [Int.ofNat_lt, show i < s.cavs.len by omega, show i < y.press.len by omega, decide_true, cond_true, Int.natCast_nonneg, Int.toNat_natCast, show (i + 1) * 24 ≤ 140737488355328 by omega, wrS (show i < 4611686018427387904 by omega)]
    rw [List.range'_succ, List.map_cons, List.append_cons]
    cases h1 : decide ((y.press.el i).lo < (s.cavs.el i).gate.lo) <;> cases h2 : decide ((y.press.el i).hi < (s.cavs.el i).gate.lo) <;> simp only [cond_true, cond_false] <;>
      exact (congrArg (L97x1 (E F d) F s y B C fu (i + 1) ((i + 1 : Nat) : Int) (i + 1)) (gl_snoc ha (by simp [gateM, h1, h2]))).trans (ih (i + 1) fu _ (by omega) (by omega) (by simp [ha]) (by omega))
theorem wrLen {n : Nat} (h1 : 1 ≤ n) (h2 : n < 4611686018427387904) : IntKind.i64.wrap ((n : Int) - 1) = ((n - 1 : Nat) : Int) := by rw [wr (by omega)]; omega
theorem fin96 (T : Nat → Mark) (n : Nat) : [T 0] ++ (List.range' 1 n).map T = (List.range' 0 (n + 1)).map T := by
  rw [List.range'_succ, List.map_cons]; rfl
theorem s97 (s : Site) (y : Day) (B C : V) (h1 : 1 ≤ s.cavs.len) (h5 : s.cavs.len ≤ 5) (hp : y.press.len = s.cavs.len) (hF : 8 < F) :
    E F (d + 1) 97 [pTod s y B C] = some (.ret (rowM ((List.range' 0 s.cavs.len).map (gateM s y)))) := by
  obtain ⟨n, hn⟩ : ∃ n, s.cavs.len = n + 1 := ⟨s.cavs.len - 1, by omega⟩
  obtain ⟨fu, rfl⟩ : ∃ k, F = k + 1 := ⟨F - 1, by omega⟩
  rw [E_succ, t97, L97x0s]
  simp only [zlt (show 0 < s.cavs.len by omega), zlt (show 0 < y.press.len by omega), cond_true, wr1]
  rw [hn, ← fin96]
  cases h1 : decide ((y.press.el 0).lo < (s.cavs.el 0).gate.lo) <;> cases h2 : decide ((y.press.el 0).hi < (s.cavs.el 0).gate.lo) <;> simp only [cond_true, cond_false] <;>
    exact (congrArg (L97x1 (E (fu + 1) d) (fu + 1) s y B C fu 1 ((1 : Nat) : Int) 1) (gl_one (by simp [gateM, h1, h2]))).trans (l97 (fu + 1) d s y B C h5 hp n 1 fu [gateM s y 0] (by omega) (by omega) rfl (by omega))

/-- A number is beyond the tables. -/
def outB (s : Site) (c : Cav) (p q : Span) : Bool := decide (p.hi > c.rock) || (decide (c.rock - p.lo > rowN s (s.rows.len - 1)) || (decide (q.lo < heatN s 0) || decide (q.hi > heatN s (s.heats.len - 1))))
theorem outB_far {s : Site} (hS : SiteF s) (c : Cav) (p q : Span) : outB s c p q = farB s c p q := by
  have h0 : rowN s 0 = 0 := by
    have := hS.row 0 (by have := hS.rows1; omega)
    simp only [rowB, rowStep, Bool.and_eq_true, decide_eq_true_iff] at this
    exact this.2.2.2
  unfold outB farB offB
  rw [h0]
  apply b2
  simp only [Bool.or_eq_true, decide_eq_true_iff]
  omega
def outM (s : Site) (y : Day) (i : Nat) : Mark := ⟨i, 0, farAt s y i, false⟩
theorem outM_eq {s : Site} (hS : SiteF s) (y : Day) (i : Nat) : outM s y i = ⟨i, 0, outB s (s.cavs.el i) (y.press.el i) (y.warm.el i), false⟩ := by
  rw [outB_far hS]; rfl
theorem l96 (s : Site) (y : Day) (B C : V) (hS : SiteF s) (hp : y.press.len = s.cavs.len) (hw : y.warm.len = s.cavs.len) (hD : DayOk s y) : ∀ n i fu (acc : List Mark), s.cavs.len = i + n → n < fu → acc.length = i → 1 ≤ i →
    L96x1 (E F d) F s y B C fu i (i : Int) i (gl eMark zMark acc) = some (.ret (rowM (acc ++ (List.range' i n).map (outM s y)))) := by
  have h5 := hS.cavs5
  have r1 := hS.rows1
  have r8 := hS.rows8
  have t1 := hS.heats1
  have t8 := hS.heats8
  intro n
  induction n with
  | zero =>
    intro i fu acc h hf ha hi
    obtain ⟨fu, rfl⟩ : ∃ k, fu = k + 1 := ⟨fu - 1, by omega⟩
    rw [L96x1s]
    simp only [Int.ofNat_lt, show ¬ i < s.cavs.len by omega, decide_false, cond_false, List.range'_zero, List.map_nil, List.append_nil]
    rw [rowM, rowL_ne eMark zMark ha hi]
  | succ n ih =>
    intro i fu acc h hf ha hi
    obtain ⟨fu, rfl⟩ : ∃ k, fu = k + 1 := ⟨fu - 1, by omega⟩
    rw [L96x1s]
    have hr := (hS.cav i (by omega)).2.2.2.1
    have hq := hD.1.2 i (by omega)
    simp only [Int.ofNat_lt, show i < s.cavs.len by omega, show i < y.press.len by omega, show i < y.warm.len by omega, decide_true, cond_true, Int.natCast_nonneg, Int.toNat_natCast, show (i + 1) * 24 ≤ 140737488355328 by omega, wrS (show i < 4611686018427387904 by omega),
      wr (show _ ∧ (s.cavs.el i).rock - (y.press.el i).lo ≤ _ by omega), wrLen r1 (show s.rows.len < 4611686018427387904 by omega), wrLen t1 (show s.heats.len < 4611686018427387904 by omega),
      show s.rows.len - 1 < s.rows.len by omega, show s.heats.len - 1 < s.heats.len by omega, zlt (show 0 < s.heats.len by omega)]
    rw [List.range'_succ, List.map_cons, List.append_cons]
    have key : ∀ b, b = outB s (s.cavs.el i) (y.press.el i) (y.warm.el i) → L96x1 (E F d) F s y B C fu (i + 1) ((i + 1 : Nat) : Int) (i + 1) (appGet i (gl eMark zMark acc) fun _ => [.int .i64 (i : Int), .int .i64 0, .bool b, .bool false]) = some (.ret (rowM (acc ++ [outM s y i] ++ (List.range' (i + 1) n).map (outM s y)))) := fun b hb =>
      (congrArg (L96x1 (E F d) F s y B C fu (i + 1) ((i + 1 : Nat) : Int) (i + 1)) (gl_snoc (m := outM s y i) ha (by rw [outM_eq hS, hb]))).trans (ih (i + 1) fu _ (by omega) (by omega) (by simp [ha]) (by omega))
    cases h1 : decide ((y.press.el i).hi > (s.cavs.el i).rock) with
    | true => simp only [cond_true]; exact key true (by unfold outB; rw [h1]; rfl)
    | false =>
      simp only [cond_false]
      cases h2 : decide ((s.cavs.el i).rock - (y.press.el i).lo > (s.rows.el (s.rows.len - 1)).deficit) with
      | true => simp only [cond_true]; exact key true (by unfold outB rowN; rw [h1, h2]; rfl)
      | false =>
        simp only [cond_false]
        cases h3 : decide ((y.warm.el i).lo < (s.heats.el 0).warmth) with
        | true => simp only [cond_true]; exact key true (by unfold outB rowN heatN; rw [h1, h2, h3]; rfl)
        | false => simp only [cond_false]; exact key _ (by unfold outB rowN heatN; rw [h1, h2, h3]; rfl)
theorem s96 (s : Site) (y : Day) (B C : V) (hS : SiteF s) (hD : DayOk s y) (hF : 8 < F) :
    E F (d + 1) 96 [pTod s y B C] = some (.ret (rowM ((List.range' 0 s.cavs.len).map (outM s y)))) := by
  have h1 := hS.cavs1
  have h5 := hS.cavs5
  have r1 := hS.rows1
  have r8 := hS.rows8
  have t1 := hS.heats1
  have t8 := hS.heats8
  have hp := hD.1.1
  have hw := hD.2.1
  obtain ⟨n, hn⟩ : ∃ n, s.cavs.len = n + 1 := ⟨s.cavs.len - 1, by omega⟩
  obtain ⟨fu, rfl⟩ : ∃ k, F = k + 1 := ⟨F - 1, by omega⟩
  have hr := (hS.cav 0 (by omega)).2.2.2.1
  have hq := hD.1.2 0 (by omega)
  rw [E_succ, t96, L96x0s]
  simp only [zlt (show 0 < s.cavs.len by omega), zlt (show 0 < y.press.len by omega), zlt (show 0 < y.warm.len by omega), cond_true, wr1, Int.ofNat_lt, decide_true, Int.natCast_nonneg, Int.toNat_natCast,
    wr (show _ ∧ (s.cavs.el 0).rock - (y.press.el 0).lo ≤ _ by omega), wrLen r1 (show s.rows.len < 4611686018427387904 by omega), wrLen t1 (show s.heats.len < 4611686018427387904 by omega),
    show s.rows.len - 1 < s.rows.len by omega, show s.heats.len - 1 < s.heats.len by omega, zlt (show 0 < s.heats.len by omega)]
  rw [hn, ← fin96]
  have key : ∀ b, b = outB s (s.cavs.el 0) (y.press.el 0) (y.warm.el 0) → L96x1 (E (fu + 1) d) (fu + 1) s y B C fu 1 ((1 : Nat) : Int) 1 (fun _ => [.int .i64 0, .int .i64 0, .bool b, .bool false]) = some (.ret (rowM ([outM s y 0] ++ (List.range' 1 n).map (outM s y)))) := fun b hb =>
    (congrArg (L96x1 (E (fu + 1) d) (fu + 1) s y B C fu 1 ((1 : Nat) : Int) 1) (gl_one (m := outM s y 0) (by rw [outM_eq hS, hb]; rfl))).trans (l96 (fu + 1) d s y B C hS hp hw hD n 1 fu [outM s y 0] (by omega) (by omega) rfl (by omega))
  cases h1 : decide ((y.press.el 0).hi > (s.cavs.el 0).rock) with
  | true => simp only [cond_true]; exact key true (by unfold outB; rw [h1]; rfl)
  | false =>
    simp only [cond_false]
    cases h2 : decide ((s.cavs.el 0).rock - (y.press.el 0).lo > (s.rows.el (s.rows.len - 1)).deficit) with
    | true => simp only [cond_true]; exact key true (by unfold outB rowN; rw [h1, h2]; rfl)
    | false =>
      simp only [cond_false]
      cases h3 : decide ((y.warm.el 0).lo < (s.heats.el 0).warmth) with
      | true => simp only [cond_true]; exact key true (by unfold outB rowN heatN; rw [h1, h2, h3]; rfl)
      | false => simp only [cond_false]; exact key _ (by unfold outB rowN heatN; rw [h1, h2, h3]; rfl)

def maxI (a b : Int) : Int := if a < b then b else a
def fastM (s : Site) (y : Day) (b : Sl Span) (i : Nat) : Mark :=
  ⟨i, 0, decide (maxI ((y.press.el i).hi - (b.el i).lo) ((b.el i).hi - (y.press.el i).lo) > (s.cavs.el i).change), decide (maxI ((y.press.el i).lo - (b.el i).hi) ((b.el i).lo - (y.press.el i).hi) > (s.cavs.el i).change)⟩
theorem l98 (s : Site) (y : Day) (b : Sl Span) (B C : V) (h5 : s.cavs.len ≤ 5) (hD : DayOk s y) (hb : b.len = s.cavs.len) (hq : ∀ i, i < b.len → SpanIn (b.el i) 0 50000) : ∀ n i fu (acc : List Mark), s.cavs.len = i + n → n < fu → acc.length = i → 1 ≤ i →
    L98x1 (E F d) F s y B C fu i b.nl b.len 2 (fun i => eSpan (b.el i)) (b.len : Int) (i : Int) i (gl eMark zMark acc) = some (.ret (rowM (acc ++ (List.range' i n).map (fastM s y b)))) := by
  have hp := hD.1.1
  intro n
  induction n with
  | zero =>
    intro i fu acc h hf ha hi
    obtain ⟨fu, rfl⟩ : ∃ k, fu = k + 1 := ⟨fu - 1, by omega⟩
    rw [L98x1s]
    simp only [Int.ofNat_lt, show ¬ i < b.len by omega, decide_false, cond_false, List.range'_zero, List.map_nil, List.append_nil]
    rw [rowM, rowL_ne eMark zMark ha hi]
  | succ n ih =>
    intro i fu acc h hf ha hi
    obtain ⟨fu, rfl⟩ : ∃ k, fu = k + 1 := ⟨fu - 1, by omega⟩
    rw [L98x1s]
    have q1 := hD.1.2 i (by omega)
    have q2 := hq i (by omega)
    simp only [Int.ofNat_lt, show i < s.cavs.len by omega, show i < b.len by omega, show i < y.press.len by omega, decide_true, cond_true, Int.natCast_nonneg, Int.toNat_natCast, show (i + 1) * 24 ≤ 140737488355328 by omega, wrS (show i < 4611686018427387904 by omega),
      List.take, List.length, tkCons_c, tkInt_i, tkNil_n, beq_self_eq_true,
      wr (show _ ∧ (y.press.el i).hi - (b.el i).lo ≤ _ by omega), wr (show _ ∧ (y.press.el i).lo - (b.el i).hi ≤ _ by omega), wr (show _ ∧ (b.el i).hi - (y.press.el i).lo ≤ _ by omega), wr (show _ ∧ (b.el i).lo - (y.press.el i).hi ≤ _ by omega)]
    rw [List.range'_succ, List.map_cons, List.append_cons]
    exact (congrArg (L98x1 (E F d) F s y B C fu (i + 1) b.nl b.len 2 (fun i => eSpan (b.el i)) (b.len : Int) ((i + 1 : Nat) : Int) (i + 1)) (gl_snoc (m := fastM s y b i) ha rfl)).trans (ih (i + 1) fu _ (by omega) (by omega) (by simp [ha]) (by omega))
theorem s98 (s : Site) (y : Day) (b : Sl Span) (C : V) (h1 : 1 ≤ s.cavs.len) (h5 : s.cavs.len ≤ 5) (hD : DayOk s y) (hb : b.len = s.cavs.len) (hq : ∀ i, i < b.len → SpanIn (b.el i) 0 50000) (hF : 8 < F) :
    E F (d + 1) 98 [pTod s y (sl eSpan 2 b) C] = some (.ret (rowM ((List.range' 0 s.cavs.len).map (fastM s y b)))) := by
  have hp := hD.1.1
  obtain ⟨n, hn⟩ : ∃ n, s.cavs.len = n + 1 := ⟨s.cavs.len - 1, by omega⟩
  obtain ⟨fu, rfl⟩ : ∃ k, F = k + 1 := ⟨F - 1, by omega⟩
  have q1 := hD.1.2 0 (by omega)
  have q2 := hq 0 (by omega)
  rw [E_succ, t98]
  simp only [tkRow_r]
  rw [L98x0s]
  simp only [zlt (show 0 < s.cavs.len by omega), zlt (show 0 < b.len by omega), zlt (show 0 < y.press.len by omega), cond_true, wr1, decide_true,
      List.take, List.length, tkCons_c, tkInt_i, tkNil_n, beq_self_eq_true,
      wr (show _ ∧ (y.press.el 0).hi - (b.el 0).lo ≤ _ by omega), wr (show _ ∧ (y.press.el 0).lo - (b.el 0).hi ≤ _ by omega), wr (show _ ∧ (b.el 0).hi - (y.press.el 0).lo ≤ _ by omega), wr (show _ ∧ (b.el 0).lo - (y.press.el 0).hi ≤ _ by omega)]
  rw [hn, ← fin96]
  exact (congrArg (L98x1 (E (fu + 1) d) (fu + 1) s y (sl eSpan 2 b) C fu 1 b.nl b.len 2 (fun i => eSpan (b.el i)) (b.len : Int) ((1 : Nat) : Int) 1) (gl_one (m := fastM s y b 0) (by simp only [fastM, maxI, Int.natCast_zero]; rfl))).trans (l98 (fu + 1) d s y b (sl eSpan 2 b) C h5 hD hb hq n 1 fu [fastM s y b 0] (by omega) (by omega) rfl (by omega))
theorem s98n (s : Site) (y : Day) (C : V) (hF : 8 < F) : E F (d + 1) 98 [pTod s y noneRow C] = some (.ret (rowM [])) := by
  obtain ⟨fu, rfl⟩ : ∃ k, F = k + 1 := ⟨F - 1, by omega⟩
  rw [E_succ, t98]
  simp only [tkRow_r]
  rw [L98x0s]
  rfl

def smallM (s : Site) (m : Sl Stt) (i : Nat) : Mark := ⟨i, 0, decide ((m.el i).vol.lo < (s.cavs.el i).floor), decide ((m.el i).vol.hi < (s.cavs.el i).floor)⟩
theorem l99 (s : Site) (y : Day) (m : Sl Stt) (B C : V) (h5 : s.cavs.len ≤ 5) (hb : m.len = s.cavs.len) : ∀ n i fu (acc : List Mark), s.cavs.len = i + n → n < fu → acc.length = i → 1 ≤ i →
    L99x1 (E F d) F s y B C fu i m.nl m.len 6 (fun i => eStt (m.el i)) (m.len : Int) (i : Int) i (gl eMark zMark acc) = some (.ret (rowM (acc ++ (List.range' i n).map (smallM s m)))) := by
  intro n
  induction n with
  | zero =>
    intro i fu acc h hf ha hi
    obtain ⟨fu, rfl⟩ : ∃ k, fu = k + 1 := ⟨fu - 1, by omega⟩
    rw [L99x1s]
    simp only [Int.ofNat_lt, show ¬ i < m.len by omega, decide_false, cond_false, List.range'_zero, List.map_nil, List.append_nil]
    rw [rowM, rowL_ne eMark zMark ha hi]
  | succ n ih =>
    intro i fu acc h hf ha hi
    obtain ⟨fu, rfl⟩ : ∃ k, fu = k + 1 := ⟨fu - 1, by omega⟩
    rw [L99x1s]
    simp only [Int.ofNat_lt, show i < s.cavs.len by omega, show i < m.len by omega, decide_true, cond_true, Int.natCast_nonneg, Int.toNat_natCast, show (i + 1) * 24 ≤ 140737488355328 by omega, wrS (show i < 4611686018427387904 by omega),
      List.take, List.length, tkCons_c, tkInt_i, tkNil_n, beq_self_eq_true]
    rw [List.range'_succ, List.map_cons, List.append_cons]
    exact (congrArg (L99x1 (E F d) F s y B C fu (i + 1) m.nl m.len 6 (fun i => eStt (m.el i)) (m.len : Int) ((i + 1 : Nat) : Int) (i + 1)) (gl_snoc (m := smallM s m i) ha rfl)).trans (ih (i + 1) fu _ (by omega) (by omega) (by simp [ha]) (by omega))
theorem s99 (s : Site) (y : Day) (m : Sl Stt) (B : V) (h1 : 1 ≤ s.cavs.len) (h5 : s.cavs.len ≤ 5) (hb : m.len = s.cavs.len) (hF : 8 < F) :
    E F (d + 1) 99 [pTod s y B (sl eStt 6 m)] = some (.ret (rowM ((List.range' 0 s.cavs.len).map (smallM s m)))) := by
  obtain ⟨n, hn⟩ : ∃ n, s.cavs.len = n + 1 := ⟨s.cavs.len - 1, by omega⟩
  obtain ⟨fu, rfl⟩ : ∃ k, F = k + 1 := ⟨F - 1, by omega⟩
  rw [E_succ, t99]
  simp only [tkRow_r]
  rw [L99x0s]
  simp only [zlt (show 0 < s.cavs.len by omega), zlt (show 0 < m.len by omega), cond_true, wr1, decide_true, List.take, List.length, tkCons_c, tkInt_i, tkNil_n, beq_self_eq_true]
  rw [hn, ← fin96]
  exact (congrArg (L99x1 (E (fu + 1) d) (fu + 1) s y B (sl eStt 6 m) fu 1 m.nl m.len 6 (fun i => eStt (m.el i)) (m.len : Int) ((1 : Nat) : Int) 1) (gl_one (m := smallM s m 0) (by simp only [smallM, Int.natCast_zero]))).trans (l99 (fu + 1) d s y m B (sl eStt 6 m) h5 hb n 1 fu [smallM s m 0] (by omega) (by omega) rfl (by omega))
theorem s99n (s : Site) (y : Day) (B : V) (hF : 8 < F) : E F (d + 1) 99 [pTod s y B noneRow] = some (.ret (rowM [])) := by
  obtain ⟨fu, rfl⟩ : ∃ k, F = k + 1 := ⟨F - 1, by omega⟩
  rw [E_succ, t99]
  simp only [tkRow_r]
  rw [L99x0s]
  rfl
end Go.Sim.Cr

/-
  Marks of houses and of pairs of caverns; the first fault of a day.
-/
namespace Go.Sim.Cr
open Go.Proofs
variable (F d : Nat)
def sunkM (s : Site) (m : Sl Stt) (i : Nat) : Mark :=
  ⟨i, 0, decide ((sunk s m (s.houses.el i).x (s.houses.el i).y).hi > (s.houses.el i).most), decide ((sunk s m (s.houses.el i).x (s.houses.el i).y).lo > (s.houses.el i).most)⟩
theorem l101 (s : Site) (y : Day) (m : Sl Stt) (B : V) (hS : SiteF s) (hL : StatesOk s m) (hF : 8 < F) : ∀ n i fu (acc : List Mark), s.houses.len = i + n → n < fu → acc.length = i → 1 ≤ i →
    L101x1 (E F (d + 2)) F s y B (sl eStt 6 m) fu i (i : Int) i (gl eMark zMark acc) = some (.ret (rowM (acc ++ (List.range' i n).map (sunkM s m)))) := by
  have h5 := hS.houses5
  intro n
  induction n with
  | zero =>
    intro i fu acc h hf ha hi
    obtain ⟨fu, rfl⟩ : ∃ k, fu = k + 1 := ⟨fu - 1, by omega⟩
    rw [L101x1s]
    simp only [Int.ofNat_lt, show ¬ i < s.houses.len by omega, decide_false, cond_false, List.range'_zero, List.map_nil, List.append_nil]
    rw [rowM, rowL_ne eMark zMark ha hi]
  | succ n ih =>
    intro i fu acc h hf ha hi
    obtain ⟨fu, rfl⟩ : ∃ k, fu = k + 1 := ⟨fu - 1, by omega⟩
    rw [L101x1s]
    have hp : Place (s.houses.el i).x (s.houses.el i).y := (hS.house i (by omega)).1
    simp only [Int.ofNat_lt, show i < s.houses.len by omega, decide_true, cond_true, Int.natCast_nonneg, Int.toNat_natCast, show (i + 1) * 24 ≤ 140737488355328 by omega, wrS (show i < 4611686018427387904 by omega),
      tkRow_r, s53 F d s m _ _ hS hL hp hF, tkOut_ret, tkAgg_a, tkCons_c, tkInt_i, tkNil_n]
    rw [List.range'_succ, List.map_cons, List.append_cons]
    exact (congrArg (L101x1 (E F (d + 2)) F s y B (sl eStt 6 m) fu (i + 1) ((i + 1 : Nat) : Int) (i + 1)) (gl_snoc (m := sunkM s m i) ha rfl)).trans (ih (i + 1) fu _ (by omega) (by omega) (by simp [ha]) (by omega))
theorem s101 (s : Site) (y : Day) (m : Sl Stt) (B : V) (hS : SiteF s) (hL : StatesOk s m) (hm : m.nl = false) (hF : 8 < F) :
    E F (d + 3) 101 [pTod s y B (sl eStt 6 m)] = some (.ret (rowM ((List.range' 0 s.houses.len).map (sunkM s m)))) := by
  have h5 := hS.houses5
  obtain ⟨fu, rfl⟩ : ∃ k, F = k + 1 := ⟨F - 1, by omega⟩
  obtain ⟨nl, ml, me⟩ := m
  obtain rfl : nl = false := hm
  rw [E_succ, t101]
  simp only [tkRow_r, cond_false]
  rw [L101x0s]
  rcases Nat.eq_zero_or_pos s.houses.len with h0 | h0
  · rw [h0]; rfl
  · obtain ⟨n, hn⟩ : ∃ n, s.houses.len = n + 1 := ⟨s.houses.len - 1, by omega⟩
    have hp : Place (s.houses.el 0).x (s.houses.el 0).y := (hS.house 0 (by omega)).1
    have e := s53 (fu + 1) d s ⟨false, ml, me⟩ _ _ hS hL hp hF
    simp only [zlt h0, cond_true, wr1, tkRow_r, e, tkOut_ret, tkAgg_a, tkCons_c, tkInt_i, tkNil_n, decide_true]
    rw [hn, ← fin96]
    exact (congrArg (L101x1 (E (fu + 1) (d + 2)) (fu + 1) s y B (sl eStt 6 ⟨false, ml, me⟩) fu 1 ((1 : Nat) : Int) 1) (gl_one (m := sunkM s ⟨false, ml, me⟩ 0) (by simp only [sunkM, Int.natCast_zero]))).trans (l101 (fu + 1) d s y ⟨false, ml, me⟩ B hS hL hF n 1 fu [sunkM s ⟨false, ml, me⟩ 0] (by omega) (by omega) rfl (by omega))
theorem s101n (s : Site) (y : Day) (B : V) : E F (d + 1) 101 [pTod s y B noneRow] = some (.ret (rowM [])) := by
  rw [E_succ, t101]
  rfl

noncomputable def thinM (s : Site) (m : Sl Stt) (i j : Nat) : Mark :=
  ⟨i, j, decide (distI (s.cavs.el i) (s.cavs.el j) - (m.el i).rad.hi - (m.el j).rad.hi < s.wall), decide (distI (s.cavs.el i) (s.cavs.el j) - (m.el i).rad.lo - (m.el j).rad.lo < s.wall)⟩
/-- All pairs from a cavern on, so many caverns being left. -/
noncomputable def pairsM (s : Site) (m : Sl Stt) : Nat → Nat → List Mark
  | 0, _ => []
  | k + 1, i => (List.range' (i + 1) k).map (thinM s m i) ++ pairsM s m k (i + 1)
variable (s : Site) (y : Day) (m : Sl Stt) (B : V)
noncomputable abbrev LB2 (m0 fu : Nat) (i j : Nat) (acc : List Mark) : Option Out :=
  L100x2 (E F (d + 4)) F s y B (sl eStt 6 m) m0 fu (i : Int) (j : Int) (i : Int) acc.length acc.length (gl eMark zMark acc) m.nl m.len 6 (fun i => eStt (m.el i)) m.nl
noncomputable abbrev LB3 (fu : Nat) (i : Nat) (acc : List Mark) : Option Out :=
  L100x3 (E F (d + 4)) F s y B (sl eStt 6 m) fu (i : Int) acc.length acc.length (gl eMark zMark acc) m.nl m.len 6 (fun i => eStt (m.el i)) m.nl
theorem in2 (hS : SiteF s) (hL : StatesOk s m) (hF : 67108864 < F) (m0 i : Nat) (P : List Mark) (M : Nat) (hM : M ≤ 100) (hi : i < s.cavs.len) (hO : ∀ acc, 1 ≤ acc.length → acc.length ≤ M → LB3 F d s y m B m0 (i + 1) acc = some (.ret (rowM (acc ++ P)))) :
    ∀ r j fu (acc : List Mark), s.cavs.len = j + r → r < fu → i < j → 1 ≤ acc.length → acc.length + r ≤ M → LB2 F d s y m B m0 fu i j acc = some (.ret (rowM (acc ++ ((List.range' j r).map (thinM s m i) ++ P)))) := by
  have h5 := hS.cavs5
  have hl := hL.1
  intro r
  induction r with
  | zero =>
    intro j fu acc h hf hij ha hb
    obtain ⟨fu, rfl⟩ : ∃ k, fu = k + 1 := ⟨fu - 1, by omega⟩
    unfold LB2
    rw [L100x2s]
    simp only [Int.ofNat_lt, show ¬ j < s.cavs.len by omega, decide_false, cond_false, wrS (show i < 4611686018427387904 by omega), List.range'_zero, List.map_nil, List.nil_append]
    exact hO acc ha (by omega)
  | succ r ih =>
    intro j fu acc h hf hij ha hb
    obtain ⟨fu, rfl⟩ : ∃ k, fu = k + 1 := ⟨fu - 1, by omega⟩
    unfold LB2
    rw [L100x2s]
    have a1 := (hL.2 i (by omega)).1
    have a2 := (hL.2 j (by omega)).1
    have p1 := (hS.cav i hi).1
    have p2 := (hS.cav j (by omega)).1
    simp only [Int.ofNat_lt, show j < s.cavs.len by omega, show j < m.len by omega, show i < m.len by omega, decide_true, cond_true, Int.natCast_nonneg, Int.toNat_natCast, tkRow_r, beq_self_eq_true, List.take, List.length, tkCons_c, tkInt_i, tkNil_n,
      s73 F d s i j (m.el i).rad.hi (m.el j).rad.hi hi (by omega) p1 p2 (by omega) (by omega) hF, s73 F d s i j (m.el i).rad.lo (m.el j).rad.lo hi (by omega) p1 p2 (by omega) (by omega) hF, tkOut_ret, show (acc.length + 1) * 24 ≤ 140737488355328 by omega, wrS (show j < 4611686018427387904 by omega)]
    rw [List.range'_succ, List.map_cons, List.cons_append, List.append_cons]
    have g := ih (j + 1) fu (acc ++ [thinM s m i j]) (by omega) (by omega) (by omega) (by simp) (by simp; omega)
    unfold LB2 at g
    rw [show (acc ++ [thinM s m i j]).length = acc.length + 1 by simp] at g
    exact (congrArg (fun G => L100x2 (E F (d + 4)) F s y B (sl eStt 6 m) m0 fu (i : Int) ((j + 1 : Nat) : Int) (i : Int) (acc.length + 1) (acc.length + 1) G m.nl m.len 6 (fun i => eStt (m.el i)) m.nl) (gl_snoc (m := thinM s m i j) rfl rfl)).trans g
theorem out3 (hS : SiteF s) (hL : StatesOk s m) (hF : 67108864 < F) : ∀ k i fu (acc : List Mark), s.cavs.len = i + k → k < fu → 1 ≤ acc.length → acc.length + 10 * k ≤ 100 →
    LB3 F d s y m B fu i acc = some (.ret (rowM (acc ++ pairsM s m k i))) := by
  have h5 := hS.cavs5
  intro k
  induction k with
  | zero =>
    intro i fu acc h hf ha hb
    obtain ⟨fu, rfl⟩ : ∃ k, fu = k + 1 := ⟨fu - 1, by omega⟩
    unfold LB3
    rw [L100x3s]
    simp only [Int.ofNat_lt, show ¬ i < s.cavs.len by omega, decide_false, cond_false, pairsM, List.append_nil]
    rw [rowM, rowL_ne eMark zMark rfl ha]
  | succ k ih =>
    intro i fu acc h hf ha hb
    obtain ⟨fu, rfl⟩ : ∃ k, fu = k + 1 := ⟨fu - 1, by omega⟩
    unfold LB3
    rw [L100x3s]
    simp only [Int.ofNat_lt, show i < s.cavs.len by omega, decide_true, cond_true, wrS (show i < 4611686018427387904 by omega), pairsM]
    exact in2 F d s y m B hS hL hF fu i (pairsM s m k (i + 1)) (100 - 10 * k) (by omega) (by omega) (fun acc' h1 h2 => ih (i + 1) fu acc' (by omega) (by omega) h1 (by omega)) k (i + 1) F acc (by omega) (by omega) (by omega) ha (by omega)
noncomputable abbrev LB0 (fu : Nat) (i : Nat) : Option Out :=
  L100x0 (E F (d + 4)) F s y B (sl eStt 6 m) fu (i : Int) m.nl m.len 6 (fun i => eStt (m.el i)) m.nl
noncomputable abbrev LB1 (m0 fu : Nat) (i j : Nat) : Option Out :=
  L100x1 (E F (d + 4)) F s y B (sl eStt 6 m) m0 fu (i : Int) (j : Int) (i : Int) m.nl m.len 6 (fun i => eStt (m.el i)) m.nl
theorem in1 (hS : SiteF s) (hL : StatesOk s m) (hF : 67108864 < F) (m0 i k : Nat) (hi : s.cavs.len = i + 1 + k) (hk : k < m0) (hO : LB0 F d s y m B m0 (i + 1) = some (.ret (rowM (pairsM s m k (i + 1))))) :
    ∀ r j fu, s.cavs.len = j + r → r < fu → i < j → LB1 F d s y m B m0 fu i j = some (.ret (rowM ((List.range' j r).map (thinM s m i) ++ pairsM s m k (i + 1)))) := by
  have h5 := hS.cavs5
  have hl := hL.1
  intro r
  cases r with
  | zero =>
    intro j fu h hf hij
    obtain ⟨fu, rfl⟩ : ∃ k, fu = k + 1 := ⟨fu - 1, by omega⟩
    unfold LB1
    rw [L100x1s]
    simp only [Int.ofNat_lt, show ¬ j < s.cavs.len by omega, decide_false, cond_false, wrS (show i < 4611686018427387904 by omega), List.range'_zero, List.map_nil, List.nil_append]
    exact hO
  | succ r =>
    intro j fu h hf hij
    obtain ⟨fu, rfl⟩ : ∃ k, fu = k + 1 := ⟨fu - 1, by omega⟩
    unfold LB1
    rw [L100x1s]
    have a1 := (hL.2 i (by omega)).1
    have a2 := (hL.2 j (by omega)).1
    have p1 := (hS.cav i (by omega)).1
    have p2 := (hS.cav j (by omega)).1
    simp only [Int.ofNat_lt, show j < s.cavs.len by omega, show j < m.len by omega, show i < m.len by omega, decide_true, cond_true, Int.natCast_nonneg, Int.toNat_natCast, tkRow_r, beq_self_eq_true, List.take, List.length, tkCons_c, tkInt_i, tkNil_n,
      s73 F d s i j (m.el i).rad.hi (m.el j).rad.hi (by omega) (by omega) p1 p2 (by omega) (by omega) hF, s73 F d s i j (m.el i).rad.lo (m.el j).rad.lo (by omega) (by omega) p1 p2 (by omega) (by omega) hF, tkOut_ret, wrS (show j < 4611686018427387904 by omega)]
    rw [List.range'_succ, List.map_cons]
    have g := in2 F d s y m B hS hL hF m0 i (pairsM s m k (i + 1)) 50 (by omega) (by omega) (fun acc' h1 h2 => out3 F d s y m B hS hL hF k (i + 1) m0 acc' (by omega) (by omega) h1 (by omega)) r (j + 1) fu [thinM s m i j] (by omega) (by omega) (by omega) (by simp) (by simp; omega)
    unfold LB2 at g
    rw [show ([thinM s m i j] : List Mark).length = 1 from rfl, List.singleton_append] at g
    rw [List.cons_append]
    exact (congrArg (fun G => L100x2 (E F (d + 4)) F s y B (sl eStt 6 m) m0 fu (i : Int) ((j + 1 : Nat) : Int) (i : Int) 1 1 G m.nl m.len 6 (fun i => eStt (m.el i)) m.nl) (gl_one (e := eMark) (z := zMark) (m := thinM s m i j) (by simp only [thinM]))).trans g
theorem out0 (hS : SiteF s) (hL : StatesOk s m) (hF : 67108864 < F) : ∀ k i fu, s.cavs.len = i + k → k < fu → LB0 F d s y m B fu i = some (.ret (rowM (pairsM s m k i))) := by
  have h5 := hS.cavs5
  intro k
  induction k with
  | zero =>
    intro i fu h hf
    obtain ⟨fu, rfl⟩ : ∃ k, fu = k + 1 := ⟨fu - 1, by omega⟩
    unfold LB0
    rw [L100x0s]
    simp only [Int.ofNat_lt, show ¬ i < s.cavs.len by omega, decide_false, cond_false, pairsM]
    rfl
  | succ k ih =>
    intro i fu h hf
    obtain ⟨fu, rfl⟩ : ∃ k, fu = k + 1 := ⟨fu - 1, by omega⟩
    unfold LB0
    rw [L100x0s]
    simp only [Int.ofNat_lt, show i < s.cavs.len by omega, decide_true, cond_true, wrS (show i < 4611686018427387904 by omega), pairsM]
    exact in1 F d s y m B hS hL hF fu i k (by omega) (by omega) (ih (i + 1) fu (by omega) (by omega)) k (i + 1) F (by omega) (by omega) (by omega)
theorem s100 (hS : SiteF s) (hL : StatesOk s m) (hm : m.nl = false) (hF : 67108864 < F) :
    E F (d + 5) 100 [pTod s y B (sl eStt 6 m)] = some (.ret (rowM (pairsM s m s.cavs.len 0))) := by
  have h5 := hS.cavs5
  rw [E_succ, t100]
  simp only [tkRow_r]
  have g := out0 F d s y m B hS hL hF s.cavs.len 0 F (by omega) (by omega)
  unfold LB0 at g
  rw [hm, cond_false]
  simp only [hm] at g
  exact g
theorem s100n : E F (d + 1) 100 [pTod s y B noneRow] = some (.ret (rowM [])) := by
  rw [E_succ, t100]
  rfl
end Go.Sim.Cr

/-
  The first fault of a day; 'Thick'.
-/
namespace Go.Sim.Cr
open Go.Proofs
variable (F d : Nat)
/-- The first fault that some rules' marks make. -/
def faultR (n : Int) (is : Mark → Bool) : List (Int × List Mark) → Option Fault
  | [] => none
  | (k, ms) :: r => match ms.find? is with | some m => some ⟨n, k, m.at_, m.wth⟩ | none => faultR n is r
abbrev eFaultB (f : Option Fault) : V := match f with | some f => .tup [.agg (eFault f), .bool true] | none => .tup [.agg (eFault ⟨0, 1, 0, 0⟩), .bool false]
theorem gl_at {ms : List Mark} {j : Nat} {m : Mark} (h : ms.getD j (ms.getLastD zMark) = m) : gl eMark zMark ms j = eMark m := by unfold gl; rw [h]
theorem ne_of_lt {ms : List Mark} {j : Nat} (h : j < ms.length) : ms.isEmpty = false := by cases ms with | nil => simp at h | cons => rfl
theorem neg1 : decide ((-1 : Int) ≥ 0) = false := rfl
theorem fR_some {n k : Int} {is : Mark → Bool} {ms : List Mark} {m : Mark} {r : List (Int × List Mark)} (h : ms.find? is = some m) : faultR n is ((k, ms) :: r) = some ⟨n, k, m.at_, m.wth⟩ := by rw [faultR, h]
theorem fR_none {n k : Int} {is : Mark → Bool} {ms : List Mark} {r : List (Int × List Mark)} (h : ms.find? is = none) : faultR n is ((k, ms) :: r) = faultR n is r := by rw [faultR, h]
theorem k0 : IntKind.i64.wrap (2 + 0) = 2 := by rw [wr (by omega)]; rfl
theorem k1 : IntKind.i64.wrap (2 + IntKind.i64.wrap (0 + 1)) = 3 := by rw [wr (n := 0 + 1) (by omega), wr (by omega)]; rfl
theorem k2 : IntKind.i64.wrap (2 + IntKind.i64.wrap (IntKind.i64.wrap (0 + 1) + 1)) = 4 := by rw [wr (n := 0 + 1) (by omega), wr (n := 0 + 1 + 1) (by omega), wr (by omega)]; rfl
theorem k3 : IntKind.i64.wrap (2 + IntKind.i64.wrap (IntKind.i64.wrap (IntKind.i64.wrap (0 + 1) + 1) + 1)) = 5 := by rw [wr (n := 0 + 1) (by omega), wr (n := 0 + 1 + 1) (by omega), wr (n := 0 + 1 + 1 + 1) (by omega), wr (by omega)]; rfl
theorem k4 : IntKind.i64.wrap (2 + IntKind.i64.wrap (IntKind.i64.wrap (IntKind.i64.wrap (IntKind.i64.wrap (0 + 1) + 1) + 1) + 1)) = 6 := by rw [wr (n := 0 + 1) (by omega), wr (n := 0 + 1 + 1) (by omega), wr (n := 0 + 1 + 1 + 1) (by omega), wr (n := 0 + 1 + 1 + 1 + 1) (by omega), wr (by omega)]; rfl
theorem k5 : IntKind.i64.wrap (2 + IntKind.i64.wrap (IntKind.i64.wrap (IntKind.i64.wrap (IntKind.i64.wrap (IntKind.i64.wrap (0 + 1) + 1) + 1) + 1) + 1)) = 7 := by
  rw [wr (n := 0 + 1) (by omega), wr (n := 0 + 1 + 1) (by omega), wr (n := 0 + 1 + 1 + 1) (by omega), wr (n := 0 + 1 + 1 + 1 + 1) (by omega), wr (n := 0 + 1 + 1 + 1 + 1 + 1) (by omega), wr (by omega)]; rfl
theorem s65a (s : Site) (y : Day) (B C : V) (n : Int) (f0 f1 f2 f3 f4 f5 : List Mark) (h0 : f0.length ≤ 100) (h1 : f1.length ≤ 100) (h2 : f2.length ≤ 100) (h3 : f3.length ≤ 100) (h4 : f4.length ≤ 100) (h5 : f5.length ≤ 100) (hF : 200 < F)
    (r0 : E F (d + 2) 96 [pTod s y B C] = some (.ret (rowM f0)))
    (r1 : E F (d + 2) 97 [pTod s y B C] = some (.ret (rowM f1)))
    (r2 : E F (d + 2) 98 [pTod s y B C] = some (.ret (rowM f2)))
    (r3 : E F (d + 2) 99 [pTod s y B C] = some (.ret (rowM f3)))
    (r4 : E F (d + 2) 100 [pTod s y B C] = some (.ret (rowM f4)))
    (r5 : E F (d + 2) 101 [pTod s y B C] = some (.ret (rowM f5)))
    : E F (d + 3) 65 [pTod s y B C, .int .i64 n, .fn (.func 66) [] []] = some (.ret (eFaultB (faultR n Mark.possible [(2, f0), (3, f1), (4, f2), (5, f3), (6, f4), (7, f5)]))) := by
  obtain ⟨F, rfl⟩ : ∃ k, F = k + 7 := ⟨F - 7, by omega⟩
  rw [E_succ, t651]
  simp only [r0, tkOut_ret, tkRow_r, s102a (F + 7) d f0 (show f0.length < 4611686018427387904 by omega) (by omega), tkInt_i, decide_true, cond_true]
  rcases ixM_find Mark.possible f0 with ⟨e0, x0⟩ | ⟨j, m, e0, x0, y0, z0⟩
  rotate_left
  · simp only [x0, ne_of_lt y0, cond_false, gl_at z0, fR_some e0, k0, decide_true, cond_true, Int.natCast_nonneg, ge_iff_le, beq_self_eq_true, Int.ofNat_lt, y0, Int.toNat_natCast, tkCons_c, tkInt_i, List.drop]
  simp only [x0, neg1, cond_false]
  simp only [r1, tkOut_ret, tkRow_r, s102a (F + 7) d f1 (show f1.length < 4611686018427387904 by omega) (by omega), tkInt_i, decide_true, cond_true]
  rcases ixM_find Mark.possible f1 with ⟨e1, x1⟩ | ⟨j, m, e1, x1, y1, z1⟩
  rotate_left
  · simp only [x1, ne_of_lt y1, cond_false, gl_at z1, fR_some e1, fR_none e0, k1, decide_true, cond_true, Int.natCast_nonneg, ge_iff_le, beq_self_eq_true, Int.ofNat_lt, y1, Int.toNat_natCast, tkCons_c, tkInt_i, List.drop]
  simp only [x1, neg1, cond_false]
  simp only [r2, tkOut_ret, tkRow_r, s102a (F + 7) d f2 (show f2.length < 4611686018427387904 by omega) (by omega), tkInt_i, decide_true, cond_true]
  rcases ixM_find Mark.possible f2 with ⟨e2, x2⟩ | ⟨j, m, e2, x2, y2, z2⟩
  rotate_left
  · simp only [x2, ne_of_lt y2, cond_false, gl_at z2, fR_some e2, fR_none e0, fR_none e1, k2, decide_true, cond_true, Int.natCast_nonneg, ge_iff_le, beq_self_eq_true, Int.ofNat_lt, y2, Int.toNat_natCast, tkCons_c, tkInt_i, List.drop]
  simp only [x2, neg1, cond_false]
  simp only [r3, tkOut_ret, tkRow_r, s102a (F + 7) d f3 (show f3.length < 4611686018427387904 by omega) (by omega), tkInt_i, decide_true, cond_true]
  rcases ixM_find Mark.possible f3 with ⟨e3, x3⟩ | ⟨j, m, e3, x3, y3, z3⟩
  rotate_left
  · simp only [x3, ne_of_lt y3, cond_false, gl_at z3, fR_some e3, fR_none e0, fR_none e1, fR_none e2, k3, decide_true, cond_true, Int.natCast_nonneg, ge_iff_le, beq_self_eq_true, Int.ofNat_lt, y3, Int.toNat_natCast, tkCons_c, tkInt_i, List.drop]
  simp only [x3, neg1, cond_false]
  simp only [r4, tkOut_ret, tkRow_r, s102a (F + 7) d f4 (show f4.length < 4611686018427387904 by omega) (by omega), tkInt_i, decide_true, cond_true]
  rcases ixM_find Mark.possible f4 with ⟨e4, x4⟩ | ⟨j, m, e4, x4, y4, z4⟩
  rotate_left
  · simp only [x4, ne_of_lt y4, cond_false, gl_at z4, fR_some e4, fR_none e0, fR_none e1, fR_none e2, fR_none e3, k4, decide_true, cond_true, Int.natCast_nonneg, ge_iff_le, beq_self_eq_true, Int.ofNat_lt, y4, Int.toNat_natCast, tkCons_c, tkInt_i, List.drop]
  simp only [x4, neg1, cond_false]
  simp only [r5, tkOut_ret, tkRow_r, s102a (F + 7) d f5 (show f5.length < 4611686018427387904 by omega) (by omega), tkInt_i, decide_true, cond_true]
  rcases ixM_find Mark.possible f5 with ⟨e5, x5⟩ | ⟨j, m, e5, x5, y5, z5⟩
  rotate_left
  · simp only [x5, ne_of_lt y5, cond_false, gl_at z5, fR_some e5, fR_none e0, fR_none e1, fR_none e2, fR_none e3, fR_none e4, k5, decide_true, cond_true, Int.natCast_nonneg, ge_iff_le, beq_self_eq_true, Int.ofNat_lt, y5, Int.toNat_natCast, tkCons_c, tkInt_i, List.drop]
  simp only [x5, neg1, cond_false]
  rw [fR_none e0, fR_none e1, fR_none e2, fR_none e3, fR_none e4, fR_none e5]
  rfl
theorem s65b (s : Site) (y : Day) (B C : V) (n : Int) (f0 f1 f2 f3 f4 f5 : List Mark) (h0 : f0.length ≤ 100) (h1 : f1.length ≤ 100) (h2 : f2.length ≤ 100) (h3 : f3.length ≤ 100) (h4 : f4.length ≤ 100) (h5 : f5.length ≤ 100) (hF : 200 < F)
    (r0 : E F (d + 2) 96 [pTod s y B C] = some (.ret (rowM f0)))
    (r1 : E F (d + 2) 97 [pTod s y B C] = some (.ret (rowM f1)))
    (r2 : E F (d + 2) 98 [pTod s y B C] = some (.ret (rowM f2)))
    (r3 : E F (d + 2) 99 [pTod s y B C] = some (.ret (rowM f3)))
    (r4 : E F (d + 2) 100 [pTod s y B C] = some (.ret (rowM f4)))
    (r5 : E F (d + 2) 101 [pTod s y B C] = some (.ret (rowM f5)))
    : E F (d + 3) 65 [pTod s y B C, .int .i64 n, .fn (.func 67) [] []] = some (.ret (eFaultB (faultR n Mark.certain [(2, f0), (3, f1), (4, f2), (5, f3), (6, f4), (7, f5)]))) := by
  obtain ⟨F, rfl⟩ : ∃ k, F = k + 7 := ⟨F - 7, by omega⟩
  rw [E_succ, t652]
  simp only [r0, tkOut_ret, tkRow_r, s102b (F + 7) d f0 (show f0.length < 4611686018427387904 by omega) (by omega), tkInt_i, decide_true, cond_true]
  rcases ixM_find Mark.certain f0 with ⟨e0, x0⟩ | ⟨j, m, e0, x0, y0, z0⟩
  rotate_left
  · simp only [x0, ne_of_lt y0, cond_false, gl_at z0, fR_some e0, k0, decide_true, cond_true, Int.natCast_nonneg, ge_iff_le, beq_self_eq_true, Int.ofNat_lt, y0, Int.toNat_natCast, tkCons_c, tkInt_i, List.drop]
  simp only [x0, neg1, cond_false]
  simp only [r1, tkOut_ret, tkRow_r, s102b (F + 7) d f1 (show f1.length < 4611686018427387904 by omega) (by omega), tkInt_i, decide_true, cond_true]
  rcases ixM_find Mark.certain f1 with ⟨e1, x1⟩ | ⟨j, m, e1, x1, y1, z1⟩
  rotate_left
  · simp only [x1, ne_of_lt y1, cond_false, gl_at z1, fR_some e1, fR_none e0, k1, decide_true, cond_true, Int.natCast_nonneg, ge_iff_le, beq_self_eq_true, Int.ofNat_lt, y1, Int.toNat_natCast, tkCons_c, tkInt_i, List.drop]
  simp only [x1, neg1, cond_false]
  simp only [r2, tkOut_ret, tkRow_r, s102b (F + 7) d f2 (show f2.length < 4611686018427387904 by omega) (by omega), tkInt_i, decide_true, cond_true]
  rcases ixM_find Mark.certain f2 with ⟨e2, x2⟩ | ⟨j, m, e2, x2, y2, z2⟩
  rotate_left
  · simp only [x2, ne_of_lt y2, cond_false, gl_at z2, fR_some e2, fR_none e0, fR_none e1, k2, decide_true, cond_true, Int.natCast_nonneg, ge_iff_le, beq_self_eq_true, Int.ofNat_lt, y2, Int.toNat_natCast, tkCons_c, tkInt_i, List.drop]
  simp only [x2, neg1, cond_false]
  simp only [r3, tkOut_ret, tkRow_r, s102b (F + 7) d f3 (show f3.length < 4611686018427387904 by omega) (by omega), tkInt_i, decide_true, cond_true]
  rcases ixM_find Mark.certain f3 with ⟨e3, x3⟩ | ⟨j, m, e3, x3, y3, z3⟩
  rotate_left
  · simp only [x3, ne_of_lt y3, cond_false, gl_at z3, fR_some e3, fR_none e0, fR_none e1, fR_none e2, k3, decide_true, cond_true, Int.natCast_nonneg, ge_iff_le, beq_self_eq_true, Int.ofNat_lt, y3, Int.toNat_natCast, tkCons_c, tkInt_i, List.drop]
  simp only [x3, neg1, cond_false]
  simp only [r4, tkOut_ret, tkRow_r, s102b (F + 7) d f4 (show f4.length < 4611686018427387904 by omega) (by omega), tkInt_i, decide_true, cond_true]
  rcases ixM_find Mark.certain f4 with ⟨e4, x4⟩ | ⟨j, m, e4, x4, y4, z4⟩
  rotate_left
  · simp only [x4, ne_of_lt y4, cond_false, gl_at z4, fR_some e4, fR_none e0, fR_none e1, fR_none e2, fR_none e3, k4, decide_true, cond_true, Int.natCast_nonneg, ge_iff_le, beq_self_eq_true, Int.ofNat_lt, y4, Int.toNat_natCast, tkCons_c, tkInt_i, List.drop]
  simp only [x4, neg1, cond_false]
  simp only [r5, tkOut_ret, tkRow_r, s102b (F + 7) d f5 (show f5.length < 4611686018427387904 by omega) (by omega), tkInt_i, decide_true, cond_true]
  rcases ixM_find Mark.certain f5 with ⟨e5, x5⟩ | ⟨j, m, e5, x5, y5, z5⟩
  rotate_left
  · simp only [x5, ne_of_lt y5, cond_false, gl_at z5, fR_some e5, fR_none e0, fR_none e1, fR_none e2, fR_none e3, fR_none e4, k5, decide_true, cond_true, Int.natCast_nonneg, ge_iff_le, beq_self_eq_true, Int.ofNat_lt, y5, Int.toNat_natCast, tkCons_c, tkInt_i, List.drop]
  simp only [x5, neg1, cond_false]
  rw [fR_none e0, fR_none e1, fR_none e2, fR_none e3, fR_none e4, fR_none e5]
  rfl
end Go.Sim.Cr

/-
  Plain laws of tables and of what a volume loses: what grows with what.
-/
namespace Go.Sim.Cr
open Go.Proofs
theorem monoN {f : Nat → Int} {n : Nat} (h : ∀ j, j + 1 < n → f j ≤ f (j + 1)) : ∀ {j i : Nat}, i ≤ j → j < n → f i ≤ f j := by
  intro j
  induction j with
  | zero => intro i hi _; rw [show i = 0 by omega]; exact Int.le_refl _
  | succ j ih =>
    intro i hi hj
    rcases Nat.eq_or_lt_of_le hi with rfl | h4
    · exact Int.le_refl _
    · have := @ih i (by omega) (by omega)
      have := h j hj
      omega
theorem lastIx_mono {num : Nat → Int} {n : Nat} {x y : Int} (hn : 0 < n) (h0 : num 0 ≤ x) (hxy : x ≤ y) (hi : Inc num n) : lastIx num x n ≤ lastIx num y n := by
  obtain ⟨a1, a2, a3⟩ := lastIx_ok hn h0
  obtain ⟨b1, b2, b3⟩ := lastIx_ok hn (Int.le_trans h0 hxy)
  rcases Nat.lt_or_ge (lastIx num y n) (lastIx num x n) with h | h
  · have := b3 _ h a1; omega
  · exact h
theorem firstIx_mono {num : Nat → Int} {n : Nat} {x y : Int} (hn : 0 < n) (h0 : y ≤ num (n - 1)) (hxy : x ≤ y) (hi : Inc num n) : firstIx num x n 0 ≤ firstIx num y n 0 := by
  obtain ⟨_, a1, a2, a3⟩ := @firstIx_ok num x n 0 hn (by rw [Nat.zero_add]; omega)
  obtain ⟨_, b1, b2, b3⟩ := @firstIx_ok num y n 0 hn (by rw [Nat.zero_add]; omega)
  rcases Nat.lt_or_ge (firstIx num y n 0) (firstIx num x n 0) with h | h
  · have := a3 _ (Nat.zero_le _) h; omega
  · exact h
theorem last_first {num : Nat → Int} {n : Nat} {x y : Int} (hn : 0 < n) (h0 : num 0 ≤ x) (h1 : y ≤ num (n - 1)) (hxy : x ≤ y) (hi : Inc num n) : lastIx num x n ≤ firstIx num y n 0 := by
  obtain ⟨a1, a2, a3⟩ := lastIx_ok hn h0
  obtain ⟨_, b1, b2, b3⟩ := @firstIx_ok num y n 0 hn (by rw [Nat.zero_add]; omega)
  rcases Nat.lt_or_ge (firstIx num y n 0) (lastIx num x n) with h | h
  · have := hi.lt h a1; omega
  · exact h
variable {s : Site}
theorem SiteF.rowUp (hS : SiteF s) {i j : Nat} (hij : i ≤ j) (hj : j < s.rows.len) :
    ((s.rows.el i).rate.lo ≤ (s.rows.el j).rate.lo ∧ (s.rows.el i).rate.hi ≤ (s.rows.el j).rate.hi) ∧ (s.rows.el i).spall.lo ≤ (s.rows.el j).spall.lo ∧ (s.rows.el i).spall.hi ≤ (s.rows.el j).spall.hi := by
  have st : ∀ k, k + 1 < s.rows.len → ((s.rows.el k).rate.lo ≤ (s.rows.el (k + 1)).rate.lo ∧ (s.rows.el k).rate.hi ≤ (s.rows.el (k + 1)).rate.hi) ∧ (s.rows.el k).spall.lo ≤ (s.rows.el (k + 1)).spall.lo ∧ (s.rows.el k).spall.hi ≤ (s.rows.el (k + 1)).spall.hi := fun k hk => by
    have := hS.row (k + 1) hk
    simp only [rowB, rowStep, Bool.and_eq_true, decide_eq_true_iff] at this
    exact this.2.2.2.2
  exact ⟨⟨monoN (f := fun k => (s.rows.el k).rate.lo) (fun k hk => (st k hk).1.1) hij hj, monoN (f := fun k => (s.rows.el k).rate.hi) (fun k hk => (st k hk).1.2) hij hj⟩,
    monoN (f := fun k => (s.rows.el k).spall.lo) (fun k hk => (st k hk).2.1) hij hj, monoN (f := fun k => (s.rows.el k).spall.hi) (fun k hk => (st k hk).2.2) hij hj⟩
theorem SiteF.heatUp (hS : SiteF s) {i j : Nat} (hij : i ≤ j) (hj : j < s.heats.len) :
    (s.heats.el i).factor.lo ≤ (s.heats.el j).factor.lo ∧ (s.heats.el i).factor.hi ≤ (s.heats.el j).factor.hi := by
  have st : ∀ k, k + 1 < s.heats.len → (s.heats.el k).factor.lo ≤ (s.heats.el (k + 1)).factor.lo ∧ (s.heats.el k).factor.hi ≤ (s.heats.el (k + 1)).factor.hi := fun k hk => by
    have := hS.heat (k + 1) hk
    simp only [heatB, heatStep, Bool.and_eq_true, decide_eq_true_iff] at this
    exact this.2.2.2
  exact ⟨monoN (f := fun k => (s.heats.el k).factor.lo) (fun k hk => (st k hk).1) hij hj, monoN (f := fun k => (s.heats.el k).factor.hi) (fun k hk => (st k hk).2) hij hj⟩
abbrev Sub (p q : Span) : Prop := q.lo ≤ p.lo ∧ p.hi ≤ q.hi
/-- Narrower pressures are not beyond the tables if wider ones aren't; their rates and falls lie within. -/
theorem rate_sub (hS : SiteF s) {c : Cav} {p p' q : Span} (hf : farB s c p q = false) (hs : Sub p' p) (h' : p'.lo ≤ p'.hi) :
    Sub (rateOf s c p') (rateOf s c p) ∧ Sub (fallOf s c p') (fallOf s c p) ∧ (rateOf s c p').lo ≤ (rateOf s c p').hi ∧ (fallOf s c p').lo ≤ (fallOf s c p').hi := by
  obtain ⟨f1, _⟩ := far_split hf
  obtain ⟨o1, o2⟩ := not_off f1
  have hi := hS.incRow
  have n1 := hS.rows1
  obtain ⟨a1, _⟩ := lastIx_ok (num := rowN s) (x := c.rock - p'.hi) n1 (by omega)
  have b1 := (@firstIx_ok (rowN s) (c.rock - p.lo) s.rows.len 0 n1 (by rw [Nat.zero_add]; omega)).2.1
  have b2 := (@firstIx_ok (rowN s) (c.rock - p'.lo) s.rows.len 0 n1 (by rw [Nat.zero_add]; omega)).2.1
  have u1 := hS.rowUp (lastIx_mono (num := rowN s) (x := c.rock - p.hi) (y := c.rock - p'.hi) n1 o1 (by omega) hi) a1
  have u2 := hS.rowUp (firstIx_mono (num := rowN s) (x := c.rock - p'.lo) (y := c.rock - p.lo) n1 o2 (by omega) hi) (by omega)
  have u3 := hS.rowUp (last_first (num := rowN s) (x := c.rock - p'.hi) (y := c.rock - p'.lo) n1 (by omega) (by omega) (by omega) hi) (by omega)
  have r3 := hS.rowOk (show firstIx (rowN s) (c.rock - p'.lo) s.rows.len 0 < s.rows.len by omega)
  exact ⟨⟨u1.1.1, u2.1.2⟩, ⟨u1.2.1, u2.2.2⟩, Int.le_trans u3.1.1 r3.2.1.2.1, Int.le_trans u3.2.1 r3.2.2.2.1⟩
theorem factor_sub (hS : SiteF s) {c : Cav} {p q q' : Span} (hf : farB s c p q = false) (hs : Sub q' q) (h' : q'.lo ≤ q'.hi) :
    Sub (factorOf s q') (factorOf s q) ∧ (factorOf s q').lo ≤ (factorOf s q').hi := by
  obtain ⟨_, f1⟩ := far_split hf
  obtain ⟨o1, o2⟩ := not_off f1
  have hi := hS.incHeat
  have n1 := hS.heats1
  obtain ⟨a1, _⟩ := lastIx_ok (num := heatN s) (x := q'.lo) n1 (by omega)
  have b1 := (@firstIx_ok (heatN s) q.hi s.heats.len 0 n1 (by rw [Nat.zero_add]; omega)).2.1
  have b2 := (@firstIx_ok (heatN s) q'.hi s.heats.len 0 n1 (by rw [Nat.zero_add]; omega)).2.1
  have u1 := hS.heatUp (lastIx_mono (num := heatN s) (x := q.lo) (y := q'.lo) n1 o1 (by omega) hi) a1
  have u2 := hS.heatUp (firstIx_mono (num := heatN s) (x := q'.hi) (y := q.hi) n1 o2 (by omega) hi) (by omega)
  have u3 := hS.heatUp (last_first (num := heatN s) (x := q'.lo) (y := q'.hi) n1 (by omega) (by omega) (by omega) hi) (by omega)
  have r3 := hS.heatOk (show firstIx (heatN s) q'.hi s.heats.len 0 < s.heats.len by omega)
  exact ⟨⟨u1.1, u2.2⟩, Int.le_trans u3.1 r3.2.2.1⟩
theorem far_sub {c : Cav} {p p' q q' : Span} (hf : farB s c p q = false) (hp : Sub p' p) (hq : Sub q' q) : farB s c p' q' = false := by
  unfold farB offB at hf ⊢
  simp only [Bool.or_eq_false_iff, decide_eq_false_iff_not] at hf ⊢
  omega
theorem prod_mono {u v r r' f f' : Int} (hu : 0 ≤ u) (huv : u ≤ v) (hr : 0 ≤ r) (hrr : r ≤ r') (hf : 0 ≤ f) (hff : f ≤ f') : u * r * f ≤ v * r' * f' := by
  have h1 : u * r ≤ v * r' := Int.mul_le_mul huv hrr hr (by omega)
  exact Int.mul_le_mul h1 hff hf (Int.mul_nonneg (by omega) (by omega))
theorem shrink_mono {u v r r' f f' k k' : Int} (hu : 0 ≤ u) (huv : u ≤ v) (hr : 0 ≤ r) (hrr : r ≤ r') (hf : 0 ≤ f) (hff : f ≤ f') (hk : k ≤ k') : shrink u r f k ≤ shrink v r' f' k' := by
  have h := prod_mono hu huv hr hrr hf hff
  have h2 : (u * r * f + k) / 1000000000 ≤ (v * r' * f' + k') / 1000000000 := Int.ediv_le_ediv (by omega) (by omega)
  unfold shrink minI
  split <;> split <;> omega
theorem shrink_rest {u v r f k : Int} (huv : u ≤ v) (hr : 0 ≤ r ∧ r ≤ 100000) (hf : 0 ≤ f ∧ f ≤ 10000) : u - shrink u r f k ≤ v - shrink v r f k := by
  have h2 := mulB hr hf
  have h3 : (v - u) * (r * f) ≤ (v - u) * 1000000000 := Int.mul_le_mul_of_nonneg_left (by omega) (by omega)
  have h4 : v * r * f = u * r * f + (v - u) * (r * f) := by rw [Int.mul_assoc, Int.mul_assoc, ← Int.add_mul]; congr 1; omega
  have h5 : (v * r * f + k) / 1000000000 ≤ (u * r * f + k) / 1000000000 + (v - u) := by omega
  unfold shrink minI
  split <;> split <;> omega
abbrev SubS (a b : Stt) : Prop := Sub a.rad b.rad ∧ Sub a.vol b.vol ∧ Sub a.lost b.lost
/-- What is known better leads to what is known better. -/
theorem move1xsub (hS : SiteF s) {c : Cav} {x x' : Stt} {p p' q q' : Span} (hx : SttOk x) (hx' : SttOk x') (hp' : p'.lo ≤ p'.hi) (hq' : q'.lo ≤ q'.hi) (hf : farB s c p q = false) (sx : SubS x' x) (sp : Sub p' p) (sq : Sub q' q) :
    SubS (move1 s c x' p' q') (move1 s c x p q) := by
  obtain ⟨k1, k2, k3, k4, k5, k6⟩ := rates_ok hS hf
  obtain ⟨k1', k2', k3', k4', k5', k6'⟩ := rates_ok hS (far_sub hf sp sq)
  obtain ⟨r1, r2, r3, r4⟩ := rate_sub hS hf sp hp'
  obtain ⟨g1, g2⟩ := factor_sub hS hf sq hq'
  have a1 := @shrink_mono x'.vol.lo x'.vol.lo (rateOf s c p').hi (rateOf s c p).hi (factorOf s q').hi (factorOf s q).hi 999999999 999999999 (by omega) (by omega) (by omega) (by omega) (by omega) (by omega) (by omega)
  have a2 := @shrink_rest x.vol.lo x'.vol.lo (rateOf s c p).hi (factorOf s q).hi 999999999 (by omega) k2 k6
  have a3 := @shrink_mono x'.vol.hi x'.vol.hi (rateOf s c p).lo (rateOf s c p').lo (factorOf s q).lo (factorOf s q').lo 0 0 (by omega) (by omega) (by omega) (by omega) (by omega) (by omega) (by omega)
  have a4 := @shrink_rest x'.vol.hi x.vol.hi (rateOf s c p).lo (factorOf s q).lo 0 (by omega) k1 k5
  have a5 := @shrink_mono x.vol.lo x'.vol.lo (rateOf s c p).lo (rateOf s c p').lo (factorOf s q).lo (factorOf s q').lo 0 0 (by omega) (by omega) (by omega) (by omega) (by omega) (by omega) (by omega)
  have a6 := @shrink_mono x'.vol.hi x.vol.hi (rateOf s c p').hi (rateOf s c p).hi (factorOf s q').hi (factorOf s q).hi 999999999 999999999 (by omega) (by omega) (by omega) (by omega) (by omega) (by omega) (by omega)
  refine ⟨⟨?_, ?_⟩, ⟨?_, ?_⟩, ?_, ?_⟩
  · show minI (x.rad.lo + (fallOf s c p).lo) 400000 ≤ minI (x'.rad.lo + (fallOf s c p').lo) 400000; unfold minI; split <;> split <;> omega
  · show minI (x'.rad.hi + (fallOf s c p').hi) 400000 ≤ minI (x.rad.hi + (fallOf s c p).hi) 400000; unfold minI; split <;> split <;> omega
  · show x.vol.lo - _ ≤ x'.vol.lo - _; omega
  · show x'.vol.hi - _ ≤ x.vol.hi - _; omega
  · show minI _ 1000000000 ≤ minI _ 1000000000; unfold minI; split <;> split <;> omega
  · show minI _ 1000000000 ≤ minI _ 1000000000; unfold minI; split <;> split <;> omega
theorem move1xok (hS : SiteF s) {c : Cav} {x : Stt} {p q : Span} (hx : SttOk x) (hp : p.lo ≤ p.hi) (hq : q.lo ≤ q.hi) (hf : farB s c p q = false) : SttOk (move1 s c x p q) := by
  obtain ⟨k1, k2, k3, k4, k5, k6⟩ := rates_ok hS hf
  obtain ⟨r1, r2, r3, r4⟩ := rate_sub hS hf (show Sub p p from ⟨Int.le_refl _, Int.le_refl _⟩) hp
  obtain ⟨g1, g2⟩ := factor_sub hS hf (show Sub q q from ⟨Int.le_refl _, Int.le_refl _⟩) hq
  have b1 := @shrink_ok x.vol.lo (rateOf s c p).hi (factorOf s q).hi 999999999 (by omega) k2 k6 (by omega)
  have b2 := @shrink_ok x.vol.hi (rateOf s c p).lo (factorOf s q).lo 0 (by omega) k1 k5 (by omega)
  have b3 := @shrink_ok x.vol.lo (rateOf s c p).lo (factorOf s q).lo 0 (by omega) k1 k5 (by omega)
  have b4 := @shrink_ok x.vol.hi (rateOf s c p).hi (factorOf s q).hi 999999999 (by omega) k2 k6 (by omega)
  have a1 := @shrink_mono x.vol.lo x.vol.lo (rateOf s c p).lo (rateOf s c p).hi (factorOf s q).lo (factorOf s q).hi 0 999999999 (by omega) (by omega) (by omega) (by omega) (by omega) (by omega) (by omega)
  have a2 := @shrink_rest x.vol.lo x.vol.hi (rateOf s c p).lo (factorOf s q).lo 0 (by omega) k1 k5
  have a3 := @shrink_mono x.vol.lo x.vol.hi (rateOf s c p).lo (rateOf s c p).hi (factorOf s q).lo (factorOf s q).hi 0 999999999 (by omega) (by omega) (by omega) (by omega) (by omega) (by omega) (by omega)
  refine ⟨⟨?_, ?_, ?_⟩, ⟨?_, ?_, ?_⟩, ?_, ?_, ?_⟩
  · show 0 ≤ minI _ 400000; unfold minI; split <;> omega
  · show minI _ 400000 ≤ minI _ 400000; unfold minI; split <;> split <;> omega
  · show minI _ 400000 ≤ 400000; unfold minI; split <;> omega
  · show 0 ≤ x.vol.lo - _; omega
  · show x.vol.lo - _ ≤ x.vol.hi - _; omega
  · show x.vol.hi - _ ≤ 10000000; omega
  · show 0 ≤ minI _ 1000000000; unfold minI; split <;> omega
  · show minI _ 1000000000 ≤ minI _ 1000000000; unfold minI; split <;> split <;> omega
  · show minI _ 1000000000 ≤ 1000000000; unfold minI; split <;> omega
end Go.Sim.Cr

/-
  What 'Faults' answers.
-/
namespace Go.Sim.Cr
open Go.Proofs
variable (F d : Nat)
abbrev ShortD (l : Sl Day) : Prop := ∀ i, i < l.len → (l.el i).press.len ≤ 10 ∧ (l.el i).warm.len ≤ 10
theorem s64 (s : Site) (y : Day) (h : y.press.len ≤ 10 ∧ y.warm.len ≤ 10) (hF : 10 < F) : E F (d + 7) 64 [.agg (eDay y), pSite s] = some (.ret (.bool (!decide (DayOk s y)))) := by
  rw [E_succ, t64]
  simp only [s50 F d s y (show y.press.len < 4611686018427387904 by omega) (show y.warm.len < 4611686018427387904 by omega) (by omega) (by omega), tkOut_ret, tkBool_b]
theorem l95 (s : Site) (l : Sl Day) (hl : ShortD l) (hB : l.len < Big) (hF : 10 < F) : ∀ n i fu, l.len = i + n → n < fu →
    L95x0 (E F (d + 7)) F s l fu (i : Int) = some (.ret (.int .i64 (ixF (fun j => !decide (DayOk s (l.el j))) n i))) := by
  intro n
  induction n with
  | zero =>
    intro i fu h hf
    obtain ⟨fu, rfl⟩ : ∃ k, fu = k + 1 := ⟨fu - 1, by omega⟩
    rw [L95x0s]
    simp only [Int.ofNat_lt, show ¬ i < l.len by omega, decide_false, cond_false, ixF]
  | succ n ih =>
    intro i fu h hf
    obtain ⟨fu, rfl⟩ : ∃ k, fu = k + 1 := ⟨fu - 1, by omega⟩
    rw [L95x0s]
    simp only [Int.ofNat_lt, show i < l.len by omega, decide_true, cond_true, Int.natCast_nonneg, Int.toNat_natCast, s64 F d s (l.el i) (hl i (by omega)) hF, tkOut_ret, tkBool_b, ixF, wrS (show i < Big by omega), ih (i + 1) fu (by omega) (by omega)]
    cases (!decide (DayOk s (l.el i))) <;> rfl
abbrev DaysOk (s : Site) (l : Sl Day) : Prop := ∀ i, i < l.len → DayOk s (l.el i)
theorem s63 (s : Site) (l : Sl Day) (hl : ShortD l) (hB : l.len < Big) (hF : 10 < F) (hlF : l.len < F) : E F (d + 9) 63 [sl eDay 2 l, .fn (.func 64) [] [pSite s]] = some (.ret (.bool (!decide (DaysOk s l)))) := by
  rw [E_succ, t63, E_succ, t95, show L95x0 (E F (d + 7)) F s l F 0 = _ from l95 F d s l hl hB hF l.len 0 F (by omega) hlF]
  simp only [tkOut_ret, tkInt_i, decide_true, cond_true, ge_iff_le]
  refine b3 (Bool.not_inj ?_)
  rw [Bool.not_not]
  exact (ge0 _ _).trans (by simp only [Bool.not_eq_false', decide_eq_true_iff])

abbrev fineF : Fault := ⟨0, 1, 0, 0⟩
abbrev rowB_ (b : Option (Sl Span)) : V := match b with | some b => sl eSpan 2 b | none => noneRow
def nlB : Option (Sl Span) → Bool
  | some b => b.nl
  | none => true
def lenB : Option (Sl Span) → Nat
  | some b => b.len
  | none => 0
def wdB : Option (Sl Span) → Nat
  | some _ => 2
  | none => 0
def getB : Option (Sl Span) → Nat → List V
  | some b => fun i => eSpan (b.el i)
  | none => fun _ => []
theorem rowB_eq (b : Option (Sl Span)) : rowB_ b = .row (nlB b) (lenB b) (wdB b) (getB b) := by cases b <;> rfl
abbrev rowC_ (m : Option (Sl Stt)) : V := match m with | some m => sl eStt 6 m | none => noneRow
def fastMs (s : Site) (y : Day) : Option (Sl Span) → List Mark
  | some b => (List.range' 0 s.cavs.len).map (fastM s y b)
  | none => []
def smallMs (s : Site) : Option (Sl Stt) → List Mark
  | some m => (List.range' 0 s.cavs.len).map (smallM s m)
  | none => []
noncomputable def thinMs (s : Site) : Option (Sl Stt) → List Mark
  | some m => pairsM s m s.cavs.len 0
  | none => []
def sunkMs (s : Site) : Option (Sl Stt) → List Mark
  | some m => (List.range' 0 s.houses.len).map (sunkM s m)
  | none => []
/-- The marks of a day, rule by rule. -/
noncomputable def marksOf (s : Site) (y : Day) (b : Option (Sl Span)) (m : Option (Sl Stt)) : List (Int × List Mark) :=
  [(2, (List.range' 0 s.cavs.len).map (outM s y)), (3, (List.range' 0 s.cavs.len).map (gateM s y)), (4, fastMs s y b),
   (5, smallMs s m), (6, thinMs s m), (7, sunkMs s m)]
theorem pairs_len (s : Site) (m : Sl Stt) : ∀ k i, k ≤ 5 → (pairsM s m k i).length ≤ 10 * k := by
  intro k
  induction k with
  | zero => intro i _; exact Nat.le_refl _
  | succ k ih =>
    intro i hk
    have := ih (i + 1) (by omega)
    rw [pairsM, List.length_append, List.length_map, List.length_range']
    omega
theorem s65 (s : Site) (y : Day) (b : Option (Sl Span)) (m : Option (Sl Stt)) (n : Int) (hS : SiteF s) (hD : DayOk s y) (hb : ∀ x, b = some x → x.len = s.cavs.len ∧ ∀ i, i < x.len → SpanIn (x.el i) 0 50000) (hm : ∀ x, m = some x → StatesOk s x ∧ x.nl = false) (hF : 67108864 < F) :
    E F (d + 7) 65 [pTod s y (rowB_ b) (rowC_ m), .int .i64 n, .fn (.func 66) [] []] = some (.ret (eFaultB (faultR n Mark.possible (marksOf s y b m)))) ∧
    E F (d + 7) 65 [pTod s y (rowB_ b) (rowC_ m), .int .i64 n, .fn (.func 67) [] []] = some (.ret (eFaultB (faultR n Mark.certain (marksOf s y b m)))) := by
  have h1 := hS.cavs1
  have h5 := hS.cavs5
  have h6 := hS.houses5
  have hp := hD.1.1
  have r0 := s96 F (d + 5) s y (rowB_ b) (rowC_ m) hS hD (by omega)
  have r1 := s97 F (d + 5) s y (rowB_ b) (rowC_ m) h1 h5 hp (by omega)
  have r2 : E F (d + 6) 98 [pTod s y (rowB_ b) (rowC_ m)] = some (.ret (rowM (fastMs s y b))) := by
    cases b with
    | none => exact s98n F (d + 5) s y (rowC_ m) (by omega)
    | some x => exact s98 F (d + 5) s y x (rowC_ m) h1 h5 hD (hb x rfl).1 (hb x rfl).2 (by omega)
  have r3 : E F (d + 6) 99 [pTod s y (rowB_ b) (rowC_ m)] = some (.ret (rowM (smallMs s m))) := by
    cases m with
    | none => exact s99n F (d + 5) s y (rowB_ b) (by omega)
    | some x => exact s99 F (d + 5) s y x (rowB_ b) h1 h5 (hm x rfl).1.1 (by omega)
  have r4 : E F (d + 6) 100 [pTod s y (rowB_ b) (rowC_ m)] = some (.ret (rowM (thinMs s m))) := by
    cases m with
    | none => exact s100n F (d + 5) s y (rowB_ b)
    | some x => exact s100 F (d + 1) s y x (rowB_ b) hS (hm x rfl).1 (hm x rfl).2 hF
  have r5 : E F (d + 6) 101 [pTod s y (rowB_ b) (rowC_ m)] = some (.ret (rowM (sunkMs s m))) := by
    cases m with
    | none => exact s101n F (d + 5) s y (rowB_ b)
    | some x => exact s101 F (d + 3) s y x (rowB_ b) hS (hm x rfl).1 (hm x rfl).2 (by omega)
  have q0 : ((List.range' 0 s.cavs.len).map (outM s y)).length ≤ 100 := by simp; omega
  have q1 : ((List.range' 0 s.cavs.len).map (gateM s y)).length ≤ 100 := by simp; omega
  have q2 : (fastMs s y b).length ≤ 100 := by cases b <;> simp [fastMs]; omega
  have q3 : (smallMs s m).length ≤ 100 := by cases m <;> simp [smallMs]; omega
  have q4 : (thinMs s m).length ≤ 100 := by
    cases m with
    | none => simp [thinMs]
    | some x => have := pairs_len s x s.cavs.len 0 h5; show (pairsM s x s.cavs.len 0).length ≤ 100; omega
  have q5 : (sunkMs s m).length ≤ 100 := by cases m <;> simp [sunkMs]; omega
  exact ⟨s65a F (d + 4) s y _ _ n _ _ _ _ _ _ q0 q1 q2 q3 q4 q5 (by omega) r0 r1 r2 r3 r4 r5, s65b F (d + 4) s y _ _ n _ _ _ _ _ _ q0 q1 q2 q3 q4 q5 (by omega) r0 r1 r2 r3 r4 r5⟩
/-- The first possible and the first certain fault of the days from one on. -/
noncomputable def faultsFrom (s : Site) (l : Sl Day) : Nat → Nat → Option (Sl Span) → Sl Stt → Bool → Fault → Fault → Fault × Fault
  | 0, _, _, _, _, may, sure => (may, sure)
  | n + 1, i, b, now, found, may, sure =>
    let y := l.el i
    let mk := marksOf s y b (bif farDay s y then none else some (moved s now y))
    let may' := bif found then may else (faultR i Mark.possible mk).getD fineF
    bif farDay s y then (may', sure) else
      match faultR i Mark.certain mk with
      | some f => (may', f)
      | none => faultsFrom s l n (i + 1) (some y.press) (moved s now y) (found || (faultR i Mark.possible mk).isSome) may' fineF
noncomputable def faults (s : Site) (l : Sl Day) : Fault × Fault := faultsFrom s l l.len 0 none (begin s) false fineF fineF
theorem moved_ok {s : Site} {l : Sl Stt} {y : Day} (hS : SiteF s) (hL : StatesOk s l) (hD : DayOk s y) (hf : farDay s y = false) : StatesOk s (moved s l y) := by
  have hl := hL.1
  refine ⟨hl, fun i hi => ?_⟩
  have hi' : i < l.len := hi
  rw [show (moved s l y).el i = mv s l y i from outL_el hi']
  have hp := hD.1.2 i (by have := hD.1.1; omega)
  have hw := hD.2.2 i (by have := hD.2.1; omega)
  refine move1xok hS (hL.2 i hi') hp.2.1 hw.2.1 ?_
  cases hx : farB s (s.cavs.el i) (y.press.el i) (y.warm.el i) with
  | false => rfl
  | true =>
    have : farDay s y = true := (anyF_eq _ _ _).2 ⟨i, Nat.zero_le _, by omega, hx⟩
    rw [this] at hf; cases hf
theorem begin_ok {s : Site} (hS : SiteF s) : StatesOk s (begin s) := by
  refine ⟨rfl, fun i hi => ?_⟩
  have hi' : i < s.cavs.len := hi
  rw [show (begin s).el i = start (s.cavs.el i) from outL_el hi']
  have := hS.cav i hi'
  refine ⟨⟨?_, ?_, ?_⟩, ⟨?_, ?_, ?_⟩, ?_, ?_, ?_⟩ <;> simp only [start] <;> omega
theorem l30 (s : Site) (l : Sl Day) (hS : SiteF s) (hD : DaysOk s l) (hB : l.len < Big) (hF : 67108864 < F) : ∀ n i fu (b : Option (Sl Span)) (now : Sl Stt) (found : Bool) (may sure : Fault), l.len = i + n → n < fu →
    (∀ x, b = some x → x.len = s.cavs.len ∧ ∀ i, i < x.len → SpanIn (x.el i) 0 50000) → StatesOk s now →
    L30x0 (E F (d + 7)) F s l fu (nlB b) (lenB b) (wdB b) (getB b)
      now.nl now.len 6 (fun i => eStt (now.el i)) found (i : Int) .i64 may.day .i64 may.rule .i64 may.of .i64 may.wth .i64 sure.day .i64 sure.rule .i64 sure.of .i64 sure.wth =
    some (.ret (.tup [.agg (eFault (faultsFrom s l n i b now found may sure).1), .agg (eFault (faultsFrom s l n i b now found may sure).2), .int .i64 0])) := by
  intro n
  induction n with
  | zero =>
    intro i fu b now found may sure h hf hb hn
    obtain ⟨fu, rfl⟩ : ∃ k, fu = k + 1 := ⟨fu - 1, by omega⟩
    rw [L30x0s]
    simp only [Int.ofNat_lt, show ¬ i < l.len by omega, decide_false, cond_false, faultsFrom]
  | succ n ih =>
    intro i fu b now found may sure h hf hb hn
    obtain ⟨fu, rfl⟩ : ∃ k, fu = k + 1 := ⟨fu - 1, by omega⟩
    rw [L30x0s]
    have hy := hD i (by omega)
    have e51 := s51 F d s now (l.el i) hS hn hy (by omega)
    simp only [Int.ofNat_lt, show i < l.len by omega, decide_true, cond_true, Int.natCast_nonneg, Int.toNat_natCast, e51, tkOut_ret, wrS (show i < Big by omega), moveR, faultsFrom]
    cases hfd : farDay s (l.el i) with
    | true =>
      obtain ⟨p1, p2⟩ := s65 F d s (l.el i) b none (i : Int) hS hy hb (by intro x hx; cases hx) hF
      rw [rowB_eq] at p1 p2
      simp only [cond_true, tkTup_t, tkCons_c, tkRow_r, tkBool_b, tkNil_n, Bool.not_false]
      cases found with
      | true => simp only [Bool.not_true, cond_false, cond_true]
      | false =>
        simp only [Bool.not_false, cond_false, cond_true, p1, tkOut_ret]
        cases faultR (i : Int) Mark.possible (marksOf s (l.el i) b none) <;> simp only [tkTup_t, tkCons_c, tkAgg_a, tkInt_i, tkBool_b, tkNil_n, Option.getD]
    | false =>
      have hmv := moved_ok hS hn hy hfd
      obtain ⟨p1, p2⟩ := s65 F d s (l.el i) b (some (moved s now (l.el i))) (i : Int) hS hy hb (by intro x hx; cases hx; exact ⟨hmv, rfl⟩) hF
      rw [rowB_eq] at p1 p2
      have nx := fun may sure fd => ih (i + 1) fu (some (l.el i).press) (moved s now (l.el i)) fd may sure (by omega) (by omega) (by intro x hx; cases hx; exact hy.1) hmv
      simp only [cond_false, tkTup_t, tkCons_c, tkRow_r, tkBool_b, tkNil_n, Bool.not_true]
      cases found with
      | true =>
        simp only [Bool.not_true, cond_false, cond_true, p2, tkOut_ret, Bool.true_or]
        cases faultR (i : Int) Mark.certain (marksOf s (l.el i) b (some (moved s now (l.el i)))) with
        | some f => simp only [tkTup_t, tkCons_c, tkAgg_a, tkInt_i, tkBool_b, tkNil_n, cond_true]
        | none =>
          simp only [tkTup_t, tkCons_c, tkAgg_a, tkInt_i, tkBool_b, tkNil_n, cond_false]
          exact nx may fineF true
      | false =>
        simp only [Bool.not_false, cond_false, cond_true, p1, tkOut_ret, Bool.false_or]
        cases faultR (i : Int) Mark.possible (marksOf s (l.el i) b (some (moved s now (l.el i)))) with
        | some g =>
          simp only [tkTup_t, tkCons_c, tkAgg_a, tkInt_i, tkBool_b, tkNil_n, Option.getD, Option.isSome, p2, tkOut_ret]
          cases faultR (i : Int) Mark.certain (marksOf s (l.el i) b (some (moved s now (l.el i)))) with
          | some f => simp only [tkTup_t, tkCons_c, tkAgg_a, tkInt_i, tkBool_b, tkNil_n, cond_true]
          | none =>
            simp only [tkTup_t, tkCons_c, tkAgg_a, tkInt_i, tkBool_b, tkNil_n, cond_false]
            exact nx g fineF true
        | none =>
          simp only [tkTup_t, tkCons_c, tkAgg_a, tkInt_i, tkBool_b, tkNil_n, Option.getD, Option.isSome, p2, tkOut_ret]
          cases faultR (i : Int) Mark.certain (marksOf s (l.el i) b (some (moved s now (l.el i)))) with
          | some f => simp only [tkTup_t, tkCons_c, tkAgg_a, tkInt_i, tkBool_b, tkNil_n, cond_true]
          | none =>
            simp only [tkTup_t, tkCons_c, tkAgg_a, tkInt_i, tkBool_b, tkNil_n, cond_false]
            exact nx fineF fineF false
end Go.Sim.Cr

/-
  What 'Faults', 'Thick' and 'Longest' answer.
-/
namespace Go.Sim.Cr
open Go.Proofs
variable (F d : Nat)
/-- What 'Faults' answers. -/
theorem s30 (s : Site) (l : Sl Day) (hs : Small s F) (hl : ShortD l) (hB : l.len < Big) (hlF : l.len < F) (hF : 67108864 < F) :
    E F (d + 10) 30 [.agg (eSite s), sl eDay 2 l] = some (.ret (bif decide (60 < l.len) then .tup [.agg (eFault ⟨0, 0, 0, 0⟩), .agg (eFault ⟨0, 0, 0, 0⟩), .int .i64 3]
      else bif siteB s && decide (DaysOk s l) then .tup [.agg (eFault (faults s l).1), .agg (eFault (faults s l).2), .int .i64 0] else .tup [.agg (eFault ⟨0, 0, 0, 0⟩), .agg (eFault ⟨0, 0, 0, 0⟩), .int .i64 2])) := by
  rw [E_succ, t30]
  have e0 : decide ((l.len : Int) > 60) = decide (60 < l.len) := by apply b2; simp only [decide_eq_true_iff]; omega
  rw [e0]
  cases h0 : decide (60 < l.len) with
  | true => rfl
  | false =>
    simp only [cond_false, s48 F (d + 3) s hs, tkOut_ret, tkBool_b, s63 F d s l hl hB (by omega) hlF]
    cases h1 : siteB s with
    | false => rfl
    | true =>
      by_cases h2 : DaysOk s l
      · have hS := (siteB_iff s).1 h1
        simp only [decide_eq_true h2, Bool.not_true, cond_false, Bool.and_self, cond_true, s57 F (d + 8) s hS.cavs1 hS.cavs5 (by omega), tkOut_ret, tkRow_r]
        have g := l30 F (d + 2) s l hS h2 hB hF l.len 0 F none (begin s) false fineF fineF (by omega) hlF (by intro x hx; cases hx) (begin_ok hS)
        exact g
      · simp only [decide_eq_false h2, Bool.not_false, Bool.not_true, cond_false, cond_true, Bool.and_false]
noncomputable abbrev thickOf (s : Site) (i j : Nat) (p q : Span) : List V := [.int .i64 (distI (s.cavs.el i) (s.cavs.el j) - p.hi - q.hi), .int .i64 (distI (s.cavs.el i) (s.cavs.el j) - p.lo - q.lo)]
theorem inLen {n : Nat} (hn : 1 ≤ n) (i : Int) : decide (0 ≤ i ∧ i ≤ ((n - 1 : Nat) : Int)) = decide (0 ≤ i ∧ i < (n : Int)) := by
  apply b2; simp only [decide_eq_true_iff]; omega
/-- What 'Thick' answers. -/
theorem s37 (s : Site) (i j : Int) (hs : Small s F) (hF : 67108864 < F) : E F (d + 7) 37 [.agg (eSite s), .int .i64 i, .int .i64 j] =
    some (.ret (bif siteB s && (decide (0 ≤ i ∧ i < (s.cavs.len : Int)) && (decide (0 ≤ j ∧ j < (s.cavs.len : Int)) && !decide (i = j))) then .tup [.agg (thickOf s i.toNat j.toNat (s.cavs.el i.toNat).rad (s.cavs.el j.toNat).rad), .int .i64 0] else .tup [.agg (eSpan zSpan), .int .i64 2])) := by
  rw [E_succ, t37]
  simp only [s48 F d s hs, tkOut_ret, tkBool_b, s72]
  cases h1 : siteB s with
  | false => rfl
  | true =>
    have hS := (siteB_iff s).1 h1
    have h5 := hS.cavs5
    rw [wrLen hS.cavs1 (by omega), inLen hS.cavs1, inLen hS.cavs1]
    by_cases h2 : 0 ≤ i ∧ i < (s.cavs.len : Int)
    · by_cases h3 : 0 ≤ j ∧ j < (s.cavs.len : Int)
      · by_cases h4 : i = j
        · simp only [decide_eq_true h2, decide_eq_true h3, decide_eq_true h4, beqI, Bool.not_true, cond_false, cond_true, Bool.and_false]
        · obtain ⟨i, rfl⟩ := Int.eq_ofNat_of_zero_le h2.1
          obtain ⟨j, rfl⟩ := Int.eq_ofNat_of_zero_le h3.1
          have c1 := hS.cav i (by omega)
          have c2 := hS.cav j (by omega)
          simp only [decide_eq_true h2, decide_eq_true h3, decide_eq_false h4, beqI, Bool.not_true, Bool.not_false, cond_false, cond_true, Bool.and_self, decide_eq_true h2.1, decide_eq_true h2.2, decide_eq_true h3.1, decide_eq_true h3.2, Int.toNat_natCast,
            s73 F (d + 2) s i j (s.cavs.el i).rad.hi (s.cavs.el j).rad.hi (by omega) (by omega) c1.1 c2.1 (by omega) (by omega) hF, s73 F (d + 2) s i j (s.cavs.el i).rad.lo (s.cavs.el j).rad.lo (by omega) (by omega) c1.1 c2.1 (by omega) (by omega) hF, tkOut_ret, tkInt_i]
      · simp only [decide_eq_true h2, decide_eq_false h3, Bool.not_true, Bool.not_false, cond_false, cond_true, Bool.and_false, Bool.false_and]
    · simp only [decide_eq_false h2, Bool.not_true, Bool.not_false, cond_false, cond_true, Bool.and_false, Bool.false_and]

/-- Is a wall of a cavern surely not thick enough? -/
noncomputable def nearB (s : Site) (c : Nat) (x : Stt) (j : Nat) : Bool := !decide (j = c) && decide (distI (s.cavs.el c) (s.cavs.el j) - x.rad.hi - (s.cavs.el j).rad.hi < s.wall)
noncomputable def keepFrom (s : Site) (c : Nat) (p q : Span) : Nat → Nat → Stt → Nat
  | 0, k, _ => k
  | n + 1, k, x => bif farB s (s.cavs.el c) p q then k else bif decide ((move1 s (s.cavs.el c) x p q).vol.lo < (s.cavs.el c).floor) then k else
      bif anyF (nearB s c (move1 s (s.cavs.el c) x p q)) s.cavs.len 0 then k else keepFrom s c p q n (k + 1) (move1 s (s.cavs.el c) x p q)
/-- For how many days, at most so many, a cavern can surely be kept. -/
noncomputable def keeps (s : Site) (c : Nat) (p q : Span) (n : Nat) : Nat :=
  bif decide (p.lo < (s.cavs.el c).gate.lo) || decide (p.hi > (s.cavs.el c).gate.hi) then 0 else keepFrom s c p q n 0 (start (s.cavs.el c))
theorem l75x1 (s : Site) (c : Nat) (p q : Span) (n : Int) (hS : SiteF s) (hc : c < s.cavs.len) (x : Stt) (hx : SttOk x) (hF : 67108864 < F) (m0 k : Nat) (hk : k < 100) (R : Nat)
    (hO : L75x0 (E F (d + 6)) F s (c : Int) p q n m0 ((k + 1 : Nat) : Int) .i64 x.rad.lo .i64 x.rad.hi .i64 x.vol.lo .i64 x.vol.hi .i64 x.lost.lo .i64 x.lost.hi = some (.ret (.int .i64 (R : Int)))) : ∀ r j fu, s.cavs.len = j + r → r < fu →
    L75x1 (E F (d + 6)) F s (c : Int) p q n m0 fu (k : Int) (j : Int) .i64 x.rad.lo .i64 x.rad.hi .i64 x.vol.lo .i64 x.vol.hi .i64 x.lost.lo .i64 x.lost.hi = some (.ret (.int .i64 ((bif anyF (nearB s c x) r j then k else R : Nat) : Int))) := by
  have h5 := hS.cavs5
  intro r
  induction r with
  | zero =>
    intro j fu h hf
    obtain ⟨fu, rfl⟩ : ∃ k, fu = k + 1 := ⟨fu - 1, by omega⟩
    rw [L75x1s]
    simp only [Int.ofNat_lt, show ¬ j < s.cavs.len by omega, decide_false, cond_false, anyF, wrS (show k < 4611686018427387904 by omega)]
    exact hO
  | succ r ih =>
    intro j fu h hf
    obtain ⟨fu, rfl⟩ : ∃ k, fu = k + 1 := ⟨fu - 1, by omega⟩
    rw [L75x1s]
    have a2 := (hS.cav j (by omega)).2.1
    have p1 := (hS.cav c hc).1
    have p2 := (hS.cav j (by omega)).1
    simp only [Int.ofNat_lt, show j < s.cavs.len by omega, decide_true, cond_true, Int.natCast_nonneg, Int.toNat_natCast, bneN, anyF, s73 F (d + 2) s c j x.rad.hi (s.cavs.el j).rad.hi hc (by omega) p1 p2 (by omega) (by omega) hF, tkOut_ret, tkInt_i, wrS (show j < 4611686018427387904 by omega), ih (j + 1) fu (by omega) (by omega), nearB]
    by_cases hjc : j = c
    · simp only [decide_eq_true hjc, Bool.not_true, cond_false, Bool.false_and, Bool.false_or]
    · simp only [decide_eq_false hjc, Bool.not_false, cond_true, Bool.true_and]
      cases decide (distI (s.cavs.el c) (s.cavs.el j) - x.rad.hi - (s.cavs.el j).rad.hi < s.wall) <;> simp only [cond_true, cond_false, Bool.true_or, Bool.false_or]
theorem l75x0 (s : Site) (c : Nat) (p q : Span) (N : Nat) (hN : N ≤ 60) (hS : SiteF s) (hc : c < s.cavs.len) (hp : SpanIn p 0 50000) (hq : SpanIn q 0 10000) (hF : 67108864 < F) : ∀ r k fu x, N = k + r → r < fu → SttOk x →
    L75x0 (E F (d + 6)) F s (c : Int) p q (N : Int) fu (k : Int) .i64 x.rad.lo .i64 x.rad.hi .i64 x.vol.lo .i64 x.vol.hi .i64 x.lost.lo .i64 x.lost.hi = some (.ret (.int .i64 ((keepFrom s c p q r k x : Nat) : Int))) := by
  have h5 := hS.cavs5
  intro r
  induction r with
  | zero =>
    intro k fu x h hf hx
    obtain ⟨fu, rfl⟩ : ∃ k, fu = k + 1 := ⟨fu - 1, by omega⟩
    rw [L75x0s]
    simp only [Int.ofNat_lt, show ¬ k < N by omega, decide_false, cond_false, keepFrom]
  | succ r ih =>
    intro k fu x h hf hx
    obtain ⟨fu, rfl⟩ : ∃ k, fu = k + 1 := ⟨fu - 1, by omega⟩
    rw [L75x0s]
    obtain ⟨g1, g2⟩ := s91 F d s c x p q hS hc hx hp (by omega)
    simp only [Int.ofNat_lt, show k < N by omega, decide_true, cond_true, keepFrom]
    cases hf1 : farB s (s.cavs.el c) p q with
    | true =>
      obtain ⟨m, e⟩ := g2 hf1
      rw [e]
      simp only [tkOut_pan, tkIfc_i, cond_true]
      rfl
    | false =>
      rw [g1 hf1]
      simp only [tkOut_ret, tkAgg_a, tkCons_c, tkInt_i, tkNil_n, decide_true, cond_true, cond_false, Int.toNat_natCast]
      have hm := move1xok hS hx hp.2.1 hq.2.1 hf1
      cases decide ((move1 s (s.cavs.el c) x p q).vol.lo < (s.cavs.el c).floor) with
      | true => simp only [cond_true]
      | false =>
        simp only [cond_false]
        exact l75x1 F d s c p q N hS hc (move1 s (s.cavs.el c) x p q) hm hF fu k (by omega) (keepFrom s c p q r (k + 1) (move1 s (s.cavs.el c) x p q)) (ih (k + 1) fu (move1 s (s.cavs.el c) x p q) (by omega) (by omega) hm) s.cavs.len 0 F (by omega) (by omega)
theorem start_ok {s : Site} (hS : SiteF s) {c : Nat} (hc : c < s.cavs.len) : SttOk (start (s.cavs.el c)) := by
  have := hS.cav c hc
  refine ⟨⟨?_, ?_, ?_⟩, ⟨?_, ?_, ?_⟩, ?_, ?_, ?_⟩ <;> simp only [start] <;> omega
theorem s75 (s : Site) (c : Nat) (p q : Span) (N : Nat) (hN : N ≤ 60) (hS : SiteF s) (hc : c < s.cavs.len) (hp : SpanIn p 0 50000) (hq : SpanIn q 0 10000) (hF : 67108864 < F) :
    E F (d + 7) 75 [pSite s, .int .i64 (c : Int), .agg (eSpan p), .agg (eSpan q), .int .i64 (N : Int)] = some (.ret (.int .i64 ((keeps s c p q N : Nat) : Int))) := by
  rw [E_succ, t75]
  unfold keeps
  simp only [Int.natCast_nonneg, Int.ofNat_lt, hc, decide_true, cond_true, Int.toNat_natCast, s57 F (d + 5) s hS.cavs1 hS.cavs5 (by omega), tkOut_ret, tkRow_r, outL_len]
  cases decide (p.lo < (s.cavs.el c).gate.lo) with
  | true => rfl
  | false =>
    simp only [cond_false, Bool.false_or]
    cases decide (p.hi > (s.cavs.el c).gate.hi) with
    | true => rfl
    | false =>
      simp only [cond_false, beq_self_eq_true, List.take, List.length, cond_true, tkCons_c, tkInt_i, tkNil_n, outL_el (T := fun i => start (s.cavs.el i)) hc]
      exact l75x0 F d s c p q N hN hS hc hp hq hF N 0 F (start (s.cavs.el c)) (by omega) (by omega) (start_ok hS hc)
/-- What 'Longest' answers. -/
theorem s41 (s : Site) (c : Int) (p q : Span) (hs : Small s F) (hF : 67108864 < F) : E F (d + 8) 41 [.agg (eSite s), .int .i64 c, .agg (eSpan p), .agg (eSpan q)] =
    some (.ret (bif siteB s && (decide (0 ≤ c ∧ c < (s.cavs.len : Int)) && (decide (SpanIn p 0 50000) && decide (SpanIn q 0 10000))) then .tup [.int .i64 ((keeps s c.toNat p q 60 : Nat) : Int), .int .i64 0] else .tup [.int .i64 0, .int .i64 2])) := by
  rw [E_succ, t41]
  simp only [s48 F (d + 1) s hs, tkOut_ret, tkBool_b, s72, s74]
  cases h1 : siteB s with
  | false => rfl
  | true =>
    have hS := (siteB_iff s).1 h1
    have h5 := hS.cavs5
    rw [wrLen hS.cavs1 (by omega), inLen hS.cavs1]
    by_cases h2 : 0 ≤ c ∧ c < (s.cavs.len : Int)
    · by_cases h3 : SpanIn p 0 50000
      · by_cases h4 : SpanIn q 0 10000
        · obtain ⟨c, rfl⟩ := Int.eq_ofNat_of_zero_le h2.1
          have e : E F (d + 7) 75 [pSite s, .int .i64 (c : Int), .agg (eSpan p), .agg (eSpan q), .int .i64 60] = _ := s75 F d s c p q 60 (by omega) hS (by omega) h3 h4 hF
          simp only [decide_eq_true h2, decide_eq_true h3, decide_eq_true h4, Bool.not_true, cond_false, cond_true, Bool.and_self, e, tkOut_ret, tkInt_i, Int.toNat_natCast]
        · simp only [decide_eq_true h2, decide_eq_true h3, decide_eq_false h4, Bool.not_true, Bool.not_false, cond_false, cond_true, Bool.and_false]
      · simp only [decide_eq_true h2, decide_eq_false h3, Bool.not_true, Bool.not_false, cond_false, cond_true, Bool.and_false, Bool.false_and]
    · simp only [decide_eq_false h2, Bool.not_true, Bool.not_false, cond_false, cond_true, Bool.and_false, Bool.false_and]
end Go.Sim.Cr

/-
  The examples that each statement looks at.
-/
namespace Go.Sim.Cr
open Go.Proofs
variable (F d : Nat)
/-- A list that is written out. -/
def lst {α : Type} (z : α) (l : List α) : Sl α := ⟨false, l.length, fun i => l.getD (min i (l.length - 1)) z⟩
def gate0 : Span := ⟨6000, 16000⟩
def cavA : Cav := ⟨0, 0, ⟨30000, 31000⟩, ⟨400000, 410000⟩, 20000, 399800, gate0, 3000⟩
def cavZ : Cav := ⟨100, 0, ⟨30000, 30500⟩, ⟨300000, 300000⟩, 20000, 290000, gate0, 3000⟩
def row0 : Row := ⟨0, ⟨0, 10⟩, ⟨0, 0⟩⟩
def heat0 : Heat := ⟨3000, ⟨1000, 1000⟩⟩
def ring0 : Ring := ⟨50, ⟨900, 1000⟩⟩
/-- The site of the examples. -/
def site0 : Site where
  cavs := lst cavA [cavA, cavZ]
  rows := lst row0 [row0, ⟨8000, ⟨20, 50⟩, ⟨0, 5⟩⟩, ⟨14000, ⟨100, 200⟩, ⟨10, 30⟩⟩]
  heats := lst heat0 [heat0, ⟨3200, ⟨1000, 1200⟩⟩]
  wall := 38440
  rings := lst ring0 [ring0, ⟨150, ⟨100, 200⟩⟩]
  houses := ⟨false, 1, fun _ => ⟨40, 0, 1⟩⟩
def day0 : Day := ⟨lst zSpan [⟨10000, 12000⟩, ⟨15000, 15000⟩], lst zSpan [⟨3100, 3100⟩, ⟨3100, 3100⟩]⟩
theorem lst_eq {α : Type} (e : α → List V) (wd : Nat) (z : α) (l : List α) (cs : List V) (n : Nat) (hn : l.length = n + 1) (h : ∀ k, k ≤ n → (cs.drop (k * wd)).take wd = e (l.getD k z)) :
    V.row false (n + 1) wd (fun u => (cs.drop (min u n * wd)).take wd) = sl e wd (lst z l) := by
  show V.row false (n + 1) wd _ = V.row false l.length wd fun i => e (l.getD (min i (l.length - 1)) z)
  rw [hn]
  congr 1
  funext u
  rw [h _ (Nat.min_le_right _ _)]
  rfl
theorem s46 : E F (d + 1) 46 [] = some (.ret (.agg (eSite site0))) := by
  rw [E_succ, t46]
  have e1 := lst_eq eCav 11 cavA [cavA, cavZ] (eCav cavA ++ eCav cavZ) 1 rfl (by intro k hk; match k, hk with | 0, _ => rfl | 1, _ => rfl)
  have e2 := lst_eq eRow 5 row0 [row0, ⟨8000, ⟨20, 50⟩, ⟨0, 5⟩⟩, ⟨14000, ⟨100, 200⟩, ⟨10, 30⟩⟩] (eRow row0 ++ eRow ⟨8000, ⟨20, 50⟩, ⟨0, 5⟩⟩ ++ eRow ⟨14000, ⟨100, 200⟩, ⟨10, 30⟩⟩) 2 rfl (by intro k hk; match k, hk with | 0, _ => rfl | 1, _ => rfl | 2, _ => rfl)
  have e3 := lst_eq eHeat 3 heat0 [heat0, ⟨3200, ⟨1000, 1200⟩⟩] (eHeat heat0 ++ eHeat ⟨3200, ⟨1000, 1200⟩⟩) 1 rfl (by intro k hk; match k, hk with | 0, _ => rfl | 1, _ => rfl)
  have e4 := lst_eq eRing 3 ring0 [ring0, ⟨150, ⟨100, 200⟩⟩] (eRing ring0 ++ eRing ⟨150, ⟨100, 200⟩⟩) 1 rfl (by intro k hk; match k, hk with | 0, _ => rfl | 1, _ => rfl)
  show _ = some (Out.ret (.agg [sl eCav 11 (lst cavA [cavA, cavZ]), sl eRow 5 (lst row0 [row0, ⟨8000, ⟨20, 50⟩, ⟨0, 5⟩⟩, ⟨14000, ⟨100, 200⟩, ⟨10, 30⟩⟩]), sl eHeat 3 (lst heat0 [heat0, ⟨3200, ⟨1000, 1200⟩⟩]), .int .i64 38440, sl eRing 3 (lst ring0 [ring0, ⟨150, ⟨100, 200⟩⟩]), sl eHouse 3 site0.houses]))
  rw [← e1, ← e2, ← e3, ← e4]
  rfl
theorem s47 : E F (d + 1) 47 [] = some (.ret (.agg (eDay day0))) := by
  rw [E_succ, t47]
  have e1 := lst_eq eSpan 2 zSpan [⟨10000, 12000⟩, ⟨15000, 15000⟩] (eSpan ⟨10000, 12000⟩ ++ eSpan ⟨15000, 15000⟩) 1 rfl (by intro k hk; match k, hk with | 0, _ => rfl | 1, _ => rfl)
  have e2 := lst_eq eSpan 2 zSpan [⟨3100, 3100⟩, ⟨3100, 3100⟩] (eSpan ⟨3100, 3100⟩ ++ eSpan ⟨3100, 3100⟩) 1 rfl (by intro k hk; match k, hk with | 0, _ => rfl | 1, _ => rfl)
  show _ = some (Out.ret (.agg [sl eSpan 2 (lst zSpan [⟨10000, 12000⟩, ⟨15000, 15000⟩]), sl eSpan 2 (lst zSpan [⟨3100, 3100⟩, ⟨3100, 3100⟩])]))
  rw [← e1, ← e2]
  rfl
theorem site0xb : siteB site0 = true := by decide +kernel
theorem day0xok : DayOk site0 day0 := by decide +kernel
theorem far0 : farDay site0 day0 = false := by decide +kernel
def m0 : Sl Stt := moved site0 (begin site0) day0
theorem m0xat : SameStt (m0.el 0) ⟨⟨30000, 31030⟩, ⟨399904, 409992⟩, ⟨8, 99⟩⟩ := by decide +kernel
theorem dist0 : distI cavA cavZ = 100000 := by decide +kernel
theorem sunk0 : (sunk site0 m0 40 0).lo = 0 ∧ (sunk site0 m0 40 0).hi = 2 := by decide +kernel
theorem states0 : StatesOk site0 m0 := by decide +kernel
abbrev days0 : Sl Day := ⟨false, 1, fun _ => day0⟩
theorem faults0 : faults site0 days0 = (⟨0, 7, 0, 0⟩, ⟨0, 1, 0, 0⟩) := by kernel_rfl
theorem keeps0 : keeps site0 0 ⟨10000, 12000⟩ ⟨3100, 3100⟩ 60 = 2 := by decide +kernel
theorem small0 (hF : 67108864 < F) : Small site0 F := by
  constructor
  · show 2 < 4611686018427387904; omega
  · show 3 < 4611686018427387904; omega
  · show 2 < 4611686018427387904; omega
  · show 2 < 4611686018427387904; omega
  · show 1 < 4611686018427387904; omega
  · show 2 < F; omega
  · show 3 < F; omega
  · show 2 < F; omega
  · show 2 < F; omega
  · show 1 < F; omega
section
variable {R : Type}
/-! The same laws, not by definition alone (so that the kernel does not look into what is called). -/
theorem pOut (v : V) (f : R) (k kp : V → R) : tkOut (some (.ret v)) f k kp = k v := Eq.trans (Eq.refl _) (Eq.refl _)
theorem pBool (b : Bool) (f : R) (k : Bool → R) : tkBool (.bool b) f k = k b := Eq.trans (Eq.refl _) (Eq.refl _)
theorem pInt (q : IntKind) (n : Int) (f : R) (k : IntKind → Int → R) : tkInt (.int q n) f k = k q n := Eq.trans (Eq.refl _) (Eq.refl _)
theorem pAgg (l : List V) (f : R) (k : List V → R) : tkAgg (.agg l) f k = k l := Eq.trans (Eq.refl _) (Eq.refl _)
theorem pTup (l : List V) (f : R) (k : List V → R) : tkTup (.tup l) f k = k l := Eq.trans (Eq.refl _) (Eq.refl _)
theorem pRow (a : Bool) (n wd : Nat) (g : Nat → List V) (f : R) (k : Bool → Nat → Nat → (Nat → List V) → R) : tkRow (.row a n wd g) f k = k a n wd g := Eq.trans (Eq.refl _) (Eq.refl _)
theorem pCons (v : V) (l : List V) (f : R) (k : V → List V → R) : tkCons (v :: l) f k = k v l := Eq.trans (Eq.refl _) (Eq.refl _)
theorem pNil (f k : R) : tkNil [] f k = k := Eq.trans (Eq.refl _) (Eq.refl _)
theorem pIfc (t : TypeId) (v : V) (f : R) (k : TypeId → V → R) : tkIfc (.iface t v) f k = k t v := Eq.trans (Eq.refl _) (Eq.refl _)
theorem pT {α : Type} (a b : α) : (bif true then a else b) = a := Eq.trans (Eq.refl _) (Eq.refl _)
theorem pF {α : Type} (a b : α) : (bif false then a else b) = b := Eq.trans (Eq.refl _) (Eq.refl _)
end
section
variable (hF : 67108864 < F)
include hF
theorem x24 : E F (d + 7) 24 [.agg (eSite site0)] = some (.ret (.tup [sl eStt 6 (begin site0), .int .i64 0])) := by
  have e24 := s24 F d site0 (small0 F hF) (by omega)
  rwa [site0xb, cond_true] at e24
theorem hB0 : (begin site0).len < Big := by show 2 < 4611686018427387904; omega
theorem pB0 : day0.press.len < Big := by show 2 < 4611686018427387904; omega
theorem wB0 : day0.warm.len < Big := by show 2 < 4611686018427387904; omega
theorem hF0 : (begin site0).len < F := by show 2 < F; omega
theorem pF0 : day0.press.len < F := by show 2 < F; omega
theorem wF0 : day0.warm.len < F := by show 2 < F; omega
theorem x14 : E F (d + 8) 14 [.agg (eSite site0), sl eStt 6 (begin site0), .agg (eDay day0)] = some (.ret (.tup [sl eStt 6 m0, .int .i64 0])) := by
  have hstart : StatesOk site0 (begin site0) := begin_ok ((siteB_iff _).1 site0xb)
  have e14 := s14 F d site0 (begin site0) day0 (small0 F hF) (hB0 F hF) (hF0 F hF) (pB0 F hF) (wB0 F hF) (pF0 F hF) (wF0 F hF) (by omega)
  rw [site0xb, decide_eq_true hstart, decide_eq_true day0xok, far0] at e14
  exact e14
theorem x37 : E F (d + 7) 37 [.agg (eSite site0), .int .i64 0, .int .i64 1] = some (.ret (.tup [.agg [.int .i64 38500, .int .i64 40000], .int .i64 0])) := by
  have h1 : (decide ((0 : Int) ≤ 0 ∧ (0 : Int) < (site0.cavs.len : Int)) && (decide ((0 : Int) ≤ 1 ∧ (1 : Int) < (site0.cavs.len : Int)) && !decide ((0 : Int) = 1))) = true := by decide
  have e37 := s37 F d site0 0 1 (small0 F hF) hF
  rw [site0xb, h1] at e37
  refine e37.trans ?_
  have h2 : thickOf site0 (0 : Int).toNat (1 : Int).toNat (site0.cavs.el (0 : Int).toNat).rad (site0.cavs.el (1 : Int).toNat).rad = [.int .i64 (distI cavA cavZ - 31000 - 30500), .int .i64 (distI cavA cavZ - 30000 - 30000)] := rfl
  rw [h2, dist0]
  rfl
theorem x15 : ∃ p : Span, (p.lo = 0 ∧ p.hi = 2) ∧ E F (d + 7) 15 [.agg (eSite site0), sl eStt 6 m0, .int .i64 40, .int .i64 0] = some (.ret (.tup [.agg (eSpan p), .int .i64 0])) := by
  have hp : decide (Place 40 0) = true := by decide
  have e15 := s15 F d site0 m0 40 0 (small0 F hF) (show (begin site0).len < Big from hB0 F hF) (show (begin site0).len < F from hF0 F hF) (by omega)
  rw [site0xb, decide_eq_true states0, hp] at e15
  exact ⟨sunk site0 m0 40 0, sunk0, e15⟩
theorem x30 : E F (d + 10) 30 [.agg (eSite site0), sl eDay 2 days0] = some (.ret (.tup [.agg (eFault ⟨0, 7, 0, 0⟩), .agg (eFault ⟨0, 1, 0, 0⟩), .int .i64 0])) := by
  have h1 : decide (60 < days0.len) = false := by decide
  have h2 : DaysOk site0 days0 := fun _ _ => day0xok
  have e30 := s30 F d site0 days0 (small0 F hF) (by intro i _; exact ⟨by show 2 ≤ 10; omega, by show 2 ≤ 10; omega⟩) (by show 1 < 4611686018427387904; omega) (by show 1 < F; omega) hF
  rw [h1, site0xb, decide_eq_true h2, faults0] at e30
  exact e30
theorem x41 : E F (d + 8) 41 [.agg (eSite site0), .int .i64 0, .agg [.int .i64 10000, .int .i64 12000], .agg [.int .i64 3100, .int .i64 3100]] = some (.ret (.tup [.int .i64 2, .int .i64 0])) := by
  have h1 : (decide ((0 : Int) ≤ 0 ∧ (0 : Int) < (site0.cavs.len : Int)) && (decide (SpanIn ⟨10000, 12000⟩ 0 50000) && decide (SpanIn ⟨3100, 3100⟩ 0 10000))) = true := by decide
  have e41 := s41 F d site0 0 ⟨10000, 12000⟩ ⟨3100, 3100⟩ (small0 F hF) hF
  rw [site0xb, h1, show (0 : Int).toNat = 0 from rfl, keeps0] at e41
  exact e41
set_option maxRecDepth 100000 in
/-- The examples are as they should be. -/
theorem s13 : E F (d + 11) 13 [] = some (.ret (.bool true)) := by
  obtain ⟨u, ⟨u1, u2⟩, e15⟩ := x15 F (d + 3) hF
  have e24 := x24 F (d + 3) hF
  have e14 := x14 F (d + 2) hF
  have e37 := x37 F (d + 3) hF
  have e30 := x30 F d hF
  have e41 := x41 F (d + 2) hF
  obtain ⟨q1, q2, q3, q4, q5, q6⟩ := m0xat
  have hm : m0.len = 2 := rfl
  rw [E_succ, t13]
  generalize hmm : m0 = m at *
  generalize hss : site0 = s at *
  simp only [s46 F (d + 9), s47 F (d + 9), hss, pOut, pAgg, pTup, pCons, pRow, pInt, pNil, e24, e14, e37, e15, e30, e41]
  have b0 : ((0 : Int) != 0) = false := rfl
  have b1 : (((m.len : Nat) : Int) != 2) = false := by rw [hm]; rfl
  have b22 : ((2 : Int) != 2) = false := rfl
  have b6 : (6 == 6) = true := rfl
  have bl : decide ((0 : Int) < ((m.len : Nat) : Int)) = true := by rw [hm]; rfl
  have bt : ((List.take 6 (eStt (m.el 0))).length == 6) = true := rfl
  have ht : List.take 6 (eStt (m.el 0)) = eStt (m.el 0) := rfl
  simp only [decide_true, pT, pF, b0, b1, b22, b6, bl, bt]
  simp only [ht, pCons, pInt, pNil, decide_true, pT, q1, q2, q3, q4, q5, q6, u1, u2]
  rfl
end
end Go.Sim.Cr

/-
  The specification's sites are the program's.
-/
namespace Go.Sim.Cr
open Go.Proofs
variable (F d : Nat)
theorem cNb (a b : Bool) : (bif !a then some (Out.ret (.bool false)) else some (.ret (.bool b))) = some (.ret (.bool (a && b))) := by cases a <;> rfl
theorem predI {i : Nat} (h : i < 4611686018427387904) : IntKind.i64.wrap (((i + 1 : Nat) : Int) - 1) = (i : Int) := by rw [wr (by omega)]; omega
def houseP (s : Site) (i : Nat) : Bool := decide (Place (s.houses.el i).x (s.houses.el i).y) && decide (0 ≤ (s.houses.el i).most ∧ (s.houses.el i).most ≤ 1000000)
def rowP (s : Site) : Nat → Bool
  | 0 => !decide ((s.rows.el 0).deficit > 50000) && (decide (SpanIn (s.rows.el 0).rate 0 100000) && decide (SpanIn (s.rows.el 0).spall 0 1000))
  | j + 1 => !decide ((s.rows.el (j + 1)).deficit > 50000) && (decide (SpanIn (s.rows.el (j + 1)).rate 0 100000) && (decide (SpanIn (s.rows.el (j + 1)).spall 0 1000) &&
      (!decide ((s.rows.el (j + 1)).deficit ≤ (s.rows.el j).deficit) && (decide ((s.rows.el j).rate.lo ≤ (s.rows.el (j + 1)).rate.lo ∧ (s.rows.el j).rate.hi ≤ (s.rows.el (j + 1)).rate.hi) &&
        decide ((s.rows.el j).spall.lo ≤ (s.rows.el (j + 1)).spall.lo ∧ (s.rows.el j).spall.hi ≤ (s.rows.el (j + 1)).spall.hi)))))
def heatP (s : Site) : Nat → Bool
  | 0 => decide (0 ≤ (s.heats.el 0).warmth ∧ (s.heats.el 0).warmth ≤ 10000) && decide (SpanIn (s.heats.el 0).factor 0 10000)
  | j + 1 => decide (0 ≤ (s.heats.el (j + 1)).warmth ∧ (s.heats.el (j + 1)).warmth ≤ 10000) && (decide (SpanIn (s.heats.el (j + 1)).factor 0 10000) &&
      (!decide ((s.heats.el (j + 1)).warmth ≤ (s.heats.el j).warmth) && decide ((s.heats.el j).factor.lo ≤ (s.heats.el (j + 1)).factor.lo ∧ (s.heats.el j).factor.hi ≤ (s.heats.el (j + 1)).factor.hi)))
def ringP (s : Site) : Nat → Bool
  | 0 => decide (0 ≤ (s.rings.el 0).away ∧ (s.rings.el 0).away ≤ 40000) && decide (SpanIn (s.rings.el 0).share 0 1000000)
  | j + 1 => decide (0 ≤ (s.rings.el (j + 1)).away ∧ (s.rings.el (j + 1)).away ≤ 40000) && (decide (SpanIn (s.rings.el (j + 1)).share 0 1000000) && !decide ((s.rings.el (j + 1)).away ≤ (s.rings.el j).away))
theorem l16x5 (s : Site) (hs : Small s F) : ∀ n i fu, s.houses.len = i + n → n < fu → L16x5 (E F (d + 2)) F s fu (i : Int) = some (.ret (.bool (allF (houseP s) true n i))) := by
  have hB := hs.houses
  intro n
  induction n with
  | zero =>
    intro i fu h hf
    obtain ⟨fu, rfl⟩ : ∃ k, fu = k + 1 := ⟨fu - 1, by omega⟩
    rw [L16x5s]
    simp only [Int.ofNat_lt, show ¬ i < s.houses.len by omega, decide_false, cond_false, allF]
  | succ n ih =>
    intro i fu h hf
    obtain ⟨fu, rfl⟩ : ∃ k, fu = k + 1 := ⟨fu - 1, by omega⟩
    rw [L16x5s]
    simp only [Int.ofNat_lt, show i < s.houses.len by omega, decide_true, cond_true, Int.natCast_nonneg, Int.toNat_natCast, s18, s54, tkOut_ret, tkBool_b, wrS (show i < Big by omega), ih (i + 1) fu (by omega) (by omega), cNb, allF, houseP, Bool.and_assoc]
theorem gt0 (j : Nat) : decide (((j + 1 : Nat) : Int) > 0) = true := decide_eq_true (by omega)
theorem l16x4 (s : Site) (hs : Small s F) : ∀ n i fu, s.rings.len = i + n → n < fu → L16x4 (E F (d + 2)) F s fu (i : Int) = some (.ret (.bool (allF (ringP s) (allF (houseP s) true s.houses.len 0) n i))) := by
  have hB := hs.rings
  intro n
  induction n with
  | zero =>
    intro i fu h hf
    obtain ⟨fu, rfl⟩ : ∃ k, fu = k + 1 := ⟨fu - 1, by omega⟩
    rw [L16x4s]
    simp only [Int.ofNat_lt, show ¬ i < s.rings.len by omega, decide_false, cond_false, allF]
    exact l16x5 F d s hs s.houses.len 0 F (by omega) hs.housesF
  | succ n ih =>
    intro i fu h hf
    obtain ⟨fu, rfl⟩ : ∃ k, fu = k + 1 := ⟨fu - 1, by omega⟩
    rw [L16x4s]
    simp only [Int.ofNat_lt, show i < s.rings.len by omega, decide_true, cond_true, Int.natCast_nonneg, Int.toNat_natCast, s54, s43, tkOut_ret, tkBool_b, wrS (show i < Big by omega), ih (i + 1) fu (by omega) (by omega), allF]
    cases i with
    | zero => simp only [Int.natCast_zero, show decide ((0 : Int) > 0) = false from rfl, cond_false, cNb, ringP, Bool.and_assoc]
    | succ j =>
      simp only [gt0, cond_true, wrP j (by omega), Int.natCast_nonneg, Int.ofNat_lt, show j < s.rings.len by omega, decide_true, Int.toNat_natCast, cNand, cNb, Bool.not_not, ringP, Bool.and_assoc]
theorem l16x3 (s : Site) (hs : Small s F) : ∀ n i fu, s.heats.len = i + n → n < fu → L16x3 (E F (d + 2)) F s fu (i : Int) = some (.ret (.bool (allF (heatP s) (allF (ringP s) (allF (houseP s) true s.houses.len 0) s.rings.len 0) n i))) := by
  have hB := hs.heats
  intro n
  induction n with
  | zero =>
    intro i fu h hf
    obtain ⟨fu, rfl⟩ : ∃ k, fu = k + 1 := ⟨fu - 1, by omega⟩
    rw [L16x3s]
    simp only [Int.ofNat_lt, show ¬ i < s.heats.len by omega, decide_false, cond_false, allF]
    exact l16x4 F d s hs s.rings.len 0 F (by omega) hs.ringsF
  | succ n ih =>
    intro i fu h hf
    obtain ⟨fu, rfl⟩ : ∃ k, fu = k + 1 := ⟨fu - 1, by omega⟩
    rw [L16x3s]
    simp only [Int.ofNat_lt, show i < s.heats.len by omega, decide_true, cond_true, Int.natCast_nonneg, Int.toNat_natCast, s54, s43, s55, tkOut_ret, tkBool_b, wrS (show i < Big by omega), ih (i + 1) fu (by omega) (by omega), allF]
    cases i with
    | zero => simp only [Int.natCast_zero, show decide ((0 : Int) > 0) = false from rfl, cond_false, cNb, heatP, Bool.and_assoc]
    | succ j =>
      simp only [gt0, cond_true, wrP j (by omega), Int.natCast_nonneg, Int.ofNat_lt, show j < s.heats.len by omega, decide_true, Int.toNat_natCast, cNand, cNb, Bool.not_not, heatP, Bool.and_assoc]
theorem l16x2 (s : Site) (hs : Small s F) : ∀ n i fu, s.rows.len = i + n → n < fu → L16x2 (E F (d + 2)) F s fu (i : Int) = some (.ret (.bool (allF (rowP s) (allF (heatP s) (allF (ringP s) (allF (houseP s) true s.houses.len 0) s.rings.len 0) s.heats.len 0) n i))) := by
  have hB := hs.rows
  intro n
  induction n with
  | zero =>
    intro i fu h hf
    obtain ⟨fu, rfl⟩ : ∃ k, fu = k + 1 := ⟨fu - 1, by omega⟩
    rw [L16x2s]
    simp only [Int.ofNat_lt, show ¬ i < s.rows.len by omega, decide_false, cond_false, allF]
    exact l16x3 F d s hs s.heats.len 0 F (by omega) hs.heatsF
  | succ n ih =>
    intro i fu h hf
    obtain ⟨fu, rfl⟩ : ∃ k, fu = k + 1 := ⟨fu - 1, by omega⟩
    rw [L16x2s]
    simp only [Int.ofNat_lt, show i < s.rows.len by omega, decide_true, cond_true, Int.natCast_nonneg, Int.toNat_natCast, s54, s43, s55, tkOut_ret, tkBool_b, wrS (show i < Big by omega), ih (i + 1) fu (by omega) (by omega), allF]
    cases i with
    | zero => simp only [Int.natCast_zero, show decide ((0 : Int) > 0) = false from rfl, cond_false, cNand, cNb, Bool.not_not, rowP, Bool.and_assoc]
    | succ j =>
      simp only [gt0, cond_true, wrP j (by omega), Int.natCast_nonneg, Int.ofNat_lt, show j < s.rows.len by omega, decide_true, Int.toNat_natCast, cNand, cNb, Bool.not_not, rowP, Bool.and_assoc]
def sameB (s : Site) (i k : Nat) : Bool := decide ((s.cavs.el k).x = (s.cavs.el i).x) && decide ((s.cavs.el k).y = (s.cavs.el i).y)
theorem l16x1 (s : Site) (hs : Small s F) (m0 i : Nat) (hi : i < s.cavs.len) (R : Bool) (a2 a3 a4 a5 a6 a7 a8 a9 a10 : Int) (hO : L16x0 (E F (d + 2)) F s m0 ((i + 1 : Nat) : Int) = some (.ret (.bool R))) : ∀ n k fu, i = k + n → n < fu →
    L16x1 (E F (d + 2)) F s m0 fu (i : Int) (k : Int) (s.cavs.el i).x (s.cavs.el i).y a2 a3 a4 a5 a6 a7 a8 a9 a10 = some (.ret (.bool (!anyF (sameB s i) n k && R))) := by
  have hB := hs.cavs
  intro n
  induction n with
  | zero =>
    intro k fu h hf
    obtain ⟨fu, rfl⟩ : ∃ k, fu = k + 1 := ⟨fu - 1, by omega⟩
    rw [L16x1s]
    simp only [Int.ofNat_lt, show ¬ k < i by omega, decide_false, cond_false, anyF, wrS (show i < Big by omega), hO, Bool.not_false, Bool.true_and]
  | succ n ih =>
    intro k fu h hf
    obtain ⟨fu, rfl⟩ : ∃ k, fu = k + 1 := ⟨fu - 1, by omega⟩
    rw [L16x1s]
    simp only [Int.ofNat_lt, show k < i by omega, show k < s.cavs.len by omega, decide_true, cond_true, Int.natCast_nonneg, Int.toNat_natCast, anyF, wrS (show k < Big by omega), ih (k + 1) fu (by omega) (by omega), beqI, sameB]
    cases decide ((s.cavs.el k).x = (s.cavs.el i).x) <;> cases decide ((s.cavs.el k).y = (s.cavs.el i).y) <;> rfl
def cavP (s : Site) (i : Nat) : Bool := decide (CavOk (s.cavs.el i)) && !anyF (sameB s i) i 0
def allP (s : Site) : Bool := allF (rowP s) (allF (heatP s) (allF (ringP s) (allF (houseP s) true s.houses.len 0) s.rings.len 0) s.heats.len 0) s.rows.len 0
theorem l16x0 (s : Site) (hs : Small s F) : ∀ n i fu, s.cavs.len = i + n → n < fu → L16x0 (E F (d + 2)) F s fu (i : Int) = some (.ret (.bool (allF (cavP s) (allP s) n i))) := by
  have hB := hs.cavs
  have hC := hs.cavsF
  intro n
  induction n with
  | zero =>
    intro i fu h hf
    obtain ⟨fu, rfl⟩ : ∃ k, fu = k + 1 := ⟨fu - 1, by omega⟩
    rw [L16x0s]
    simp only [Int.ofNat_lt, show ¬ i < s.cavs.len by omega, decide_false, cond_false, allF]
    exact l16x2 F d s hs s.rows.len 0 F (by omega) hs.rowsF
  | succ n ih =>
    intro i fu h hf
    obtain ⟨fu, rfl⟩ : ∃ k, fu = k + 1 := ⟨fu - 1, by omega⟩
    rw [L16x0s]
    have g := fun a2 a3 a4 a5 a6 a7 a8 a9 a10 => l16x1 F d s hs fu i (by omega) (allF (cavP s) (allP s) n (i + 1)) a2 a3 a4 a5 a6 a7 a8 a9 a10 (ih (i + 1) fu (by omega) (by omega)) i 0 F (by omega) (by omega)
    simp only [Int.natCast_zero] at g
    simp only [Int.ofNat_lt, show i < s.cavs.len by omega, decide_true, cond_true, Int.natCast_nonneg, Int.toNat_natCast, s18, s54, s43, tkOut_ret, tkBool_b, g, cNb, allF, cavP, CavOk, Bool.decide_and, Bool.and_assoc]
theorem sp_eq (s : Site) : (decide (1 ≤ (s.cavs.len : Int) ∧ (s.cavs.len : Int) ≤ 5) && (decide (1 ≤ (s.rows.len : Int) ∧ (s.rows.len : Int) ≤ 8) && (decide (1 ≤ (s.heats.len : Int) ∧ (s.heats.len : Int) ≤ 8) && (decide (0 ≤ s.wall ∧ s.wall ≤ 1000000) &&
    (!decide ((s.rings.len : Int) > 8) && (!decide ((s.houses.len : Int) > 5) && (decide ((s.rows.el 0).deficit = 0) && allF (cavP s) (allP s) s.cavs.len 0))))))) = siteB s := by
  apply b2
  rw [siteB_iff]
  simp only [allP, cavP, houseP, Bool.and_eq_true, allF_0, decide_eq_true_iff, Bool.not_eq_true', decide_eq_false_iff_not, and_true]
  constructor
  · rintro ⟨h1, h2, h3, h4, h5, h6, h7, h8, h9, h10, h11, h12⟩
    have rows : ∀ i, i < s.rows.len → 0 ≤ (s.rows.el i).deficit ∧ rowB s i = true := by
      intro i
      induction i with
      | zero =>
        intro hi
        have g := h9 0 hi
        simp only [rowP, rowB, rowStep, Bool.and_eq_true, decide_eq_true_iff, Bool.not_eq_true', decide_eq_false_iff_not] at g ⊢
        exact ⟨by omega, by omega, g.2.1, g.2.2, h7⟩
      | succ j ih =>
        intro hi
        have g := h9 (j + 1) hi
        have g0 := (ih (by omega)).1
        simp only [rowP, rowB, rowStep, Bool.and_eq_true, decide_eq_true_iff, Bool.not_eq_true', decide_eq_false_iff_not] at g ⊢
        exact ⟨by omega, by omega, g.2.1, g.2.2.1, by omega, g.2.2.2.2.1, g.2.2.2.2.2⟩
    refine ⟨by omega, by omega, fun i hi => (h8 i hi).1, ?_, h4, by omega, fun i hi => h12 i hi, fun i hi => (rows i hi).2, ?_, ?_, by omega, by omega, by omega, by omega, by omega⟩
    · intro i k hi hk he
      have := (h8 i hi).2
      have ha : anyF (sameB s i) i 0 = true := (anyF_eq _ _ _).2 ⟨k, Nat.zero_le _, by omega, by simp only [sameB, Bool.and_eq_true, decide_eq_true_iff]; exact he⟩
      rw [ha] at this; cases this
    · intro i hi
      have g := h10 i hi
      cases i with
      | zero => simp only [heatP, heatB, heatStep, Bool.and_eq_true, decide_eq_true_iff] at g ⊢; exact ⟨g.1, g.2, trivial⟩
      | succ j =>
        simp only [heatP, heatB, heatStep, Bool.and_eq_true, decide_eq_true_iff, Bool.not_eq_true', decide_eq_false_iff_not] at g ⊢
        exact ⟨g.1, g.2.1, by omega, g.2.2.2⟩
    · intro i hi
      have g := h11 i hi
      cases i with
      | zero => simp only [ringP, ringB, ringStep, Bool.and_eq_true, decide_eq_true_iff] at g ⊢; exact ⟨g.1, g.2, trivial⟩
      | succ j =>
        simp only [ringP, ringB, ringStep, Bool.and_eq_true, decide_eq_true_iff, Bool.not_eq_true', decide_eq_false_iff_not] at g ⊢
        exact ⟨g.1, g.2.1, by omega⟩
  · intro h
    have g0 : (s.rows.el 0).deficit = 0 := by
      have := h.row 0 h.rows1
      simp only [rowB, rowStep, Bool.and_eq_true, decide_eq_true_iff] at this
      exact this.2.2.2
    have a1 := h.cavs1
    have a2 := h.cavs5
    have a3 := h.rows1
    have a4 := h.rows8
    have a5 := h.heats1
    have a6 := h.heats8
    have a7 := h.rings8
    have a8 := h.houses5
    refine ⟨by omega, by omega, by omega, h.wall, by omega, by omega, g0, fun i hi => ⟨h.cav i hi, ?_⟩, fun i hi => ?_, fun i hi => ?_, fun i hi => ?_, fun i hi => h.house i hi⟩
    · cases ha : anyF (sameB s i) i 0 with
      | false => rfl
      | true =>
        obtain ⟨k, _, hk, e⟩ := (anyF_eq _ _ _).1 ha
        simp only [sameB, Bool.and_eq_true, decide_eq_true_iff] at e
        exact (h.apart i k hi (by omega) e).elim
    · have g := h.row i hi
      cases i with
      | zero =>
        simp only [rowP, rowB, rowStep, Bool.and_eq_true, decide_eq_true_iff, Bool.not_eq_true', decide_eq_false_iff_not] at g ⊢
        exact ⟨by omega, g.2.1, g.2.2.1⟩
      | succ j =>
        simp only [rowP, rowB, rowStep, Bool.and_eq_true, decide_eq_true_iff, Bool.not_eq_true', decide_eq_false_iff_not] at g ⊢
        exact ⟨by omega, g.2.1, g.2.2.1, by omega, g.2.2.2.2.1, g.2.2.2.2.2⟩
    · have g := h.heat i hi
      cases i with
      | zero => simp only [heatP, heatB, heatStep, Bool.and_eq_true, decide_eq_true_iff] at g ⊢; exact ⟨g.1, g.2.1⟩
      | succ j =>
        simp only [heatP, heatB, heatStep, Bool.and_eq_true, decide_eq_true_iff, Bool.not_eq_true', decide_eq_false_iff_not] at g ⊢
        exact ⟨g.1, g.2.1, by omega, g.2.2.2⟩
    · have g := h.ring i hi
      cases i with
      | zero => simp only [ringP, ringB, ringStep, Bool.and_eq_true, decide_eq_true_iff] at g ⊢; exact ⟨g.1, g.2.1⟩
      | succ j =>
        simp only [ringP, ringB, ringStep, Bool.and_eq_true, decide_eq_true_iff, Bool.not_eq_true', decide_eq_false_iff_not] at g ⊢
        exact ⟨g.1, g.2.1, by omega⟩
/-- The specification's sites are the program's. -/
theorem s16 (s : Site) (hs : Small s F) : E F (d + 3) 16 [.agg (eSite s)] = some (.ret (.bool (siteB s))) := by
  have hC := hs.cavsF
  rw [E_succ, t16, ← sp_eq]
  simp only [s54, tkOut_ret, tkBool_b]
  cases h1 : decide (1 ≤ (s.cavs.len : Int) ∧ (s.cavs.len : Int) ≤ 5) <;> simp only [Bool.not_false, Bool.not_true, cond_true, cond_false, Bool.false_and, Bool.true_and]
  cases h2 : decide (1 ≤ (s.rows.len : Int) ∧ (s.rows.len : Int) ≤ 8) <;> simp only [Bool.not_false, Bool.not_true, cond_true, cond_false, Bool.false_and, Bool.true_and]
  have hr : 0 < s.rows.len := by have := of_decide_eq_true h2; omega
  simp only [zlt hr, cond_true, show L16x0 (E F (d + 2)) F s F 0 = _ from l16x0 F d s hs s.cavs.len 0 F (by omega) hs.cavsF, bne, beqI, cNb, cNand, Bool.not_not]
end Go.Sim.Cr

/-
  CreepMoves: the law answers true.
-/
namespace Go.Sim.Cr
open Go.Proofs
variable (F d : Nat)
abbrev ShortS (s : Site) : Prop := s.cavs.len ≤ 10 ∧ s.rows.len ≤ 12 ∧ s.heats.len ≤ 12 ∧ s.rings.len ≤ 12 ∧ s.houses.len ≤ 10
theorem small_of {s : Site} (h : ShortS s) (hF : 67108864 < F) : Small s F := by
  constructor
  · show s.cavs.len < 4611686018427387904; omega
  · show s.rows.len < 4611686018427387904; omega
  · show s.heats.len < 4611686018427387904; omega
  · show s.rings.len < 4611686018427387904; omega
  · show s.houses.len < 4611686018427387904; omega
  all_goals omega
theorem sameStt_refl (l : Sl Stt) : decide (l.len = l.len ∧ ∀ i, i < l.len → SameStt (l.el i) (l.el i)) = true := decide_eq_true ⟨rfl, fun _ _ => ⟨rfl, rfl, rfl, rfl, rfl, rfl⟩⟩
theorem z00 : ((0 : Int) == 0) = true := rfl
theorem z22 : ((2 : Int) == 2) = true := rfl
theorem z77 : ((7 : Int) == 7) = true := rfl
theorem z0 : (((0 : Nat) : Int) == 0) = true := rfl
theorem eqS2 (a b : Int) : ((a == a) && ((b == b) && true)) = true := by simp
set_option maxRecDepth 100000 in
theorem s3 (s : Site) (l : Sl Stt) (y : Day) (x z : Int) (hF : 2147483648 < F) : E F (d + 12) 3 [.agg (eSite s), sl eStt 6 l, .agg (eDay y), .int .i64 x, .int .i64 z] = some (.ret (.bool true)) := by
  have k := s13 F d (by omega)
  rw [E_succ, t3]
  simp only [s11 F (d + 10), pOut, pBool]
  by_cases h0 : ShortS s
  · have hs := small_of F h0 (by omega)
    by_cases h1 : l.len ≤ 10
    · have e12 : E F (d + 11) 12 [.row false 1 2 (fun _ => [sl eSpan 2 y.press, sl eSpan 2 y.warm]), .int .i64 1] = _ := s12 F (d + 10) ⟨false, 1, fun _ => y⟩ 1 (by show 1 < 4611686018427387904; omega) (by show 1 < F; omega)
      simp only [decide_eq_true h0, Bool.not_true, pF, decide_eq_false (show ¬ (l.len : Int) > 10 by omega), e12, pOut, pBool]
      by_cases h2 : Few ⟨false, 1, fun _ => y⟩ 1
      · have hd := h2.1 0 (by show 0 < 1; omega)
        have p1 : y.press.len ≤ 10 := hd.1
        have p2 : y.warm.len ≤ 10 := hd.2
        have hB : l.len < Big := by show l.len < 4611686018427387904; omega
        have hp : y.press.len < Big := by show y.press.len < 4611686018427387904; omega
        have hw : y.warm.len < Big := by show y.warm.len < 4611686018427387904; omega
        have e14 := s14 F (d + 3) s l y hs hB (by omega) hp hw (by omega) (by omega) (by omega)
        have e15 := s15 F (d + 4) s l x z hs hB (by omega) (by omega)
        have e16 := s16 F (d + 8) s hs
        have e17 := s17 F (d + 9) s l hB (by omega)
        have e18 := s18 F (d + 9) x z
        simp only [decide_eq_true h2, Bool.not_true, pF, e14, e15, e16, e17, e18, pOut, pBool]
        cases h3 : siteB s with
        | false => simp only [Bool.false_and, pF, Bool.not_false, pT, pTup, pCons, pRow, pInt, pNil, pAgg, pOut, decide_true, z22, z0, z00, Bool.and_self, k, pBool]
        | true =>
          have hS := (siteB_iff s).1 h3
          have h5 := hS.cavs5
          by_cases h4 : StatesOk s l
          · have e20 := s20 F (d + 9) s y hs.cavs hs.cavsF
            by_cases h6 : Place x z
            · have e19 := s19 F (d + 9) s l x z hS h4 h6 (by omega)
              by_cases h7 : DayOk s y
              · have e21 := s21 F (d + 7) s l y hS h4 h7 (by omega)
                have e22 := s22 F (d + 10) (moved s l y) (moved s l y) hB (show l.len < F by omega)
                rw [sameStt_refl] at e22
                cases h8 : farDay s y with
                | true =>
                  simp only [moveR, h8, pT] at e21
                  simp only [decide_eq_true h4, decide_eq_true h6, decide_eq_true h7, Bool.and_self, pT, pF, Bool.not_true, Bool.not_false, pTup, pCons, pRow, pInt, pNil, pAgg, pOut, pBool, decide_true, z77, z22, z0, z00, bne, e19, e20, e21, eqS2, k]
                | false =>
                  simp only [moveR, h8, pF] at e21
                  simp only [decide_eq_true h4, decide_eq_true h6, decide_eq_true h7, Bool.and_self, pT, pF, Bool.not_true, Bool.not_false, pTup, pCons, pRow, pInt, pNil, pAgg, pOut, pBool, decide_true, z77, z22, z0, z00, bne, e19, e20, e21, e22, eqS2, k]
              · simp only [decide_eq_true h4, decide_eq_true h6, decide_eq_false h7, Bool.and_self, Bool.and_false, pT, pF, Bool.not_true, Bool.not_false, pTup, pCons, pRow, pInt, pNil, pAgg, pOut, pBool, decide_true, z77, z22, z0, z00, bne, e19, e20, eqS2, k]
            · by_cases h7 : DayOk s y
              · have e21 := s21 F (d + 7) s l y hS h4 h7 (by omega)
                have e22 := s22 F (d + 10) (moved s l y) (moved s l y) hB (show l.len < F by omega)
                rw [sameStt_refl] at e22
                cases h8 : farDay s y with
                | true =>
                  simp only [moveR, h8, pT] at e21
                  simp only [decide_eq_true h4, decide_eq_false h6, decide_eq_true h7, Bool.and_self, Bool.and_false, pT, pF, Bool.not_true, Bool.not_false, pTup, pCons, pRow, pInt, pNil, pAgg, pOut, pBool, decide_true, z77, z22, z0, z00, bne, e20, e21, eqS2, k]
                | false =>
                  simp only [moveR, h8, pF] at e21
                  simp only [decide_eq_true h4, decide_eq_false h6, decide_eq_true h7, Bool.and_self, Bool.and_false, pT, pF, Bool.not_true, Bool.not_false, pTup, pCons, pRow, pInt, pNil, pAgg, pOut, pBool, decide_true, z77, z22, z0, z00, bne, e20, e21, e22, eqS2, k]
              · simp only [decide_eq_true h4, decide_eq_false h6, decide_eq_false h7, Bool.and_self, Bool.and_false, pT, pF, Bool.not_true, Bool.not_false, pTup, pCons, pRow, pInt, pNil, pAgg, pOut, pBool, decide_true, z77, z22, z0, z00, bne, e20, eqS2, k]
          · simp only [decide_eq_false h4, Bool.false_and, Bool.and_false, Bool.true_and, pF, pT, Bool.not_true, Bool.not_false, pTup, pCons, pRow, pInt, pNil, pAgg, pOut, decide_true, z22, z0, z00, Bool.and_self, k, pBool]
      · simp only [decide_eq_false h2, Bool.not_false, pT, k, pOut, pBool]
    · simp only [decide_eq_true h0, Bool.not_true, pF, decide_eq_true (show (l.len : Int) > 10 by omega), pT, k, pOut, pBool]
  · simp only [decide_eq_false h0, Bool.not_false, pT, k, pOut, pBool]
end Go.Sim.Cr

/-
  What comes in, as this program's plain data.
-/
namespace Go.Sim.Cr
open Go.Proofs
theorem fitInt {k : IntKind} {c : V} (h : Fit (.int k) c) : ∃ n, c = .int k n ∧ k.min ≤ n ∧ n ≤ k.max := by
  cases h with
  | int h => exact ⟨_, rfl, h⟩
theorem fitL_nil {cs : List V} (h : FitL [] cs) : cs = [] := by
  have := h.1
  exact List.eq_nil_of_length_eq_zero this
theorem fitL_cons {s : Sh} {l : List Sh} {cs : List V} (h : FitL (s :: l) cs) : ∃ c cs', cs = c :: cs' ∧ Fit s c ∧ FitL l cs' := by
  obtain ⟨h1, h2⟩ := h
  cases cs with
  | nil => simp at h1
  | cons c cs' => exact ⟨c, cs', rfl, h2 0 s c rfl rfl, by simpa using h1, fun j s' c' g1 g2 => h2 (j + 1) s' c' (by simpa using g1) (by simpa using g2)⟩
theorem fitL_int {k : IntKind} {l : List Sh} {cs : List V} (h : FitL (.int k :: l) cs) : ∃ n cs', cs = .int k n :: cs' ∧ FitL l cs' := by
  obtain ⟨c, cs', rfl, h1, h2⟩ := fitL_cons h
  obtain ⟨n, rfl, _⟩ := fitInt h1
  exact ⟨n, cs', rfl, h2⟩
theorem fitRow {α : Type} {e : α → List V} {l : List Sh} (dec : ∀ cs, FitL l cs → ∃ a : α, cs = e a) {c : V} (h : Fit (.row l) c) : ∃ s : Sl α, c = sl e l.length s ∧ s.len ≤ 140737488355328 ∧ (s.nl = true → s.len = 0) := by
  cases h with
  | row h hn hl hf =>
    rename_i nl len get
    have hx : ∀ i, ∃ a : α, get i = e a := fun i => dec _ ⟨hl i, hf i⟩
    refine ⟨⟨nl, len, fun i => (hx i).choose⟩, ?_, h, hn⟩
    show V.row nl len l.length get = V.row nl len l.length fun i => e (hx i).choose
    congr 1
    funext i
    exact (hx i).choose_spec
theorem fitL_row {α : Type} {e : α → List V} {l r : List Sh} (dec : ∀ cs, FitL l cs → ∃ a : α, cs = e a) {cs : List V} (h : FitL (.row l :: r) cs) : ∃ (s : Sl α) (cs' : List V), cs = sl e l.length s :: cs' ∧ s.len ≤ 140737488355328 ∧ (s.nl = true → s.len = 0) ∧ FitL r cs' := by
  obtain ⟨c, cs', rfl, h1, h2⟩ := fitL_cons h
  obtain ⟨s, rfl, h3, h4⟩ := fitRow dec h1
  exact ⟨s, cs', rfl, h3, h4, h2⟩
abbrev i8 : Sh := .int .i64
abbrev shSpan : List Sh := [i8, i8]
abbrev shCav : List Sh := [i8, i8, i8, i8, i8, i8, i8, i8, i8, i8, i8]
abbrev shRow : List Sh := [i8, i8, i8, i8, i8]
abbrev shTri : List Sh := [i8, i8, i8]
abbrev shStt : List Sh := [i8, i8, i8, i8, i8, i8]
abbrev shSite : List Sh := [.row shCav, .row shRow, .row shTri, i8, .row shTri, .row shTri]
abbrev shDay : List Sh := [.row shSpan, .row shSpan]
theorem decInt (cs : List V) (h : FitL [i8] cs) : ∃ n : Int, cs = eInt n := by
  obtain ⟨a, _, rfl, h1⟩ := fitL_int h
  obtain rfl := fitL_nil h1
  exact ⟨a, rfl⟩
theorem decSpan (cs : List V) (h : FitL shSpan cs) : ∃ p : Span, cs = eSpan p := by
  obtain ⟨a, _, rfl, h1⟩ := fitL_int h
  obtain ⟨b, _, rfl, h2⟩ := fitL_int h1
  obtain rfl := fitL_nil h2
  exact ⟨⟨a, b⟩, rfl⟩
theorem decCav (cs : List V) (h : FitL shCav cs) : ∃ c : Cav, cs = eCav c := by
  obtain ⟨a0, _, rfl, h1⟩ := fitL_int h
  obtain ⟨a1, _, rfl, h2⟩ := fitL_int h1
  obtain ⟨a2, _, rfl, h3⟩ := fitL_int h2
  obtain ⟨a3, _, rfl, h4⟩ := fitL_int h3
  obtain ⟨a4, _, rfl, h5⟩ := fitL_int h4
  obtain ⟨a5, _, rfl, h6⟩ := fitL_int h5
  obtain ⟨a6, _, rfl, h7⟩ := fitL_int h6
  obtain ⟨a7, _, rfl, h8⟩ := fitL_int h7
  obtain ⟨a8, _, rfl, h9⟩ := fitL_int h8
  obtain ⟨a9, _, rfl, h10⟩ := fitL_int h9
  obtain ⟨a10, _, rfl, h11⟩ := fitL_int h10
  obtain rfl := fitL_nil h11
  exact ⟨⟨a0, a1, ⟨a2, a3⟩, ⟨a4, a5⟩, a6, a7, ⟨a8, a9⟩, a10⟩, rfl⟩
theorem decRow (cs : List V) (h : FitL shRow cs) : ∃ c : Row, cs = eRow c := by
  obtain ⟨a0, _, rfl, h1⟩ := fitL_int h
  obtain ⟨a1, _, rfl, h2⟩ := fitL_int h1
  obtain ⟨a2, _, rfl, h3⟩ := fitL_int h2
  obtain ⟨a3, _, rfl, h4⟩ := fitL_int h3
  obtain ⟨a4, _, rfl, h5⟩ := fitL_int h4
  obtain rfl := fitL_nil h5
  exact ⟨⟨a0, ⟨a1, a2⟩, ⟨a3, a4⟩⟩, rfl⟩
theorem decTri (cs : List V) (h : FitL shTri cs) : ∃ a b c : Int, cs = [i64 a, i64 b, i64 c] := by
  obtain ⟨a0, _, rfl, h1⟩ := fitL_int h
  obtain ⟨a1, _, rfl, h2⟩ := fitL_int h1
  obtain ⟨a2, _, rfl, h3⟩ := fitL_int h2
  obtain rfl := fitL_nil h3
  exact ⟨a0, a1, a2, rfl⟩
theorem decHeat (cs : List V) (h : FitL shTri cs) : ∃ c : Heat, cs = eHeat c := by
  obtain ⟨a, b, c, rfl⟩ := decTri cs h
  exact ⟨⟨a, ⟨b, c⟩⟩, rfl⟩
theorem decRing (cs : List V) (h : FitL shTri cs) : ∃ c : Ring, cs = eRing c := by
  obtain ⟨a, b, c, rfl⟩ := decTri cs h
  exact ⟨⟨a, ⟨b, c⟩⟩, rfl⟩
theorem decHouse (cs : List V) (h : FitL shTri cs) : ∃ c : House, cs = eHouse c := by
  obtain ⟨a, b, c, rfl⟩ := decTri cs h
  exact ⟨⟨a, b, c⟩, rfl⟩
theorem decStt (cs : List V) (h : FitL shStt cs) : ∃ c : Stt, cs = eStt c := by
  obtain ⟨a0, _, rfl, h1⟩ := fitL_int h
  obtain ⟨a1, _, rfl, h2⟩ := fitL_int h1
  obtain ⟨a2, _, rfl, h3⟩ := fitL_int h2
  obtain ⟨a3, _, rfl, h4⟩ := fitL_int h3
  obtain ⟨a4, _, rfl, h5⟩ := fitL_int h4
  obtain ⟨a5, _, rfl, h6⟩ := fitL_int h5
  obtain rfl := fitL_nil h6
  exact ⟨⟨⟨a0, a1⟩, ⟨a2, a3⟩, ⟨a4, a5⟩⟩, rfl⟩
theorem decDay (cs : List V) (h : FitL shDay cs) : ∃ c : Day, cs = eDay c := by
  obtain ⟨p, _, rfl, _, _, h1⟩ := fitL_row decSpan h
  obtain ⟨q, _, rfl, _, _, h2⟩ := fitL_row decSpan h1
  obtain rfl := fitL_nil h2
  exact ⟨⟨p, q⟩, rfl⟩
theorem decSite (cs : List V) (h : FitL shSite cs) : ∃ c : Site, cs = eSite c := by
  obtain ⟨a, _, rfl, _, _, h1⟩ := fitL_row decCav h
  obtain ⟨b, _, rfl, _, _, h2⟩ := fitL_row decRow h1
  obtain ⟨c, _, rfl, _, _, h3⟩ := fitL_row decHeat h2
  obtain ⟨n, _, rfl, h4⟩ := fitL_int h3
  obtain ⟨d, _, rfl, _, _, h5⟩ := fitL_row decRing h4
  obtain ⟨e, _, rfl, _, _, h6⟩ := fitL_row decHouse h5
  obtain rfl := fitL_nil h6
  exact ⟨⟨a, b, c, n, d, e⟩, rfl⟩
theorem laid : laidOutB Try.prog = true := by kernel_rfl
theorem own : ownKnob Try.prog.godebug = none := by kernel_rfl
end Go.Sim.Cr
